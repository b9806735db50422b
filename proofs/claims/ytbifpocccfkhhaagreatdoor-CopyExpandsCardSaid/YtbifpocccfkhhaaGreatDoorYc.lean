/- A part. -/
import Derived.Test.YtbifpocccfkhhaaGreatDoorYb
import Derived.Scope
import Derived.RangeFuncLeaves
import Derived.RangeFuncRecord
set_option linter.all false
noncomputable section
namespace Go.Proofs.YtbifpocccfkhhaaGreatDoor
open Go
structure D where
 o:O'
 w:Bool
 slot:Option Nat
 chk:Bool
 oz:List Nat
 lo:Nat
 hi:Nat
 deriving Inhabited
def O'.tmps(o:O'):List Nat:=o.k.tmps++(match o.g with|some (t,_)=>[t]|none=>[])
def jB(ds:List D):List Nat:=(List.range ds.length).filter λi=>(ds[i]?.map D.w).getD false
def pos(ds:List D)(j:Nat):Nat:=(ds.take j).countP λd=>d.w
def gg(ds:List D)(i:Nat):Option Nat:=ds[i]?.bind λd=>d.o.dst
def xP(ds:List D)(i:Nat):List Nat:=(ds[i]?.map D.oz).getD []
def tU(ds:List D)(i:Nat):Option Nat:=ds[i]?.bind λd=>d.slot
def Yz(ds:List D)(np:List Nat)(j:Nat)(d:D):Bool:=
 (np.all λi=>decide (i<j)) &&
 (d.oz.all λi=>np.contains i||np.any λs=>(xP ds s).contains i) &&
 (d.o.tmps.all λt=>(List.range ds.length).all λi=>!(gg ds i==some t)||(d.oz.contains i&&decide (i<j))||(!d.chk&&decide (j<=i)&&(i==j||(xP ds i).contains j))) &&
 (match d.o.dst with|none=>true|some t=>(List.range ds.length).all λi=>i==j||!(gg ds i==some t)) &&
 ((List.range d.lo).all λp=>match (jB ds)[p]? with|some i=>d.oz.contains i|none=>false) &&
 ((List.range (jB ds).length).all λp=>decide (p<d.hi)||(match (jB ds)[p]? with|some i=>i==j||(xP ds i).contains j|none=>true)) &&
 (if d.w then(jB ds)[pos ds j]?==some j&&d.lo==pos ds j else true) &&
 (match d.slot with
  |some s=>!d.w&&d.chk&&(match d.o.k with|.new _=>true|_=>false)&&(List.range ds.length).all λi=>i==j||!(tU ds i==some s)
  |none=>d.w||!d.o.k.writes) &&
 (d.w||d.chk||(d.lo==pos ds j&&d.hi==pos ds j)||(d.slot.isNone&&!d.o.k.reads))
def PE(P:aG)(base:Nat)(e:ae)(S:St)(d:D)(v:V)(S':St):Prop:=
 (jT e d.o.g=some false/\v=.aV []/\S'=S)\/
 (jT e d.o.g=some true∧((∃s,d.slot=some s∧v=.ptr (base+s) 0 0 1∧S'=S)∨
  (d.slot=none/\((∃f args,d.o.k=.call f args)\/cf e S d.o.k=some (v,S')))))
def ik(P:aG)(base:Nat):List D->(ae->List St->Prop)->ae->St->List St->Prop
 |[],K,e,_,H=>K e H
 |d::ds,K,e,S,H=>match jT e d.o.g with
  |none=>False
  |some false=>ik P base ds K (e.put d.o.dst (.aV [])) S (if d.w then H++[S] else H)
  |some true=>match d.slot with
   |some s=>ik P base ds K (e.put d.o.dst (.ptr (base+s) 0 0 1)) S (if d.w then H++[S] else H)
   |none=>match d.o.k with
    |.call f args=>match f.ev e,mr e args with
     |some (.fn (.func k) fs cs),some vs=>∃R:V->St->Prop,aA P k (fs++vs++cs) S R/\(∃v S',R v S')/\∀v S',R v S'->ik P base ds K (e.put d.o.dst v) S' (if d.w then H++[S'] else H)
     |_,_=>False
    |k=>match cf e S k with
     |some (r,S')=>ik P base ds K (e.put d.o.dst r) S' (if d.w then H++[S'] else H)
     |none=>False
def Tr(P:aG)(base:Nat):List D->ae->St->List St->ae->List St->Prop
 |[],e,_,H,ef,Hf=>ef=e/\Hf=H
 |d::ds,e,S,H,ef,Hf=>∃v S',PE P base e S d v S'/\Tr P base ds (e.put d.o.dst v) S' (if d.w then H++[S'] else H) ef Hf
def P7{P:aG}{k:Nat}{args:List V}{S:St}{Φ:V->St->Prop}{v:V}{S':St}(h:aA P k args S (λr T=>r=v/\T=S'))(g:Φ v S'):∃R:V->St->Prop,aA P k args S R/\(∃v S',R v S')/\∀v S',R v S'->Φ v S':=
 ⟨_,h,⟨v,S',rfl,rfl⟩,λ_ _ hh=>by obtain⟨rfl,rfl⟩:=hh;exact g⟩
def LK{e:ae}{d:Option Nat}{v:V}{t:Nat}:(e.put d v).get t=if d=some t then some v else e.get t:=by
 cases d with
 |none=>simp[ae.put]
 |some d=>simp[ae.put,ae.get]
def Fb{P:aG}{base:Nat}{t:Nat}:∀(ds:List D) (e:ae) (S:St) (H:List St) (ef:ae) (Hf:List St),Tr P base ds e S H ef Hf->(∀d,d∈ds->d.o.dst≠some t)->ef.get t=e.get t
 |[],e,S,H,ef,Hf,h,_=>by rw[h.1]
 |d::ds,e,S,H,ef,Hf,⟨v,S',h1,h2⟩,hd=>by
  rw[Fb ds _ _ _ _ _ h2 λd' eH=>hd d' (by simp[eH]),LK,au (hd d sM)]
def Fe{P:aG}{base:Nat}:∀(ds:List D) (e:ae) (S:St) (H:List St) (ef:ae) (Hf:List St),Tr P base ds e S H ef Hf->∃T,Hf=H++T/\T.length=ds.countP λd=>d.w
 |[],e,S,H,ef,Hf,h=>⟨[],by simp[h.2],rfl⟩
 |d::ds,e,S,H,ef,Hf,⟨v,S',h1,h2⟩=>by
  obtain⟨T,ht,hl⟩:=Fe ds _ _ _ _ _ h2;cases hw:d.w
  .rw[hw]at ht;simp only[mf,if_false]at ht;exact⟨T,ht,by rw[hl];simp[An,hw]⟩
  .rw[hw]at ht;simp only[if_true]at ht;exact⟨S'::T,by rw[ht];simp,by simp[An,hw,hl]⟩
def OO{e e':ae}{o:O'}(h:rN o.tmps e e'):jT e' o.g=jT e o.g:=by
 cases hg:o.g with
 |none=>rfl
 |some p=>
  obtain⟨t,w⟩:=p;simp only[jT];rw[h t (by simp[O'.tmps,hg])]
structure Ok(ds:List D)(np:Nat->List Nat)(j:Nat)(d:D):Prop where
 back:∀i,i∈np j->i<j
 oz:∀i,i∈d.oz->i∈np j\/∃s,s∈np j/\i∈xP ds s
 tmps:∀t,t∈d.o.tmps->∀i,gg ds i=some t->(i∈d.oz/\i<j)\/(d.chk=false/\j<=i/\(i=j\/j∈xP ds i))
 dst:∀t,d.o.dst=some t->∀i,i≠j->gg ds i≠some t
 lo:∀p,p<d.lo->∃i,(jB ds)[p]?=some i/\i∈d.oz
 hi:∀p i,d.hi<=p->(jB ds)[p]?=some i->i=j\/j∈xP ds i
 wr:d.w=true->(jB ds)[pos ds j]?=some j/\d.lo=pos ds j
 slot:∀s,d.slot=some s->d.w=false/\d.chk=true/\(∃z,d.o.k=.new z)/\∀i,i≠j->tU ds i≠some s
 RY:d.slot=none->d.w=true\/d.o.k.writes=false
 qtP:d.w=true\/d.chk=true\/(d.lo=pos ds j/\d.hi=pos ds j)\/(d.slot=none/\d.o.k.reads=false)
def Vt{ds:List D}{i t:Nat}(h:gg ds i=some t):i<ds.length:=by
 unfold gg at h
 cases hd:ds[i]? with
 |none=>rw[hd]at h;cases h
 |some d=>exact(br.1 hd).1
def qkc{ds:List D}{i t:Nat}(h:tU ds i=some t):i<ds.length:=by
 unfold tU at h
 cases hd:ds[i]? with
 |none=>rw[hd]at h;cases h
 |some d=>exact(br.1 hd).1
def qt3{ds:List D}{np:Nat->List Nat}{j:Nat}{d:D}(h:Yz ds (np j) j d=true):Ok ds np j d:=by
 unfold Yz at h;simp only[cT]at h;obtain⟨⟨⟨⟨⟨⟨⟨⟨h1,h2⟩,h3⟩,h4⟩,h5⟩,h6⟩,h7⟩,h8⟩,h9⟩:=h;simp only[fR,dT,E7,CC,List.contains_iff_mem,Am,cT,CB,beq_eq_false_iff_ne,ne_eq]at h1 h2 h3 h5 h6;refine⟨h1,h2,λt ht i hi=>?_,λt ht i hi bZ=>?_,λp hp=>?_,λp i hp hi=>?_,λhw=>?_,λs hs=>?_,λhs=>?_,?_⟩
 .rcases h3 t ht i (Vt hi) with (h|h)|⟨⟨h,h'⟩,h''⟩
  .exact absurd hi h
  .exact .inl h
  .exact .inr ⟨h,h',by simpa using h''⟩
 .rw[ht]at h4;simp only[fR,E7,CC,beq_iff_eq,CB,beq_eq_false_iff_ne,ne_eq]at h4;exact(h4 i (Vt bZ)).elim (λh=>hi h) (λh=>h bZ)
 .have:=h5 p hp;split at this
  .rename_i i hi;exact⟨i,hi,by simpa using this⟩
  .cases this
 .have aB:=(br.1 hi).1;have:=(h6 p aB).resolve_left oM;rw[hi]at this;simpa using this
 .rw[ak hw]at h7;simp only[cT,beq_iff_eq]at h7;exact h7
 .rw[hs]at h8;simp only[cT,fR,E7,CC,beq_iff_eq,CB,beq_eq_false_iff_ne,ne_eq]at h8;obtain⟨⟨⟨a,b⟩,c⟩,e⟩:=h8;refine⟨by simpa using a,b,?_,λi hi bZ=>(e i (qkc bZ)).elim (λh=>hi h) (λh=>h bZ)⟩;split at c
  .rename_i z hz;exact⟨z,hz⟩
  .cases c
 .rw[hs]at h8;simpa using h8
 .simp only[CC,cT,beq_iff_eq]at h9;rcases h9 with ((h9|h9)|h9)|h9
  .exact .inl h9
  .exact .inr (.inl h9)
  .exact .inr (.inr (.inl h9))
  .exact .inr (.inr (.inr (by simpa using h9)))
def qcR{P:aG}{base:Nat}{all:List D}{np:Nat->List Nat}{e0:ae}(ok:∀j d,all[j]?=some d->Ok all np j d):∀(ds:List D) (k:Nat) (e:ae) (S:St) (H:List St) (ef:ae) (Hf:List St),all.drop k=ds->
  H.length=pos all k+1->H[pos all k]?=some S->Tr P base ds e S H ef Hf->(∀t,(∀i,i<k->gg all i≠some t)->e.get t=e0.get t)->∀j d,k<=j->all[j]?=some d->∃T v T' ej,Hf[pos all j]?=some T/\PE P base ej T d v T'/\(∀t,d.o.dst=some t->ef.get t=some v)/\(d.w=true->Hf[pos all j+1]?=some T')/\
   (∀t,t∈d.o.tmps->(∀i,gg all i=some t->i<j)->ej.get t=ef.get t)/\(∀t i,j<=i->gg all i=some t->ej.get t=e0.get t)
 |[],k,e,S,H,ef,Hf,hd,hl,hS,h,AY,j,d,hj,MK=>by
  have:=(br.1 MK).1;have h0:(all.drop k).length=0:=by rw[hd];rfl
  simp at h0;omega
 |d0::ds,k,e,S,H,ef,Hf,hd,hl,hS,⟨v,S',h1,h2⟩,AY,j,d,hj,MK=>by
  have hk:all[k]?=some d0:=by
   have:(all.drop k)[0]?=some d0:=by rw[hd];rfl
   simpa using this
  have bW:all.drop (k+1)=ds:=by
   rw[<-List.drop_drop,hd];rfl
  have hdk:=hd
  have sx:pos all (k+1)=pos all k+if d0.w=true then 1 else 0:=by
   unfold pos;rw[dN,hk];simp[List.countP_append,An]
  have fE:=ok k d0 hk
  have jP:∀d',d'∈ds->∃i,k<i/\all[i]?=some d':=λd' eH=>by
   obtain⟨i,hi⟩:=oY eH;rw[<-bW,qw]at hi;exact⟨k+1+i,oM,hi⟩
  have AU:∀t,t∈d0.o.tmps->(∀i,gg all i=some t->i<k)->e.get t=ef.get t:=λt ht aB=>by
   refine(Fb (P:=P) (base:=base) (t:=t) (d0::ds) e S H ef Hf ⟨v,S',h1,h2⟩ λd' eH j7=>?_).symm
   have:∃i,k<=i/\all[i]?=some d':=by
    rcases dU.1 eH with rfl|eH
    .exact⟨k,dl _,hk⟩
    .obtain⟨i,hi,eI⟩:=jP d' eH;exact⟨i,oM,eI⟩
   obtain⟨i,hi,eI⟩:=this;have:=aB i (by simp[gg,eI,j7]);omega
  have hold:∀t i,k<=i->gg all i=some t->e.get t=e0.get t:=λt i hi qe=>AY t λi' eI WX=>by
   obtain⟨d',eH,j7⟩:∃d',all[i]?=some d'/\d'.o.dst=some t:=by
    unfold gg at qe
    cases hx:all[i]? with
    |none=>rw[hx]at qe;cases qe
    |some d'=>rw[hx]at qe;exact⟨d',rfl,qe⟩
   exact(ok i d' eH).dst t j7 i' oM WX
  have AX:∀t,d0.o.dst=some t->ef.get t=some v:=λt ht=>by
   rw[Fb ds _ _ _ _ _ h2 λd' eH j7=>by
    obtain⟨i,hi,eI⟩:=jP d' eH;exact fE.dst t ht i oM (by simp[gg,eI,j7]),LK,ak ht]
  obtain⟨T0,Dm,_⟩:=Fe ds _ _ _ _ _ h2;rcases xI k j with aB|Dt
  .refine qcR ok ds (k+1) _ S' _ ef Hf bW ?_ ?_ h2 ?_ j d aB MK
   .cases hw:d0.w<;>simp[hw]at sx |-<;>omega
   rotate_left
   .intro t ht;rw[LK,au (λj7=>ht k oM (by simp[gg,hk,j7]))];exact AY t λi hi=>ht i oM
   .cases hw:d0.w
    .simp only[hw,mf,if_false]at sx |-
     have:S'=S:=by
      rcases h1 with ⟨_,_,h⟩|⟨_,h⟩
      .exact h
      .rcases h with ⟨s,_,_,h⟩|⟨hs,h⟩
       .exact h
       .have A6:=(fE.RY hs).resolve_left (by simp[hw]);rcases h with ⟨f,args,iK⟩| h
        .rw[iK]at A6;simp[K.writes]at A6
        .exact Lr A6 h
     rw[this,sx];exact hS
    .simp only[hw,if_true]at sx |-;rw[sx,cx oM,hl];simp
  .have ML:j=k:=oM;subst ML;rw[hk]at MK;cases MK;refine⟨S,v,S',e,?_,h1,AX,λhw=>?_,AU,hold⟩
   .rw[Dm];have:pos all j<H.length:=oM;split
    .rw[dY,dh this];exact hS
    .rw[dh this];exact hS
   .rw[Dm,ak hw,dY,cx oM,hl];simp
structure HG(ds:List D)(e0:ae)(i:Nat)(d:D)(ei ef:ae):Prop where
 f5:∀t,t∈d.o.tmps->(∀s,gg ds s=some t->s<i)->ei.get t=ef.get t
 f6:∀t s,i<=s->gg ds s=some t->ei.get t=e0.get t
def YE(d:D)(q:Nat)(v:V)(S':St)(ef:ae)(Hf:List St):Prop:=(∀t,d.o.dst=some t->ef.get t=some v)/\Hf[q+1]?=some S'
def Det(e:ae)(S:St)(d:D)(v:V)(S':St):Prop:=
 (jT e d.o.g=some false/\v=.aV []/\S'=S)\/(jT e d.o.g=some true/\d.slot=none/\cf e S d.o.k=some (v,S'))
def Ai(P:aG)(ds:List D)(e0:ae):Nat->Nat->(ae->List St->Prop)->Prop
 |0,_,C=>∃ef Hf,C ef Hf
 |m+1,q,C=>(∃ef Hf,C ef Hf)/\∃i d ei T,(jB ds)[q]?=some i/\ds[i]?=some d/\(∀ef Hf,C ef Hf->Hf[q]?=some T/\HG ds e0 i d ei ef)/\
  ((∃v S',Det ei T d v S'∧(∀ef Hf,C ef Hf→YE d q v S' ef Hf)∧Ai P ds e0 m (q+1) C)∨
   (∃f args k fs cs vs,∃R:V→St→Prop,jT ei d.o.g=some true∧d.slot=none∧d.o.k=.call f args∧f.ev ei=some (.fn (.func k) fs cs)∧mr ei args=some vs∧aA P k (fs++vs++cs) T R∧
    ∀v S',R v S'->∃C':ae->List St->Prop,(∀ef Hf,C' ef Hf->C ef Hf/\YE d q v S' ef Hf)/\Ai P ds e0 m (q+1) C'))
def Ai.some{P:aG}{ds:List D}{e0:ae}{m q:Nat}{C:ae->List St->Prop}(h:Ai P ds e0 m q C):∃ef Hf,C ef Hf:=by
 cases m with
 |zero=>exact h
 |succ m=>exact h.1
def quz{all:List D}{k:Nat}{d:D}(hk:all[k]?=some d):pos all (k+1)=pos all k+if d.w=true then 1 else 0:=by
 unfold pos;rw[dN,hk];simp[List.countP_append,An]
section
variable {P:aG} {base:Nat} {all:List D} {np:Nat->List Nat} {e0:ae} (ok:∀j d,all[j]?=some d->Ok all np j d)
include ok
theorem qcQ{d:D}{ds:List D}{k:Nat}{e:ae}{S:St}{H:List St}{ef:ae}{Hf:List St}(hd:all.drop k=d::ds)(h:Tr P base (d::ds) e S H ef Hf)(AY:∀t,(∀i,i<k->gg all i≠some t)->e.get t=e0.get t):HG all e0 k d e ef:=by
 have hk:all[k]?=some d:=by
  have:(all.drop k)[0]?=some d:=by rw[hd];rfl
  simpa using this
 refine⟨λt ht aB=>(Fb (P:=P) (base:=base) (t:=t) (d::ds) e S H ef Hf h λd' eH j7=>?_).symm,λt i hi qe=>AY t λi' eI WX=>?_⟩
 .obtain⟨i,hi⟩:=oY eH;rw[<-hd,qw]at hi;have:=aB (k+i) (by simp[gg,hi,j7]);omega
 .obtain⟨d',eH,j7⟩:∃d',all[i]?=some d'/\d'.o.dst=some t:=by
   unfold gg at qe
   cases hx:all[i]? with
   |none=>rw[hx]at qe;cases qe
   |some d'=>rw[hx]at qe;exact⟨d',rfl,qe⟩
  exact(ok i d' eH).dst t j7 i' oM WX
theorem qcS{d:D}{ds:List D}{k:Nat}{e:ae}{S':St}{v:V}{H:List St}{ef:ae}{Hf:List St}(hd:all.drop k=d::ds)(hl:H.length=pos all k+1)(h:Tr P base ds (e.put d.o.dst v) S' (H++[S']) ef Hf):YE d (pos all k) v S' ef Hf:=by
 have hk:all[k]?=some d:=by
  have:(all.drop k)[0]?=some d:=by rw[hd];rfl
  simpa using this
 have bW:all.drop (k+1)=ds:=by
  rw[<-List.drop_drop,hd];rfl
 constructor
 .intro t ht
  rw[Fb ds _ _ _ _ _ h λd' eH j7=>by
   obtain⟨i,hi⟩:=oY eH;rw[<-bW,qw]at hi;exact(ok k d hk).dst t ht (k+1+i) oM (by simp[gg,hi,j7]),LK,ak ht]
 .obtain⟨T0,Dm,_⟩:=Fe ds _ _ _ _ _ h;rw[Dm,dY,cx oM,hl];simp
theorem Qe{K:ae->List St->Prop}:∀(ds:List D) (k:Nat) (e:ae) (S:St) (H:List St),all.drop k=ds->H.length=pos all k+1->H[pos all k]?=some S->(∀t,(∀i,i<k->gg all i≠some t)->e.get t=e0.get t)->
  ik P base ds K e S H->∃C:ae->List St->Prop,(∀ef Hf,C ef Hf->K ef Hf/\Tr P base ds e S H ef Hf)/\Ai P all e0 (ds.countP λd=>d.w) (pos all k) C
 |[],k,e,S,H,_,_,_,_,h=>⟨λef Hf=>ef=e/\Hf=H,λef Hf hc=>⟨by rw[hc.1,hc.2];exact h,hc⟩,e,H,rfl,rfl⟩
 |d::ds,k,e,S,H,hd,hl,hS,AY,h=>by
  have hk:all[k]?=some d:=by
   have:(all.drop k)[0]?=some d:=by rw[hd];rfl
   simpa using this
  have bW:all.drop (k+1)=ds:=by
   rw[<-List.drop_drop,hd];rfl
  have sx:=quz hk
  have WI:∀v t,(∀i,i<k+1->gg all i≠some t)->(e.put d.o.dst v).get t=e0.get t:=λv t ht=>by
   rw[LK,au (λj7=>ht k oM (by simp[gg,hk,j7]))];exact AY t λi hi=>ht i oM
  have one:∀(v:V) (S':St),PE P base e S d v S'->(d.w=true->Det e S d v S')->(d.w=false->S'=S)->ik P base ds K (e.put d.o.dst v) S' (if d.w then H++[S'] else H)->
    ∃C:ae->List St->Prop,(∀ef Hf,C ef Hf->K ef Hf/\Tr P base (d::ds) e S H ef Hf)/\Ai P all e0 ((d::ds).countP λd=>d.w) (pos all k) C:=by
   intro v S' bg hdt hsm h;cases hw:d.w
   .rw[hw]at h;simp only[mf,if_false]at h;obtain⟨C,h1,h2⟩:=Qe ds (k+1) _ S' H bW (by rw[sx,hw];simpa using hl) (by rw[sx,hw,hsm hw];simpa using hS) (WI v) h;refine⟨C,λef Hf hc=>⟨(h1 ef Hf hc).1,v,S',bg,by rw[hw];exact(h1 ef Hf hc).2⟩,?_⟩;rw[sx,hw]at h2;rw[An,hw];exact h2
   .rw[hw]at h;simp only[if_true]at h;obtain⟨C,h1,h2⟩:=Qe ds (k+1) _ S' (H++[S']) bW (by rw[sx,hw];simp[hl]) (by rw[sx,hw];simp[<-hl]) (WI v) h;refine⟨C,λef Hf hc=>⟨(h1 ef Hf hc).1,v,S',bg,by rw[hw];exact(h1 ef Hf hc).2⟩,?_⟩;rw[sx,hw]at h2;rw[An,hw];refine⟨h2.some,k,d,e,S,(ok k d hk).wr hw |>.1,hk,λef Hf hc=>⟨?_,?_⟩,.inl ⟨v,S',hdt hw,λef Hf hc=>qcS ok hd hl (h1 ef Hf hc).2,h2⟩⟩
    .obtain⟨T0,Dm,_⟩:=Fe ds _ _ _ _ _ (h1 ef Hf hc).2;rw[Dm,dY,dh oM];exact hS
    .exact qcQ ok hd (H:=H) ⟨v,S',bg,by rw[hw];exact(h1 ef Hf hc).2⟩ AY
  simp only[ik]at h;split at h
  .exact h.elim
  .rename_i hw;exact one (.aV []) S (.inl ⟨hw,rfl,rfl⟩) (λ_=>.inl ⟨hw,rfl,rfl⟩) (λ_=>rfl) h
  .rename_i hw;split at h
   .rename_i s hs;exact one _ S (.inr ⟨hw,.inl ⟨s,hs,rfl,rfl⟩⟩) (λwQ=>by rw[((ok k d hk).slot s hs).1]at wQ;cases wQ) (λ_=>rfl) h
   .rename_i hs;split at h
    .rename_i f args MN;have wQ:d.w=true:=((ok k d hk).RY hs).resolve_right (by rw[MN];simp[Go.Proofs.YtbifpocccfkhhaaGreatDoor.K.writes]);split at h<;>try exact h.elim
     rename_i kf fs cs vs hf mC;obtain⟨R,yo,⟨v0,S0',hR0⟩,h⟩:=h;rw[wQ]at h;simp only[if_true]at h
     have CL:∀(v:V) (S':St),R v S'->∃C:ae->List St->Prop,(∀ef Hf,C ef Hf->K ef Hf/\Tr P base ds (e.put d.o.dst v) S' (H++[S']) ef Hf)/\Ai P all e0 (ds.countP λd=>d.w) (pos all k+1) C:=λv S' hR=>by
      rw[<-show pos all (k+1)=pos all k+1 by rw[sx,wQ];rfl];exact Qe ds (k+1) _ S' (H++[S']) bW (by rw[sx,wQ];simp[hl]) (by rw[sx,wQ];simp[<-hl]) (WI v) (h v S' hR)
     have tr:∀(v:V) (S':St) (ef:ae) (Hf:List St),Tr P base ds (e.put d.o.dst v) S' (H++[S']) ef Hf->Tr P base (d::ds) e S H ef Hf:=λv S' ef Hf ht=>
      ⟨v,S',.inr ⟨hw,.inr ⟨hs,.inl ⟨f,args,MN⟩⟩⟩,by rw[wQ];exact ht⟩
     refine⟨λef Hf=>∃(v:V) (S':St) (hR:R v S'),Classical.choose (CL v S' hR) ef Hf,λef Hf ⟨v,S',hR,hc⟩=>?_,?_⟩
     .have:=(Classical.choose_spec (CL v S' hR)).1 ef Hf hc;exact⟨this.1,tr _ _ _ _ this.2⟩
     .rw[An,wQ];refine⟨?_,k,d,e,S,(ok k d hk).wr wQ |>.1,hk,λef Hf ⟨v,S',hR,hc⟩=>⟨?_,?_⟩,.inr ⟨f,args,kf,fs,cs,vs,R,hw,hs,MN,hf,mC,yo,λv S' hR=>⟨Classical.choose (CL v S' hR),λef Hf hc=>⟨⟨v,S',hR,hc⟩,?_⟩,?_⟩⟩⟩
      .obtain⟨ef,Hf,hc⟩:=(Classical.choose_spec (CL v0 S0' hR0)).2.some;exact⟨ef,Hf,v0,S0',hR0,hc⟩
      .have:=(Classical.choose_spec (CL v S' hR)).1 ef Hf hc;obtain⟨T0,Dm,_⟩:=Fe ds _ _ _ _ _ this.2;rw[Dm,dY,dh oM];exact hS
      .have:=(Classical.choose_spec (CL v S' hR)).1 ef Hf hc;exact qcQ ok hd (tr _ _ _ _ this.2) AY
      .exact qcS ok hd hl ((Classical.choose_spec (CL v S' hR)).1 ef Hf hc).2
      .exact(Classical.choose_spec (CL v S' hR)).2
    .split at h<;>try exact h.elim
     rename_i r S' lE;refine one r S' (.inr ⟨hw,.inr ⟨hs,.inr lE⟩⟩) (λ_=>.inr ⟨hw,hs,lE⟩) (λwQ=>?_) h;exact Lr (((ok k d hk).RY hs).resolve_left (by simp[wQ])) lE
end
def qny(base:Nat)(ef:ae)(H:List St)(d:D):Prop:=
 ∀q,d.lo<=q->q<=d.hi->∀T,H[q]?=some T->match d.slot with
  |some s=>match d.o.k with
   |.new z=>T[base+s]?=some (.arr [z] z.size 1)/\0<z.size/\(z.cells.all V.flat)=true
   |_=>False
  |none=>∃v,cf ef T d.o.k=some (v,T)/\∀t,d.o.dst=some t->ef.get t=some v
def Vp(base:Nat)(ef:ae)(H:List St)(ds:List D):Prop:=∀d,d∈ds->d.chk=true->d.w=false->jT ef d.o.g=some true->qny base ef H d
def P4(P:aG)(N:Nat)(ops:Array Oper)(ds:List D):Bool:=
 decide (ds.length=ops.size)&&(List.range ds.length).all λj=>match ds[j]?,ops[j]? with
  |some d,some o=>Yz ds ((o.after.toList.filter λe=>Region.binds .any e).map λe=>e.on) j d
  |_,_=>false
def lj(ops:Array Oper)(j:Nat):List Nat:=match ops[j]? with
 |some o=>(o.after.toList.filter λe=>Region.binds .any e).map λe=>e.on
 |none=>[]
def qnn{P:aG}{N:Nat}{ops:Array Oper}{ds:List D}(h:P4 P N ops ds=true):ds.length=ops.size/\∀j d,ds[j]?=some d->Ok ds (lj ops) j d:=by
 unfold P4 at h;simp only[cT,dT,fR,E7]at h;refine⟨h.1,λj d hj=>?_⟩;have aB:=(br.1 hj).1;have:=h.2 j aB;rw[hj]at this
 cases ho:ops[j]? with
 |none=>rw[ho]at this;simp at this
 |some o=>
  rw[ho]at this;refine qt3 (np:=lj ops) ?_;simpa[lj,ho]using this
structure Inv(ds:List D)(N n0 m0 base:Nat)(e0 ef:ae)(Hf:List St)(E0:En)(S0:St)(w0:World)(listed:Array Bool)(q:Nat)(E:En)(S:St)(a:Act)(w:World):Prop where
 size:listed.size=ds.length
 closed:∀j d,ds[j]?=some d->listed.getD j false=true->∀i,i∈d.oz->listed.getD i false=true
 num:∀p i,(jB ds)[p]?=some i->(listed.getD i false=true↔p<q)
 YM:q<=(jB ds).length
 st:Hf[q]?=some S
 tmps:∀t v,ef.get t=some v->(∀i,gg ds i=some t->listed.getD i false=true)->∃u,a.tmps[t]?=some u/\VR E v u
 qk1:∀t v,e0.get t=some v->(∀i,gg ds i=some t->listed.getD i false=false)->∃u,a.tmps[t]?=some u/\VR E v u
 slots:∀i s,tU ds i=some s->listed.getD i true=false->∀st,E.ρ (base+s) st=none
 N:a.tmps.size=N
 defers:uH m0 E S w a.defers
 sr:SR E S w
 len:base<=S.length
 room:∀i s,tU ds i=some s->base+s<S.length
 ext:bT n0 E0 S0 w0 E S w
def FM{l:Array Bool}{i:Nat}:l.getD i true=false↔∃h:i<l.size,l[i]=false:=by
 simp only[Array.getD];split
 .rename_i h;simp[h]
 .rename_i h;simp[h]
def IA{l:Array Bool}{i:Nat}:l.getD i false=true↔∃h:i<l.size,l[i]=true:=by
 simp only[Array.getD];split
 .rename_i h;simp[h]
 .rename_i h;simp[h]
def Ew{l:Array Bool}{j i:Nat}(hj:j<l.size):(l.setIfInBounds j true).getD i false=true↔i=j\/l.getD i false=true:=by
 by_cases h:j=i
 .subst h;simp[hj]
 .rw[getD_set_ne false h];exact⟨.inr,λh'=>h'.resolve_left (λe=>h e.symm)⟩
def count_set{l:Array Bool}{j:Nat}(hj:l.getD j true=false):(l.setIfInBounds j true).toList.count false+1=l.toList.count false:=by
 obtain⟨h,hv⟩:=FM.1 hj;have:(l.setIfInBounds j true).toList=l.toList.set j true:=sM;have aB:j<l.toList.length:=by simpa using h
 have h1:l.toList[j]=false:=by simpa using hv
 have h2:0<l.toList.count false:=List.count_pos_iff.2 (by rw[<-h1];exact dz _);rw[this,List.count_set aB,h1];rw[show(if(true==false)=true then 1 else 0)=0 from rfl,show(if(false==false)=true then 1 else 0)=1 from rfl];omega
def qnt{l:Array Bool}(h:l.toList.count false=0){i:Nat}(hi:i<l.size):l.getD i false=true:=by
 rw[List.count_eq_zero]at h;refine IA.2 ⟨hi,?_⟩
 cases hb:l[i] with
 |true=>rfl
 |false=>exact absurd (by rw[<-hb];simp) h
def Tu{ds:List D}{p i:Nat}(h:(jB ds)[p]?=some i):∃d,ds[i]?=some d/\d.w=true:=by
 have:=dZ h;unfold jB at this;rw[qW]at this
 cases hd:ds[i]? with
 |none=>rw[hd]at this;simp at this
 |some d=>rw[hd]at this;exact⟨d,rfl,by simpa using this.2⟩
def qzm{ds:List D}{p p' i:Nat}(h:(jB ds)[p]?=some i)(h':(jB ds)[p']?=some i):p=p':=by
 have hn:(jB ds).Nodup:=List.Pairwise.filter _ List.nodup_range;exact(HM (br.1 h).1 hn).1 (h.trans h'.symm)
section
variable {P:aG} {N n0 m0:Nat} {ro:Option Nat} {n:Nat} {ops:Array Oper} {Q:dV} {ds:List D} {base:Nat} {e0 ef:ae} {Hf:List St} {E0:En} {S0:St} {w0:aP}
def qcE(P:aG)(ds:List D)(base:Nat)(e0 ef:ae)(Hf:List St)(j:Nat)(d:D):Prop:=
 ∃T v T' ej,Hf[pos ds j]?=some T/\PE P base ej T d v T'/\(∀t,d.o.dst=some t->ef.get t=some v)/\(d.w=true->Hf[pos ds j+1]?=some T')/\
  (∀t,t∈d.o.tmps->(∀i,gg ds i=some t->i<j)->ej.get t=ef.get t)/\(∀t i,j<=i->gg ds i=some t->ej.get t=e0.get t)
theorem Inv.range{listed:Array Bool}{q:Nat}{E:En}{S:St}{a:Act}{w:aP}(inv:Inv ds N n0 m0 base e0 ef Hf E0 S0 w0 listed q E S a w)(ok:∀j d,ds[j]?=some d->Ok ds (lj ops) j d){j:Nat}{d:D}(hj:ds[j]?=some d)
  (rp:listed.getD j true=false) (rY:∀i,i∈d.oz->listed.getD i false=true):d.lo<=q/\(d.w=false->q<=d.hi)/\(d.w=true->q=pos ds j):=by
 have fE:=ok j d hj
 have ym:listed.getD j false≠true:=by
  intro h;obtain⟨h1,h2⟩:=FM.1 rp;obtain⟨h3,h4⟩:=IA.1 h;rw[h2]at h4;cases h4
 have oL:d.lo<=q:=by
  rcases xI q d.lo with h| h
  .obtain⟨i,hi,iq⟩:=fE.lo q h;have:=(inv.num q i hi).1 (rY i iq);omega
  .exact h
 refine⟨oL,λhw=>?_,λhw=>?_⟩
 .rcases xI d.hi q with h| h
  .have aB:d.hi<(jB ds).length:=pT h inv.YM;have hi:(jB ds)[d.hi]?=some (jB ds)[d.hi]:=by simp[aB]
   rcases fE.hi d.hi _ cz hi with he|he
   .obtain⟨d',eH,cM⟩:=Tu hi;rw[he,hj]at eH;cases eH;rw[hw]at cM;cases cM
   .have hl:=(inv.num d.hi _ hi).2 h;obtain⟨d',eH,_⟩:=Tu hi;exact absurd (inv.closed _ d' eH hl j (by simpa[xP,eH]using he)) ym
  .exact h
 .obtain⟨h1,h2⟩:=fE.wr hw;have hnq:¬pos ds j<q:=λh=>ym ((inv.num _ j h1).2 h)
  omega
theorem Inv.next{listed:Array Bool}{q:Nat}{E:En}{S:St}{a:Act}{w:aP}(inv:Inv ds N n0 m0 base e0 ef Hf E0 S0 w0 listed q E S a w)(ok:∀j d,ds[j]?=some d->Ok ds (lj ops) j d){i:Nat}{d:D}{o:Oper}(hd:ds[i]?=some d)
  (rp:listed.getD i true=false) (rY:∀s,s∈d.oz->listed.getD s false=true) (AX:d.o.dst=o.dst) (QO:Ie N o.dst=true) {v:V} {E':En} {S':St} {u:Value} {w':aP}
  (f3:∀t,d.o.dst=some t->ef.get t=some v) (hq:d.w=true->q=pos ds i) (LU:d.w=true->Hf[q+1]?=some S') (Ws:d.w=false->S'=S)
  (hv:∀t,o.dst=some t->VR E' v u) (hle:E.le E') (jy:SR E' S' w') (fM:bT n0 E S w E' S' w') (hl:S.length<=S'.length)
  (aN:∀i' s,tU ds i'=some s->i'≠i->(∀st,E.ρ (base+s) st=none)->∀st,E'.ρ (base+s) st=none):
  Inv ds N n0 m0 base e0 ef Hf E0 S0 w0 (listed.setIfInBounds i true) (if d.w then q+1 else q) E' S' (a.put o.dst u) w':=by
 have fE:=ok i d hd;have F9:i<listed.size:=by rw[inv.size];exact(br.1 hd).1
 refine⟨by simp[inv.size],?_,?_,?_,?_,?_,?_,?_,?_,?_,jy,js inv.len hl,λi' s hs=>pT (inv.room i' s hs) hl,inv.ext.trans fM⟩
 .intro j d' hj Q1 s hs;rw[Ew F9]at Q1 |-;rcases Q1 with rfl|Q1
  .rw[hd]at hj;cases hj;exact .inr (rY s hs)
  .exact .inr (inv.closed j d' hj Q1 s hs)
 .intro p i' hp;rw[Ew F9,inv.num p i' hp]
  cases hw:d.w with
  |true=>
   have hq:=hq hw;simp only[if_true];constructor
   .rintro(rfl|h)
    .have:=qzm hp (fE.wr hw).1;omega
    .omega
   .intro h;rcases xI p q with h'|h'
    .exact .inr h'
    .have:p=pos ds i:=oM;subst this;rw[(fE.wr hw).1]at hp;cases hp;exact .inl rfl
  |false=>
   simp only[mf,if_false];refine⟨λh=>h.resolve_left ?_,.inr⟩;rintro rfl;obtain⟨d',eH,cM⟩:=Tu hp;rw[hd]at eH;cases eH;rw[hw]at cM;cases cM
 .cases hw:d.w with
  |true=>
   have hq:=hq hw;have:=(br.1 (fE.wr hw).1).1;simp only[if_true];omega
  |false=>simpa using inv.YM
 .cases hw:d.w with
  |true=>
   have hq:=hq hw;simp only[if_true];exact LU hw
  |false=>
   simp only[mf,if_false];rw[Ws hw];exact inv.st
 .intro t vt Rh QK;by_cases ht:o.dst=some t
  .have h3:=f3 t (by rw[AX];exact ht);rw[Rh]at h3;cases h3;refine⟨u,?_,hv t ht⟩;have aB:t<a.tmps.size:=by rw[inv.N];rw[ht]at QO;simpa[Ie]using QO
   rw[ht];show(a.tmps.setIfInBounds t u)[t]?=some u;simp[aB]
  .obtain⟨x,hx,XB⟩:=inv.tmps t vt Rh λs hs=>by
    have:=QK s hs;rw[Ew F9]at this;refine this.resolve_left ?_;rintro rfl;simp[gg,hd,AX]at hs;exact ht hs
   refine⟨x,?_,XB.mono hle⟩
   cases uY:o.dst with
   |none=>exact hx
   |some t'=>
    show(a.tmps.setIfInBounds t' u)[t]?=some x;rw[uk (by rintro rfl;exact ht uY)];exact hx
 .intro t vt Rh QK
  have ht:o.dst≠some t:=λht=>by
   have:=QK i (by simp[gg,hd,AX,ht]);have h2:(listed.setIfInBounds i true).getD i false=true:=(Ew F9).2 (.inl rfl);rw[this]at h2;cases h2
  obtain⟨x,hx,XB⟩:=inv.qk1 t vt Rh λs hs=>by
   have:=QK s hs
   cases cj:listed.getD s false with
   |false=>rfl
   |true=>rw[(Ew F9).2 (.inr cj)]at this;cases this
  refine⟨x,?_,XB.mono hle⟩
  cases uY:o.dst with
  |none=>exact hx
  |some t'=>
   show(a.tmps.setIfInBounds t' u)[t]?=some x;rw[uk (by rintro rfl;exact ht uY)];exact hx
 .intro i' s hs cj st;by_cases WW:i'=i
  .subst WW;rw[FM]at cj;obtain⟨h1,h2⟩:=cj;simp at h2
  .exact aN i' s hs WW (inv.slots i' s hs (by rw[getD_set_ne true (Ne.symm WW)]at cj;exact cj)) st
 .cases o.dst<;>simp[Act.put,inv.N]
 .cases o.dst<;>exact uH.step fM inv.defers
theorem Inv.qhr{listed:Array Bool}{q:Nat}{E:En}{S:St}{a:Act}{w:aP}(inv:Inv ds N n0 m0 base e0 ef Hf E0 S0 w0 listed q E S a w)(ok:∀j d,ds[j]?=some d->Ok ds (lj ops) j d){i:Nat}{d:D}(hd:ds[i]?=some d)
  (rp:listed.getD i true=false) (rY:∀s,s∈d.oz->listed.getD s false=true) {ej:ae} (ev:HG ds e0 i d ej ef):∀t,t∈d.o.tmps->∀v,ej.get t=some v->∃u,a.tmps[t]?=some u/\VR E v u:=by
 have fE:=ok i d hd
 have ym:∀s,(s=i\/i∈xP ds s)->listed.getD s false=false:=λs hs=>by
  cases hl:listed.getD s false with
  |false=>rfl
  |true=>
   exfalso
   have:listed.getD i false=true:=by
    rcases hs with rfl|hs
    .exact hl
    .cases io:ds[s]? with
     |none=>simp[xP,io]at hs
     |some d'=>exact inv.closed s d' io hl i (by simpa[xP,io]using hs)
   obtain⟨h1,h2⟩:=FM.1 rp;obtain⟨h3,h4⟩:=IA.1 this;rw[h2]at h4;cases h4
 intro t ht v hv;by_cases I5:∃s,i<=s/\gg ds s=some t
 .obtain⟨s,hs,bg⟩:=I5;rw[ev.f6 t s hs bg]at hv;refine inv.qk1 t v hv λs' kJ=>?_
  have tD:s'=s:=by
   cases io:ds[s]? with
   |none=>simp[gg,io]at bg
   |some d'=>
    have j7:d'.o.dst=some t:=by simpa[gg,io]using bg
    by_cases h:s'=s
    .exact h
    .exact absurd kJ ((ok s d' io).dst t j7 s' h)
  subst tD;rcases fE.tmps t ht s' bg with ⟨_,h⟩|⟨_,_,h⟩
  .omega
  .exact ym s' h
 ·rw[ev.f5 t ht λs hs=>by
   rcases xI s i with h| h
   .exact h
   .exact absurd ⟨s,h,hs⟩ I5]at hv
  refine inv.tmps t v hv λs hs=>?_
  rcases fE.tmps t ht s hs with ⟨h,_⟩|⟨_,h,_⟩
  .exact rY s h
  .exact absurd ⟨s,h,hs⟩ I5
theorem qgC:∀(ts:List Nat) (ej:ae) (t:Nat),t∈ts->(ej.keep ts).get t=ej.get t:=by
 intro ts ej
 induction ts with
 |nil=>intro t h;cases h
 |cons s ts ih=>
  intro t h;simp only[ae.keep];by_cases bg:s=t
  .subst bg
   cases hs:ej.get s with
   |none=>
    simp only[]
    cases hk:(ej.keep ts).get s with
    |none=>rfl
    |some v=>have:=ae.Qv hk;rw[hs]at this;cases this
   |some v=>simp[ae.get]
  .have ht:=(dU.1 h).resolve_left (λe=>bg e.symm)
   cases hs:ej.get s with
   |none=>exact ih t ht
   |some v=>simp only[ae.get];rw[au bg];exact ih t ht
theorem qsr:∀(ts:List Nat) (ej:ae) (t:Nat),t∉ts->(ej.keep ts).get t=none:=by
 intro ts ej t
 induction ts with
 |nil=>intro _;rfl
 |cons s ts ih=>
  intro h;simp only[dU,not_or]at h;simp only[ae.keep];split
  .simp only[ae.get];rw[au (Ne.symm h.1)];exact ih h.2
  .exact ih h.2
def Uf(ds:List D)(base:Nat)(e0 ef:ae)(S:St)(i:Nat)(d:D)(ej:ae):Prop:=HG ds e0 i d ej ef/\
 ((jT ej d.o.g=some false∧∀t,d.o.dst=some t→ef.get t=some (.aV []))∨
  (jT ej d.o.g=some true/\∃s z,d.slot=some s/\d.o.k=.new z/\(∀t,d.o.dst=some t->ef.get t=some (.ptr (base+s) 0 0 1))/\S[base+s]?=some (.arr [z] z.size 1)/\0<z.size/\(z.cells.all V.flat)=true)\/
  (jT ej d.o.g=some true/\d.slot=none/\∃v,cf ej S d.o.k=some (v,S)/\∀t,d.o.dst=some t->ef.get t=some v))
theorem Inv.seen{listed:Array Bool}{q:Nat}{E:En}{S:St}{a:Act}{w:aP}(inv:Inv ds N n0 m0 base e0 ef Hf E0 S0 w0 listed q E S a w)(ok:∀j d,ds[j]?=some d->Ok ds (lj ops) j d){i:Nat}{d:D}(hd:ds[i]?=some d)
  (rp:listed.getD i true=false) (rY:∀s,s∈d.oz->listed.getD s false=true) (hw:d.w=false) (fact:qcE P ds base e0 ef Hf i d) (Ld:Vp base ef Hf ds):∃ej,Uf ds base e0 ef S i d ej:=by
 have fE:=ok i d hd;obtain⟨YS,SD,_⟩:=inv.range ok hd rp rY;obtain⟨T,v,T',ej,f1,f2,f3,f4,f5,f6⟩:=fact;refine⟨ej,⟨f5,f6⟩,?_⟩
 have Xp:d.chk=true->rN d.o.tmps ef ej:=λhc t ht=>f5 t ht λs hs=>by
  rcases fE.tmps t ht s hs with ⟨_,h⟩|⟨h,_⟩
  .exact h
  .rw[hc]at h;cases h
 rcases f2 with ⟨g1,g2,g3⟩|⟨g1,g2⟩
 .exact .inl ⟨g1,by rw[<-g2];exact f3⟩
 rcases g2 with ⟨s,hs,g3,g4⟩|⟨hs,g2⟩
 .obtain⟨k1,k2,⟨z,hz⟩,k4⟩:=fE.slot s hs;have hc:=Ld d (dZ hd) k2 k1 (by rw[<-OO (Xp k2)];exact g1) q YS (SD k1) S inv.st;rw[hs,hz]at hc;simp only at hc;obtain⟨c1,c2,c3⟩:=hc;exact .inr (.inl ⟨g1,s,z,hs,hz,by rw[<-g3];exact f3,c1,c2,c3⟩)
 refine .inr (.inr ⟨g1,hs,?_⟩);have A6:=(fE.RY hs).resolve_left (by simp[hw]);rcases g2 with ⟨f,args,MN⟩|g2
 .rw[MN]at A6;simp[K.writes]at A6
 have hT:=Lr A6 g2;subst hT;rcases fE.qtP.resolve_left (by simp[hw]) with rj|⟨hl,hh⟩|⟨_,rj⟩
 .have hc:=Ld d (dZ hd) rj hw (by rw[<-OO (Xp rj)];exact g1) q YS (SD hw) S inv.st;rw[hs]at hc;simp only at hc;obtain⟨v',c1,c2⟩:=hc;exact⟨v',by rw[Qi ((Xp rj).sub λt ht=>by simp[O'.tmps,ht])];exact c1,c2⟩
 .have hq:q=pos ds i:=by have:=SD hw;omega
  have:=inv.st;rw[hq,f1]at this;cases this;exact⟨v,g2,f3⟩
 .exact⟨v,by rw[qog (S:=T') rj,g2];rfl,f3⟩
structure Cls(P:Program)(ds:List D)(base:Nat)(e0:ae)(Q:dV)(ef:ae)(Hf:List St):Prop where
 facts:∀(j:Nat) (d:D),ds[j]?=some d->qcE P ds base e0 ef Hf j d
 Ld:Vp base ef Hf ds
 last:∀S,Hf.getLast?=some S->Q .normal ef S
 len:Hf.length=(jB ds).length+1
 keep:∀t,(∀i,gg ds i≠some t)->ef.get t=e0.get t
structure TZ(P:Program)(ds:List D)(N n0 m0 base:Nat)(e0:ae)(Q:dV)(E0:En)(S0:St)(w0:World)(C:ae->List St->Prop)(listed:Array Bool)(q:Nat)(E:En)(S:St)(a:Act)(w:World):Prop where
 cls:∀ef Hf,C ef Hf->Cls P ds base e0 Q ef Hf
 inv:∀ef Hf,C ef Hf->Inv ds N n0 m0 base e0 ef Hf E0 S0 w0 listed q E S a w
 good:Ai P ds e0 ((jB ds).length-q) q C
 agree:∀ef Hf jX mI,C ef Hf->C jX mI->∀i t,listed.getD i false=true->gg ds i=some t->ef.get t=jX.get t
theorem qnR{C:ae->List St->Prop}{listed:Array Bool}{q:Nat}{E:En}{S:St}{a:Act}{w:aP}{M:Act->World->Prop}(ic:TZ P ds N n0 m0 base e0 Q E0 S0 w0 C listed q E S a w)(ok:∀j d,ds[j]?=some d->Ok ds (lj ops) j d)(hlen:ds.length=ops.size)(yl:n0<=base)
  (MA:∀(j:Nat) (d:D) (o:Oper),ds[j]?=some d->ops[j]?=some o->tf P N ops o=some d.o) {i:Nat} (hi:i∈Region.ready .any ops listed)
  (hK:∀a' w' E' q' S' C',TZ P ds N n0 m0 base e0 Q E0 S0 w0 C' (listed.setIfInBounds i true) q' E' S' a' w'->M a' w'):
  wpOpIn (lA ro) n P ops (Up N n0 m0 E0 S0 w0 Q) i M a w:=by
 obtain⟨rp,o,ho,dq⟩:=mem_ready.1 hi;have qfx:i<ds.length:=by rw[hlen];exact(kQ.1 ho).1
 have hd:ds[i]?=some ds[i]:=by simp[qfx]
 generalize j7:ds[i]=d at hd;have fE:=ok i d hd;obtain⟨AX,QO,hk,hg⟩:=qeZ (MA i d o hd ho);obtain⟨ef,Hf,hc⟩:=ic.good.some;have inv:=ic.inv ef Hf hc;have cl:=ic.cls ef Hf hc;have F9:i<listed.size:=by rw[inv.size];exact qfx
 have IU:∀s,s∈lj ops i->listed.getD s false=true:=λs hs=>by
  simp only[lj,ho,cY,qW]at hs;obtain⟨e,⟨he,hb⟩,rfl⟩:=hs;exact dq e (by simpa using he) hb
 have rY:∀s,s∈d.oz->listed.getD s false=true:=λs hs=>by
  rcases fE.oz s hs with h|⟨r,hr,M8⟩
  .exact IU s h
  .have qrx:r<ds.length:=by have:=fE.back r hr;omega
   have ny:ds[r]?=some ds[r]:=by simp[qrx]
   exact inv.closed r _ ny (IU r hr) s (by simpa[xP,ny]using M8)
 obtain⟨YS,SD,rw'⟩:=inv.range ok hd rp rY;have VH:∀{E':En} {S':St} {w':aP},bT S.length E S w E' S' w'->bT n0 E S w E' S' w':=λh=>h.less (js yl inv.len)
 have slotsOf:∀{E':En} {S':St} {w':aP},bT S.length E S w E' S' w'->∀i' s,tU ds i'=some s->i'≠i->(∀st,E.ρ (base+s) st=none)->∀st,E'.ρ (base+s) st=none:=λh i' s hs _ cB=>h.no _ (inv.room i' s hs) cB
 have finish:∀(C':ae->List St->Prop),(∀ef Hf,C' ef Hf->C ef Hf)->∀(v:V) (E':En) (S':St) (u:Value) (w':aP),(∀ef Hf,C' ef Hf->∀t,d.o.dst=some t->ef.get t=some v)->(∀ef Hf,C' ef Hf->d.w=true->Hf[q+1]?=some S')->(d.w=false->S'=S)->
   Ai P ds e0 ((jB ds).length-(if d.w then q+1 else q)) (if d.w then q+1 else q) C'->(∀t,o.dst=some t->VR E' v u)->E.le E'->SR E' S' w'->bT n0 E S w E' S' w'->S.length<=S'.length->
   (∀i' s,tU ds i'=some s->i'≠i->(∀st,E.ρ (base+s) st=none)->∀st,E'.ρ (base+s) st=none)->M (a.put o.dst u) w':=by
  intro C' cZ v E' S' u w' f3 LU Ws yf hv hle jy fM hl aN;refine hK _ _ E' (if d.w then q+1 else q) S' C' ⟨λef Hf h=>ic.cls ef Hf (cZ ef Hf h),λef Hf h=>(ic.inv ef Hf (cZ ef Hf h)).next ok hd rp rY AX QO (f3 ef Hf h) rw' (LU ef Hf h) Ws hv hle jy fM hl aN,yf,?_⟩;intro ef Hf jX mI h h' i' t A4 qe;rw[Ew F9]at A4;rcases A4 with rfl|A4
  .have ht:d.o.dst=some t:=by simpa[gg,hd]using qe
   rw[f3 ef Hf h t ht,f3 jX mI h' t ht]
  .exact ic.agree ef Hf jX mI (cZ _ _ h) (cZ _ _ h') i' t A4 qe
 unfold wpOpIn;rw[ho];simp only[];have pB:∀{ej:ae},HG ds e0 i d ej ef->∀b,jT ej d.o.g=some b->Region.wanted o (yielded ops a.tmps)=b:=λ{ej} ev b hb=>
  hg E ej a b (λt w hg v hv=>inv.qhr ok hd rp rY ev t (by simp[O'.tmps,hg]) v hv) hb
 have Wt:∀{ej:ae},HG ds e0 i d ej ef->jf E (ej.keep d.o.tmps) a.tmps:=λ{ej} ev t v hv=>by
  by_cases ht:t∈d.o.tmps
  .rw[qgC _ _ t ht]at hv;exact inv.qhr ok hd rp rY ev t ht v hv
  .rw[qsr _ _ t ht]at hv;cases hv
 have AU:∀ej:ae,rN d.o.k.tmps ej (ej.keep d.o.tmps):=λej t ht=>qgC _ _ t (by simp[O'.tmps,ht])
 cases hw:d.w with
 |true=>
  have hqp:=rw' hw;have Xy:=(fE.wr hw).1;rw[<-hqp]at Xy;have qAw:=(br.1 Xy).1;obtain⟨m,hm⟩:∃m,(jB ds).length-q=m+1:=⟨(jB ds).length-q-1,oM⟩;have A5:(jB ds).length-(q+1)=m:=oM;have yf:=ic.good;rw[hm]at yf;obtain⟨_,i',d',ei,T,gi,gd,gT,qpN⟩:=yf;rw[Xy]at gi;cases gi;rw[hd]at gd;cases gd;obtain⟨gT1,wL⟩:=gT ef Hf hc
  have hST:T=S:=by
   have:=inv.st;rw[gT1]at this;cases this;rfl
  subst hST;rw[hw]at finish;simp only[if_true,A5]at finish;rcases qpN with ⟨v,S',qqz,I8,WU⟩|⟨f,args,kf,fs,cs,vs,R,g1,hs,g3,g4,g5,g6,g7⟩
  .have fin:∀(E':En) (u:Value) (w':aP),(∀t,o.dst=some t->VR E' v u)->E.le E'->SR E' S' w'->bT n0 E T w E' S' w'->T.length<=S'.length->
     (∀i' s,tU ds i'=some s->i'≠i->(∀st,E.ρ (base+s) st=none)->∀st,E'.ρ (base+s) st=none)->M (a.put o.dst u) w':=λE' u w'=>
    finish C (λ_ _ h=>h) v E' S' u w' (λef Hf h=>(I8 ef Hf h).1) (λef Hf h _=>(I8 ef Hf h).2) (λh=>by cases h) WU
   rcases qqz with ⟨g1,g2,g3⟩|⟨g1,hs,g2⟩
   .rw[pB wL false g1];simp only[mf,if_false];refine⟨λf hf=>trivial,?_⟩;subst g3;exact fin E undef w (λ_ _=>by rw[g2];exact .aV sM (λi v u h=>by simp at h)) (En.le_refl E) inv.sr (bT.refl _ _ _ _) cz (λ_ _ _ _ h=>h)
   .rw[pB wL true g1];simp only[if_true];refine YD hk (Wt wL) inv.sr (by rw[Qi (AU ei)];exact g2) λE' u w' dH jy fM hl=>?_
    exact fin E' u w' (λ_ _=>dH) (fM.le inv.sr) jy (VH fM) hl (slotsOf fM)
  .rw[pB wL true g1];simp only[if_true];have QJ:=AU ei;rw[g3]at QJ;simp only[K.tmps]at QJ;refine qhq (by rw[hk,g3]) (Wt wL) inv.sr (by rw[eG (QJ.sub (us:=f.tmps) (by simp;grind))];exact g4) (by rw[Lt (QJ.sub (us:=args.flatMap bK.tmps) (by simp;grind))];exact g5) g6 λr S' E' u w' hR dH jy fM hl=>?_
   obtain⟨C',cZ,WU⟩:=g7 r S' hR;exact finish C' (λ_ _ h=>(cZ _ _ h).1) r E' S' u w' (λef Hf h=>(cZ ef Hf h).2.1) (λef Hf h _=>(cZ ef Hf h).2.2) (λh=>by cases h) WU (λ_ _=>dH) (fM.le inv.sr) jy (VH fM) hl (slotsOf fM)
 |false=>
  have yf:=ic.good;rw[hw]at finish;simp only[mf,if_false]at finish;obtain⟨ej,wL,Xm⟩:=inv.seen ok hd rp rY hw (cl.facts i d hd) cl.Ld
  have agr:∀jX mI,C jX mI->∃wI,Uf ds base e0 jX S i d wI/\rN d.o.tmps ej wI:=λjX mI j0=>by
   obtain⟨wI,kJ⟩:=(ic.inv jX mI j0).seen ok hd rp rY hw ((ic.cls jX mI j0).facts i d hd) (ic.cls jX mI j0).Ld;refine⟨wI,kJ,λt ht=>?_⟩;by_cases I5:∃s,i<=s/\gg ds s=some t
   .obtain⟨s,hs,bg⟩:=I5;rw[wL.f6 t s hs bg,kJ.1.f6 t s hs bg]
   .have aB:∀s,gg ds s=some t->s<i:=λs hs=>by
     rcases xI s i with h| h
     .exact h
     .exact absurd ⟨s,h,hs⟩ I5
    rw[wL.f5 t ht aB,kJ.1.f5 t ht aB];by_cases hex:∃s,gg ds s=some t
    .obtain⟨s,hs⟩:=hex;refine ic.agree jX mI ef Hf j0 hc s t ?_ hs;rcases fE.tmps t ht s hs with ⟨h,_⟩|⟨_,h,_⟩
     .exact rY s h
     .have:=aB s hs;omega
    .rw[cl.keep t λs hs=>hex ⟨s,hs⟩,(ic.cls jX mI j0).keep t λs hs=>hex ⟨s,hs⟩]
  have val:∀v:V,(∀jX mI wI,C jX mI->Uf ds base e0 jX S i d wI->rN d.o.tmps ej wI->∀t,d.o.dst=some t->jX.get t=some v)->∀jX mI,C jX mI->∀t,d.o.dst=some t->jX.get t=some v:=λv h jX mI j0=>by
   obtain⟨wI,h1,h2⟩:=agr jX mI j0;exact h jX mI wI j0 h1 h2
  rcases Xm with ⟨g1,g2⟩|⟨g1,s,z,hs,hz,g2,c1,c2,c3⟩|⟨g1,hs,v,g2,g3⟩
  .rw[pB wL false g1];simp only[mf,if_false];refine⟨λf hf=>trivial,?_⟩;refine finish C (λ_ _ h=>h) (.aV []) E S undef w (val _ λjX mI wI j0 kJ ha t ht=>?_) (λ_ _ _ h=>by cases h) (λ_=>rfl) yf (λ_ _=>.aV sM (λi v u h=>by simp at h)) (En.le_refl E) inv.sr (bT.refl _ _ _ _) cz (λ_ _ _ _ h=>h);have tH:=OO ha;rw[g1]at tH;rcases kJ.2 with ⟨_,k⟩|⟨k,_⟩|⟨k,_⟩
   .exact k t ht
   .rw[tH]at k;cases k
   .rw[tH]at k;cases k
  .rw[pB wL true g1];simp only[if_true];have cB:=inv.slots i s (by simp[tU,hd,hs]) rp;obtain⟨_,_,_,k4⟩:=fE.slot s hs;refine qub (by rw[hk,hz]) inv.sr c1 cB c2 c3 λE' u w' b1 b2 b3 b4 b5=>?_
   have h1:=inv.len;refine finish C (λ_ _ h=>h) (.ptr (base+s) 0 0 1) E' S u w' (val _ λjX mI wI j0 kJ ha t ht=>?_) (λ_ _ _ h=>by cases h) (λ_=>rfl) yf (λ_ _=>b1) b3 b2 (b4 n0 oM) cz (λi' s' kJ bZ qrd st=>?_)
   .have tH:=OO ha;rw[g1]at tH;rcases kJ.2 with ⟨k,_⟩|⟨_,s',z',k1,_,k2,_⟩|⟨_,k,_⟩
    .rw[tH]at k;cases k
    .rw[hs]at k1;cases k1;exact k2 t ht
    .rw[hs]at k;cases k
   .rw[b5 _ _ (λhe=>?_)]
    .exact qrd st
    .have:s'=s:=oM;subst this;exact k4 i' bZ kJ
  .rw[pB wL true g1];simp only[if_true];refine YD hk (Wt wL) inv.sr (by rw[Qi (AU ej)];exact g2) λE' u w' dH jy fM hl=>?_
   refine finish C (λ_ _ h=>h) v E' S u w' (val _ λjX mI wI j0 kJ ha t ht=>?_) (λ_ _ _ h=>by cases h) (λ_=>rfl) yf (λ_ _=>dH) (fM.le inv.sr) jy (VH fM) hl (slotsOf fM);have tH:=OO ha;rw[g1]at tH;rcases kJ.2 with ⟨k,_⟩|⟨_,s',z',k1,_⟩|⟨_,_,v',k1,k2⟩
   .rw[tH]at k;cases k
   .rw[hs]at k1;cases k1
   .rw[Qi (ha.sub λt ht=>by simp[O'.tmps,ht]),g2]at k1;cases k1;exact k2 t ht
theorem qnP(ok:∀j d,ds[j]?=some d->Ok ds (lj ops) j d)(hlen:ds.length=ops.size)(yl:n0<=base)
  (MA:∀(j:Nat) (d:D) (o:Oper),ds[j]?=some d->ops[j]?=some o->tf P N ops o=some d.o):
  ∀(eg:Nat) (C:ae->List St->Prop) (listed:Array Bool) (q:Nat) (E:En) (S:St) (a:Act) (w:aP),TZ P ds N n0 m0 base e0 Q E0 S0 w0 C listed q E S a w->listed.toList.count false<=eg->
   wpAnyIn (lA ro) n P .any ops (Up N n0 m0 E0 S0 w0 Q) eg listed a w:=by
 have done:∀(ef:ae) (Hf:List St),Cls P ds base e0 Q ef Hf->∀(listed:Array Bool) (q:Nat) (E:En) (S:St) (a:Act) (w:aP),Inv ds N n0 m0 base e0 ef Hf E0 S0 w0 listed q E S a w->(∀i,i<listed.size->listed.getD i false=true)->Up N n0 m0 E0 S0 w0 Q .normal a w:=by
  intro ef Hf cl listed q E S a w inv dq
  have hq:q=(jB ds).length:=by
   rcases xI q (jB ds).length with h| h
   .exfalso;have hi:(jB ds)[q]?=some (jB ds)[q]:=by simp[h]
    obtain⟨d,hd,_⟩:=Tu hi;have:=(inv.num q _ hi).1 (dq _ (by rw[inv.size];exact(br.1 hd).1));omega
   .have:=inv.YM;omega
  refine⟨E,ef,S,⟨λt v hv=>inv.tmps t v hv λi hi=>dq i (by rw[inv.size];exact Vt hi),inv.N,inv.defers,js yl inv.len,inv.sr⟩,inv.ext,cl.last S ?_⟩;rw[List.getLast?_eq_getElem?,cl.len,Nat.add_sub_cancel,<-hq];exact inv.st
 have qtR:∀(ef:ae) (Hf:List St) (listed:Array Bool) (q:Nat) (E:En) (S:St) (a:Act) (w:aP),Inv ds N n0 m0 base e0 ef Hf E0 S0 w0 listed q E S a w->Region.ready .any ops listed=[]->∀i,i<listed.size->listed.getD i false=true:=by
  intro ef Hf listed q E S a w inv hr i
  induction i using Nat.strongRecOn with
  |ind i ih=>
   intro hi
   cases hb:listed.getD i false with
   |true=>rfl
   |false=>
    exfalso;have MG:i<ds.length:=by rw[<-inv.size];exact hi
    have hd:ds[i]?=some ds[i]:=by simp[MG]
    have ho:ops[i]?=some (ops[i]'oM):=sM
    have kH:i∈Region.ready .any ops listed:=by
     refine mem_ready.2 ⟨?_,_,ho,λe he L8=>?_⟩
     .simp only[Array.getD,hi,dif_pos]at hb |-;exact hb
     .have hs:e.on∈lj ops i:=by
       simp only[lj,ho,cY,qW];exact⟨e,⟨by simpa using he,L8⟩,rfl⟩
      have aB:=(ok i _ hd).back _ hs;exact ih _ aB oM
    rw[hr]at kH;cases kH
 intro eg
 induction eg with
 |zero=>
  intro C listed q E S a w ic hc;obtain⟨ef,Hf,hC⟩:=ic.good.some;have dq:∀i,i<listed.size->listed.getD i false=true:=λi hi=>qnt oM hi
  refine⟨?_,done ef Hf (ic.cls ef Hf hC) listed q E S a w (ic.inv ef Hf hC) dq⟩
  cases hr:Region.ready .any ops listed with
  |nil=>rfl
  |cons i l=>
   exfalso;have:i∈Region.ready .any ops listed:=by rw[hr];simp
   obtain⟨h1,_⟩:=mem_ready.1 this;obtain⟨h2,h3⟩:=FM.1 h1;obtain⟨h4,h5⟩:=IA.1 (dq i h2);rw[h3]at h5;cases h5
 |succ eg ih=>
  intro C listed q E S a w ic hc;obtain⟨ef,Hf,hC⟩:=ic.good.some;refine⟨λhr=>done ef Hf (ic.cls ef Hf hC) listed q E S a w (ic.inv ef Hf hC) (qtR ef Hf listed q E S a w (ic.inv ef Hf hC) hr),λi hi=>?_⟩;refine qnR ic ok hlen yl MA hi λa' w' E' q' S' C' ic'=>ih C' _ q' E' S' a' w' ic' ?_
  have:=count_set (mem_ready.1 hi).1;omega
end
def P8:List Nat->List Nat
 |[]=>[]
 |x::xs=>if xs.contains x then P8 xs else x::P8 xs
def qdm:List (List Nat)->List (List Nat)->List (List Nat)
 |[],acc=>acc
 |a::as,acc=>qdm as (acc++[P8 (a++a.flatMap λs=>(acc[s]?).getD [])])
def XP:K->Bool
 |.new _=>true
 |_=>false
def qtL:O'->List V
 |⟨_,_,.new z⟩=>[z]
 |_=>[]
def Oo:List V->Bool
 |[]=>true
 |z::zs=>decide (0<z.size)&&Oo zs
def qj8:∀{zs:List V},Oo zs=true->∀z,z∈zs->0<z.size
 |[],_,z,h=>by cases h
 |z0::zs,h,z,hz=>by
  simp only[Oo,cT,dT]at h;rcases dU.1 hz with rfl|hz
  .exact h.1
  .exact qj8 h.2 z hz
def Zi(ds:List D)(n:Nat):Bool:=(List.range ds.length).all λi=>match tU ds i with
 |some s=>decide (s<n)
 |none=>true
def qwJ{ds:List D}{n:Nat}(h:Zi ds n=true):∀i s,tU ds i=some s->s<n:=λi s hs=>by
 unfold Zi at h;simp only[fR,E7]at h;have:=h i (qkc hs);rw[hs]at this;simpa using this
section
universe u
variable {α:Sort u}
def xN(n:Nat)(k:Nat->α):α:=match n with
 |0=>k 0
 |m+1=>k (m+1)
def xB(b:Bool)(k:Bool->α):α:=match b with
 |true=>k true
 |false=>k false
def xL:List Nat->(List Nat->α)->α
 |[],k=>k []
 |n::l,k=>xN n λn=>xL l λl=>k (n::l)
def xO(o:Option Nat)(k:Option Nat->α):α:=match o with
 |none=>k none
 |some n=>xN n λn=>k (some n)
def xD(d:D)(k:D->α):α:=xB d.w λw=>xO d.slot λs=>xB d.chk λc=>xL d.oz λa=>xN d.lo λlo=>xN d.hi λhi=>k ⟨d.o,w,s,c,a,lo,hi⟩
def Tv:List D->(List D->α)->α
 |[],k=>k []
 |d::l,k=>xD d λd=>Tv l λl=>k (d::l)
def xS{β:Type}:List β->(List β->α)->α
 |[],k=>k []
 |d::l,k=>xS l λl=>k (d::l)
theorem qaj(n:Nat)(k:Nat->α):xN n k=k n:=by cases n<;>rfl
theorem qzC(b:Bool)(k:Bool->α):xB b k=k b:=by cases b<;>rfl
theorem qlr:∀(l:List Nat) (k:List Nat->α),xL l k=k l
 |[],k=>rfl
 |n::l,k=>by rw[xL,qaj,qlr l]
theorem qzD(o:Option Nat)(k:Option Nat->α):xO o k=k o:=by cases o<;>simp only[xO,qaj]
theorem qlq:∀(l:List D) (k:List D->α),Tv l k=k l
 |[],k=>rfl
 |d::l,k=>by simp only[Tv,xD,qzC,qzD,qlr,qaj,qlq l]
theorem Tz{β:Type}:∀(l:List β) (k:List β->α),xS l k=k l
 |[],k=>rfl
 |d::l,k=>by rw[xS,Tz l]
end
def ze(P:aG)(N:Nat)(ops:Array Oper):Option (List D×List V):=
 match ops.toList.mapM (tf P N ops) with
 |none=>none
 |some os=>
  let as:=qdm ((List.range ops.size).map (lj ops)) []
  let ws:=os.map λo=>o.k.writes&&!XP o.k
  let wi:=(List.range os.length).filter λi=>(ws[i]?).getD false
  let ds:=os.mapIdx λj o=>
   let oz:=(as[j]?).getD []
   let w:=(ws[j]?).getD false
   let p:=((ws.take j).filter id).length
   let lo:=if w then p else(wi.takeWhile λi=>oz.contains i).length
   let hi:=if w then p else(wi.takeWhile λi=>!((as[i]?).getD []).contains j).length
   let slot:=if XP o.k then some ((os.take j).filter λo=>XP o.k).length else none
   { o:=o,w:=w,slot:=slot,chk:=slot.isSome||(!w&&o.k.reads&&decide (lo<hi)),oz:=oz,lo:=lo,hi:=hi:D }
  let zs:=os.flatMap qtL
  Tv ds λds=>xS zs λzs=>if P4 P N ops ds=true/\P.follows .mixedOrders=true/\Oo zs=true/\Zi ds zs.length=true then some (ds,zs) else none
def eZ(base:Nat)(ef:ae)(d:D):List St->Prop
 |[]=>True
 | T::Ts=>(match d.slot with
  |some s=>match d.o.k with
   |.new z=>T[base+s]?=some (.arr [z] z.size 1)/\0<z.size/\(z.cells.all V.flat)=true
   |_=>False
  |none=>∃v,cf ef T d.o.k=some (v,T)/\∀t,d.o.dst=some t->ef.get t=some v)/\eZ base ef d Ts
def eF(base:Nat)(ef:ae)(H:List St):List D->Prop
 |[]=>True
 | d::ds=>(if (d.chk && !d.w)=true then match jT ef d.o.g with
   |some true=>eZ base ef d ((H.drop d.lo).take (d.hi+1-d.lo))
   |_=>True
  else True)/\eF base ef H ds
def qd3{base:Nat}{ef:ae}{d:D}:∀{Ts:List St},eZ base ef d Ts->∀T,T∈Ts->match d.slot with
  |some s=>match d.o.k with
   |.new z=>T[base+s]?=some (.arr [z] z.size 1)/\0<z.size/\(z.cells.all V.flat)=true
   |_=>False
  |none=>∃v,cf ef T d.o.k=some (v,T)/\∀t,d.o.dst=some t->ef.get t=some v
 |[],_,T,h=>by cases h
 |T0::Ts,⟨h1,h2⟩,T,h=>by
  rcases dU.1 h with rfl| h
  .exact h1
  .exact qd3 h2 T h
def qd2{base:Nat}{ef:ae}{H:List St}:∀{ds:List D},eF base ef H ds->Vp base ef H ds
 |[],_,d,h,_,_,_=>by cases h
 |d0::ds,⟨h1,h2⟩,d,h,hc,hw,hg=>by
  rcases dU.1 h with rfl| h
  .rw[ak (by simp[hc,hw]),hg]at h1;intro q oL hhi T hT;refine qd3 h1 T ?_
   have:((H.drop d.lo).take (d.hi+1-d.lo))[q-d.lo]?=some T:=by
    rw[qx oM,qw,show d.lo+(q-d.lo)=q by omega];exact hT
   exact dZ this
  .exact qd2 h2 d h hc hw hg
def dP(base:Nat)(ds:List D)(Q:ae->St->Prop)(ef:ae)(H:List St):Prop:=
 eF base ef H ds/\match H.getLast? with
  |some S=>Q ef S
  |none=>False
def qgZ{α β:Type}{f:α->Option β}:∀{l:List α} {r:List β},l.mapM f=some r->r.length=l.length/\∀(i:Nat) (x:α) (y:β),l[i]?=some x->r[i]?=some y->f x=some y
 |[],r,h=>by simp at h;subst h;exact⟨rfl,λi x y h=>by simp at h⟩
 |a::l,r,h=>by
  simp only[vW,wc]at h
  cases ha:f a with
  |none=>rw[ha]at h;simp at h
  |some b=>
   rw[ha]at h
   cases hl:l.mapM f with
   |none=>rw[hl]at h;simp at h
   |some bs=>
    rw[hl]at h;simp at h;subst h;obtain⟨h1,h2⟩:=qgZ hl;refine⟨by simp[h1],λi x y hx hy=>?_⟩
    cases i with
    |zero=>simp at hx hy;subst hx;subst hy;exact ha
    |succ i=>exact h2 i x y (by simpa using hx) (by simpa using hy)
def qlf{ds:List D}:(jB ds).length=ds.countP λd=>d.w:=by
 unfold jB;rw[<-List.countP_eq_length_filter]
 have:∀(l:List D) (k:Nat),List.countP (λi=>((k+l.length)-(k+l.length)=0)&&((l[i]?.map D.w).getD false)) (List.range l.length)=l.countP λd=>d.w:=by
  intro l
  induction l with
  |nil=>intro k;rfl
  |cons d l ih=>
   intro k
   have h1:List.range (d::l).length=0::(List.range l.length).map (·+1):=by
    rw[gq,List.range_succ_eq_map]
   rw[h1,An,List.countP_map,An];have:=ih 0;simp at this |-;rw[<-this];rfl
 have h:=this ds 0;simpa using h
def Vn{P:aG}{N:Nat}{ops:Array Oper}{ds:List D}{zs:List V}(h:ze P N ops=some (ds,zs)):
  P.follows .mixedOrders=true/\P4 P N ops ds=true/\Oo zs=true/\(∀i s,tU ds i=some s->s<zs.length)/\∀(j:Nat) (d:D) (o:Oper),ds[j]?=some d->ops[j]?=some o->tf P N ops o=some d.o:=by
 unfold ze at h;split at h
 .cases h
 .rename_i os wY;simp only[qlq,Tz]at h;split at h
  .rename_i hc;obtain⟨hc,hm,hz,hs⟩:=hc;simp only[Option.some.injEq,Prod.mk.injEq]at h;obtain⟨rfl,rfl⟩:=h;refine⟨hm,hc,hz,qwJ hs,λj d o hj ho=>?_⟩;rw[List.getElem?_mapIdx]at hj;simp only[ep]at hj;obtain⟨o',fC,rfl⟩:=hj;exact(qgZ wY).2 j o o' (by simpa using ho) fC
  .cases h
def qej{P:aG}{N n0 m0:Nat}{ro:Option Nat}{n:Nat}{ops:Array Oper}{Q:dV}{ds:List D}{zs:List V}{E:En}{e:ae}{S:St}{a:Act}{w:aP}
  (hc:ze P N ops=some (ds,zs)) (hr:Rel N n0 m0 E e S a w)
  (h:ik P S.length ds (dP S.length ds (Q .normal)) e (S++iW zs) [S++iW zs]):wpAnyIn (lA ro) n P .any ops (Up N n0 m0 E S w Q) ops.size (Array.replicate ops.size false) a { w with drawn:=w.drawn+1 }:=by
 obtain⟨hm,hcd,hz,qrH,MA⟩:=Vn hc;obtain⟨hlen,fE⟩:=qnn hcd;obtain⟨p1,p2⟩:=(hr.sr.heap (w':={ w with drawn:=w.drawn+1 }) rfl).qhB zs (qj8 hz);have qfk:bT n0 E S w E (S++iW zs) { w with drawn:=w.drawn+1 }:=(bT.heap (w:=w) (w':={ w with drawn:=w.drawn+1 }) n0 rfl rfl).trans (p2 n0);obtain⟨C,hC,yf⟩:=Qe (e0:=e) fE ds 0 e (S++iW zs) [S++iW zs] sM (by simp[pos]) (by simp[pos]) (λ_ _=>rfl) h;rw[<-qlf,show pos ds 0=0 by simp[pos]]at yf
 have QT:∀i,(Array.replicate ops.size false).getD i false=false:=λi=>by
  simp only[Array.getD];split<;>simp
 refine qnP (base:=S.length) (e0:=e) fE hlen hr.base MA ops.size C (Array.replicate ops.size false) 0 E (S++iW zs) a { w with drawn:=w.drawn+1 } ⟨λef Hf hc=>?_,λef Hf hc=>?_,yf,λef Hf jX mI _ _ i t hl _=>(by rw[QT]at hl;cases hl)⟩ sM
 .obtain⟨⟨h1,h2⟩,Je⟩:=hC ef Hf hc;obtain⟨T,tm,uR⟩:=Fe ds _ _ _ _ _ Je;refine⟨λj d hj=>qcR (np:=lj ops) fE ds 0 e (S++iW zs) [S++iW zs] ef Hf sM (by simp[pos]) (by simp[pos]) Je (λ_ _=>rfl) j d (fS _) hj,qd2 h1,λS' LU=>by rw[LU]at h2;exact h2,by rw[tm,qlf];simp[uR,Nat.add_comm],λt ht=>?_⟩
  exact Fb ds _ _ _ _ _ Je λd hd j7=>by
   obtain⟨i,hi⟩:=oY hd;exact ht i (by simp[gg,hi,j7])
 .obtain⟨_,Je⟩:=hC ef Hf hc;obtain⟨T,tm,uR⟩:=Fe ds _ _ _ _ _ Je;refine⟨by simp[hlen],λj d _ hl=>(by rw[QT]at hl;cases hl),λp i _=>(by rw[QT i];simp),fS _,by rw[tm];simp,λt v hv dq=>?_,λt v hv _=>hr.tmps t v hv,λi s _ _ st=>?_,hr.size,uH.step qfk hr.defers,p1,sM,λi s hs=>by simp[iW];exact qrH i s hs,qfk⟩
  .have:ef.get t=e.get t:=Fb ds _ _ _ _ _ Je λd hd j7=>by
    obtain⟨i,hi⟩:=oY hd;have:=dq i (by simp[gg,hi,j7]);rw[QT]at this;cases this
   rw[this]at hv;exact hr.tmps t v hv
  .cases hx:E.ρ (S.length+s) st with
   |none=>rfl
   |some x=>exact absurd (hr.sr.jI _ _ _ hx) oM
def qnQ{P:aG}{N n0 m0:Nat}{ro:Option Nat}{n id:Nat}{ops:Array Oper}{Q:dV}{ds:List D}{zs:List V}{E:En}{e:ae}{S:St}{a:Act}{w:aP}
  (hc:ze P N ops=some (ds,zs)) (hr:Rel N n0 m0 E e S a w)
  (h:ik P S.length ds (dP S.length ds (Q .normal)) e (S++iW zs) [S++iW zs]):(Code.region id ops true).wpIn (lA ro) n P (Up N n0 m0 E S w Q) a w:=
 wpIn_region_any (Vn hc).1 (qej hc hr h)
def Vk(m:Nat)(np:Nat->List Nat):Nat->List Nat->List Nat
 |0,S=>S
 |n+1,S=>Vk m np n ((List.range m).filter λi=>S.contains i||S.any λs=>(np s).contains i)
def qdL{m:Nat}{np:Nat->List Nat}{C:Np}(hC:∀s,C s->∀r,r∈np s->C r):∀(n:Nat) (S:List Nat),(∀s,s∈S->C s)->∀s,s∈Vk m np n S->C s
 |0,S,h=>h
 |n+1,S,h=>qdL hC n _ λs hs=>by
  simp only[qW,CC,List.contains_iff_mem,Am]at hs;rcases hs.2 with h1|⟨r,h1,h2⟩
  .exact h s h1
  .exact hC r (h r h1) s h2
def NC(ops:Array Oper):Bool:=
 let m:=ops.size-1
 let S:=Vk m (lj ops) m (lj ops m)
 (List.range m).all (λi=>S.contains i) && (lj ops m).all (λr=>decide (r<m)) && (List.range m).all (λi=>(lj ops i).all (λr=>decide (r<i)) && match ops[i]? with
  |some o=>match o.guard with
   |none=>true
   |some (j,_)=>decide (j<m)
  |none=>false)
def Oper.wpIn_exit{F:Fence}{n:Nat}{P:aG}{o:Oper}{a:Act}{w:aP}{K:Act->World->Prop}{Q Q':Exit->Act->World->Prop}(hq:∀x a w,x≠.normal->Q x a w->Q' x a w)(h:o.wpIn F n P a w K Q):o.wpIn F n P a w K Q':=by
 obtain⟨h1,h2⟩:=h;have MQ:LetsOut Q->LetsOut Q':=λ⟨a,w,h⟩=>⟨a,w,hq _ _ _ sM h⟩
 refine⟨h1,?_⟩;generalize (o.semAt F.round a.eval).run P w=r at h2 |-
 cases r with
 |ok nx w'=>
  cases nx<;>simp only[Oper.uponIn]at h2 |-
  case value v=>exact h2
  case skip=>exact h2
  case defer d=>exact h2
  case enter f args=>exact⟨h2.1,h2.2.mono λe rL he=>by cases e<;>first|exact he|exact hq _ _ _ sM he|exact MQ he⟩
  case row r args=>exact⟨h2.1,h2.2.mono λv rL he=>he⟩
  case round l f t x y=>exact⟨h2.1,h2.2.mono λe rL he=>by cases e<;>first|exact he|exact hq _ _ _ sM he|exact MQ he⟩
 |halt x w'=>
  cases x<;>simp only[Oper.uponIn]at h2 |-
  case panic v=>exact hq _ _ _ sM h2
def Jq(F:Fence)(n:Nat)(P:aG)(ops:Array Oper)(Q:Exit->Act->World->Prop):Exit->Act->World->Prop
 |.normal,a,w=>wpOpIn F n P ops Q (ops.size-1) (Q .normal) a w
 |x,a,w=>Q x a w
def JK{l:Array Bool}{i:Nat}(d:Bool)(hi:i<l.size):(l.push false).getD i d=l.getD i d:=by
 simp only[Array.getD];rw[dif_pos hi,dif_pos (by simp;omega)];simp[Array.getElem_push_lt hi]
def qmg{F:Fence}{n:Nat}{P:aG}{cN:Array Oper}{o:Oper}{Q:Exit->Act->World->Prop}(dq:NC (cN.push o)=true):
  ∀(eg:Nat) (l:Array Bool) (a:Act) (w:aP),l.size=cN.size->(∀s,l.getD s false=true->∀r,r∈lj (cN.push o) s->l.getD r false=true)->l.toList.count false<=eg->
   wpAnyIn F n P .any cN (Jq F n P (cN.push o) Q) eg l a w->wpAnyIn F n P .any (cN.push o) Q (eg+1) (l.push false) a w:=by
 have hm:(cN.push o).size-1=cN.size:=sM;simp only[NC,hm,cT,fR,E7,List.contains_iff_mem,dT]at dq;obtain⟨⟨lJ,qfB⟩,pB⟩:=dq;have ho:(cN.push o)[cN.size]?=some o:=sM;have lK:∀i,i<cN.size->(cN.push o)[i]?=cN[i]?:=λi hi=>by rw[xA,au oM]
 have IU:∀i o',(cN.push o)[i]?=some o'->∀e,e∈o'.after->Region.binds .any e=true->e.on∈lj (cN.push o) i:=λi o' fC e he hb=>by
  simp only[lj,fC,cY,qW];exact⟨e,⟨by simpa using he,hb⟩,rfl⟩
 have qrX:∀l:Array Bool,l.size=cN.size->(∀s,l.getD s false=true->∀r,r∈lj (cN.push o) s->l.getD r false=true)->cN.size∈Region.ready .any (cN.push o) (l.push false)->∀i,i<cN.size->l.getD i false=true:=by
  intro l hl Me hr i hi;obtain⟨_,o',fC,hh⟩:=mem_ready.1 hr;rw[ho]at fC;cases fC;refine qdL (C:=λs=>l.getD s false=true) Me cN.size (lj (cN.push o) cN.size) (λs hs=>?_) i (lJ i hi);have aN:=qfB s hs;simp only[lj,ho,cY,qW]at hs;obtain⟨e,⟨he,hb⟩,rfl⟩:=hs;have:=hh e (by simpa using he) hb;rw[JK _ (by rw[hl];exact aN)]at this;exact this
 have Xi:∀l:Array Bool,l.size=cN.size->∀i,i<cN.size->(i∈Region.ready .any (cN.push o) (l.push false)↔i∈Region.ready .any cN l):=by
  intro l hl i hi;rw[mem_ready,mem_ready,lK i hi,JK _ oM]
  have qe9:∀o',cN[i]?=some o'->∀e∈o'.after,Region.binds .any e=true->e.on<cN.size:=by
   intro o' fC e he hb;have:=(pB i hi).1 e.on (IU i o' (by rw[lK i hi];exact fC) e he hb);omega
  constructor
  .rintro⟨h1,o',h2,h3⟩
   exact ⟨h1,o',h2,λe he hb=>by
    have:=h3 e he hb;rw[JK _ (by rw[hl];exact qe9 o' h2 e he hb)]at this;exact this⟩
  .rintro⟨h1,o',h2,h3⟩
   exact ⟨h1,o',h2,λe he hb=>by
    rw[JK _ (by rw[hl];exact qe9 o' h2 e he hb)];exact h3 e he hb⟩
 have qfS:∀(l:Array Bool) (i:Nat),i∈Region.ready .any (cN.push o) (l.push false)->i<cN.size\/i=cN.size:=λl i hi=>by
  obtain⟨_,o',fC,_⟩:=mem_ready.1 hi;have:=(kQ.1 fC).1;simp at this;omega
 have MV:∀l:Array Bool,l.size=cN.size->Region.ready .any cN l=[]->∀i,i<cN.size->l.getD i false=true:=by
  intro l hl hr i
  induction i using Nat.strongRecOn with
  |ind i ih=>
   intro hi
   cases hb:l.getD i false with
   |true=>rfl
   |false=>
    exfalso;have hoi:cN[i]?=some (cN[i]'hi):=sM
    have kH:i∈Region.ready .any cN l:=by
     refine mem_ready.2 ⟨?_,_,hoi,λe he L8=>?_⟩
     .have MG:i<l.size:=oM;simp only[Array.getD,MG,dif_pos]at hb |-;exact hb
     .have aB:=(pB i hi).1 e.on (IU i _ (by rw[lK i hi];exact hoi) e he L8);exact ih _ aB oM
    rw[hr]at kH;cases kH
 have qfC:∀l:Array Bool,l.size=cN.size->(∀i,i<cN.size->l.getD i false=true)->cN.size∈Region.ready .any (cN.push o) (l.push false):=by
  intro l hl dq;refine mem_ready.2 ⟨by simp[Array.getD,hl,Array.getElem_push],o,ho,λe he hb=>?_⟩;have aB:=qfB e.on (IU _ o ho e he hb);rw[JK _ oM];exact dq _ aB
 have qqA:∀(eg:Nat) (l:Array Bool) (a:Act) (w:aP),l.size=cN.size->(∀i,i<cN.size->l.getD i false=true)->Q .normal a w->wpAnyIn F n P .any (cN.push o) Q eg ((l.push false).setIfInBounds cN.size true) a w:=by
  intro eg l a w hl dq hQ
  have qfi:Region.ready .any (cN.push o) ((l.push false).setIfInBounds cN.size true)=[]:=by
   cases hr:Region.ready .any (cN.push o) ((l.push false).setIfInBounds cN.size true) with
   |nil=>rfl
   |cons i r=>
    exfalso;have hi:i∈Region.ready .any (cN.push o) ((l.push false).setIfInBounds cN.size true):=by rw[hr];simp
    obtain⟨h1,o',fC,_⟩:=mem_ready.1 hi;have aB:=(kQ.1 fC).1;simp only[Array.size_push]at aB
    have qrT:((l.push false).setIfInBounds cN.size true).getD i false=true:=by
     rw[Ew (by simp;omega)];by_cases MG:i=cN.size
     .exact .inl MG
     .right;rw[JK _ oM];exact dq i oM
    obtain⟨h2,h3⟩:=FM.1 h1;obtain⟨h4,h5⟩:=IA.1 qrT;rw[h3]at h5;cases h5
  cases eg with
  |zero=>exact⟨qfi,hQ⟩
  |succ f=>exact⟨λ_=>hQ,λi hi=>by rw[qfi]at hi;cases hi⟩
 have qrj:∀{i:Nat} {K K':Act->World->Prop} {a:Act} {w:aP},(∀a w,K a w->K' a w)->wpOpIn F n P (cN.push o) Q i K a w->wpOpIn F n P (cN.push o) Q i K' a w:=by
  intro i K K' a w hK h;unfold wpOpIn at h |-;split
  .rename_i h1;rw[h1]at h;exact hK _ _ h
  .rename_i o1 h1;rw[h1]at h;simp only at h;split
   .rename_i hw;rw[ak hw]at h;exact Oper.wpIn_mono hK h
   .rename_i hw;rw[au hw]at h;exact⟨h.1,hK _ _ h.2⟩
 have last:∀(eg:Nat) (l:Array Bool) (a:Act) (w:aP),l.size=cN.size->(∀i,i<cN.size->l.getD i false=true)->Jq F n P (cN.push o) Q .normal a w->
   wpOpIn F n P (cN.push o) Q cN.size (wpAnyIn F n P .any (cN.push o) Q eg ((l.push false).setIfInBounds cN.size true)) a w:=by
  intro eg l a w hl dq h;simp only[Jq,hm]at h;exact qrj (λa w hq=>qqA eg l a w hl dq hq) h
 intro eg
 induction eg with
 |zero=>
  intro l a w hl Me hc h;obtain⟨h1,h2⟩:=h;have dq:=MV l hl h1;refine⟨λhr=>?_,λi hi=>?_⟩
  .have:=qfC l hl dq;rw[hr]at this;cases this
  .rcases qfS l i hi with aB|rfl
   .rw[Xi l hl i aB,h1]at hi;cases hi
   .exact last 0 l a w hl dq h2
 |succ eg ih=>
  intro l a w hl Me hc h;obtain⟨h1,h2⟩:=h;refine⟨λhr=>?_,λi hi=>?_⟩
  .have jx:Region.ready .any cN l=[]:=by
    cases hq:Region.ready .any cN l with
    |nil=>rfl
    |cons j r=>
     exfalso;have hj:j∈Region.ready .any cN l:=by rw[hq];simp
     obtain⟨_,o',fC,_⟩:=mem_ready.1 hj;have aB:=(kQ.1 fC).1;rw[<-Xi l hl j aB,hr]at hj;cases hj
   have:=qfC l hl (MV l hl jx);rw[hr]at this;cases this
  .rcases qfS l i hi with aB|rfl
   .have eI:=(Xi l hl i aB).1 hi;have gk:=h2 i eI;obtain⟨rp,o1,Q5,_⟩:=mem_ready.1 eI
    have mP:(l.push false).setIfInBounds i true=(l.setIfInBounds i true).push false:=by
     apply HB;intro j;rw[Array.getElem?_setIfInBounds,xA,xA,Array.getElem?_setIfInBounds];simp only[Array.size_push,Array.size_setIfInBounds];by_cases pC:i=j
     .subst pC;rw[ak rfl,ak oM,au oM,ak rfl,ak oM]
     .rw[au pC,au pC]
    have ir:∀a' w',wpAnyIn F n P .any cN (Jq F n P (cN.push o) Q) eg (l.setIfInBounds i true) a' w'->wpAnyIn F n P .any (cN.push o) Q (eg+1) ((l.push false).setIfInBounds i true) a' w':=by
     intro a' w' h';rw[mP];refine ih _ a' w' (by simpa using hl) (λs hs r hr=>?_) ?_ h'
     .rw[Ew oM]at hs |-;rcases hs with rfl|hs
      .right;obtain⟨_,o2,wW,Wy⟩:=mem_ready.1 eI;simp only[lj,lK s aB,wW,cY,qW]at hr;obtain⟨e,⟨he,hb⟩,rfl⟩:=hr;exact Wy e (by simpa using he) hb
      .exact .inr (Me s hs r hr)
     .have:=count_set rp;omega
    unfold wpOpIn at gk |-;rw[lK i aB,Q5];rw[Q5]at gk;simp only at gk |-
    have tH:Region.wanted o1 (yielded (cN.push o) a.tmps)=Region.wanted o1 (yielded cN a.tmps):=by
     have hg:=(pB i aB).2;rw[lK i aB,Q5]at hg;simp only at hg;unfold Region.wanted;split
     .rfl
     .rename_i j want hgj;rw[hgj]at hg;simp only[dT]at hg;simp only[yielded,lK j hg]
    rw[tH];split
    .rename_i hw;rw[ak hw]at gk;refine Oper.wpIn_exit (λx a w hx hq=>?_) (Oper.wpIn_mono ir gk);cases x<;>first|exact absurd rfl hx|exact hq
    .rename_i hw;rw[au hw]at gk;exact⟨gk.1,ir _ _ gk.2⟩
   .have dq:=qrX l hl Me hi
    have jx:Region.ready .any cN l=[]:=by
     cases hq:Region.ready .any cN l with
     |nil=>rfl
     |cons j r=>
      exfalso;have hj:j∈Region.ready .any cN l:=by rw[hq];simp
      obtain⟨h3,o',fC,_⟩:=mem_ready.1 hj;have aB:=(kQ.1 fC).1;obtain⟨h4,h5⟩:=FM.1 h3;obtain⟨h6,h7⟩:=IA.1 (dq j aB);rw[h5]at h7;cases h7
    exact last (eg+1) l a w hl dq (h1 jx)
def PM{F:Fence}{n:Nat}{P:aG}{ops:Array Oper}{md:Region.Mode}{Q Q':Exit->Act->World->Prop}(hq:∀x a w,Q x a w->Q' x a w):∀(eg:Nat) (l:Array Bool) (a:Act) (w:aP),wpAnyIn F n P md ops Q eg l a w->wpAnyIn F n P md ops Q' eg l a w
 |0,l,a,w,h=>⟨h.1,hq _ _ _ h.2⟩
 |eg+1,l,a,w,h=>by
  refine⟨λhr=>hq _ _ _ (h.1 hr),λi hi=>?_⟩;have gk:=h.2 i hi;unfold wpOpIn at gk |-;split
  .rename_i h1;rw[h1]at gk;exact PM hq eg _ _ _ gk
  .rename_i o1 h1;rw[h1]at gk;simp only at gk;split
   .rename_i hw;rw[ak hw]at gk;exact Oper.wpIn_exit (λx a w _ hx=>hq x a w hx) (Oper.wpIn_mono (λa w hx=>PM hq eg _ _ _ hx) gk)
   .rename_i hw;rw[au hw]at gk;exact⟨gk.1,PM hq eg _ _ _ gk.2⟩
def DU(P:aG)(o':O')(Q:dV):dV
 |.normal,e,S=>eM P [o'] (Q .normal) e S
 |x,e,S=>Q x e S
def qnS{P:aG}{N n0 m0:Nat}{ro:Option Nat}{n id:Nat}{ops:Array Oper}{Q:dV}{ds:List D}{zs:List V}{o:Oper}{o':O'}{E:En}{e:ae}{S:St}{a:Act}{w:aP}
  (hc:ze P N ops=some (ds,zs)) (dq:NC (ops.push o)=true) (ho:tf P N (ops.push o) o=some o') (hr:Rel N n0 m0 E e S a w)
  (h:ik P S.length ds (dP S.length ds (DU P o' Q .normal)) e (S++iW zs) [S++iW zs]):(Code.region id (ops.push o) true).wpIn (lA ro) n P (Up N n0 m0 E S w Q) a w:=by
 refine wpIn_region_any (Vn hc).1 ?_;have h1:=qej (ro:=ro) (n:=n) (Q:=DU P o' Q) hc hr h
 have h2:=PM (Q':=Jq (lA ro) n P (ops.push o) (Up N n0 m0 E S w Q)) (λx a1 w1 hx=>by
  cases x<;>try exact hx
  obtain⟨E',e',S',r,xt,q⟩:=hx;have hw:=EL (n:=n) (ro:=ro) (Q:=Q) (ops:=ops.push o) [o] [o'] E' e' S' a1 w1 (by simp[ho]) r q;have hw:=xw (Q':=Up N n0 m0 E S w Q) (λx a' rL hq=>hq.back xt) hw;simp only[Jq,Array.size_push,Nat.add_sub_cancel];unfold wpOpIn;rw[show(ops.push o)[ops.size]?=some o by simp];exact hw) ops.size _ a _ h1
 have h3:=qmg dq ops.size (Array.replicate ops.size false) a _ sM (λs hs=>by
  have:(Array.replicate ops.size false).getD s false=false:=by
   simp only[Array.getD];split<;>simp
  rw[this]at hs;cases hs) sM h2
 rw[Array.size_push,Array.replicate_succ];exact h3
inductive C' where
 |skip
 |reg (ops:List O')
 |draw (ds:List D) (zs:List V)
 |FB (ds:List D) (zs:List V) (o:O')
 |seq (a b:C')
 |cond (c:bK) (a b:C')
 |block (id:Nat) (c:C')
 |scope (c:C')
 |loop (c:C')
 |exit (id:Nat)
 |ret
 |bad
 |rf (g:bK) (ps:List Nat) (cV body:Code) (ca cb:C') (N:Nat) (ts:List Nat)
 deriving Inhabited
def C'.jc:C'->Bool
 |.seq a b|.cond _ a b=>a.jc&&b.jc
 |.block _ c|.scope c|.loop c=>c.jc
 |.rf ..=>false
 |_=>true
def C'.Ht:C'->List Nat
 |.reg ops=>ops.flatMap O'.tmps
 |.draw ds _=>ds.flatMap λd=>d.o.tmps
 |.FB ds _ o=>(ds.flatMap λd=>d.o.tmps)++o.tmps
 |.seq a b=>a.Ht++b.Ht
 |.cond c a b=>c.tmps++a.Ht++b.Ht
 |.block _ c|.scope c|.loop c=>c.Ht
 |_=>[]
def qud:K->Bool
 |.call ..=>true
 |.ex (.qN _)=>true
 |.ex (.eqn ..)=>true
 |_=>false
def Qd(P:aG)(N:Nat)(ops:Array Oper):Option (List D×List V×O'):=
 match ops.back? with
 |none=>none
 |some o=>if NC ops=true then match tf P N ops o with
   |some o'=>if qud o'.k=true then(ze P N ops.pop).map λp=>(p.1,p.2,o') else none
   |none=>none
  else none
def qnO{P:aG}{N:Nat}{ops:Array Oper}{ds:List D}{zs:List V}{o':O'}(h:Qd P N ops=some (ds,zs,o')):∃cN o,ops=cN.push o/\NC (cN.push o)=true/\tf P N (cN.push o) o=some o'/\ze P N cN=some (ds,zs):=by
 unfold Qd at h;split at h
 .cases h
 .rename_i o ho;split at h<;>try cases h
  rename_i hl;split at h<;>try cases h
  rename_i o1 hc;split at h<;>try cases h
  cases hp:ze P N ops.pop with
  |none=>rw[hp]at h;cases h
  |some p=>
   rw[hp]at h;simp only[fG,Option.some.injEq,Prod.mk.injEq]at h;obtain⟨h1,h2,h3⟩:=h
   have Xe:ops=ops.pop.push o:=by
    obtain⟨l⟩:=ops;rw[Array.back?_eq_getElem?]at ho;obtain⟨aB,ho⟩:=kQ.1 ho;apply HB;intro j;rw[xA];simp only[Array.size_pop];split
    .rename_i hj;subst hj;rw[<-ho];simp
    .rename_i hj;rw[Array.getElem?_pop];split
     .rfl
     .rw[HC oM]
   refine⟨ops.pop,o,Xe,by rw[<-Xe];exact hl,by rw[<-Xe,<-h3];exact hc,by rw[hp,<-h1,<-h2]⟩
def comp(P:aG)(N:Nat):Code->Option C'
 |.skip=>some .skip
 |.label _=>some .skip
 |.region _ ops draw=>if draw then match Qd P N ops with
   |some p=>some (.FB p.1 p.2.1 p.2.2)
   |none=>match ze P N ops with
    |some p=>some (.draw p.1 p.2)
    |none=>some .bad
  else match ops.toList.mapM (tf P N ops) with
   |some l=>xS l λl=>some (.reg l)
   |none=>some .bad
 |.seq a b=>match comp P N a,comp P N b with
  |some a,some b=>some (.seq a b)
  |_,_=>none
 |.cond c a b=>match cw c,comp P N a,comp P N b with
  |some c,some a,some b=>some (.cond c a b)
  |_,_,_=>none
 |.block id c=>(comp P N c).map (.block id)
 |.scope c=>(comp P N c).map .scope
 |.loop c=>(comp P N c).map .loop
 |.exit id=>some (.exit id)
 |.ret=>some .ret
 |.rangeFunc f ps cV body=>match cw f,comp P N cV,comp P N body with
  |some g,some ca,some cb=>if(ca.jc&&cb.jc&&ps.toList.all λp=>decide (p<N))=true then some (.rf g ps.toList cV body ca cb N (P8 (ca.Ht++cb.Ht))) else some .bad
  |_,_,_=>some .bad
 |_=>some .bad
def lS(N:ae->St->Prop)(Q:dV):dV
 |.normal,e,S=>N e S
 |x,e,S=>Q x e S
def yG(id:Nat)(Q:dV):dV
 |.exit id',e,S=>if id'=id then Q .normal e S else Q (.exit id') e S
 |x,e,S=>Q x e S
def G2(Q:dV):dV
 |.goto _,_,_=>False
 |x,e,S=>Q x e S
def JU{P:aG}{b:Frame}{a:Act}{k:List Item}{cs:List Frame}{w:aP}{c:Code}:step P (lone (b.atR a (.code (.scope c)::k)) cs w)=.next (lone (b.atR a (.code c::.inScope c::k)) cs w):=
 step_lone_go (by simp[stepG,stepG.exec,Frame.atR])
def qyx{P:aG}{b:Frame}{a:Act}{k:List Item}{cs:List Frame}{w:aP}{c:Code}:step P (lone (b.atR a (.inScope c::k)) cs w)=.next (lone (b.atR a k) cs w):=
 step_lone_go (by simp[stepG,stepG.exec,Frame.atR])
def qzr{F:Fence}{n:Nat}{P:aG}{c:Code}{Q:Exit->Act->World->Prop}{a:Act}{w:aP}(h:c.wpIn F n P (Exit.noGoto Q) a w):(Code.scope c).wpIn F n P Q a w:=by
 intro b k cs nX hb hr;have h0:(lone (b.atR a (.code (.scope c)::k)) cs w).fenced P F:=fenced_calm hb hr rfl;obtain⟨e,a₁,w₁,hq,IV⟩:=h b (.inScope c::k) cs nX hb hr
 cases e with
 |normal=>exact⟨.normal,a₁,w₁,hq,.head h0 JU (StepsIn.trans IV (.one (fenced_calm hb hr rfl) qyx))⟩
 |exit id'=>
  have hx:exitTo id' (.inScope c::k)=exitTo id' k:=by simp[exitTo]
  exact ⟨.exit id',a₁,w₁,hq,λk' hk=>.head h0 JU (IV.1 k' (by rw[hx];exact hk)),
   λjx hk=>let ⟨k₁,h1,h2⟩:=IV.2 jx (by rw[hx];exact hk);⟨k₁,h1,.head h0 JU h2⟩⟩
 |goto l=>exact hq.elim
 |ret=>exact⟨_,a₁,w₁,hq,.of_steps (.one h0 JU) IV⟩
 |panic ch=>exact⟨_,a₁,w₁,hq,.of_steps (.one h0 JU) IV⟩
 |outgrown=>exact⟨_,a₁,w₁,hq,.of_steps (.one h0 JU) IV⟩
def WP(P:aG):C'->dV->ae->St->Prop
 |.skip,Q,e,S=>Q .normal e S
 |.reg ops,Q,e,S=>eM P ops (Q .normal) e S
 |.draw ds zs,Q,e,S=>ik P S.length ds (dP S.length ds (Q .normal)) e (S++iW zs) [S++iW zs]
 |.FB ds zs o,Q,e,S=>ik P S.length ds (dP S.length ds (DU P o Q .normal)) e (S++iW zs) [S++iW zs]
 |.seq a b,Q,e,S=>WP P a (lS (WP P b Q) Q) e S
 |.cond c a b,Q,e,S=>match c.ev e with
  |some (.bool t)=>(t=true->WP P a Q e S)/\(t=false->WP P b Q e S)
  |_=>False
 |.block id c,Q,e,S=>WP P c (yG id Q) e S
 |.scope c,Q,e,S=>WP P c (G2 Q) e S
 |.loop c,Q,e,S=>∃(I:Nat->ae->St->Prop) (n:Nat),(∃e',ae.sub e' e/\I n e' S)/\∀n e S,I n e S->WP P c (lS (λe S=>∃n',n'<n/\∃e',ae.sub e' e/\I n' e' S) Q) e S
 |.exit id,Q,e,S=>Q (.exit id) e S
 |.ret,Q,e,S=>Q .ret e S
 |.bad,_,_,_=>False
 |.rf g ps cV body ca cb N ts,Q,e,S=>comp P N cV=some ca->comp P N body=some cb->match g.ev e with
  |some (.fn (.func k) fs cs)=>∃R,aA P k (fs++[.dc S.length]++cs) (S++[.loop ⟨.ready,none,ps,cV,body,e.keep ts,N⟩]) R/\∀r S',R r S'->∃i,S'[S.length]?=some (.loop i)/\i.st≠.busy/\
   match i.dM with
   |none=>Q .normal e (S'.set S.length (.loop { i with st:=.exhausted }))
   |some .ret=>Q .ret e (S'.set S.length (.loop { i with st:=.exhausted }))
   |some (.exit id)=>Q (.exit id) e (S'.set S.length (.loop { i with st:=.exhausted }))
   |some _=>False
  |_=>False
def Rel.sub{N n0 m0:Nat}{E:En}{e e':ae}{S:St}{a:Act}{w:aP}(h:Rel N n0 m0 E e S a w)(hs:ae.sub e' e):Rel N n0 m0 E e' S a w:=
 ⟨λt v hv=>h.tmps t v (hs t v hv),h.size,h.defers,h.base,h.sr⟩
def Up.then{N n0 m0:Nat}{E:En}{S:St}{w:aP}{M:ae->St->Prop}{Q:dV}{x:Exit}{a:Act}{w':aP}{next:Act->World->Prop}(h:Up N n0 m0 E S w (lS M Q) x a w')
  (hn:∀E' e' S',Rel N n0 m0 E' e' S' a w'->bT n0 E S w E' S' w'->M e' S'->next a w'):Exit.then next (Up N n0 m0 E S w Q) x a w':=by
 obtain⟨E',e',S',r,ex,q⟩:=h;cases x<;>first|exact hn E' e' S' r ex q|exact⟨E',e',S',r,ex,q⟩
def bT.push{E:En}{S:St}{w:aP}(h:SR E S w)(o:Obj):SR E S { w with heap:=w.heap.push o }/\∀n,bT n E S w E S { w with heap:=w.heap.push o }:=by
 refine⟨⟨h.gl.kL (λ_ _ _ h=>h) (λb _ _ _ hb _=>rB (FW hb)),λb o' c hc=>?_,λl ob hl=>?_,h.jI,h.apart,λb hb=>?_,h.inj⟩,λn=>⟨sM,λ_ _ _ h=>h,λ_ _ _ _ h=>h,λ_ _ h=>h,λ_ h=>.inl h,λ_ _ _ h=>.inl h,λb hb _=>rB hb,rfl⟩⟩
 .have:=h.I b o' c hc;rw[zd (rB (wE this))];exact this
 .by_cases hd:ob=.dead
  .subst hd;trivial
  exact(h.fJ l ob hl).mono (En.le_refl E) (λ_ _ hx=>hx) (λst x hx=>rB (h.lt _ ⟨l,st,x,⟨ob,hl,hd⟩,hx,rfl⟩))
 .have:=h.lt b hb;simp;omega
def SR.Yj{E:En}{S:St}{w:aP}(h:SR E S w){l:Nat}{i i':LI}{x:qq}{r r':Loop}(hl:S[l]?=some (.loop i))(hx:E.ρ l 0=some x)(hr:w.heap[x.b]?=some (.loop r))
  (h1:r'.state=i'.st) (h2:r'.pending=i'.dM) (h3:r'.params.toList=i'.ps) (h4:r'.assign=i'.cV) (h5:r'.body=i'.body) (h6:r'.tmps.size=i'.N) (h7:jf E i'.e r'.tmps):
  SR E (S.set l (.loop i')) (w.putObj x.b (.loop r'))/\bT S.length E S w E (S.set l (.loop i')) (w.putObj x.b (.loop r')):=by
 have aB:x.b<w.heap.size:=(kQ.1 hr).1;have gX:gQ S l:=⟨_,hl,sM⟩;refine h.change (E':=E) (w':=w.putObj x.b (.loop r')) gX rfl (En.le_refl E) (λ_ _ _=>rfl) (λst z hz=>.inl ⟨st,z,hz,rfl⟩) (by simp[World.putObj]) (λb kE bZ=>?_) rfl ⟨x,r',hx,?_,h1,h2,h3,h4,h5,h6,h7⟩
 .show(w.heap.setIfInBounds x.b _)[b]?=_;rw[uk (bZ 0 x hx)]
 .show(w.heap.setIfInBounds x.b _)[x.b]?=_;simp[aB]
def qvx{P:aG}{N n0 m0 n:Nat}{f:Operand}{g:bK}{ps:Array Tmp}{cV body:Code}{ts:List Nat}{Q:dV}{E:En}{e:ae}{S:St}{a:Act}{w:aP}(hg:cw f=some g)
  (h:Unit→match g.ev e with
  |some (.fn (.func k) fs cs)=>∃R,aA P k (fs++[.dc S.length]++cs) (S++[.loop ⟨.ready,none,ps.toList,cV,body,e.keep ts,N⟩]) R/\∀r S',R r S'->∃i,S'[S.length]?=some (.loop i)/\i.st≠.busy/\
   match i.dM with
   |none=>Q .normal e (S'.set S.length (.loop { i with st:=.exhausted }))
   |some .ret=>Q .ret e (S'.set S.length (.loop { i with st:=.exhausted }))
   |some (.exit id)=>Q (.exit id) e (S'.set S.length (.loop { i with st:=.exhausted }))
   |some _=>False
  |_=>False) (hr:Rel N n0 m0 E e S a w):(Code.rangeFunc f ps cV body).wpIn (lA none) n P (Up N n0 m0 E S w Q) a w:=by
 have h:=h ();split at h<;>try exact h.elim
 rename_i k fs cs hv;obtain⟨R,pE,ir⟩:=h;have wR:=dA hr.tmps hg hv;generalize hu:a.eval f=u at wR
 obtain⟨us,ws,rfl,b1,b2,b3,b4⟩:∃us ws,u=.func (.func k) us ws/\fs.length=us.size/\cs.length=ws.size/\(∀(i:Nat) (v:V) (u:Value),fs[i]?=some v->us[i]?=some u->VR E v u)/\(∀(i:Nat) (v:V) (u:Value),cs[i]?=some v->ws[i]?=some u->VR E v u):=by
  cases wR with
  |fn h1 h2 g1 g2=>exact⟨_,_,rfl,h1,h2,g1,g2⟩
 refine wpIn_rangeFunc λfn _=>?_
 let w1:World:={ w with heap:=w.heap.push (.deferred (some [])) }
 obtain⟨p1,p2⟩:=bT.push hr.sr (.deferred (some []))
 let YQ:Loop:={ state:=.ready,pending:=none,fn,tmps:=a.tmps,params:=ps,assign:=cV,body,defers:=w.heap.size }
 let w2:World:={ w1 with heap:=w1.heap.push (.loop YQ) }
 have DJ:w1.heap.size=w.heap.size+1:=by simp[w1]
 have cB:E.ρ S.length 0=none:=by
  cases hx:E.ρ S.length 0 with
  |none=>rfl
  |some y=>exact absurd (hr.sr.jI _ _ _ hx) oM
 obtain⟨q1,q2⟩:=p1.new (o:=.loop YQ) (ob:=.loop ⟨.ready,none,ps.toList,cV,body,e.keep ts,N⟩) (st:=0) (N:=0) (sz:=0) ⟨⟨w1.heap.size,0,0⟩,YQ,ml,G3,rfl,rfl,rfl,rfl,rfl,hr.size,(hr.tmps.keep ts).mono (xR cB)⟩;have hle:E.le (E.at S.length 0 ⟨w1.heap.size,0,0⟩):=xR cB;have fM:bT S.length E S w (E.at S.length 0 ⟨w1.heap.size,0,0⟩) _ w2:=(p2 S.length).trans q2
 have qq7:uH m0 (E.at S.length 0 ⟨w1.heap.size,0,0⟩) (S++[.loop ⟨.ready,none,ps.toList,cV,body,e.keep ts,N⟩]) w2 ([{ target:=.collected w.heap.size,args:=#[] }]++a.defers):=by
  have hm:=uH.step fM hr.defers;refine⟨hm.1,⟨w.heap.size,rfl,hr.defers.1,?_,λho=>?_,λd' eH he=>?_⟩,hm.2⟩
  .show(w1.heap.push _)[w.heap.size]?=_;rw[xA,au oM];simp[w1]
  .rcases q2.own _ ho with ho|ho
   .exact absurd (hr.sr.lt _ ho) oM
   .exact absurd (show w1.heap.size<=w.heap.size from ho) oM
  .have:∀(l:List Deferred),yZ m0 E S w l->∀d,d∈l->∃r,d.target=.collected r/\r<w.heap.size:=by
    intro l
    induction l with
    |nil=>intro _ d hd;cases hd
    |cons d0 l ih=>
     rintro⟨⟨r,k1,_,k3,_⟩,hl⟩ d hd;rcases dU.1 hd with rfl|hd
     .exact⟨r,k1,(kQ.1 k3).1⟩
     .exact ih hl d hd
   obtain⟨r,k1,k2⟩:=this _ hr.defers.2 d' eH;rw[he]at k1;cases k1;omega
 have qr4:VR (E.at S.length 0 ⟨w1.heap.size,0,0⟩) (.dc S.length) (.func (.yield (w.heap.size+1)) #[] #[]):=by
  have:=VR.dc (E:=E.at S.length 0 ⟨w1.heap.size,0,0⟩) (l:=S.length) (x:=⟨w1.heap.size,0,0⟩) ml;rw[DJ]at this |-;exact this
 refine⟨w.heap.size+1,[{ target:=.collected w.heap.size,args:=#[] }],w2,{ target:=.fn (.func k) ws,args:=us++#[.func (.yield (w.heap.size+1)) #[] #[]] },w2,k,us++#[.func (.yield (w.heap.size+1)) #[] #[]]++ws,w2,?_,?_,λ_ _=>trivial,?_,λhd=>by simp[lA,Fence.wide]at hd,?_⟩
 .exact run_enterLoop_outer fn a.tmps ps cV body
 .simp only[resolve,rangeCall,hu,Deferred.ofValue,Sem.run_bind,Sem.run_pure,Result.andThen];rw[show Array.map a.eval #[Operand.const (Value.func (Fn.yield (w.heap.size+1)) #[] #[])]=#[Value.func (Fn.yield (w.heap.size+1)) #[] #[]] by simp[Act.eval]]
 .simp only[invoke];exact pE.1 _ w2
 .have rh:uJ (E.at S.length 0 ⟨w1.heap.size,0,0⟩) (fs++[.dc S.length]++cs) (us++#[.func (.yield (w.heap.size+1)) #[] #[]]++ws):=by
   refine⟨by simp[b1,b2];omega,λi v u hv hu=>?_⟩;rw[dY]at hv;rw[OV]at hu;by_cases hi:i<fs.length
   .rw[dh hi]at hv;rw[Cf oM]at hu;exact(b3 i v u hv hu).mono hle
   .rw[cx oM]at hv;rw[J9 oM,<-b1]at hu;by_cases hj:i-fs.length=0
    .rw[hj]at hv hu;rw[Cf sM]at hu;simp at hv hu;subst hv;subst hu;exact qr4
    .rw[cx (by simp;omega)]at hv;rw[J9 (by simp;omega)]at hu;exact(b4 _ v u (by simpa using hv) (by simpa using hu)).mono hle
  refine CallsIn.mono (pE.2 _ w2 _ (n-1) q1 rh) ?_;rintro ed w3 ⟨uv,r,E',S',rfl,hR,dH,jy,QS,hlen⟩;obtain⟨i,hi,bg,hq⟩:=ir r S' hR;obtain⟨x,rc,r1,r2,r3,r4,r5,r6,r7,r8,r9⟩:=jy.fJ _ _ hi
  have hx:x.b=w.heap.size+1:=by
   have aB:S.length<(S++[Ob.loop ⟨.ready,none,ps.toList,cV,body,e.keep ts,N⟩]).length:=sM;have:=QS.ρ S.length 0 _ aB ml;rw[r1]at this;cases this;exact DJ
  rw[hx]at r2;have su:rc.state≠.busy:=by rw[r3];exact bg
  obtain⟨s1,s2⟩:=jy.Yj (i':={ i with st:=.exhausted }) (r':={ rc with state:=.exhausted }) hi r1 (by rw[hx];exact r2) rfl r4 r5 r6 r7 r8 r9;rw[hx]at s1 s2;have qfc:S.length<=S'.length:=by simp at hlen;omega
  have M4:Rel N n0 m0 E' e (S'.set S.length (.loop { i with st:=.exhausted })) { a with defers:=[{ target:=.collected w.heap.size,args:=#[] }]++a.defers } (w3.putObj (w.heap.size+1) (.loop { rc with state:=.exhausted })):=by
   refine⟨(hr.tmps.mono hle).mono (QS.le q1),hr.size,?_,by simp;exact js hr.base qfc,s1⟩;exact uH.step s2 (uH.step QS qq7)
  have rr:bT n0 E S w E' (S'.set S.length (.loop { i with st:=.exhausted })) (w3.putObj (w.heap.size+1) (.loop { rc with state:=.exhausted })):=
   (fM.less hr.base).trans ((QS.less (js hr.base sM)).trans (s2.less (js hr.base qfc)))
  refine⟨rc.pending,_,run_endLoop r2 su,?_⟩;generalize hpd:rc.pending=pd;rw[hpd]at r4;have Jc:=M4;have Rj:=rr;rw[hpd]at Jc Rj;split at hq
  .rename_i hp;rw[hp]at r4;subst r4;exact⟨E',e,_,Jc,Rj,hq⟩
  .rename_i hp;rw[hp]at r4;subst r4;exact wpIn_ret ⟨E',e,_,Jc,Rj,hq⟩
  .rename_i id hp;rw[hp]at r4;subst r4;exact wpIn_exit ⟨E',e,_,Jc,Rj,hq⟩
  .exact hq.elim
def Uk{P:aG}{N n0 m0:Nat}{ro:Option Nat}{n:Nat}:∀(c:Code) (c':C') (Q:dV) (E:En) (e:ae) (S:St) (a:Act) (w:aP),
  comp P N c=some c'->Rel N n0 m0 E e S a w->WP P c' Q e S->(ro=none\/c'.jc=true)->c.wpIn (lA ro) n P (Up N n0 m0 E S w Q) a w:=by
 intro c
 induction c with
 |skip=>
  intro c' Q E e S a w hc hr h nX;simp only[comp]at hc;cases hc;exact wpIn_skip ⟨E,e,S,hr,bT.refl _ _ _ _,h⟩
 |label l=>
  intro c' Q E e S a w hc hr h nX;simp only[comp]at hc;cases hc;exact wpIn_label ⟨E,e,S,hr,bT.refl _ _ _ _,h⟩
 |region id ops draw=>
  intro c' Q E e S a w hc hr h nX;simp only[comp]at hc;split at hc
  .rename_i hd;subst hd
   cases hd:Qd P N ops with
   |some p=>
    obtain⟨ds,zs,o'⟩:=p;rw[hd]at hc;cases hc;obtain⟨cN,o,rfl,h1,h2,h3⟩:=qnO hd;exact qnS h3 h1 h2 hr h
   |none=>
   rw[hd]at hc;simp only at hc
   cases hl:ze P N ops with
   |none=>rw[hl]at hc;cases hc;exact h.elim
   |some p=>
    rw[hl]at hc;cases hc;exact qnQ hl hr h
  .rename_i hd;have:draw=false:=by simpa using hd
   subst this
   cases hl:ops.toList.mapM (tf P N ops) with
   |none=>rw[hl]at hc;cases hc;exact h.elim
   |some l'=>
    rw[hl]at hc;simp only[Tz]at hc;cases hc;exact wpIn_region_list (EL ops.toList l' E e S a w hl hr h)
 |seq x y Gv ihy=>
  intro c' Q E e S a w hc hr h nX;simp only[comp]at hc;split at hc<;>cases hc;rename_i x' y' hx hy;refine wpIn_seq (wpIn_mono (Gv x' _ E e S a w hx hr h (nX.imp (λh=>h) λh=>by simp[C'.jc]at h;exact h.1)) λex a' w' hq=>?_);exact hq.then λE' e' S' r x q=>wpIn_mono (ihy y' Q E' e' S' a' w' hy r q (nX.imp (λh=>h) λh=>by simp[C'.jc]at h;exact h.2)) λex a'' rL g=>g.back x
 |cond c x y Gv ihy=>
  intro c' Q E e S a w hc hr h nX;simp only[comp]at hc;split at hc<;>cases hc;rename_i c' x' y' im hx hy;simp only[WP]at h;split at h
  .rename_i t ht;have hv:=dA hr.tmps im ht;generalize hu:a.eval c=u at hv;cases hv;refine wpIn_cond_split hu (λht=>Gv x' Q E e S a w hx hr (h.1 ht) (nX.imp (λh=>h) λh=>by simp[C'.jc]at h;exact h.1)) (λht=>ihy y' Q E e S a w hy hr (h.2 ht) (nX.imp (λh=>h) λh=>by simp[C'.jc]at h;exact h.2))
  .exact h.elim
 |block id c ih=>
  intro c' Q E e S a w hc hr h nX;simp only[comp]at hc
  cases hx:comp P N c with
  |none=>rw[hx]at hc;cases hc
  |some x'=>
   rw[hx]at hc;cases hc;refine wpIn_block (wpIn_mono (ih x' _ E e S a w hx hr h (nX.imp (λh=>h) λh=>by simp[C'.jc]at h;exact h)) λex a' w' hq=>?_);obtain⟨E',e',S',r,x,q⟩:=hq;cases ex<;>simp only[Exit.inBlock,yG]at q |-<;>try exact⟨E',e',S',r,x,q⟩
   split
   .rename_i hid;rw[ak hid]at q;exact⟨E',e',S',r,x,q⟩
   .rename_i hid;rw[au hid]at q;exact⟨E',e',S',r,x,q⟩
 |scope c ih=>
  intro c' Q E e S a w hc hr h nX;simp only[comp]at hc
  cases hx:comp P N c with
  |none=>rw[hx]at hc;cases hc
  |some x'=>
   rw[hx]at hc;cases hc;refine qzr (wpIn_mono (ih x' _ E e S a w hx hr h (nX.imp (λh=>h) λh=>by simp[C'.jc]at h;exact h)) λex a' w' hq=>?_);obtain⟨E',e',S',r,x,q⟩:=hq;cases ex<;>simp only[Exit.noGoto,G2]at q |-<;>exact⟨E',e',S',r,x,q⟩
 |loop c ih=>
  intro c' Q E e S a w hc hr h nX;simp only[comp]at hc
  cases hx:comp P N c with
  |none=>rw[hx]at hc;cases hc
  |some x'=>
   rw[hx]at hc;cases hc;obtain⟨I,k,⟨e0,cZ,h0⟩,Xk⟩:=h
   let J:Nat->Act->World->Prop:=λk a' w'=>∃E' e' S',Rel N n0 m0 E' e' S' a' w'/\bT n0 E S w E' S' w'/\I k e' S'
   refine wpIn_loop (λa' w'=>∃k,J k a' w') (λa' w'=>leastOf λk=>J k a' w') ⟨k,E,e0,S,hr.sub cZ,bT.refl _ _ _ _,h0⟩ ?_;intro a1 w1 hI;obtain⟨E1,e1,S1,r1,x1,i1⟩:=(leastOf_spec hI).1;refine wpIn_mono (ih x' _ E1 e1 S1 a1 w1 hx r1 (Xk _ e1 S1 i1) (nX.imp (λh=>h) λh=>by simp[C'.jc]at h;exact h)) λex a' w' hq=>?_
   obtain⟨E',e',S',r,x,q⟩:=hq;cases ex
   case normal=>
    obtain⟨k',aB,e2,iU,tt⟩:=q;have hJ:J k' a' w':=⟨E',e2,S',r.sub iU,x1.trans x,tt⟩;exact⟨⟨k',hJ⟩,Nat.lt_of_le_of_lt ((leastOf_spec ⟨k',hJ⟩).2 k' hJ) aB⟩
   all_goals exact⟨E',e',S',r,x1.trans x,q⟩
 |exit id=>
  intro c' Q E e S a w hc hr h nX;simp only[comp]at hc;cases hc;exact wpIn_exit ⟨E,e,S,hr,bT.refl _ _ _ _,h⟩
 |ret=>
  intro c' Q E e S a w hc hr h nX;simp only[comp]at hc;cases hc;exact wpIn_ret ⟨E,e,S,hr,bT.refl _ _ _ _,h⟩
 |rangeFunc f ps cV body iha ihb=>
  intro c' Q E e S a w hc hr h nX;simp only[comp]at hc;split at hc
  case h_2=>cases hc;exact h.elim
  rename_i g ca cb hg oK jN;split at hc
  case isFalse=>cases hc;exact h.elim
  cases hc;rename_i bg;have qry:ro=none:=nX.resolve_right (by simp[C'.jc]);subst qry;exact qvx hg (λ_=>h oK jN) hr
 |_=>intro c' Q E e S a w hc hr h nX;simp only[comp,Option.some.injEq]at hc;subst hc;exact h.elim
inductive RV where
 |t (t:Nat)
 |cell (t:Nat) (k:Option Nat)
 deriving Inhabited
structure F' where
 N:Nat
 rs:List RV
 body:C'
 deriving Inhabited
def Ft(P:aG):ResultVar->Option RV
 |.tmp t=>some (.t t)
 |.cell a t=>(oc P t).map (.cell a)
def ra(P:aG)(fn:Func):Option F':=
 match fn.body,fn.results.toList.mapM (Ft P) with
 | some c, some rs => if fn.name = "runtime.NumGoroutine" then none else (comp P fn.ntmps c).map fun c' => ⟨fn.ntmps, rs, c'⟩
 |_,_=>none
def eL(e:ae)(S:St):List RV->Option (List V)
 |[]=>some []
 |.t t::rs=>match e.get t,eL e S rs with
  |some v,some vs=>some (v::vs)
  |_,_=>none
 |.cell t k::rs=>match e.get t,eL e S rs with
  |some p,some vs=>(ab S p k).map λv=>v::vs
  |_,_=>none
def aY:List V->V
 |[v]=>v
 |vs=>.aV vs
def dJ(n:Nat)(r:V)(S:St)(r':V)(S':St):Prop:=
 ∀(E:En) (w:aP) (u:Value),SR E S w->VR E r u->n<=S.length->∃E',VR E' r' u/\SR E' S' w/\bT n E S w E' S' w/\n<=S'.length
def dJ.refl(n:Nat)(r:V)(S:St):dJ n r S r S:=λE w u hs hr hn=>⟨E,hr,hs,bT.refl _ _ _ _,hn⟩
def dJ.trans{n:Nat}{r r1 r2:V}{S S1 S2:St}(h:dJ n r S r1 S1)(g:dJ n r1 S1 r2 S2):dJ n r S r2 S2:=λE w u hs hr hn=>by
 obtain⟨E1,a1,a2,a3,a4⟩:=h E w u hs hr hn;obtain⟨E2,b1,b2,b3,b4⟩:=g E1 w u a2 a1 a4;exact⟨E2,b1,b2,a3.trans b3,b4⟩
def dJ.cut{n m:Nat}{r:V}{S:St}(hr:r.under m=true)(hS:∀o,o∈S.take m->o.under m=true)(hn:n<=m)(hm:m<=S.length):dJ n r S r (S.take m):=λE w u hs hv oN=>by
 obtain⟨h1,h2⟩:=hs.cut hS hm;exact⟨E.cut m,hv.cut hr,h1,h2 n hn,by simp;omega⟩
def dJ.freeze{n l off len st sz wr:Nat}{S:St}{xs:List V}(ho:S[l]?=some (.arr xs sz wr))(hw:wr<=st)(hle:off+len<=st):dJ n (.arr l off len st) S (.sl false ((xs.drop off).take len)) (S.set l .dead):=λE w u hs hv hn=>by
 obtain⟨E',h1,h2,_,h3⟩:=hs.freeze ho hw hv hle;exact⟨E',h3,h1,h2 n,by simpa using hn⟩
def eN(rs:List RV)(n:Nat)(R:V->St->Prop):dV
 |.normal,e,S|.ret,e,S=>∃vs,eL e S rs=some vs/\∃r' S',dJ n (aY vs) S r' S'/\R r' S'
 |_,_,_=>False
def jV:Nat->List V->ae
 |_,[]=>[]
 |k,v::vs=>(k,v)::jV (k+1) vs
def UC:∀(vs:List V) (k t:Nat) (v:V),(jV k vs).get t=some v->k<=t/\vs[t-k]?=some v
 |[],k,t,v,h=>by simp[jV,ae.get]at h
 |x::vs,k,t,v,h=>by
  simp only[jV,ae.get]at h;split at h
  .rename_i hk;subst hk;cases h;simp
  .obtain⟨h1,h2⟩:=UC vs (k+1) t v h;refine⟨oM,?_⟩;obtain⟨d,rfl⟩:∃d,t=k+1+d:=⟨t-(k+1),oM⟩;rw[show k+1+d-(k+1)=d by omega]at h2;rw[show k+1+d-k=d+1 by omega,CH];exact h2
def JM(tmps:Array Value):ResultVar->Sem Value
 |.tmp t=>Pure.pure (tmps.getD t undef)
 |.cell a t=>do loadVar t (<-asAddr (tmps.getD a undef))
def qjQ{P:aG}{E:En}{e:ae}{S:St}{w:aP}{tmps:Array Value}(ht:jf E e tmps)(hs:SR E S w):∀(l:List ResultVar) (rs:List RV) (vs:List V),l.mapM (Ft P)=some rs->eL e S rs=some vs->
  ∃us:List Value,us.length=vs.length/\(∀(i:Nat) (v:V) (u:Value),vs[i]?=some v->us[i]?=some u->VR E v u)/\
   ∀acc:Array Value,(l.foldlM (λ(acc:Array Value) r=>do let b <-JM tmps r;Pure.pure (acc.push b)) acc:Sem (Array Value)).run P w=.ok (acc++us.toArray) w
 |[],rs,vs,h1,h2=>by
  simp at h1;subst h1;simp only[eL]at h2;cases h2;exact⟨[],rfl,λi v u h=>by simp at h,λacc=>by simp⟩
 |r::l,rs,vs,h1,h2=>by
  simp only[vW,wc]at h1
  cases hc:Ft P r with
  |none=>rw[hc]at h1;simp at h1
  |some r'=>
   rw[hc]at h1
   cases hl:l.mapM (Ft P) with
   |none=>rw[hl]at h1;simp at h1
   |some rs'=>
    rw[hl]at h1;simp at h1;subst h1
    have one:∃v vI u,vs=v::vI/\eL e S rs'=some vI/\VR E v u/\(JM tmps r).run P w=.ok u w:=by
     cases r with
     |tmp t=>
      simp only[Ft]at hc;cases hc;simp only[eL]at h2;split at h2<;>cases h2;rename_i v vI hv mC;obtain⟨u,hu,hr⟩:=ht _ _ hv;exact⟨v,vI,u,rfl,mC,hr,by simp[JM,hu]⟩
     |cell a t=>
      simp only[Ft]at hc
      cases hk:oc P t with
      |none=>rw[hk]at hc;cases hc
      |some k=>
       rw[hk]at hc;cases hc;simp only[eL]at h2;split at h2<;>try cases h2
       rename_i p vI hv mC
       cases hd:ab S p k with
       |none=>rw[hd]at h2;cases h2
       |some v=>
        rw[hd]at h2;cases h2;obtain⟨u,hu,hr⟩:=ht _ _ hv;obtain⟨d,h3,h4⟩:=qj5 (P:=P) hs hr hk hd;refine⟨v,vI,d,rfl,mC,h4,?_⟩;have hg:tmps.getD a undef=u:=by simp[hu]
        simp only[JM,hg];cases hr<;>simp[ab]at hd<;>simpa[Instr.loadAt,Instr.sureAddr,asAddr,Result.andThen]using h3
    obtain⟨v,vI,u,rfl,mC,hr,fN⟩:=one;obtain⟨us,i1,i2,i3⟩:=qjQ ht hs l rs' vI hl mC;refine⟨u::us,by simp[i1],λi v' u' h h'=>?_,λacc=>?_⟩
    .cases i with
     |zero=>simp at h h';subst h;subst h';exact hr
     |succ i=>exact i2 i v' u' (by simpa using h) (by simpa using h')
    .simp only[List.foldlM_cons,Sem.run_bind,fN,Result.andThen,Sem.run_pure];rw[i3];simp
def qvv{P:aG}{E:En}{e:ae}{S:St}{w:aP}{tmps:Array Value}{fn:Func}{rs:List RV}{vs:List V}(ht:jf E e tmps)(hs:SR E S w)(hc:fn.results.toList.mapM (Ft P)=some rs)(h:eL e S rs=some vs):
  ∃u,(results fn tmps).run P w=.ok u w/\VR E (aY vs) u:=by
 obtain⟨us,i1,i2,i3⟩:=qjQ (P:=P) ht hs fn.results.toList rs vs hc h
 have hm:(fn.results.mapM (JM tmps)).run P w=.ok us.toArray w:=by
  rw[Array.mapM_eq_foldlM_push,<-Array.foldlM_toList,i3];simp
 refine⟨if h:us.toArray.size=1 then us.toArray[0] else .tuple us.toArray,?_,?_⟩
 .have A7:results fn tmps=(do let vs <-fn.results.mapM (JM tmps);Pure.pure (if h:vs.size=1 then vs[0] else .tuple vs)):=by
   unfold results;congr 1
  rw[A7];simp only[Sem.run_bind,hm,Result.andThen,Sem.run_pure]
 .by_cases h1:us.length=1
  .match us,vs,h1,i1 with
   |[u],[v],_,_=>simpa[aY]using i2 0 v u rfl rfl
  .rw[dif_neg (by simpa using h1)]
   have:aY vs=.aV vs:=by
    match vs,i1 with
    |[],_=>rfl
    |[v],h=>simp at h;exact absurd h h1
    |_::_::_,_=>rfl
   rw[this];exact .aV (by simp[i1]) (λi v u hv hu=>i2 i v u hv (by simpa using hu))
def qcN(m:Nat)(w w':aP):Prop:=w'.heap.size=w.heap.size/\(∀b,b<m->w'.heap[b]?=w.heap[b]?)/\(w'.output,w'.os)=(w.output,w.os)
def bT.same{n:Nat}{E E':En}{S S':St}{w w' rL:aP}(h:bT n E S w E' S' w')(g:qcN w.heap.size w' rL):bT n E S w E' S' rL:=
 { h with size:=by rw[g.1];exact h.size,frame:=λb hb hn=>(g.2.1 b hb).trans (h.frame b hb hn),out:=g.2.2.trans h.out }
def SR.shut{E:En}{S:St}{w:aP}(h:SR E S w){r:Nat}{ds:Option (List Deferred)}{o:Obj}(hr:w.heap[r]?=some (.deferred ds))(cB:¬own E S r):SR E S { w with heap:=w.heap.setIfInBounds r o }:=by
 have aB:r<w.heap.size:=(kQ.1 hr).1
 have other:∀b,b≠r->({ w with heap:=w.heap.setIfInBounds r o }:aP).heap[b]?=w.heap[b]?:=λb hb=>by
  show(w.heap.setIfInBounds r o)[b]?=_;rw[uk (Ne.symm hb)]
 refine⟨h.gl.kL (λ_ _ _ h=>h) (λb _ _ _ hb _=>other b λhe=>by subst he;rw[hr]at hb;cases hb),λb o' c hc=>?_,λl ob hl=>?_,h.jI,h.apart,λb hb=>?_,h.inj⟩
 .have h1:=h.I b o' c hc
  have bZ:b≠r:=by
   rintro rfl;unfold World.cell? at h1;simp[hr]at h1
  rw[zd (other b bZ)];exact h1
 .by_cases hd:ob=.dead
  .subst hd;trivial
  exact(h.fJ l ob hl).mono (En.le_refl E) (λ_ _ hx=>hx) λst x hx=>other _ λhe=>cB ⟨l,st,x,⟨ob,hl,hd⟩,hx,he⟩
 .show b<(w.heap.setIfInBounds r o).size;simp;exact h.lt b hb
def qgK{P:aG}{n m:Nat}{fn:Func}{tmps:Array Value}{R:Ending->World->Prop}{E:En}{S:St}:∀{ds:List Deferred} {w:aP},SR E S w->yZ m E S w ds->
  (∀w',SR E S w'->qcN m w w'->∃v,(results fn tmps).run P w'=.ok v w'/\R (.returned v) w')->LeavesInM Fence.wide n P fn tmps R ds .returning w
 |[],w,hs,_,h=>h w hs ⟨rfl,λ_ _=>rfl,rfl⟩
 |d::ds,w,hs,⟨⟨r,h1,h2,h3,h4,h5⟩,hd⟩,h=>by
  refine⟨sM,.inl ⟨r,_,h1,run_takeDeferred h3,?_⟩⟩;have kJ:=hs.shut (o:=.deferred none) h3 h4;refine qgK (m:=m) kJ ?_ λw' Q9 Na=>h w' Q9 ?_
  .have bZ:∀b,b≠r->({ w with heap:=w.heap.setIfInBounds r (.deferred none) }:aP).heap[b]?=w.heap[b]?:=λb hb=>by
    show(w.heap.setIfInBounds r _)[b]?=_;rw[uk (Ne.symm hb)]
   have:∀(l:List Deferred),(∀d',d'∈l->d'.target≠.collected r)->yZ m E S w l->yZ m E S { w with heap:=w.heap.setIfInBounds r (.deferred none) } l:=by
    intro l
    induction l with
    |nil=>intro _ _;trivial
    |cons d' l ih=>
     rintro qfK ⟨⟨r',k1,k2,k3,k4,k5⟩,hl⟩;have M7:r'≠r:=λhe=>qfK d' sM (by rw[k1,he])
     exact⟨⟨r',k1,k2,(bZ r' M7).trans k3,k4,k5⟩,ih (λd'' qqt=>qfK d'' (by simp[qqt])) hl⟩
   exact this ds h5 hd
  .refine⟨Na.1.trans sM,λb hb=>(Na.2.1 b hb).trans ?_,Na.2.2⟩;show(w.heap.setIfInBounds r _)[b]?=_;rw[uk oM]
def aA.intro{P:aG}{f:FuncId}{fn:Func}{f':F'}{args:List V}{S:St}{R:V->St->Prop}(hf:P.funcs[f]?=some fn)(hc:ra P fn=some f')(ha:args.length<=f'.N)
  (h:WP P f'.body (eN f'.rs S.length R) (jV 0 args) S):aA P f args S R:=by
 unfold ra at hc;split at hc
 .rename_i c rs hb M8;split at hc
  .cases hc
  .rename_i MS
   cases hx:comp P fn.ntmps c with
   |none=>rw[hx]at hc;cases hc
   |some c'=>
    rw[hx]at hc;cases hc;refine⟨λas w=>?_,λE w us n hs hv=>?_⟩
    .simp[callFunc,program,Sem.run,Result.andThen,hf,MS,hb]
    .refine callsIn_of_wp_marks hf hb trivial ?_;simp only at ha h;obtain⟨v1,v2⟩:=hv
     have M4:Rel fn.ntmps S.length w.heap.size E (jV 0 args) S { tmps:=us++Array.replicate (fn.ntmps-us.size) undef,defers:=[] } w:=by
      refine⟨λt v ht=>?_,by simp;omega,⟨dl _,trivial⟩,dl _,hs⟩;obtain⟨_,h2⟩:=UC args 0 t v ht;simp only[Nat.sub_zero]at h2;have aB:=(br.1 h2).1;have hu:us[t]?=some (us[t]'oM):=sM;exact⟨_,by rw[Cf oM];exact hu,v2 t v _ h2 hu⟩
     have Xx:=Uk (ro:=none) (n:=n) c c' _ E _ S _ w hx M4 h (.inl rfl);refine wpIn_mono (show c.wpIn Fence.wide n P _ _ w from Xx) ?_;rintro ex a' w' ⟨E',e',S',r,x,q⟩;cases ex<;>simp only[eN]at q
     all_goals
      obtain⟨vs,h1,r',S2,hg,hR⟩:=q
      refine qgK r.sr r.defers.2 λrL Q9 Na=>?_
      obtain⟨u,h3,h4⟩:=qvv (P:=P) r.tmps Q9 M8 h1
      obtain⟨E2,g1,g2,g3,g4⟩:=hg E' rL u Q9 h4 r.base
      exact⟨u,h3,u,r',E2,S2,rfl,hR,g1,g2,(x.same Na).trans g3,g4⟩
 .cases hc
structure CF(P:Program)(k:FuncId)(f:Func) where
 c:F'
 g:P.funcs[k]?=some f
 o:ra P f=some c
def aA.ib{P:aG}{k:FuncId}{fn:Func}(p:CF P k fn){args:List V}{S:St}{R:V->St->Prop}(h:WP P p.c.body (eN p.c.rs S.length R) (jV 0 args) S)(ha:Nat.ble args.length p.c.N=true:=by rfl):aA P k args S R:=aA.intro p.g p.o (qA ha) h
def vB:List Nat->List V->ae->ae
 |p::ps,v::vs,e=>vB ps vs (e.put (some p) v)
 |_,_,e=>e
def qjq{E:En}:∀(ps:List Nat) (vs:List V) (us:List Value) (e:ae) (T:Array Value),jf E e T->(∀p,p∈ps->p<T.size)->vs.length=us.length->(∀(i:Nat) (v:V) (u:Value),vs[i]?=some v->us[i]?=some u->VR E v u)->
  jf E (vB ps vs e) ((ps.zip us).foldl (λT p=>T.setIfInBounds p.1 p.2) T)/\((ps.zip us).foldl (λT p=>T.setIfInBounds p.1 p.2) T).size=T.size
 |[],vs,us,e,T,h,_,_,_=>by cases vs<;>exact⟨h,rfl⟩
 |p::ps,[],us,e,T,h,_,hl,_=>by
  have:us=[]:=KE (by simpa using hl.symm);subst this;exact⟨h,rfl⟩
 |p::ps,v::vs,[],e,T,h,_,hl,_=>by simp at hl
 |p::ps,v::vs,u::us,e,T,h,hp,hl,hv=>by
  have:=qjq ps vs us (e.put (some p) v) (T.setIfInBounds p u) (h.put (hp p sM) (hv 0 v u rfl rfl)) (λq hq=>by simp;exact hp q (by simp[hq])) (by simpa using hl) (λi v' u' h1 h2=>hv (i+1) v' u' (by simpa using h1) (by simpa using h2));simp only[KP,uD,vB];exact⟨this.1,by rw[this.2];simp⟩
def Ep(l:Nat)(R:V->St->Prop):dV
 |.normal,_,S=>∃i,S[l]?=some (.loop i)/\R (.bool true) (S.set l (.loop { i with st:=.ready,dM:=none }))
 |.ret,_,S=>∃i,S[l]?=some (.loop i)/\R (.bool false) (S.set l (.loop { i with st:=.done,dM:=some .ret }))
 |.exit id,_,S=>∃i,S[l]?=some (.loop i)/\R (.bool false) (S.set l (.loop { i with st:=.done,dM:=some (.exit id) }))
 |_,_,_=>False
def K6(P:aG)(l:Nat)(cb:C')(R:V->St->Prop):dV
 |.normal,e,S=>∃i,S[l]?=some (.loop i)/\i.st=.ready/\WP P cb (Ep l R) e (S.set l (.loop { i with st:=.busy }))
 |_,_,_=>False
def jg.intro{P:aG}{l:Nat}{args:List V}{S:St}{R:V->St->Prop}{i:LI}{ca cb:C'}(hl:S[l]?=some (.loop i))(oK:comp P i.N i.cV=some ca)(jN:comp P i.N i.body=some cb)(bg:i.st=.ready)
  (na:ca.jc=true) (nb:cb.jc=true) (hlen:args.length=i.ps.length) (oO:i.ps.all (λp=>decide (p<i.N))=true)
  (h:WP P ca (K6 P l cb R) (vB i.ps args i.e) S):jg P l args S R:=by
 intro E w us n x hs hv hx;obtain⟨x',rc,r1,r2,r3,r4,r5,r6,r7,r8,r9⟩:=hs.fJ _ _ hl;rw[hx]at r1;cases r1;obtain⟨v1,v2⟩:=hv;refine⟨rc.fn,_,rc.assign,rc.body,run_yield r2 (by rw[<-v1,hlen,<-r5];simp),?_⟩;simp only[fR,dT]at oO;obtain⟨t1,t2⟩:=qjq i.ps args us.toList i.e rc.tmps r9 (λp hp=>by rw[r8];exact oO p hp) (by simpa using v1) (λj v u h1 h2=>v2 j v u h1 (by simpa using h2))
 have hT:(rc.params.zip us).foldl (λtmps (t,a)=>tmps.setIfInBounds t a) rc.tmps=(i.ps.zip us.toList).foldl (λT p=>T.setIfInBounds p.1 p.2) rc.tmps:=by
  rw[<-OW,Array.toList_zip,r5]
 rw[hT];generalize (i.ps.zip us.toList).foldl (λT p=>T.setIfInBounds p.1 p.2) rc.tmps=T at t1 t2;rw[r6,r7];have M4:Rel i.N S.length w.heap.size E (vB i.ps args i.e) S { tmps:=T,defers:=[] } w:=⟨t1,by rw[t2,r8],⟨dl _,trivial⟩,dl _,hs⟩;have Xx:=Uk (ro:=some x.b) (n:=n) i.cV ca _ E _ S _ w oK M4 h (.inr na);refine roundIn_of_wpIn trivial (wpIn_mono (show i.cV.wpIn (Fence.wide.inRound x.b) n P _ _ w from Xx) ?_);rintro ex a' w' ⟨E',e',S',r,xt,q⟩;cases ex<;>simp only[K6]at q;obtain⟨i',eI,zu,hb⟩:=q;obtain⟨x',rc',q1,q2,q3,q4,q5,q6,q7,q8,q9⟩:=r.sr.fJ _ _ eI;have aB:l<S.length:=(br.1 hl).1;have iG:=xt.ρ l 0 _ aB hx;rw[iG]at q1;cases q1;refine⟨_,run_beginRound q2 (by rw[q3];exact zu),?_⟩;obtain⟨s1,s2⟩:=r.sr.Yj (i':={ i' with st:=.busy }) (r':={ rc' with state:=.busy }) eI iG q2 rfl q4 q5 q6 q7 q8 q9;have Jc:Rel i.N S.length w.heap.size E' e' (S'.set l (.loop { i' with st:=.busy })) a' (w'.putObj x.b (.loop { rc' with state:=.busy })):=
  ⟨r.tmps,r.size,uH.step s2 r.defers,by simp;exact r.base,s1⟩
 have fM:bT S.length E S w E' (S'.set l (.loop { i' with st:=.busy })) (w'.putObj x.b (.loop { rc' with state:=.busy })):=xt.trans (s2.less r.base);have qrZ:=Uk (ro:=some x.b) (n:=n) i.body cb _ E' _ _ _ _ jN Jc hb (.inr nb);refine wpIn_mono (show i.body.wpIn (Fence.wide.inRound x.b) n P _ _ _ from qrZ) ?_;rintro ex a2 w2 ⟨E2,e2,S2,r2',xt2,q2'⟩;have rr:=fM.trans xt2;have kK:=rr.ρ l 0 _ aB hx;have fin:∀(j:Option Code) (i2:LI),S2[l]?=some (.loop i2)->R (.bool j.isNone) (S2.set l (.loop { i2 with st:=if j.isNone then .ready else .done,dM:=j }))->
   ∃v w',(Instr.endRound x.b j).run P w2=.ok v w'/\∃u r E' S',(Ending.returned v)=.returned u/\R r S'/\VR E' r u/\SR E' S' w'/\bT S.length E S w E' S' w'/\S.length<=S'.length:=by
  intro j i2 tt hR;obtain⟨x',rc2,p1,p2,p3,p4,p5,p6,p7,p8,p9⟩:=r2'.sr.fJ _ _ tt;rw[kK]at p1;cases p1;obtain⟨s1,s2⟩:=r2'.sr.Yj (i':={ i2 with st:=if j.isNone then .ready else .done,dM:=j }) (r':={ rc2 with state:=if j.isNone then .ready else .done,pending:=j }) tt kK p2 rfl rfl p5 p6 p7 p8 p9;exact⟨_,_,run_endRound j p2,_,_,E2,_,rfl,hR,.bool _,s1,rr.trans (s2.less r2'.base),by simp;exact r2'.base⟩
 cases ex<;>simp only[Ep]at q2'
 .obtain⟨i2,tt,hR⟩:=q2';exact fin none i2 tt hR
 .obtain⟨i2,tt,hR⟩:=q2';exact fin (some (.exit _)) i2 tt hR
 .obtain⟨i2,tt,hR⟩:=q2';exact fin (some .ret) i2 tt hR
def SB:Code->List (Code×Code)
 |.rangeFunc _ _ a b=>[(a,b)]
 |.seq a b|.cond _ a b=>SB a++SB b
 |.block _ c|.loop c|.scope c=>SB c
 |_=>[]
def fK(f:Func)(k:Nat):Code×Code:=match f.body with
 |some c=>((SB c)[k]?).getD (.skip,.skip)
 |none=>(.skip,.skip)
mutual
def V.du(l:Nat)(xs:List V)(wr:Nat):V->V
 |.arr l' off len st=>if l'=l/\wr<=st/\off+len<=st then .sl false ((xs.drop off).take len) else .arr l' off len st
 |.sl x ys=>.sl x (V.iR l xs wr ys)
 |.iface t v=>.iface t (V.du l xs wr v)
 |.agg cs=>.agg (V.iR l xs wr cs)
 |.aV cs=>.aV (V.iR l xs wr cs)
 |v=>v
def V.iR(l:Nat)(xs:List V)(wr:Nat):List V->List V
 |[]=>[]
 |v::vs=>V.du l xs wr v::V.iR l xs wr vs
end
def oJ{l wr:Nat}{xs:List V}:∀(vs:List V),V.iR l xs wr vs=vs.map (V.du l xs wr)
 |[]=>rfl
 |v::vs=>by simp only[V.iR,cQ,oJ vs]
def Iw{l wr:Nat}{xs:List V}(v:V):(v.du l xs wr).cells=v.cells.map (V.du l xs wr):=by
 cases v
 case arr l' off len st=>
  show(V.du l xs wr (.arr l' off len st)).cells=[V.du l xs wr (.arr l' off len st)];simp only[V.du];by_cases hc:l'=l/\wr<=st/\off+len<=st
  .rw[ak hc];rfl
  .rw[au hc];rfl
 all_goals simp only[V.du,V.cells,cQ,nK,oJ]
def SR.It{E:En}{S:St}{w:aP}(h:SR E S w){l sz wr:Nat}{xs:List V}(ho:S[l]?=some (.arr xs sz wr)):
  ∃E',SR E' (S.set l .dead) w/\(∀n,bT n E S w E' (S.set l .dead) w)/\∀v u,VR E v u->VR E' (v.du l xs wr) u:=by
 obtain⟨h0,h1,h2⟩:=h.fJ l _ ho;have gX:gQ S l:=⟨_,ho,sM⟩
 open Classical in
 let mine:Np:=λb=>∃st x,E.ρ l st=some x/\x.b=b
 open Classical in
 let E':En:={ E with I:=λb o=>if mine b then w.cell? ⟨b,o,none⟩ else E.I b o }
 have MR:∀b,mine b->own E S b:=λb ⟨st,x,hx,hb⟩=>⟨l,st,x,gX,hx,hb⟩
 have mO:E.le E':=⟨λb o c hc=>by
  simp only[E'];split
  .rename_i hm;rw[h.apart b o (MR b hm)]at hc;cases hc
  .exact hc,λ_ _ _ h=>h⟩
 have hρ:E'.ρ=E.ρ:=rfl
 have wV:∀b,own E' (S.set l .dead) b->own E S b/\¬mine b:=by
  rintro b ⟨l',st,x,cj,hx,rfl⟩;rw[hρ]at hx
  have bZ:l'≠l:=by
   rintro rfl;obtain⟨o,fC,hd⟩:=cj;rw[bO (DX gX)]at fC;cases fC;exact hd rfl
  have lL:gQ S l':=xg cj gX;refine⟨⟨l',st,x,lL,hx,rfl⟩,?_⟩;rintro⟨bc,y,hy,he⟩;exact bZ (h.inj l' l st bc x y lL gX hx hy he.symm)
 refine⟨E',⟨h.gl.kL mO.1 (λ_ _ _ _ _ _=>rfl),?_,?_,?_,?_,?_,?_⟩,λn=>⟨dl _,mO.1,λl st x _ hx=>hx,λ_ _ hx=>hx,λb hb=>.inl (wV b hb).1,?_,λ_ _ _=>rfl,rfl⟩,?_⟩
 .intro b o c hc;simp only[E']at hc;split at hc
  .exact hc
  .exact h.I b o c hc
 .intro l' o' cj;by_cases hk:l'=l
  .subst hk;rw[bO (DX gX)]at cj;cases cj;trivial
  .rw[bG (Ne.symm hk)]at cj;exact(h.fJ l' o' cj).mono mO (λ_ _ hx=>hx) (λ_ _ _=>rfl)
 .intro l' bc x' iG;simpa using h.jI l' bc x' iG
 .intro b o hb;obtain⟨nV,pw⟩:=wV b hb;simp only[E'];rw[au pw];exact h.apart b o nV
 .intro b hb;exact h.lt b (wV b hb).1
 .intro l1 l2 fw lG x1 x2 sj yj mT kK he;exact h.inj l1 l2 fw lG x1 x2 (xg sj gX) (xg yj gX) mT kK he
 .intro b o c hc;simp only[E']at hc;split at hc
  .rename_i hm;exact .inr (.inl (MR b hm))
  .exact .inl hc
 .intro v u hv
  induction hv with
  |hG u=>exact .hG u
  |bool b=>exact .bool b
  |int k n=>exact .int k n
  |str s=>exact .str s
  |cu=>exact .cu
  |ptr i off hr=>exact VR.ptr (E:=E') i off hr
  |cq off hI hv _=>exact(VR.cq off hI hv).mono mO
  |dE g off=>exact .dE g off
  |slnil x=>exact .slnil x
  |pL x a=>exact .pL x a
  |sl hc hx hs hI hv ih=>
   rename_i x ys b o cap sz';simp only[V.du,oJ];have hlen:(ys.map (V.du l xs wr)).length=ys.length:=sM;have lJ:∀v:V,(v.du l xs wr).cells.length=v.cells.length:=λv=>by rw[Iw];simp
   have:=VR.sl (E:=E') (x:=x) (xs:=ys.map (V.du l xs wr)) (b:=b) (o:=o) (cap:=cap) (sz:=sz') (by rw[hlen];exact hc) (λhe=>by rw[hlen];exact hx he)
    (λv hv=>by
     rw[cY]at hv;obtain⟨v0,iL,rfl⟩:=hv;rw[lJ];exact hs v0 iL)
    (λi j hi hj=>Rz mO (hI i j (by rw[<-hlen];exact hi) hj))
    (λi v j c' c hv im hi=>by
     rw[dS,ep]at hv;obtain⟨v0,iL,rfl⟩:=hv;rw[Iw,dS,ep]at im;obtain⟨c0,Dq,rfl⟩:=im;have h1:=(br.1 iL).1;have h2:=(br.1 Dq).1;rw[hs v0 (dZ iL)]at h2;exact ih i v0 j c0 c iL Dq (Pl mO (hI i j h1 h2) hi))
   rw[hlen]at this;exact this
  |arr hr hN hc=>
   rename_i l' off len cap st x;simp only[V.du];split
   .rename_i hk;obtain⟨rfl,sB,hle⟩:=hk;obtain⟨g1,g2,C,t,g3,g4,g5,g6⟩:=h2 st x hr sB;have hm:mine x.b:=⟨st,x,hr,rfl⟩;have hlen:((xs.drop off).take len).length=len:=by simp;omega
    have lK:∀(i:Nat) (v:V),((xs.drop off).take len)[i]?=some v->xs[off+i]?=some v/\i<len:=λi v hv=>by
     have hi:=(br.1 hv).1;rw[hlen]at hi;rw[qx hi,qw]at hv;exact⟨hv,hi⟩
    have kH:∀v,v∈(xs.drop off).take len->v.cells.length=x.sz:=λv hv=>by rw[g2];exact h1 v (KL (E6 hv))
    have Mc:∀(i j:Nat) (v c':V),xs[off+i]?=some v->off+i<st->v.cells[j]?=some c'->∃c,E'.I x.b (off*x.sz+i*x.sz+j)=some c/\VR E c' c:=by
     intro i j v c' hv hi j0;obtain⟨c,lI,ri⟩:=g6 (off+i) v hv hi j c' j0;refine⟨c,?_,ri⟩;simp only[E'];rw[ak hm,H6 g3,show off*x.sz+i*x.sz+j=(off+i)*x.sz+j by rw[jH]];exact lI
    have:=VR.sl (E:=E') (x:=false) (xs:=(xs.drop off).take len) (b:=x.b) (o:=off*x.sz) (cap:=cap) (sz:=x.sz) (by rw[hlen];exact hc) (λh=>by cases h) kH
     (λi j hi hj=>by
      rw[hlen]at hi;have hx:xs[off+i]?=some (xs[off+i]'oM):=sM;have lJ:(xs[off+i]'oM).cells.length=x.sz:=by rw[g2];exact h1 _ (dz _)
      obtain⟨c,lI,_⟩:=Mc i j _ ((xs[off+i]'oM).cells[j]'oM) hx oM sM;rw[lI];rfl)
     (λi v j c' c hv im hi=>by
      obtain⟨eV,eI⟩:=lK i v hv;obtain⟨d,jb,jO⟩:=Mc i j v c' eV oM im;rw[jb]at hi;cases hi;exact jO.mono mO)
    rw[hlen]at this;exact this
   .exact VR.arr (E:=E') hr hN hc
  |dI=>exact .dI
  |map hr=>exact VR.map (E:=E') hr
  |fn h1 h2 g1 g2 _ _=>exact(VR.fn h1 h2 g1 g2).mono mO
  |bY=>exact .bY
  |iface t _ ih=>exact .iface t ih
  |eB=>exact .eB
  |dc hr=>exact VR.dc (E:=E') hr
  |agg hl g ih=>
   simp only[V.du,oJ];refine .agg (by simpa using hl) λi v u hv hu=>?_
   rw[dS,ep]at hv;obtain⟨v0,iL,rfl⟩:=hv;exact ih i v0 u iL hu
  |aV hl g ih=>
   simp only[V.du,oJ];refine .aV (by simpa using hl) λi v u hv hu=>?_
   rw[dS,ep]at hv;obtain⟨v0,iL,rfl⟩:=hv;exact ih i v0 u iL hu
def dJ.It{n l sz wr:Nat}{r:V}{S:St}{xs:List V}(ho:S[l]?=some (.arr xs sz wr)):dJ n r S (r.du l xs wr) (S.set l .dead):=λE w u hs hv hn=>by
 obtain⟨E',h1,h2,h3⟩:=hs.It ho;exact⟨E',h3 _ _ hv,h1,h2 n,by simpa using hn⟩
def V.HV:Nat->V->List Nat
 |0,_=>[]
 |n+1,v=>match v with
  |.arr l _ _ _=>[l]
  |.sl _ ys=>ys.flatMap (V.HV n)
  |.iface _ v=>V.HV n v
  |.agg cs=>cs.flatMap (V.HV n)
  |.aV cs=>cs.flatMap (V.HV n)
  |_=>[]
mutual
def V.same:V->V->Bool
 |.bool a,.bool b=>a==b
 |.int k a,.int k' b=>k==k'&&a==b
 |.str a,.str b=>a.data.toList==b.data.toList
 |.cu,.cu=>true
 |.ptr a b c d,.ptr a' b' c' d'=>a==a'&&b==b'&&c==c'&&d==d'
 |.dE a b,.dE a' b'=>a==a'&&b==b'
 |.sl x xs,.sl y ys=>x==y&&V.zU xs ys
 |.arr a b c d,.arr a' b' c' d'=>a==a'&&b==b'&&c==c'&&d==d'
 |.dI,.dI=>true
 |.map l,.map l'=>l==l'
 |.bY,.bY=>true
 |.eB,.eB=>true
 |.cq v o,.cq v' o'=>V.same v v'&&o==o'
 |.agg xs,.agg ys=>V.zU xs ys
 |.aV xs,.aV ys=>V.zU xs ys
 |_,_=>false
def V.zU:List V->List V->Bool
 |[],[]=>true
 |x::xs,y::ys=>V.same x y&&V.zU xs ys
 |_,_=>false
end
def ZQ{a b:Bz}(h:(a.data.toList==b.data.toList)=true):a=b:=by
 obtain⟨x⟩:=a;obtain⟨y⟩:=b;simp at h;rw[h]
mutual
theorem Oj:∀(a b:V),V.same a b=true->a=b
 |.bool a,.bool b,h=>by simp only[V.same,beq_iff_eq]at h;rw[h]
 |.int k a,.int k' b,h=>by simp only[V.same,cT,beq_iff_eq]at h;rw[h.1,h.2]
 |.str a,.str b,h=>by simp only[V.same]at h;rw[ZQ h]
 |.cu,.cu,_=>rfl
 |.dE a b,.dE a' b',h=>by simp only[V.same,cT,beq_iff_eq]at h;obtain⟨rfl,rfl⟩:=h;rfl
 |.ptr a b c d,.ptr a' b' c' d',h=>by simp only[V.same,cT,beq_iff_eq]at h;obtain⟨⟨⟨rfl,rfl⟩,rfl⟩,rfl⟩:=h;rfl
 |.sl x xs,.sl y ys,h=>by simp only[V.same,cT,beq_iff_eq]at h;rw[h.1,Ol xs ys h.2]
 |.arr a b c d,.arr a' b' c' d',h=>by simp only[V.same,cT,beq_iff_eq]at h;obtain⟨⟨⟨rfl,rfl⟩,rfl⟩,rfl⟩:=h;rfl
 |.dI,.dI,_=>rfl
 |.map l,.map l',h=>by simp only[V.same,beq_iff_eq]at h;rw[h]
 |.bY,.bY,_=>rfl
 |.eB,.eB,_=>rfl
 |.cq v o,.cq v' o',h=>by simp only[V.same,cT,beq_iff_eq]at h;rw[Oj v v' h.1,h.2]
 |.agg xs,.agg ys,h=>by simp only[V.same]at h;rw[Ol xs ys h]
 |.aV xs,.aV ys,h=>by simp only[V.same]at h;rw[Ol xs ys h]
 |.hG,b,h=>by cases b<;>simp[V.same]at h
 |.fn _ _ _,b,h=>by cases b<;>simp[V.same]at h
 |.iface _ _,b,h=>by cases b<;>simp[V.same]at h
 |.dc _,b,h=>by cases b<;>simp[V.same]at h
 |.dE ..,.hG,h|.dE ..,.bool _,h|.dE ..,.int _ _,h|.dE ..,.str _,h|.dE ..,.cu,h|.dE ..,.ptr ..,h|.dE ..,.cq ..,h|.dE ..,.sl ..,h|.dE ..,.arr ..,h|.dE ..,.dI,h|.dE ..,.map _,h|.dE ..,.fn ..,h|.dE ..,.bY,h|.dE ..,.iface ..,h|.dE ..,.eB,h|.dE ..,.dc _,h|.dE ..,.agg _,h|.dE ..,.aV _,h=>by simp[V.same]at h
 |.bool _,.hG,h|.bool _,.int _ _,h|.bool _,.str _,h|.bool _,.cu,h|.bool _,.ptr ..,h|.bool _,.cq ..,h|.bool _,.sl ..,h|.bool _,.arr ..,h|.bool _,.dI,h|.bool _,.map _,h|.bool _,.fn ..,h|.bool _,.bY,h|.bool _,.iface ..,h|.bool _,.eB,h|.bool _,.dc _,h|.bool _,.agg _,h|.bool _,.aV _,h|.bool _,.dE ..,h=>by simp[V.same]at h
 |.int _ _,.hG,h|.int _ _,.bool _,h|.int _ _,.str _,h|.int _ _,.cu,h|.int _ _,.ptr ..,h|.int _ _,.cq ..,h|.int _ _,.sl ..,h|.int _ _,.arr ..,h|.int _ _,.dI,h|.int _ _,.map _,h|.int _ _,.fn ..,h|.int _ _,.bY,h|.int _ _,.iface ..,h|.int _ _,.eB,h|.int _ _,.dc _,h|.int _ _,.agg _,h|.int _ _,.aV _,h|.int _ _,.dE ..,h=>by simp[V.same]at h
 |.str _,.hG,h|.str _,.bool _,h|.str _,.int _ _,h|.str _,.cu,h|.str _,.ptr ..,h|.str _,.cq ..,h|.str _,.sl ..,h|.str _,.arr ..,h|.str _,.dI,h|.str _,.map _,h|.str _,.fn ..,h|.str _,.bY,h|.str _,.iface ..,h|.str _,.eB,h|.str _,.dc _,h|.str _,.agg _,h|.str _,.aV _,h|.str _,.dE ..,h=>by simp[V.same]at h
 |.cu,.hG,h|.cu,.bool _,h|.cu,.int _ _,h|.cu,.str _,h|.cu,.ptr ..,h|.cu,.cq ..,h|.cu,.sl ..,h|.cu,.arr ..,h|.cu,.dI,h|.cu,.map _,h|.cu,.fn ..,h|.cu,.bY,h|.cu,.iface ..,h|.cu,.eB,h|.cu,.dc _,h|.cu,.agg _,h|.cu,.aV _,h|.cu,.dE ..,h=>by simp[V.same]at h
 |.ptr ..,.hG,h|.ptr ..,.bool _,h|.ptr ..,.int _ _,h|.ptr ..,.str _,h|.ptr ..,.cu,h|.ptr ..,.cq ..,h|.ptr ..,.sl ..,h|.ptr ..,.arr ..,h|.ptr ..,.dI,h|.ptr ..,.map _,h|.ptr ..,.fn ..,h|.ptr ..,.bY,h|.ptr ..,.iface ..,h|.ptr ..,.eB,h|.ptr ..,.dc _,h|.ptr ..,.agg _,h|.ptr ..,.aV _,h|.ptr ..,.dE ..,h=>by simp[V.same]at h
 |.sl ..,.hG,h|.sl ..,.bool _,h|.sl ..,.int _ _,h|.sl ..,.str _,h|.sl ..,.cu,h|.sl ..,.ptr ..,h|.sl ..,.cq ..,h|.sl ..,.arr ..,h|.sl ..,.dI,h|.sl ..,.map _,h|.sl ..,.fn ..,h|.sl ..,.bY,h|.sl ..,.iface ..,h|.sl ..,.eB,h|.sl ..,.dc _,h|.sl ..,.agg _,h|.sl ..,.aV _,h|.sl ..,.dE ..,h=>by simp[V.same]at h
 |.arr ..,.hG,h|.arr ..,.bool _,h|.arr ..,.int _ _,h|.arr ..,.str _,h|.arr ..,.cu,h|.arr ..,.ptr ..,h|.arr ..,.cq ..,h|.arr ..,.sl ..,h|.arr ..,.dI,h|.arr ..,.map _,h|.arr ..,.fn ..,h|.arr ..,.bY,h|.arr ..,.iface ..,h|.arr ..,.eB,h|.arr ..,.dc _,h|.arr ..,.agg _,h|.arr ..,.aV _,h|.arr ..,.dE ..,h=>by simp[V.same]at h
 |.dI,.hG,h|.dI,.bool _,h|.dI,.int _ _,h|.dI,.str _,h|.dI,.cu,h|.dI,.ptr ..,h|.dI,.cq ..,h|.dI,.sl ..,h|.dI,.arr ..,h|.dI,.map _,h|.dI,.fn ..,h|.dI,.bY,h|.dI,.iface ..,h|.dI,.eB,h|.dI,.dc _,h|.dI,.agg _,h|.dI,.aV _,h|.dI,.dE ..,h=>by simp[V.same]at h
 |.map _,.hG,h|.map _,.bool _,h|.map _,.int _ _,h|.map _,.str _,h|.map _,.cu,h|.map _,.ptr ..,h|.map _,.cq ..,h|.map _,.sl ..,h|.map _,.arr ..,h|.map _,.dI,h|.map _,.fn ..,h|.map _,.bY,h|.map _,.iface ..,h|.map _,.eB,h|.map _,.dc _,h|.map _,.agg _,h|.map _,.aV _,h|.map _,.dE ..,h=>by simp[V.same]at h
 |.bY,.hG,h|.bY,.bool _,h|.bY,.int _ _,h|.bY,.str _,h|.bY,.cu,h|.bY,.ptr ..,h|.bY,.cq ..,h|.bY,.sl ..,h|.bY,.arr ..,h|.bY,.dI,h|.bY,.map _,h|.bY,.fn ..,h|.bY,.iface ..,h|.bY,.eB,h|.bY,.dc _,h|.bY,.agg _,h|.bY,.aV _,h|.bY,.dE ..,h=>by simp[V.same]at h
 |.eB,.hG,h|.eB,.bool _,h|.eB,.int _ _,h|.eB,.str _,h|.eB,.cu,h|.eB,.ptr ..,h|.eB,.cq ..,h|.eB,.sl ..,h|.eB,.arr ..,h|.eB,.dI,h|.eB,.map _,h|.eB,.fn ..,h|.eB,.bY,h|.eB,.iface ..,h|.eB,.dc _,h|.eB,.agg _,h|.eB,.aV _,h|.eB,.dE ..,h=>by simp[V.same]at h
 |.cq ..,.hG,h|.cq ..,.bool _,h|.cq ..,.int _ _,h|.cq ..,.str _,h|.cq ..,.cu,h|.cq ..,.ptr ..,h|.cq ..,.sl ..,h|.cq ..,.arr ..,h|.cq ..,.dI,h|.cq ..,.map _,h|.cq ..,.fn ..,h|.cq ..,.bY,h|.cq ..,.iface ..,h|.cq ..,.eB,h|.cq ..,.dc _,h|.cq ..,.agg _,h|.cq ..,.aV _,h|.cq ..,.dE ..,h=>by simp[V.same]at h
 |.agg _,.hG,h|.agg _,.bool _,h|.agg _,.int _ _,h|.agg _,.str _,h|.agg _,.cu,h|.agg _,.ptr ..,h|.agg _,.cq ..,h|.agg _,.sl ..,h|.agg _,.arr ..,h|.agg _,.dI,h|.agg _,.map _,h|.agg _,.fn ..,h|.agg _,.bY,h|.agg _,.iface ..,h|.agg _,.eB,h|.agg _,.dc _,h|.agg _,.aV _,h|.agg _,.dE ..,h=>by simp[V.same]at h
 |.aV _,.hG,h|.aV _,.bool _,h|.aV _,.int _ _,h|.aV _,.str _,h|.aV _,.cu,h|.aV _,.ptr ..,h|.aV _,.cq ..,h|.aV _,.sl ..,h|.aV _,.arr ..,h|.aV _,.dI,h|.aV _,.map _,h|.aV _,.fn ..,h|.aV _,.bY,h|.aV _,.iface ..,h|.aV _,.eB,h|.aV _,.dc _,h|.aV _,.agg _,h|.aV _,.dE ..,h=>by simp[V.same]at h
theorem Ol:∀(a b:List V),V.zU a b=true->a=b
 |[],[],_=>rfl
 |x::xs,y::ys,h=>by simp only[V.zU,cT]at h;rw[Oj x y h.1,Ol xs ys h.2]
 |[],_::_,h=>by simp[V.zU]at h
 |_::_,[],h=>by simp[V.zU]at h
end
end Go.Proofs.YtbifpocccfkhhaaGreatDoor

namespace Go.Proofs.YtbifpocccfkhhaaGreatDoor
open Go
def Ef{α:Type}(l:List α):Nat->Option α:=List.rec (motive:=λ_=>Nat->Option α) (λ_=>none) (λx _ ih n=>Nat.rec (some x) (λm _=>ih m) n) l
def GY{α:Type}:∀(l:List α) (n:Nat),Ef l n=l[n]?
 |[],n=>by simp[Ef]
 |x::xs,0=>rfl
 |x::xs,n+1=>by rw[CH,<-GY xs n];rfl
def jn{α:Type}(l:List α):Nat:=List.rec (motive:=λ_=>Nat->Nat) (λn=>n) (λ_ _ ih n=>ih (Nat.succ n)) l 0
def qgM{α:Type}:∀(l:List α) (n:Nat),(List.rec (motive:=λ_=>Nat->Nat) (λn=>n) (λ_ _ ih n=>ih (Nat.succ n)) l n:Nat)=l.length+n
 |[],n=>by simp
 |x::xs,n=>by
  show(List.rec (motive:=λ_=>Nat->Nat) (λn=>n) (λ_ _ ih n=>ih (Nat.succ n)) xs (Nat.succ n):Nat)=_;rw[qgM xs];simp;omega
def rz{α:Type}(l:List α):jn l=l.length:=by unfold jn;rw[qgM];rfl
def SQ{α:Type}(x:α)(l:List α):Nat->List α:=List.rec (motive:=λ_=>Nat->List α) (λ_=>[]) (λy ys ih n=>Nat.rec (x::ys) (λm _=>y::ih m) n) l
def Zd{α:Type}(x:α):∀(l:List α) (n:Nat),SQ x l n=l.set n x
 |[],n=>by simp[SQ]
 |y::ys,0=>rfl
 |y::ys,n+1=>by rw[List.set_cons_succ,<-Zd x ys n];rfl
def ji{α:Type}(l m:List α):List α:=List.rec m (λx _ ih=>x::ih) l
def oC{α:Type}:∀(l m:List α),ji l m=l++m
 |[],m=>rfl
 |x::xs,m=>by rw[dR,<-oC xs m];rfl
def BH{α:Type}(l:List α):Nat->List α:=List.rec (motive:=λ_=>Nat->List α) (λ_=>[]) (λy _ ih n=>Nat.rec [] (λm _=>y::ih m) n) l
def Hq{α:Type}:∀(l:List α) (n:Nat),BH l n=l.take n
 |[],n=>by simp[BH]
 |y::ys,0=>rfl
 |y::ys,n+1=>by rw[List.take_succ_cons,<-Hq ys n];rfl
def AB{α:Type}(l:List α):Nat->List α:=List.rec (motive:=λ_=>Nat->List α) (λ_=>[]) (λy ys ih n=>Nat.rec (y::ys) (λm _=>ih m) n) l
def FC{α:Type}:∀(l:List α) (n:Nat),AB l n=l.drop n
 |[],n=>by simp[AB]
 |y::ys,0=>rfl
 |y::ys,n+1=>by rw[List.drop_succ_cons,<-FC ys n];rfl
def ee(a b:Bool):Bool:=Bool.rec false b a
def HU(a b:Bool):ee a b=(a&&b):=by cases a<;>rfl
def bM{α:Type}(c:Bool)(a b:α):α:=Bool.rec b a c
def j9{α:Type}(c:Bool)(a b:α):bM c a b=if c=true then a else b:=by cases c<;>rfl
def xM{α:Type}(f:α->Bool)(l:List α):Bool:=List.rec true (λx _ ih=>Bool.rec false ih (f x)) l
def CM{α:Type}(f:α->Bool):∀(l:List α),xM f l=l.all f
 |[]=>rfl
 |x::xs=>by
  rw[Ak,<-CM f xs];show(Bool.rec false (xM f xs) (f x):Bool)=_;cases f x<;>rfl
def G1(f:Nat):Nat->List Bool:=Nat.rec (motive:=λ_=>Nat->List Bool) (λ_=>[]) (λ_ ih n=>Nat.rec [] (λm _=>Nat.beq (Nat.mod m 2) 1::ih (Nat.div m 2)) n) f
def path(n:Nat):List Bool:=G1 n n
def qhA:∀(f g n m:Nat),n<=f->m<=g->G1 f n=G1 g m->n=m
 |f,g,0,0,_,_,_=>rfl
 |f,g+1,0,m+1,_,_,h=>by
  have h1:G1 f 0=[]:=by cases f<;>rfl
  rw[h1]at h;exact absurd h (by show []≠_::_;simp)
 |f+1,g,n+1,0,_,_,h=>by
  have h1:G1 g 0=[]:=by cases g<;>rfl
  rw[h1]at h;exact absurd h (by show _::_≠[];simp)
 |f+1,g+1,n+1,m+1,hn,hm,h=>by
  have h':(Nat.beq (Nat.mod n 2) 1::G1 f (Nat.div n 2))=(Nat.beq (Nat.mod m 2) 1::G1 g (Nat.div m 2)):=h;simp only[List.cons.injEq]at h';obtain⟨h1,h2⟩:=h';have h3:n/2=m/2:=qhA f g (n/2) (m/2) oM oM h2
  have h4:(n%2=1↔m%2=1):=by
   have:(Nat.beq (n%2) 1=true↔Nat.beq (m%2) 1=true):=by
    show(Nat.beq (Nat.mod n 2) 1=true↔Nat.beq (Nat.mod m 2) 1=true);rw[h1]
   simpa using this
  omega
def NZ{n m:Nat}(h:path n=path m):n=m:=qhA n m n m cz cz h
inductive Tx(α:Type) where
 |nil
 |node (v:Option α) (l r:Tx α)
def Tx.get{α:Type}(p:List Bool):Tx α->Option α:=List.rec (motive:=λ_=>Tx α->Option α) (λt=>Tx.rec none (λv _ _ _ _=>v) t) (λb _ ih t=>Tx.rec none (λ_ l r _ _=>ih (Bool.rec l r b)) t) p
def Tx.put{α:Type}(x:α)(p:List Bool):Tx α->Tx α:=List.rec (motive:=λ_=>Tx α->Tx α) (λt=>Tx.rec (.node (some x) .nil .nil) (λ_ l r _ _=>.node (some x) l r) t)
 (λb _ ih t=>Tx.rec (Bool.rec (.node none (ih .nil) .nil) (.node none .nil (ih .nil)) b) (λv l r _ _=>Bool.rec (.node v (ih l) r) (.node v l (ih r)) b) t) p
def Tx.Dc{α:Type}(x:α):∀(p:List Bool) (t:Tx α),(Tx.put x p t).get p=some x
 |[],t=>by cases t<;>rfl
 |b::p,t=>by
  cases t with
  |nil=>cases b<;>exact Tx.Dc x p .nil
  |node v l r=>cases b<;>first|exact Tx.Dc x p l|exact Tx.Dc x p r
def Tx.get_nil{α:Type}:∀(p:List Bool),(Tx.nil:Tx α).get p=none
 |[]=>rfl
 |b::p=>rfl
def Tx.Db{α:Type}(x:α):∀(p q:List Bool) (t:Tx α),p≠q->(Tx.put x p t).get q=t.get q
 |[],[],t,h=>absurd rfl h
 |[],b::q,t,_=>by cases t<;>cases b<;>first|rfl|exact Tx.get_nil q
 |b::p,[],t,_=>by cases t<;>cases b<;>rfl
 |b::p,c::q,t,h=>by
  have hn:b=c->p≠q:=λhb hp=>h (by rw[hb,hp])
  cases t with
  |nil=>cases b<;>cases c<;>first
   |exact(Tx.Db x p q .nil (hn rfl)).trans (Tx.get_nil q)
   |exact Tx.get_nil q
  |node v l r=>cases b<;>cases c<;>first
   |exact Tx.Db x p q l (hn rfl)
   |exact Tx.Db x p q r (hn rfl)
   |rfl
abbrev TE:=Tx V
def TE.sub(t:TE)(e:ae):Prop:=∀k v,Tx.get (path k) t=some v->e.get k=some v
def TE.put(t:TE)(d:Option Nat)(v:V):TE:=Option.rec t (λk=>Tx.put v (path k) t) d
def TE.ua{t:TE}{e:ae}(h:t.sub e)(d:Option Nat)(v:V):(TE.put t d v).sub (e.put d v):=by
 cases d with
 |none=>exact h
 |some k=>
  intro j w hj;simp only[ae.put,ae.get];by_cases hk:k=j
  .subst hk;rw[ak rfl];have:=hj.symm.trans (Tx.Dc v (path k) t);exact this.symm
  .rw[au hk];exact h j w ((Tx.Db v (path k) (path j) t (λhp=>hk (NZ hp))).symm.trans hj)
structure TS where
 len:Nat
 tr:Tx Ob
def Ob.sk:Ob->Ob
 |.loop i=>.loop ⟨i.st,i.dM,[],.skip,.skip,[],0⟩
 |o=>o
def Ey{S:St}{l sz wr:Nat}{xs:List V}(h:(S[l]?).map Ob.sk=some (.arr xs sz wr)):S[l]?=some (.arr xs sz wr):=by
 cases ho:S[l]? with
 |none=>rw[ho]at h;cases h
 |some o=>rw[ho]at h;cases o<;>simp only[fG,Ob.sk,Option.some.injEq,reduceCtorEq]at h;rw[h]
def JS{S:St}{l ck:Nat}{es:List (V×V)}{bs:List Nat}(h:(S[l]?).map Ob.sk=some (.map es bs ck)):S[l]?=some (.map es bs ck):=by
 cases ho:S[l]? with
 |none=>rw[ho]at h;cases h
 |some o=>rw[ho]at h;cases o<;>simp only[fG,Ob.sk,Option.some.injEq,reduceCtorEq]at h;rw[h]
def qj9{S:St}{l lm since last:Nat}{seen:List Nat}(h:(S[l]?).map Ob.sk=some (.iter lm since seen last)):S[l]?=some (.iter lm since seen last):=by
 cases ho:S[l]? with
 |none=>rw[ho]at h;cases h
 |some o=>rw[ho]at h;cases o<;>simp only[fG,Ob.sk,Option.some.injEq,reduceCtorEq]at h;rw[h]
def Ez{S:St}{l:Nat}{i:LI}(h:(S[l]?).map Ob.sk=some (.loop i)):∃j,S[l]?=some (.loop j)/\j.st=i.st/\j.dM=i.dM:=by
 cases ho:S[l]? with
 |none=>rw[ho]at h;cases h
 |some o=>
  rw[ho]at h;cases o<;>simp only[fG,Ob.sk,Option.some.injEq,reduceCtorEq,Ob.loop.injEq]at h;exact⟨_,rfl,by rw[<-h],by rw[<-h]⟩
def TS.cO(t:TS)(S:St):Prop:=S.length=t.len/\∀l,l<t.len->t.tr.get (path l)=(S[l]?).map Ob.sk
def TS.get(t:TS)(l:Nat)(c:Ob->Bool):Bool:=Bool.rec false (Option.rec false c (t.tr.get (path l))) (Nat.ble (Nat.succ l) t.len)
def TS.mw{t:TS}{S:St}{l:Nat}{c:Ob->Bool}(h:t.cO S)(hc:t.get l c=true):∃o,(S[l]?).map Ob.sk=some o/\c o=true:=by
 unfold TS.get at hc
 cases hb:Nat.ble (Nat.succ l) t.len with
 |false=>rw[hb]at hc;cases hc
 |true=>
  rw[hb]at hc;have aB:l<t.len:=qA hb
  cases hg:t.tr.get (path l) with
  |none=>rw[hg]at hc;cases hc
  |some o=>rw[hg]at hc;exact⟨o,(h.2 l aB).symm.trans hg,hc⟩
def TS.set(t:TS)(l:Nat)(o:Ob):TS:=⟨t.len,t.tr.put o (path l)⟩
def TS.yK{t:TS}{S:St}{l:Nat}{o o' o1:Ob}(h:t.cO S)(hl:S[l]?=some o')(hk:o1.sk=o):(t.set l o).cO (S.set l o1):=by
 subst hk;have aB:l<S.length:=(br.1 hl).1;refine⟨by simp[TS.set,h.1],λj hj=>?_⟩;simp only[TS.set]at hj |-;by_cases hk:l=j
 .subst hk;rw[Tx.Dc,bO aB];rfl
 .rw[Tx.Db _ _ _ _ (λhp=>hk (NZ hp)),bG hk];exact h.2 j hj
def qF(m:Nat)(c:Nat->Bool):Bool:=Nat.rec (c 0) (λk _=>c (Nat.succ k)) m
def xW(m:Nat)(c:Nat->Bool):qF m c=c m:=by cases m<;>rfl
def TS.push(t:TS)(o:Ob):TS:=⟨Nat.succ t.len,t.tr.put o (path t.len)⟩
def TS.YI{t:TS}{S:St}{o o1:Ob}(h:t.cO S)(hk:o1.sk=o):(t.push o).cO (S++[o1]):=by
 subst hk;refine⟨by simp[TS.push,h.1],λj hj=>?_⟩;simp only[TS.push]at hj |-;by_cases hk:t.len=j
 .subst hk;rw[Tx.Dc,<-h.1];simp
 .rw[Tx.Db _ _ _ _ (λhp=>hk (NZ hp)),h.2 j oM,dh (by rw[h.1];omega)]
def TS.Eu{t:TS}{S:St}{l:Nat}{o o':Ob}(h:t.cO S)(hl:S[l]?=some o')(hk:o.sk=o:=by rfl):(t.set l o).cO (S.set l o):=TS.yK h hl hk
def TS.JJ{t:TS}{S:St}{o:Ob}(h:t.cO S)(hk:o.sk=o:=by rfl):(t.push o).cO (S++[o]):=TS.YI h hk
def rI(v:V):Nat:=jn v.cells
def zW(v:V):rI v=v.size:=rz _
def Ip(l:List V):Bool:=xM V.flat l
def Ly(l:List V):Ip l=l.all V.flat:=CM _ _
def Vg(a:List UInt8):List UInt8->Bool:=List.rec (motive:=λ_=>List UInt8->Bool) (λb=>List.rec true (λ_ _ _=>false) b) (λx _ ih b=>List.rec false (λy ys _=>Bool.rec false (ih ys) (Nat.beq x.toNat y.toNat)) b) a
def qk3(x y:UInt8):Nat.beq x.toNat y.toNat=(x==y):=by
 rw[eR];simp;exact⟨λh=>UInt8.toNat_inj.1 h,λh=>by rw[h]⟩
def Vh:∀(a b:List UInt8),Vg a b=(a==b)
 |[],[]=>rfl
 |[],_::_=>rfl
 |_::_,[]=>rfl
 |x::xs,y::ys=>by
  show(Bool.rec false (Vg xs ys) (Nat.beq x.toNat y.toNat):Bool)=_;rw[Vh xs ys,qk3];rw[List.cons_beq_cons];cases (x==y)<;>rfl
def yM(a b:Bz):Bool:=Vg a.data.toList b.data.toList
def qk2(bs:Bz):∀(k i:Nat) (r:List UInt8),bs.size-i<=k->ByteArray.toList.loop bs i r=r.reverse++bs.data.toList.drop i
 |k,i,r,hk=>by
  unfold ByteArray.toList.loop;split
  .rename_i hi
   cases k with
   |zero=>omega
   |succ k=>
    rw[qk2 bs k (i+1) _ oM];have eI:i<bs.data.toList.length:=by simpa using hi
    rw[Pq,dY,xE eI];congr 1;simp only[List.singleton_append,List.cons.injEq,and_true];have tt:i<bs.data.size:=hi;show bs.data[i]! =bs.data.toList[i];rw[getElem!_pos bs.data i tt];simp
  .rename_i hi;rw[HK (by simpa using Nat.le_of_not_lt hi)];simp
def EA(bs:Bz):bs.toList=bs.data.toList:=by
 unfold ByteArray.toList;rw[qk2 bs _ 0 [] cz];simp
def qnx(a b:Bz):(a.data.toList==b.data.toList)=BG a b:=by
 unfold BG;rw[EA,EA]
def qkR(a b:Bz):yM a b=BG a b:=by unfold yM;rw[Vh,qnx]
end Go.Proofs.YtbifpocccfkhhaaGreatDoor
end
