/- A part. -/
import Derived.Test.YtbifpocccfkhhaaGreatDoorWb
import Derived.Scope
import Derived.RangeFuncLeaves
import Derived.RangeFuncRecord
set_option linter.all false
noncomputable section
namespace Go.Proofs.YtbifpocccfkhhaaGreatDoor
open Go
structure D where
 o:O'
 w:Bool
 slot:Option Nat
 chk:Bool
 jr:List Nat
 lo:Nat
 hi:Nat
 deriving Inhabited
def O'.tmps(o:O'):List Nat:=o.k.tmps++(match o.g with|some (t,_)=>[t]|none=>[])
def fQ(ds:List D):List Nat:=(List.range ds.length).filter fun i=>(ds[i]?.map D.w).getD false
def pos(ds:List D)(j:Nat):Nat:=(ds.take j).countP fun d=>d.w
def eg(ds:List D)(i:Nat):Option Nat:=ds[i]?.bind fun d=>d.o.dst
def pP(ds:List D)(i:Nat):List Nat:=(ds[i]?.map D.jr).getD []
def m5(ds:List D)(i:Nat):Option Nat:=ds[i]?.bind fun d=>d.slot
def LQ(ds:List D)(i8:List Nat)(j:Nat)(d:D):Bool:=
 (i8.all fun i=>decide (i<j)) &&
 (d.jr.all fun i=>i8.contains i||i8.any fun s=>(pP ds s).contains i) &&
 (d.o.tmps.all fun t=>(List.range ds.length).all fun i=>!(eg ds i==some t)||(d.jr.contains i&&decide (i<j))||(!d.chk&&decide (j<=i)&&(i==j||(pP ds i).contains j))) &&
 (match d.o.dst with|none=>true|some t=>(List.range ds.length).all fun i=>i==j||!(eg ds i==some t)) &&
 ((List.range d.lo).all fun p=>match (fQ ds)[p]? with|some i=>d.jr.contains i|none=>false) &&
 ((List.range (fQ ds).length).all fun p=>decide (p<d.hi)||(match (fQ ds)[p]? with|some i=>i==j||(pP ds i).contains j|none=>true)) &&
 (if d.w then(fQ ds)[pos ds j]?==some j&&d.lo==pos ds j else true) &&
 (match d.slot with
  |some s=>!d.w&&d.chk&&(match d.o.k with|.new _=>true|_=>false)&&(List.range ds.length).all fun i=>i==j||!(m5 ds i==some s)
  |none=>d.w||!d.o.k.writes) &&
 (d.w||d.chk||(d.lo==pos ds j&&d.hi==pos ds j)||(d.slot.isNone&&!d.o.k.reads))
def EP(P:Program)(base:Nat)(e:af)(S:St)(d:D)(v:V)(S':St):Prop:=
 (ga e d.o.g=some false/\v=.aH []/\S'=S)\/
 (ga e d.o.g=some true∧((∃s,d.slot=some s∧v=.ptr (base+s) 0 0 1∧S'=S)∨
  (d.slot=none/\((∃f args,d.o.k=.call f args)\/br e S d.o.k=some (v,S')))))
def eG(P:Program)(base:Nat):List D->(af->List St->Prop)->af->St->List St->Prop
 |[],K,e,_,H=>K e H
 |d::ds,K,e,S,H=>match ga e d.o.g with
  |none=>False
  |some false=>eG P base ds K (e.put d.o.dst (.aH [])) S (if d.w then H++[S] else H)
  |some true=>match d.slot with
   |some s=>eG P base ds K (e.put d.o.dst (.ptr (base+s) 0 0 1)) S (if d.w then H++[S] else H)
   |none=>match d.o.k with
    |.call f args=>match f.ev e,iI e args with
     |some (.fn (.func k) fs cs),some vs=>∃R:V->St->Prop,au P k (fs++vs++cs) S R/\(∃v S',R v S')/\∀v S',R v S'->eG P base ds K (e.put d.o.dst v) S' (if d.w then H++[S'] else H)
     |_,_=>False
    |k=>match br e S k with
     |some (r,S')=>eG P base ds K (e.put d.o.dst r) S' (if d.w then H++[S'] else H)
     |none=>False
def Tr(P:Program)(base:Nat):List D->af->St->List St->af->List St->Prop
 |[],e,_,H,ef,Hf=>ef=e/\Hf=H
 |d::ds,e,S,H,ef,Hf=>∃v S',EP P base e S d v S'/\Tr P base ds (e.put d.o.dst v) S' (if d.w then H++[S'] else H) ef Hf
def Ft{P:Program}{k:Nat}{args:List V}{S:St}{Φ:V->St->Prop}{v:V}{S':St}(h:au P k args S (fun r T=>r=v/\T=S'))(g:Φ v S'):∃R:V->St->Prop,au P k args S R/\(∃v S',R v S')/\∀v S',R v S'->Φ v S':=
 ⟨_,h,⟨v,S',rfl,rfl⟩,fun _ _ hh=>by obtain⟨rfl,rfl⟩:=hh;exact g⟩
def BI{e:af}{d:Option Nat}{v:V}{t:Nat}:(e.put d v).get t=if d=some t then some v else e.get t:=by
 cases d with
 |none=>simp[af.put]
 |some d=>simp[af.put,af.get]
def vV{P:Program}{base:Nat}{t:Nat}:∀(ds:List D) (e:af) (S:St) (H:List St) (ef:af) (Hf:List St),Tr P base ds e S H ef Hf->(∀d,d∈ds->d.o.dst≠some t)->ef.get t=e.get t
 |[],e,S,H,ef,Hf,h,_=>by rw[h.1]
 |d::ds,e,S,H,ef,Hf,⟨v,S',h1,h2⟩,hd=>by
  rw[vV ds _ _ _ _ _ h2 fun d' hd'=>hd d' (by simp[hd']),BI,aj (hd d sM)]
def vW{P:Program}{base:Nat}:∀(ds:List D) (e:af) (S:St) (H:List St) (ef:af) (Hf:List St),Tr P base ds e S H ef Hf->∃T,Hf=H++T/\T.length=ds.countP fun d=>d.w
 |[],e,S,H,ef,Hf,h=>⟨[],by simp[h.2],rfl⟩
 |d::ds,e,S,H,ef,Hf,⟨v,S',h1,h2⟩=>by
  obtain⟨T,ht,hl⟩:=vW ds _ _ _ _ _ h2;cases hw:d.w
  .rw[hw]at ht;simp only[iz,if_false]at ht;exact⟨T,ht,by rw[hl];simp[rE,hw]⟩
  .rw[hw]at ht;simp only[if_true]at ht;exact⟨S'::T,by rw[ht];simp,by simp[rE,hw,hl]⟩
def D9{e e':af}{o:O'}(h:l7 o.tmps e e'):ga e' o.g=ga e o.g:=by
 cases hg:o.g with
 |none=>rfl
 |some p=>
  obtain⟨t,w⟩:=p;simp only[ga];rw[h t (by simp[O'.tmps,hg])]
structure Ok(ds:List D)(i8:Nat->List Nat)(j:Nat)(d:D):Prop where
 back:∀i,i∈i8 j->i<j
 jr:∀i,i∈d.jr->i∈i8 j\/∃s,s∈i8 j/\i∈pP ds s
 tmps:∀t,t∈d.o.tmps->∀i,eg ds i=some t->(i∈d.jr/\i<j)\/(d.chk=false/\j<=i/\(i=j\/j∈pP ds i))
 dst:∀t,d.o.dst=some t->∀i,i≠j->eg ds i≠some t
 lo:∀p,p<d.lo->∃i,(fQ ds)[p]?=some i/\i∈d.jr
 hi:∀p i,d.hi<=p->(fQ ds)[p]?=some i->i=j\/j∈pP ds i
 wr:d.w=true->(fQ ds)[pos ds j]?=some j/\d.lo=pos ds j
 slot:∀s,d.slot=some s->d.w=false/\d.chk=true/\(∃z,d.o.k=.new z)/\∀i,i≠j->m5 ds i≠some s
 GX:d.slot=none->d.w=true\/d.o.k.writes=false
 qha:d.w=true\/d.chk=true\/(d.lo=pos ds j/\d.hi=pos ds j)\/(d.slot=none/\d.o.k.reads=false)
def Jt{ds:List D}{i t:Nat}(h:eg ds i=some t):i<ds.length:=by
 unfold eg at h
 cases hd:ds[i]? with
 |none=>rw[hd]at h;cases h
 |some d=>exact(aT.1 hd).1
def Zb{ds:List D}{i t:Nat}(h:m5 ds i=some t):i<ds.length:=by
 unfold m5 at h
 cases hd:ds[i]? with
 |none=>rw[hd]at h;cases h
 |some d=>exact(aT.1 hd).1
def qho{ds:List D}{i8:Nat->List Nat}{j:Nat}{d:D}(h:LQ ds (i8 j) j d=true):Ok ds i8 j d:=by
 unfold LQ at h;simp only[bZ]at h;obtain⟨⟨⟨⟨⟨⟨⟨⟨h1,h2⟩,h3⟩,h4⟩,h5⟩,h6⟩,h7⟩,h8⟩,h9⟩:=h;simp only[d6,cR,vP,vy,List.contains_iff_mem,rD,bZ,vx,beq_eq_false_iff_ne,ne_eq]at h1 h2 h3 h5 h6;refine⟨h1,h2,fun t ht i hi=>?_,fun t ht i hi hne=>?_,fun p hp=>?_,fun p i hp hi=>?_,fun hw=>?_,fun s hs=>?_,fun hs=>?_,?_⟩
 .rcases h3 t ht i (Jt hi) with (h|h)|⟨⟨h,h'⟩,h''⟩
  .exact absurd hi h
  .exact .inl h
  .exact .inr ⟨h,h',by simpa using h''⟩
 .rw[ht]at h4;simp only[d6,vP,vy,beq_iff_eq,vx,beq_eq_false_iff_ne,ne_eq]at h4;exact(h4 i (Jt hne)).elim (fun h=>hi h) (fun h=>h hne)
 .have:=h5 p hp;split at this
  .rename_i i hi;exact⟨i,hi,by simpa using this⟩
  .cases this
 .have hlt:=(aT.1 hi).1;have:=(h6 p hlt).resolve_left oM;rw[hi]at this;simpa using this
 .rw[ai hw]at h7;simp only[bZ,beq_iff_eq]at h7;exact h7
 .rw[hs]at h8;simp only[bZ,d6,vP,vy,beq_iff_eq,vx,beq_eq_false_iff_ne,ne_eq]at h8;obtain⟨⟨⟨a,b⟩,c⟩,e⟩:=h8;refine⟨by simpa using a,b,?_,fun i hi hne=>(e i (Zb hne)).elim (fun h=>hi h) (fun h=>h hne)⟩;split at c
  .rename_i z hz;exact⟨z,hz⟩
  .cases c
 .rw[hs]at h8;simpa using h8
 .simp only[vy,bZ,beq_iff_eq]at h9;rcases h9 with ((h9|h9)|h9)|h9
  .exact .inl h9
  .exact .inr (.inl h9)
  .exact .inr (.inr (.inl h9))
  .exact .inr (.inr (.inr (by simpa using h9)))
def QQ{P:Program}{base:Nat}{all:List D}{i8:Nat->List Nat}{e0:af}(ok:∀j d,all[j]?=some d->Ok all i8 j d):∀(ds:List D) (k:Nat) (e:af) (S:St) (H:List St) (ef:af) (Hf:List St),all.drop k=ds->
  H.length=pos all k+1->H[pos all k]?=some S->Tr P base ds e S H ef Hf->(∀t,(∀i,i<k->eg all i≠some t)->e.get t=e0.get t)->∀j d,k<=j->all[j]?=some d->∃T v T' ej,Hf[pos all j]?=some T/\EP P base ej T d v T'/\(∀t,d.o.dst=some t->ef.get t=some v)/\(d.w=true->Hf[pos all j+1]?=some T')/\
   (∀t,t∈d.o.tmps->(∀i,eg all i=some t->i<j)->ej.get t=ef.get t)/\(∀t i,j<=i->eg all i=some t->ej.get t=e0.get t)
 |[],k,e,S,H,ef,Hf,hd,hl,hS,h,he0,j,d,hj,hjd=>by
  have:=(aT.1 hjd).1;have h0:(all.drop k).length=0:=by rw[hd];rfl
  simp at h0;omega
 |d0::ds,k,e,S,H,ef,Hf,hd,hl,hS,⟨v,S',h1,h2⟩,he0,j,d,hj,hjd=>by
  have hk:all[k]?=some d0:=by
   have:(all.drop k)[0]?=some d0:=by rw[hd];rfl
   simpa using this
  have hk1:all.drop (k+1)=ds:=by
   rw[<-List.drop_drop,hd];rfl
  have hdk:=hd
  have hpos:pos all (k+1)=pos all k+if d0.w=true then 1 else 0:=by
   unfold pos;rw[cY,hk];simp[List.countP_append,rE]
  have hok:=ok k d0 hk
  have hin:∀d',d'∈ds->∃i,k<i/\all[i]?=some d':=fun d' hd'=>by
   obtain⟨i,hi⟩:=jA hd';rw[<-hk1,kh]at hi;exact⟨k+1+i,by omega,hi⟩
  have hag:∀t,t∈d0.o.tmps->(∀i,eg all i=some t->i<k)->e.get t=ef.get t:=fun t ht hlt=>by
   refine(vV (P:=P) (base:=base) (t:=t) (d0::ds) e S H ef Hf ⟨v,S',h1,h2⟩ fun d' hd' hdd=>?_).symm
   have:∃i,k<=i/\all[i]?=some d':=by
    rcases cX.1 hd' with rfl|hd'
    .exact⟨k,cq _,hk⟩
    .obtain⟨i,hi,hi'⟩:=hin d' hd';exact⟨i,by omega,hi'⟩
   obtain⟨i,hi,hi'⟩:=this;have:=hlt i (by simp[eg,hi',hdd]);omega
  have hold:∀t i,k<=i->eg all i=some t->e.get t=e0.get t:=fun t i hi hit=>he0 t fun i' hi' hit'=>by
   obtain⟨d',hd',hdd⟩:∃d',all[i]?=some d'/\d'.o.dst=some t:=by
    unfold eg at hit
    cases hx:all[i]? with
    |none=>rw[hx]at hit;cases hit
    |some d'=>rw[hx]at hit;exact⟨d',rfl,hit⟩
   exact(ok i d' hd').dst t hdd i' oM hit'
  have hdst:∀t,d0.o.dst=some t->ef.get t=some v:=fun t ht=>by
   rw[vV ds _ _ _ _ _ h2 fun d' hd' hdd=>by
    obtain⟨i,hi,hi'⟩:=hin d' hd';exact hok.dst t ht i oM (by simp[eg,hi',hdd]),BI,ai ht]
  obtain⟨T0,hT0,_⟩:=vW ds _ _ _ _ _ h2;rcases pJ k j with hlt|hge
  .refine QQ ok ds (k+1) _ S' _ ef Hf hk1 ?_ ?_ h2 ?_ j d hlt hjd
   .cases hw:d0.w<;>simp[hw]at hpos |-<;>omega
   rotate_left
   .intro t ht;rw[BI,aj (fun hdd=>ht k oM (by simp[eg,hk,hdd]))];exact he0 t fun i hi=>ht i oM
   .cases hw:d0.w
    .simp only[hw,iz,if_false]at hpos |-
     have:S'=S:=by
      rcases h1 with ⟨_,_,h⟩|⟨_,h⟩
      .exact h
      .rcases h with ⟨s,_,_,h⟩|⟨hs,h⟩
       .exact h
       .have hnw:=(hok.GX hs).resolve_left (by simp[hw]);rcases h with ⟨f,args,hkk⟩| h
        .rw[hkk]at hnw;simp[K.writes]at hnw
        .exact Br hnw h
     rw[this,hpos];exact hS
    .simp only[hw,if_true]at hpos |-;rw[hpos,bK oM,hl];simp
  .have hjk:j=k:=by omega
   subst hjk;rw[hk]at hjd;cases hjd;refine⟨S,v,S',e,?_,h1,hdst,fun hw=>?_,hag,hold⟩
   .rw[hT0];have:pos all j<H.length:=by omega
    split
    .rw[cO,b8 this];exact hS
    .rw[b8 this];exact hS
   .rw[hT0,ai hw,cO,bK oM,hl];simp
structure ye(ds:List D)(e0:af)(i:Nat)(d:D)(ei ef:af):Prop where
 f5:∀t,t∈d.o.tmps->(∀s,eg ds s=some t->s<i)->ei.get t=ef.get t
 f6:∀t s,i<=s->eg ds s=some t->ei.get t=e0.get t
def LW(d:D)(q:Nat)(v:V)(S':St)(ef:af)(Hf:List St):Prop:=(∀t,d.o.dst=some t->ef.get t=some v)/\Hf[q+1]?=some S'
def QG(e:af)(S:St)(d:D)(v:V)(S':St):Prop:=
 (ga e d.o.g=some false/\v=.aH []/\S'=S)\/(ga e d.o.g=some true/\d.slot=none/\br e S d.o.k=some (v,S'))
def rB(P:Program)(ds:List D)(e0:af):Nat->Nat->(af->List St->Prop)->Prop
 |0,_,C=>∃ef Hf,C ef Hf
 |m+1,q,C=>(∃ef Hf,C ef Hf)/\∃i d ei T,(fQ ds)[q]?=some i/\ds[i]?=some d/\(∀ef Hf,C ef Hf->Hf[q]?=some T/\ye ds e0 i d ei ef)/\
  ((∃v S',QG ei T d v S'∧(∀ef Hf,C ef Hf→LW d q v S' ef Hf)∧rB P ds e0 m (q+1) C)∨
   (∃f args k fs cs vs,∃R:V→St→Prop,ga ei d.o.g=some true∧d.slot=none∧d.o.k=.call f args∧f.ev ei=some (.fn (.func k) fs cs)∧iI ei args=some vs∧au P k (fs++vs++cs) T R∧
    ∀v S',R v S'->∃C':af->List St->Prop,(∀ef Hf,C' ef Hf->C ef Hf/\LW d q v S' ef Hf)/\rB P ds e0 m (q+1) C'))
def rB.some{P:Program}{ds:List D}{e0:af}{m q:Nat}{C:af->List St->Prop}(h:rB P ds e0 m q C):∃ef Hf,C ef Hf:=by
 cases m with
 |zero=>exact h
 |succ m=>exact h.1
def qhS{all:List D}{k:Nat}{d:D}(hk:all[k]?=some d):pos all (k+1)=pos all k+if d.w=true then 1 else 0:=by
 unfold pos;rw[cY,hk];simp[List.countP_append,rE]
section
variable {P:Program} {base:Nat} {all:List D} {i8:Nat->List Nat} {e0:af} (ok:∀j d,all[j]?=some d->Ok all i8 j d)
include ok
theorem QP{d:D}{ds:List D}{k:Nat}{e:af}{S:St}{H:List St}{ef:af}{Hf:List St}(hd:all.drop k=d::ds)(h:Tr P base (d::ds) e S H ef Hf)(he0:∀t,(∀i,i<k->eg all i≠some t)->e.get t=e0.get t):ye all e0 k d e ef:=by
 have hk:all[k]?=some d:=by
  have:(all.drop k)[0]?=some d:=by rw[hd];rfl
  simpa using this
 refine⟨fun t ht hlt=>(vV (P:=P) (base:=base) (t:=t) (d::ds) e S H ef Hf h fun d' hd' hdd=>?_).symm,fun t i hi hit=>he0 t fun i' hi' hit'=>?_⟩
 .obtain⟨i,hi⟩:=jA hd';rw[<-hd,kh]at hi;have:=hlt (k+i) (by simp[eg,hi,hdd]);omega
 .obtain⟨d',hd',hdd⟩:∃d',all[i]?=some d'/\d'.o.dst=some t:=by
   unfold eg at hit
   cases hx:all[i]? with
   |none=>rw[hx]at hit;cases hit
   |some d'=>rw[hx]at hit;exact⟨d',rfl,hit⟩
  exact(ok i d' hd').dst t hdd i' oM hit'
theorem QR{d:D}{ds:List D}{k:Nat}{e:af}{S':St}{v:V}{H:List St}{ef:af}{Hf:List St}(hd:all.drop k=d::ds)(hl:H.length=pos all k+1)(h:Tr P base ds (e.put d.o.dst v) S' (H++[S']) ef Hf):LW d (pos all k) v S' ef Hf:=by
 have hk:all[k]?=some d:=by
  have:(all.drop k)[0]?=some d:=by rw[hd];rfl
  simpa using this
 have hk1:all.drop (k+1)=ds:=by
  rw[<-List.drop_drop,hd];rfl
 constructor
 .intro t ht
  rw[vV ds _ _ _ _ _ h fun d' hd' hdd=>by
   obtain⟨i,hi⟩:=jA hd';rw[<-hk1,kh]at hi;exact(ok k d hk).dst t ht (k+1+i) oM (by simp[eg,hi,hdd]),BI,ai ht]
 .obtain⟨T0,hT0,_⟩:=vW ds _ _ _ _ _ h;rw[hT0,cO,bK oM,hl];simp
theorem FH{K:af->List St->Prop}:∀(ds:List D) (k:Nat) (e:af) (S:St) (H:List St),all.drop k=ds->H.length=pos all k+1->H[pos all k]?=some S->(∀t,(∀i,i<k->eg all i≠some t)->e.get t=e0.get t)->
  eG P base ds K e S H->∃C:af->List St->Prop,(∀ef Hf,C ef Hf->K ef Hf/\Tr P base ds e S H ef Hf)/\rB P all e0 (ds.countP fun d=>d.w) (pos all k) C
 |[],k,e,S,H,_,_,_,_,h=>⟨fun ef Hf=>ef=e/\Hf=H,fun ef Hf hc=>⟨by rw[hc.1,hc.2];exact h,hc⟩,e,H,rfl,rfl⟩
 |d::ds,k,e,S,H,hd,hl,hS,he0,h=>by
  have hk:all[k]?=some d:=by
   have:(all.drop k)[0]?=some d:=by rw[hd];rfl
   simpa using this
  have hk1:all.drop (k+1)=ds:=by
   rw[<-List.drop_drop,hd];rfl
  have hpos:=qhS hk
  have he1:∀v t,(∀i,i<k+1->eg all i≠some t)->(e.put d.o.dst v).get t=e0.get t:=fun v t ht=>by
   rw[BI,aj (fun hdd=>ht k oM (by simp[eg,hk,hdd]))];exact he0 t fun i hi=>ht i oM
  have one:∀(v:V) (S':St),EP P base e S d v S'->(d.w=true->QG e S d v S')->(d.w=false->S'=S)->eG P base ds K (e.put d.o.dst v) S' (if d.w then H++[S'] else H)->
    ∃C:af->List St->Prop,(∀ef Hf,C ef Hf->K ef Hf/\Tr P base (d::ds) e S H ef Hf)/\rB P all e0 ((d::ds).countP fun d=>d.w) (pos all k) C:=by
   intro v S' hst hdt hsm h;cases hw:d.w
   .rw[hw]at h;simp only[iz,if_false]at h;obtain⟨C,h1,h2⟩:=FH ds (k+1) _ S' H hk1 (by rw[hpos,hw];simpa using hl) (by rw[hpos,hw,hsm hw];simpa using hS) (he1 v) h;refine⟨C,fun ef Hf hc=>⟨(h1 ef Hf hc).1,v,S',hst,by rw[hw];exact(h1 ef Hf hc).2⟩,?_⟩;rw[hpos,hw]at h2;rw[rE,hw];exact h2
   .rw[hw]at h;simp only[if_true]at h;obtain⟨C,h1,h2⟩:=FH ds (k+1) _ S' (H++[S']) hk1 (by rw[hpos,hw];simp[hl]) (by rw[hpos,hw];simp[<-hl]) (he1 v) h;refine⟨C,fun ef Hf hc=>⟨(h1 ef Hf hc).1,v,S',hst,by rw[hw];exact(h1 ef Hf hc).2⟩,?_⟩;rw[hpos,hw]at h2;rw[rE,hw];refine⟨h2.some,k,d,e,S,(ok k d hk).wr hw |>.1,hk,fun ef Hf hc=>⟨?_,?_⟩,.inl ⟨v,S',hdt hw,fun ef Hf hc=>QR ok hd hl (h1 ef Hf hc).2,h2⟩⟩
    .obtain⟨T0,hT0,_⟩:=vW ds _ _ _ _ _ (h1 ef Hf hc).2;rw[hT0,cO,b8 oM];exact hS
    .exact QP ok hd (H:=H) ⟨v,S',hst,by rw[hw];exact(h1 ef Hf hc).2⟩ he0
  simp only[eG]at h;split at h
  .exact h.elim
  .rename_i hw;exact one (.aH []) S (.inl ⟨hw,rfl,rfl⟩) (fun _=>.inl ⟨hw,rfl,rfl⟩) (fun _=>rfl) h
  .rename_i hw;split at h
   .rename_i s hs;exact one _ S (.inr ⟨hw,.inl ⟨s,hs,rfl,rfl⟩⟩) (fun hdw=>by rw[((ok k d hk).slot s hs).1]at hdw;cases hdw) (fun _=>rfl) h
   .rename_i hs;split at h
    .rename_i f args hkc;have hdw:d.w=true:=((ok k d hk).GX hs).resolve_right (by rw[hkc];simp[Go.Proofs.YtbifpocccfkhhaaGreatDoor.K.writes]);split at h<;>try exact h.elim
     rename_i kf fs cs vs hf hvs;obtain⟨R,hsp,⟨v0,QM,hR0⟩,h⟩:=h;rw[hdw]at h;simp only[if_true]at h
     have all':∀(v:V) (S':St),R v S'->∃C:af->List St->Prop,(∀ef Hf,C ef Hf->K ef Hf/\Tr P base ds (e.put d.o.dst v) S' (H++[S']) ef Hf)/\rB P all e0 (ds.countP fun d=>d.w) (pos all k+1) C:=fun v S' hR=>by
      rw[<-show pos all (k+1)=pos all k+1 by rw[hpos,hdw];rfl];exact FH ds (k+1) _ S' (H++[S']) hk1 (by rw[hpos,hdw];simp[hl]) (by rw[hpos,hdw];simp[<-hl]) (he1 v) (h v S' hR)
     have tr:∀(v:V) (S':St) (ef:af) (Hf:List St),Tr P base ds (e.put d.o.dst v) S' (H++[S']) ef Hf->Tr P base (d::ds) e S H ef Hf:=fun v S' ef Hf ht=>
      ⟨v,S',.inr ⟨hw,.inr ⟨hs,.inl ⟨f,args,hkc⟩⟩⟩,by rw[hdw];exact ht⟩
     refine⟨fun ef Hf=>∃(v:V) (S':St) (hR:R v S'),Classical.choose (all' v S' hR) ef Hf,fun ef Hf ⟨v,S',hR,hc⟩=>?_,?_⟩
     .have:=(Classical.choose_spec (all' v S' hR)).1 ef Hf hc;exact⟨this.1,tr _ _ _ _ this.2⟩
     .rw[rE,hdw];refine⟨?_,k,d,e,S,(ok k d hk).wr hdw |>.1,hk,fun ef Hf ⟨v,S',hR,hc⟩=>⟨?_,?_⟩,.inr ⟨f,args,kf,fs,cs,vs,R,hw,hs,hkc,hf,hvs,hsp,fun v S' hR=>⟨Classical.choose (all' v S' hR),fun ef Hf hc=>⟨⟨v,S',hR,hc⟩,?_⟩,?_⟩⟩⟩
      .obtain⟨ef,Hf,hc⟩:=(Classical.choose_spec (all' v0 QM hR0)).2.some;exact⟨ef,Hf,v0,QM,hR0,hc⟩
      .have:=(Classical.choose_spec (all' v S' hR)).1 ef Hf hc;obtain⟨T0,hT0,_⟩:=vW ds _ _ _ _ _ this.2;rw[hT0,cO,b8 oM];exact hS
      .have:=(Classical.choose_spec (all' v S' hR)).1 ef Hf hc;exact QP ok hd (tr _ _ _ _ this.2) he0
      .exact QR ok hd hl ((Classical.choose_spec (all' v S' hR)).1 ef Hf hc).2
      .exact(Classical.choose_spec (all' v S' hR)).2
    .split at h<;>try exact h.elim
     rename_i r S' hev;refine one r S' (.inr ⟨hw,.inr ⟨hs,.inr hev⟩⟩) (fun _=>.inr ⟨hw,hs,hev⟩) (fun hdw=>?_) h;exact Br (((ok k d hk).GX hs).resolve_left (by simp[hdw])) hev
end
def qcs(base:Nat)(ef:af)(H:List St)(d:D):Prop:=
 ∀q,d.lo<=q->q<=d.hi->∀T,H[q]?=some T->match d.slot with
  |some s=>match d.o.k with
   |.new z=>T[base+s]?=some (.arr [z] z.size 1)/\0<z.size/\(z.cells.all V.flat)=true
   |_=>False
  |none=>∃v,br ef T d.o.k=some (v,T)/\∀t,d.o.dst=some t->ef.get t=some v
def Jp(base:Nat)(ef:af)(H:List St)(ds:List D):Prop:=∀d,d∈ds->d.chk=true->d.w=false->ga ef d.o.g=some true->qcs base ef H d
def Fj(P:Program)(N:Nat)(ops:Array Oper)(ds:List D):Bool:=
 decide (ds.length=ops.size)&&(List.range ds.length).all fun j=>match ds[j]?,ops[j]? with
  |some d,some o=>LQ ds ((o.after.toList.filter fun e=>Region.binds .any e).map fun e=>e.on) j d
  |_,_=>false
def hG(ops:Array Oper)(j:Nat):List Nat:=match ops[j]? with
 |some o=>(o.after.toList.filter fun e=>Region.binds .any e).map fun e=>e.on
 |none=>[]
def qch{P:Program}{N:Nat}{ops:Array Oper}{ds:List D}(h:Fj P N ops ds=true):ds.length=ops.size/\∀j d,ds[j]?=some d->Ok ds (hG ops) j d:=by
 unfold Fj at h;simp only[bZ,cR,d6,vP]at h;refine⟨h.1,fun j d hj=>?_⟩;have hlt:=(aT.1 hj).1;have:=h.2 j hlt;rw[hj]at this
 cases ho:ops[j]? with
 |none=>rw[ho]at this;simp at this
 |some o=>
  rw[ho]at this;refine qho (i8:=hG ops) ?_;simpa[hG,ho]using this
structure Inv(ds:List D)(N n0 m0 base:Nat)(e0 ef:af)(Hf:List St)(E0:En)(S0:St)(w0:World)(listed:Array Bool)(q:Nat)(E:En)(S:St)(a:Act)(w:World):Prop where
 size:listed.size=ds.length
 closed:∀j d,ds[j]?=some d->listed.getD j false=true->∀i,i∈d.jr->listed.getD i false=true
 num:∀p i,(fQ ds)[p]?=some i->(listed.getD i false=true↔p<q)
 Mc:q<=(fQ ds).length
 st:Hf[q]?=some S
 tmps:∀t v,ef.get t=some v->(∀i,eg ds i=some t->listed.getD i false=true)->∃u,a.tmps[t]?=some u/\VR E v u
 Z7:∀t v,e0.get t=some v->(∀i,eg ds i=some t->listed.getD i false=false)->∃u,a.tmps[t]?=some u/\VR E v u
 slots:∀i s,m5 ds i=some s->listed.getD i true=false->∀st,E.ρ (base+s) st=none
 N:a.tmps.size=N
 defers:nu m0 E S w a.defers
 sr:SR E S w
 len:base<=S.length
 room:∀i s,m5 ds i=some s->base+s<S.length
 ext:Ext n0 E0 S0 w0 E S w
def wG{l:Array Bool}{i:Nat}:l.getD i true=false↔∃h:i<l.size,l[i]=false:=by
 simp only[Array.getD];split
 .rename_i h;simp[h]
 .rename_i h;simp[h]
def yS{l:Array Bool}{i:Nat}:l.getD i false=true↔∃h:i<l.size,l[i]=true:=by
 simp only[Array.getD];split
 .rename_i h;simp[h]
 .rename_i h;simp[h]
def uR{l:Array Bool}{j i:Nat}(hj:j<l.size):(l.setIfInBounds j true).getD i false=true↔i=j\/l.getD i false=true:=by
 by_cases h:j=i
 .subst h;simp[hj]
 .rw[getD_set_ne false h];exact⟨.inr,fun h'=>h'.resolve_left (fun e=>h e.symm)⟩
def count_set{l:Array Bool}{j:Nat}(hj:l.getD j true=false):(l.setIfInBounds j true).toList.count false+1=l.toList.count false:=by
 obtain⟨h,hv⟩:=wG.1 hj;have:(l.setIfInBounds j true).toList=l.toList.set j true:=by simp
 have hlt:j<l.toList.length:=by simpa using h
 have h1:l.toList[j]=false:=by simpa using hv
 have h2:0<l.toList.count false:=List.count_pos_iff.2 (by rw[<-h1];exact cI _);rw[this,List.count_set hlt,h1];rw[show(if(true==false)=true then 1 else 0)=0 from rfl,show(if(false==false)=true then 1 else 0)=1 from rfl];omega
def qcn{l:Array Bool}(h:l.toList.count false=0){i:Nat}(hi:i<l.size):l.getD i false=true:=by
 rw[List.count_eq_zero]at h;refine yS.2 ⟨hi,?_⟩
 cases hb:l[i] with
 |true=>rfl
 |false=>exact absurd (by rw[<-hb];simp) h
def HU{ds:List D}{p i:Nat}(h:(fQ ds)[p]?=some i):∃d,ds[i]?=some d/\d.w=true:=by
 have:=dc h;unfold fQ at this;rw[np]at this
 cases hd:ds[i]? with
 |none=>rw[hd]at this;simp at this
 |some d=>rw[hd]at this;exact⟨d,rfl,by simpa using this.2⟩
def qmF{ds:List D}{p p' i:Nat}(h:(fQ ds)[p]?=some i)(h':(fQ ds)[p']?=some i):p=p':=by
 have hn:(fQ ds).Nodup:=List.Pairwise.filter _ List.nodup_range;exact(ED (aT.1 h).1 hn).1 (h.trans h'.symm)
section
variable {P:Program} {N n0 m0:Nat} {ro:Option Nat} {n:Nat} {ops:Array Oper} {Q:cM} {ds:List D} {base:Nat} {e0 ef:af} {Hf:List St} {E0:En} {S0:St} {w0:World}
def QI(P:Program)(ds:List D)(base:Nat)(e0 ef:af)(Hf:List St)(j:Nat)(d:D):Prop:=
 ∃T v T' ej,Hf[pos ds j]?=some T/\EP P base ej T d v T'/\(∀t,d.o.dst=some t->ef.get t=some v)/\(d.w=true->Hf[pos ds j+1]?=some T')/\
  (∀t,t∈d.o.tmps->(∀i,eg ds i=some t->i<j)->ej.get t=ef.get t)/\(∀t i,j<=i->eg ds i=some t->ej.get t=e0.get t)
theorem Inv.range{listed:Array Bool}{q:Nat}{E:En}{S:St}{a:Act}{w:World}(inv:Inv ds N n0 m0 base e0 ef Hf E0 S0 w0 listed q E S a w)(ok:∀j d,ds[j]?=some d->Ok ds (hG ops) j d){j:Nat}{d:D}(hj:ds[j]?=some d)
  (hun:listed.getD j true=false) (mq:∀i,i∈d.jr->listed.getD i false=true):d.lo<=q/\(d.w=false->q<=d.hi)/\(d.w=true->q=pos ds j):=by
 have hok:=ok j d hj
 have hnl:listed.getD j false≠true:=by
  intro h;obtain⟨h1,h2⟩:=wG.1 hun;obtain⟨h3,h4⟩:=yS.1 h;rw[h2]at h4;cases h4
 have hlo:d.lo<=q:=by
  rcases pJ q d.lo with h| h
  .obtain⟨i,hi,hia⟩:=hok.lo q h;have:=(inv.num q i hi).1 (mq i hia);omega
  .exact h
 refine⟨hlo,fun hw=>?_,fun hw=>?_⟩
 .rcases pJ d.hi q with h| h
  .have hlt:d.hi<(fQ ds).length:=jP h inv.Mc;have hi:(fQ ds)[d.hi]?=some (fQ ds)[d.hi]:=by simp[hlt]
   rcases hok.hi d.hi _ bL hi with he|he
   .obtain⟨d',hd',hw'⟩:=HU hi;rw[he,hj]at hd';cases hd';rw[hw]at hw';cases hw'
   .have hl:=(inv.num d.hi _ hi).2 h;obtain⟨d',hd',_⟩:=HU hi;exact absurd (inv.closed _ d' hd' hl j (by simpa[pP,hd']using he)) hnl
  .exact h
 .obtain⟨h1,h2⟩:=hok.wr hw;have hnq:¬pos ds j<q:=fun h=>hnl ((inv.num _ j h1).2 h)
  omega
theorem Inv.next{listed:Array Bool}{q:Nat}{E:En}{S:St}{a:Act}{w:World}(inv:Inv ds N n0 m0 base e0 ef Hf E0 S0 w0 listed q E S a w)(ok:∀j d,ds[j]?=some d->Ok ds (hG ops) j d){i:Nat}{d:D}{o:Oper}(hd:ds[i]?=some d)
  (hun:listed.getD i true=false) (mq:∀s,s∈d.jr->listed.getD s false=true) (hdst:d.o.dst=o.dst) (hdN:yF N o.dst=true) {v:V} {E':En} {S':St} {u:Value} {w':World}
  (f3:∀t,d.o.dst=some t->ef.get t=some v) (hq:d.w=true->q=pos ds i) (hS':d.w=true->Hf[q+1]?=some S') (hSS:d.w=false->S'=S)
  (hv:∀t,o.dst=some t->VR E' v u) (hle:E.le E') (hsr:SR E' S' w') (hext:Ext n0 E S w E' S' w') (hl:S.length<=S'.length)
  (hsl:∀i' s,m5 ds i'=some s->i'≠i->(∀st,E.ρ (base+s) st=none)->∀st,E'.ρ (base+s) st=none):
  Inv ds N n0 m0 base e0 ef Hf E0 S0 w0 (listed.setIfInBounds i true) (if d.w then q+1 else q) E' S' (a.put o.dst u) w':=by
 have hok:=ok i d hd;have wN:i<listed.size:=by rw[inv.size];exact(aT.1 hd).1
 refine⟨by simp[inv.size],?_,?_,?_,?_,?_,?_,?_,?_,?_,hsr,fL inv.len hl,fun i' s hs=>jP (inv.room i' s hs) hl,inv.ext.trans hext⟩
 .intro j d' hj hlj s hs;rw[uR wN]at hlj |-;rcases hlj with rfl|hlj
  .rw[hd]at hj;cases hj;exact .inr (mq s hs)
  .exact .inr (inv.closed j d' hj hlj s hs)
 .intro p i' hp;rw[uR wN,inv.num p i' hp]
  cases hw:d.w with
  |true=>
   have hq:=hq hw;simp only[if_true];constructor
   .rintro(rfl|h)
    .have:=qmF hp (hok.wr hw).1;omega
    .omega
   .intro h;rcases pJ p q with h'|h'
    .exact .inr h'
    .have:p=pos ds i:=by omega
     subst this;rw[(hok.wr hw).1]at hp;cases hp;exact .inl rfl
  |false=>
   simp only[iz,if_false];refine⟨fun h=>h.resolve_left ?_,.inr⟩;rintro rfl;obtain⟨d',hd',hw'⟩:=HU hp;rw[hd]at hd';cases hd';rw[hw]at hw';cases hw'
 .cases hw:d.w with
  |true=>
   have hq:=hq hw;have:=(aT.1 (hok.wr hw).1).1;simp only[if_true];omega
  |false=>simpa using inv.Mc
 .cases hw:d.w with
  |true=>
   have hq:=hq hw;simp only[if_true];exact hS' hw
  |false=>
   simp only[iz,if_false];rw[hSS hw];exact inv.st
 .intro t vt hvt hall';by_cases ht:o.dst=some t
  .have h3:=f3 t (by rw[hdst];exact ht);rw[hvt]at h3;cases h3;refine⟨u,?_,hv t ht⟩;have hlt:t<a.tmps.size:=by rw[inv.N];rw[ht]at hdN;simpa[yF]using hdN
   rw[ht];show(a.tmps.setIfInBounds t u)[t]?=some u;simp[hlt]
  .obtain⟨x,hx,hxr⟩:=inv.tmps t vt hvt fun s hs=>by
    have:=hall' s hs;rw[uR wN]at this;refine this.resolve_left ?_;rintro rfl;simp[eg,hd,hdst]at hs;exact ht hs
   refine⟨x,?_,hxr.mono hle⟩
   cases hod:o.dst with
   |none=>exact hx
   |some t'=>
    show(a.tmps.setIfInBounds t' u)[t]?=some x;rw[nh (by rintro rfl;exact ht hod)];exact hx
 .intro t vt hvt hall'
  have ht:o.dst≠some t:=fun ht=>by
   have:=hall' i (by simp[eg,hd,hdst,ht]);have h2:(listed.setIfInBounds i true).getD i false=true:=(uR wN).2 (.inl rfl);rw[this]at h2;cases h2
  obtain⟨x,hx,hxr⟩:=inv.Z7 t vt hvt fun s hs=>by
   have:=hall' s hs
   cases hl':listed.getD s false with
   |false=>rfl
   |true=>rw[(uR wN).2 (.inr hl')]at this;cases this
  refine⟨x,?_,hxr.mono hle⟩
  cases hod:o.dst with
  |none=>exact hx
  |some t'=>
   show(a.tmps.setIfInBounds t' u)[t]?=some x;rw[nh (by rintro rfl;exact ht hod)];exact hx
 .intro i' s hs hl' st;by_cases hii:i'=i
  .subst hii;rw[wG]at hl';obtain⟨h1,h2⟩:=hl';simp at h2
  .exact hsl i' s hs hii (inv.slots i' s hs (by rw[getD_set_ne true (Ne.symm hii)]at hl';exact hl')) st
 .cases o.dst<;>simp[Act.put,inv.N]
 .cases o.dst<;>exact nu.step hext inv.defers
theorem Inv.VZ{listed:Array Bool}{q:Nat}{E:En}{S:St}{a:Act}{w:World}(inv:Inv ds N n0 m0 base e0 ef Hf E0 S0 w0 listed q E S a w)(ok:∀j d,ds[j]?=some d->Ok ds (hG ops) j d){i:Nat}{d:D}(hd:ds[i]?=some d)
  (hun:listed.getD i true=false) (mq:∀s,s∈d.jr->listed.getD s false=true) {ej:af} (ev:ye ds e0 i d ej ef):∀t,t∈d.o.tmps->∀v,ej.get t=some v->∃u,a.tmps[t]?=some u/\VR E v u:=by
 have hok:=ok i d hd
 have hnl:∀s,(s=i\/i∈pP ds s)->listed.getD s false=false:=fun s hs=>by
  cases hl:listed.getD s false with
  |false=>rfl
  |true=>
   exfalso
   have:listed.getD i false=true:=by
    rcases hs with rfl|hs
    .exact hl
    .cases hds:ds[s]? with
     |none=>simp[pP,hds]at hs
     |some d'=>exact inv.closed s d' hds hl i (by simpa[pP,hds]using hs)
   obtain⟨h1,h2⟩:=wG.1 hun;obtain⟨h3,h4⟩:=yS.1 this;rw[h2]at h4;cases h4
 intro t ht v hv;by_cases yY:∃s,i<=s/\eg ds s=some t
 .obtain⟨s,hs,hst⟩:=yY;rw[ev.f6 t s hs hst]at hv;refine inv.Z7 t v hv fun s' hs'=>?_
  have hss:s'=s:=by
   cases hds:ds[s]? with
   |none=>simp[eg,hds]at hst
   |some d'=>
    have hdd:d'.o.dst=some t:=by simpa[eg,hds]using hst
    by_cases h:s'=s
    .exact h
    .exact absurd hs' ((ok s d' hds).dst t hdd s' h)
  subst hss;rcases hok.tmps t ht s' hst with ⟨_,h⟩|⟨_,_,h⟩
  .omega
  .exact hnl s' h
 ·rw[ev.f5 t ht fun s hs=>by
   rcases pJ s i with h| h
   .exact h
   .exact absurd ⟨s,h,hs⟩ yY]at hv
  refine inv.tmps t v hv fun s hs=>?_
  rcases hok.tmps t ht s hs with ⟨h,_⟩|⟨_,h,_⟩
  .exact mq s h
  .exact absurd ⟨s,h,hs⟩ yY
theorem Va:∀(ts:List Nat) (ej:af) (t:Nat),t∈ts->(ej.keep ts).get t=ej.get t:=by
 intro ts ej
 induction ts with
 |nil=>intro t h;cases h
 |cons s ts ih=>
  intro t h;simp only[af.keep];by_cases hst:s=t
  .subst hst
   cases hs:ej.get s with
   |none=>
    simp only[]
    cases hk:(ej.keep ts).get s with
    |none=>rfl
    |some v=>have:=af.FV hk;rw[hs]at this;cases this
   |some v=>simp[af.get]
  .have ht:=(cX.1 h).resolve_left (fun e=>hst e.symm)
   cases hs:ej.get s with
   |none=>exact ih t ht
   |some v=>simp only[af.get];rw[aj hst];exact ih t ht
theorem qfU:∀(ts:List Nat) (ej:af) (t:Nat),t∉ts->(ej.keep ts).get t=none:=by
 intro ts ej t
 induction ts with
 |nil=>intro _;rfl
 |cons s ts ih=>
  intro h;simp only[cX,not_or]at h;simp only[af.keep];split
  .simp only[af.get];rw[aj (Ne.symm h.1)];exact ih h.2
  .exact ih h.2
def Iw(ds:List D)(base:Nat)(e0 ef:af)(S:St)(i:Nat)(d:D)(ej:af):Prop:=ye ds e0 i d ej ef/\
 ((ga ej d.o.g=some false∧∀t,d.o.dst=some t→ef.get t=some (.aH []))∨
  (ga ej d.o.g=some true/\∃s z,d.slot=some s/\d.o.k=.new z/\(∀t,d.o.dst=some t->ef.get t=some (.ptr (base+s) 0 0 1))/\S[base+s]?=some (.arr [z] z.size 1)/\0<z.size/\(z.cells.all V.flat)=true)\/
  (ga ej d.o.g=some true/\d.slot=none/\∃v,br ej S d.o.k=some (v,S)/\∀t,d.o.dst=some t->ef.get t=some v))
theorem Inv.seen{listed:Array Bool}{q:Nat}{E:En}{S:St}{a:Act}{w:World}(inv:Inv ds N n0 m0 base e0 ef Hf E0 S0 w0 listed q E S a w)(ok:∀j d,ds[j]?=some d->Ok ds (hG ops) j d){i:Nat}{d:D}(hd:ds[i]?=some d)
  (hun:listed.getD i true=false) (mq:∀s,s∈d.jr->listed.getD s false=true) (hw:d.w=false) (fact:QI P ds base e0 ef Hf i d) (Bf:Jp base ef Hf ds):∃ej,Iw ds base e0 ef S i d ej:=by
 have hok:=ok i d hd;obtain⟨MB,Hg,_⟩:=inv.range ok hd hun mq;obtain⟨T,v,T',ej,f1,f2,f3,f4,f5,f6⟩:=fact;refine⟨ej,⟨f5,f6⟩,?_⟩
 have hstrict:d.chk=true->l7 d.o.tmps ef ej:=fun hc t ht=>f5 t ht fun s hs=>by
  rcases hok.tmps t ht s hs with ⟨_,h⟩|⟨h,_⟩
  .exact h
  .rw[hc]at h;cases h
 rcases f2 with ⟨g1,g2,g3⟩|⟨g1,g2⟩
 .exact .inl ⟨g1,by rw[<-g2];exact f3⟩
 rcases g2 with ⟨s,hs,g3,g4⟩|⟨hs,g2⟩
 .obtain⟨k1,k2,⟨z,hz⟩,k4⟩:=hok.slot s hs;have hc:=Bf d (dc hd) k2 k1 (by rw[<-D9 (hstrict k2)];exact g1) q MB (Hg k1) S inv.st;rw[hs,hz]at hc;simp only at hc;obtain⟨c1,c2,c3⟩:=hc;exact .inr (.inl ⟨g1,s,z,hs,hz,by rw[<-g3];exact f3,c1,c2,c3⟩)
 refine .inr (.inr ⟨g1,hs,?_⟩);have hnw:=(hok.GX hs).resolve_left (by simp[hw]);rcases g2 with ⟨f,args,hkc⟩|g2
 .rw[hkc]at hnw;simp[K.writes]at hnw
 have hT:=Br hnw g2;subst hT;rcases hok.qha.resolve_left (by simp[hw]) with hch|⟨hl,hh⟩|⟨_,hch⟩
 .have hc:=Bf d (dc hd) hch hw (by rw[<-D9 (hstrict hch)];exact g1) q MB (Hg hw) S inv.st;rw[hs]at hc;simp only at hc;obtain⟨v',c1,c2⟩:=hc;exact⟨v',by rw[FN ((hstrict hch).sub fun t ht=>by simp[O'.tmps,ht])];exact c1,c2⟩
 .have hq:q=pos ds i:=by have:=Hg hw;omega
  have:=inv.st;rw[hq,f1]at this;cases this;exact⟨v,g2,f3⟩
 .exact⟨v,by rw[qdf (S:=T') hch,g2];rfl,f3⟩
structure Cls(P:Program)(ds:List D)(base:Nat)(e0:af)(Q:cM)(ef:af)(Hf:List St):Prop where
 facts:∀(j:Nat) (d:D),ds[j]?=some d->QI P ds base e0 ef Hf j d
 Bf:Jp base ef Hf ds
 last:∀S,Hf.getLast?=some S->Q .normal ef S
 len:Hf.length=(fQ ds).length+1
 keep:∀t,(∀i,eg ds i≠some t)->ef.get t=e0.get t
structure Io(P:Program)(ds:List D)(N n0 m0 base:Nat)(e0:af)(Q:cM)(E0:En)(S0:St)(w0:World)(C:af->List St->Prop)(listed:Array Bool)(q:Nat)(E:En)(S:St)(a:Act)(w:World):Prop where
 cls:∀ef Hf,C ef Hf->Cls P ds base e0 Q ef Hf
 inv:∀ef Hf,C ef Hf->Inv ds N n0 m0 base e0 ef Hf E0 S0 w0 listed q E S a w
 good:rB P ds e0 ((fQ ds).length-q) q C
 agree:∀ef Hf gm iN,C ef Hf->C gm iN->∀i t,listed.getD i false=true->eg ds i=some t->ef.get t=gm.get t
theorem qcK{C:af->List St->Prop}{listed:Array Bool}{q:Nat}{E:En}{S:St}{a:Act}{w:World}{M:Act->World->Prop}(ic:Io P ds N n0 m0 base e0 Q E0 S0 w0 C listed q E S a w)(ok:∀j d,ds[j]?=some d->Ok ds (hG ops) j d)(hlen:ds.length=ops.size)(hn0:n0<=base)
  (hcomp:∀(j:Nat) (d:D) (o:Oper),ds[j]?=some d->ops[j]?=some o->mM P N ops o=some d.o) {i:Nat} (hi:i∈Region.ready .any ops listed)
  (hK:∀a' w' E' q' S' C',Io P ds N n0 m0 base e0 Q E0 S0 w0 C' (listed.setIfInBounds i true) q' E' S' a' w'->M a' w'):
  wpOpIn (ii ro) n P ops (Up N n0 m0 E0 S0 w0 Q) i M a w:=by
 obtain⟨hun,o,ho,hall⟩:=mem_ready.1 hi;have hilt:i<ds.length:=by rw[hlen];exact(gY.1 ho).1
 have hd:ds[i]?=some ds[i]:=by simp[hilt]
 generalize hdd:ds[i]=d at hd;have hok:=ok i d hd;obtain⟨hdst,hdN,hk,hg⟩:=TX (hcomp i d o hd ho);obtain⟨ef,Hf,hc⟩:=ic.good.some;have inv:=ic.inv ef Hf hc;have cl:=ic.cls ef Hf hc;have wN:i<listed.size:=by rw[inv.size];exact hilt
 have haft:∀s,s∈hG ops i->listed.getD s false=true:=fun s hs=>by
  simp only[hG,ho,cE,np]at hs;obtain⟨e,⟨he,hb⟩,rfl⟩:=hs;exact hall e (by simpa using he) hb
 have mq:∀s,s∈d.jr->listed.getD s false=true:=fun s hs=>by
  rcases hok.jr s hs with h|⟨r,hr,hrs⟩
  .exact haft s h
  .have qfe:r<ds.length:=by have:=hok.back r hr;omega
   have hrd:ds[r]?=some ds[r]:=by simp[qfe]
   exact inv.closed r _ hrd (haft r hr) s (by simpa[pP,hrd]using hrs)
 obtain⟨MB,Hg,rw'⟩:=inv.range ok hd hun mq;have JD:∀{E':En} {S':St} {w':World},Ext S.length E S w E' S' w'->Ext n0 E S w E' S' w':=fun h=>h.less (fL hn0 inv.len)
 have slotsOf:∀{E':En} {S':St} {w':World},Ext S.length E S w E' S' w'->∀i' s,m5 ds i'=some s->i'≠i->(∀st,E.ρ (base+s) st=none)->∀st,E'.ρ (base+s) st=none:=fun h i' s hs _ hno=>h.no _ (inv.room i' s hs) hno
 have finish:∀(C':af->List St->Prop),(∀ef Hf,C' ef Hf->C ef Hf)->∀(v:V) (E':En) (S':St) (u:Value) (w':World),(∀ef Hf,C' ef Hf->∀t,d.o.dst=some t->ef.get t=some v)->(∀ef Hf,C' ef Hf->d.w=true->Hf[q+1]?=some S')->(d.w=false->S'=S)->
   rB P ds e0 ((fQ ds).length-(if d.w then q+1 else q)) (if d.w then q+1 else q) C'->(∀t,o.dst=some t->VR E' v u)->E.le E'->SR E' S' w'->Ext n0 E S w E' S' w'->S.length<=S'.length->
   (∀i' s,m5 ds i'=some s->i'≠i->(∀st,E.ρ (base+s) st=none)->∀st,E'.ρ (base+s) st=none)->M (a.put o.dst u) w':=by
  intro C' hsub v E' S' u w' f3 hS' hSS hgood hv hle hsr hext hl hsl;refine hK _ _ E' (if d.w then q+1 else q) S' C' ⟨fun ef Hf h=>ic.cls ef Hf (hsub ef Hf h),fun ef Hf h=>(ic.inv ef Hf (hsub ef Hf h)).next ok hd hun mq hdst hdN (f3 ef Hf h) rw' (hS' ef Hf h) hSS hv hle hsr hext hl hsl,hgood,?_⟩;intro ef Hf gm iN h h' i' t rX hit;rw[uR wN]at rX;rcases rX with rfl|rX
  .have ht:d.o.dst=some t:=by simpa[eg,hd]using hit
   rw[f3 ef Hf h t ht,f3 gm iN h' t ht]
  .exact ic.agree ef Hf gm iN (hsub _ _ h) (hsub _ _ h') i' t rX hit
 unfold wpOpIn;rw[ho];simp only[];have hgd:∀{ej:af},ye ds e0 i d ej ef->∀b,ga ej d.o.g=some b->Region.wanted o (yielded ops a.tmps)=b:=fun {ej} ev b hb=>
  hg E ej a b (fun t w hg v hv=>inv.VZ ok hd hun mq ev t (by simp[O'.tmps,hg]) v hv) hb
 have hTm:∀{ej:af},ye ds e0 i d ej ef->fw E (ej.keep d.o.tmps) a.tmps:=fun {ej} ev t v hv=>by
  by_cases ht:t∈d.o.tmps
  .rw[Va _ _ t ht]at hv;exact inv.VZ ok hd hun mq ev t ht v hv
  .rw[qfU _ _ t ht]at hv;cases hv
 have hag:∀ej:af,l7 d.o.k.tmps ej (ej.keep d.o.tmps):=fun ej t ht=>Va _ _ t (by simp[O'.tmps,ht])
 cases hw:d.w with
 |true=>
  have hqp:=rw' hw;have hwq:=(hok.wr hw).1;rw[<-hqp]at hwq;have qnp:=(aT.1 hwq).1;obtain⟨m,hm⟩:∃m,(fQ ds).length-q=m+1:=⟨(fQ ds).length-q-1,by omega⟩;have hm1:(fQ ds).length-(q+1)=m:=by omega
  have hgood:=ic.good;rw[hm]at hgood;obtain⟨_,i',d',ei,T,gi,gd,gT,qex⟩:=hgood;rw[hwq]at gi;cases gi;rw[hd]at gd;cases gd;obtain⟨gT1,oV⟩:=gT ef Hf hc
  have hST:T=S:=by
   have:=inv.st;rw[gT1]at this;cases this;rfl
  subst hST;rw[hw]at finish;simp only[if_true,hm1]at finish;rcases qex with ⟨v,S',qeN,hout,hgd'⟩|⟨f,args,kf,fs,cs,vs,R,g1,hs,g3,g4,g5,g6,g7⟩
  .have fin:∀(E':En) (u:Value) (w':World),(∀t,o.dst=some t->VR E' v u)->E.le E'->SR E' S' w'->Ext n0 E T w E' S' w'->T.length<=S'.length->
     (∀i' s,m5 ds i'=some s->i'≠i->(∀st,E.ρ (base+s) st=none)->∀st,E'.ρ (base+s) st=none)->M (a.put o.dst u) w':=fun E' u w'=>
    finish C (fun _ _ h=>h) v E' S' u w' (fun ef Hf h=>(hout ef Hf h).1) (fun ef Hf h _=>(hout ef Hf h).2) (fun h=>by cases h) hgd'
   rcases qeN with ⟨g1,g2,g3⟩|⟨g1,hs,g2⟩
   .rw[hgd oV false g1];simp only[iz,if_false];refine⟨fun f hf=>trivial,?_⟩;subst g3;exact fin E undef w (fun _ _=>by rw[g2];exact .aH sM (fun i v u h=>by simp at h)) (En.le_refl E) inv.sr (Ext.refl _ _ _ _) bL (fun _ _ _ _ h=>h)
   .rw[hgd oV true g1];simp only[if_true];refine LV hk (hTm oV) inv.sr (by rw[FN (hag ei)];exact g2) fun E' u w' cB hsr hext hl=>?_
    exact fin E' u w' (fun _ _=>cB) (hext.le inv.sr) hsr (JD hext) hl (slotsOf hext)
  .rw[hgd oV true g1];simp only[if_true];have FY:=hag ei;rw[g3]at FY;simp only[K.tmps]at FY;refine VY (by rw[hk,g3]) (hTm oV) inv.sr (by rw[dd (FY.sub (us:=f.tmps) (by simp;grind))];exact g4) (by rw[Bv (FY.sub (us:=args.flatMap aV.tmps) (by simp;grind))];exact g5) g6 fun r S' E' u w' hR cB hsr hext hl=>?_
   obtain⟨C',hsub,hgd'⟩:=g7 r S' hR;exact finish C' (fun _ _ h=>(hsub _ _ h).1) r E' S' u w' (fun ef Hf h=>(hsub ef Hf h).2.1) (fun ef Hf h _=>(hsub ef Hf h).2.2) (fun h=>by cases h) hgd' (fun _ _=>cB) (hext.le inv.sr) hsr (JD hext) hl (slotsOf hext)
 |false=>
  have hgood:=ic.good;rw[hw]at finish;simp only[iz,if_false]at finish;obtain⟨ej,oV,Ky⟩:=inv.seen ok hd hun mq hw (cl.facts i d hd) cl.Bf
  have agr:∀gm iN,C gm iN->∃oQ,Iw ds base e0 gm S i d oQ/\l7 d.o.tmps ej oQ:=fun gm iN hc'=>by
   obtain⟨oQ,hs'⟩:=(ic.inv gm iN hc').seen ok hd hun mq hw ((ic.cls gm iN hc').facts i d hd) (ic.cls gm iN hc').Bf;refine⟨oQ,hs',fun t ht=>?_⟩;by_cases yY:∃s,i<=s/\eg ds s=some t
   .obtain⟨s,hs,hst⟩:=yY;rw[oV.f6 t s hs hst,hs'.1.f6 t s hs hst]
   .have hlt:∀s,eg ds s=some t->s<i:=fun s hs=>by
     rcases pJ s i with h| h
     .exact h
     .exact absurd ⟨s,h,hs⟩ yY
    rw[oV.f5 t ht hlt,hs'.1.f5 t ht hlt];by_cases hex:∃s,eg ds s=some t
    .obtain⟨s,hs⟩:=hex;refine ic.agree gm iN ef Hf hc' hc s t ?_ hs;rcases hok.tmps t ht s hs with ⟨h,_⟩|⟨_,h,_⟩
     .exact mq s h
     .have:=hlt s hs;omega
    .rw[cl.keep t fun s hs=>hex ⟨s,hs⟩,(ic.cls gm iN hc').keep t fun s hs=>hex ⟨s,hs⟩]
  have val:∀v:V,(∀gm iN oQ,C gm iN->Iw ds base e0 gm S i d oQ->l7 d.o.tmps ej oQ->∀t,d.o.dst=some t->gm.get t=some v)->∀gm iN,C gm iN->∀t,d.o.dst=some t->gm.get t=some v:=fun v h gm iN hc'=>by
   obtain⟨oQ,h1,h2⟩:=agr gm iN hc';exact h gm iN oQ hc' h1 h2
  rcases Ky with ⟨g1,g2⟩|⟨g1,s,z,hs,hz,g2,c1,c2,c3⟩|⟨g1,hs,v,g2,g3⟩
  .rw[hgd oV false g1];simp only[iz,if_false];refine⟨fun f hf=>trivial,?_⟩;refine finish C (fun _ _ h=>h) (.aH []) E S undef w (val _ fun gm iN oQ hc' hs' ha t ht=>?_) (fun _ _ _ h=>by cases h) (fun _=>rfl) hgood (fun _ _=>.aH sM (fun i v u h=>by simp at h)) (En.le_refl E) inv.sr (Ext.refl _ _ _ _) bL (fun _ _ _ _ h=>h);have hwd:=D9 ha;rw[g1]at hwd;rcases hs'.2 with ⟨_,k⟩|⟨k,_⟩|⟨k,_⟩
   .exact k t ht
   .rw[hwd]at k;cases k
   .rw[hwd]at k;cases k
  .rw[hgd oV true g1];simp only[if_true];have hno:=inv.slots i s (by simp[m5,hd,hs]) hun;obtain⟨_,_,_,k4⟩:=hok.slot s hs;refine qhw (by rw[hk,hz]) inv.sr c1 hno c2 c3 fun E' u w' b1 b2 b3 b4 b5=>?_
   have h1:=inv.len;refine finish C (fun _ _ h=>h) (.ptr (base+s) 0 0 1) E' S u w' (val _ fun gm iN oQ hc' hs' ha t ht=>?_) (fun _ _ _ h=>by cases h) (fun _=>rfl) hgood (fun _ _=>b1) b3 b2 (b4 n0 oM) bL (fun i' s' hs' hne hno' st=>?_)
   .have hwd:=D9 ha;rw[g1]at hwd;rcases hs'.2 with ⟨k,_⟩|⟨_,s',z',k1,_,k2,_⟩|⟨_,k,_⟩
    .rw[hwd]at k;cases k
    .rw[hs]at k1;cases k1;exact k2 t ht
    .rw[hs]at k;cases k
   .rw[b5 _ _ (fun he=>?_)]
    .exact hno' st
    .have:s'=s:=by omega
     subst this;exact k4 i' hne hs'
  .rw[hgd oV true g1];simp only[if_true];refine LV hk (hTm oV) inv.sr (by rw[FN (hag ej)];exact g2) fun E' u w' cB hsr hext hl=>?_
   refine finish C (fun _ _ h=>h) v E' S u w' (val _ fun gm iN oQ hc' hs' ha t ht=>?_) (fun _ _ _ h=>by cases h) (fun _=>rfl) hgood (fun _ _=>cB) (hext.le inv.sr) hsr (JD hext) hl (slotsOf hext);have hwd:=D9 ha;rw[g1]at hwd;rcases hs'.2 with ⟨k,_⟩|⟨_,s',z',k1,_⟩|⟨_,_,v',k1,k2⟩
   .rw[hwd]at k;cases k
   .rw[hs]at k1;cases k1
   .rw[FN (ha.sub fun t ht=>by simp[O'.tmps,ht]),g2]at k1;cases k1;exact k2 t ht
theorem qcI(ok:∀j d,ds[j]?=some d->Ok ds (hG ops) j d)(hlen:ds.length=ops.size)(hn0:n0<=base)
  (hcomp:∀(j:Nat) (d:D) (o:Oper),ds[j]?=some d->ops[j]?=some o->mM P N ops o=some d.o):
  ∀(fuel:Nat) (C:af->List St->Prop) (listed:Array Bool) (q:Nat) (E:En) (S:St) (a:Act) (w:World),Io P ds N n0 m0 base e0 Q E0 S0 w0 C listed q E S a w->listed.toList.count false<=fuel->
   wpAnyIn (ii ro) n P .any ops (Up N n0 m0 E0 S0 w0 Q) fuel listed a w:=by
 have done:∀(ef:af) (Hf:List St),Cls P ds base e0 Q ef Hf->∀(listed:Array Bool) (q:Nat) (E:En) (S:St) (a:Act) (w:World),Inv ds N n0 m0 base e0 ef Hf E0 S0 w0 listed q E S a w->(∀i,i<listed.size->listed.getD i false=true)->Up N n0 m0 E0 S0 w0 Q .normal a w:=by
  intro ef Hf cl listed q E S a w inv hall
  have hq:q=(fQ ds).length:=by
   rcases pJ q (fQ ds).length with h| h
   .exfalso;have hi:(fQ ds)[q]?=some (fQ ds)[q]:=by simp[h]
    obtain⟨d,hd,_⟩:=HU hi;have:=(inv.num q _ hi).1 (hall _ (by rw[inv.size];exact(aT.1 hd).1));omega
   .have:=inv.Mc;omega
  refine⟨E,ef,S,⟨fun t v hv=>inv.tmps t v hv fun i hi=>hall i (by rw[inv.size];exact Jt hi),inv.N,inv.defers,fL hn0 inv.len,inv.sr⟩,inv.ext,cl.last S ?_⟩;rw[List.getLast?_eq_getElem?,cl.len,Nat.add_sub_cancel,<-hq];exact inv.st
 have qhc:∀(ef:af) (Hf:List St) (listed:Array Bool) (q:Nat) (E:En) (S:St) (a:Act) (w:World),Inv ds N n0 m0 base e0 ef Hf E0 S0 w0 listed q E S a w->Region.ready .any ops listed=[]->∀i,i<listed.size->listed.getD i false=true:=by
  intro ef Hf listed q E S a w inv hr i
  induction i using Nat.strongRecOn with
  |ind i ih=>
   intro hi
   cases hb:listed.getD i false with
   |true=>rfl
   |false=>
    exfalso;have hil:i<ds.length:=by rw[<-inv.size];exact hi
    have hd:ds[i]?=some ds[i]:=by simp[hil]
    have ho:ops[i]?=some (ops[i]'oM):=by simp
    have hmem:i∈Region.ready .any ops listed:=by
     refine mem_ready.2 ⟨?_,_,ho,fun e he hbi=>?_⟩
     .simp only[Array.getD,hi,dif_pos]at hb |-;exact hb
     .have hs:e.on∈hG ops i:=by
       simp only[hG,ho,cE,np];exact⟨e,⟨by simpa using he,hbi⟩,rfl⟩
      have hlt:=(ok i _ hd).back _ hs;exact ih _ hlt oM
    rw[hr]at hmem;cases hmem
 intro fuel
 induction fuel with
 |zero=>
  intro C listed q E S a w ic hc;obtain⟨ef,Hf,hC⟩:=ic.good.some;have hall:∀i,i<listed.size->listed.getD i false=true:=fun i hi=>qcn oM hi
  refine⟨?_,done ef Hf (ic.cls ef Hf hC) listed q E S a w (ic.inv ef Hf hC) hall⟩
  cases hr:Region.ready .any ops listed with
  |nil=>rfl
  |cons i l=>
   exfalso;have:i∈Region.ready .any ops listed:=by rw[hr];simp
   obtain⟨h1,_⟩:=mem_ready.1 this;obtain⟨h2,h3⟩:=wG.1 h1;obtain⟨h4,h5⟩:=yS.1 (hall i h2);rw[h3]at h5;cases h5
 |succ fuel ih=>
  intro C listed q E S a w ic hc;obtain⟨ef,Hf,hC⟩:=ic.good.some;refine⟨fun hr=>done ef Hf (ic.cls ef Hf hC) listed q E S a w (ic.inv ef Hf hC) (qhc ef Hf listed q E S a w (ic.inv ef Hf hC) hr),fun i hi=>?_⟩;refine qcK ic ok hlen hn0 hcomp hi fun a' w' E' q' S' C' ic'=>ih C' _ q' E' S' a' w' ic' ?_
  have:=count_set (mem_ready.1 hi).1;omega
end
def Fz:List Nat->List Nat
 |[]=>[]
 |x::xs=>if xs.contains x then Fz xs else x::Fz xs
def Rm:List (List Nat)->List (List Nat)->List (List Nat)
 |[],acc=>acc
 |a::as,acc=>Rm as (acc++[Fz (a++a.flatMap fun s=>(acc[s]?).getD [])])
def KQ:K->Bool
 |.new _=>true
 |_=>false
def qg8:O'->List V
 |⟨_,_,.new z⟩=>[z]
 |_=>[]
def DF:List V->Bool
 |[]=>true
 |z::zs=>decide (0<z.size)&&DF zs
def YW:∀{zs:List V},DF zs=true->∀z,z∈zs->0<z.size
 |[],_,z,h=>by cases h
 |z0::zs,h,z,hz=>by
  simp only[DF,bZ,cR]at h;rcases cX.1 hz with rfl|hz
  .exact h.1
  .exact YW h.2 z hz
def MS(ds:List D)(n:Nat):Bool:=(List.range ds.length).all fun i=>match m5 ds i with
 |some s=>decide (s<n)
 |none=>true
def qj8{ds:List D}{n:Nat}(h:MS ds n=true):∀i s,m5 ds i=some s->s<n:=fun i s hs=>by
 unfold MS at h;simp only[d6,vP]at h;have:=h i (Zb hs);rw[hs]at this;simpa using this
section
universe u
variable {α:Sort u}
def xN(n:Nat)(k:Nat->α):α:=match n with
 |0=>k 0
 |m+1=>k (m+1)
def xB(b:Bool)(k:Bool->α):α:=match b with
 |true=>k true
 |false=>k false
def xL:List Nat->(List Nat->α)->α
 |[],k=>k []
 |n::l,k=>xN n fun n=>xL l fun l=>k (n::l)
def xO(o:Option Nat)(k:Option Nat->α):α:=match o with
 |none=>k none
 |some n=>xN n fun n=>k (some n)
def xD(d:D)(k:D->α):α:=xB d.w fun w=>xO d.slot fun s=>xB d.chk fun c=>xL d.jr fun a=>xN d.lo fun lo=>xN d.hi fun hi=>k ⟨d.o,w,s,c,a,lo,hi⟩
def HV:List D->(List D->α)->α
 |[],k=>k []
 |d::l,k=>xD d fun d=>HV l fun l=>k (d::l)
def xS{β:Type}:List β->(List β->α)->α
 |[],k=>k []
 |d::l,k=>xS l fun l=>k (d::l)
theorem NY(n:Nat)(k:Nat->α):xN n k=k n:=by cases n<;>rfl
theorem qmU(b:Bool)(k:Bool->α):xB b k=k b:=by cases b<;>rfl
theorem qaz:∀(l:List Nat) (k:List Nat->α),xL l k=k l
 |[],k=>rfl
 |n::l,k=>by rw[xL,NY,qaz l]
theorem qmV(o:Option Nat)(k:Option Nat->α):xO o k=k o:=by cases o<;>simp only[xO,NY]
theorem qay:∀(l:List D) (k:List D->α),HV l k=k l
 |[],k=>rfl
 |d::l,k=>by simp only[HV,xD,qmU,qmV,qaz,NY,qay l]
theorem HW{β:Type}:∀(l:List β) (k:List β->α),xS l k=k l
 |[],k=>rfl
 |d::l,k=>by rw[xS,HW l]
end
def qH(P:Program)(N:Nat)(ops:Array Oper):Option (List D×List V):=
 match ops.toList.mapM (mM P N ops) with
 |none=>none
 |some os=>
  let as:=Rm ((List.range ops.size).map (hG ops)) []
  let ws:=os.map fun o=>o.k.writes&&!KQ o.k
  let wi:=(List.range os.length).filter fun i=>(ws[i]?).getD false
  let ds:=os.mapIdx fun j o=>
   let jr:=(as[j]?).getD []
   let w:=(ws[j]?).getD false
   let p:=((ws.take j).filter id).length
   let lo:=if w then p else(wi.takeWhile fun i=>jr.contains i).length
   let hi:=if w then p else(wi.takeWhile fun i=>!((as[i]?).getD []).contains j).length
   let slot:=if KQ o.k then some ((os.take j).filter fun o=>KQ o.k).length else none
   { o:=o,w:=w,slot:=slot,chk:=slot.isSome||(!w&&o.k.reads&&decide (lo<hi)),jr:=jr,lo:=lo,hi:=hi:D }
  let zs:=os.flatMap qg8
  HV ds fun ds=>xS zs fun zs=>if Fj P N ops ds=true/\P.follows .mixedOrders=true/\DF zs=true/\MS ds zs.length=true then some (ds,zs) else none
def dG(base:Nat)(ef:af)(d:D):List St->Prop
 |[]=>True
 | T::Ts=>(match d.slot with
  |some s=>match d.o.k with
   |.new z=>T[base+s]?=some (.arr [z] z.size 1)/\0<z.size/\(z.cells.all V.flat)=true
   |_=>False
  |none=>∃v,br ef T d.o.k=some (v,T)/\∀t,d.o.dst=some t->ef.get t=some v)/\dG base ef d Ts
def dx(base:Nat)(ef:af)(H:List St):List D->Prop
 |[]=>True
 | d::ds=>(if (d.chk && !d.w)=true then match ga ef d.o.g with
   |some true=>dG base ef d ((H.drop d.lo).take (d.hi+1-d.lo))
   |_=>True
  else True)/\dx base ef H ds
def SC{base:Nat}{ef:af}{d:D}:∀{Ts:List St},dG base ef d Ts->∀T,T∈Ts->match d.slot with
  |some s=>match d.o.k with
   |.new z=>T[base+s]?=some (.arr [z] z.size 1)/\0<z.size/\(z.cells.all V.flat)=true
   |_=>False
  |none=>∃v,br ef T d.o.k=some (v,T)/\∀t,d.o.dst=some t->ef.get t=some v
 |[],_,T,h=>by cases h
 |T0::Ts,⟨h1,h2⟩,T,h=>by
  rcases cX.1 h with rfl| h
  .exact h1
  .exact SC h2 T h
def SB{base:Nat}{ef:af}{H:List St}:∀{ds:List D},dx base ef H ds->Jp base ef H ds
 |[],_,d,h,_,_,_=>by cases h
 |d0::ds,⟨h1,h2⟩,d,h,hc,hw,hg=>by
  rcases cX.1 h with rfl| h
  .rw[ai (by simp[hc,hw]),hg]at h1;intro q hlo hhi T hT;refine SC h1 T ?_
   have:((H.drop d.lo).take (d.hi+1-d.lo))[q-d.lo]?=some T:=by
    rw[lj oM,kh,show d.lo+(q-d.lo)=q by omega];exact hT
   exact dc this
  .exact SB h2 d h hc hw hg
def cU(base:Nat)(ds:List D)(Q:af->St->Prop)(ef:af)(H:List St):Prop:=
 dx base ef H ds/\match H.getLast? with
  |some S=>Q ef S
  |none=>False
def Vv{α β:Type}{f:α->Option β}:∀{l:List α} {r:List β},l.mapM f=some r->r.length=l.length/\∀(i:Nat) (x:α) (y:β),l[i]?=some x->r[i]?=some y->f x=some y
 |[],r,h=>by simp at h;subst h;exact⟨rfl,fun i x y h=>by simp at h⟩
 |a::l,r,h=>by
  simp only[oz,oH]at h
  cases ha:f a with
  |none=>rw[ha]at h;simp at h
  |some b=>
   rw[ha]at h
   cases hl:l.mapM f with
   |none=>rw[hl]at h;simp at h
   |some bs=>
    rw[hl]at h;simp at h;subst h;obtain⟨h1,h2⟩:=Vv hl;refine⟨by simp[h1],fun i x y hx hy=>?_⟩
    cases i with
    |zero=>simp at hx hy;subst hx;subst hy;exact ha
    |succ i=>exact h2 i x y (by simpa using hx) (by simpa using hy)
def qak{ds:List D}:(fQ ds).length=ds.countP fun d=>d.w:=by
 unfold fQ;rw[<-List.countP_eq_length_filter]
 have:∀(l:List D) (k:Nat),List.countP (fun i=>((k+l.length)-(k+l.length)=0)&&((l[i]?.map D.w).getD false)) (List.range l.length)=l.countP fun d=>d.w:=by
  intro l
  induction l with
  |nil=>intro k;rfl
  |cons d l ih=>
   intro k
   have h1:List.range (d::l).length=0::(List.range l.length).map (·+1):=by
    rw[eE,List.range_succ_eq_map]
   rw[h1,rE,List.countP_map,rE];have:=ih 0;simp at this |-;rw[<-this];rfl
 have h:=this ds 0;simpa using h
def Jn{P:Program}{N:Nat}{ops:Array Oper}{ds:List D}{zs:List V}(h:qH P N ops=some (ds,zs)):
  P.follows .mixedOrders=true/\Fj P N ops ds=true/\DF zs=true/\(∀i s,m5 ds i=some s->s<zs.length)/\∀(j:Nat) (d:D) (o:Oper),ds[j]?=some d->ops[j]?=some o->mM P N ops o=some d.o:=by
 unfold qH at h;split at h
 .cases h
 .rename_i os hos;simp only[qay,HW]at h;split at h
  .rename_i hc;obtain⟨hc,hm,hz,hs⟩:=hc;simp only[Option.some.injEq,Prod.mk.injEq]at h;obtain⟨rfl,rfl⟩:=h;refine⟨hm,hc,hz,qj8 hs,fun j d o hj ho=>?_⟩;rw[List.getElem?_mapIdx]at hj;simp only[dL]at hj;obtain⟨o',ho',rfl⟩:=hj;exact(Vv hos).2 j o o' (by simpa using ho) ho'
  .cases h
def SU{P:Program}{N n0 m0:Nat}{ro:Option Nat}{n:Nat}{ops:Array Oper}{Q:cM}{ds:List D}{zs:List V}{E:En}{e:af}{S:St}{a:Act}{w:World}
  (hc:qH P N ops=some (ds,zs)) (hr:Rel N n0 m0 E e S a w)
  (h:eG P S.length ds (cU S.length ds (Q .normal)) e (S++fg zs) [S++fg zs]):wpAnyIn (ii ro) n P .any ops (Up N n0 m0 E S w Q) ops.size (Array.replicate ops.size false) a { w with drawn:=w.drawn+1 }:=by
 obtain⟨hm,hcd,hz,qfi,hcomp⟩:=Jn hc;obtain⟨hlen,hok⟩:=qch hcd;obtain⟨p1,p2⟩:=(hr.sr.heap (w':={ w with drawn:=w.drawn+1 }) rfl).V9 zs (YW hz);have Ue:Ext n0 E S w E (S++fg zs) { w with drawn:=w.drawn+1 }:=(Ext.heap (w:=w) (w':={ w with drawn:=w.drawn+1 }) n0 rfl rfl).trans (p2 n0);obtain⟨C,hC,hgood⟩:=FH (e0:=e) hok ds 0 e (S++fg zs) [S++fg zs] sM (by simp[pos]) (by simp[pos]) (fun _ _=>rfl) h;rw[<-qak,show pos ds 0=0 by simp[pos]]at hgood
 have hfalse:∀i,(Array.replicate ops.size false).getD i false=false:=fun i=>by
  simp only[Array.getD];split<;>simp
 refine qcI (base:=S.length) (e0:=e) hok hlen hr.base hcomp ops.size C (Array.replicate ops.size false) 0 E (S++fg zs) a { w with drawn:=w.drawn+1 } ⟨fun ef Hf hc=>?_,fun ef Hf hc=>?_,hgood,fun ef Hf gm iN _ _ i t hl _=>(by rw[hfalse]at hl;cases hl)⟩ sM
 .obtain⟨⟨h1,h2⟩,htr⟩:=hC ef Hf hc;obtain⟨T,hT1,hT2⟩:=vW ds _ _ _ _ _ htr;refine⟨fun j d hj=>QQ (i8:=hG ops) hok ds 0 e (S++fg zs) [S++fg zs] ef Hf sM (by simp[pos]) (by simp[pos]) htr (fun _ _=>rfl) j d (eL _) hj,SB h1,fun S' hS'=>by rw[hS']at h2;exact h2,by rw[hT1,qak];simp[hT2,Nat.add_comm],fun t ht=>?_⟩
  exact vV ds _ _ _ _ _ htr fun d hd hdd=>by
   obtain⟨i,hi⟩:=jA hd;exact ht i (by simp[eg,hi,hdd])
 .obtain⟨_,htr⟩:=hC ef Hf hc;obtain⟨T,hT1,hT2⟩:=vW ds _ _ _ _ _ htr;refine⟨by simp[hlen],fun j d _ hl=>(by rw[hfalse]at hl;cases hl),fun p i _=>(by rw[hfalse i];simp),eL _,by rw[hT1];simp,fun t v hv hall=>?_,fun t v hv _=>hr.tmps t v hv,fun i s _ _ st=>?_,hr.size,nu.step Ue hr.defers,p1,by simp,fun i s hs=>by simp[fg];exact qfi i s hs,Ue⟩
  .have:ef.get t=e.get t:=vV ds _ _ _ _ _ htr fun d hd hdd=>by
    obtain⟨i,hi⟩:=jA hd;have:=hall i (by simp[eg,hi,hdd]);rw[hfalse]at this;cases this
   rw[this]at hv;exact hr.tmps t v hv
  .cases hx:E.ρ (S.length+s) st with
   |none=>rfl
   |some x=>exact absurd (hr.sr.dom _ _ _ hx) oM
def qcJ{P:Program}{N n0 m0:Nat}{ro:Option Nat}{n id:Nat}{ops:Array Oper}{Q:cM}{ds:List D}{zs:List V}{E:En}{e:af}{S:St}{a:Act}{w:World}
  (hc:qH P N ops=some (ds,zs)) (hr:Rel N n0 m0 E e S a w)
  (h:eG P S.length ds (cU S.length ds (Q .normal)) e (S++fg zs) [S++fg zs]):(Code.region id ops true).wpIn (ii ro) n P (Up N n0 m0 E S w Q) a w:=
 wpIn_region_any (Jn hc).1 (SU hc hr h)
def Jk(m:Nat)(i8:Nat->List Nat):Nat->List Nat->List Nat
 |0,S=>S
 |n+1,S=>Jk m i8 n ((List.range m).filter fun i=>S.contains i||S.any fun s=>(i8 s).contains i)
def RQ{m:Nat}{i8:Nat->List Nat}{C:Np}(hC:∀s,C s->∀r,r∈i8 s->C r):∀(n:Nat) (S:List Nat),(∀s,s∈S->C s)->∀s,s∈Jk m i8 n S->C s
 |0,S,h=>h
 |n+1,S,h=>RQ hC n _ fun s hs=>by
  simp only[np,vy,List.contains_iff_mem,rD]at hs;rcases hs.2 with h1|⟨r,h1,h2⟩
  .exact h s h1
  .exact hC r (h r h1) s h2
def CB(ops:Array Oper):Bool:=
 let m:=ops.size-1
 let S:=Jk m (hG ops) m (hG ops m)
 (List.range m).all (fun i=>S.contains i) && (hG ops m).all (fun r=>decide (r<m)) && (List.range m).all (fun i=>(hG ops i).all (fun r=>decide (r<i)) && match ops[i]? with
  |some o=>match o.guard with
   |none=>true
   |some (j,_)=>decide (j<m)
  |none=>false)
def Oper.wpIn_exit{F:Fence}{n:Nat}{P:Program}{o:Oper}{a:Act}{w:World}{K:Act->World->Prop}{Q Q':Exit->Act->World->Prop}(hq:∀x a w,x≠.normal->Q x a w->Q' x a w)(h:o.wpIn F n P a w K Q):o.wpIn F n P a w K Q':=by
 obtain⟨h1,h2⟩:=h;have hlet:LetsOut Q->LetsOut Q':=fun⟨a,w,h⟩=>⟨a,w,hq _ _ _ sM h⟩
 refine⟨h1,?_⟩;generalize (o.semAt F.round a.eval).run P w=r at h2 |-
 cases r with
 |ok nx w'=>
  cases nx<;>simp only[Oper.uponIn]at h2 |-
  case value v=>exact h2
  case skip=>exact h2
  case defer d=>exact h2
  case enter f args=>exact⟨h2.1,h2.2.mono fun e w'' he=>by cases e<;>first|exact he|exact hq _ _ _ sM he|exact hlet he⟩
  case row r args=>exact⟨h2.1,h2.2.mono fun v w'' he=>he⟩
  case round l f t x y=>exact⟨h2.1,h2.2.mono fun e w'' he=>by cases e<;>first|exact he|exact hq _ _ _ sM he|exact hlet he⟩
 |halt x w'=>
  cases x<;>simp only[Oper.uponIn]at h2 |-
  case panic v=>exact hq _ _ _ sM h2
def zf(F:Fence)(n:Nat)(P:Program)(ops:Array Oper)(Q:Exit->Act->World->Prop):Exit->Act->World->Prop
 |.normal,a,w=>wpOpIn F n P ops Q (ops.size-1) (Q .normal) a w
 |x,a,w=>Q x a w
def zI{l:Array Bool}{i:Nat}(d:Bool)(hi:i<l.size):(l.push false).getD i d=l.getD i d:=by
 simp only[Array.getD];rw[dif_pos hi,dif_pos (by simp;omega)];simp[Array.getElem_push_lt hi]
def qa6{F:Fence}{n:Nat}{P:Program}{ops':Array Oper}{o:Oper}{Q:Exit->Act->World->Prop}(hall:CB (ops'.push o)=true):
  ∀(fuel:Nat) (l:Array Bool) (a:Act) (w:World),l.size=ops'.size->(∀s,l.getD s false=true->∀r,r∈hG (ops'.push o) s->l.getD r false=true)->l.toList.count false<=fuel->
   wpAnyIn F n P .any ops' (zf F n P (ops'.push o) Q) fuel l a w->wpAnyIn F n P .any (ops'.push o) Q (fuel+1) (l.push false) a w:=by
 have hm:(ops'.push o).size-1=ops'.size:=by simp
 simp only[CB,hm,bZ,d6,vP,List.contains_iff_mem,cR]at hall;obtain⟨⟨hcl,hlast⟩,hgd⟩:=hall;have ho:(ops'.push o)[ops'.size]?=some o:=by simp
 have hget:∀i,i<ops'.size->(ops'.push o)[i]?=ops'[i]?:=fun i hi=>by rw[pz,aj oM]
 have haft:∀i o',(ops'.push o)[i]?=some o'->∀e,e∈o'.after->Region.binds .any e=true->e.on∈hG (ops'.push o) i:=fun i o' ho' e he hb=>by
  simp only[hG,ho',cE,np];exact⟨e,⟨by simpa using he,hb⟩,rfl⟩
 have qfr:∀l:Array Bool,l.size=ops'.size->(∀s,l.getD s false=true->∀r,r∈hG (ops'.push o) s->l.getD r false=true)->ops'.size∈Region.ready .any (ops'.push o) (l.push false)->∀i,i<ops'.size->l.getD i false=true:=by
  intro l hl hclosed hr i hi;obtain⟨_,o',ho',hh⟩:=mem_ready.1 hr;rw[ho]at ho';cases ho';refine RQ (C:=fun s=>l.getD s false=true) hclosed ops'.size (hG (ops'.push o) ops'.size) (fun s hs=>?_) i (hcl i hi);have hsl:=hlast s hs;simp only[hG,ho,cE,np]at hs;obtain⟨e,⟨he,hb⟩,rfl⟩:=hs;have:=hh e (by simpa using he) hb;rw[zI _ (by rw[hl];exact hsl)]at this;exact this
 have Kw:∀l:Array Bool,l.size=ops'.size->∀i,i<ops'.size->(i∈Region.ready .any (ops'.push o) (l.push false)↔i∈Region.ready .any ops' l):=by
  intro l hl i hi;rw[mem_ready,mem_ready,hget i hi,zI _ oM]
  have hafter:∀o',ops'[i]?=some o'->∀e∈o'.after,Region.binds .any e=true->e.on<ops'.size:=by
   intro o' ho' e he hb;have:=(hgd i hi).1 e.on (haft i o' (by rw[hget i hi];exact ho') e he hb);omega
  constructor
  .rintro⟨h1,o',h2,h3⟩
   exact ⟨h1,o',h2,fun e he hb=>by
    have:=h3 e he hb;rw[zI _ (by rw[hl];exact hafter o' h2 e he hb)]at this;exact this⟩
  .rintro⟨h1,o',h2,h3⟩
   exact ⟨h1,o',h2,fun e he hb=>by
    rw[zI _ (by rw[hl];exact hafter o' h2 e he hb)];exact h3 e he hb⟩
 have hrange:∀(l:Array Bool) (i:Nat),i∈Region.ready .any (ops'.push o) (l.push false)->i<ops'.size\/i=ops'.size:=fun l i hi=>by
  obtain⟨_,o',ho',_⟩:=mem_ready.1 hi;have:=(gY.1 ho').1;simp at this;omega
 have hnone:∀l:Array Bool,l.size=ops'.size->Region.ready .any ops' l=[]->∀i,i<ops'.size->l.getD i false=true:=by
  intro l hl hr i
  induction i using Nat.strongRecOn with
  |ind i ih=>
   intro hi
   cases hb:l.getD i false with
   |true=>rfl
   |false=>
    exfalso;have hoi:ops'[i]?=some (ops'[i]'hi):=by simp
    have hmem:i∈Region.ready .any ops' l:=by
     refine mem_ready.2 ⟨?_,_,hoi,fun e he hbi=>?_⟩
     .have hil:i<l.size:=by omega
      simp only[Array.getD,hil,dif_pos]at hb |-;exact hb
     .have hlt:=(hgd i hi).1 e.on (haft i _ (by rw[hget i hi];exact hoi) e he hbi);exact ih _ hlt oM
    rw[hr]at hmem;cases hmem
 have Uk:∀l:Array Bool,l.size=ops'.size->(∀i,i<ops'.size->l.getD i false=true)->ops'.size∈Region.ready .any (ops'.push o) (l.push false):=by
  intro l hl hall;refine mem_ready.2 ⟨by simp[Array.getD,hl,Array.getElem_push],o,ho,fun e he hb=>?_⟩;have hlt:=hlast e.on (haft _ o ho e he hb);rw[zI _ oM];exact hall _ hlt
 have hdone:∀(fuel:Nat) (l:Array Bool) (a:Act) (w:World),l.size=ops'.size->(∀i,i<ops'.size->l.getD i false=true)->Q .normal a w->wpAnyIn F n P .any (ops'.push o) Q fuel ((l.push false).setIfInBounds ops'.size true) a w:=by
  intro fuel l a w hl hall hQ
  have hempty:Region.ready .any (ops'.push o) ((l.push false).setIfInBounds ops'.size true)=[]:=by
   cases hr:Region.ready .any (ops'.push o) ((l.push false).setIfInBounds ops'.size true) with
   |nil=>rfl
   |cons i r=>
    exfalso;have hi:i∈Region.ready .any (ops'.push o) ((l.push false).setIfInBounds ops'.size true):=by rw[hr];simp
    obtain⟨h1,o',ho',_⟩:=mem_ready.1 hi;have hlt:=(gY.1 ho').1;simp only[Array.size_push]at hlt
    have qfo:((l.push false).setIfInBounds ops'.size true).getD i false=true:=by
     rw[uR (by simp;omega)];by_cases hil:i=ops'.size
     .exact .inl hil
     .right;rw[zI _ oM];exact hall i oM
    obtain⟨h2,h3⟩:=wG.1 h1;obtain⟨h4,h5⟩:=yS.1 qfo;rw[h3]at h5;cases h5
  cases fuel with
  |zero=>exact⟨hempty,hQ⟩
  |succ f=>exact⟨fun _=>hQ,fun i hi=>by rw[hempty]at hi;cases hi⟩
 have qe5:∀{i:Nat} {K K':Act->World->Prop} {a:Act} {w:World},(∀a w,K a w->K' a w)->wpOpIn F n P (ops'.push o) Q i K a w->wpOpIn F n P (ops'.push o) Q i K' a w:=by
  intro i K K' a w hK h;unfold wpOpIn at h |-;split
  .rename_i h1;rw[h1]at h;exact hK _ _ h
  .rename_i o1 h1;rw[h1]at h;simp only at h;split
   .rename_i hw;rw[ai hw]at h;exact Oper.wpIn_mono hK h
   .rename_i hw;rw[aj hw]at h;exact⟨h.1,hK _ _ h.2⟩
 have last:∀(fuel:Nat) (l:Array Bool) (a:Act) (w:World),l.size=ops'.size->(∀i,i<ops'.size->l.getD i false=true)->zf F n P (ops'.push o) Q .normal a w->
   wpOpIn F n P (ops'.push o) Q ops'.size (wpAnyIn F n P .any (ops'.push o) Q fuel ((l.push false).setIfInBounds ops'.size true)) a w:=by
  intro fuel l a w hl hall h;simp only[zf,hm]at h;exact qe5 (fun a w hq=>hdone fuel l a w hl hall hq) h
 intro fuel
 induction fuel with
 |zero=>
  intro l a w hl hclosed hc h;obtain⟨h1,h2⟩:=h;have hall:=hnone l hl h1;refine⟨fun hr=>?_,fun i hi=>?_⟩
  .have:=Uk l hl hall;rw[hr]at this;cases this
  .rcases hrange l i hi with hlt|rfl
   .rw[Kw l hl i hlt,h1]at hi;cases hi
   .exact last 0 l a w hl hall h2
 |succ fuel ih=>
  intro l a w hl hclosed hc h;obtain⟨h1,h2⟩:=h;refine⟨fun hr=>?_,fun i hi=>?_⟩
  .have hr':Region.ready .any ops' l=[]:=by
    cases hq:Region.ready .any ops' l with
    |nil=>rfl
    |cons j r=>
     exfalso;have hj:j∈Region.ready .any ops' l:=by rw[hq];simp
     obtain⟨_,o',ho',_⟩:=mem_ready.1 hj;have hlt:=(gY.1 ho').1;rw[<-Kw l hl j hlt,hr]at hj;cases hj
   have:=Uk l hl (hnone l hl hr');rw[hr]at this;cases this
  .rcases hrange l i hi with hlt|rfl
   .have hi':=(Kw l hl i hlt).1 hi;have hop:=h2 i hi';obtain⟨hun,o1,ho1,_⟩:=mem_ready.1 hi'
    have hset:(l.push false).setIfInBounds i true=(l.setIfInBounds i true).push false:=by
     apply x0;intro j;rw[Array.getElem?_setIfInBounds,pz,pz,Array.getElem?_setIfInBounds];simp only[Array.size_push,Array.size_setIfInBounds];by_cases hij:i=j
     .subst hij;rw[ai rfl,ai oM,aj oM,ai rfl,ai oM]
     .rw[aj hij,aj hij]
    have hnext:∀a' w',wpAnyIn F n P .any ops' (zf F n P (ops'.push o) Q) fuel (l.setIfInBounds i true) a' w'->wpAnyIn F n P .any (ops'.push o) Q (fuel+1) ((l.push false).setIfInBounds i true) a' w':=by
     intro a' w' h';rw[hset];refine ih _ a' w' (by simpa using hl) (fun s hs r hr=>?_) ?_ h'
     .rw[uR oM]at hs |-;rcases hs with rfl|hs
      .right;obtain⟨_,o2,ho2,J5⟩:=mem_ready.1 hi';simp only[hG,hget s hlt,ho2,cE,np]at hr;obtain⟨e,⟨he,hb⟩,rfl⟩:=hr;exact J5 e (by simpa using he) hb
      .exact .inr (hclosed s hs r hr)
     .have:=count_set hun;omega
    unfold wpOpIn at hop |-;rw[hget i hlt,ho1];rw[ho1]at hop;simp only at hop |-
    have hwd:Region.wanted o1 (yielded (ops'.push o) a.tmps)=Region.wanted o1 (yielded ops' a.tmps):=by
     have hg:=(hgd i hlt).2;rw[hget i hlt,ho1]at hg;simp only at hg;unfold Region.wanted;split
     .rfl
     .rename_i j want hgj;rw[hgj]at hg;simp only[cR]at hg;simp only[yielded,hget j hg]
    rw[hwd];split
    .rename_i hw;rw[ai hw]at hop;refine Oper.wpIn_exit (fun x a w hx hq=>?_) (Oper.wpIn_mono hnext hop);cases x<;>first|exact absurd rfl hx|exact hq
    .rename_i hw;rw[aj hw]at hop;exact⟨hop.1,hnext _ _ hop.2⟩
   .have hall:=qfr l hl hclosed hi
    have hr':Region.ready .any ops' l=[]:=by
     cases hq:Region.ready .any ops' l with
     |nil=>rfl
     |cons j r=>
      exfalso;have hj:j∈Region.ready .any ops' l:=by rw[hq];simp
      obtain⟨h3,o',ho',_⟩:=mem_ready.1 hj;have hlt:=(gY.1 ho').1;obtain⟨h4,h5⟩:=wG.1 h3;obtain⟨h6,h7⟩:=yS.1 (hall j hlt);rw[h5]at h7;cases h7
    exact last (fuel+1) l a w hl hall (h1 hr')
def EW{F:Fence}{n:Nat}{P:Program}{ops:Array Oper}{md:Region.Mode}{Q Q':Exit->Act->World->Prop}(hq:∀x a w,Q x a w->Q' x a w):∀(fuel:Nat) (l:Array Bool) (a:Act) (w:World),wpAnyIn F n P md ops Q fuel l a w->wpAnyIn F n P md ops Q' fuel l a w
 |0,l,a,w,h=>⟨h.1,hq _ _ _ h.2⟩
 |fuel+1,l,a,w,h=>by
  refine⟨fun hr=>hq _ _ _ (h.1 hr),fun i hi=>?_⟩;have hop:=h.2 i hi;unfold wpOpIn at hop |-;split
  .rename_i h1;rw[h1]at hop;exact EW hq fuel _ _ _ hop
  .rename_i o1 h1;rw[h1]at hop;simp only at hop;split
   .rename_i hw;rw[ai hw]at hop;exact Oper.wpIn_exit (fun x a w _ hx=>hq x a w hx) (Oper.wpIn_mono (fun a w hx=>EW hq fuel _ _ _ hx) hop)
   .rename_i hw;rw[aj hw]at hop;exact⟨hop.1,EW hq fuel _ _ _ hop.2⟩
def uh(P:Program)(o':O')(Q:cM):cM
 |.normal,e,S=>dk P [o'] (Q .normal) e S
 |x,e,S=>Q x e S
def qcL{P:Program}{N n0 m0:Nat}{ro:Option Nat}{n id:Nat}{ops:Array Oper}{Q:cM}{ds:List D}{zs:List V}{o:Oper}{o':O'}{E:En}{e:af}{S:St}{a:Act}{w:World}
  (hc:qH P N ops=some (ds,zs)) (hall:CB (ops.push o)=true) (ho:mM P N (ops.push o) o=some o') (hr:Rel N n0 m0 E e S a w)
  (h:eG P S.length ds (cU S.length ds (uh P o' Q .normal)) e (S++fg zs) [S++fg zs]):(Code.region id (ops.push o) true).wpIn (ii ro) n P (Up N n0 m0 E S w Q) a w:=by
 refine wpIn_region_any (Jn hc).1 ?_;have h1:=SU (ro:=ro) (n:=n) (Q:=uh P o' Q) hc hr h
 have h2:=EW (Q':=zf (ii ro) n P (ops.push o) (Up N n0 m0 E S w Q)) (fun x a1 w1 hx=>by
  cases x<;>try exact hx
  obtain⟨E',e',S',r,xt,q⟩:=hx;have hw:=vr (n:=n) (ro:=ro) (Q:=Q) (ops:=ops.push o) [o] [o'] E' e' S' a1 w1 (by simp[ho]) r q;have hw:=pm (Q':=Up N n0 m0 E S w Q) (fun x a' w'' hq=>hq.back xt) hw;simp only[zf,Array.size_push,Nat.add_sub_cancel];unfold wpOpIn;rw[show(ops.push o)[ops.size]?=some o by simp];exact hw) ops.size _ a _ h1
 have h3:=qa6 hall ops.size (Array.replicate ops.size false) a _ sM (fun s hs=>by
  have:(Array.replicate ops.size false).getD s false=false:=by
   simp only[Array.getD];split<;>simp
  rw[this]at hs;cases hs) sM h2
 rw[Array.size_push,Array.replicate_succ];exact h3
inductive C' where
 |skip
 |reg (ops:List O')
 |draw (ds:List D) (zs:List V)
 |wu (ds:List D) (zs:List V) (o:O')
 |seq (a b:C')
 |cond (c:aV) (a b:C')
 |block (id:Nat) (c:C')
 |scope (c:C')
 |loop (c:C')
 |exit (id:Nat)
 |ret
 |bad
 |rf (g:aV) (ps:List Nat) (bT body:Code) (ca cb:C') (N:Nat) (ts:List Nat)
 deriving Inhabited
def C'.fp:C'->Bool
 |.seq a b|.cond _ a b=>a.fp&&b.fp
 |.block _ c|.scope c|.loop c=>c.fp
 |.rf ..=>false
 |_=>true
def C'.uses:C'->List Nat
 |.reg ops=>ops.flatMap O'.tmps
 |.draw ds _=>ds.flatMap fun d=>d.o.tmps
 |.wu ds _ o=>(ds.flatMap fun d=>d.o.tmps)++o.tmps
 |.seq a b=>a.uses++b.uses
 |.cond c a b=>c.tmps++a.uses++b.uses
 |.block _ c|.scope c|.loop c=>c.uses
 |_=>[]
def qhy:K->Bool
 |.call ..=>true
 |.ex (.kG _)=>true
 |.ex (.eqn ..)=>true
 |_=>false
def FG(P:Program)(N:Nat)(ops:Array Oper):Option (List D×List V×O'):=
 match ops.back? with
 |none=>none
 |some o=>if CB ops=true then match mM P N ops o with
   |some o'=>if qhy o'.k=true then(qH P N ops.pop).map fun p=>(p.1,p.2,o') else none
   |none=>none
  else none
def qcH{P:Program}{N:Nat}{ops:Array Oper}{ds:List D}{zs:List V}{o':O'}(h:FG P N ops=some (ds,zs,o')):∃ops' o,ops=ops'.push o/\CB (ops'.push o)=true/\mM P N (ops'.push o) o=some o'/\qH P N ops'=some (ds,zs):=by
 unfold FG at h;split at h
 .cases h
 .rename_i o ho;split at h<;>try cases h
  rename_i hl;split at h<;>try cases h
  rename_i o1 hc;split at h<;>try cases h
  cases hp:qH P N ops.pop with
  |none=>rw[hp]at h;cases h
  |some p=>
   rw[hp]at h;simp only[dM,Option.some.injEq,Prod.mk.injEq]at h;obtain⟨h1,h2,h3⟩:=h
   have hpush:ops=ops.pop.push o:=by
    obtain⟨l⟩:=ops;rw[Array.back?_eq_getElem?]at ho;obtain⟨hlt,ho⟩:=gY.1 ho;apply x0;intro j;rw[pz];simp only[Array.size_pop];split
    .rename_i hj;subst hj;rw[<-ho];simp
    .rename_i hj;rw[Array.getElem?_pop];split
     .rfl
     .rw[x8 oM]
   refine⟨ops.pop,o,hpush,by rw[<-hpush];exact hl,by rw[<-hpush,<-h3];exact hc,by rw[hp,<-h1,<-h2]⟩
def comp(P:Program)(N:Nat):Code->Option C'
 |.skip=>some .skip
 |.label _=>some .skip
 |.region _ ops draw=>if draw then match FG P N ops with
   |some p=>some (.wu p.1 p.2.1 p.2.2)
   |none=>match qH P N ops with
    |some p=>some (.draw p.1 p.2)
    |none=>some .bad
  else match ops.toList.mapM (mM P N ops) with
   |some l=>xS l fun l=>some (.reg l)
   |none=>some .bad
 |.seq a b=>match comp P N a,comp P N b with
  |some a,some b=>some (.seq a b)
  |_,_=>none
 |.cond c a b=>match bE c,comp P N a,comp P N b with
  |some c,some a,some b=>some (.cond c a b)
  |_,_,_=>none
 |.block id c=>(comp P N c).map (.block id)
 |.scope c=>(comp P N c).map .scope
 |.loop c=>(comp P N c).map .loop
 |.exit id=>some (.exit id)
 |.ret=>some .ret
 |.rangeFunc f ps bT body=>match bE f,comp P N bT,comp P N body with
  |some g,some ca,some cb=>if(ca.fp&&cb.fp&&ps.toList.all fun p=>decide (p<N))=true then some (.rf g ps.toList bT body ca cb N (Fz (ca.uses++cb.uses))) else some .bad
  |_,_,_=>some .bad
 |_=>some .bad
def jw(N:af->St->Prop)(Q:cM):cM
 |.normal,e,S=>N e S
 |x,e,S=>Q x e S
def qi(id:Nat)(Q:cM):cM
 |.exit id',e,S=>if id'=id then Q .normal e S else Q (.exit id') e S
 |x,e,S=>Q x e S
def xy(Q:cM):cM
 |.goto _,_,_=>False
 |x,e,S=>Q x e S
def zU{P:Program}{b:Frame}{a:Act}{k:List Item}{cs:List Frame}{w:World}{c:Code}:step P (lone (b.atR a (.code (.scope c)::k)) cs w)=.next (lone (b.atR a (.code c::.inScope c::k)) cs w):=
 step_lone_go (by simp[stepG,stepG.exec,Frame.atR])
def qlW{P:Program}{b:Frame}{a:Act}{k:List Item}{cs:List Frame}{w:World}{c:Code}:step P (lone (b.atR a (.inScope c::k)) cs w)=.next (lone (b.atR a k) cs w):=
 step_lone_go (by simp[stepG,stepG.exec,Frame.atR])
def qmL{F:Fence}{n:Nat}{P:Program}{c:Code}{Q:Exit->Act->World->Prop}{a:Act}{w:World}(h:c.wpIn F n P (Exit.noGoto Q) a w):(Code.scope c).wpIn F n P Q a w:=by
 intro b k cs hro hb hr;have h0:(lone (b.atR a (.code (.scope c)::k)) cs w).fenced P F:=fenced_calm hb hr rfl;obtain⟨e,a₁,w₁,hq,harr⟩:=h b (.inScope c::k) cs hro hb hr
 cases e with
 |normal=>exact⟨.normal,a₁,w₁,hq,.head h0 zU (StepsIn.trans harr (.one (fenced_calm hb hr rfl) qlW))⟩
 |exit id'=>
  have hx:exitTo id' (.inScope c::k)=exitTo id' k:=by simp[exitTo]
  exact ⟨.exit id',a₁,w₁,hq,fun k' hk=>.head h0 zU (harr.1 k' (by rw[hx];exact hk)),
   fun hr' hk=>let ⟨k₁,h1,h2⟩:=harr.2 hr' (by rw[hx];exact hk);⟨k₁,h1,.head h0 zU h2⟩⟩
 |goto l=>exact hq.elim
 |ret=>exact⟨_,a₁,w₁,hq,.of_steps (.one h0 zU) harr⟩
 |panic ch=>exact⟨_,a₁,w₁,hq,.of_steps (.one h0 zU) harr⟩
 |outgrown=>exact⟨_,a₁,w₁,hq,.of_steps (.one h0 zU) harr⟩
def WP(P:Program):C'->cM->af->St->Prop
 |.skip,Q,e,S=>Q .normal e S
 |.reg ops,Q,e,S=>dk P ops (Q .normal) e S
 |.draw ds zs,Q,e,S=>eG P S.length ds (cU S.length ds (Q .normal)) e (S++fg zs) [S++fg zs]
 |.wu ds zs o,Q,e,S=>eG P S.length ds (cU S.length ds (uh P o Q .normal)) e (S++fg zs) [S++fg zs]
 |.seq a b,Q,e,S=>WP P a (jw (WP P b Q) Q) e S
 |.cond c a b,Q,e,S=>match c.ev e with
  |some (.bool t)=>(t=true->WP P a Q e S)/\(t=false->WP P b Q e S)
  |_=>False
 |.block id c,Q,e,S=>WP P c (qi id Q) e S
 |.scope c,Q,e,S=>WP P c (xy Q) e S
 |.loop c,Q,e,S=>∃(I:Nat->af->St->Prop) (n:Nat),(∃e',af.sub e' e/\I n e' S)/\∀n e S,I n e S->WP P c (jw (fun e S=>∃n',n'<n/\∃e',af.sub e' e/\I n' e' S) Q) e S
 |.exit id,Q,e,S=>Q (.exit id) e S
 |.ret,Q,e,S=>Q .ret e S
 |.bad,_,_,_=>False
 |.rf g ps bT body ca cb N ts,Q,e,S=>comp P N bT=some ca->comp P N body=some cb->match g.ev e with
  |some (.fn (.func k) fs cs)=>∃R,au P k (fs++[.cj S.length]++cs) (S++[.loop ⟨.ready,none,ps,bT,body,e.keep ts,N⟩]) R/\∀r S',R r S'->∃i,S'[S.length]?=some (.loop i)/\i.st≠.busy/\
   match i.pend with
   |none=>Q .normal e (S'.set S.length (.loop { i with st:=.exhausted }))
   |some .ret=>Q .ret e (S'.set S.length (.loop { i with st:=.exhausted }))
   |some (.exit id)=>Q (.exit id) e (S'.set S.length (.loop { i with st:=.exhausted }))
   |some _=>False
  |_=>False
def Rel.sub{N n0 m0:Nat}{E:En}{e e':af}{S:St}{a:Act}{w:World}(h:Rel N n0 m0 E e S a w)(hs:af.sub e' e):Rel N n0 m0 E e' S a w:=
 ⟨fun t v hv=>h.tmps t v (hs t v hv),h.size,h.defers,h.base,h.sr⟩
def Up.then{N n0 m0:Nat}{E:En}{S:St}{w:World}{M:af->St->Prop}{Q:cM}{x:Exit}{a:Act}{w':World}{next:Act->World->Prop}(h:Up N n0 m0 E S w (jw M Q) x a w')
  (hn:∀E' e' S',Rel N n0 m0 E' e' S' a w'->Ext n0 E S w E' S' w'->M e' S'->next a w'):Exit.then next (Up N n0 m0 E S w Q) x a w':=by
 obtain⟨E',e',S',r,ex,q⟩:=h;cases x<;>first|exact hn E' e' S' r ex q|exact⟨E',e',S',r,ex,q⟩
def Ext.push{E:En}{S:St}{w:World}(h:SR E S w)(o:Obj):SR E S { w with heap:=w.heap.push o }/\∀n,Ext n E S w E S { w with heap:=w.heap.push o }:=by
 refine⟨⟨h.gl.old (fun _ _ _ h=>h) (fun b _ _ _ hb _=>lJ (wL hb)),fun b o' c hc=>?_,fun l ob hl=>?_,h.dom,h.apart,fun b hb=>?_,h.inj⟩,fun n=>⟨by simp,fun _ _ _ h=>h,fun _ _ _ _ h=>h,fun _ _ h=>h,fun _ h=>.inl h,fun _ _ _ h=>.inl h,fun b hb _=>lJ hb,rfl⟩⟩
 .have:=h.I b o' c hc;rw[qG (lJ (oL this))];exact this
 .by_cases hd:ob=.dead
  .subst hd;trivial
  exact(h.obs l ob hl).mono (En.le_refl E) (fun _ _ hx=>hx) (fun st x hx=>lJ (h.lt _ ⟨l,st,x,⟨ob,hl,hd⟩,hx,rfl⟩))
 .have:=h.lt b hb;simp;omega
def SR.Lp{E:En}{S:St}{w:World}(h:SR E S w){l:Nat}{i i':LI}{x:kg}{r r':Loop}(hl:S[l]?=some (.loop i))(hx:E.ρ l 0=some x)(hr:w.heap[x.b]?=some (.loop r))
  (h1:r'.state=i'.st) (h2:r'.pending=i'.pend) (h3:r'.params.toList=i'.ps) (h4:r'.assign=i'.bT) (h5:r'.body=i'.body) (h6:r'.tmps.size=i'.N) (h7:fw E i'.e r'.tmps):
  SR E (S.set l (.loop i')) (w.putObj x.b (.loop r'))/\Ext S.length E S w E (S.set l (.loop i')) (w.putObj x.b (.loop r')):=by
 have hlt:x.b<w.heap.size:=(gY.1 hr).1;have hlive:eY S l:=⟨_,hl,by simp⟩;refine h.change (E':=E) (w':=w.putObj x.b (.loop r')) hlive rfl (En.le_refl E) (fun _ _ _=>rfl) (fun st z hz=>.inl ⟨st,z,hz,rfl⟩) (by simp[World.putObj]) (fun b hb' hne=>?_) rfl ⟨x,r',hx,?_,h1,h2,h3,h4,h5,h6,h7⟩
 .show(w.heap.setIfInBounds x.b _)[b]?=_;rw[nh (hne 0 x hx)]
 .show(w.heap.setIfInBounds x.b _)[x.b]?=_;simp[hlt]
def qiR{P:Program}{N n0 m0 n:Nat}{f:Operand}{g:aV}{ps:Array Tmp}{bT body:Code}{ts:List Nat}{Q:cM}{E:En}{e:af}{S:St}{a:Act}{w:World}(hg:bE f=some g)
  (h:Unit→match g.ev e with
  |some (.fn (.func k) fs cs)=>∃R,au P k (fs++[.cj S.length]++cs) (S++[.loop ⟨.ready,none,ps.toList,bT,body,e.keep ts,N⟩]) R/\∀r S',R r S'->∃i,S'[S.length]?=some (.loop i)/\i.st≠.busy/\
   match i.pend with
   |none=>Q .normal e (S'.set S.length (.loop { i with st:=.exhausted }))
   |some .ret=>Q .ret e (S'.set S.length (.loop { i with st:=.exhausted }))
   |some (.exit id)=>Q (.exit id) e (S'.set S.length (.loop { i with st:=.exhausted }))
   |some _=>False
  |_=>False) (hr:Rel N n0 m0 E e S a w):(Code.rangeFunc f ps bT body).wpIn (ii none) n P (Up N n0 m0 E S w Q) a w:=by
 have h:=h ();split at h<;>try exact h.elim
 rename_i k fs cs hv;obtain⟨R,hspec,hnext⟩:=h;have hfv:=cx hr.tmps hg hv;generalize hu:a.eval f=u at hfv
 obtain⟨us,ws,rfl,b1,b2,b3,b4⟩:∃us ws,u=.func (.func k) us ws/\fs.length=us.size/\cs.length=ws.size/\(∀(i:Nat) (v:V) (u:Value),fs[i]?=some v->us[i]?=some u->VR E v u)/\(∀(i:Nat) (v:V) (u:Value),cs[i]?=some v->ws[i]?=some u->VR E v u):=by
  cases hfv with
  |fn h1 h2 g1 g2=>exact⟨_,_,rfl,h1,h2,g1,g2⟩
 refine wpIn_rangeFunc fun fn _=>?_
 let w1:World:={ w with heap:=w.heap.push (.deferred (some [])) }
 obtain⟨p1,p2⟩:=Ext.push hr.sr (.deferred (some []))
 let Me:Loop:={ state:=.ready,pending:=none,fn,tmps:=a.tmps,params:=ps,assign:=bT,body,defers:=w.heap.size }
 let w2:World:={ w1 with heap:=w1.heap.push (.loop Me) }
 have hsz1:w1.heap.size=w.heap.size+1:=by simp[w1]
 have hno:E.ρ S.length 0=none:=by
  cases hx:E.ρ S.length 0 with
  |none=>rfl
  |some y=>exact absurd (hr.sr.dom _ _ _ hx) oM
 obtain⟨q1,q2⟩:=p1.new (o:=.loop Me) (ob:=.loop ⟨.ready,none,ps.toList,bT,body,e.keep ts,N⟩) (st:=0) (N:=0) (sz:=0) ⟨⟨w1.heap.size,0,0⟩,Me,iG,xA,rfl,rfl,rfl,rfl,rfl,hr.size,(hr.tmps.keep ts).mono (pR hno)⟩;have hle:E.le (E.at S.length 0 ⟨w1.heap.size,0,0⟩):=pR hno;have hext:Ext S.length E S w (E.at S.length 0 ⟨w1.heap.size,0,0⟩) _ w2:=(p2 S.length).trans q2
 have hmarks:nu m0 (E.at S.length 0 ⟨w1.heap.size,0,0⟩) (S++[.loop ⟨.ready,none,ps.toList,bT,body,e.keep ts,N⟩]) w2 ([{ target:=.collected w.heap.size,args:=#[] }]++a.defers):=by
  have hm:=nu.step hext hr.defers;refine⟨hm.1,⟨w.heap.size,rfl,hr.defers.1,?_,fun ho=>?_,fun d' hd' he=>?_⟩,hm.2⟩
  .show(w1.heap.push _)[w.heap.size]?=_;rw[pz,aj oM];simp[w1]
  .rcases q2.own _ ho with ho|ho
   .exact absurd (hr.sr.lt _ ho) oM
   .exact absurd (show w1.heap.size<=w.heap.size from ho) oM
  .have:∀(l:List Deferred),qE m0 E S w l->∀d,d∈l->∃r,d.target=.collected r/\r<w.heap.size:=by
    intro l
    induction l with
    |nil=>intro _ d hd;cases hd
    |cons d0 l ih=>
     rintro⟨⟨r,k1,_,k3,_⟩,hl⟩ d hd;rcases cX.1 hd with rfl|hd
     .exact⟨r,k1,(gY.1 k3).1⟩
     .exact ih hl d hd
   obtain⟨r,k1,k2⟩:=this _ hr.defers.2 d' hd';rw[he]at k1;cases k1;omega
 have qfw:VR (E.at S.length 0 ⟨w1.heap.size,0,0⟩) (.cj S.length) (.func (.yield (w.heap.size+1)) #[] #[]):=by
  have:=VR.cj (E:=E.at S.length 0 ⟨w1.heap.size,0,0⟩) (l:=S.length) (x:=⟨w1.heap.size,0,0⟩) iG;rw[hsz1]at this |-;exact this
 refine⟨w.heap.size+1,[{ target:=.collected w.heap.size,args:=#[] }],w2,{ target:=.fn (.func k) ws,args:=us++#[.func (.yield (w.heap.size+1)) #[] #[]] },w2,k,us++#[.func (.yield (w.heap.size+1)) #[] #[]]++ws,w2,?_,?_,fun _ _=>trivial,?_,fun hd=>by simp[ii,Fence.wide]at hd,?_⟩
 .exact run_enterLoop_outer fn a.tmps ps bT body
 .simp only[resolve,rangeCall,hu,Deferred.ofValue,Sem.run_bind,Sem.run_pure,Result.andThen];rw[show Array.map a.eval #[Operand.const (Value.func (Fn.yield (w.heap.size+1)) #[] #[])]=#[Value.func (Fn.yield (w.heap.size+1)) #[] #[]] by simp[Act.eval]]
 .simp only[invoke];exact hspec.1 _ w2
 .have hargs:pM (E.at S.length 0 ⟨w1.heap.size,0,0⟩) (fs++[.cj S.length]++cs) (us++#[.func (.yield (w.heap.size+1)) #[] #[]]++ws):=by
   refine⟨by simp[b1,b2];omega,fun i v u hv hu=>?_⟩;rw[cO]at hv;rw[Ee]at hu;by_cases hi:i<fs.length
   .rw[b8 hi]at hv;rw[tq oM]at hu;exact(b3 i v u hv hu).mono hle
   .rw[bK oM]at hv;rw[Ah oM,<-b1]at hu;by_cases hj:i-fs.length=0
    .rw[hj]at hv hu;rw[tq sM]at hu;simp at hv hu;subst hv;subst hu;exact qfw
    .rw[bK (by simp;omega)]at hv;rw[Ah (by simp;omega)]at hu;exact(b4 _ v u (by simpa using hv) (by simpa using hu)).mono hle
  refine CallsIn.mono (hspec.2 _ w2 _ (n-1) q1 hargs) ?_;rintro ed w3 ⟨uv,r,E',S',rfl,hR,cB,hsr,F9,hlen⟩;obtain⟨i,hi,hst,hq⟩:=hnext r S' hR;obtain⟨x,rc,r1,r2,r3,r4,r5,r6,r7,r8,r9⟩:=hsr.obs _ _ hi
  have hx:x.b=w.heap.size+1:=by
   have hlt:S.length<(S++[Ob.loop ⟨.ready,none,ps.toList,bT,body,e.keep ts,N⟩]).length:=by simp
   have:=F9.ρ S.length 0 _ hlt iG;rw[r1]at this;cases this;exact hsz1
  rw[hx]at r2;have hnb:rc.state≠.busy:=by rw[r3];exact hst
  obtain⟨s1,s2⟩:=hsr.Lp (i':={ i with st:=.exhausted }) (r':={ rc with state:=.exhausted }) hi r1 (by rw[hx];exact r2) rfl r4 r5 r6 r7 r8 r9;rw[hx]at s1 s2;have hbase:S.length<=S'.length:=by simp at hlen;omega
  have hrel:Rel N n0 m0 E' e (S'.set S.length (.loop { i with st:=.exhausted })) { a with defers:=[{ target:=.collected w.heap.size,args:=#[] }]++a.defers } (w3.putObj (w.heap.size+1) (.loop { rc with state:=.exhausted })):=by
   refine⟨(hr.tmps.mono hle).mono (F9.le q1),hr.size,?_,by simp;exact fL hr.base hbase,s1⟩;exact nu.step s2 (nu.step F9 hmarks)
  have hxx:Ext n0 E S w E' (S'.set S.length (.loop { i with st:=.exhausted })) (w3.putObj (w.heap.size+1) (.loop { rc with state:=.exhausted })):=
   (hext.less hr.base).trans ((F9.less (fL hr.base sM)).trans (s2.less (fL hr.base hbase)))
  refine⟨rc.pending,_,run_endLoop r2 hnb,?_⟩;generalize Uo:rc.pending=pd;rw[Uo]at r4;have hrel':=hrel;have Gj:=hxx;rw[Uo]at hrel' Gj;split at hq
  .rename_i hp;rw[hp]at r4;subst r4;exact⟨E',e,_,hrel',Gj,hq⟩
  .rename_i hp;rw[hp]at r4;subst r4;exact wpIn_ret ⟨E',e,_,hrel',Gj,hq⟩
  .rename_i id hp;rw[hp]at r4;subst r4;exact wpIn_exit ⟨E',e,_,hrel',Gj,hq⟩
  .exact hq.elim
def Iy{P:Program}{N n0 m0:Nat}{ro:Option Nat}{n:Nat}:∀(c:Code) (c':C') (Q:cM) (E:En) (e:af) (S:St) (a:Act) (w:World),
  comp P N c=some c'->Rel N n0 m0 E e S a w->WP P c' Q e S->(ro=none\/c'.fp=true)->c.wpIn (ii ro) n P (Up N n0 m0 E S w Q) a w:=by
 intro c
 induction c with
 |skip=>
  intro c' Q E e S a w hc hr h hro;simp only[comp]at hc;cases hc;exact wpIn_skip ⟨E,e,S,hr,Ext.refl _ _ _ _,h⟩
 |label l=>
  intro c' Q E e S a w hc hr h hro;simp only[comp]at hc;cases hc;exact wpIn_label ⟨E,e,S,hr,Ext.refl _ _ _ _,h⟩
 |region id ops draw=>
  intro c' Q E e S a w hc hr h hro;simp only[comp]at hc;split at hc
  .rename_i hd;subst hd
   cases hd:FG P N ops with
   |some p=>
    obtain⟨ds,zs,o'⟩:=p;rw[hd]at hc;cases hc;obtain⟨ops',o,rfl,h1,h2,h3⟩:=qcH hd;exact qcL h3 h1 h2 hr h
   |none=>
   rw[hd]at hc;simp only at hc
   cases hl:qH P N ops with
   |none=>rw[hl]at hc;cases hc;exact h.elim
   |some p=>
    rw[hl]at hc;cases hc;exact qcJ hl hr h
  .rename_i hd;have:draw=false:=by simpa using hd
   subst this
   cases hl:ops.toList.mapM (mM P N ops) with
   |none=>rw[hl]at hc;cases hc;exact h.elim
   |some l'=>
    rw[hl]at hc;simp only[HW]at hc;cases hc;exact wpIn_region_list (vr ops.toList l' E e S a w hl hr h)
 |seq x y wR ihy=>
  intro c' Q E e S a w hc hr h hro;simp only[comp]at hc;split at hc<;>cases hc;rename_i x' y' hx hy;refine wpIn_seq (wpIn_mono (wR x' _ E e S a w hx hr h (hro.imp (fun h=>h) fun h=>by simp[C'.fp]at h;exact h.1)) fun ex a' w' hq=>?_);exact hq.then fun E' e' S' r x q=>wpIn_mono (ihy y' Q E' e' S' a' w' hy r q (hro.imp (fun h=>h) fun h=>by simp[C'.fp]at h;exact h.2)) fun ex a'' w'' g=>g.back x
 |cond c x y wR ihy=>
  intro c' Q E e S a w hc hr h hro;simp only[comp]at hc;split at hc<;>cases hc;rename_i c' x' y' hcc hx hy;simp only[WP]at h;split at h
  .rename_i t ht;have hv:=cx hr.tmps hcc ht;generalize hu:a.eval c=u at hv;cases hv;refine wpIn_cond_split hu (fun ht=>wR x' Q E e S a w hx hr (h.1 ht) (hro.imp (fun h=>h) fun h=>by simp[C'.fp]at h;exact h.1)) (fun ht=>ihy y' Q E e S a w hy hr (h.2 ht) (hro.imp (fun h=>h) fun h=>by simp[C'.fp]at h;exact h.2))
  .exact h.elim
 |block id c ih=>
  intro c' Q E e S a w hc hr h hro;simp only[comp]at hc
  cases hx:comp P N c with
  |none=>rw[hx]at hc;cases hc
  |some x'=>
   rw[hx]at hc;cases hc;refine wpIn_block (wpIn_mono (ih x' _ E e S a w hx hr h (hro.imp (fun h=>h) fun h=>by simp[C'.fp]at h;exact h)) fun ex a' w' hq=>?_);obtain⟨E',e',S',r,x,q⟩:=hq;cases ex<;>simp only[Exit.inBlock,qi]at q |-<;>try exact⟨E',e',S',r,x,q⟩
   split
   .rename_i hid;rw[ai hid]at q;exact⟨E',e',S',r,x,q⟩
   .rename_i hid;rw[aj hid]at q;exact⟨E',e',S',r,x,q⟩
 |scope c ih=>
  intro c' Q E e S a w hc hr h hro;simp only[comp]at hc
  cases hx:comp P N c with
  |none=>rw[hx]at hc;cases hc
  |some x'=>
   rw[hx]at hc;cases hc;refine qmL (wpIn_mono (ih x' _ E e S a w hx hr h (hro.imp (fun h=>h) fun h=>by simp[C'.fp]at h;exact h)) fun ex a' w' hq=>?_);obtain⟨E',e',S',r,x,q⟩:=hq;cases ex<;>simp only[Exit.noGoto,xy]at q |-<;>exact⟨E',e',S',r,x,q⟩
 |loop c ih=>
  intro c' Q E e S a w hc hr h hro;simp only[comp]at hc
  cases hx:comp P N c with
  |none=>rw[hx]at hc;cases hc
  |some x'=>
   rw[hx]at hc;cases hc;obtain⟨I,k,⟨e0,hsub,h0⟩,Kx⟩:=h
   let J:Nat->Act->World->Prop:=fun k a' w'=>∃E' e' S',Rel N n0 m0 E' e' S' a' w'/\Ext n0 E S w E' S' w'/\I k e' S'
   refine wpIn_loop (fun a' w'=>∃k,J k a' w') (fun a' w'=>leastOf fun k=>J k a' w') ⟨k,E,e0,S,hr.sub hsub,Ext.refl _ _ _ _,h0⟩ ?_;intro a1 w1 hI;obtain⟨E1,e1,S1,r1,x1,i1⟩:=(leastOf_spec hI).1;refine wpIn_mono (ih x' _ E1 e1 S1 a1 w1 hx r1 (Kx _ e1 S1 i1) (hro.imp (fun h=>h) fun h=>by simp[C'.fp]at h;exact h)) fun ex a' w' hq=>?_
   obtain⟨E',e',S',r,x,q⟩:=hq;cases ex
   case normal=>
    obtain⟨k',hlt,e2,hs2,hi2⟩:=q;have hJ:J k' a' w':=⟨E',e2,S',r.sub hs2,x1.trans x,hi2⟩;exact⟨⟨k',hJ⟩,Nat.lt_of_le_of_lt ((leastOf_spec ⟨k',hJ⟩).2 k' hJ) hlt⟩
   all_goals exact⟨E',e',S',r,x1.trans x,q⟩
 |exit id=>
  intro c' Q E e S a w hc hr h hro;simp only[comp]at hc;cases hc;exact wpIn_exit ⟨E,e,S,hr,Ext.refl _ _ _ _,h⟩
 |ret=>
  intro c' Q E e S a w hc hr h hro;simp only[comp]at hc;cases hc;exact wpIn_ret ⟨E,e,S,hr,Ext.refl _ _ _ _,h⟩
 |rangeFunc f ps bT body iha ihb=>
  intro c' Q E e S a w hc hr h hro;simp only[comp]at hc;split at hc
  case h_2=>cases hc;exact h.elim
  rename_i g ca cb hg hca hcb;split at hc
  case isFalse=>cases hc;exact h.elim
  cases hc;rename_i hst;have qff:ro=none:=hro.resolve_right (by simp[C'.fp]);subst qff;exact qiR hg (fun _=>h hca hcb) hr
 |_=>intro c' Q E e S a w hc hr h hro;simp only[comp,Option.some.injEq]at hc;subst hc;exact h.elim
inductive RV where
 |t (t:Nat)
 |cell (t:Nat) (k:Option Nat)
 deriving Inhabited
structure F' where
 N:Nat
 rs:List RV
 body:C'
 deriving Inhabited
def wj(P:Program):ResultVar->Option RV
 |.tmp t=>some (.t t)
 |.cell a t=>(jk P t).map (.cell a)
def lD(P:Program)(fn:Func):Option F':=
 match fn.body,fn.results.toList.mapM (wj P) with
 | some c, some rs => if fn.name = "runtime.NumGoroutine" then none else (comp P fn.ntmps c).map fun c' => ⟨fn.ntmps, rs, c'⟩
 |_,_=>none
def dm(e:af)(S:St):List RV->Option (List V)
 |[]=>some []
 |.t t::rs=>match e.get t,dm e S rs with
  |some v,some vs=>some (v::vs)
  |_,_=>none
 |.cell t k::rs=>match e.get t,dm e S rs with
  |some p,some vs=>(ae S p k).map fun v=>v::vs
  |_,_=>none
def aK:List V->V
 |[v]=>v
 |vs=>.aH vs
def cK(n:Nat)(r:V)(S:St)(r':V)(S':St):Prop:=
 ∀(E:En) (w:World) (u:Value),SR E S w->VR E r u->n<=S.length->∃E',VR E' r' u/\SR E' S' w/\Ext n E S w E' S' w/\n<=S'.length
def cK.refl(n:Nat)(r:V)(S:St):cK n r S r S:=fun E w u hs hr hn=>⟨E,hr,hs,Ext.refl _ _ _ _,hn⟩
def cK.trans{n:Nat}{r r1 r2:V}{S S1 S2:St}(h:cK n r S r1 S1)(g:cK n r1 S1 r2 S2):cK n r S r2 S2:=fun E w u hs hr hn=>by
 obtain⟨E1,a1,a2,a3,a4⟩:=h E w u hs hr hn;obtain⟨E2,b1,b2,b3,b4⟩:=g E1 w u a2 a1 a4;exact⟨E2,b1,b2,a3.trans b3,b4⟩
def cK.cut{n m:Nat}{r:V}{S:St}(hr:r.under m=true)(hS:∀o,o∈S.take m->o.under m=true)(hn:n<=m)(hm:m<=S.length):cK n r S r (S.take m):=fun E w u hs hv hn'=>by
 obtain⟨h1,h2⟩:=hs.cut hS hm;exact⟨E.cut m,hv.cut hr,h1,h2 n hn,by simp;omega⟩
def cK.freeze{n l off len st sz wr:Nat}{S:St}{xs:List V}(ho:S[l]?=some (.arr xs sz wr))(hw:wr<=st)(hle:off+len<=st):cK n (.arr l off len st) S (.sl false ((xs.drop off).take len)) (S.set l .dead):=fun E w u hs hv hn=>by
 obtain⟨E',h1,h2,_,h3⟩:=hs.freeze ho hw hv hle;exact⟨E',h3,h1,h2 n,by simpa using hn⟩
def eH(rs:List RV)(n:Nat)(R:V->St->Prop):cM
 |.normal,e,S|.ret,e,S=>∃vs,dm e S rs=some vs/\∃r' S',cK n (aK vs) S r' S'/\R r' S'
 |_,_,_=>False
def iF:Nat->List V->af
 |_,[]=>[]
 |k,v::vs=>(k,v)::iF (k+1) vs
def IM:∀(vs:List V) (k t:Nat) (v:V),(iF k vs).get t=some v->k<=t/\vs[t-k]?=some v
 |[],k,t,v,h=>by simp[iF,af.get]at h
 |x::vs,k,t,v,h=>by
  simp only[iF,af.get]at h;split at h
  .rename_i hk;subst hk;cases h;simp
  .obtain⟨h1,h2⟩:=IM vs (k+1) t v h;refine⟨by omega,?_⟩;obtain⟨d,rfl⟩:∃d,t=k+1+d:=⟨t-(k+1),by omega⟩;rw[show k+1+d-(k+1)=d by omega]at h2;rw[show k+1+d-k=d+1 by omega,tG];exact h2
def zK(tmps:Array Value):ResultVar->Sem Value
 |.tmp t=>Pure.pure (tmps.getD t undef)
 |.cell a t=>do loadVar t (<-asAddr (tmps.getD a undef))
def YG{P:Program}{E:En}{e:af}{S:St}{w:World}{tmps:Array Value}(ht:fw E e tmps)(hs:SR E S w):∀(l:List ResultVar) (rs:List RV) (vs:List V),l.mapM (wj P)=some rs->dm e S rs=some vs->
  ∃us:List Value,us.length=vs.length/\(∀(i:Nat) (v:V) (u:Value),vs[i]?=some v->us[i]?=some u->VR E v u)/\
   ∀acc:Array Value,(l.foldlM (fun(acc:Array Value) r=>do let b <-zK tmps r;Pure.pure (acc.push b)) acc:Sem (Array Value)).run P w=.ok (acc++us.toArray) w
 |[],rs,vs,h1,h2=>by
  simp at h1;subst h1;simp only[dm]at h2;cases h2;exact⟨[],rfl,fun i v u h=>by simp at h,fun acc=>by simp⟩
 |r::l,rs,vs,h1,h2=>by
  simp only[oz,oH]at h1
  cases hc:wj P r with
  |none=>rw[hc]at h1;simp at h1
  |some r'=>
   rw[hc]at h1
   cases hl:l.mapM (wj P) with
   |none=>rw[hl]at h1;simp at h1
   |some rs'=>
    rw[hl]at h1;simp at h1;subst h1
    have one:∃v vs' u,vs=v::vs'/\dm e S rs'=some vs'/\VR E v u/\(zK tmps r).run P w=.ok u w:=by
     cases r with
     |tmp t=>
      simp only[wj]at hc;cases hc;simp only[dm]at h2;split at h2<;>cases h2;rename_i v vs' hv hvs;obtain⟨u,hu,hr⟩:=ht _ _ hv;exact⟨v,vs',u,rfl,hvs,hr,by simp[zK,hu]⟩
     |cell a t=>
      simp only[wj]at hc
      cases hk:jk P t with
      |none=>rw[hk]at hc;cases hc
      |some k=>
       rw[hk]at hc;cases hc;simp only[dm]at h2;split at h2<;>try cases h2
       rename_i p vs' hv hvs
       cases hd:ae S p k with
       |none=>rw[hd]at h2;cases h2
       |some v=>
        rw[hd]at h2;cases h2;obtain⟨u,hu,hr⟩:=ht _ _ hv;obtain⟨d,h3,h4⟩:=YT (P:=P) hs hr hk hd;refine⟨v,vs',d,rfl,hvs,h4,?_⟩;have hg:tmps.getD a undef=u:=by simp[hu]
        simp only[zK,hg];cases hr<;>simp[ae]at hd<;>simpa[Instr.loadAt,Instr.sureAddr,asAddr,Result.andThen]using h3
    obtain⟨v,vs',u,rfl,hvs,hr,hrun⟩:=one;obtain⟨us,i1,i2,i3⟩:=YG ht hs l rs' vs' hl hvs;refine⟨u::us,by simp[i1],fun i v' u' h h'=>?_,fun acc=>?_⟩
    .cases i with
     |zero=>simp at h h';subst h;subst h';exact hr
     |succ i=>exact i2 i v' u' (by simpa using h) (by simpa using h')
    .simp only[List.foldlM_cons,Sem.run_bind,hrun,Result.andThen,Sem.run_pure];rw[i3];simp
def qiO{P:Program}{E:En}{e:af}{S:St}{w:World}{tmps:Array Value}{fn:Func}{rs:List RV}{vs:List V}(ht:fw E e tmps)(hs:SR E S w)(hc:fn.results.toList.mapM (wj P)=some rs)(h:dm e S rs=some vs):
  ∃u,(results fn tmps).run P w=.ok u w/\VR E (aK vs) u:=by
 obtain⟨us,i1,i2,i3⟩:=YG (P:=P) ht hs fn.results.toList rs vs hc h
 have hm:(fn.results.mapM (zK tmps)).run P w=.ok us.toArray w:=by
  rw[Array.mapM_eq_foldlM_push,<-Array.foldlM_toList,i3];simp
 refine⟨if h:us.toArray.size=1 then us.toArray[0] else .tuple us.toArray,?_,?_⟩
 .have hres:results fn tmps=(do let vs <-fn.results.mapM (zK tmps);Pure.pure (if h:vs.size=1 then vs[0] else .tuple vs)):=by
   unfold results;congr 1
  rw[hres];simp only[Sem.run_bind,hm,Result.andThen,Sem.run_pure]
 .by_cases h1:us.length=1
  .match us,vs,h1,i1 with
   |[u],[v],_,_=>simpa[aK]using i2 0 v u rfl rfl
  .rw[dif_neg (by simpa using h1)]
   have:aK vs=.aH vs:=by
    match vs,i1 with
    |[],_=>rfl
    |[v],h=>simp at h;exact absurd h h1
    |_::_::_,_=>rfl
   rw[this];exact .aH (by simp[i1]) (fun i v u hv hu=>i2 i v u hv (by simpa using hu))
def QN(m:Nat)(w w':World):Prop:=w'.heap.size=w.heap.size/\(∀b,b<m->w'.heap[b]?=w.heap[b]?)/\(w'.output,w'.os)=(w.output,w.os)
def Ext.same{n:Nat}{E E':En}{S S':St}{w w' w'':World}(h:Ext n E S w E' S' w')(g:QN w.heap.size w' w''):Ext n E S w E' S' w'':=
 { h with size:=by rw[g.1];exact h.size,frame:=fun b hb hn=>(g.2.1 b hb).trans (h.frame b hb hn),out:=g.2.2.trans h.out }
def SR.shut{E:En}{S:St}{w:World}(h:SR E S w){r:Nat}{ds:Option (List Deferred)}{o:Obj}(hr:w.heap[r]?=some (.deferred ds))(hno:¬own E S r):SR E S { w with heap:=w.heap.setIfInBounds r o }:=by
 have hlt:r<w.heap.size:=(gY.1 hr).1
 have other:∀b,b≠r->({ w with heap:=w.heap.setIfInBounds r o }:World).heap[b]?=w.heap[b]?:=fun b hb=>by
  show(w.heap.setIfInBounds r o)[b]?=_;rw[nh (Ne.symm hb)]
 refine⟨h.gl.old (fun _ _ _ h=>h) (fun b _ _ _ hb _=>other b fun he=>by subst he;rw[hr]at hb;cases hb),fun b o' c hc=>?_,fun l ob hl=>?_,h.dom,h.apart,fun b hb=>?_,h.inj⟩
 .have h1:=h.I b o' c hc
  have hne:b≠r:=by
   rintro rfl;unfold World.cell? at h1;simp[hr]at h1
  rw[qG (other b hne)];exact h1
 .by_cases hd:ob=.dead
  .subst hd;trivial
  exact(h.obs l ob hl).mono (En.le_refl E) (fun _ _ hx=>hx) fun st x hx=>other _ fun he=>hno ⟨l,st,x,⟨ob,hl,hd⟩,hx,he⟩
 .show b<(w.heap.setIfInBounds r o).size;simp;exact h.lt b hb
def Vi{P:Program}{n m:Nat}{fn:Func}{tmps:Array Value}{R:Ending->World->Prop}{E:En}{S:St}:∀{ds:List Deferred} {w:World},SR E S w->qE m E S w ds->
  (∀w',SR E S w'->QN m w w'->∃v,(results fn tmps).run P w'=.ok v w'/\R (.returned v) w')->LeavesInM Fence.wide n P fn tmps R ds .returning w
 |[],w,hs,_,h=>h w hs ⟨rfl,fun _ _=>rfl,rfl⟩
 |d::ds,w,hs,⟨⟨r,h1,h2,h3,h4,h5⟩,hd⟩,h=>by
  refine⟨by simp,.inl ⟨r,_,h1,run_takeDeferred h3,?_⟩⟩;have hs':=hs.shut (o:=.deferred none) h3 h4;refine Vi (m:=m) hs' ?_ fun w' Gh hsame=>h w' Gh ?_
  .have hne:∀b,b≠r->({ w with heap:=w.heap.setIfInBounds r (.deferred none) }:World).heap[b]?=w.heap[b]?:=fun b hb=>by
    show(w.heap.setIfInBounds r _)[b]?=_;rw[nh (Ne.symm hb)]
   have:∀(l:List Deferred),(∀d',d'∈l->d'.target≠.collected r)->qE m E S w l->qE m E S { w with heap:=w.heap.setIfInBounds r (.deferred none) } l:=by
    intro l
    induction l with
    |nil=>intro _ _;trivial
    |cons d' l ih=>
     rintro hne' ⟨⟨r',k1,k2,k3,k4,k5⟩,hl⟩;have hrr:r'≠r:=fun he=>hne' d' sM (by rw[k1,he])
     exact⟨⟨r',k1,k2,(hne r' hrr).trans k3,k4,k5⟩,ih (fun d'' hd''=>hne' d'' (by simp[hd''])) hl⟩
   exact this ds h5 hd
  .refine⟨hsame.1.trans sM,fun b hb=>(hsame.2.1 b hb).trans ?_,hsame.2.2⟩;show(w.heap.setIfInBounds r _)[b]?=_;rw[nh oM]
def au.intro{P:Program}{f:FuncId}{fn:Func}{f':F'}{args:List V}{S:St}{R:V->St->Prop}(hf:P.funcs[f]?=some fn)(hc:lD P fn=some f')(ha:args.length<=f'.N)
  (h:WP P f'.body (eH f'.rs S.length R) (iF 0 args) S):au P f args S R:=by
 unfold lD at hc;split at hc
 .rename_i c rs hb hrs;split at hc
  .cases hc
  .rename_i hname
   cases hx:comp P fn.ntmps c with
   |none=>rw[hx]at hc;cases hc
   |some c'=>
    rw[hx]at hc;cases hc;refine⟨fun as w=>?_,fun E w us n hs hv=>?_⟩
    .simp[callFunc,program,Sem.run,Result.andThen,hf,hname,hb]
    .refine callsIn_of_wp_marks hf hb trivial ?_;simp only at ha h;obtain⟨v1,v2⟩:=hv
     have hrel:Rel fn.ntmps S.length w.heap.size E (iF 0 args) S { tmps:=us++Array.replicate (fn.ntmps-us.size) undef,defers:=[] } w:=by
      refine⟨fun t v ht=>?_,by simp;omega,⟨cq _,trivial⟩,cq _,hs⟩;obtain⟨_,h2⟩:=IM args 0 t v ht;simp only[Nat.sub_zero]at h2;have hlt:=(aT.1 h2).1;have hu:us[t]?=some (us[t]'oM):=by simp
      exact⟨_,by rw[tq oM];exact hu,v2 t v _ h2 hu⟩
     have hwp:=Iy (ro:=none) (n:=n) c c' _ E _ S _ w hx hrel h (.inl rfl);refine wpIn_mono (show c.wpIn Fence.wide n P _ _ w from hwp) ?_;rintro ex a' w' ⟨E',e',S',r,x,q⟩;cases ex<;>simp only[eH]at q
     all_goals
      obtain⟨vs,h1,r',S2,hg,hR⟩:=q
      refine Vi r.sr r.defers.2 fun w'' Gh hsame=>?_
      obtain⟨u,h3,h4⟩:=qiO (P:=P) r.tmps Gh hrs h1
      obtain⟨E2,g1,g2,g3,g4⟩:=hg E' w'' u Gh h4 r.base
      exact⟨u,h3,u,r',E2,S2,rfl,hR,g1,g2,(x.same hsame).trans g3,g4⟩
 .cases hc
structure CF(P:Program)(k:FuncId)(f:Func) where
 c:F'
 g:P.funcs[k]?=some f
 o:lD P f=some c
def au.ib{P:Program}{k:FuncId}{fn:Func}(p:CF P k fn){args:List V}{S:St}{R:V->St->Prop}(h:WP P p.c.body (eH p.c.rs S.length R) (iF 0 args) S)(ha:Nat.ble args.length p.c.N=true:=by rfl):au P k args S R:=au.intro p.g p.o (kn ha) h
def nT:List Nat->List V->af->af
 |p::ps,v::vs,e=>nT ps vs (e.put (some p) v)
 |_,_,e=>e
def Yi{E:En}:∀(ps:List Nat) (vs:List V) (us:List Value) (e:af) (T:Array Value),fw E e T->(∀p,p∈ps->p<T.size)->vs.length=us.length->(∀(i:Nat) (v:V) (u:Value),vs[i]?=some v->us[i]?=some u->VR E v u)->
  fw E (nT ps vs e) ((ps.zip us).foldl (fun T p=>T.setIfInBounds p.1 p.2) T)/\((ps.zip us).foldl (fun T p=>T.setIfInBounds p.1 p.2) T).size=T.size
 |[],vs,us,e,T,h,_,_,_=>by cases vs<;>exact⟨h,rfl⟩
 |p::ps,[],us,e,T,h,_,hl,_=>by
  have:us=[]:=Iq (by simpa using hl.symm);subst this;exact⟨h,rfl⟩
 |p::ps,v::vs,[],e,T,h,_,hl,_=>by simp at hl
 |p::ps,v::vs,u::us,e,T,h,hp,hl,hv=>by
  have:=Yi ps vs us (e.put (some p) v) (T.setIfInBounds p u) (h.put (hp p sM) (hv 0 v u rfl rfl)) (fun q hq=>by simp;exact hp q (by simp[hq])) (by simpa using hl) (fun i v' u' h1 h2=>hv (i+1) v' u' (by simpa using h1) (by simpa using h2));simp only[EJ,vJ,nT];exact⟨this.1,by rw[this.2];simp⟩
def uL(l:Nat)(R:V->St->Prop):cM
 |.normal,_,S=>∃i,S[l]?=some (.loop i)/\R (.bool true) (S.set l (.loop { i with st:=.ready,pend:=none }))
 |.ret,_,S=>∃i,S[l]?=some (.loop i)/\R (.bool false) (S.set l (.loop { i with st:=.done,pend:=some .ret }))
 |.exit id,_,S=>∃i,S[l]?=some (.loop i)/\R (.bool false) (S.set l (.loop { i with st:=.done,pend:=some (.exit id) }))
 |_,_,_=>False
def A7(P:Program)(l:Nat)(cb:C')(R:V->St->Prop):cM
 |.normal,e,S=>∃i,S[l]?=some (.loop i)/\i.st=.ready/\WP P cb (uL l R) e (S.set l (.loop { i with st:=.busy }))
 |_,_,_=>False
def fA.intro{P:Program}{l:Nat}{args:List V}{S:St}{R:V->St->Prop}{i:LI}{ca cb:C'}(hl:S[l]?=some (.loop i))(hca:comp P i.N i.bT=some ca)(hcb:comp P i.N i.body=some cb)(hst:i.st=.ready)
  (na:ca.fp=true) (nb:cb.fp=true) (hlen:args.length=i.ps.length) (hps:i.ps.all (fun p=>decide (p<i.N))=true)
  (h:WP P ca (A7 P l cb R) (nT i.ps args i.e) S):fA P l args S R:=by
 intro E w us n x hs hv hx;obtain⟨x',rc,r1,r2,r3,r4,r5,r6,r7,r8,r9⟩:=hs.obs _ _ hl;rw[hx]at r1;cases r1;obtain⟨v1,v2⟩:=hv;refine⟨rc.fn,_,rc.assign,rc.body,run_yield r2 (by rw[<-v1,hlen,<-r5];simp),?_⟩;simp only[d6,cR]at hps;obtain⟨t1,t2⟩:=Yi i.ps args us.toList i.e rc.tmps r9 (fun p hp=>by rw[r8];exact hps p hp) (by simpa using v1) (fun j v u h1 h2=>v2 j v u h1 (by simpa using h2))
 have hT:(rc.params.zip us).foldl (fun tmps (t,a)=>tmps.setIfInBounds t a) rc.tmps=(i.ps.zip us.toList).foldl (fun T p=>T.setIfInBounds p.1 p.2) rc.tmps:=by
  rw[<-Ef,Array.toList_zip,r5]
 rw[hT];generalize (i.ps.zip us.toList).foldl (fun T p=>T.setIfInBounds p.1 p.2) rc.tmps=T at t1 t2;rw[r6,r7];have hrel:Rel i.N S.length w.heap.size E (nT i.ps args i.e) S { tmps:=T,defers:=[] } w:=⟨t1,by rw[t2,r8],⟨cq _,trivial⟩,cq _,hs⟩;have hwp:=Iy (ro:=some x.b) (n:=n) i.bT ca _ E _ S _ w hca hrel h (.inr na);refine roundIn_of_wpIn trivial (wpIn_mono (show i.bT.wpIn (Fence.wide.inRound x.b) n P _ _ w from hwp) ?_);rintro ex a' w' ⟨E',e',S',r,xt,q⟩;cases ex<;>simp only[A7]at q;obtain⟨i',hi',hst',hb⟩:=q;obtain⟨x',rc',q1,q2,q3,q4,q5,q6,q7,q8,q9⟩:=r.sr.obs _ _ hi';have hlt:l<S.length:=(aT.1 hl).1;have hx':=xt.ρ l 0 _ hlt hx;rw[hx']at q1;cases q1;refine⟨_,run_beginRound q2 (by rw[q3];exact hst'),?_⟩;obtain⟨s1,s2⟩:=r.sr.Lp (i':={ i' with st:=.busy }) (r':={ rc' with state:=.busy }) hi' hx' q2 rfl q4 q5 q6 q7 q8 q9;have hrel':Rel i.N S.length w.heap.size E' e' (S'.set l (.loop { i' with st:=.busy })) a' (w'.putObj x.b (.loop { rc' with state:=.busy })):=
  ⟨r.tmps,r.size,nu.step s2 r.defers,by simp;exact r.base,s1⟩
 have hext:Ext S.length E S w E' (S'.set l (.loop { i' with st:=.busy })) (w'.putObj x.b (.loop { rc' with state:=.busy })):=xt.trans (s2.less r.base);have qfs:=Iy (ro:=some x.b) (n:=n) i.body cb _ E' _ _ _ _ hcb hrel' hb (.inr nb);refine wpIn_mono (show i.body.wpIn (Fence.wide.inRound x.b) n P _ _ _ from qfs) ?_;rintro ex a2 w2 ⟨E2,e2,S2,r2',xt2,q2'⟩;have hxx:=hext.trans xt2;have hx2:=hxx.ρ l 0 _ hlt hx;have fin:∀(j:Option Code) (i2:LI),S2[l]?=some (.loop i2)->R (.bool j.isNone) (S2.set l (.loop { i2 with st:=if j.isNone then .ready else .done,pend:=j }))->
   ∃v w',(Instr.endRound x.b j).run P w2=.ok v w'/\∃u r E' S',(Ending.returned v)=.returned u/\R r S'/\VR E' r u/\SR E' S' w'/\Ext S.length E S w E' S' w'/\S.length<=S'.length:=by
  intro j i2 hi2 hR;obtain⟨x',rc2,p1,p2,p3,p4,p5,p6,p7,p8,p9⟩:=r2'.sr.obs _ _ hi2;rw[hx2]at p1;cases p1;obtain⟨s1,s2⟩:=r2'.sr.Lp (i':={ i2 with st:=if j.isNone then .ready else .done,pend:=j }) (r':={ rc2 with state:=if j.isNone then .ready else .done,pending:=j }) hi2 hx2 p2 rfl rfl p5 p6 p7 p8 p9;exact⟨_,_,run_endRound j p2,_,_,E2,_,rfl,hR,.bool _,s1,hxx.trans (s2.less r2'.base),by simp;exact r2'.base⟩
 cases ex<;>simp only[uL]at q2'
 .obtain⟨i2,hi2,hR⟩:=q2';exact fin none i2 hi2 hR
 .obtain⟨i2,hi2,hR⟩:=q2';exact fin (some (.exit _)) i2 hi2 hR
 .obtain⟨i2,hi2,hR⟩:=q2';exact fin (some .ret) i2 hi2 hR
def Ha:Code->List (Code×Code)
 |.rangeFunc _ _ a b=>[(a,b)]
 |.seq a b|.cond _ a b=>Ha a++Ha b
 |.block _ c|.loop c|.scope c=>Ha c
 |_=>[]
def dR(f:Func)(k:Nat):Code×Code:=match f.body with
 |some c=>((Ha c)[k]?).getD (.skip,.skip)
 |none=>(.skip,.skip)
mutual
def V.eB(l:Nat)(xs:List V)(wr:Nat):V->V
 |.arr l' off len st=>if l'=l/\wr<=st/\off+len<=st then .sl false ((xs.drop off).take len) else .arr l' off len st
 |.sl x ys=>.sl x (V.tZ l xs wr ys)
 |.iface t v=>.iface t (V.eB l xs wr v)
 |.agg cs=>.agg (V.tZ l xs wr cs)
 |.aH cs=>.aH (V.tZ l xs wr cs)
 |v=>v
def V.tZ(l:Nat)(xs:List V)(wr:Nat):List V->List V
 |[]=>[]
 |v::vs=>V.eB l xs wr v::V.tZ l xs wr vs
end
def rT{l wr:Nat}{xs:List V}:∀(vs:List V),V.tZ l xs wr vs=vs.map (V.eB l xs wr)
 |[]=>rfl
 |v::vs=>by simp only[V.tZ,b9,rT vs]
def TN{l wr:Nat}{xs:List V}(v:V):(v.eB l xs wr).cells=v.cells.map (V.eB l xs wr):=by
 cases v
 case arr l' off len st=>
  show(V.eB l xs wr (.arr l' off len st)).cells=[V.eB l xs wr (.arr l' off len st)];simp only[V.eB];by_cases hc:l'=l/\wr<=st/\off+len<=st
  .rw[ai hc];rfl
  .rw[aj hc];rfl
 all_goals simp only[V.eB,V.cells,b9,jj,rT]
def SR.BG{E:En}{S:St}{w:World}(h:SR E S w){l sz wr:Nat}{xs:List V}(ho:S[l]?=some (.arr xs sz wr)):
  ∃E',SR E' (S.set l .dead) w/\(∀n,Ext n E S w E' (S.set l .dead) w)/\∀v u,VR E v u->VR E' (v.eB l xs wr) u:=by
 obtain⟨h0,h1,h2⟩:=h.obs l _ ho;have hlive:eY S l:=⟨_,ho,by simp⟩
 open Classical in
 let mine:Np:=fun b=>∃st x,E.ρ l st=some x/\x.b=b
 open Classical in
 let E':En:={ E with I:=fun b o=>if mine b then w.cell? ⟨b,o,none⟩ else E.I b o }
 have hmo:∀b,mine b->own E S b:=fun b ⟨st,x,hx,hb⟩=>⟨l,st,x,hlive,hx,hb⟩
 have hle':E.le E':=⟨fun b o c hc=>by
  simp only[E'];split
  .rename_i hm;rw[h.apart b o (hmo b hm)]at hc;cases hc
  .exact hc,fun _ _ _ h=>h⟩
 have hρ:E'.ρ=E.ρ:=rfl
 have hnot:∀b,own E' (S.set l .dead) b->own E S b/\¬mine b:=by
  rintro b ⟨l',st,x,hl',hx,rfl⟩;rw[hρ]at hx
  have hne:l'≠l:=by
   rintro rfl;obtain⟨o,ho',hd⟩:=hl';rw[bJ (zi hlive)]at ho';cases ho';exact hd rfl
  have hlv:eY S l':=si hl' hlive;refine⟨⟨l',st,x,hlv,hx,rfl⟩,?_⟩;rintro⟨st',y,hy,he⟩;exact hne (h.inj l' l st st' x y hlv hlive hx hy he.symm)
 refine⟨E',⟨h.gl.old hle'.1 (fun _ _ _ _ _ _=>rfl),?_,?_,?_,?_,?_,?_⟩,fun n=>⟨cq _,hle'.1,fun l st x _ hx=>hx,fun _ _ hx=>hx,fun b hb=>.inl (hnot b hb).1,?_,fun _ _ _=>rfl,rfl⟩,?_⟩
 .intro b o c hc;simp only[E']at hc;split at hc
  .exact hc
  .exact h.I b o c hc
 .intro l' o' hl';by_cases hk:l'=l
  .subst hk;rw[bJ (zi hlive)]at hl';cases hl';trivial
  .rw[bC (Ne.symm hk)]at hl';exact(h.obs l' o' hl').mono hle' (fun _ _ hx=>hx) (fun _ _ _=>rfl)
 .intro l' st' x' hx';simpa using h.dom l' st' x' hx'
 .intro b o hb;obtain⟨hb1,hb2⟩:=hnot b hb;simp only[E'];rw[aj hb2];exact h.apart b o hb1
 .intro b hb;exact h.lt b (hnot b hb).1
 .intro l1 l2 st1 st2 x1 x2 hl1 hl2 hx1 hx2 he;exact h.inj l1 l2 st1 st2 x1 x2 (si hl1 hlive) (si hl2 hlive) hx1 hx2 he
 .intro b o c hc;simp only[E']at hc;split at hc
  .rename_i hm;exact .inr (.inl (hmo b hm))
  .exact .inl hc
 .intro v u hv
  induction hv with
  |top u=>exact .top u
  |bool b=>exact .bool b
  |int k n=>exact .int k n
  |str s=>exact .str s
  |bF=>exact .bF
  |ptr i off hr=>exact VR.ptr (E:=E') i off hr
  |bG off hI hv _=>exact(VR.bG off hI hv).mono hle'
  |cL g off=>exact .cL g off
  |slnil x=>exact .slnil x
  |kL x a=>exact .kL x a
  |sl hc hx hs hI hv ih=>
   rename_i x ys b o cap sz';simp only[V.eB,rT];have hlen:(ys.map (V.eB l xs wr)).length=ys.length:=by simp
   have hcl:∀v:V,(v.eB l xs wr).cells.length=v.cells.length:=fun v=>by rw[TN];simp
   have:=VR.sl (E:=E') (x:=x) (xs:=ys.map (V.eB l xs wr)) (b:=b) (o:=o) (cap:=cap) (sz:=sz') (by rw[hlen];exact hc) (fun he=>by rw[hlen];exact hx he)
    (fun v hv=>by
     rw[cE]at hv;obtain⟨v0,hv0,rfl⟩:=hv;rw[hcl];exact hs v0 hv0)
    (fun i j hi hj=>KU hle' (hI i j (by rw[<-hlen];exact hi) hj))
    (fun i v j c' c hv hcc hi=>by
     rw[dS,dL]at hv;obtain⟨v0,hv0,rfl⟩:=hv;rw[TN,dS,dL]at hcc;obtain⟨c0,hc0,rfl⟩:=hcc;have h1:=(aT.1 hv0).1;have h2:=(aT.1 hc0).1;rw[hs v0 (dc hv0)]at h2;exact ih i v0 j c0 c hv0 hc0 (Im hle' (hI i j h1 h2) hi))
   rw[hlen]at this;exact this
  |arr hr hN hc=>
   rename_i l' off len cap st x;simp only[V.eB];split
   .rename_i hk;obtain⟨rfl,hwr,hle⟩:=hk;obtain⟨g1,g2,C,t,g3,g4,g5,g6⟩:=h2 st x hr hwr;have hm:mine x.b:=⟨st,x,hr,rfl⟩;have hlen:((xs.drop off).take len).length=len:=by simp;omega
    have hget:∀(i:Nat) (v:V),((xs.drop off).take len)[i]?=some v->xs[off+i]?=some v/\i<len:=fun i v hv=>by
     have hi:=(aT.1 hv).1;rw[hlen]at hi;rw[lj hi,kh]at hv;exact⟨hv,hi⟩
    have hmem:∀v,v∈(xs.drop off).take len->v.cells.length=x.sz:=fun v hv=>by rw[g2];exact h1 v (EH (yj hv))
    have hcell:∀(i j:Nat) (v c':V),xs[off+i]?=some v->off+i<st->v.cells[j]?=some c'->∃c,E'.I x.b (off*x.sz+i*x.sz+j)=some c/\VR E c' c:=by
     intro i j v c' hv hi hc';obtain⟨c,hc1,hc2⟩:=g6 (off+i) v hv hi j c' hc';refine⟨c,?_,hc2⟩;simp only[E'];rw[ai hm,Be g3,show off*x.sz+i*x.sz+j=(off+i)*x.sz+j by rw[gk]];exact hc1
    have:=VR.sl (E:=E') (x:=false) (xs:=(xs.drop off).take len) (b:=x.b) (o:=off*x.sz) (cap:=cap) (sz:=x.sz) (by rw[hlen];exact hc) (fun h=>by cases h) hmem
     (fun i j hi hj=>by
      rw[hlen]at hi;have hx:xs[off+i]?=some (xs[off+i]'oM):=by simp
      have hcl:(xs[off+i]'oM).cells.length=x.sz:=by rw[g2];exact h1 _ (cI _)
      obtain⟨c,hc1,_⟩:=hcell i j _ ((xs[off+i]'oM).cells[j]'oM) hx oM sM;rw[hc1];rfl)
     (fun i v j c' c hv hcc hi=>by
      obtain⟨hv',hi'⟩:=hget i v hv;obtain⟨d,hd1,hd2⟩:=hcell i j v c' hv' oM hcc;rw[hd1]at hi;cases hi;exact hd2.mono hle')
    rw[hlen]at this;exact this
   .exact VR.arr (E:=E') hr hN hc
  |cG=>exact .cG
  |map hr=>exact VR.map (E:=E') hr
  |fn h1 h2 g1 g2 _ _=>exact(VR.fn h1 h2 g1 g2).mono hle'
  |bB=>exact .bB
  |iface t _ ih=>exact .iface t ih
  |dr=>exact .dr
  |cj hr=>exact VR.cj (E:=E') hr
  |agg hl g ih=>
   simp only[V.eB,rT];refine .agg (by simpa using hl) fun i v u hv hu=>?_
   rw[dS,dL]at hv;obtain⟨v0,hv0,rfl⟩:=hv;exact ih i v0 u hv0 hu
  |aH hl g ih=>
   simp only[V.eB,rT];refine .aH (by simpa using hl) fun i v u hv hu=>?_
   rw[dS,dL]at hv;obtain⟨v0,hv0,rfl⟩:=hv;exact ih i v0 u hv0 hu
def cK.BG{n l sz wr:Nat}{r:V}{S:St}{xs:List V}(ho:S[l]?=some (.arr xs sz wr)):cK n r S (r.eB l xs wr) (S.set l .dead):=fun E w u hs hv hn=>by
 obtain⟨E',h1,h2,h3⟩:=hs.BG ho;exact⟨E',h3 _ _ hv,h1,h2 n,by simpa using hn⟩
def V.yo:Nat->V->List Nat
 |0,_=>[]
 |n+1,v=>match v with
  |.arr l _ _ _=>[l]
  |.sl _ ys=>ys.flatMap (V.yo n)
  |.iface _ v=>V.yo n v
  |.agg cs=>cs.flatMap (V.yo n)
  |.aH cs=>cs.flatMap (V.yo n)
  |_=>[]
mutual
def V.same:V->V->Bool
 |.bool a,.bool b=>a==b
 |.int k a,.int k' b=>k==k'&&a==b
 |.str a,.str b=>a.data.toList==b.data.toList
 |.bF,.bF=>true
 |.ptr a b c d,.ptr a' b' c' d'=>a==a'&&b==b'&&c==c'&&d==d'
 |.cL a b,.cL a' b'=>a==a'&&b==b'
 |.sl x xs,.sl y ys=>x==y&&V.rj xs ys
 |.arr a b c d,.arr a' b' c' d'=>a==a'&&b==b'&&c==c'&&d==d'
 |.cG,.cG=>true
 |.map l,.map l'=>l==l'
 |.bB,.bB=>true
 |.dr,.dr=>true
 |.bG v o,.bG v' o'=>V.same v v'&&o==o'
 |.agg xs,.agg ys=>V.rj xs ys
 |.aH xs,.aH ys=>V.rj xs ys
 |_,_=>false
def V.rj:List V->List V->Bool
 |[],[]=>true
 |x::xs,y::ys=>V.same x y&&V.rj xs ys
 |_,_=>false
end
def Nv{a b:Bz}(h:(a.data.toList==b.data.toList)=true):a=b:=by
 obtain⟨x⟩:=a;obtain⟨y⟩:=b;simp at h;rw[h]
mutual
theorem Dy:∀(a b:V),V.same a b=true->a=b
 |.bool a,.bool b,h=>by simp only[V.same,beq_iff_eq]at h;rw[h]
 |.int k a,.int k' b,h=>by simp only[V.same,bZ,beq_iff_eq]at h;rw[h.1,h.2]
 |.str a,.str b,h=>by simp only[V.same]at h;rw[Nv h]
 |.bF,.bF,_=>rfl
 |.cL a b,.cL a' b',h=>by simp only[V.same,bZ,beq_iff_eq]at h;obtain⟨rfl,rfl⟩:=h;rfl
 |.ptr a b c d,.ptr a' b' c' d',h=>by simp only[V.same,bZ,beq_iff_eq]at h;obtain⟨⟨⟨rfl,rfl⟩,rfl⟩,rfl⟩:=h;rfl
 |.sl x xs,.sl y ys,h=>by simp only[V.same,bZ,beq_iff_eq]at h;rw[h.1,Dz xs ys h.2]
 |.arr a b c d,.arr a' b' c' d',h=>by simp only[V.same,bZ,beq_iff_eq]at h;obtain⟨⟨⟨rfl,rfl⟩,rfl⟩,rfl⟩:=h;rfl
 |.cG,.cG,_=>rfl
 |.map l,.map l',h=>by simp only[V.same,beq_iff_eq]at h;rw[h]
 |.bB,.bB,_=>rfl
 |.dr,.dr,_=>rfl
 |.bG v o,.bG v' o',h=>by simp only[V.same,bZ,beq_iff_eq]at h;rw[Dy v v' h.1,h.2]
 |.agg xs,.agg ys,h=>by simp only[V.same]at h;rw[Dz xs ys h]
 |.aH xs,.aH ys,h=>by simp only[V.same]at h;rw[Dz xs ys h]
 |.top,b,h=>by cases b<;>simp[V.same]at h
 |.fn _ _ _,b,h=>by cases b<;>simp[V.same]at h
 |.iface _ _,b,h=>by cases b<;>simp[V.same]at h
 |.cj _,b,h=>by cases b<;>simp[V.same]at h
 |.cL ..,.top,h|.cL ..,.bool _,h|.cL ..,.int _ _,h|.cL ..,.str _,h|.cL ..,.bF,h|.cL ..,.ptr ..,h|.cL ..,.bG ..,h|.cL ..,.sl ..,h|.cL ..,.arr ..,h|.cL ..,.cG,h|.cL ..,.map _,h|.cL ..,.fn ..,h|.cL ..,.bB,h|.cL ..,.iface ..,h|.cL ..,.dr,h|.cL ..,.cj _,h|.cL ..,.agg _,h|.cL ..,.aH _,h=>by simp[V.same]at h
 |.bool _,.top,h|.bool _,.int _ _,h|.bool _,.str _,h|.bool _,.bF,h|.bool _,.ptr ..,h|.bool _,.bG ..,h|.bool _,.sl ..,h|.bool _,.arr ..,h|.bool _,.cG,h|.bool _,.map _,h|.bool _,.fn ..,h|.bool _,.bB,h|.bool _,.iface ..,h|.bool _,.dr,h|.bool _,.cj _,h|.bool _,.agg _,h|.bool _,.aH _,h|.bool _,.cL ..,h=>by simp[V.same]at h
 |.int _ _,.top,h|.int _ _,.bool _,h|.int _ _,.str _,h|.int _ _,.bF,h|.int _ _,.ptr ..,h|.int _ _,.bG ..,h|.int _ _,.sl ..,h|.int _ _,.arr ..,h|.int _ _,.cG,h|.int _ _,.map _,h|.int _ _,.fn ..,h|.int _ _,.bB,h|.int _ _,.iface ..,h|.int _ _,.dr,h|.int _ _,.cj _,h|.int _ _,.agg _,h|.int _ _,.aH _,h|.int _ _,.cL ..,h=>by simp[V.same]at h
 |.str _,.top,h|.str _,.bool _,h|.str _,.int _ _,h|.str _,.bF,h|.str _,.ptr ..,h|.str _,.bG ..,h|.str _,.sl ..,h|.str _,.arr ..,h|.str _,.cG,h|.str _,.map _,h|.str _,.fn ..,h|.str _,.bB,h|.str _,.iface ..,h|.str _,.dr,h|.str _,.cj _,h|.str _,.agg _,h|.str _,.aH _,h|.str _,.cL ..,h=>by simp[V.same]at h
 |.bF,.top,h|.bF,.bool _,h|.bF,.int _ _,h|.bF,.str _,h|.bF,.ptr ..,h|.bF,.bG ..,h|.bF,.sl ..,h|.bF,.arr ..,h|.bF,.cG,h|.bF,.map _,h|.bF,.fn ..,h|.bF,.bB,h|.bF,.iface ..,h|.bF,.dr,h|.bF,.cj _,h|.bF,.agg _,h|.bF,.aH _,h|.bF,.cL ..,h=>by simp[V.same]at h
 |.ptr ..,.top,h|.ptr ..,.bool _,h|.ptr ..,.int _ _,h|.ptr ..,.str _,h|.ptr ..,.bF,h|.ptr ..,.bG ..,h|.ptr ..,.sl ..,h|.ptr ..,.arr ..,h|.ptr ..,.cG,h|.ptr ..,.map _,h|.ptr ..,.fn ..,h|.ptr ..,.bB,h|.ptr ..,.iface ..,h|.ptr ..,.dr,h|.ptr ..,.cj _,h|.ptr ..,.agg _,h|.ptr ..,.aH _,h|.ptr ..,.cL ..,h=>by simp[V.same]at h
 |.sl ..,.top,h|.sl ..,.bool _,h|.sl ..,.int _ _,h|.sl ..,.str _,h|.sl ..,.bF,h|.sl ..,.ptr ..,h|.sl ..,.bG ..,h|.sl ..,.arr ..,h|.sl ..,.cG,h|.sl ..,.map _,h|.sl ..,.fn ..,h|.sl ..,.bB,h|.sl ..,.iface ..,h|.sl ..,.dr,h|.sl ..,.cj _,h|.sl ..,.agg _,h|.sl ..,.aH _,h|.sl ..,.cL ..,h=>by simp[V.same]at h
 |.arr ..,.top,h|.arr ..,.bool _,h|.arr ..,.int _ _,h|.arr ..,.str _,h|.arr ..,.bF,h|.arr ..,.ptr ..,h|.arr ..,.bG ..,h|.arr ..,.sl ..,h|.arr ..,.cG,h|.arr ..,.map _,h|.arr ..,.fn ..,h|.arr ..,.bB,h|.arr ..,.iface ..,h|.arr ..,.dr,h|.arr ..,.cj _,h|.arr ..,.agg _,h|.arr ..,.aH _,h|.arr ..,.cL ..,h=>by simp[V.same]at h
 |.cG,.top,h|.cG,.bool _,h|.cG,.int _ _,h|.cG,.str _,h|.cG,.bF,h|.cG,.ptr ..,h|.cG,.bG ..,h|.cG,.sl ..,h|.cG,.arr ..,h|.cG,.map _,h|.cG,.fn ..,h|.cG,.bB,h|.cG,.iface ..,h|.cG,.dr,h|.cG,.cj _,h|.cG,.agg _,h|.cG,.aH _,h|.cG,.cL ..,h=>by simp[V.same]at h
 |.map _,.top,h|.map _,.bool _,h|.map _,.int _ _,h|.map _,.str _,h|.map _,.bF,h|.map _,.ptr ..,h|.map _,.bG ..,h|.map _,.sl ..,h|.map _,.arr ..,h|.map _,.cG,h|.map _,.fn ..,h|.map _,.bB,h|.map _,.iface ..,h|.map _,.dr,h|.map _,.cj _,h|.map _,.agg _,h|.map _,.aH _,h|.map _,.cL ..,h=>by simp[V.same]at h
 |.bB,.top,h|.bB,.bool _,h|.bB,.int _ _,h|.bB,.str _,h|.bB,.bF,h|.bB,.ptr ..,h|.bB,.bG ..,h|.bB,.sl ..,h|.bB,.arr ..,h|.bB,.cG,h|.bB,.map _,h|.bB,.fn ..,h|.bB,.iface ..,h|.bB,.dr,h|.bB,.cj _,h|.bB,.agg _,h|.bB,.aH _,h|.bB,.cL ..,h=>by simp[V.same]at h
 |.dr,.top,h|.dr,.bool _,h|.dr,.int _ _,h|.dr,.str _,h|.dr,.bF,h|.dr,.ptr ..,h|.dr,.bG ..,h|.dr,.sl ..,h|.dr,.arr ..,h|.dr,.cG,h|.dr,.map _,h|.dr,.fn ..,h|.dr,.bB,h|.dr,.iface ..,h|.dr,.cj _,h|.dr,.agg _,h|.dr,.aH _,h|.dr,.cL ..,h=>by simp[V.same]at h
 |.bG ..,.top,h|.bG ..,.bool _,h|.bG ..,.int _ _,h|.bG ..,.str _,h|.bG ..,.bF,h|.bG ..,.ptr ..,h|.bG ..,.sl ..,h|.bG ..,.arr ..,h|.bG ..,.cG,h|.bG ..,.map _,h|.bG ..,.fn ..,h|.bG ..,.bB,h|.bG ..,.iface ..,h|.bG ..,.dr,h|.bG ..,.cj _,h|.bG ..,.agg _,h|.bG ..,.aH _,h|.bG ..,.cL ..,h=>by simp[V.same]at h
 |.agg _,.top,h|.agg _,.bool _,h|.agg _,.int _ _,h|.agg _,.str _,h|.agg _,.bF,h|.agg _,.ptr ..,h|.agg _,.bG ..,h|.agg _,.sl ..,h|.agg _,.arr ..,h|.agg _,.cG,h|.agg _,.map _,h|.agg _,.fn ..,h|.agg _,.bB,h|.agg _,.iface ..,h|.agg _,.dr,h|.agg _,.cj _,h|.agg _,.aH _,h|.agg _,.cL ..,h=>by simp[V.same]at h
 |.aH _,.top,h|.aH _,.bool _,h|.aH _,.int _ _,h|.aH _,.str _,h|.aH _,.bF,h|.aH _,.ptr ..,h|.aH _,.bG ..,h|.aH _,.sl ..,h|.aH _,.arr ..,h|.aH _,.cG,h|.aH _,.map _,h|.aH _,.fn ..,h|.aH _,.bB,h|.aH _,.iface ..,h|.aH _,.dr,h|.aH _,.cj _,h|.aH _,.agg _,h|.aH _,.cL ..,h=>by simp[V.same]at h
theorem Dz:∀(a b:List V),V.rj a b=true->a=b
 |[],[],_=>rfl
 |x::xs,y::ys,h=>by simp only[V.rj,bZ]at h;rw[Dy x y h.1,Dz xs ys h.2]
 |[],_::_,h=>by simp[V.rj]at h
 |_::_,[],h=>by simp[V.rj]at h
end
end Go.Proofs.YtbifpocccfkhhaaGreatDoor

namespace Go.Proofs.YtbifpocccfkhhaaGreatDoor
open Go
def uE{α:Type}(l:List α):Nat->Option α:=List.rec (motive:=fun _=>Nat->Option α) (fun _=>none) (fun x _ ih n=>Nat.rec (some x) (fun m _=>ih m) n) l
def xq{α:Type}:∀(l:List α) (n:Nat),uE l n=l[n]?
 |[],n=>by simp[uE]
 |x::xs,0=>rfl
 |x::xs,n+1=>by rw[tG,<-xq xs n];rfl
def fG{α:Type}(l:List α):Nat:=List.rec (motive:=fun _=>Nat->Nat) (fun n=>n) (fun _ _ ih n=>ih (Nat.succ n)) l 0
def Vk{α:Type}:∀(l:List α) (n:Nat),(List.rec (motive:=fun _=>Nat->Nat) (fun n=>n) (fun _ _ ih n=>ih (Nat.succ n)) l n:Nat)=l.length+n
 |[],n=>by simp
 |x::xs,n=>by
  show(List.rec (motive:=fun _=>Nat->Nat) (fun n=>n) (fun _ _ ih n=>ih (Nat.succ n)) xs (Nat.succ n):Nat)=_;rw[Vk xs];simp;omega
def lI{α:Type}(l:List α):fG l=l.length:=by unfold fG;rw[Vk];rfl
def Hu{α:Type}(x:α)(l:List α):Nat->List α:=List.rec (motive:=fun _=>Nat->List α) (fun _=>[]) (fun y ys ih n=>Nat.rec (x::ys) (fun m _=>y::ih m) n) l
def MM{α:Type}(x:α):∀(l:List α) (n:Nat),Hu x l n=l.set n x
 |[],n=>by simp[Hu]
 |y::ys,0=>rfl
 |y::ys,n+1=>by rw[List.set_cons_succ,<-MM x ys n];rfl
def fC{α:Type}(l m:List α):List α:=List.rec m (fun x _ ih=>x::ih) l
def js{α:Type}:∀(l m:List α),fC l m=l++m
 |[],m=>rfl
 |x::xs,m=>by rw[cP,<-js xs m];rfl
def sP{α:Type}(l:List α):Nat->List α:=List.rec (motive:=fun _=>Nat->List α) (fun _=>[]) (fun y _ ih n=>Nat.rec [] (fun m _=>y::ih m) n) l
def xW{α:Type}:∀(l:List α) (n:Nat),sP l n=l.take n
 |[],n=>by simp[sP]
 |y::ys,0=>rfl
 |y::ys,n+1=>by rw[List.take_succ_cons,<-xW ys n];rfl
def rQ{α:Type}(l:List α):Nat->List α:=List.rec (motive:=fun _=>Nat->List α) (fun _=>[]) (fun y ys ih n=>Nat.rec (y::ys) (fun m _=>ih m) n) l
def wv{α:Type}:∀(l:List α) (n:Nat),rQ l n=l.drop n
 |[],n=>by simp[rQ]
 |y::ys,0=>rfl
 |y::ys,n+1=>by rw[List.drop_succ_cons,<-wv ys n];rfl
def cQ(a b:Bool):Bool:=Bool.rec false b a
def yn(a b:Bool):cQ a b=(a&&b):=by cases a<;>rfl
def aW{α:Type}(c:Bool)(a b:α):α:=Bool.rec b a c
def gu{α:Type}(c:Bool)(a b:α):aW c a b=if c=true then a else b:=by cases c<;>rfl
def pO{α:Type}(f:α->Bool)(l:List α):Bool:=List.rec true (fun x _ ih=>Bool.rec false ih (f x)) l
def tK{α:Type}(f:α->Bool):∀(l:List α),pO f l=l.all f
 |[]=>rfl
 |x::xs=>by
  rw[vG,<-tK f xs];show(Bool.rec false (pO f xs) (f x):Bool)=_;cases f x<;>rfl
def xw(f:Nat):Nat->List Bool:=Nat.rec (motive:=fun _=>Nat->List Bool) (fun _=>[]) (fun _ ih n=>Nat.rec [] (fun m _=>Nat.beq (Nat.mod m 2) 1::ih (Nat.div m 2)) n) f
def path(n:Nat):List Bool:=xw n n
def V8:∀(f g n m:Nat),n<=f->m<=g->xw f n=xw g m->n=m
 |f,g,0,0,_,_,_=>rfl
 |f,g+1,0,m+1,_,_,h=>by
  have h1:xw f 0=[]:=by cases f<;>rfl
  rw[h1]at h;exact absurd h (by show []≠_::_;simp)
 |f+1,g,n+1,0,_,_,h=>by
  have h1:xw g 0=[]:=by cases g<;>rfl
  rw[h1]at h;exact absurd h (by show _::_≠[];simp)
 |f+1,g+1,n+1,m+1,hn,hm,h=>by
  have h':(Nat.beq (Nat.mod n 2) 1::xw f (Nat.div n 2))=(Nat.beq (Nat.mod m 2) 1::xw g (Nat.div m 2)):=h;simp only[List.cons.injEq]at h';obtain⟨h1,h2⟩:=h';have h3:n/2=m/2:=V8 f g (n/2) (m/2) oM oM h2
  have h4:(n%2=1↔m%2=1):=by
   have:(Nat.beq (n%2) 1=true↔Nat.beq (m%2) 1=true):=by
    show(Nat.beq (Nat.mod n 2) 1=true↔Nat.beq (Nat.mod m 2) 1=true);rw[h1]
   simpa using this
  omega
def Dc{n m:Nat}(h:path n=path m):n=m:=V8 n m n m bL bL h
inductive Tx(α:Type) where
 |nil
 |node (v:Option α) (l r:Tx α)
def Tx.get{α:Type}(p:List Bool):Tx α->Option α:=List.rec (motive:=fun _=>Tx α->Option α) (fun t=>Tx.rec none (fun v _ _ _ _=>v) t) (fun b _ ih t=>Tx.rec none (fun _ l r _ _=>ih (Bool.rec l r b)) t) p
def Tx.put{α:Type}(x:α)(p:List Bool):Tx α->Tx α:=List.rec (motive:=fun _=>Tx α->Tx α) (fun t=>Tx.rec (.node (some x) .nil .nil) (fun _ l r _ _=>.node (some x) l r) t)
 (fun b _ ih t=>Tx.rec (Bool.rec (.node none (ih .nil) .nil) (.node none .nil (ih .nil)) b) (fun v l r _ _=>Bool.rec (.node v (ih l) r) (.node v l (ih r)) b) t) p
def Tx.t9{α:Type}(x:α):∀(p:List Bool) (t:Tx α),(Tx.put x p t).get p=some x
 |[],t=>by cases t<;>rfl
 |b::p,t=>by
  cases t with
  |nil=>cases b<;>exact Tx.t9 x p .nil
  |node v l r=>cases b<;>first|exact Tx.t9 x p l|exact Tx.t9 x p r
def Tx.get_nil{α:Type}:∀(p:List Bool),(Tx.nil:Tx α).get p=none
 |[]=>rfl
 |b::p=>rfl
def Tx.t8{α:Type}(x:α):∀(p q:List Bool) (t:Tx α),p≠q->(Tx.put x p t).get q=t.get q
 |[],[],t,h=>absurd rfl h
 |[],b::q,t,_=>by cases t<;>cases b<;>first|rfl|exact Tx.get_nil q
 |b::p,[],t,_=>by cases t<;>cases b<;>rfl
 |b::p,c::q,t,h=>by
  have hn:b=c->p≠q:=fun hb hp=>h (by rw[hb,hp])
  cases t with
  |nil=>cases b<;>cases c<;>first
   |exact(Tx.t8 x p q .nil (hn rfl)).trans (Tx.get_nil q)
   |exact Tx.get_nil q
  |node v l r=>cases b<;>cases c<;>first
   |exact Tx.t8 x p q l (hn rfl)
   |exact Tx.t8 x p q r (hn rfl)
   |rfl
abbrev TE:=Tx V
def TE.sub(t:TE)(e:af):Prop:=∀k v,Tx.get (path k) t=some v->e.get k=some v
def TE.put(t:TE)(d:Option Nat)(v:V):TE:=Option.rec t (fun k=>Tx.put v (path k) t) d
def TE.m6{t:TE}{e:af}(h:t.sub e)(d:Option Nat)(v:V):(TE.put t d v).sub (e.put d v):=by
 cases d with
 |none=>exact h
 |some k=>
  intro j w hj;simp only[af.put,af.get];by_cases hk:k=j
  .subst hk;rw[ai rfl];have:=hj.symm.trans (Tx.t9 v (path k) t);exact this.symm
  .rw[aj hk];exact h j w ((Tx.t8 v (path k) (path j) t (fun hp=>hk (Dc hp))).symm.trans hj)
structure TS where
 len:Nat
 tr:Tx Ob
def Ob.sk:Ob->Ob
 |.loop i=>.loop ⟨i.st,i.pend,[],.skip,.skip,[],0⟩
 |o=>o
def uS{S:St}{l sz wr:Nat}{xs:List V}(h:(S[l]?).map Ob.sk=some (.arr xs sz wr)):S[l]?=some (.arr xs sz wr):=by
 cases ho:S[l]? with
 |none=>rw[ho]at h;cases h
 |some o=>rw[ho]at h;cases o<;>simp only[dM,Ob.sk,Option.some.injEq,reduceCtorEq]at h;rw[h]
def zR{S:St}{l ck:Nat}{es:List (V×V)}{bs:List Nat}(h:(S[l]?).map Ob.sk=some (.map es bs ck)):S[l]?=some (.map es bs ck):=by
 cases ho:S[l]? with
 |none=>rw[ho]at h;cases h
 |some o=>rw[ho]at h;cases o<;>simp only[dM,Ob.sk,Option.some.injEq,reduceCtorEq]at h;rw[h]
def YY{S:St}{l lm since last:Nat}{seen:List Nat}(h:(S[l]?).map Ob.sk=some (.iter lm since seen last)):S[l]?=some (.iter lm since seen last):=by
 cases ho:S[l]? with
 |none=>rw[ho]at h;cases h
 |some o=>rw[ho]at h;cases o<;>simp only[dM,Ob.sk,Option.some.injEq,reduceCtorEq]at h;rw[h]
def uT{S:St}{l:Nat}{i:LI}(h:(S[l]?).map Ob.sk=some (.loop i)):∃j,S[l]?=some (.loop j)/\j.st=i.st/\j.pend=i.pend:=by
 cases ho:S[l]? with
 |none=>rw[ho]at h;cases h
 |some o=>
  rw[ho]at h;cases o<;>simp only[dM,Ob.sk,Option.some.injEq,reduceCtorEq,Ob.loop.injEq]at h;exact⟨_,rfl,by rw[<-h],by rw[<-h]⟩
def TS.bO(t:TS)(S:St):Prop:=S.length=t.len/\∀l,l<t.len->t.tr.get (path l)=(S[l]?).map Ob.sk
def TS.get(t:TS)(l:Nat)(c:Ob->Bool):Bool:=Bool.rec false (Option.rec false c (t.tr.get (path l))) (Nat.ble (Nat.succ l) t.len)
def TS.iJ{t:TS}{S:St}{l:Nat}{c:Ob->Bool}(h:t.bO S)(hc:t.get l c=true):∃o,(S[l]?).map Ob.sk=some o/\c o=true:=by
 unfold TS.get at hc
 cases hb:Nat.ble (Nat.succ l) t.len with
 |false=>rw[hb]at hc;cases hc
 |true=>
  rw[hb]at hc;have hlt:l<t.len:=kn hb
  cases hg:t.tr.get (path l) with
  |none=>rw[hg]at hc;cases hc
  |some o=>rw[hg]at hc;exact⟨o,(h.2 l hlt).symm.trans hg,hc⟩
def TS.set(t:TS)(l:Nat)(o:Ob):TS:=⟨t.len,t.tr.put o (path l)⟩
def TS.qn{t:TS}{S:St}{l:Nat}{o o' o1:Ob}(h:t.bO S)(hl:S[l]?=some o')(hk:o1.sk=o):(t.set l o).bO (S.set l o1):=by
 subst hk;have hlt:l<S.length:=(aT.1 hl).1;refine⟨by simp[TS.set,h.1],fun j hj=>?_⟩;simp only[TS.set]at hj |-;by_cases hk:l=j
 .subst hk;rw[Tx.t9,bJ hlt];rfl
 .rw[Tx.t8 _ _ _ _ (fun hp=>hk (Dc hp)),bC hk];exact h.2 j hj
def kr(m:Nat)(c:Nat->Bool):Bool:=Nat.rec (c 0) (fun k _=>c (Nat.succ k)) m
def pT(m:Nat)(c:Nat->Bool):kr m c=c m:=by cases m<;>rfl
def TS.push(t:TS)(o:Ob):TS:=⟨Nat.succ t.len,t.tr.put o (path t.len)⟩
def TS.L1{t:TS}{S:St}{o o1:Ob}(h:t.bO S)(hk:o1.sk=o):(t.push o).bO (S++[o1]):=by
 subst hk;refine⟨by simp[TS.push,h.1],fun j hj=>?_⟩;simp only[TS.push]at hj |-;by_cases hk:t.len=j
 .subst hk;rw[Tx.t9,<-h.1];simp
 .rw[Tx.t8 _ _ _ _ (fun hp=>hk (Dc hp)),h.2 j oM,b8 (by rw[h.1];omega)]
def TS.uQ{t:TS}{S:St}{l:Nat}{o o':Ob}(h:t.bO S)(hl:S[l]?=some o')(hk:o.sk=o:=by rfl):(t.set l o).bO (S.set l o):=TS.qn h hl hk
def TS.zH{t:TS}{S:St}{o:Ob}(h:t.bO S)(hk:o.sk=o:=by rfl):(t.push o).bO (S++[o]):=TS.L1 h hk
def lS(v:V):Nat:=fG v.cells
def rm(v:V):lS v=v.size:=lI _
def yN(l:List V):Bool:=pO V.flat l
def BD(l:List V):yN l=l.all V.flat:=tK _ _
def Jh(a:List UInt8):List UInt8->Bool:=List.rec (motive:=fun _=>List UInt8->Bool) (fun b=>List.rec true (fun _ _ _=>false) b) (fun x _ ih b=>List.rec false (fun y ys _=>Bool.rec false (ih ys) (Nat.beq x.toNat y.toNat)) b) a
def Z9(x y:UInt8):Nat.beq x.toNat y.toNat=(x==y):=by
 rw[dq];simp;exact⟨fun h=>UInt8.toNat_inj.1 h,fun h=>by rw[h]⟩
def Ji:∀(a b:List UInt8),Jh a b=(a==b)
 |[],[]=>rfl
 |[],_::_=>rfl
 |_::_,[]=>rfl
 |x::xs,y::ys=>by
  show(Bool.rec false (Jh xs ys) (Nat.beq x.toNat y.toNat):Bool)=_;rw[Ji xs ys,Z9];rw[List.cons_beq_cons];cases (x==y)<;>rfl
def qo(a b:Bz):Bool:=Jh a.data.toList b.data.toList
def Z8(bs:Bz):∀(k i:Nat) (r:List UInt8),bs.size-i<=k->ByteArray.toList.loop bs i r=r.reverse++bs.data.toList.drop i
 |k,i,r,hk=>by
  unfold ByteArray.toList.loop;split
  .rename_i hi
   cases k with
   |zero=>omega
   |succ k=>
    rw[Z8 bs k (i+1) _ oM];have hi':i<bs.data.toList.length:=by simpa using hi
    rw[EI,cO,rF hi'];congr 1;simp only[List.singleton_append,List.cons.injEq,and_true];have hi2:i<bs.data.size:=hi;show bs.data[i]! =bs.data.toList[i];rw[getElem!_pos bs.data i hi2];simp
  .rename_i hi;rw[yh (by simpa using Nat.le_of_not_lt hi)];simp
def uU(bs:Bz):bs.toList=bs.data.toList:=by
 unfold ByteArray.toList;rw[Z8 bs _ 0 [] bL];simp
def qcr(a b:Bz):(a.data.toList==b.data.toList)=sO a b:=by
 unfold sO;rw[uU,uU]
def ZU(a b:Bz):qo a b=sO a b:=by unfold qo;rw[Ji,qcr]
end Go.Proofs.YtbifpocccfkhhaaGreatDoor
end
