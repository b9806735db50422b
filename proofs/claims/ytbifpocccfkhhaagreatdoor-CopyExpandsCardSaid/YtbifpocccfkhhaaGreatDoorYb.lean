/- A part. -/
import Derived.Test.YtbifpocccfkhhaaGreatDoorYa
import Derived.MapFrom
import Derived.Laws.MakeOwn
import Derived.Laws.BytesString
import Derived.Maps.RangeRun
import Derived.Deep.LoopGhost
import Derived.OrdersIn
set_option linter.all false
namespace Go.Proofs.YtbifpocccfkhhaaGreatDoor
open Go
inductive jG where
 |str
 |int (k:IntKind)
 deriving DecidableEq,Inhabited
def sF:jG->V->V->Option Bool
 |.str,.str a,.str b=>some (a.data.toList==b.data.toList)
 |.int k,.int j a,.int j' b=>if j=k/\j'=k then some (a==b) else none
 |_,_,_=>none
def mD(kd:jG)(k:V):List (V×V)->Nat->Option (Option (Nat×V))
 |[],_=>some none
 |(k',v)::es,i=>match sF kd k k' with
  |some true=>some (some (i,v))
  |some false=>mD kd k es (i+1)
  |none=>none
def vr(P:aG)(t:cC):Option jG:=
 match P.underlying t with
 |some .string=>some .str
 |some (.int k)=>some (.int k)
 |_=>none
def zC(kd:jG):V->Bool
 |.str _=>kd==.str
 |.int k _=>kd==.int k
 |_=>false
def HF(E:En)(es:List (V×V))(l:List MapEntry):Prop:=es.length=l.length/\∀(i:Nat) (k v:V) (e:MapEntry),es[i]?=some (k,v)->l[i]?=some e->VR E k e.key/\VR E v e.val
def qgD{E:En}{P:aG}{kd:jG}{t:cC}{d:TypeDesc}(ht:vr P t=some kd)(hd:P.underlying t=some d){x y:V}{u v:Value}{b:Bool}(hx:VR E x u)(hy:VR E y v)(h:sF kd x y=some b):
  Instr.sameNow d u v=some b/\MapKept.IsKey d u:=by
 unfold vr at ht;rw[hd]at ht;split at ht<;>simp only[Option.some.injEq,reduceCtorEq]at ht<;>rename_i he<;>cases he<;>subst ht
 .cases hx<;>cases hy<;>simp only[sF,reduceCtorEq,Option.some.injEq]at h;rename_i a b';refine⟨?_,trivial⟩;simp only[Instr.sameNow,Option.some.injEq];rw[<-h,eR,MapKept.bytes_beq];obtain⟨x⟩:=a;obtain⟨y⟩:=b';simp
 .cases hx<;>cases hy<;>simp only[sF,reduceCtorEq]at h;split at h<;>cases h;rename_i hk;obtain⟨rfl,rfl⟩:=hk;exact⟨by simp[Instr.sameNow],rfl⟩
def XZ{E:En}{P:aG}{kd:jG}{t:cC}{d:TypeDesc}(ht:vr P t=some kd)(hd:P.underlying t=some d){x:V}{u:Value}(hx:VR E x u)(h:zC kd x=true):MapKept.IsKey d u:=by
 unfold vr at ht;rw[hd]at ht;split at ht<;>simp only[Option.some.injEq,reduceCtorEq]at ht<;>rename_i he<;>cases he<;>subst ht
 .cases hx<;>simp[zC]at h;trivial
 .cases hx<;>simp[zC]at h;exact h.symm
def GP{E:En}{P:aG}{kd:jG}{t:cC}{d:TypeDesc}(ht:vr P t=some kd)(hd:P.underlying t=some d){x:V}{u:Value}(hx:VR E x u):∀(es:List (V×V)) (l:List MapEntry) (i:Nat) (r:Option (Nat×V)),HF E es l->mD kd x es i=some r->
  (r=none/\Instr.findNow d u l i=some none)\/∃j v e,r=some (i+j,v)/\Instr.findNow d u l i=some (some (i+j,e.val))/\VR E v e.val/\l[j]?=some e/\VR E x e.key/\j<es.length/\Instr.sameNow d u e.key=some true
 |[],l,i,r,hr,h=>by
  have:l=[]:=KE (by have:=hr.1;simp at this;omega);subst this;simp only[mD,Option.some.injEq]at h;exact .inl ⟨h.symm,rfl⟩
 |(k,v)::es,l,i,r,hr,h=>by
  match l,hr with
  |[],hr=>exact absurd hr.1 sM
  |e::l,hr=>
   obtain⟨h1,h2⟩:=hr.2 0 k v e rfl rfl;simp only[mD]at h;split at h
   .rename_i hk;obtain⟨s1,s2⟩:=qgD ht hd hx h1 hk;cases h;refine .inr ⟨0,v,e,rfl,by simp[Instr.findNow,s1],h2,rfl,?_,sM,s1⟩;unfold vr at ht;rw[hd]at ht;split at ht<;>simp only[Option.some.injEq,reduceCtorEq]at ht<;>rename_i he<;>cases he<;>subst ht
    .cases hx<;>generalize hek:e.key=ek at *<;>cases h1<;>simp only[sF,reduceCtorEq,Option.some.injEq]at hk;rename_i a b;obtain⟨x⟩:=a;obtain⟨y⟩:=b;simp at hk;subst hk;exact .str _
    .cases hx<;>generalize hek:e.key=ek at *<;>cases h1<;>simp only[sF,reduceCtorEq]at hk;split at hk
     .rename_i iK;obtain⟨rfl,rfl⟩:=iK;simp at hk;subst hk;exact .int _ _
     .cases hk
   .rename_i hk;obtain⟨s1,s2⟩:=qgD ht hd hx h1 hk;have jx:HF E es l:=⟨by have:=hr.1;simp at this;exact this,λj k' v' e' hj fg=>hr.2 (j+1) k' v' e' (by simpa using hj) (by simpa using fg)⟩;rcases GP ht hd hx es l (i+1) r jx h with ⟨g1,g2⟩|⟨j,v',e',g1,g2,g3,g4,g5,g6,g7⟩
    .exact .inl ⟨g1,by simp[Instr.findNow,s1,g2]⟩
    .refine .inr ⟨j+1,v',e',by rw[g1];simp;omega,by simp only[Instr.findNow,s1,g2];simp;omega,g3,by simpa using g4,g5,by simp;omega,g7⟩
   .cases h
def DZ(S:St):V->Option (List (V×V))
 |.dI=>some []
 |.map l=>match S[l]? with
  |some (.map es _ _)=>some es
  |_=>none
 |_=>none
def sJ(S:St)(kd:jG)(z:V)(ok:Bool)(x k:V):Option V:=
 if zC kd k=true then match DZ S x with
  |some es=>match mD kd k es 0 with
   |some (some (_,v))=>some (if ok then .aV [v,.bool true] else v)
   |some none=>some (if ok then .aV [z,.bool false] else z)
   |none=>none
  |none=>none
 else none
def vy(P:aG)(t:cC):Option (jG×TypeId×TypeId):=
 match P.underlying t with
 |some (.map k e)=>(vr P k).map λkd=>(kd,k,e)
 |_=>none
def qwh{E:En}{S:St}{P:aG}{w:aP}{x k r z:V}{u ku:Value}{t kt et:cC}{kd:jG}{ok:Bool}{i:TypeInfo}{zv:Value}(hs:SR E S w)(ht:vy P t=some (kd,kt,et))(hi:P.info? et=some i)(hz:i.zero=some zv)(Ns:VR E z zv)(hx:VR E x u)(hk:VR E k ku)(h:sJ S kd z ok x k=some r):
  dw P E S w (Instr.lookup t u ku ok) r S:=by
 unfold vy at ht;split at ht<;>try cases ht
 rename_i k' e' hu
 cases iK:vr P k' with
 |none=>rw[iK]at ht;cases ht
 |some kd'=>
  rw[iK]at ht;simp only[fG,Option.some.injEq,Prod.mk.injEq]at ht;obtain⟨rfl,rfl,rfl⟩:=ht
  have hd:∃d,P.underlying k'=some d:=by
   unfold vr at iK
   cases hd:P.underlying k' with
   |none=>rw[hd]at iK;cases iK
   |some d=>exact⟨d,rfl⟩
  obtain⟨d,hd⟩:=hd;unfold sJ at h;split at h
  case isFalse=>cases h
  rename_i Du;have I3:=XZ iK hd hk Du;split at h<;>try cases h
  rename_i es qc
  have uU:∃l:Array MapEntry,HF E es l.toList/\((u=.map none/\l=#[])\/∃b clock,u=.map (some b)/\w.heap[b]?=some (.map l clock)):=by
   cases hx<;>simp only[DZ,reduceCtorEq,Option.some.injEq]at qc
   .subst qc;exact⟨#[],⟨rfl,λi k v e h=>by simp at h⟩,.inl ⟨rfl,rfl⟩⟩
   .rename_i l y hy;split at qc<;>cases qc;rename_i hl;obtain⟨y',entries,h1,h2,h3,_,h4⟩:=hs.fJ l _ hl;rw[hy]at h1;cases h1;exact⟨entries,⟨by simpa using h3,λi k v e hk he=>h4 i k v e hk (by simpa using he)⟩,.inr ⟨_,_,rfl,h2⟩⟩
  obtain⟨l,hl,QV⟩:=uU;have zl:(Instr.checkKey l.isEmpty 10000 k' ku).run P w=.ok () w:=MapKept.run_checkKey hd I3 _ _;split at h<;>try cases h
  .rename_i j v hf;rcases GP iK hd hk es l.toList 0 _ hl hf with ⟨g1,_⟩|⟨j',v',e,g1,g2,g3,_⟩
   .cases g1
   .simp only[Option.some.injEq,Prod.mk.injEq]at g1;obtain⟨rfl,rfl⟩:=g1;have se:=MapKept.run_findKey (P:=P) (w:=w) hd g2;refine⟨if ok then .tuple #[e.val,.bool true] else e.val,E,w,?_,?_,hs,bT.refl _ _ _ _,dl _⟩
    .rcases QV with ⟨rfl,rfl⟩|⟨b,clock,rfl,hb⟩
     .simp only[Instr.lookup,Sem.run_bind,fj hu,Result.andThen,Sem.run_pure,zl,se]
     .simp only[Instr.lookup,Sem.run_bind,fj hu,Result.andThen,MapKept.run_getObj_map hb,Sem.run_pure,zl,se]
    .cases ok
     .exact g3
     .refine .aV rfl λi v u hv hu=>?_
      match i with
      |0=>simp at hv hu;subst hv;subst hu;exact g3
      |1=>simp at hv hu;subst hv;subst hu;exact .bool _
      |i+2=>simp at hv
  .rename_i hf;rcases GP iK hd hk es l.toList 0 _ hl hf with ⟨_,g2⟩|⟨j',v',e,g1,_⟩
   .have se:=MapKept.run_findKey (P:=P) (w:=w) hd g2;refine⟨if ok then .tuple #[zv,.bool false] else zv,E,w,?_,?_,hs,bT.refl _ _ _ _,dl _⟩
    .rcases QV with ⟨rfl,rfl⟩|⟨b,clock,rfl,hb⟩
     .simp only[Instr.lookup,Sem.run_bind,fj hu,Result.andThen,Sem.run_pure,zl,se,yI hi hz]
     .simp only[Instr.lookup,Sem.run_bind,fj hu,Result.andThen,MapKept.run_getObj_map hb,Sem.run_pure,zl,se,yI hi hz]
    .cases ok
     .exact Ns
     .refine .aV rfl λi v u hv hu=>?_
      match i with
      |0=>simp at hv hu;subst hv;subst hu;exact Ns
      |1=>simp at hv hu;subst hv;subst hu;exact .bool _
      |i+2=>simp at hv
   .cases g1
def qwi{E:En}{S:St}{P:aG}{w:aP}{t:cC}(hs:SR E S w):dw P E S w (Instr.makeMap t none) (.map S.length) (S++[.map [] [] 0]):=by
 have cB:∀st,E.ρ S.length st=none:=λst=>by
  cases hr:E.ρ S.length st with
  |none=>rfl
  |some x=>exact absurd (hs.jI _ _ _ hr) oM
 obtain⟨n1,n2⟩:=hs.new (o:=.map #[] 0) (ob:=.map [] [] 0) (st:=0) (N:=0) (sz:=0) ⟨⟨w.heap.size,0,0⟩,#[],ml,G3,rfl,rfl,λi k v e h=>by simp at h⟩;refine⟨.map (some w.heap.size),_,_,?_,?_,n1,n2,sM⟩
 .simp[Instr.makeMap,newObj,Sem.run,Result.andThen]
 .exact VR.map (x:=⟨w.heap.size,0,0⟩) ml
def og(S:St)(kd:jG)(x k v:V):Option St:=
 if zC kd k=true then match x with
  |.map l=>match S[l]? with
   |some (.map es bs ck)=>match mD kd k es 0 with
    |some (some (i,_))=>some (S.set l (.map (es.set i (k,v)) bs ck))
    |some none=>some (S.set l (.map (es++[(k,v)]) (bs++[ck]) (ck+1)))
    |none=>none
   |_=>none
  |_=>none
 else none
def qj6{E:En}{S S':St}{P:aG}{w:aP}{x k v:V}{u ku vu:Value}{t kt et:cC}{kd:jG}(hs:SR E S w)(ht:vy P t=some (kd,kt,et))(hx:VR E x u)(hk:VR E k ku)(hv:VR E v vu)(h:og S kd x k v=some S'):
    ∃E' w',(Instr.mapUpdate t u ku vu).run P w=.ok () w'/\SR E' S' w'/\bT S.length E S w E' S' w'/\S.length<=S'.length:=by
  unfold vy at ht;split at ht<;>try cases ht
  rename_i k' e' hu
  cases iK:vr P k' with
  |none=>rw[iK]at ht;cases ht
  |some kd'=>
    rw[iK]at ht;simp only[fG,Option.some.injEq,Prod.mk.injEq]at ht;obtain⟨rfl,rfl,rfl⟩:=ht
    have hd:∃d,P.underlying k'=some d:=by
      unfold vr at iK
      cases hd:P.underlying k' with
      |none=>rw[hd]at iK;cases iK
      |some d=>exact⟨d,rfl⟩
    obtain⟨d,hd⟩:=hd;unfold og at h;split at h
    case isFalse=>cases h
    rename_i Du;have I3:=XZ iK hd hk Du;split at h<;>try cases h
    rename_i l;split at h<;>try cases h
    rename_i es bs clock hl
    cases hx with
    |map hy=>
      rename_i y;obtain⟨y',entries,h1,hb,h3,jZ,h4⟩:=hs.fJ l _ hl;rw[hy]at h1;cases h1;have gX:gQ S l:=⟨_,hl,sM⟩;have uU:HF E es entries.toList:=⟨by simpa using h3,λi k v e hk he=>h4 i k v e hk (by simpa using he)⟩;have zl:(Instr.checkKey false 10000 k' ku).run P w=.ok () w:=MapKept.run_checkKey hd I3 _ _;have put:∀(es':List (V×V)) (fA:List Nat) (Ik:Array MapEntry) (H7:Nat),HF E es' Ik.toList->fA=Ik.toList.map (·.born)->
          ∃E' w',w'={ w with heap:=w.heap.setIfInBounds y.b (.map Ik H7) }/\SR E' (S.set l (.map es' fA H7)) w'/\bT S.length E S w E' (S.set l (.map es' fA H7)) w':=by
        intro es' fA Ik H7 he qqk;have aB:y.b<w.heap.size:=(kQ.1 hb).1;have:=hs.change (E':=E) (w':={ w with heap:=w.heap.setIfInBounds y.b (.map Ik H7) }) (ob:=.map es' fA H7) gX rfl (En.le_refl E) (λ_ _ _=>rfl) (λst z hz=>.inl ⟨st,z,hz,rfl⟩) sM
          (λb kE bZ=>by
            show(w.heap.setIfInBounds y.b _)[b]?=_;rw[uk (bZ 0 y hy)]) rfl ⟨y,Ik,hy,by simp[aB],by simpa using he.1,qqk,λi k v e hk uT=>he.2 i k v e hk (by simpa using uT)⟩
        exact⟨E,_,rfl,this.1,this.2⟩
      split at h<;>try cases h
      · rename_i i v0 hf;rcases GP iK hd hk es entries.toList 0 _ uU hf with ⟨g1,_⟩|⟨j,v',e,g1,g2,g3,g4,g5,g6,g7⟩
        · cases g1
        · simp only[Option.some.injEq,Prod.mk.injEq,mg]at g1;obtain⟨rfl,rfl⟩:=g1
          have qqU:e.key=ku:=by
            have hx:=g5;cases hk<;>cases qqV:kd'<;>simp[zC,qqV]at Du<;>(generalize e.key=q at hx;cases hx;rfl)
          have Dt:entries[i]?=some e:=by simpa using g4
          have se:=MapKept.run_findKey (P:=P) (w:=w) hd g2
          obtain ⟨E',w',rfl,q1,q2⟩:=put (es.set i (k,v)) bs (entries.modify i λe=>{ e with key:=ku,val:=vu }) clock ⟨by simp[h3],λj' k2 v2 e2 eU FV=>by
            have qb:(entries.modify i λe=>{ e with key:=ku,val:=vu })[j']?=some e2:=by rw[<-Ko];exact FV
            rw[EN]at qb;by_cases hj:i=j'
            · subst hj;rw[bO g6]at eU;cases eU;rw[ak rfl,Dt]at qb;cases qb;exact⟨hk,hv⟩
            · rw[bG hj]at eU;rw[au hj]at qb
              exact h4 j' k2 v2 e2 eU qb⟩ (by
            rw[jZ];apply vV;intro q;simp only[dS,Ko,EN];split
            · cases entries[q]?<;>rfl
            · rfl)
          refine⟨E',_,?_,q1,q2,sM⟩;simp[Instr.mapUpdate,fj hu,MapKept.run_getObj_map hb,zl,se,Dt,qqU,MapKept.run_keyThatStays I3,MapKept.run_setObj_map _ hb,Result.andThen]
      · rename_i hf;rcases GP iK hd hk es entries.toList 0 _ uU hf with ⟨_,g2⟩|⟨j',v',e,g1,_⟩
        · have se:=MapKept.run_findKey (P:=P) (w:=w) hd g2
          obtain ⟨E',w',rfl,q1,q2⟩:=put (es++[(k,v)]) (bs++[clock]) (entries.push { key:=ku,val:=vu,born:=clock }) (clock+1) ⟨by simp[h3],λj' k2 v2 e2 eU FV=>by
            have qb:(entries.push { key:=ku,val:=vu,born:=clock })[j']?=some e2:=by rw[<-Ko];exact FV
            rw[xA]at qb;by_cases hj:j'=entries.size
            · rw[ak hj]at qb;cases qb;rw[cx oM,show j'-es.length=0 by omega]at eU;simp at eU;obtain⟨rfl,rfl⟩:=eU;exact⟨hk,hv⟩
            · rw[au hj]at qb;have:=(kQ.1 qb).1;rw[dh oM]at eU;exact h4 j' k2 v2 e2 eU qb⟩ (by rw[jZ];simp)
          refine⟨E',_,?_,q1,q2,sM⟩;simp[Instr.mapUpdate,fj hu,MapKept.run_getObj_map hb,zl,se,MapKept.run_setObj_map _ hb,Result.andThen]
        · cases g1
inductive CK where
 |b|i| s
 deriving DecidableEq,Inhabited
def uL:CK->V->V->Option Bool
 |.b,.bool a,.bool b=>some (a==b)
 |.i,.int k a,.int k' b=>if k=k' then some (a==b) else none
 |.s,.str a,.str b=>some (a.data.toList==b.data.toList)
 |_,_,_=>none
def jJ(xs ys:List V):List (Nat×CK)->Option Bool
 |[]=>some true
 |(o,c)::os=>match xs[o]?,ys[o]? with
  |some a,some b=>match uL c a b with
   |some true=>jJ xs ys os
   |some false=>some false
   |none=>none
  |_,_=>none
def shift(off:Nat)(p:Nat×CK):Nat×CK:=(p.1+off,p.2)
def Lh(P:aG)(g:TypeId->Option (List (Nat×CK)))(size:Nat):List Field->Option (List (Nat×CK))
 |[]=>some []
 | f :: fs => if f.name = "_" then none else match oc P f.type, g f.type, Lh P g size fs with
  |some k,some os,some es=>match k with
   |none=>if f.offset+1<=size/\os.all (λo=>decide (o.1<1))=true then some (os.map (shift f.offset)++es) else none
   |some n=>if f.offset+n<=size/\os.all (λo=>decide (o.1<n))=true then some (os.map (shift f.offset)++es) else none
  |_,_,_=>none
def zf(P:aG):Nat->TypeId->Option (List (Nat×CK))
 |0,_=>none
 |d+1,t=>match P.underlying t with
  |some .bool=>some [(0,.b)]
  |some (.int _)=>some [(0,.i)]
  |some .string=>some [(0,.s)]
  |some (.struct fs)=>if P.stoodInHeld t=true then none else match P.info? t with
   |some i=>Lh P (zf P d) i.size fs.toList
   |none=>none
  |_=>none
def Vz{xs ys:List V}:∀{a b:List (Nat×CK)},jJ xs ys (a++b)=match jJ xs ys a with
  |some true=>jJ xs ys b
  |r=>r
 |[],b=>rfl
 |(o,c)::a,b=>by
  simp only[dR,jJ];split
  .split
   .exact Vz
   .rfl
   .rfl
  .rfl
def qeo{xs ys xs' ys':List V}{off:Nat}:∀{os:List (Nat×CK)},(∀o,o∈os->xs[o.1+off]?=xs'[o.1]?/\ys[o.1+off]?=ys'[o.1]?)->jJ xs ys (os.map (shift off))=jJ xs' ys' os
 |[],_=>rfl
 |(o,c)::os,h=>by
  obtain⟨h1,h2⟩:=h (o,c) sM;simp only[cQ,jJ,shift,h1,h2];rw[qeo (os:=os) λo ho=>h o (by simp[ho])]
def qta{P:aG}{t:cC}{n:Nat}(h:oc P t=some (some n)):∃i,P.info? t=some i/\i.size=n:=by
 unfold oc at h;split at h
 .cases hi:P.info? t with
  |none=>rw[hi]at h;cases h
  |some i=>rw[hi]at h;cases h;exact⟨i,rfl,rfl⟩
 .cases hi:P.info? t with
  |none=>rw[hi]at h;cases h
  |some i=>rw[hi]at h;cases h;exact⟨i,rfl,rfl⟩
 .cases h
 .cases h
def qnp{P:aG}{t:cC}{d:Nat}{os:List (Nat×CK)}(hk:oc P t=some none)(h:zf P d t=some os):(∃c,os=[(0,c)])/\∀fs,P.underlying t≠some (.struct fs):=by
 cases d with
 |zero=>cases h
 |succ d=>
  simp only[zf]at h;split at h
  .rename_i hd;cases h;exact⟨⟨_,rfl⟩,λfs=>by rw[hd];simp⟩
  .rename_i hd;cases h;exact⟨⟨_,rfl⟩,λfs=>by rw[hd];simp⟩
  .rename_i hd;cases h;exact⟨⟨_,rfl⟩,λfs=>by rw[hd];simp⟩
  .rename_i fs hd;exfalso;simp only[oc,hd]at hk;cases hi:P.info? t<;>rw[hi]at hk<;>cases hk
  .cases h
def qno{P:aG}{t:cC}{d n:Nat}{os:List (Nat×CK)}(hk:oc P t=some (some n))(h:zf P d t=some os):∃fs,P.underlying t=some (.struct fs):=by
 cases d with
 |zero=>cases h
 |succ d=>
  simp only[zf]at h;split at h
  .rename_i hd;simp[oc,hd]at hk
  .rename_i hd;simp[oc,hd]at hk
  .rename_i hd;simp[oc,hd]at hk
  .rename_i fs hd;exact⟨fs,hd⟩
  .cases h
def uy(P:aG)(t:cC)(x:V):Prop:=match P.underlying t with
 |some (.struct _)=>x.isAgg=true/\∃i,P.info? t=some i/\x.cells.length=i.size
 |_=>x.isAgg=false
def CQ{x:V}(h:x.isAgg=false):x.cells=[x]:=by
 cases x<;>first|rfl|simp[V.isAgg]at h
def qhy{x:V}{off n:Nat}(ha:x.isAgg=true)(hle:off+n<=x.cells.length):∃r,x.part off (some n)=some r/\r.isAgg=true/\r.cells.length=n/\∀o,o<n->x.cells[o+off]?=r.cells[o]?:=by
 cases x<;>simp[V.isAgg]at ha;rename_i cs;simp only[V.cells]at hle;simp only[V.part];split
 .rename_i h;obtain⟨rfl,rfl,_⟩:=h;exact⟨_,rfl,rfl,rfl,λo _=>rfl⟩
 .refine⟨_,rfl,rfl,by simp[V.cells];omega,λo ho=>?_⟩;simp only[V.cells];rw[qx ho,qw,Nat.add_comm]
def qoe{E:En}{P:aG}{w:aP}:∀(d:Nat) (t:cC) (os:List (Nat×CK)) (x y:V) (u v:Value) (b:Bool),zf P d t=some os->VR E x u->VR E y v->uy P t x->uy P t y->jJ x.cells y.cells os=some b->(Op.equalIn d t u v).run P w=.ok b w:=by
 intro d
 induction d with
 |zero=>intro t os x y u v b hc;cases hc
 |succ d ih=>
  intro t os x y u v b hc hx hy fx fy h;simp only[zf]at hc;split at hc<;>try cases hc
  .rename_i hd;simp only[uy,hd]at fx fy;rw[CQ fx,CQ fy]at h;simp only[jJ,EZ]at h;cases hx<;>cases hy<;>simp[uL]at h;simp only[Op.equalIn,Sem.run_bind,fj hd,Result.andThen,Sem.run_pure];rename_i p q;cases p<;>cases q<;>simp at h<;>subst h<;>rfl
  .rename_i k hd;simp only[uy,hd]at fx fy;rw[CQ fx,CQ fy]at h;simp only[jJ,EZ]at h;cases hx<;>cases hy<;>simp[uL]at h;rename_i k1 p k2 q;simp only[Op.equalIn,Sem.run_bind,fj hd,Result.andThen];by_cases hk:k1=k2
   .subst hk;simp at h;simp only[if_true,Sem.run_pure];by_cases I9:p=q
    .subst I9;simp at h;subst h;simp
    .have:(p==q)=false:=by simpa using I9
     rw[this]at h |-;simp at h;subst h;rfl
   .simp[hk]at h
  .rename_i hd;simp only[uy,hd]at fx fy;rw[CQ fx,CQ fy]at h;simp only[jJ,EZ]at h;cases hx<;>cases hy<;>simp only[uL,reduceCtorEq]at h<;>try (cases h;done)
   rename_i p q;simp only[Op.equalIn,Sem.run_bind,fj hd,Result.andThen,Sem.run_pure]
   have I9:(p==q)=(p.data.toList==q.data.toList):=by
    rw[eR,MapKept.bytes_beq];obtain⟨x⟩:=p;obtain⟨y⟩:=q;simp
   rw[I9];cases hb:(p.data.toList==q.data.toList)<;>rw[hb]at h<;>simp at h<;>subst h<;>rfl
  .rename_i fs hd;split at hc
   .cases hc
   rename_i hs;split at hc<;>try cases hc
   rename_i i hi;simp only[uy,hd]at fx fy;obtain⟨ax,ix,A1,lx⟩:=fx;obtain⟨ay,iy,hiy,ly⟩:=fy;rw[hi]at A1 hiy;cases A1;cases hiy;obtain⟨cs,rfl⟩:∃cs,x=.agg cs:=by cases x<;>simp[V.isAgg]at ax;exact⟨_,rfl⟩
   obtain⟨ds,rfl⟩:∃cs,y=.agg cs:=by cases y<;>simp[V.isAgg]at ay;exact⟨_,rfl⟩
   cases hx with
   |agg hl g=>
    rename_i us
    cases hy with
    |agg cj g'=>
     rename_i vs;have hx:VR E (.agg cs) (.agg us):=.agg hl g;have hy:VR E (.agg ds) (.agg vs):=.agg cj g';simp only[V.cells]at h lx ly;have qq1:∀(l:List Field) (os:List (Nat×CK)) (b:Bool),Lh P (zf P d) i.size l=some os->jJ cs ds os=some b->
       (forIn (m:=Sem) l ((none,()):Option Bool×Unit) λf __s=>
        if f.name ≠ "_" then do
         let __do_lift <-part f.type us f.offset
         let qma <-part f.type vs f.offset
         let __do_lift <-Op.equalIn d f.type __do_lift qma
         if(!__do_lift)=true then pure (ForInStep.done (some false,()))
          else pure (ForInStep.yield (none,()))
        else pure (ForInStep.yield (none,()))).run P w=.ok (if b then none else some false,()) w:=by
      intro l
      induction l with
      |nil=>
       intro os b hc h;simp only[Lh,Option.some.injEq]at hc;subst hc;simp only[jJ,Option.some.injEq]at h;subst h;simp
      |cons f l ihl=>
       intro os b hc h;simp only[Lh]at hc;split at hc
       .cases hc
       rename_i MS;split at hc<;>try cases hc
       rename_i k os1 es hk hg qc;have Xc:∃n px py,os1.all (λo=>decide (o.1<n))=true/\os=os1.map (shift f.offset)++es/\(V.agg cs).part f.offset k=some px/\(V.agg ds).part f.offset k=some py/\uy P f.type px/\uy P f.type py/\
         (∀o,o<n->cs[o+f.offset]?=px.cells[o]?)/\(∀o,o<n->ds[o+f.offset]?=py.cells[o]?):=by
        cases k with
        |none=>
         simp only at hc;split at hc<;>cases hc;rename_i im;obtain⟨hle,dq⟩:=im;obtain⟨⟨c,rfl⟩,I7⟩:=qnp hk hg;rw[Vz]at h;simp only[cQ,nK,shift,jJ,mg]at h;have h1:cs[f.offset]?=some (cs[f.offset]'oM):=sM;have h2:ds[f.offset]?=some (ds[f.offset]'oM):=sM;rw[h1,h2]at h;simp only at h
         have QI:∀(c:CK) (p q:V),p.isAgg=true\/q.isAgg=true->uL c p q=none:=by
          intro c p q I9;cases c<;>cases p<;>cases q<;>first|rfl|simp[V.isAgg]at I9
         have sd:∀p:V,p.isAgg=false->uy P f.type p:=λp hp=>by
          unfold uy;split
          .rename_i fs' kG;exact absurd kG (I7 fs')
          .exact hp
         refine⟨1,cs[f.offset]'oM,ds[f.offset]'oM,dq,rfl,h1,h2,sd _ ?_,sd _ ?_,λo ho=>?_,λo ho=>?_⟩
         .cases ha:(cs[f.offset]'oM).isAgg with
          |false=>rfl
          |true=>rw[QI c _ _ (.inl ha)]at h;cases h
         .cases ha:(ds[f.offset]'oM).isAgg with
          |false=>rfl
          |true=>rw[QI c _ _ (.inr ha)]at h;cases h
         .have:o=0:=oM;subst this;rw[mg,h1,CQ]
          .rfl
          .cases ha:(cs[f.offset]'oM).isAgg with
           |false=>rfl
           |true=>rw[QI c _ _ (.inl ha)]at h;cases h
         .have:o=0:=oM;subst this;rw[mg,h2,CQ]
          .rfl
          .cases ha:(ds[f.offset]'oM).isAgg with
           |false=>rfl
           |true=>rw[QI c _ _ (.inr ha)]at h;cases h
        |some n=>
         simp only at hc;split at hc<;>cases hc;rename_i im;obtain⟨hle,dq⟩:=im;obtain⟨px,p1,p2,p3,p4⟩:=qhy (x:=.agg cs) (off:=f.offset) (n:=n) rfl (by simp only[V.cells];omega);obtain⟨py,q1,q2,q3,q4⟩:=qhy (x:=.agg ds) (off:=f.offset) (n:=n) rfl (by simp only[V.cells];omega);refine⟨n,px,py,dq,rfl,p1,q1,?_,?_,p4,q4⟩
         all_goals
          obtain⟨fs',kG⟩:=qno hk hg
          obtain⟨i',eI,oN⟩:=qta hk
          simp only[uy,kG]
         .exact⟨p2,i',eI,oM⟩
         .exact⟨q2,i',eI,oM⟩
       obtain⟨n,px,py,dq,rfl,p1,p2,p3,p4,p5,p6⟩:=Xc;obtain⟨pu,r1,r2⟩:=SI (P:=P) (w:=w) hk hx sM p1;obtain⟨pv,s1,s2⟩:=SI (P:=P) (w:=w) hk hy sM p2;simp only[fR,dT]at dq;rw[Vz,qeo (xs':=px.cells) (ys':=py.cells) λo ho=>⟨p5 o.1 (dq o ho),p6 o.1 (dq o ho)⟩]at h;simp only[List.forIn_cons,ne_eq,MS,not_false_eq_true,if_true,Sem.run_bind,r1,s1,Result.andThen]
       cases he:jJ px.cells py.cells os1 with
       |none=>rw[he]at h;cases h
       |some bb=>
        rw[he]at h;have fN:=ih f.type os1 px py pu pv bb hg r2 s2 p3 p4 he;simp only[fN]
        cases bb with
        |true=>
         simp only at h;simp only[Bool.not_true,mf,if_false,Sem.run_pure];exact ihl es b qc h
        |false=>
         simp only[Option.some.injEq]at h;subst h;simp only[Ks,if_true,Sem.run_pure,mf,if_false]
     have:=qq1 fs.toList os b hc h;simp only[Op.equalIn,Sem.run_bind,fj hd,Result.andThen,run_program,hs,mf,if_false];rw[<-Array.forIn_toList,this];cases b<;>rfl
def Jw(S:St)(sz bytes:Nat)(z:V)(l c:Int):Option (V×St):=
 if 0<=l/\l<=c/\(bytes:Int)*c<=281474976710656/\c<=9223372036854775807/\0<sz/\z.size=sz/\(z.cells.all V.flat)=true then
  some (.arr S.length 0 l.toNat l.toNat,S++[.arr (List.replicate l.toNat z) sz l.toNat])
 else none
def qwj{E:En}{S S':St}{P:aG}{w:aP}{z r:V}{t e:cC}{i:TypeInfo}{zv:Value}{kl kc:IntKind}{l c:Int}(hs:SR E S w)(ht:P.underlying t=some (.slice e))(hi:P.info? e=some i)(hz:i.zero=some zv)(Ns:VR E z zv)(h:Jw S i.size i.bytes z l c=some (r,S')):
  dw P E S w (Instr.makeSlice t (.int kl l) (.int kc c)) r S':=by
 unfold Jw at h;split at h
 case isFalse=>cases h
 rename_i hc;obtain⟨h1,h2,h3,h4,h5,h6,h7⟩:=hc;simp only[Option.some.injEq,Prod.mk.injEq]at h;obtain⟨rfl,rfl⟩:=h;have fN:=run_make (P:=P) w t e i zv ht hi hz kl kc l c h1 h2 h3 h4
 have cB:∀st,E.ρ S.length st=none:=λst=>by
  cases hr:E.ρ S.length st with
  |none=>rfl
  |some x=>exact absurd (hs.jI _ _ _ hr) oM
 obtain⟨c1,c2⟩:=Ns.cells (uO h7);have hlc:l.toNat<=c.toNat:=oM
 obtain ⟨n1,n2⟩:=hs.new (o:=.cells (madeCells zv.cells (c.toNat * i.size)) e (0,0)) (ob:=.arr (List.replicate l.toNat z) i.size l.toNat) (st:=l.toNat) (N:=c.toNat * i.size) (sz:=i.size) (by
  refine⟨⟨h5,sM⟩,λv hv=>?_,λst y hy bg=>?_⟩
  .rw[List.mem_replicate]at hv;rw[hv.2];exact h6
  .by_cases bw:st=l.toNat
   .subst bw;rw[ml]at hy;cases hy;refine⟨sM,rfl,_,e,G3,size_madeCells _ _,vY _ hlc,λj v hv hj q c' j0=>?_⟩;have eV:=dZ hv;rw[List.mem_replicate]at eV;obtain⟨_,rfl⟩:=eV;have hq:q<i.size:=by rw[<-h6];exact(br.1 j0).1
    obtain⟨d,hd,wP⟩:=Ns.P3 (uO h7) j0
    have aB:j*i.size+q<c.toNat*i.size:=by
     have:(j+1)*i.size<=c.toNat*i.size:=vY _ oM;rw[jH]at this;omega
    refine⟨d,?_,wP.mono (xR (cB _))⟩;have bF:zv.cells.size=i.size:=by rw[<-c1];exact h6
    simp only[madeCells,Ci];rw[Array.getElem?_range,ak aB];simp only[fG,bF];have hqs:=(kQ.1 hd);obtain⟨rn,oP⟩:=hqs;rw[show(j*i.size+q)%i.size=q by rw[Nat.mul_comm,Nat.mul_add_mod,KQ hq],getElem!_pos zv.cells q rn,oP]
   .exfalso;simp only[En.at]at hy;rw[au (by simp;exact bw),cB]at hy;cases hy)
 refine⟨_,_,_,fN,?_,n1,n2,sM⟩;have:=VR.arr (E:=E.at S.length l.toNat ⟨w.heap.size,c.toNat*i.size,i.size⟩) (l:=S.length) (off:=0) (len:=l.toNat) (cap:=c.toNat) (st:=l.toNat) ml sM hlc;simpa using this
def Ro(len sz:Nat)(p:V)(ix:Int):Option V:=if 0<=ix/\ix<len then AD p (ix.toNat*sz) else none
def UF(P:aG)(t:cC):Option (Nat×Nat):=
 match P.underlying t with
 |some (.array n e)=>match P.info? e with
  |some i=>if i.size=0 then none else some (n,i.size)
  |none=>none
 |_=>none
def qwe{E:En}{S:St}{P:aG}{w:aP}{p r:V}{u:Value}{t:cC}{k:IntKind}{n sz:Nat}{ix:Int}(hs:SR E S w)(hp:VR E p u)(ho:UF P t=some (n,sz))(h:Ro n sz p ix=some r):
  dw P E S w (Instr.indexAt t u (.int k ix)) r S:=by
 unfold Ro at h;split at h
 case isFalse=>cases h
 rename_i A1;obtain⟨b,o,rfl,hr⟩:=hp.fa h;unfold UF at ho;split at ho<;>try cases ho
 rename_i n' e hu;split at ho<;>try cases ho
 rename_i i hi;split at ho<;>cases ho;rename_i hz;refine dw.pure hs ?_ hr;simp[Instr.indexAt,asIntOf,fj hu,Result.andThen,Instr.sureAddr,A1.1,A1.2,rF hi,wm]
def bytesOf:List V->Option (List UInt8)
 |[]=>some []
 |.int .u8 n::xs=>(bytesOf xs).map λbs=>UInt8.ofNat n.toNat::bs
 |_=>none
def H9(S:St)(p:V):Option V:=
 (elems S p).bind λxs=>(bytesOf xs).map λbs=>.str ⟨bs.toArray⟩
def qdH:∀{xs:List V} {bs:List UInt8},bytesOf xs=some bs->∃ns:List Int,xs=ns.map (V.int .u8)/\bs=ns.map λn=>UInt8.ofNat n.toNat
 |[],bs,h=>by cases h;exact⟨[],rfl,rfl⟩
 |x::xs,bs,h=>by
  unfold bytesOf at h;split at h
  .rename_i he;cases he
  .rename_i n xs' he;cases he
   cases hb:bytesOf xs with
   |none=>rw[hb]at h;cases h
   |some fA=>
    rw[hb]at h;cases h;obtain⟨ns,h1,h2⟩:=qdH hb;exact⟨n::ns,by rw[h1];rfl,by rw[h2];rfl⟩
  .cases h
def qjp:∀(ns:List Int) (r:Bz),ns.foldl (λr n=>r.push (UInt8.ofNat n.toNat)) r=⟨r.data++(ns.map λn=>UInt8.ofNat n.toNat).toArray⟩
 |[],r=>by cases r;simp
 |n::ns,r=>by
  rw[uD,qjp ns];simp[ByteArray.push]
def qpg(ns:List Int):jK (ns.map (V.int .u8))=ns.map (V.int .u8):=by
 induction ns with
 |nil=>rfl
 |cons n ns ih=>simp only[jK,cQ,nl]at *;rw[ih];rfl
def qv5{E:En}{S:St}{P:aG}{w:aP}{p r:V}{u:Value}{src dst e:cC}(hs:SR E S w)(hp:VR E p u)(h1:P.underlying src=some (.slice e))(h2:P.underlying e=some (.int .u8))(h3:P.underlying dst=some .string)(h:H9 S p=some r):
  dw P E S w (convert src dst u) r S:=by
 unfold H9 at h
 cases pz:elems S p with
 |none=>rw[pz]at h;cases h
 |some xs=>
  rw[pz]at h;simp only[gG]at h
  cases hb:bytesOf xs with
  |none=>rw[hb]at h;cases h
  |some bs=>
   rw[hb]at h;cases h;obtain⟨ns,rfl,rfl⟩:=qdH hb
   obtain ⟨a,cap,us,rfl,fN,dH⟩:=G8 (P:=P) (sz:=1) hs hp pz (λx hx=>by
    simp only[cY]at hx;obtain⟨n,_,rfl⟩:=hx;rfl) oM
   rw[qpg]at dH
   have mQ:us=(ns.map (Value.int .u8)).toArray:=by
    cases dH with
    |agg hl g=>
     apply Array.ext
     .simpa using hl.symm
     .intro i hi1 tt;have hi:i<ns.length:=by simpa using tt
      have hq:=g i (.int .u8 ns[i]) us[i] (by simp[hi]) sM;have:∀(n:Int) (q:Value),VR E (.int .u8 n) q->q=.int .u8 n:=by intro n q h;cases h;rfl
      rw[this _ _ hq];simp
   refine dw.pure hs ?_ (.str _);rw[run_convert_bytes_string w src dst e a _ cap h1 h2 h3]
   cases a with
   |none=>
    simp only[Builtin.firstCells,Sem.run_pure,Result.ok.injEq]at fN
    have:ns=[]:=by
     have h0:=fN.1;rw[mQ]at h0
     cases ns with
     |nil=>rfl
     |cons n ns=>simp at h0
    subst this;simp[Conv.bytesToString];rfl
   |some a=>
    simp only[Builtin.firstCells]at fN;have:=run_bytesToString (P:=P) w a (ns.map (V.int .u8)).length cap ns (by rw[<-mQ];simpa using fN);rw[this,qjp];simp
def SR.lay'{E:En}{S:St}{w w':aP}(h:SR E S w){cells:Array Value}{t:cC}{fz:Nat×Nat}(g1:w'.heap.size=w.heap.size+1)(g2:w'.heap[w.heap.size]?=some (.cells cells t fz))(g3:∀b,b<w.heap.size->w'.heap[b]?=w.heap[b]?)(g4:(w'.output,w'.os)=(w.output,w.os)):
  SR (E.lay w.heap.size cells) S w'/\E.le (E.lay w.heap.size cells)/\bT S.length E S w (E.lay w.heap.size cells) S w':=by
 have cB:∀o,E.I w.heap.size o=none:=λo=>by
  cases hc:E.I w.heap.size o with
  |none=>rfl
  |some c=>exact absurd (wE (h.I _ _ _ hc)) oM
 have hle:E.le (E.lay w.heap.size cells):=⟨λb o c hc=>by
  by_cases hb:b=w.heap.size
  .subst hb;rw[cB]at hc;cases hc
  .simp[En.lay,hb];exact hc,λ_ _ _ h=>h⟩
 refine⟨⟨h.gl.kL hle.1 (λb _ _ _ hb _=>g3 b (FW hb)),?_,?_,h.jI,?_,?_,h.inj⟩,hle,⟨oM,hle.1,λ_ _ _ _ hx=>hx,λ_ _ hx=>hx,λb hb=>.inl hb,?_,λb hb _=>g3 b hb,g4⟩⟩
 .intro b o c hc;by_cases hb:b=w.heap.size
  .subst hb;simp only[En.lay,if_true]at hc;unfold World.cell?;rw[g2];simpa using hc
  .simp only[En.lay,hb,if_false]at hc;have:=h.I b o c hc;rw[zd (g3 b (wE this))];exact this
 .intro l o hl;by_cases hd:o=.dead
  .subst hd;trivial
  exact(h.fJ l o hl).mono hle (λ_ _ hx=>hx) (λbc x hx=>g3 _ (h.lt _ ⟨l,bc,x,⟨o,hl,hd⟩,hx,rfl⟩))
 .intro b o hb;have h1:=h.lt b hb;simp only[En.lay];rw[au oM];exact h.apart b o hb
 .intro b hb;have:=h.lt b hb;omega
 .intro b o c hc;by_cases hb:b=w.heap.size
  .exact .inr (.inr oM)
  .simp only[En.lay,hb,if_false]at hc;exact .inl hc
def Vo(s:Bz):V:=.sl false (s.data.toList.map λb=>.int .u8 b.toNat)
def qv4{E:En}{S:St}{P:aG}{w:aP}{s:Bz}{src dst e:cC}(hs:SR E S w)(h0:P.underlying src=some .string)(h1:P.underlying dst=some (.slice e))(h2:P.underlying e=some (.int .u8)):dw P E S w (convert src dst (.string s)) (Vo s) S:=by
 let q:=Question.appendCap s.size 0 e
 let cap:=q.cut (w.tape w.drawn q)
 have iJ:s.size<=cap:=by simp[cap,q,Question.cut]
 let cells:Array Value:=s.data.map (λb=>Value.int .u8 (b.toNat:Nat))++Array.replicate (cap-s.size) (.int .u8 0)
 let w1:World:={ w with drawn:=w.drawn+1 }
 let w2:World:={ w1 with heap:=w1.heap.push (.cells cells e (0,0)) }
 let w3:World:=w2.freeze { block:=w.heap.size,off:=cells.size } 1
 have rj:(choose q).run P w=.ok cap w1:=by
  simp[choose,Sem.run,Question.forced,cap,q,w1]
 have fN:(convert src dst (.string s)).run P w=.ok (.slice (some ⟨w.heap.size,0,none⟩) s.size cap) w3:=by
  simp only[convert,Sem.run_bind,fj h0,fj h1,fj h2,Result.andThen,Conv.stringToBytes];rw[show(choose (.appendCap s.size 0 e)).run P w=.ok cap w1 from rj];simp only[G9]
  have hsh:w2.shape? w.heap.size=some (e,cells.size):=by
   simp[World.shape?,w2,w1]
  simp only[markStringish,Sem.run_bind,shape,Sem.run];rw[show({ w1 with heap:=w1.heap.push (.cells cells e (0,0)) }:aP)=w2 from rfl,show w1.heap.size=w.heap.size from rfl,hsh];simp only[Result.andThen,freeze,Sem.run,Sem.run_pure];rfl
 have hw3:w3.heap.size=w.heap.size+1/\(∃fz,w3.heap[w.heap.size]?=some (.cells cells e fz))/\(∀b,b<w.heap.size->w3.heap[b]?=w.heap[b]?)/\(w3.output,w3.os)=(w.output,w.os):=by
  refine⟨?_,?_,λb hb=>?_,?_⟩
  .simp[w3,World.freeze,w2,w1]
  .refine⟨(cells.size,cells.size+1),?_⟩;simp only[w3,World.freeze,w2,w1];rw[au (by decide)];simp only[];rw[EN,ak rfl,xA,ak rfl];rfl
  .simp only[w3,World.freeze,w2,w1,EN];rw[au (by decide)];simp only[];rw[EN,au oM,xA,au oM]
  .simp only[w3,World.freeze];rw[au (by decide)]
 obtain⟨g1,⟨fz,g2⟩,g3,g4⟩:=hw3;obtain⟨r1,r2,r3⟩:=hs.lay' (cells:=cells) (t:=e) (fz:=fz) g1 g2 g3 g4;refine⟨_,_,w3,fN,?_,r1,r3,dl _⟩
 have lK:∀(j:Nat) (b:UInt8),s.data.toList[j]?=some b->cells[j]?=some (.int .u8 (b.toNat:Nat)):=λj b hj=>by
  have aB:j<s.data.size:=by simpa using(br.1 hj).1
  simp only[cells];rw[Cf (by simpa using aB),Ci];have:s.data[j]?=some b:=by rw[<-Ko];exact hj
  rw[this];rfl
 have hI:∀(j:Nat) (b:UInt8),s.data.toList[j]?=some b->(E.lay w.heap.size cells).I w.heap.size j=some (.int .u8 ((b.toNat:Nat):Int)):=λj b hj=>by
  simp only[En.lay,if_true];rw[lK j b hj]
 have hlen:s.size=(s.data.toList.map λb=>V.int .u8 (b.toNat:Nat)).length:=by rw[bQ];rfl
 rw[hlen];refine VR.sl (b:=w.heap.size) (o:=0) (sz:=1) (by rw[<-hlen];exact iJ) (λh=>by cases h) (λv hv=>?_) (λi j hi hj=>?_) (λi v j c' c hv hc hi=>?_)
 .simp only[cY]at hv;obtain⟨b,_,rfl⟩:=hv;rfl
 .have:j=0:=oM;subst this;have eI:i<s.data.toList.length:=by simpa using hi
  rw[mg,Nat.mul_one,Ar,hI i (s.data.toList[i]) (bX eI)];rfl
 .simp only[dS,ep]at hv;obtain⟨b,hb,rfl⟩:=hv
  have hj:j=0:=by
   have:=(br.1 hc).1;simp[V.cells]at this;exact this
  subst hj;simp[V.cells]at hc;subst hc;rw[mg,Nat.mul_one,Ar,hI i b hb]at hi;cases hi;exact .int _ _
def SR.UW{E:En}{S:St}{w:aP}(h:SR E S w){l:Nat}{o ob:Ob}{x:qq}{b:Obj}(hl:S[l]?=some o)(hd:o≠.dead)(hx:E.ρ l 0=some x)(aB:x.b<w.heap.size)
  (hn:OR E { w with heap:=w.heap.setIfInBounds x.b b } l ob):SR E (S.set l ob) { w with heap:=w.heap.setIfInBounds x.b b }/\bT S.length E S w E (S.set l ob) { w with heap:=w.heap.setIfInBounds x.b b }:=by
 refine h.change (E':=E) (w':={ w with heap:=w.heap.setIfInBounds x.b b }) ⟨o,hl,hd⟩ rfl (En.le_refl E) (λ_ _ _=>rfl) (λst z hz=>.inl ⟨st,z,hz,rfl⟩) sM (λb' kE bZ=>?_) rfl hn;show(w.heap.setIfInBounds x.b _)[b']?=_;rw[uk (bZ 0 x hx)]
def Bv(S:St)(x:V):Option (V×St):=
 match x with
 |.map lm=>match S[lm]? with
  |some (.map _ _ ck)=>some (.ptr S.length 0 0 0,S++[.iter lm ck [] ck])
  |_=>none
 |_=>none
def qwl{E:En}{S S':St}{P:aG}{w:aP}{x r:V}{u:Value}{t:cC}{q:jG×TypeId×TypeId}(hs:SR E S w)(ht:vy P t=some q)(hx:VR E x u)(h:Bv S x=some (r,S')):
  dw P E S w (Instr.range t u) r S':=by
 unfold vy at ht;split at ht<;>try cases ht
 rename_i k' e' hu;unfold Bv at h;split at h<;>try cases h
 rename_i lm;split at h<;>try cases h
 rename_i es bs ck hl
 cases hx with
 |map hy=>
  rename_i y;obtain⟨y',entries,h1,hb,_⟩:=hs.fJ lm _ hl;rw[hy]at h1;cases h1;have aB:lm<S.length:=(br.1 hl).1
  have cB:E.ρ S.length 0=none:=by
   cases hr:E.ρ S.length 0 with
   |none=>rfl
   |some z=>exact absurd (hs.jI _ _ _ hr) oM
  have zy:(E.at S.length 0 ⟨w.heap.size,0,0⟩).ρ lm 0=some y:=(xR cB).2 _ _ _ hy;obtain⟨n1,n2⟩:=hs.new (o:=.mapIter (some y.b) ck #[] ck) (ob:=.iter lm ck [] ck) (st:=0) (N:=0) (sz:=0) ⟨⟨w.heap.size,0,0⟩,y,ml,zy,G3⟩;refine⟨.pointer (some ⟨w.heap.size,0,none⟩),_,_,?_,?_,n1,n2,sM⟩
  .simp[Instr.range,fj hu,MapKept.run_getObj_map hb,newObj,Sem.run,Result.andThen]
  .have:=VR.ptr (E:=E.at S.length 0 ⟨w.heap.size,0,0⟩) (l:=S.length) (st:=0) (x:=⟨w.heap.size,0,0⟩) 0 0 ml;simpa using this
def xi(S:St)(p:V):List (V×St):=
 match p with
 |.ptr l 0 0 0=>match S[l]? with
  |some (.iter lm since seen last)=>match S[lm]? with
   |some (.map es bs ck)=>if(bs.all λb=>decide (b<since))=true/\since<=last then
     match (es.zip bs).filter λq=>!seen.contains q.2 with
     |[]=>[(.aV [.bool false],S)]
     |c::cs=>(c::cs).map λq=>(.aV [.bool true,q.1.1,q.1.2],S.set l (.iter lm since (seen++[q.2]) ck))
    else []
   |_=>[]
  |_=>[]
 |_=>[]
def qwk{E:En}{S:St}{P:aG}{w:aP}{p:V}{u:Value}{t:cC}(hs:SR E S w)(hp:VR E p u)(h:xi S p≠[]):∃q,q∈xi S p/\dw P E S w (Instr.next u false t) q.1 q.2:=by
 unfold xi at h |-;split at h<;>try exact absurd rfl h
 rename_i l;split at h<;>try exact absurd rfl h
 rename_i lm since seen last hl;split at h<;>try exact absurd rfl h
 rename_i es bs ck hm;split at h
 case isFalse=>exact absurd rfl h
 rename_i hc;rw[ak hc];obtain⟨dq,eh⟩:=hc
 cases hp with
 |ptr i off hr=>
  rename_i x;obtain⟨x',y,h1,h2,h3⟩:=hs.fJ l _ hl;rw[hr]at h1;cases h1;obtain⟨y',entries,g1,g2,g3,g4,g5⟩:=hs.fJ lm _ hm;rw[h2]at g1;cases g1;have aB:x.b<w.heap.size:=(kQ.1 h3).1
  have hold:∀e∈entries.toList,e.born<since:=λe he=>by
   simp only[fR,dT]at dq;exact dq e.born (by rw[g4];exact pS he)
  have qfE:∀e,e∈entries.toList->seen.contains e.born=false->∃k v,((k,v),e.born)∈(es.zip bs).filter (λq=>!seen.contains q.2)/\VR E k e.key/\VR E v e.val:=by
   intro e he Nb;obtain⟨j,hj⟩:=oY he;have zq:j<entries.toList.length:=(br.1 hj).1;have wT:j<es.length:=by rw[g3];simpa using zq
   have qc:es[j]?=some es[j]:=bX wT;obtain⟨a,b⟩:=g5 j es[j].1 es[j].2 e qc (by simpa using hj);refine⟨es[j].1,es[j].2,?_,a,b⟩;rw[qW];refine⟨?_,by simpa using Nb⟩;have jZ:bs[j]?=some e.born:=by rw[g4,dS,hj];rfl
   exact dZ (show(es.zip bs)[j]?=some (es[j],e.born) by rw[E3];exact⟨qc,jZ⟩)
  have DD:(leftOf entries seen.toArray).size=0↔(es.zip bs).filter (λq=>!seen.contains q.2)=[]:=by
   unfold leftOf;rw[Array.size_eq_zero_iff,Array.filter_eq_empty_iff,List.filter_eq_nil_iff];constructor
   .intro hh q hq;obtain⟨j,hj⟩:=oY hq;rw[E3]at hj;have hb:=hj.2;rw[g4,dS,ep]at hb;obtain⟨e,he,WB⟩:=hb;have:=hh e (by simpa using dZ he);rw[<-WB];simpa using this
   .intro hh e he;intro Nb;obtain⟨k,v,kH,_⟩:=qfE e (by simpa using he) (by simpa using Nb);rw[qW]at kH;exact hh _ kH.1 kH.2
  have hu:(Value.pointer (some ⟨x.b,0*x.sz+0,none⟩))=.pointer (some ⟨x.b,0,none⟩):=sM;rw[hu];rcases run_next_at (P:=P) w t x.b y.b since last seen.toArray entries ck h3 g2 hold eh with ⟨hz,fN⟩|⟨e,he,w1,Xw,fN⟩
  .rw[DD.1 hz];refine⟨_,sZ.2 rfl,_,E,w,fN,.aV rfl λi v u hv hu=>?_,hs,bT.refl _ _ _ _,dl _⟩
   match i with
   |0=>simp at hv hu;subst hv;subst hu;exact .bool _
   |i+1=>simp at hv
  .have uT:e∈entries.toList/\seen.contains e.born=false:=by
    simp only[leftOf,Array.toList_filter,qW]at he;exact⟨he.1,by simpa using he.2⟩
   obtain⟨k,v,kH,hk,hv⟩:=qfE e uT.1 uT.2;have bw:SR E S w1:=by rcases Xw with rfl|rfl<;>first|exact hs|exact hs.heap rfl
   have mT:bT S.length E S w E S w1:=by rcases Xw with rfl|rfl<;>first|exact bT.refl _ _ _ _|exact bT.heap _ rfl rfl
   have qfG:x.b<w1.heap.size:=by rcases Xw with rfl|rfl<;>exact aB
   obtain⟨s1,s2⟩:=bw.UW (ob:=.iter lm since (seen++[e.born]) ck) (b:=.mapIter (some y.b) since (seen.toArray.push e.born) ck) hl sM hr qfG ⟨x,y,hr,h2,by simp[qfG]⟩
   have hq:(V.aV [.bool true,k,v],S.set l (.iter lm since (seen++[e.born]) ck))∈(match (es.zip bs).filter λq=>!seen.contains q.2 with
     |[]=>[(V.aV [.bool false],S)]
     |c::cs=>(c::cs).map λ(q:(V×V)×Nat)=>(V.aV [.bool true,q.1.1,q.1.2],S.set l (.iter lm since (seen++[q.2]) ck))):=by
    cases hf:(es.zip bs).filter λq=>!seen.contains q.2 with
    |nil=>rw[hf]at kH;cases kH
    |cons c cs=>rw[hf]at kH;exact cY.2 ⟨_,kH,rfl⟩
   refine⟨_,hq,_,E,_,fN,?_,s1,mT.trans s2,sM⟩;refine .aV rfl λi a b ha hb=>?_
   match i with
   |0=>simp at ha hb;subst ha;subst hb;exact .bool _
   |1=>simp at ha hb;subst ha;subst hb;exact hk
   |2=>simp at ha hb;subst ha;subst hb;exact hv
   |i+3=>simp at ha
def CU(S:St)(p:V):Option V:=
 match p with
 |.ptr l 0 0 0=>match S[l]? with
  |some (.iter lm _ seen last)=>match S[lm]? with
   |some (.map es bs ck)=>if ck=last/\bs.Nodup then match seen.getLast? with
     |some b=>match (es.zip bs).find? λq=>q.2==b with
      |some q=>some (.aV [q.1.1,q.1.2])
      |none=>none
     |none=>none
    else none
   |_=>none
  |_=>none
 |_=>none
def qv7{E:En}{S:St}{P:aG}{w:aP}{p r:V}{u:Value}(hs:SR E S w)(hp:VR E p u)(h:CU S p=some r):dw P E S w (Instr.entry u) r S:=by
 unfold CU at h;split at h<;>try cases h
 rename_i l;split at h<;>try cases h
 rename_i lm since seen last hl;split at h<;>try cases h
 rename_i es bs ck hm;split at h<;>try cases h
 rename_i hc;obtain⟨rfl,DC⟩:=hc;split at h<;>try cases h
 rename_i b hb;split at h<;>try cases h
 rename_i q hq
 cases hp with
 |ptr i off hr=>
  rename_i x;obtain⟨x',y,h1,h2,h3⟩:=hs.fJ l _ hl;rw[hr]at h1;cases h1;obtain⟨y',entries,g1,g2,g3,g4,g5⟩:=hs.fJ lm _ hm;rw[h2]at g1;cases g1;have hu:(Value.pointer (some ⟨x.b,0*x.sz+0,none⟩))=.pointer (some ⟨x.b,0,none⟩):=sM;rw[hu];have hqb:q.2=b:=by simpa using List.find?_some hq
  obtain⟨j,hj⟩:=oY (KJ hq);rw[E3]at hj;have hbj:=hj.2;rw[g4,dS,ep]at hbj;obtain⟨e,he,WB⟩:=hbj;obtain⟨k1,k2⟩:=g5 j q.1.1 q.1.2 e hj.1 (by simpa using he)
  have Xm:seen.toArray=seen.dropLast.toArray.push e.born:=by
   rw[WB,hqb]
   have:seen=seen.dropLast++[b]:=by
    obtain⟨zs,rfl⟩:=List.getLast?_eq_some_iff.1 hb;simp
   conv=>lhs;rw[this]
   simp
  rw[Xm]at h3;have fN:=run_entry_at (P:=P) w x.b y.b since seen.dropLast.toArray entries ck e h3 g2 (by simpa using dZ he) (by rw[<-g4];exact DC);refine⟨_,E,w,fN,.aV rfl λi a b ha hb=>?_,hs,bT.refl _ _ _ _,dl _⟩
  match i with
  |0=>simp at ha hb;subst ha;subst hb;exact k1
  |1=>simp at ha hb;subst ha;subst hb;exact k2
  |i+2=>simp at ha
def Aw(S:St)(kd:jG)(x k:V):Option St:=
 if zC kd k=true then match x with
  |.map l=>match S[l]? with
   |some (.map es bs ck)=>match mD kd k es 0 with
    |some (some (i,_))=>some (S.set l (.map (es.eraseIdx i) (bs.eraseIdx i) ck))
    |some none=>some (S.set l (.map es bs ck))
    |none=>none
   |_=>none
  |_=>none
 else none
def qv6{E:En}{S S':St}{P:aG}{w:aP}{x k:V}{u ku:Value}{ts:Array TypeId}{T t kt et:cC}{kd:jG}(hs:SR E S w)(pG:ts[0]?=some t)(ht:vy P t=some (kd,kt,et))(hx:VR E x u)(hk:VR E k ku)(h:Aw S kd x k=some S'):
  dw P E S w (Builtin.delete_ ts T #[u,ku]) (.aV []) S':=by
 unfold vy at ht;split at ht<;>try cases ht
 rename_i k' e' hu
 cases iK:vr P k' with
 |none=>rw[iK]at ht;cases ht
 |some kd'=>
  rw[iK]at ht;simp only[fG,Option.some.injEq,Prod.mk.injEq]at ht;obtain⟨rfl,rfl,rfl⟩:=ht
  have hd:∃d,P.underlying k'=some d:=by
   unfold vr at iK
   cases hd:P.underlying k' with
   |none=>rw[hd]at iK;cases iK
   |some d=>exact⟨d,rfl⟩
  obtain⟨d,hd⟩:=hd;unfold Aw at h;split at h
  case isFalse=>cases h
  rename_i Du;have I3:=XZ iK hd hk Du;split at h<;>try cases h
  rename_i l;split at h<;>try cases h
  rename_i es bs clock hl
  cases hx with
  |map hy=>
   rename_i y;obtain⟨y',entries,h1,hb,h3,jZ,h4⟩:=hs.fJ l _ hl;rw[hy]at h1;cases h1;have uU:HF E es entries.toList:=⟨by simpa using h3,λi k v e hk he=>h4 i k v e hk (by simpa using he)⟩;have zl:∀b,(Instr.checkKey b 10000 k' ku).run P w=.ok () w:=λb=>MapKept.run_checkKey hd I3 _ _
   have aB:y.b<w.heap.size:=(kQ.1 hb).1;split at h<;>try cases h
   .rename_i i v0 hf;rcases GP iK hd hk es entries.toList 0 _ uU hf with ⟨g1,_⟩|⟨j,v',e,g1,g2,g3,g4,g5,g6,g7⟩
    .cases g1
    .simp only[Option.some.injEq,Prod.mk.injEq,mg]at g1;obtain⟨rfl,rfl⟩:=g1;have se:=MapKept.run_findKey (P:=P) (w:=w) hd g2;have pC:i<entries.size:=by rw[<-h3];exact g6
     have tq:(entries.eraseIdxIfInBounds i).toList=entries.toList.eraseIdx i:=by
      unfold Array.eraseIdxIfInBounds;rw[dif_pos pC];simp
     have bF:(entries.eraseIdxIfInBounds i).size=(entries.toList.eraseIdx i).length:=by rw[<-tq,yT]
     have qq6:∀(l:List MapEntry) (i:Nat),(l.map (·.born)).eraseIdx i=(l.eraseIdx i).map (·.born):=by
      intro l
      induction l with
      |nil=>intro i;rfl
      |cons a l ih=>
       intro i
       cases i with
       |zero=>rfl
       |succ i=>simp only[cQ,List.eraseIdx_cons_succ,ih]
     obtain ⟨s1,s2⟩:=hs.UW (ob:=.map (es.eraseIdx i) (bs.eraseIdx i) clock) (b:=.map (entries.eraseIdxIfInBounds i) clock) hl sM hy aB ⟨y,entries.eraseIdxIfInBounds i,hy,by simp[aB],by
       rw[bF,List.length_eraseIdx,List.length_eraseIdx];simp[h3],by rw[tq,jZ,qq6],λj' k2 v2 e2 eU FV=>by
       have qb:(entries.toList.eraseIdx i)[j']?=some e2:=by rw[<-tq,Ko];exact FV
       rw[List.getElem?_eraseIdx]at eU qb;split at eU<;>rename_i rl
       .rw[ak rl]at qb;exact h4 j' k2 v2 e2 eU (by simpa using qb)
       .rw[au rl]at qb;exact h4 (j'+1) k2 v2 e2 eU (by simpa using qb)⟩
     refine⟨.tuple #[],E,_,?_,.aV rfl (λi v u hv=>by simp at hv),s1,s2,sM⟩;simp[Builtin.delete_,pG,fj hu,MapKept.run_getObj_map hb,zl,se,MapKept.run_setObj_map _ hb,Result.andThen]
   .rename_i hf;rcases GP iK hd hk es entries.toList 0 _ uU hf with ⟨_,g2⟩|⟨j',v',e,g1,_⟩
    .have se:=MapKept.run_findKey (P:=P) (w:=w) hd g2;obtain⟨s1,s2⟩:=hs.UW (ob:=.map es bs clock) (b:=.map entries clock) hl sM hy aB ⟨y,entries,hy,by simp[aB],h3,jZ,h4⟩;refine⟨.tuple #[],E,_,?_,.aV rfl (λi v u hv=>by simp at hv),s1,s2,sM⟩;simp[Builtin.delete_,pG,fj hu,MapKept.run_getObj_map hb,zl,se,MapKept.run_setObj_map _ hb,Result.andThen]
    .cases g1
inductive bK where
 |t (n:Nat)
 |c (v:V)
 |f (k:FuncId)
 deriving Inhabited
def bK.ev(e:ae):bK->Option V
 |.t n=>e.get n
 |.c v=>some v
 |.f k=>some (.fn (.func k) [] [])
def OM:Value->V
 |.bool b=>.bool b
 |.int k n=>.int k n
 |.string s=>.str s
 |.pointer none=>.cu
 |.slice none 0 0=>.sl true []
 |.map none=>.dI
 |.nilFunc=>.bY
 |.nilIface=>.eB
 |_=>.hG
def yQ:Value->V
 |.agg cs=>.agg (cs.toList.map OM)
 |v=>OM v
def qk7(E:En)(v:Value):VR E (OM v) v:=by
 unfold OM;split<;>constructor
def JX(E:En)(v:Value):VR E (yQ v) v:=by
 unfold yQ;split
 .rename_i cs;refine .agg sM λi v u hv hu=>?_
  simp only[dS,ep]at hv;obtain⟨x,hx,rfl⟩:=hv;simp at hx;rw[hx]at hu;cases hu;exact qk7 E _
 .exact qk7 E _
def cw:Operand->Option bK
 |.tmp t=>some (.t t)
 |.const v=>some (.c (yQ v))
 |.func f=>some (.f f)
 |.global g=>some (.c (.dE g 0))
def dA{E:En}{e:ae}{a:Act}{o:Operand}{o':bK}{v:V}(ht:jf E e a.tmps)(hc:cw o=some o')(hv:o'.ev e=some v):VR E v (a.eval o):=by
 cases o<;>simp only[cw,Option.some.injEq,reduceCtorEq]at hc<;>subst hc
 .simp only[bK.ev]at hv;obtain⟨u,hu,hr⟩:=ht _ _ hv;simp only[Act.eval];rw[show a.tmps.getD _ undef=u by simp[hu]];exact hr
 .simp only[bK.ev,Option.some.injEq]at hv;subst hv;exact JX E _
 .simp only[bK.ev,Option.some.injEq]at hv;subst hv;exact .dE _ _
 .simp only[bK.ev,Option.some.injEq]at hv;subst hv;exact .fn rfl rfl (λi v u h=>by simp at h) (λi v u h=>by simp at h)
def bK.tmps:bK->List Nat
 |.t n=>[n]
 |_=>[]
def mr(e:ae):List bK->Option (List V)
 |[]=>some []
 |x::xs=>match x.ev e,mr e xs with
  |some v,some vs=>some (v::vs)
  |_,_=>none
def bR(e:ae):List (Nat×Nat×Nat×bK)->Option (List (Nat×Nat×Nat×V))
 |[]=>some []
 |(f,o,n,x)::ps=>match x.ev e,bR e ps with
  |some v,some vs=>some ((f,o,n,v)::vs)
  |_,_=>none
def qAG:V->Option Int
 |.int _ n=>some n
 |_=>none
def oI(e:ae):Option bK->Option (Option Int)
 |none=>some none
 |some x=>match x.ev e with
  |some (.int _ n)=>some (some n)
  |_=>none
inductive X where
 |eqs (neg:Bool) (sz:Nat) (os:List (Nat×CK)) (x y:bK)
 |eqn (neg:Bool) (x:bK)
 |GO (kd:jG) (z:V) (ok:Bool) (x k:bK)
 |yA (kd:jG) (x k v:bK)
 |Bm
 |mm (mx:Bool) (x y:bK)
 |D9 (sz bytes:Nat) (z:V) (l c:bK)
 |Rn (n sz:Nat) (x i:bK)
 |H8 (x:bK)
 |P5 (x:bK)
 |rng (x:bK)
 |qN (x:bK)
 |nQ (x:bK)
 |del (kd:jG) (x k:bK)
 |wrap (n:Nat) (x:bK)
 |Nx (len sz:Nat) (kd:Option Nat) (x i:bK)
 deriving Inhabited
def zJ(mx:Bool):V->V->Option V
 |.int k a,.int _ b=>some (.int k (if mx then(if b > a then b else a) else(if b<a then b else a)))
 |_,_=>none
def bI(e:ae)(S:St):X->Option (V×St)
 |.eqs neg sz os x y=>match x.ev e,y.ev e with
  |some (.agg cs),some (.agg ds)=>if cs.length=sz/\ds.length=sz then(jJ cs ds os).map λb=>(.bool (if neg then !b else b),S) else none
  |_,_=>none
 |.eqn neg x=>match x.ev e with
  |some (.sl _ (_::_))=>some (.bool neg,S)
  |some (.arr ..)=>some (.bool neg,S)
  |_=>none
 |.GO kd z ok x k=>match x.ev e,k.ev e with
  |some m,some key=>(sJ S kd z ok m key).map λr=>(r,S)
  |_,_=>none
 |.yA kd x k v=>match x.ev e,k.ev e,v.ev e with
  |some m,some key,some val=>(og S kd m key val).map λS'=>(.aV [],S')
  |_,_,_=>none
 |.Bm=>some (.map S.length,S++[.map [] [] 0])
 |.mm mx x y=>match x.ev e,y.ev e with
  |some u,some v=>(zJ mx u v).map λr=>(r,S)
  |_,_=>none
 |.D9 sz bytes z l c=>match l.ev e,c.ev e with
  |some (.int _ l),some (.int _ c)=>Jw S sz bytes z l c
  |_,_=>none
 |.Rn n sz x i=>match x.ev e,i.ev e with
  |some p,some (.int _ ix)=>(Ro n sz p ix).map λr=>(r,S)
  |_,_=>none
 |.H8 x=>(x.ev e).bind λp=>(H9 S p).map λr=>(r,S)
 |.P5 x=>match x.ev e with
  |some (.str s)=>some (Vo s,S)
  |_=>none
 |.rng x=>(x.ev e).bind λv=>Bv S v
 |.qN _=>none
 |.nQ x=>(x.ev e).bind λv=>(CU S v).map λr=>(r,S)
 |.del kd x k=>match x.ev e,k.ev e with
  |some m,some key=>(Aw S kd m key).map λS'=>(.aV [],S')
  |_,_=>none
 |.wrap n x=>(x.ev e).bind λv=>if v.size=n/\(v.cells.all V.flat)=true then some (.agg v.cells,S) else none
 |.Nx len sz kd x i=>match x.ev e,i.ev e with
  |some v,some (.int _ ix)=>if v.isAgg=true/\0<=ix/\ix<len then(v.part (ix.toNat*sz) kd).map λr=>(r,S) else none
  |_,_=>none
def GX(e:ae):X->List V
 |.eqn _ x=>match x.ev e with
  |some (.sl _ [])=>[.bool true,.bool false]
  |_=>[]
 |_=>[]
def X.tmps:X->List Nat
 |.eqs _ _ _ x y|.GO _ _ _ x y|.mm _ x y|.D9 _ _ _ x y|.Rn _ _ x y|.del _ x y|.Nx _ _ _ x y=>x.tmps++y.tmps
 |.eqn _ x|.H8 x|.P5 x|.rng x|.qN x|.nQ x|.wrap _ x=>x.tmps
 |.yA _ x k v=>x.tmps++k.tmps++v.tmps
 |.Bm=>[]
def X.writes:X->Bool
 |.yA ..|.Bm|.D9 ..|.rng ..|.qN ..|.del ..=>true
 |_=>false
def X.reads:X->Bool
 |.yA ..|.Bm|.GO ..|.D9 ..|.H8 ..|.rng ..|.qN ..|.nQ ..|.del ..=>true
 |_=>false
def XR:Operand->Bool
 |.const (.slice none 0 0)=>true
 |_=>false
def RA:Option TypeDesc->Bool
 |some (.int .u8)=>true
 |_=>false
def qgs{d:Option TypeDesc}(h:RA d=true):d=some (.int .u8):=by
 unfold RA at h;split at h
 .rfl
 .cases h
def wH(P:aG)(o:Oper):Option X:=
 match o.op with
 |.binOp op t x y _=>match op==.eql||op==.neq with
  |false=>none
  |true=>match P.underlying t with
   |some (.struct _)=>if P.eqGuardType P.depth t=true then none else match zf P 10000 t,P.info? t,cw x,cw y with
    |some os,some i,some x,some y=>some (.eqs (op==.neq) i.size os x y)
    |_,_,_,_=>none
   |some (.slice _)=>if XR y=true then(cw x).map (.eqn (op==.neq)) else none
   |_=>none
 |.lookup t x k ok=>match vy P t with
  |some (kd,_,et)=>match P.info? et,cw x,cw k with
   |some i,some x,some k=>i.zero.map λz=>.GO kd (yQ z) ok x k
   |_,_,_=>none
  |none=>none
 |.mapUpdate t m k x|.insert t m k x=>match vy P t,cw m,cw k,cw x with
  |some (kd,_,_),some m,some k,some x=>some (.yA kd m k x)
  |_,_,_,_=>none
 |.makeMap _ none=>some .Bm
 |.makeSlice t l c=>match P.underlying t with
  |some (.slice e)=>match P.info? e,cw l,cw c with
   |some i,some l,some c=>i.zero.map λz=>.D9 i.size i.bytes (yQ z) l c
   |_,_,_=>none
  |_=>none
 |.indexAddr t x i=>match UF P t,cw x,cw i with
  |some (n,sz),some x,some i=>some (.Rn n sz x i)
  |_,_,_=>none
 |.convert src dst x=>match P.underlying src,P.underlying dst,cw x with
  |some (.slice e),some .string,some x=>if RA (P.underlying e)=true then some (.H8 x) else none
  |some .string,some (.slice e),some x=>if RA (P.underlying e)=true then some (.P5 x) else none
  |_,_,_=>none
 |.call c=>match c.callee,c.args.toList.mapM cw with
  |.builtin .max,some [x,y]=>some (.mm true x y)
  |.builtin .min,some [x,y]=>some (.mm false x y)
  |.builtin .delete,some [x,y]=>match c.argTypes[0]? with
   |some t=>(vy P t).bind λp=>some (.del p.1 x y)
   |none=>none
  |_,_=>none
 |.range t x=>match vy P t,cw x with
  |some _,some x=>some (.rng x)
  |_,_=>none
 |.next x false=>(cw x).map .qN
 |.entry x=>(cw x).map .nQ
 |.build t ps=>match P.info? t,Ho P t with
  |some i,some l=>match i.zero with
   |some z=>match ps.toList with
    |[(j,x)]=>match l[j]?,cw x with
     |some (0,n),some x=>if z.cells.size=n then some (.wrap n x) else none
     |_,_=>none
    |_=>none
   |none=>none
  |_,_=>none
 |.index t x i=>match P.underlying t with
  |some (.array n e)=>match P.info? e,oc P e,cw x,cw i with
   |some ei,some k,some x,some i=>some (.Nx n ei.size k x i)
   |_,_,_,_=>none
  |_=>none
 |_=>none
inductive Pg where
 |bool|ptr|func
 deriving DecidableEq,Inhabited
inductive K where
 |mv (x:bK)
 |pick (c a b:bK)
 |new (z:V)
 |box (x:bK)
 |build (z:V) (ps:List (Nat×Nat×Nat×bK))
 |Fq (sz:Nat) (xs:List bK)
 |ld (k:Option Nat) (a:bK)
 |oV (n:Nat) (a x:bK)
 |GW (x:bK)
 |bin (op:BinOp) (x y:bK)
 |eq (kd:Pg) (neg:Bool) (x y:bK)
 |un (op:UnOp) (x:bK)
 |fa (off:Nat) (x:bK)
 |ia (sz:Nat) (x i:bK)
 |idx (x i:bK)
 |Iq (off:Nat) (k:Option Nat) (x:bK)
 |slc (s:Bool) (sz:Nat) (x:bK) (lo hi:Option bK)
 |ext (i:Nat) (x:bK)
 |len (s:Bool) (x:bK)
 |fq (sz bytes:Nat) (d x:bK)
 |Jv (k:FuncId) (fs cs:List bK)
 |conv (k:IntKind) (x:bK)
 |call (f:bK) (args:List bK)
 |ex (k:X)
 deriving Inhabited
def dK:V->Bool
 |.ptr ..=>true
 |.cq ..=>true
 |.fn (.func _) _ _=>true
 |_=>false
def gj:Pg->V->V->Bool
 |.bool,.bool _,.bool _=>true
 |.ptr,.cu,.cu|.ptr,.cu,.ptr ..|.ptr,.cu,.cq ..|.ptr,.ptr ..,.cu|.ptr,.cq ..,.cu=>true
 |.func,.bY,.bY|.func,.bY,.fn ..|.func,.fn ..,.bY=>true
 |_,_,_=>false
def cf(e:ae)(S:St):K->Option (V×St)
 |.mv x=>(x.ev e).map λv=>(v,S)
 |.pick c a b=>match c.ev e with
  |some (.bool t)=>((if t then a else b).ev e).map λv=>(v,S)
  |_=>none
 |.new z=>aL S z
 |.box x=>(x.ev e).bind λv=>aL S v
 |.build z ps=>(bR e ps).bind λl=>(bP z (l.map λp=>p.2)).map λv=>(v,S)
 |.Fq sz xs=>(mr e xs).bind λl=>if fits sz l=true/\l.length*sz<=2^24 then some (.sl true l,S) else none
 |.ld k a=>(a.ev e).bind λp=>(ab S p k).map λv=>(v,S)
 |.oV n a x=>match a.ev e,x.ev e with
  |some p,some v=>(aI S p n v).map λS'=>(.aV [],S')
  |_,_=>none
 |.GW x=>(x.ev e).bind λv=>if dK v=true then some (v,S) else none
 |.bin op x y=>match x.ev e,y.ev e with
  |some u,some v=>(CO op u v).map λr=>(r,S)
  |_,_=>none
 |.eq kd neg x y=>match x.ev e,y.ev e with
  |some u,some v=>if gj kd u v=true then(fH u v).map λb=>(.bool (if neg then !b else b),S) else none
  |_,_=>none
 |.un op x=>(x.ev e).bind λv=>(JW op v).map λr=>(r,S)
 |.fa off x=>(x.ev e).bind λv=>(AD v off).map λr=>(r,S)
 |.ia sz x i=>match x.ev e,i.ev e with
  |some p,some (.int _ ix)=>(gP S sz p ix).map λr=>(r,S)
  |_,_=>none
 |.idx x i=>match x.ev e,i.ev e with
  |some (.str s),some (.int _ ix)=>(yw s ix).map λr=>(r,S)
  |_,_=>none
 |.Iq off k x=>(x.ev e).bind λv=>if v.isAgg=true then(v.part off k).map λr=>(r,S) else none
 |.slc s sz x lo hi=>match x.ev e,oI e lo,oI e hi with
  |some d,some l,some h=>match s,d with
   |true,.str b=>(kO S sz (.str b) l h).map λr=>(r,S)
   |false,.sl ..|false,.arr ..=>(kO S sz d l h).map λr=>(r,S)
   |_,_=>none
  |_,_,_=>none
 |.ext i x=>match x.ev e with
  |some (.aV vs)=>(vs[i]?).map λr=>(r,S)
  |_=>none
 |.len s x=>(x.ev e).bind λv=>match s,v with
  |true,.str b=>some (.int .i64 b.size,S)
  |false,.sl _ xs=>some (.int .i64 xs.length,S)
  |false,.arr _ _ n _=>some (.int .i64 n,S)
  |_,_=>none
 |.fq sz bytes d x=>match d.ev e,x.ev e with
  |some u,some v=>fV S sz bytes u v
  |_,_=>none
 |.Jv k fs cs=>match mr e fs,mr e cs with
  |some us,some vs=>some (.fn (.func k) us vs,S)
  |_,_=>none
 |.conv k x=>match x.ev e with
  |some (.int _ n)=>some (.int k (k.wrap n),S)
  |_=>none
 |.call _ _=>none
 |.ex k=>bI e S k
def qdW(P:aG)(t:cC)(ps:List (Nat×Operand)):Option (List (Nat×Nat×Nat×bK)):=
 match Ho P t with
 |none=>none
 |some l=>ps.mapM λ(i,x)=>match l[i]?,cw x with
  |some (o,n),some y=>some (i,o,n,y)
  |_,_=>none
def Rt:Nat->List (Nat×Operand)->Bool
 |_,[]=>true
 |k,(i,_)::ps=>i==k&&Rt (k+1) ps
def Vy(P:aG)(t:cC):Option Pg:=
 match P.underlying t with
 |some .bool=>some .bool
 |some (.pointer _)=>some .ptr
 |some (.func ..)=>some .func
 |_=>none
def qsj(P:aG)(t:cC):Bool:=
 match P.underlying t with
 |some (.int _)=>true
 |some .string=>true
 |_=>false
def wG(P:aG)(o:Oper):Option K:=
 match o.op with
 |.move x|.assign x=>(cw x).map .mv
 |.pick c a b=>match cw c,cw a,cw b with
  |some c,some a,some b=>some (.pick c a b)
  |_,_,_=>none
 |.alloc t=>match P.info? t with
  |some i=>match i.zero with
   |some z=>some (.new (yQ z))
   |none=>none
  |none=>none
 |.box _ x=>(cw x).map .box
 |.build t ps=>match P.info? t with
  |some i=>match i.zero with
   |some z=>match yQ z,qdW P t ps.toList with
    |.agg cs,some l=>if(l.all λp=>!(p.2.1==0&&p.2.2.1==cs.length))=true then some (.build (.agg cs) l) else none
    |_,_=>none
   |none=>none
  |none=>none
 |.buildSlice t n ps=>match Zg P t,ps.toList.mapM λp=>cw p.2 with
  |some sz,some l=>if n=ps.size/\Rt 0 ps.toList=true then some (.Fq sz l) else none
  |_,_=>none
 |.load t a=>match oc P t,cw a with
  |some k,some a=>some (.ld k a)
  |_,_=>none
 |.store t a x=>match P.info? t,cw a,cw x with
  |some i,some a,some x=>some (.oV i.size a x)
  |_,_,_=>none
 |.nilCheck x=>(cw x).map .GW
 |.binOp op t x y _=>match cw x,cw y with
  |some x,some y=>if qsj P t=true then some (.bin op x y) else match Vy P t with
   |some kd=>match op with
    |.eql=>some (.eq kd false x y)
    |.neq=>some (.eq kd true x y)
    |_=>none
   |none=>none
  |_,_=>none
 |.unOp op _ x=>(cw x).map (.un op)
 |.convert t d x=>match P.underlying t,P.underlying d,cw x with
  |some _,some (.int k),some x=>some (.conv k x)
  |_,_,_=>none
 |.fieldAddr t x f=>match VI P t f,cw x with
  |some off,some x=>some (.fa off x)
  |_,_=>none
 |.field t x f=>match VK P t f,cw x with
  |some (off,k),some x=>some (.Iq off k x)
  |_,_=>none
 |.indexAddr t x i=>match FD P t,cw x,cw i with
  |some sz,some x,some i=>some (.ia sz x i)
  |_,_,_=>none
 |.index t x i=>match P.underlying t,cw x,cw i with
  |some .string,some x,some i=>some (.idx x i)
  |_,_,_=>none
 |.slice t x lo hi none=>match cw x,(match lo with|none=>some none|some y=>(cw y).map some),(match hi with|none=>some none|some y=>(cw y).map some) with
  |some x,some lo,some hi=>match P.underlying t with
   |some .string=>some (.slc true 0 x lo hi)
   |_=>match FD P t with
    |some sz=>some (.slc false sz x lo hi)
    |none=>none
  |_,_,_=>none
 |.extract x i=>(cw x).map (.ext i)
 |.makeFunc (.func k) fs cs=>match fs.toList.mapM cw,cs.toList.mapM cw with
  |some fs,some cs=>some (.Jv k fs cs)
  |_,_=>none
 |.call c=>match c.callee,c.args.toList.mapM cw with
  |.value f,some args=>(cw f).map λf=>.call f args
  |.builtin .len,some [x]=>match c.argTypes[0]? with
   |some t=>match P.underlying t with
    |some .string=>some (.len true x)
    |some (.slice _)=>some (.len false x)
    |_=>none
   |none=>none
  |.builtin .append,some [d,x]=>(K2 P c.argTypes).map λp=>.fq p.1 p.2 d x
  |_,_=>none
 |_=>none
def oH(P:aG)(o:Oper):Option K:=
 match wG P o with
 |some k=>some k
 |none=>(wH P o).map .ex
def qM(e:ae):K->List V
 |.ex k=>GX e k
 |_=>[]
def NR(E:En)(nx:Next)(r:V):Prop:=(∃u,nx=.value u/\VR E r u)\/(nx=.skip/\r=.aV [])
def s9(P:aG)(E:En)(S:St)(w:aP)(s:Sem Next)(r:V)(S':St):Prop:=
 ∃nx E' w',s.run P w=.ok nx w'/\NR E' nx r/\SR E' S' w'/\bT S.length E S w E' S' w'/\S.length<=S'.length
def dw.next{P:aG}{E:En}{S S':St}{w:aP}{s:Sem Value}{r:V}(h:dw P E S w s r S'):s9 P E S w (do Pure.pure (Next.value (<-s))) r S':=by
 obtain⟨d,E',w',h1,h2,h3⟩:=h;exact⟨.value d,E',w',by simp[h1,Result.andThen],.inl ⟨d,rfl,h2⟩,h3⟩
def s9.val{P:aG}{E:En}{S:St}{w:aP}{u:Value}{r:V}(hs:SR E S w)(h:VR E r u):s9 P E S w (Pure.pure (Next.value u)) r S:=
 ⟨.value u,E,w,rfl,.inl ⟨u,rfl,h⟩,hs,bT.refl _ _ _ _,dl _⟩
def s9.cast{P:aG}{E:En}{S S':St}{w:aP}{s s':Sem Next}{r:V}(h:s9 P E S w s r S')(e:s'=s):s9 P E S w s' r S':=by rw[e];exact h
def GN{E:En}{e:ae}{a:Act}(ht:jf E e a.tmps):∀{os:List Operand} {xs:List bK} {vs:List V},os.mapM cw=some xs->mr e xs=some vs->
  vs.length=os.length/\∀(i:Nat) (v:V) (o:Operand),vs[i]?=some v->os[i]?=some o->VR E v (a.eval o)
 |[],xs,vs,h1,h2=>by
  simp at h1;subst h1;simp only[mr]at h2;cases h2;exact⟨rfl,λi v o h=>by simp at h⟩
 |o::os,xs,vs,h1,h2=>by
  simp only[vW,wc]at h1
  cases hc:cw o with
  |none=>rw[hc]at h1;simp at h1
  |some x=>
   rw[hc]at h1
   cases hr:os.mapM cw with
   |none=>rw[hr]at h1;simp at h1
   |some xs'=>
    rw[hr]at h1;simp at h1;subst h1;simp only[mr]at h2;split at h2<;>try cases h2
    rename_i v vI hv mC;obtain⟨i1,i2⟩:=GN ht hr mC;refine⟨by simp[i1],λi v' o' h h'=>?_⟩
    cases i with
    |zero=>simp at h h';subst h;subst h';exact dA ht hc hv
    |succ i=>exact i2 i v' o' (by simpa using h) (by simpa using h')
def qhz{E:En}{P:aG}{e:ae}{a:Act}{t:cC}{l:List (Nat×Nat)}(ht:jf E e a.tmps)(hl:Ho P t=some l):∀{ps:List (Nat×Operand)} {qs:List (Nat×Nat×Nat×bK)} {vs:List (Nat×Nat×Nat×V)},
  (ps.mapM λ(i,x)=>match l[i]?,cw x with|some (o,n),some y=>some (i,o,n,y)|_,_=>none)=some qs->bR e qs=some vs->
  vs.length=ps.length/\(∀(j:Nat) (p:Nat×Nat×Nat×V) (u:Nat×Operand),vs[j]?=some p->ps[j]?=some u->p.1=u.1/\l[p.1]?=some (p.2.1,p.2.2.1)/\VR E p.2.2.2 (a.eval u.2))/\
  (∀p,p∈vs->∃q,q∈qs/\q.2.1=p.2.1/\q.2.2.1=p.2.2.1)
 |[],qs,vs,h1,h2=>by
  simp at h1;subst h1;simp only[bR]at h2;cases h2;exact⟨rfl,λj p u h=>by simp at h,λp hp=>by simp at hp⟩
 |(i,x)::ps,qs,vs,h1,h2=>by
  simp only[vW,wc]at h1
  cases hi:l[i]? with
  |none=>rw[hi]at h1;simp at h1
  |some on=>
   obtain⟨o,n⟩:=on
   cases hc:cw x with
   |none=>rw[hi,hc]at h1;simp at h1
   |some y=>
    rw[hi,hc]at h1;simp only[gG]at h1
    cases hr:(ps.mapM λ(i,x)=>match l[i]?,cw x with|some (o,n),some y=>some (i,o,n,y)|_,_=>none) with
    |none=>rw[hr]at h1;simp at h1
    |some qs'=>
     rw[hr]at h1;simp at h1;subst h1;simp only[bR]at h2;split at h2<;>try cases h2
     rename_i v vI hv mC;obtain⟨i1,i2,i3⟩:=qhz ht hl hr mC;refine⟨by simp[i1],λj p u h h'=>?_,λp hp=>?_⟩
     .cases j with
      |zero=>simp at h h';subst h;subst h';exact⟨rfl,hi,dA ht hc hv⟩
      |succ j=>exact i2 j p u (by simpa using h) (by simpa using h')
     .rcases dU.1 hp with rfl|hp
      .exact⟨_,E5,rfl,rfl⟩
      .obtain⟨q,hq,h⟩:=i3 p hp;exact⟨q,uE _ hq,h⟩
def qgj:∀{ps:List (Nat×Operand)} {k:Nat},Rt k ps=true->∀(i:Nat) (p:Nat×Operand),ps[i]?=some p->p.1=k+i
 |[],_,_,i,p,h=>by simp at h
 |(j,x)::ps,k,hr,i,p,h=>by
  simp only[Rt,cT,beq_iff_eq]at hr
  cases i with
  |zero=>simp at h;subst h;exact hr.1
  |succ i=>have:=qgj hr.2 i p (by simpa using h);omega
def qtk{ps:List (Nat×Operand)}:(ps.mapM λp=>cw p.2)=(ps.map λp=>p.2).mapM cw:=by
 induction ps with
 |nil=>rfl
 |cons p ps ih=>simp[ih]
def qn9{P:aG}{t:cC}{kd:Pg}{x y:V}(h:Vy P t=some kd)(hk:gj kd x y=true):Il P t x y=true:=by
 unfold Vy at h;split at h<;>cases h<;>rename_i hd
 all_goals (cases x<;>first|(simp[gj]at hk;done)|(cases y<;>first|(simp[gj]at hk;done)|simp[Il,hd]))
def qet{E:En}{e:ae}{a:Act}{o:Option Operand}{x:Option bK}{r:Option Int}(ht:jf E e a.tmps)(hc:(match o with|none=>some none|some y=>(cw y).map some)=some x)(h:oI e x=some r):
  ∃k:IntKind,o.map a.eval=r.map (Value.int k):=by
 cases o with
 |none=>simp at hc;subst hc;simp only[oI,Option.some.injEq]at h;subst h;exact⟨.i64,rfl⟩
 |some y=>
  simp only at hc
  cases hy:cw y with
  |none=>rw[hy]at hc;cases hc
  |some z=>
   rw[hy]at hc;cases hc;simp only[oI]at h;split at h<;>cases h;rename_i k n hz;have:=dA ht hy hz;cases hu:a.eval y<;>rw[hu]at this<;>cases this;exact⟨k,by simp[hu]⟩
def qoi{P:aG}{E:En}{e:ae}{S S':St}{a:Act}{w:aP}{o:Oper}{k:K}{r:V}(hc:wG P o=some k)(he:cf e S k=some (r,S'))(ht:jf E e a.tmps)(hs:SR E S w):
  s9 P E S w (execOp a.eval o) r S':=by
 obtain⟨dst,op,type,pos,after,guard⟩:=o;cases op<;>simp only[wG]at hc<;>try (cases hc;done)
 case move x=>
  cases hx:cw x with
  |none=>rw[hx]at hc;cases hc
  |some x'=>
   rw[hx]at hc;cases hc;simp only[cf]at he
   cases hv:x'.ev e with
   |none=>rw[hv]at he;cases he
   |some v=>rw[hv]at he;cases he;exact s9.val hs (dA ht hx hv)
 case assign x=>
  cases hx:cw x with
  |none=>rw[hx]at hc;cases hc
  |some x'=>
   rw[hx]at hc;cases hc;simp only[cf]at he
   cases hv:x'.ev e with
   |none=>rw[hv]at he;cases he
   |some v=>rw[hv]at he;cases he;exact s9.val hs (dA ht hx hv)
 case pick c x y=>
  split at hc<;>cases hc;rename_i c' x' y' h1 h2 h3;simp only[cf]at he;split at he<;>try cases he
  rename_i t hb;have jN:=dA ht h1 hb;cases hu:a.eval c<;>rw[hu]at jN<;>cases jN
  cases t with
  |true=>
   simp only[if_true]at he
   cases hv:x'.ev e with
   |none=>rw[hv]at he;cases he
   |some v=>
    rw[hv]at he;cases he;exact⟨.value (a.eval x),E,w,by simp[execOp,hu,asBool,Result.andThen],.inl ⟨_,rfl,dA ht h2 hv⟩,hs,bT.refl _ _ _ _,dl _⟩
  |false=>
   simp only[mf,if_false]at he
   cases hv:y'.ev e with
   |none=>rw[hv]at he;cases he
   |some v=>
    rw[hv]at he;cases he;exact⟨.value (a.eval y),E,w,by simp[execOp,hu,asBool,Result.andThen],.inl ⟨_,rfl,dA ht h3 hv⟩,hs,bT.refl _ _ _ _,dl _⟩
 case alloc t=>
  split at hc<;>try cases hc
  rename_i i hi;split at hc<;>cases hc;rename_i z hz;simp only[cf]at he;exact(qvZ (o:=.tuple #[]) hi hz hs (JX E z) he).next
 case box t x=>
  cases hx:cw x with
  |none=>rw[hx]at hc;cases hc
  |some x'=>
   rw[hx]at hc;cases hc;simp only[cf]at he
   cases hv:x'.ev e with
   |none=>rw[hv]at he;cases he
   |some v=>rw[hv]at he;exact(qj4 (t:=t) hs (dA ht hx hv) he).next
 case build t ps=>
  split at hc<;>try cases hc
  rename_i i hi;split at hc<;>try cases hc
  rename_i z hz;split at hc<;>try cases hc
  rename_i cs l wO hl;split at hc<;>cases hc;rename_i dq;unfold qdW at hl;split at hl<;>try cases hl
  rename_i sp yo;simp only[cf]at he
  cases lE:bR e l with
  |none=>rw[lE]at he;cases he
  |some vs=>
   rw[lE]at he;simp only[gG]at he
   cases hb:bP (.agg cs) (vs.map λp=>p.2) with
   |none=>rw[hb]at he;cases he
   |some r'=>
    rw[hb]at he;cases he;obtain⟨p1,p2,p3⟩:=qhz ht yo hl lE;have hvz:VR E (.agg cs) z:=by rw[<-wO];exact JX E z
    exact (qv3 (us:=ps.map λ(i,x)=>(i,a.eval x)) hs hi hz yo hvz rfl (by simp[p1]) (λj p u hp hu=>by
     simp only[Ci,ep]at hu;obtain⟨u',Jf,rfl⟩:=hu
     exact p2 j p u' hp (by simpa using Jf)) (λp hp=>by
     obtain⟨q,hq,h1,h2⟩:=p3 p hp;simp only[fR,CB,OY,beq_eq_false_iff_ne]at dq;have:=dq q hq;rintro⟨h3,h4⟩;rcases this with h| h
     .exact h oM
     .exact h (by rw[h2,h4];rfl)) hb).next
 case buildSlice t n ps=>
  split at hc<;>try cases hc
  rename_i sz l bF hl;split at hc<;>cases hc;rename_i hn;obtain⟨rfl,Q8⟩:=hn;simp only[cf]at he
  cases lE:mr e l with
  |none=>rw[lE]at he;cases he
  |some vs=>
   rw[lE]at he;simp only[gG]at he;split at he<;>cases he;rename_i hf;rw[qtk]at hl;obtain⟨p1,p2⟩:=GN ht hl lE;have hlen:vs.length=ps.size:=by rw[p1];simp
   have:=qv2 (P:=P) (us:=ps.map λ(i,x)=>(i,a.eval x)) hs (qwE bF) (xs:=vs) (by simp[hlen]) (λi x u hx hu=>by
    simp only[Ci,ep]at hu;obtain⟨u',Jf,rfl⟩:=hu;refine⟨?_,p2 i x u'.2 hx (by simp;exact⟨_,by simpa using Jf⟩)⟩;have:=qgj Q8 i u' (by simpa using Jf);simpa using this) hf.1 hf.2
   rw[hlen]at this;exact this.next
 case load t x=>
  split at hc<;>cases hc;rename_i k x' hk hx;simp only[cf]at he
  cases hv:x'.ev e with
  |none=>rw[hv]at he;cases he
  |some v=>
   rw[hv]at he;simp only[gG]at he
   cases hl:ab S v k with
   |none=>rw[hl]at he;cases he
   |some r'=>
    rw[hl]at he;cases he;obtain⟨d,hd,hr⟩:=qj5 (P:=P) hs (dA ht hx hv) hk hl;exact(dw.pure hs hd hr).next
 case store t x y=>
  split at hc<;>cases hc;rename_i i x' y' hi hx hy;simp only[cf]at he;split at he<;>try cases he
  rename_i p v hp hv
  cases bg:aI S p i.size v with
  |none=>rw[bg]at he;cases he
  |some S2=>
   rw[bg]at he;cases he;obtain⟨w',h1,h2,h3,h4⟩:=qwn (P:=P) hs (dA ht hx hp) (dA ht hy hv) hi bg;exact⟨.skip,E,w',by simp[execOp,h1,Result.andThen],.inr ⟨rfl,rfl⟩,h2,h3,h4⟩
 case nilCheck x=>
  cases hx:cw x with
  |none=>rw[hx]at hc;cases hc
  |some x'=>
   rw[hx]at hc;cases hc;simp only[cf]at he
   cases hv:x'.ev e with
   |none=>rw[hv]at he;cases he
   |some v=>
    rw[hv]at he;simp only[gG]at he;split at he<;>cases he;rename_i DL;have dH:=dA ht hx hv;refine⟨.value (a.eval x),E,w,?_,.inl ⟨_,rfl,dH⟩,hs,bT.refl _ _ _ _,dl _⟩;generalize hu:a.eval x=u at dH;cases dH<;>simp[dK]at DL<;>simp[execOp,hu];rename_i f fs cs us ws h1 h2 g1 g2;cases f<;>simp[dK]at DL |-
 case binOp qC t x y yt=>
  split at hc<;>try cases hc
  rename_i x' y' hx hy;split at hc
  .cases hc;simp only[cf]at he;split at he<;>try cases he
   rename_i u v hu hv
   cases hb:CO qC u v with
   |none=>rw[hb]at he;cases he
   |some r'=>
    rw[hb]at he;cases he;exact(qv1 (t:=t) (ox:=x) (oy:=y) hs (dA ht hx hu) (dA ht hy hv) hb).next
  .split at hc<;>try cases hc
   rename_i kd uW
   have key:∀neg,(qC=if neg=true then BinOp.neq else BinOp.eql)->cf e S (.eq kd neg x' y')=some (r,S')->s9 P E S w (execOp a.eval ⟨dst,.binOp qC t x y yt,type,pos,after,guard⟩) r S':=by
    intro neg gk he;simp only[cf]at he;split at he<;>try cases he
    rename_i u v hu hv;split at he<;>try cases he
    rename_i fE
    cases hb:fH u v with
    |none=>rw[hb]at he;cases he
    |some b=>
     rw[hb]at he;cases he;have:=qv8 (op:=qC) (t:=t) (ox:=x) (oy:=y) hs (dA ht hx hu) (dA ht hy hv) hb (qn9 uW fE) (by rw[gk];cases neg<;>simp);cases neg
     .subst gk;exact this.next
     .subst gk;exact this.next
   split at hc<;>cases hc
   .exact key false rfl he
   .exact key true rfl he
 case unOp uop t x=>
  cases hx:cw x with
  |none=>rw[hx]at hc;cases hc
  |some x'=>
   rw[hx]at hc;cases hc;simp only[cf]at he
   cases hv:x'.ev e with
   |none=>rw[hv]at he;cases he
   |some v=>
    rw[hv]at he;simp only[gG]at he
    cases hu:JW uop v with
    |none=>rw[hu]at he;cases he
    |some r'=>rw[hu]at he;cases he;exact(qwo hs (dA ht hx hv) hu).next
 case convert st d x=>
  split at hc<;>cases hc;rename_i k x' ht' hd hx;simp only[cf]at he;split at he<;>cases he;rename_i k' n hv;have dH:=dA ht hx hv;generalize hu:a.eval x=u at dH;cases dH;refine(dw.pure (s:=convert st d (.int k' n)) (d:=.int k (k.wrap n)) hs ?_ (.int _ _)).next.cast ?_
  .simp[convert,fj ht',fj hd,Result.andThen,Conv.intToInt]
  .simp only[execOp,hu]
 case fieldAddr t x f=>
  split at hc<;>cases hc;rename_i off x' ho hx;simp only[cf]at he
  cases hv:x'.ev e with
  |none=>rw[hv]at he;cases he
  |some v=>
   rw[hv]at he;simp only[gG]at he
   cases hf:AD v off with
   |none=>rw[hf]at he;cases he
   |some r'=>rw[hf]at he;cases he;exact(qwb hs (dA ht hx hv) ho hf).next
 case field t x f=>
  split at hc<;>cases hc;rename_i off k x' ho hx;simp only[cf]at he
  cases hv:x'.ev e with
  |none=>rw[hv]at he;cases he
  |some v=>
   rw[hv]at he;simp only[gG]at he;split at he<;>try cases he
   rename_i AU
   cases hf:v.part off k with
   |none=>rw[hf]at he;cases he
   |some r'=>rw[hf]at he;cases he;exact(qwc hs (dA ht hx hv) AU ho hf).next
 case indexAddr t x i=>
  split at hc<;>cases hc;rename_i sz x' i' bF hx hi;simp only[cf]at he;split at he<;>try cases he
  rename_i p kk ix hp A1;have dH:=dA ht hi A1;generalize hu:a.eval i=u at dH;cases dH
  cases hf:gP S sz p ix with
  |none=>rw[hf]at he;cases he
  |some r'=>
   rw[hf]at he;cases he;have:=qwd (P:=P) (k:=kk) hs (dA ht hx hp) bF hf;rw[<-hu]at this;exact this.next
 case index t x i=>
  split at hc<;>cases hc;rename_i x' i' hd hx hi;simp only[cf]at he;split at he<;>try cases he
  rename_i s kk ix hp A1;have h1:=dA ht hi A1;have h2:=dA ht hx hp;generalize hu:a.eval i=u at h1;generalize hv:a.eval x=v at h2;cases h1;cases h2
  cases hf:yw s ix with
  |none=>rw[hf]at he;cases he
  |some r'=>
   rw[hf]at he;cases he;have:=qwf (P:=P) (k:=kk) hs hd hf;rw[<-hu,<-hv]at this;exact this.next
 case slice t x lo hi mx=>
  cases mx with
  |some m=>cases hc
  |none=>
   simp only at hc;split at hc<;>try cases hc
   rename_i x' lo' eI hx oL hhi
   have key:∀(s:Bool) (sz:Nat),(s=true->P.underlying t=some .string)->(s=false->FD P t=some sz)->cf e S (.slc s sz x' lo' eI)=some (r,S')->s9 P E S w (execOp a.eval ⟨dst,.slice t x lo hi none,type,pos,after,guard⟩) r S':=by
    intro s sz h1 h2 he;simp only[cf]at he;split at he<;>try cases he
    rename_i d l h hd hl hh;obtain⟨k1,e1⟩:=qet ht oL hl;obtain⟨k2,e2⟩:=qet ht hhi hh;have wP:=dA ht hx hd;split at he<;>try cases he
    .rename_i b;generalize hu:a.eval x=u at wP;cases wP
     cases hf:kO S sz (.str b) l h with
     |none=>rw[hf]at he;cases he
     |some r'=>
      rw[hf]at he;cases he;exact(qwm (P:=P) (k:=k1) (k':=k2) hs (h1 rfl) hf).next.cast (by simp[execOp,hu,e1,e2])
    .rename_i xx xs
     cases hf:kO S sz (.sl xx xs) l h with
     |none=>rw[hf]at he;cases he
     |some r'=>
      rw[hf]at he;cases he;exact(qj7 (P:=P) (k:=k1) (k':=k2) hs (h2 rfl) wP hf (λs=>by simp)).next.cast (by simp[execOp,e1,e2])
    .rename_i al ao an ast
     cases hf:kO S sz (.arr al ao an ast) l h with
     |none=>rw[hf]at he;cases he
     |some r'=>
      rw[hf]at he;cases he;exact(qj7 (P:=P) (k:=k1) (k':=k2) hs (h2 rfl) wP hf (λs=>by simp)).next.cast (by simp[execOp,e1,e2])
   split at hc
   .rename_i hd;cases hc;exact key true 0 (λ_=>hd) (λh=>by cases h) he
   .split at hc<;>cases hc;rename_i sz bF;exact key false sz (λh=>by cases h) (λ_=>bF) he
 case extract x i=>
  cases hx:cw x with
  |none=>rw[hx]at hc;cases hc
  |some x'=>
   rw[hx]at hc;cases hc;simp only[cf]at he;split at he<;>try cases he
   rename_i vs hv
   cases hi:vs[i]? with
   |none=>rw[hi]at he;cases he
   |some r'=>rw[hi]at he;cases he;exact(qwa hs (dA ht hx hv) hi).next
 case makeFunc fn fs cs=>
  cases fn<;>try cases hc
  rename_i kf;simp only at hc;split at hc<;>cases hc;rename_i fs' pe kG wO;simp only[cf]at he;split at he<;>cases he;rename_i us vs mQ mC;obtain⟨a1,a2⟩:=GN ht kG mQ;obtain⟨b1,b2⟩:=GN ht wO mC;refine(dw.pure (d:=.func (.func kf) (fs.map a.eval) (cs.map a.eval)) hs (by simp[Instr.makeFunc]) (.fn (by simp[a1]) (by simp[b1]) (λi v u hv hu=>?_) (λi v u hv hu=>?_))).next
  .simp only[Ci,ep]at hu;obtain⟨o,ho,rfl⟩:=hu;exact a2 i v o hv (by simpa using ho)
  .simp only[Ci,ep]at hu;obtain⟨o,ho,rfl⟩:=hu;exact b2 i v o hv (by simpa using ho)
 case call c=>
  obtain⟨callee,args,argTypes⟩:=c;simp only at hc;split at hc<;>try cases hc
  .rename_i f args' rh
   cases hf:cw f with
   |none=>rw[hf]at hc;cases hc
   |some f'=>rw[hf]at hc;cases hc;cases he
  .rename_i x' rh;split at hc<;>try cases hc
   rename_i t DK
   have hx:∃x,args=#[x]/\cw x=some x':=by
    have hl:args.toList.mapM cw=some [x']:=rh
    cases Wz:args.toList with
    |nil=>rw[Wz]at hl;simp at hl
    |cons x xs=>
     rw[Wz]at hl;simp only[vW,wc]at hl
     cases lI:cw x with
     |none=>rw[lI]at hl;simp at hl
     |some y=>
      rw[lI]at hl
      cases hr:xs.mapM cw with
      |none=>rw[hr]at hl;simp at hl
      |some ys=>
       rw[hr]at hl;simp at hl;obtain⟨rfl,rfl⟩:=hl
       cases xs with
       |nil=>exact⟨x,by apply HD.1;rw[Wz],lI⟩
       |cons z zs=>
        simp only[vW,wc]at hr
        cases h1:cw z with
        |none=>rw[h1]at hr;simp at hr
        |some y1=>
         rw[h1]at hr
         cases h2:zs.mapM cw with
         |none=>rw[h2]at hr;simp at hr
         |some y2=>rw[h2]at hr;simp at hr
   obtain⟨x,rfl,hx⟩:=hx
   have run:∀u:Value,(Builtin.len_ argTypes type #[a.eval x]).run P w=.ok u w->(execOp a.eval ⟨dst,.call ⟨.builtin .len,#[x],argTypes⟩,type,pos,after,guard⟩).run P w=.ok (.value u) w:=λu hu=>by
    simp[execOp,resolve,invoke,builtin,hu,Result.andThen]
   split at hc<;>cases hc
   .rename_i hd;simp only[cf]at he
    cases hv:x'.ev e with
    |none=>rw[hv]at he;cases he
    |some v=>
     rw[hv]at he;simp only[gG]at he;split at he<;>first|contradiction|(cases he;done)|skip
     cases he;rename_i b hb;have dH:=dA ht hx hv;generalize hu:a.eval x=u at dH;cases dH;exact⟨.value (.int .i64 b.size),E,w,run _ (by simp[Builtin.len_,DK,hu,fj hd,Result.andThen,goInt]),.inl ⟨_,rfl,.int _ _⟩,hs,bT.refl _ _ _ _,dl _⟩
   .rename_i el hd;simp only[cf]at he
    cases hv:x'.ev e with
    |none=>rw[hv]at he;cases he
    |some v=>
     rw[hv]at he;simp only[gG]at he;have dH:=dA ht hx hv;split at he<;>first|contradiction|(cases he;done)|skip
     .cases he;rename_i b xs hb;generalize hu:a.eval x=u at dH;cases dH<;>exact⟨.value (.int .i64 _),E,w,run _ (by simp[Builtin.len_,DK,hu,fj hd,Result.andThen,goInt]),.inl ⟨_,rfl,.int _ _⟩,hs,bT.refl _ _ _ _,dl _⟩
     .cases he;rename_i l off n st hb;generalize hu:a.eval x=u at dH;cases dH;exact⟨.value (.int .i64 _),E,w,run _ (by simp[Builtin.len_,DK,hu,fj hd,Result.andThen,goInt]),.inl ⟨_,rfl,.int _ _⟩,hs,bT.refl _ _ _ _,dl _⟩
  .rename_i d' x' rh
   cases hp:K2 P argTypes with
   |none=>rw[hp]at hc;cases hc
   |some pr=>
    obtain⟨sz,bytes⟩:=pr;rw[hp]at hc;cases hc;simp only[cf]at he;split at he<;>try cases he
    rename_i u v hu hv;have hl:args.toList.mapM cw=some [d',x']:=rh;have lE:mr e [d',x']=some [u,v]:=by simp[mr,hu,hv]
    obtain⟨l1,l2⟩:=GN ht hl lE;have bF:args.size=2:=by simpa using l1.symm
    obtain⟨o1,o2,rfl⟩:∃o1 o2,args=#[o1,o2]:=by
     obtain⟨l⟩:=args
     match l,bF with
     |[o1,o2],_=>exact⟨o1,o2,rfl⟩
    have r1:=l2 0 u o1 rfl rfl;have r2:=l2 1 v o2 rfl rfl;obtain⟨d,E',w',h1,h2,h3⟩:=qv0 (P:=P) (T:=type) hs (qmv hp) r1 r2 he;exact⟨.value d,E',w',by simp[execOp,resolve,invoke,builtin,h1,Result.andThen],.inl ⟨d,rfl,h2⟩,h3⟩
def qv9{E:En}{S:St}{P:aG}{w:aP}{op:BinOp}{t:cC}{ox oy:Operand}{cs ds:List V}{u v:Value}{b neg:Bool}{fs:Array Field}{i:TypeInfo}{os:List (Nat×CK)}(hs:SR E S w)(hx:VR E (.agg cs) u)(hy:VR E (.agg ds) v)
  (hu:P.underlying t=some (.struct fs)) (hg:P.eqGuardType P.depth t=false) (hc:zf P 10000 t=some os) (hi:P.info? t=some i) (l1:cs.length=i.size) (l2:ds.length=i.size) (h:jJ cs ds os=some b) (ho:op=if neg=true then .neq else .eql):
  dw P E S w (do eqGuard op t ox oy u v;binOp op t u v) (.bool (if neg then !b else b)) S:=by
 have h1:(Op.equal t u v).run P w=.ok b w:=qoe 10000 t os _ _ u v b hc hx hy (by simp only[uy,hu];exact⟨rfl,i,hi,l1⟩) (by simp only[uy,hu];exact⟨rfl,i,hi,l2⟩) h
 cases hx with
 |agg _ _=>
  rename_i us _ _
  cases hy with
  |agg _ _=>
   rename_i vs _ _
   have pB:(eqGuard op t ox oy (.agg us) (.agg vs)).run P w=.ok () w:=by
    unfold eqGuard;subst ho;cases neg<;>simp[run_program,hg,Result.andThen]
   refine dw.pure hs (d:=.bool (if neg then !b else b)) ?_ (.bool _);simp only[Sem.run_bind,pB,Result.andThen];subst ho;cases neg
   .show(do pure (.bool (<-Op.equal t (.agg us) (.agg vs))):Sem Value).run P w=_;simp[h1,Result.andThen]
   .show(do pure (.bool (!(<-Op.equal t (.agg us) (.agg vs)))):Sem Value).run P w=_;simp[h1,Result.andThen]
def qvF{P:aG}{w:aP}{t el:cC}{a:Option Addr}{l c:Nat}(n:Nat)(hu:P.underlying t=some (.slice el)):(Op.equalIn (n+1) t (.slice a l c) (.slice none 0 0)).run P w=.ok a.isNone w:=by
 simp only[Op.equalIn,Sem.run_bind,fj hu,Result.andThen];cases a<;>rfl
def qvE{P:aG}{w:aP}{op:BinOp}{t el:cC}{ox oy:Operand}{a:Option Addr}{l c:Nat}{neg:Bool}(hu:P.underlying t=some (.slice el))(ho:op=if neg=true then .neq else .eql):
  (do eqGuard op t ox oy (.slice a l c) (.slice none 0 0);binOp op t (.slice a l c) (.slice none 0 0):Sem Value).run P w=.ok (.bool (if neg then !a.isNone else a.isNone)) w:=by
 have pB:(eqGuard op t ox oy (.slice a l c) (.slice none 0 0)).run P w=.ok () w:=by
  unfold eqGuard;subst ho;cases neg<;>simp
 have h1:(Op.equal t (.slice a l c) (.slice none 0 0)).run P w=.ok a.isNone w:=by
  exact qvF 9999 hu
 simp only[Sem.run_bind,pB,Result.andThen];subst ho;cases neg
 .show(do pure (.bool (<-Op.equal t (.slice a l c) (.slice none 0 0))):Sem Value).run P w=_;simp[h1,Result.andThen]
 .show(do pure (.bool (!(<-Op.equal t (.slice a l c) (.slice none 0 0)))):Sem Value).run P w=_;simp[h1,Result.andThen]
def VF{P:aG}{w:aP}{a:Act}{op:BinOp}{t el yt:cC}{x y:Operand}{ad:Option Addr}{l c:Nat}{neg:Bool}{dst:Option Tmp}{type:cC}{pos:String}{after:Array Edge}{guard:Option (Nat×Bool)}(hu:P.underlying t=some (.slice el))(ho:op=if neg=true then .neq else .eql)
  (hx:a.eval x=.slice ad l c) (hy:a.eval y=.slice none 0 0):(execOp a.eval ⟨dst,.binOp op t x y yt,type,pos,after,guard⟩).run P w=.ok (.value (.bool (if neg then !ad.isNone else ad.isNone))) w:=by
 have:=qvE (P:=P) (w:=w) (ox:=x) (oy:=y) (a:=ad) (l:=l) (c:=c) hu ho;simp only[Sem.run_bind]at this;simp only[execOp,hx,hy,Sem.run_bind];rw[this];simp only[Result.andThen,Sem.run_pure]
def qgr{a:Act}{y:Operand}(h:XR y=true):a.eval y=.slice none 0 0:=by
 unfold XR at h;split at h
 .rfl
 .cases h
def UE{args:Array Operand}{x' y':bK}(h:args.toList.mapM cw=some [x',y']):∃x y,args=#[x,y]/\cw x=some x'/\cw y=some y':=by
 cases hl:args.toList with
 |nil=>rw[hl]at h;simp at h
 |cons x xs=>
  rw[hl]at h;simp only[vW,wc]at h
  cases h1:cw x with
  |none=>rw[h1]at h;simp at h
  |some x1=>
   rw[h1]at h
   cases xs with
   |nil=>simp at h
   |cons y ys=>
    simp only[vW,wc]at h
    cases h2:cw y with
    |none=>rw[h2]at h;simp at h
    |some y1=>
     rw[h2]at h
     cases ys with
     |nil=>
      simp at h;obtain⟨rfl,rfl⟩:=h;exact⟨x,y,by apply HD.1;rw[hl],h1,h2⟩
     |cons z zs=>
      simp only[vW,wc]at h
      cases h3:cw z with
      |none=>rw[h3]at h;simp at h
      |some z1=>
       rw[h3]at h
       cases h4:zs.mapM cw with
       |none=>rw[h4]at h;simp at h
       |some q=>rw[h4]at h;simp at h
def qok{P:aG}{E:En}{e:ae}{S S':St}{a:Act}{w:aP}{o:Oper}{k:X}{r:V}(hc:wH P o=some k)(he:bI e S k=some (r,S'))(ht:jf E e a.tmps)(hs:SR E S w):
  s9 P E S w (execOp a.eval o) r S':=by
 obtain⟨dst,op,type,pos,after,guard⟩:=o;cases op<;>simp only[wH]at hc<;>try (cases hc;done)
 case binOp qC t x y yt=>
  split at hc
  .cases hc
  rename_i gk
  have MZ:∀neg,(qC==BinOp.neq)=neg->qC=if neg=true then .neq else .eql:=by
   intro neg hn;subst hn;cases qC<;>first|rfl|(simp at gk;done)|(exact absurd gk (by decide))
  split at hc<;>try cases hc
  .rename_i fs hu;split at hc
   .cases hc
   rename_i hg;split at hc<;>try cases hc
   rename_i os i x' y' wY hi hx hy;simp only[bI]at he;split at he<;>try cases he
   rename_i cs ds lR rq;split at he<;>try cases he
   rename_i hlen
   cases hb:jJ cs ds os with
   |none=>rw[hb]at he;cases he
   |some b=>
    rw[hb]at he;cases he;exact(qv9 (ox:=x) (oy:=y) hs (dA ht hx lR) (dA ht hy rq) hu (by simpa using hg) wY hi hlen.1 hlen.2 hb (MZ _ rfl)).next
  .rename_i el hu;split at hc
   .rename_i hn
    cases hx:cw x with
    |none=>rw[hx]at hc;cases hc
    |some x'=>
     rw[hx]at hc;cases hc;have DO:=qgr (a:=a) hn;simp only[bI]at he;split at he
     .rename_i hv;cases he;have dH:=dA ht hx hv;generalize DN:a.eval x=u at dH
      cases dH with
      |sl j0 iG kJ hI eV=>
       refine⟨.value (.bool (qC==.neq)),E,w,?_,.inl ⟨_,rfl,.bool _⟩,hs,bT.refl _ _ _ _,dl _⟩;rw[VF hu (MZ _ rfl) DN DO];cases (qC==BinOp.neq)<;>rfl
     .rename_i hv;cases he;have dH:=dA ht hx hv;generalize DN:a.eval x=u at dH
      cases dH with
      |arr hr hN j0=>
       refine⟨.value (.bool (qC==.neq)),E,w,?_,.inl ⟨_,rfl,.bool _⟩,hs,bT.refl _ _ _ _,dl _⟩;rw[VF hu (MZ _ rfl) DN DO];cases (qC==BinOp.neq)<;>rfl
     .cases he
   .cases hc
 case lookup t x k ok=>
  split at hc<;>try cases hc
  rename_i kd kt et hm;split at hc<;>try cases hc
  rename_i i x' k' hi hx hk
  cases hz:i.zero with
  |none=>rw[hz]at hc;cases hc
  |some z=>
   rw[hz]at hc;cases hc;simp only[bI]at he;split at he<;>try cases he
   rename_i m key lR rq
   cases hl:sJ S kd (yQ z) ok m key with
   |none=>rw[hl]at he;cases he
   |some r'=>
    rw[hl]at he;cases he;exact(qwh hs hm hi hz (JX E z) (dA ht hx lR) (dA ht hk rq) hl).next
 case mapUpdate t m k x=>
  split at hc<;>try cases hc
  rename_i kd kt et m' k' x' hm h1 h2 h3;simp only[bI]at he;split at he<;>try cases he
  rename_i mv kv xv e1 e2 e3
  cases hl:og S kd mv kv xv with
  |none=>rw[hl]at he;cases he
  |some S2=>
   rw[hl]at he;cases he;obtain⟨E',w',g1,g2,g3,g4⟩:=qj6 (P:=P) hs hm (dA ht h1 e1) (dA ht h2 e2) (dA ht h3 e3) hl;exact⟨.skip,E',w',by simp[execOp,g1,Result.andThen],.inr ⟨rfl,rfl⟩,g2,g3,g4⟩
 case insert t m k x=>
  split at hc<;>try cases hc
  rename_i kd kt et m' k' x' hm h1 h2 h3;simp only[bI]at he;split at he<;>try cases he
  rename_i mv kv xv e1 e2 e3
  cases hl:og S kd mv kv xv with
  |none=>rw[hl]at he;cases he
  |some S2=>
   rw[hl]at he;cases he;obtain⟨E',w',g1,g2,g3,g4⟩:=qj6 (P:=P) hs hm (dA ht h1 e1) (dA ht h2 e2) (dA ht h3 e3) hl;exact⟨.skip,E',w',by simp[execOp,g1,Result.andThen],.inr ⟨rfl,rfl⟩,g2,g3,g4⟩
 case makeMap t rv=>
  cases rv with
  |some h=>cases hc
  |none=>
   simp only[Option.some.injEq]at hc;subst hc;simp only[bI,Option.some.injEq,Prod.mk.injEq]at he;obtain⟨rfl,rfl⟩:=he;exact(qwi (t:=t) hs).next
 case call c=>
  obtain⟨callee,args,argTypes⟩:=c;simp only at hc;split at hc<;>try cases hc
  .rename_i x' y' rh;obtain⟨x,y,rfl,hx,hy⟩:=UE rh;simp only[bI]at he;split at he<;>try cases he
   rename_i u v hu hv
   cases hm:zJ true u v with
   |none=>rw[hm]at he;cases he
   |some r'=>
    rw[hm]at he;cases he;have h1:=dA ht hx hu;have h2:=dA ht hy hv;generalize Nl:a.eval x=xa at h1;generalize XE:a.eval y=ya at h2;cases h1<;>cases h2<;>simp only[zJ,reduceCtorEq,Option.some.injEq]at hm;subst hm;exact⟨.value (.int _ _),E,w,by simp[execOp,resolve,invoke,builtin,Builtin.max_,Builtin.max2,Nl,XE,Result.andThen],.inl ⟨_,rfl,.int _ _⟩,hs,bT.refl _ _ _ _,dl _⟩
  .rename_i x' y' rh;obtain⟨x,y,rfl,hx,hy⟩:=UE rh;simp only[bI]at he;split at he<;>try cases he
   rename_i u v hu hv
   cases hm:zJ false u v with
   |none=>rw[hm]at he;cases he
   |some r'=>
    rw[hm]at he;cases he;have h1:=dA ht hx hu;have h2:=dA ht hy hv;generalize Nl:a.eval x=xa at h1;generalize XE:a.eval y=ya at h2;cases h1<;>cases h2<;>simp only[zJ,reduceCtorEq,Option.some.injEq]at hm;subst hm;exact⟨.value (.int _ _),E,w,by simp[execOp,resolve,invoke,builtin,Builtin.min_,Builtin.min2,Nl,XE,Result.andThen],.inl ⟨_,rfl,.int _ _⟩,hs,bT.refl _ _ _ _,dl _⟩
  .rename_i x' y' rh;obtain⟨x,y,rfl,hx,hy⟩:=UE rh;split at hc<;>try cases hc
   rename_i t pG
   cases hm:vy P t with
   |none=>rw[hm]at hc;cases hc
   |some q=>
    rw[hm]at hc;simp only[gG,Option.some.injEq]at hc;subst hc;obtain⟨kd,kt,et⟩:=q;simp only[bI]at he;split at he<;>try cases he
    rename_i m key lR rq
    cases hl:Aw S kd m key with
    |none=>rw[hl]at he;cases he
    |some S2=>
     rw[hl]at he;cases he;obtain⟨d,E',w',g1,g2,g3⟩:=qv6 (P:=P) (T:=type) hs pG hm (dA ht hx lR) (dA ht hy rq) hl;exact⟨.value d,E',w',by simp[execOp,resolve,invoke,builtin,g1,Result.andThen],.inl ⟨d,rfl,g2⟩,g3⟩
 case range t x=>
  split at hc<;>try cases hc
  rename_i q x' hm hx;simp only[bI]at he
  cases hv:x'.ev e with
  |none=>rw[hv]at he;cases he
  |some v=>
   rw[hv]at he;exact(qwl hs hm (dA ht hx hv) he).next
 case next x b=>
  cases b
  .simp only at hc
   cases hx:cw x with
   |none=>rw[hx]at hc;cases hc
   |some x'=>rw[hx]at hc;cases hc;simp only[bI]at he;cases he
  .cases hc
 case entry x=>
  cases hx:cw x with
  |none=>rw[hx]at hc;cases hc
  |some x'=>
   rw[hx]at hc;cases hc;simp only[bI]at he
   cases hv:x'.ev e with
   |none=>rw[hv]at he;cases he
   |some v=>
    rw[hv]at he;simp only[gG]at he
    cases hr:CU S v with
    |none=>rw[hr]at he;cases he
    |some r'=>
     rw[hr]at he;cases he;exact(qv7 hs (dA ht hx hv) hr).next
 case build t ps=>
  split at hc<;>try cases hc
  rename_i i l hi hl;split at hc<;>try cases hc
  rename_i z hz;split at hc<;>try cases hc
  rename_i j x oO;split at hc<;>try cases hc
  rename_i n x' hj hx;split at hc<;>cases hc;rename_i Rl;simp only[bI]at he
  cases hv:x'.ev e with
  |none=>rw[hv]at he;cases he
  |some v=>
   rw[hv]at he;simp only[gG]at he;split at he<;>cases he;rename_i hvn;have qrm:ps=#[(j,x)]:=by apply HD.1;rw[oO]
   subst qrm;exact(qwp hs hi hz Rl hl hj (dA ht hx hv) hvn.1 hvn.2).next.cast (by simp[execOp])
 case index t x i=>
  split at hc<;>try cases hc
  rename_i n el hu;split at hc<;>try cases hc
  rename_i ei k x' i' ye hk hx hi;simp only[bI]at he;split at he<;>try cases he
  rename_i v kd ix lR rq;split at he<;>try cases he
  rename_i im
  cases hr:v.part (ix.toNat*ei.size) k with
  |none=>rw[hr]at he;cases he
  |some r'=>
   rw[hr]at he;cases he;have h2:=dA ht hi rq;generalize iq:a.eval i=ia at h2;cases h2;refine(qwg (kd:=kd) hs (dA ht hx lR) im.1 hu ye hk im.2 hr).next.cast ?_;simp only[execOp,iq]
 case makeSlice t l c=>
  split at hc<;>try cases hc
  rename_i el hu;split at hc<;>try cases hc
  rename_i i l' c' hi hl im
  cases hz:i.zero with
  |none=>rw[hz]at hc;cases hc
  |some z=>
   rw[hz]at hc;cases hc;simp only[bI]at he;split at he<;>try cases he
   rename_i kl l0 kc c0 e1 e2;have h1:=dA ht hl e1;have h2:=dA ht im e2;refine(qwj (kl:=kl) (kc:=kc) hs hu hi hz (JX E z) he).next.cast ?_;generalize Dx:a.eval l=la at h1;generalize oK:a.eval c=ca at h2;cases h1;cases h2;simp only[execOp,Dx,oK]
 case indexAddr t x i=>
  split at hc<;>try cases hc
  rename_i n sz x' i' Xv hx hi;simp only[bI]at he;split at he<;>try cases he
  rename_i p k ix e1 e2
  cases hr:Ro n sz p ix with
  |none=>rw[hr]at he;cases he
  |some r'=>
   rw[hr]at he;cases he;have h2:=dA ht hi e2;refine(qwe (k:=k) hs (dA ht hx e1) Xv hr).next.cast ?_;generalize iq:a.eval i=ia at h2;cases h2;simp only[execOp,iq]
 case convert src d x=>
  split at hc<;>try cases hc
  .rename_i el x' h1 h2 hx;split at hc<;>cases hc;rename_i hb;simp only[bI]at he
   cases hv:x'.ev e with
   |none=>rw[hv]at he;cases he
   |some p=>
    rw[hv]at he;simp only[gG]at he
    cases hr:H9 S p with
    |none=>rw[hr]at he;cases he
    |some r'=>
     rw[hr]at he;cases he;exact(qv5 hs (dA ht hx hv) h1 (qgs hb) h2 hr).next
  .rename_i el x' h1 h2 hx;split at hc<;>cases hc;rename_i hb;simp only[bI]at he;split at he<;>try cases he
   rename_i s hv;have dH:=dA ht hx hv;refine(qv4 hs h1 h2 (qgs hb)).next.cast ?_;generalize Nl:a.eval x=xa at dH;cases dH;simp only[execOp,Nl]
def qoh{P:aG}{E:En}{e:ae}{S S':St}{a:Act}{w:aP}{o:Oper}{k:K}{r:V}(hc:oH P o=some k)(he:cf e S k=some (r,S'))(ht:jf E e a.tmps)(hs:SR E S w):
  s9 P E S w (execOp a.eval o) r S':=by
 unfold oH at hc;split at hc
 .rename_i k' hk;cases hc;exact qoi hk he ht hs
 .cases hx:wH P o with
  |none=>rw[hx]at hc;cases hc
  |some x=>rw[hx]at hc;cases hc;exact qok hx he ht hs
def qdT(P:aG)(o:Oper)(x:X):wG P o≠some (.ex x):=by
 intro h;obtain⟨dst,op,type,pos,after,guard⟩:=o;cases op<;>simp only[wG]at h
 all_goals (first|(cases h;done)|(simp at h;done)|(revert h;repeat' split))
 all_goals (first|contradiction|(intro h;cases h;done)|(intro h;simp at h;done)|skip)
def sL(e:ae)(S:St):K->List (V×St)
 |.ex (.qN x)=>match x.ev e with
  |some p=>xi S p
  |none=>[]
 |_=>[]
def qtK{P:aG}{E:En}{e:ae}{S:St}{a:Act}{w:aP}{o:Oper}{k:K}(hc:oH P o=some k)(hn:sL e S k≠[])(ht:jf E e a.tmps)(hs:SR E S w):∃q,q∈sL e S k/\s9 P E S w (execOp a.eval o) q.1 q.2:=by
 have hk:∃x,k=.ex (.qN x):=by
  cases k<;>try exact absurd rfl hn
  rename_i x;cases x<;>first|exact⟨_,rfl⟩|exact absurd rfl hn
 obtain⟨x,rfl⟩:=hk
 have hx:wH P o=some (.qN x):=by
  unfold oH at hc;split at hc
  .rename_i k' hk;cases hc;exact absurd hk (qdT P o _)
  .cases hx:wH P o with
   |none=>rw[hx]at hc;cases hc
   |some x'=>rw[hx]at hc;cases hc;rfl
 obtain⟨dst,op,type,pos,after,guard⟩:=o
 have gk:∃y,op=.next y false/\cw y=some x:=by
  cases op<;>simp only[wH]at hx<;>try (cases hx;done)
  case next y b=>
   cases b
   .simp only at hx
    cases hy:cw y with
    |none=>rw[hy]at hx;cases hx
    |some y'=>rw[hy]at hx;cases hx;exact⟨y,rfl,hy⟩
   .cases hx
  all_goals (revert hx;repeat' split)
  all_goals first|contradiction|(intro hx;first|(cases hx;done)|(simp only[ep,xJ,reduceCtorEq,and_false,exists_false,Option.some.injEq]at hx;done)|(obtain⟨_,_,hx⟩:=ep.1 hx;cases hx)|(obtain⟨_,_,hx⟩:=xJ.1 hx;cases hx))
 obtain⟨y,rfl,hy⟩:=gk;simp only[sL]at hn |-;split at hn
 .rename_i p hp;obtain⟨q,hq,qrG⟩:=qwk (P:=P) (t:=type) hs (dA ht hy hp) hn;exact⟨q,hq,qrG.next⟩
 .exact absurd rfl hn
def qtJ{P:aG}{E:En}{e:ae}{S:St}{a:Act}{w:aP}{o:Oper}{k:K}(hc:oH P o=some k)(hn:qM e k≠[])(ht:jf E e a.tmps)(hs:SR E S w):
  ∃v u,v∈qM e k/\(execOp a.eval o).run P w=.ok (.value u) w/\VR E v u:=by
 have hk:∃x,k=.ex x:=by cases k<;>first|exact⟨_,rfl⟩|exact absurd rfl hn
 obtain⟨x,rfl⟩:=hk
 have hx:wH P o=some x\/wG P o=some (.ex x):=by
  unfold oH at hc;split at hc
  .rename_i k' hk;cases hc;exact .inr hk
  .cases hx:wH P o with
   |none=>rw[hx]at hc;cases hc
   |some x'=>rw[hx]at hc;cases hc;exact .inl rfl
 obtain⟨dst,op,type,pos,after,guard⟩:=o;cases x<;>simp only[qM,GX]at hn<;>try exact absurd rfl hn
 rename_i neg x';rcases hx with hx|hx
 .cases op<;>simp only[wH]at hx<;>try (cases hx;done)
  case binOp qC t x y yt=>
   split at hx
   .cases hx
   rename_i gk
   have MZ:∀neg,(qC==BinOp.neq)=neg->qC=if neg=true then .neq else .eql:=by
    intro neg hn;subst hn;cases qC<;>first|rfl|(simp at gk;done)|(exact absurd gk (by decide))
   split at hx<;>try cases hx
   .split at hx
    .cases hx
    .split at hx<;>cases hx
   .rename_i el hu;split at hx
    .rename_i DD
     cases rr:cw x with
     |none=>rw[rr]at hx;cases hx
     |some x2=>
      rw[rr]at hx;cases hx;simp only[qM,GX];split at hn
      .rename_i hv;have dH:=dA ht rr hv;have DO:=qgr (a:=a) DD;generalize DN:a.eval x=u at dH;have QV:∃ad l c,u=.slice ad l c:=by cases dH<;>exact⟨_,_,_,rfl⟩
       obtain⟨ad,l,c,rfl⟩:=QV;refine⟨_,_,?_,VF hu (MZ _ rfl) DN DO,.bool _⟩
       .simp only[dU,V.bool.injEq,yY,or_false];generalize (if(qC==BinOp.neq)=true then !ad.isNone else ad.isNone)=q;cases q<;>simp
      .exact absurd rfl hn
    .cases hx
  all_goals (exfalso;revert hx;repeat' split)
  all_goals (first|contradiction|(intro hx;cases hx;done)|(intro hx;simp only[ep]at hx;obtain⟨_,_,hx⟩:=hx;cases hx;done)|(intro hx;simp only[xJ]at hx;obtain⟨_,_,hx⟩:=hx;cases hx;done)|(intro hx;simp at hx;done)|skip)
 .exact absurd hx (qdT _ _ _)
structure O' where
 dst:Option Nat
 g:Option (Nat×Bool)
 k:K
 deriving Inhabited
def Ie(N:Nat):Option Nat->Bool
 |none=>true
 |some d=>decide (d<N)
def tf(P:aG)(N:Nat)(ops:Array Oper)(o:Oper):Option O':=
 match oH P o with
 |none=>none
 |some k=>if Ie N o.dst=true then
   match o.guard with
   |none=>some ⟨o.dst,none,k⟩
   |some (j,want)=>match (ops[j]?).bind (·.dst) with
    |some t=>some ⟨o.dst,some (t,want),k⟩
    |none=>none
  else none
def uJ(E:En)(args:List V)(us:Array Value):Prop:=args.length=us.size/\∀(i:Nat) (v:V) (u:Value),args[i]?=some v->us[i]?=some u->VR E v u
def aA(P:aG)(f:FuncId)(args:List V)(S:St)(R:V->St->Prop):Prop:=
 (∀as w,(callFunc f as).run P w=.ok (.enter f as) w)/\
 ∀(E:En) (w:aP) (us:Array Value) (n:Nat),SR E S w->uJ E args us->
  CallsIn Fence.wide n P f us w λe w'=>∃u r E' S',e=.returned u/\R r S'/\VR E' r u/\SR E' S' w'/\bT S.length E S w E' S' w'/\S.length<=S'.length
def jg(P:aG)(l:Nat)(args:List V)(S:St)(R:V->St->Prop):Prop:=
 ∀(E:En) (w:aP) (us:Array Value) (n:Nat) (x:qq),SR E S w->uJ E args us->E.ρ l 0=some x->
  ∃f tmps cV body,(Instr.yield x.b us).run P w=.ok (.round x.b f tmps cV body) w/\
   RoundIn Fence.wide n P x.b f tmps cV body w λe w'=>∃u r E' S',e=.returned u/\R r S'/\VR E' r u/\SR E' S' w'/\bT S.length E S w E' S' w'/\S.length<=S'.length
def aA.mono{P:aG}{f:FuncId}{args:List V}{S:St}{R R':V->St->Prop}(h:aA P f args S R)(hr:∀r S',R r S'->R' r S'):aA P f args S R':=
 ⟨h.1,λE w us n hs hv=>(h.2 E w us n hs hv).mono λe w' ⟨u,r,E',S',h1,h2,h3⟩=>⟨u,r,E',S',h1,hr _ _ h2,h3⟩⟩
def jT(e:ae):Option (Nat×Bool)->Option Bool
 |none=>some true
 |some (t,want)=>match e.get t with
  |some (.bool b)=>some (b==want)
  |some (.aV [])=>some false
  |_=>none
def eM(P:aG):List O'->(ae->St->Prop)->ae->St->Prop
 |[],Q,e,S=>Q e S
 |o::os,Q,e,S=>match jT e o.g with
  |none=>False
  |some false=>eM P os Q (e.put o.dst (.aV [])) S
  |some true=>match o.k with
   |.call f args=>match f.ev e,mr e args with
    |some (.fn (.func k) fs cs),some vs=>∃R,aA P k (fs++vs++cs) S R/\∀r S',R r S'->eM P os Q (e.put o.dst r) S'
    |some (.dc l),some vs=>∃R,jg P l vs S R/\∀r S',R r S'->eM P os Q (e.put o.dst r) S'
    |_,_=>False
   |k=>match cf e S k with
    |some (r,S')=>eM P os Q (e.put o.dst r) S'
    |none=>(qM e k≠[]/\∀v,v∈qM e k->eM P os Q (e.put o.dst v) S)\/(sL e S k≠[]/\∀q,q∈sL e S k->eM P os Q (e.put o.dst q.1) q.2)
abbrev dV:=Exit->ae->St->Prop
def ae.sub(e' e:ae):Prop:=∀t v,e'.get t=some v->e.get t=some v
def lA(ro:Option Nat):Fence:={ Fence.wide with round:=ro }
def Up(N n0 m0:Nat)(E:En)(S:St)(w:aP)(Q:dV)(x:Exit)(a':Act)(w':aP):Prop:=
 ∃E' e' S',Rel N n0 m0 E' e' S' a' w'/\bT n0 E S w E' S' w'/\Q x e' S'
def Up.back{N n0 m0:Nat}{E E1:En}{S S1:St}{w w1:aP}{Q:dV}{x:Exit}{a:Act}{w':aP}(h:bT n0 E S w E1 S1 w1)(g:Up N n0 m0 E1 S1 w1 Q x a w'):Up N n0 m0 E S w Q x a w':=
 let ⟨E',e',S',r,x,q⟩:=g;⟨E',e',S',r,h.trans x,q⟩
def JP{ro:Option Nat}{ρ:Operand->Value}{o:Oper}{P:aG}{k:K}(h:oH P o=some k):o.semAt ro ρ=execOp ρ o:=by
 cases ro with
 |none=>exact Oper.semAt_none ρ o
 |some l=>exact Oper.semAt_some l ρ o λc hc=>by simp[oH,wG,wH,hc]at h
def Rel.put{N n0 m0:Nat}{E:En}{e:ae}{S:St}{a:Act}{w:aP}(h:Rel N n0 m0 E e S a w){d:Option Nat}{v:V}{u:Value}(hd:Ie N d=true)(r:VR E v u):Rel N n0 m0 E (e.put d v) S (a.put d u) w:=by
 cases d with
 |none=>exact h
 |some d=>
  simp[Ie]at hd;exact⟨h.tmps.put (by rw[h.size];exact hd) r,by simp[Act.put,h.size],h.defers,h.base,h.sr⟩
def Rel.step{N n0 m0:Nat}{E E':En}{e:ae}{S S':St}{a:Act}{w w':aP}(h:Rel N n0 m0 E e S a w)(hs:SR E' S' w')(hx:bT S.length E S w E' S' w')(hl:S.length<=S'.length):Rel N n0 m0 E' e S' a w':=
 ⟨h.tmps.mono (hx.le h.sr),h.size,uH.step hx h.defers,js h.base hl,hs⟩
def qdV{P:aG}{o:Oper}{k:K}(h:oH P o=some k)(hx:∀x,k≠.ex x):wG P o=some k:=by
 unfold oH at h;split at h
 .rename_i k' hk;cases h;exact hk
 .cases iG:wH P o with
  |none=>rw[iG]at h;cases h
  |some x=>rw[iG]at h;cases h;exact absurd rfl (hx x)
def qdU{P:aG}{dst:Option Tmp}{op:Op}{type:cC}{pos:String}{after:Array Edge}{guard:Option (Nat×Bool)}{f:bK}{args:List bK}(hk:oH P ⟨dst,op,type,pos,after,guard⟩=some (.call f args)):
  ∃c f0,op=.call c/\c.callee=.value f0/\cw f0=some f/\c.args.toList.mapM cw=some args:=by
 replace hk:=qdV hk (λx=>by simp);by_cases hc:∃c,op=.call c
 .obtain⟨c,rfl⟩:=hc;simp only[wG]at hk;split at hk
  .rename_i f0 args' h1 h2
   cases h3:cw f0 with
   |none=>rw[h3]at hk;cases hk
   |some f1=>rw[h3]at hk;cases hk;exact⟨c,f0,rfl,h1,h3,h2⟩
  .exfalso;repeat' split at hk
   all_goals cases hk
  .rename_i h1 h2;cases h3:K2 P c.argTypes<;>rw[h3]at hk<;>cases hk
  .cases hk
 .exfalso;cases op<;>first|(exact hc ⟨_,rfl⟩)|skip
  all_goals (simp only[wG]at hk)
  all_goals (first|(cases hk;done)|(simp at hk;done)|(revert hk;repeat' split))
  all_goals (first|contradiction|(intro hk;cases hk;done)|(intro hk;simp at hk;done)|skip)
def xw{F:Fence}{n:Nat}{P:aG}{ops:Array Oper}{Q Q':Exit->Act->World->Prop}(hq:∀x a w,Q x a w->Q' x a w):∀{l:List Oper} {a:Act} {w:aP},wpListIn F n P ops Q l a w->wpListIn F n P ops Q' l a w
 |[],a,w,h=>hq _ _ _ h
 |o::l,a,w,h=>by
  have MQ:LetsOut Q->LetsOut Q':=λ⟨a,w,h⟩=>⟨a,w,hq _ _ _ h⟩
  simp only[wpListIn]at h |-;split
  .rename_i hw;rw[ak hw]at h;obtain⟨h1,h2⟩:=h;refine⟨h1,?_⟩;generalize (o.semAt F.round a.eval).run P w=r at h2 |-
   cases r with
   |ok nx w'=>
    cases nx<;>simp only[Oper.uponIn]at h2 |-
    case value v=>exact xw hq h2
    case skip=>exact xw hq h2
    case defer d=>exact xw hq h2
    case enter f args=>exact⟨h2.1,h2.2.mono λe rL he=>by cases e<;>first|exact xw hq he|exact hq _ _ _ he|exact MQ he⟩
    case row r args=>exact⟨h2.1,h2.2.mono λv rL he=>xw hq he⟩
    case round l f t x y=>exact⟨h2.1,h2.2.mono λe rL he=>by cases e<;>first|exact xw hq he|exact hq _ _ _ he|exact MQ he⟩
   |halt x w'=>
    cases x<;>simp only[Oper.uponIn]at h2 |-
    case panic v=>exact hq _ _ _ h2
  .rename_i hw;rw[au hw]at h;exact⟨h.1,xw hq h.2⟩
def YD{P:aG}{ro:Option Nat}{n:Nat}{o:Oper}{k:K}{E:En}{e:ae}{S S':St}{r:V}{a:Act}{w:aP}{next:Act->World->Prop}{Q:Exit->Act->World->Prop}(hk:oH P o=some k)(ht:jf E e a.tmps)(hs:SR E S w)(lE:cf e S k=some (r,S'))
  (hn:∀E' u w',VR E' r u->SR E' S' w'->bT S.length E S w E' S' w'->S.length<=S'.length->next (a.put o.dst u) w'):o.wpIn (lA ro) n P a w next Q:=by
 refine⟨λf hf=>trivial,?_⟩;rw[show o.semAt (lA ro).round a.eval=execOp a.eval o from JP hk];obtain⟨nx,E',w',fN,uX,jy,fM,hlen⟩:=qoh hk lE ht hs;rw[fN];rcases uX with ⟨u,rfl,dH⟩|⟨rfl,rfl⟩
 .exact hn E' u w' dH jy fM hlen
 .exact hn E' undef w' (.aV sM (λi v u h=>by simp at h)) jy fM hlen
def qt9{P:aG}{ro:Option Nat}{n:Nat}{o:Oper}{k:K}{E:En}{e:ae}{S:St}{a:Act}{w:aP}{next:Act->World->Prop}{Q:Exit->Act->World->Prop}(hk:oH P o=some k)(DC:qM e k≠[])(ht:jf E e a.tmps)(hs:SR E S w)
  (hn:∀v u,v∈qM e k->VR E v u->next (a.put o.dst u) w):o.wpIn (lA ro) n P a w next Q:=by
 refine⟨λf hf=>trivial,?_⟩;rw[show o.semAt (lA ro).round a.eval=execOp a.eval o from JP hk];obtain⟨v,u,hv,fN,dH⟩:=qtJ hk DC ht hs;rw[fN];exact hn v u hv dH
def qua{P:aG}{ro:Option Nat}{n:Nat}{o:Oper}{k:K}{E:En}{e:ae}{S:St}{a:Act}{w:aP}{next:Act->World->Prop}{Q:Exit->Act->World->Prop}(hk:oH P o=some k)(DC:sL e S k≠[])(ht:jf E e a.tmps)(hs:SR E S w)
  (hn:∀q E' u w',q∈sL e S k->VR E' q.1 u->SR E' q.2 w'->bT S.length E S w E' q.2 w'->S.length<=q.2.length->next (a.put o.dst u) w'):o.wpIn (lA ro) n P a w next Q:=by
 refine⟨λf hf=>trivial,?_⟩;rw[show o.semAt (lA ro).round a.eval=execOp a.eval o from JP hk];obtain⟨q,hq,nx,E',w',fN,uX,jy,fM,hlen⟩:=qtK hk DC ht hs;rw[fN];rcases uX with ⟨u,rfl,dH⟩|⟨rfl,hv⟩
 .exact hn q E' u w' hq dH jy fM hlen
 .exact hn q E' undef w' hq (by rw[hv];exact .aV sM (λi v u h=>by simp at h)) jy fM hlen
def qhq{P:aG}{ro:Option Nat}{n:Nat}{o:Oper}{f:bK}{args:List bK}{kf:FuncId}{fs cs vs:List V}{R:V->St->Prop}{E:En}{e:ae}{S:St}{a:Act}{w:aP}{next:Act->World->Prop}{Q:Exit->Act->World->Prop}(hk:oH P o=some (.call f args))(ht:jf E e a.tmps)(hs:SR E S w)
  (hf:f.ev e=some (.fn (.func kf) fs cs)) (mC:mr e args=some vs) (pE:aA P kf (fs++vs++cs) S R)
  (hn:∀r S' E' u w',R r S'->VR E' r u->SR E' S' w'->bT S.length E S w E' S' w'->S.length<=S'.length->next (a.put o.dst u) w'):o.wpIn (lA ro) n P a w next Q:=by
 refine⟨λf hf=>trivial,?_⟩;rw[show o.semAt (lA ro).round a.eval=execOp a.eval o from JP hk];obtain⟨dst,op,type,pos,after,guard⟩:=o;obtain⟨c,f0,rfl,h1,h2,h3⟩:=qdU hk;have wR:=dA ht h2 hf;obtain⟨a1,a2⟩:=GN ht h3 mC;generalize hu:a.eval f0=u at wR;have a1':vs.length=c.args.size:=by simpa using a1
 obtain⟨us,ws,rfl,b1,b2,b3,b4⟩:∃us ws,u=.func (.func kf) us ws/\fs.length=us.size/\cs.length=ws.size/\(∀(i:Nat) (v:V) (u:Value),fs[i]?=some v->us[i]?=some u->VR E v u)/\(∀(i:Nat) (v:V) (u:Value),cs[i]?=some v->ws[i]?=some u->VR E v u):=by
  cases wR with
  |fn h1 h2 g1 g2=>exact⟨_,_,rfl,h1,h2,g1,g2⟩
 have fN:(execOp a.eval ⟨dst,.call c,type,pos,after,guard⟩).run P w=.ok (.enter kf (us++c.args.map a.eval++ws)) w:=by
  simp only[execOp,resolve,h1,hu,Deferred.ofValue,Sem.run_bind,Sem.run_pure,Result.andThen,invoke];exact pE.1 _ w
 rw[fN];simp only[Oper.uponIn];refine⟨λhd=>by simp[lA,Fence.wide]at hd,?_⟩
 have rh:uJ E (fs++vs++cs) (us++c.args.map a.eval++ws):=by
  refine⟨by simp[b1,b2,a1'],λi v u hv hu=>?_⟩;rw[dY]at hv;rw[OV]at hu;by_cases hi:i<fs.length
  .rw[dh hi]at hv;rw[Cf oM]at hu;exact b3 i v u hv hu
  .rw[cx oM]at hv;rw[J9 oM,<-b1]at hu;by_cases hj:i-fs.length<vs.length
   .rw[dh hj]at hv;rw[Cf (by simp;omega)]at hu;simp only[Ci,ep]at hu;obtain⟨o,ho,rfl⟩:=hu;exact a2 _ v o hv (by simpa using ho)
   .rw[cx oM]at hv;rw[J9 (by simp;omega)]at hu;rw[show i-fs.length-(c.args.map a.eval).size=i-fs.length-vs.length by simp[a1']]at hu;exact b4 _ v u hv hu
 have qqn:=pE.2 E w _ (n-1) hs rh;refine CallsIn.mono (show CallsIn (lA ro) (n-1) P kf _ w _ from qqn) ?_;rintro ed w' ⟨uv,r,E',S',rfl,hR,dH,jy,fM,hlen⟩;exact hn r S' E' uv w' hR dH jy fM hlen
def quc{P:aG}{ro:Option Nat}{n:Nat}{o:Oper}{f:bK}{args:List bK}{ly:Nat}{vs:List V}{R:V->St->Prop}{E:En}{e:ae}{S:St}{a:Act}{w:aP}{next:Act->World->Prop}{Q:Exit->Act->World->Prop}(hk:oH P o=some (.call f args))(ht:jf E e a.tmps)(hs:SR E S w)
    (hf:f.ev e=some (.dc ly)) (mC:mr e args=some vs) (pE:jg P ly vs S R)
    (hn:∀r S' E' u w',R r S'->VR E' r u->SR E' S' w'->bT S.length E S w E' S' w'->S.length<=S'.length->next (a.put o.dst u) w'):o.wpIn (lA ro) n P a w next Q:=by
  refine⟨λf hf=>trivial,?_⟩;rw[show o.semAt (lA ro).round a.eval=execOp a.eval o from JP hk];obtain⟨dst,op,type,pos,after,guard⟩:=o;obtain⟨c,f0,rfl,h1,h2,h3⟩:=qdU hk;have wR:=dA ht h2 hf;obtain⟨a1,a2⟩:=GN ht h3 mC;generalize hu:a.eval f0=u at wR;have a1':vs.length=c.args.size:=by simpa using a1
  cases wR with
  |dc hx=>
    rename_i x
    obtain ⟨fn,tmps,cV,body,hy,Xk⟩:=pE E w (c.args.map a.eval) (n - 1) x hs ⟨by simp[a1'],λi v u hv hu=>by
      simp only[Ci,ep]at hu;obtain⟨o,ho,rfl⟩:=hu;exact a2 _ v o hv (by simpa using ho)⟩ hx
    have fN:(execOp a.eval ⟨dst,.call c,type,pos,after,guard⟩).run P w=.ok (.round x.b fn tmps cV body) w:=by
      simp only[execOp,resolve,h1,hu,Deferred.ofValue,Sem.run_bind,Sem.run_pure,Result.andThen,invoke,Array.empty_append];exact hy
    rw[fN,Oper.uponIn_round];refine⟨λhd=>by simp[lA,Fence.wide]at hd,?_⟩;refine RoundIn.mono (show RoundIn (lA ro) (n-1) P _ _ _ _ _ w _ from Xk) ?_;rintro ed w' ⟨uv,r,E',S',rfl,hR,dH,jy,fM,hlen⟩;exact hn r S' E' uv w' hR dH jy fM hlen
def qeZ{P:aG}{N:Nat}{ops:Array Oper}{o:Oper}{o':O'}(h:tf P N ops o=some o'):
  o'.dst=o.dst/\Ie N o.dst=true/\oH P o=some o'.k/\∀(E:En) (e:ae) (a:Act) (b:Bool),(∀t w,o'.g=some (t,w)->∀v,e.get t=some v->∃u,a.tmps[t]?=some u/\VR E v u)->jT e o'.g=some b->Region.wanted o (yielded ops a.tmps)=b:=by
 unfold tf at h;split at h
 .cases h
 rename_i k hk;split at h
 case isFalse=>cases h
 rename_i hd;split at h
 .rename_i pB;cases h;exact⟨rfl,hd,hk,λE e a b _ hb=>by cases hb;simp[Region.wanted,pB]⟩
 .rename_i j want pB;split at h<;>cases h;rename_i t ht;refine⟨rfl,hd,hk,λE e a b hr hb=>?_⟩;simp only[jT]at hb;split at hb<;>cases hb
  .rename_i bb wM;obtain⟨u,hu,hv⟩:=hr _ _ rfl _ wM;cases hv;simp[Region.wanted,pB,yielded,ht,hu]
  .rename_i wM;obtain⟨u,hu,hv⟩:=hr _ _ rfl _ wM;cases hv;simp[Region.wanted,pB,yielded,ht,hu]
def EL{P:aG}{N n0 m0:Nat}{ro:Option Nat}{n:Nat}{ops:Array Oper}{Q:dV}:∀(l:List Oper) (l':List O') (E:En) (e:ae) (S:St) (a:Act) (w:aP),
  l.mapM (tf P N ops)=some l'->Rel N n0 m0 E e S a w->eM P l' (Q .normal) e S->wpListIn (lA ro) n P ops (Up N n0 m0 E S w Q) l a w
 |[],l',E,e,S,a,w,hc,hr,h=>by
  simp at hc;subst hc;exact⟨E,e,S,hr,bT.refl _ _ _ _,h⟩
 |o::l,l',E,e,S,a,w,hc,hr,h=>by
  simp only[vW,wc]at hc
  cases ho:tf P N ops o with
  |none=>rw[ho]at hc;simp at hc
  |some o'=>
   rw[ho]at hc
   cases hl:l.mapM (tf P N ops) with
   |none=>rw[hl]at hc;simp at hc
   |some l2=>
    rw[hl]at hc;simp at hc;subst hc;obtain⟨AX,hd,hk,hg⟩:=qeZ ho;simp only[eM]at h;rw[AX]at h
    cases hw:jT e o'.g with
    |none=>rw[hw]at h;exact h.elim
    |some b=>
     rw[hw]at h;have tH:=hg E e a b (λt _ _ v hv=>hr.tmps t v hv) hw;simp only[wpListIn]
     cases b with
     |false=>
      rw[tH];simp only[mf,if_false];refine⟨λf hf=>trivial,?_⟩;exact EL l l2 E _ S _ w hl (hr.put hd (.aV sM (λi v u h=>by simp at h))) h
     |true=>
      rw[tH];simp only[if_true];generalize iK:o'.k=k at h hk;by_cases QN:∃f args,k=.call f args
      .obtain⟨f,args,rfl⟩:=QN;simp only at h;split at h<;>try exact h.elim
       .rename_i kf fs cs vs hf mC;obtain⟨R,pE,ir⟩:=h;refine qhq hk hr.tmps hr.sr hf mC pE λr S' E' u w' hR dH jy fM hlen=>?_
        have jx:=(hr.step jy fM hlen).put hd dH;have:=EL (n:=n) (ro:=ro) (Q:=Q) l l2 E' _ S' _ w' hl jx (ir r S' hR);exact xw (λx a' rL hq=>hq.back (fM.less hr.base)) this
       .rename_i ly vs hf mC;obtain⟨R,pE,ir⟩:=h;refine quc hk hr.tmps hr.sr hf mC pE λr S' E' u w' hR dH jy fM hlen=>?_
        have jx:=(hr.step jy fM hlen).put hd dH;have:=EL (n:=n) (ro:=ro) (Q:=Q) l l2 E' _ S' _ w' hl jx (ir r S' hR);exact xw (λx a' rL hq=>hq.back (fM.less hr.base)) this
      .have h':match cf e S k with
        |some (r,S')=>eM P l2 (Q .normal) (e.put o.dst r) S'
        |none=>(qM e k≠[]/\∀v,v∈qM e k->eM P l2 (Q .normal) (e.put o.dst v) S)\/(sL e S k≠[]/\∀q,q∈sL e S k->eM P l2 (Q .normal) (e.put o.dst q.1) q.2):=by
        cases k<;>first|exact h|exact absurd ⟨_,_,rfl⟩ QN
       cases lE:cf e S k with
       |none=>
        rw[lE]at h';rcases h' with h'|h'
        .refine qt9 hk h'.1 hr.tmps hr.sr λv u hv dH=>?_
         exact EL l l2 E _ S _ w hl (hr.put hd dH) (h'.2 v hv)
        .refine qua hk h'.1 hr.tmps hr.sr λq E' u w' hq dH jy fM hlen=>?_
         have jx:=(hr.step jy fM hlen).put hd dH;have:=EL (n:=n) (ro:=ro) (Q:=Q) l l2 E' _ q.2 _ w' hl jx (h'.2 q hq);exact xw (λx a' rL hq=>hq.back (fM.less hr.base)) this
       |some rs=>
        obtain⟨r,S'⟩:=rs;rw[lE]at h';refine YD hk hr.tmps hr.sr lE λE' u w' dH jy fM hlen=>?_
        have jx:=(hr.step jy fM hlen).put hd dH;have:=EL (n:=n) (ro:=ro) (Q:=Q) l l2 E' _ S' _ w' hl jx h';exact xw (λx a' rL hq=>hq.back (fM.less hr.base)) this
def SR.quu{E:En}{S:St}{w:aP}(h:SR E S w){z:V}(h0:0<z.size):SR E (S++[.arr [z] z.size 1]) w/\∀n,bT n E S w E (S++[.arr [z] z.size 1]) w:=by
 have cB:∀st,E.ρ S.length st=none:=λst=>by
  cases hr:E.ρ S.length st with
  |none=>rfl
  |some x=>exact absurd (h.jI _ _ _ hr) oM
 have lL:∀l st x,gQ (S++[.arr [z] z.size 1]) l->E.ρ l st=some x->gQ S l:=λl st x hl hx=>by
  rcases Yg hl with hl|rfl
  .exact hl
  .rw[cB]at hx;cases hx
 have dW:∀b,own E (S++[.arr [z] z.size 1]) b->own E S b:=λb ⟨l,st,x,hl,hx,he⟩=>⟨l,st,x,lL l st x hl hx,hx,he⟩
 refine ⟨⟨h.gl,h.I,λl o ho=>?_,λl st x hx=>by have:=h.jI _ _ _ hx;simp;omega,λb o hb=>h.apart b o (dW b hb),λb hb=>h.lt b (dW b hb),λl l' st bc x x' hl cj hx iG he=>h.inj l l' st bc x x' (lL l st x hl hx) (lL l' bc x' cj iG) hx iG he⟩,
  λn=>⟨dl _,λ_ _ _ h=>h,λ_ _ _ _ h=>h,λ_ _ h=>h,λb hb=>.inl (dW b hb),λ_ _ _ h=>.inl h,λ_ _ _=>rfl,rfl⟩⟩
 rcases xI l S.length with hl|hl
 .rw[dh hl]at ho;exact h.fJ l o ho
 .have aB:=(br.1 ho).1;simp at aB;have:l=S.length:=oM;subst this;simp at ho;subst ho;refine⟨⟨h0,sM⟩,λv hv=>by simp at hv;subst hv;rfl,λst x hx=>?_⟩;rw[cB]at hx;cases hx
def iW(zs:List V):St:=zs.map λz=>.arr [z] z.size 1
def SR.qhB{E:En}{w:aP}:∀(zs:List V) {S:St},SR E S w->(∀z,z∈zs->0<z.size)->SR E (S++iW zs) w/\∀n,bT n E S w E (S++iW zs) w
 |[],S,h,_=>by simp[iW];exact⟨h,λn=>bT.refl _ _ _ _⟩
 |z::zs,S,h,h0=>by
  obtain⟨a,b⟩:=h.quu (h0 z sM);obtain⟨c,d⟩:=SR.qhB zs a λz hz=>h0 z (by simp[hz])
  rw[dY]at c d;exact⟨c,λn=>(b n).trans (d n)⟩
def SR.real{E:En}{S:St}{w:aP}(h:SR E S w){l:Nat}{ob:Ob}{o:Obj}{st N sz:Nat}(hl:S[l]?=some ob)(cB:∀st,E.ρ l st=none)
  (ho:OR (E.at l st ⟨w.heap.size,N,sz⟩) { w with heap:=w.heap.push o } l ob):
  SR (E.at l st ⟨w.heap.size,N,sz⟩) S { w with heap:=w.heap.push o }/\E.le (E.at l st ⟨w.heap.size,N,sz⟩)/\
  ∀n,n<=l->bT n E S w (E.at l st ⟨w.heap.size,N,sz⟩) S { w with heap:=w.heap.push o }:=by
 have hle:E.le (E.at l st ⟨w.heap.size,N,sz⟩):=xR (cB st)
 have key:∀l' bc x,gQ S l'->(E.at l st ⟨w.heap.size,N,sz⟩).ρ l' bc=some x->(l'=l/\x.b=w.heap.size)\/(l'≠l/\E.ρ l' bc=some x/\x.b<w.heap.size):=by
  intro l' bc x cj hx;by_cases hk:l'=l
  .subst hk;by_cases hs:bc=st
   .subst hs;rw[ml]at hx;cases hx;exact .inl ⟨rfl,rfl⟩
   .simp[En.at,hs,cB]at hx
  .rw[wu hk]at hx;exact .inr ⟨hk,hx,h.lt _ ⟨l',bc,x,cj,hx,rfl⟩⟩
 have dW:∀b,own (E.at l st ⟨w.heap.size,N,sz⟩) S b->own E S b\/b=w.heap.size:=by
  rintro b ⟨l',bc,x,cj,hx,rfl⟩;rcases key l' bc x cj hx with ⟨_,h2⟩|⟨_,h2,_⟩
  .exact .inr h2
  .exact .inl ⟨l',bc,x,cj,h2,rfl⟩
 refine⟨⟨h.gl.kL hle.1 (λb _ _ _ hb _=>rB (FW hb)),?_,?_,?_,?_,?_,?_⟩,hle,λn hn=>⟨sM,hle.1,λl bc x _ hx=>hle.2 l bc x hx,λl' cj hx bc=>by rw[wu oM];exact hx bc,λb hb=>(dW b hb).imp id (λe=>by omega),λb o c hc=>.inl hc,λb hb _=>rB hb,rfl⟩⟩
 .intro b o' c hc;have:=h.I b o' c hc;rw[zd (rB (wE this))];exact this
 .intro l' o' cj;by_cases hk:l'=l
  .subst hk;rw[hl]at cj;cases cj;exact ho
  .by_cases hd:o'=.dead
   .subst hd;trivial
   exact(h.fJ l' o' cj).mono hle (λbc x hx=>by rw[wu hk]at hx;exact hx) (λbc x hx=>rB (h.lt _ ⟨l',bc,x,⟨o',cj,hd⟩,hx,rfl⟩))
 .intro l' bc x hx;by_cases hk:l'=l
  .subst hk;exact(br.1 hl).1
  .rw[wu hk]at hx;exact h.jI _ _ _ hx
 .intro b o' hb;rcases dW b hb with hb|rfl
  .exact h.apart b o' hb
  .cases hc:E.I w.heap.size o' with
   |none=>exact hc
   |some c=>exact absurd (wE (h.I _ _ _ hc)) oM
 .intro b hb;rcases dW b hb with hb|rfl
  .have:=h.lt b hb;simp;omega
  .simp
 .intro l1 l2 fw lG x x' sj yj hx iG hb;rcases key l1 fw x sj hx with ⟨h1,h2⟩|⟨h1,h3,h4⟩<;>rcases key l2 lG x' yj iG with ⟨g1,g2⟩|⟨g1,g3,g4⟩
  .omega
  .omega
  .omega
  .exact h.inj l1 l2 fw lG x x' sj yj h3 g3 hb
def SR.qvt{E:En}{S:St}{w:aP}{l:Nat}{z:V}{d:Value}{t:cC}(h:SR E S w)(hl:S[l]?=some (.arr [z] z.size 1))(cB:∀st,E.ρ l st=none)(h0:0<z.size)(hf:(z.cells.all V.flat)=true)(hz:VR E z d):
  ∃E',SR E' S { w with heap:=w.heap.push (.cells d.cells t (0,0)) }/\E.le E'/\(∀n,n<=l->bT n E S w E' S { w with heap:=w.heap.push (.cells d.cells t (0,0)) })/\(∀l' st,l'≠l->E'.ρ l' st=E.ρ l' st)/\VR E' (.ptr l 0 0 1) (.pointer (some ⟨w.heap.size,0,none⟩)):=by
 obtain⟨h1,h2⟩:=hz.cells (uO hf)
 obtain ⟨n1,n2,n3⟩:=h.real (o:=.cells d.cells t (0,0)) (st:=1) (N:=d.cells.size) (sz:=z.size) hl cB (by
  refine⟨⟨h0,sM⟩,λv hv=>by simp at hv;subst hv;rfl,λst y hy bg=>?_⟩;by_cases bw:st=1
  .subst bw;rw[ml]at hy;cases hy;refine⟨sM,rfl,d.cells,t,G3,rfl,by simp[V.size,h1],λi v hv hi j c hc=>?_⟩;have WV:i=0:=oM;subst WV;simp at hv;subst hv;obtain⟨e,he,hr⟩:=hz.P3 (uO hf) hc;exact⟨e,by simpa using he,hr.mono (xR (cB 1))⟩
  .exfalso;simp only[En.at]at hy;rw[au (by simp;exact bw),cB]at hy;cases hy)
 refine⟨_,n1,n2,n3,λl' st cj=>wu cj,?_⟩;have:=VR.ptr (E:=E.at l 1 ⟨w.heap.size,d.cells.size,z.size⟩) (l:=l) (st:=1) 0 0 ml;simpa using this
def qnr{P:aG}{o:Oper}{z:V}(h:oH P o=some (.new z)):∃t i zv,o.op=.alloc t/\P.info? t=some i/\i.zero=some zv/\z=yQ zv:=by
 obtain⟨dst,op,type,pos,after,guard⟩:=o;replace h:=qdV h (λx=>by simp);by_cases hc:∃t,op=.alloc t
 .obtain⟨t,rfl⟩:=hc;simp only[wG]at h;split at h<;>try cases h
  rename_i i hi;split at h<;>cases h;rename_i z hz;exact⟨t,i,z,rfl,hi,hz,rfl⟩
 .exfalso;cases op<;>first|(exact hc ⟨_,rfl⟩)|skip
  all_goals (simp only[wG]at h)
  all_goals (first|(cases h;done)|(simp at h;done)|(revert h;repeat' split))
  all_goals (first|contradiction|(intro h;cases h;done)|(intro h;simp at h;done)|skip)
def qub{P:aG}{ro:Option Nat}{n:Nat}{o:Oper}{z:V}{E:En}{S:St}{a:Act}{w:aP}{next:Act->World->Prop}{Q:Exit->Act->World->Prop}{l:Nat}(hk:oH P o=some (.new z))(hs:SR E S w)(hl:S[l]?=some (.arr [z] z.size 1))(cB:∀st,E.ρ l st=none)(h0:0<z.size)(hf:(z.cells.all V.flat)=true)
  (hn:∀E' u w',VR E' (.ptr l 0 0 1) u->SR E' S w'->E.le E'->(∀n,n<=l->bT n E S w E' S w')->(∀l' st,l'≠l->E'.ρ l' st=E.ρ l' st)->next (a.put o.dst u) w'):o.wpIn (lA ro) n P a w next Q:=by
 refine⟨λf hf=>trivial,?_⟩;rw[show o.semAt (lA ro).round a.eval=execOp a.eval o from JP hk];obtain⟨t,i,zv,gk,hi,hz,rfl⟩:=qnr hk;obtain⟨E',b1,b2,b3,b4,b5⟩:=hs.qvt (t:=t) hl cB h0 hf (JX E zv);obtain⟨dst,op,type,pos,after,guard⟩:=o;cases gk
 have fN:(execOp a.eval ⟨dst,.alloc t,type,pos,after,guard⟩).run P w=.ok (.value (.pointer (some ⟨w.heap.size,0,none⟩))) { w with heap:=w.heap.push (.cells zv.cells t (0,0)) }:=by
  have:(Instr.alloc t true (.tuple #[])).run P w=.ok (.pointer (some ⟨w.heap.size,0,none⟩)) { w with heap:=w.heap.push (.cells zv.cells t (0,0)) }:=by
   simp[Instr.alloc,newVar,Sem.run_bind,yI hi hz,Result.andThen,G9]
  simp only[execOp,Sem.run_bind,this,Result.andThen,Sem.run_pure]
 rw[fN];exact hn E' _ _ b5 b1 b2 b3 b4
def K.tmps:K->List Nat
 |.mv x|.box x|.GW x|.un _ x|.fa _ x|.Iq _ _ x|.ext _ x|.len _ x|.conv _ x|.ld _ x=>x.tmps
 |.pick c a b=>c.tmps++a.tmps++b.tmps
 |.new _=>[]
 |.build _ ps=>ps.flatMap λp=>p.2.2.2.tmps
 |.Fq _ xs=>xs.flatMap bK.tmps
 |.oV _ a x|.bin _ a x|.eq _ _ a x|.ia _ a x|.idx a x|.fq _ _ a x=>a.tmps++x.tmps
 |.slc _ _ x lo hi=>x.tmps++lo.toList.flatMap bK.tmps++hi.toList.flatMap bK.tmps
 |.Jv _ fs cs=>fs.flatMap bK.tmps++cs.flatMap bK.tmps
 |.call f xs=>f.tmps++xs.flatMap bK.tmps
 |.ex k=>k.tmps
def rN(ts:List Nat)(e e':ae):Prop:=∀t,t∈ts->e'.get t=e.get t
def rN.sub{ts us:List Nat}{e e':ae}(h:rN ts e e')(hs:∀t,t∈us->t∈ts):rN us e e':=λt ht=>h t (hs t ht)
def eG{e e':ae}{x:bK}(h:rN x.tmps e e'):x.ev e'=x.ev e:=by
 cases x with
 |t n=>exact h n (by simp[bK.tmps])
 |c v=>rfl
 |f k=>rfl
def Lt{e e':ae}:∀{xs:List bK},rN (xs.flatMap bK.tmps) e e'->mr e' xs=mr e xs
 |[],_=>rfl
 |x::xs,h=>by
  simp only[mr]
  rw[eG (x:=x) (λt ht=>h t (by simp[ht])),Lt (xs:=xs) (λt ht=>h t (by
   simp only[nl,cU];exact .inr ht))]
def qeu{e e':ae}:∀{ps:List (Nat×Nat×Nat×bK)},rN (ps.flatMap λp=>p.2.2.2.tmps) e e'->bR e' ps=bR e ps
 |[],_=>rfl
 |(f,o,n,x)::ps,h=>by
  simp only[bR]
  rw[eG (x:=x) (λt ht=>h t (by simp[ht])),qeu (ps:=ps) (λt ht=>h t (by
   simp only[nl,cU];exact .inr ht))]
def qes{e e':ae}{x:Option bK}(h:rN (x.toList.flatMap bK.tmps) e e'):oI e' x=oI e x:=by
 cases x with
 |none=>rfl
 |some x=>simp only[oI];rw[eG (x:=x) (λt ht=>h t (by simpa using ht))]
def qev{e e':ae}{S:St}{k:X}(h:rN k.tmps e e'):bI e' S k=bI e S k:=by
 cases k<;>simp only[X.tmps]at h<;>simp only[bI]
 case eqs n s os x y=>rw[eG (h.sub (us:=x.tmps) (by simp;grind)),eG (h.sub (us:=y.tmps) (by simp;grind))]
 case eqn n x=>rw[eG h]
 case GO kd z ok x y=>rw[eG (h.sub (us:=x.tmps) (by simp;grind)),eG (h.sub (us:=y.tmps) (by simp;grind))]
 case yA kd x y z=>rw[eG (h.sub (us:=x.tmps) (by simp;grind)),eG (h.sub (us:=y.tmps) (by simp;grind)),eG (h.sub (us:=z.tmps) (by simp;grind))]
 case D9 sz b z x y=>rw[eG (h.sub (us:=x.tmps) (by simp;grind)),eG (h.sub (us:=y.tmps) (by simp;grind))]
 case Rn n sz x y=>rw[eG (h.sub (us:=x.tmps) (by simp;grind)),eG (h.sub (us:=y.tmps) (by simp;grind))]
 case H8 x=>rw[eG h]
 case P5 x=>rw[eG h]
 case rng x=>rw[eG h]
 case nQ x=>rw[eG h]
 case wrap n x=>rw[eG h]
 case del kd x y=>rw[eG (h.sub (us:=x.tmps) (by simp;grind)),eG (h.sub (us:=y.tmps) (by simp;grind))]
 case Nx n sz kd x y=>rw[eG (h.sub (us:=x.tmps) (by simp;grind)),eG (h.sub (us:=y.tmps) (by simp;grind))]
 case mm m x y=>rw[eG (h.sub (us:=x.tmps) (by simp;grind)),eG (h.sub (us:=y.tmps) (by simp;grind))]
def Qi{e e':ae}{S:St}{k:K}(h:rN k.tmps e e'):cf e' S k=cf e S k:=by
 cases k<;>simp only[K.tmps]at h<;>simp only[cf]
 case mv x=>rw[eG h]
 case pick c a b=>
  have ha:=eG (h.sub (us:=a.tmps) (by simp;grind));have hb:=eG (h.sub (us:=b.tmps) (by simp;grind));rw[eG (h.sub (us:=c.tmps) (by simp;grind))];split
  .rename_i t _;cases t<;>simp[ha,hb]
  .rfl
 case box x=>rw[eG h]
 case build z ps=>rw[qeu h]
 case Fq sz xs=>rw[Lt h]
 case ld k a=>rw[eG h]
 case oV n a x=>rw[eG (h.sub (us:=a.tmps) (by simp;grind)),eG (h.sub (us:=x.tmps) (by simp;grind))]
 case GW x=>rw[eG h]
 case bin op a x=>rw[eG (h.sub (us:=a.tmps) (by simp;grind)),eG (h.sub (us:=x.tmps) (by simp;grind))]
 case eq kd ng a x=>rw[eG (h.sub (us:=a.tmps) (by simp;grind)),eG (h.sub (us:=x.tmps) (by simp;grind))]
 case un op x=>rw[eG h]
 case fa op x=>rw[eG h]
 case ia sz a x=>rw[eG (h.sub (us:=a.tmps) (by simp;grind)),eG (h.sub (us:=x.tmps) (by simp;grind))]
 case idx a x=>rw[eG (h.sub (us:=a.tmps) (by simp;grind)),eG (h.sub (us:=x.tmps) (by simp;grind))]
 case Iq o k x=>rw[eG h]
 case slc s sz x lo hi=>rw[eG (h.sub (us:=x.tmps) (by simp;grind)),qes (h.sub (us:=lo.toList.flatMap bK.tmps) (by simp;grind)),qes (h.sub (us:=hi.toList.flatMap bK.tmps) (by simp;grind))]
 case ext i x=>rw[eG h]
 case len s x=>rw[eG h]
 case fq sz b a x=>rw[eG (h.sub (us:=a.tmps) (by simp;grind)),eG (h.sub (us:=x.tmps) (by simp;grind))]
 case Jv k fs cs=>rw[Lt (h.sub (us:=fs.flatMap bK.tmps) (by simp;grind)),Lt (h.sub (us:=cs.flatMap bK.tmps) (by simp;grind))]
 case conv k x=>rw[eG h]
 case ex k=>exact qev h
def K.writes:K->Bool
 |.new _|.box _|.oV ..|.fq ..|.call ..=>true
 |.ex k=>k.writes
 |_=>false
def qex{e:ae}{S S':St}{k:X}{r:V}(hw:k.writes=false)(h:bI e S k=some (r,S')):S'=S:=by
 cases k<;>simp only[X.writes,OZ]at hw<;>simp only[bI]at h
 all_goals first
  |(simp only[xJ]at h;obtain⟨_,_,h⟩:=h)
  |skip
 all_goals (repeat' split at h)
 all_goals first
  |(cases h;done)
  |(simp only[ep,Prod.mk.injEq]at h;obtain⟨_,_,_,h⟩:=h;exact h.symm)
  |(simp only[Option.some.injEq,Prod.mk.injEq]at h;exact h.2.symm)
def Lr{e:ae}{S S':St}{k:K}{r:V}(hw:k.writes=false)(h:cf e S k=some (r,S')):S'=S:=by
 cases k<;>simp only[K.writes,OZ]at hw<;>simp only[cf]at h
 case ex k=>exact qex hw h
 all_goals first
  |(simp only[ep,Prod.mk.injEq]at h;obtain⟨_,_,_,h⟩:=h;exact h.symm)
  |skip
 all_goals first
  |(simp only[xJ]at h;obtain⟨_,_,h⟩:=h)
  |skip
 all_goals (repeat' split at h)
 all_goals first
  |(cases h;done)
  |(simp only[ep,Prod.mk.injEq]at h;obtain⟨_,_,_,h⟩:=h;exact h.symm)
  |(simp only[Option.some.injEq,Prod.mk.injEq]at h;exact h.2.symm)
def K.reads:K->Bool
 |.new _|.box _|.oV ..|.fq ..|.call ..|.ld ..|.ia ..|.slc ..=>true
 |.ex k=>k.reads
 |_=>false
def qew{e:ae}{S T:St}{k:X}(hr:k.reads=false):bI e T k=(bI e S k).map λp=>(p.1,T):=by
 cases k<;>simp only[X.reads,OZ]at hr<;>simp only[bI]
 case wrap n x=>
  cases x.ev e with
  |none=>rfl
  |some v=>simp only[gG];split<;>rfl
 all_goals ((repeat' split)<;>first|rfl|(simp only[KU];rfl)|simp)
def qog{e:ae}{S T:St}{k:K}(hr:k.reads=false):cf e T k=(cf e S k).map λp=>(p.1,T):=by
 cases k<;>simp only[K.reads,OZ]at hr<;>simp only[cf]
 case ex k=>exact qew hr
 all_goals first
  |rfl
  |(simp only[KU];rfl)
  |(simp only[Option.map_bind];congr 1;funext v;simp only[Function.comp];first|rfl|(simp only[KU];rfl)|(repeat' split)<;>first|rfl|(simp only[KU];rfl))
  |((repeat' split)<;>first|rfl|(simp only[KU];rfl)|simp)
end Go.Proofs.YtbifpocccfkhhaaGreatDoor
