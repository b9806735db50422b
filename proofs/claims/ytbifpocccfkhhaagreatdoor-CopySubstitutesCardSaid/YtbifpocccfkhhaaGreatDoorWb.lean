/- A part. -/
import Derived.Test.YtbifpocccfkhhaaGreatDoorWa
import Derived.MapFrom
import Derived.Laws.MakeOwn
import Derived.Laws.BytesString
import Derived.Maps.RangeRun
import Derived.Deep.LoopGhost
import Derived.OrdersIn
set_option linter.all false
namespace Go.Proofs.YtbifpocccfkhhaaGreatDoor
open Go
inductive fS where
 |str
 |int (k:IntKind)
 deriving DecidableEq,Inhabited
def nN:fS->V->V->Option Bool
 |.str,.str a,.str b=>some (a.data.toList==b.data.toList)
 |.int k,.int j a,.int j' b=>if j=k/\j'=k then some (a==b) else none
 |_,_,_=>none
def jF(kd:fS)(k:V):List (V×V)->Nat->Option (Option (Nat×V))
 |[],_=>some none
 |(k',v)::es,i=>match nN kd k k' with
  |some true=>some (some (i,v))
  |some false=>jF kd k es (i+1)
  |none=>none
def nO(P:Program)(t:TypeId):Option fS:=
 match P.underlying t with
 |some .string=>some .str
 |some (.int k)=>some (.int k)
 |_=>none
def qQ(kd:fS):V->Bool
 |.str _=>kd==.str
 |.int k _=>kd==.int k
 |_=>false
def yd(E:En)(es:List (V×V))(l:List MapEntry):Prop:=es.length=l.length/\∀(i:Nat) (k v:V) (e:MapEntry),es[i]?=some (k,v)->l[i]?=some e->VR E k e.key/\VR E v e.val
def Vb{E:En}{P:Program}{kd:fS}{t:TypeId}{d:TypeDesc}(ht:nO P t=some kd)(hd:P.underlying t=some d){x y:V}{u v:Value}{b:Bool}(hx:VR E x u)(hy:VR E y v)(h:nN kd x y=some b):
  Instr.sameNow d u v=some b/\MapKept.IsKey d u:=by
 unfold nO at ht;rw[hd]at ht;split at ht<;>simp only[Option.some.injEq,reduceCtorEq]at ht<;>rename_i he<;>cases he<;>subst ht
 .cases hx<;>cases hy<;>simp only[nN,reduceCtorEq,Option.some.injEq]at h;rename_i a b';refine⟨?_,trivial⟩;simp only[Instr.sameNow,Option.some.injEq];rw[<-h,dq,MapKept.bytes_beq];obtain⟨x⟩:=a;obtain⟨y⟩:=b';simp
 .cases hx<;>cases hy<;>simp only[nN,reduceCtorEq]at h;split at h<;>cases h;rename_i hk;obtain⟨rfl,rfl⟩:=hk;exact⟨by simp[Instr.sameNow],rfl⟩
def K3{E:En}{P:Program}{kd:fS}{t:TypeId}{d:TypeDesc}(ht:nO P t=some kd)(hd:P.underlying t=some d){x:V}{u:Value}(hx:VR E x u)(h:qQ kd x=true):MapKept.IsKey d u:=by
 unfold nO at ht;rw[hd]at ht;split at ht<;>simp only[Option.some.injEq,reduceCtorEq]at ht<;>rename_i he<;>cases he<;>subst ht
 .cases hx<;>simp[qQ]at h;trivial
 .cases hx<;>simp[qQ]at h;exact h.symm
def xg{E:En}{P:Program}{kd:fS}{t:TypeId}{d:TypeDesc}(ht:nO P t=some kd)(hd:P.underlying t=some d){x:V}{u:Value}(hx:VR E x u):∀(es:List (V×V)) (l:List MapEntry) (i:Nat) (r:Option (Nat×V)),yd E es l->jF kd x es i=some r->
  (r=none/\Instr.findNow d u l i=some none)\/∃j v e,r=some (i+j,v)/\Instr.findNow d u l i=some (some (i+j,e.val))/\VR E v e.val/\l[j]?=some e/\VR E x e.key/\j<es.length/\Instr.sameNow d u e.key=some true
 |[],l,i,r,hr,h=>by
  have:l=[]:=Iq (by have:=hr.1;simp at this;omega);subst this;simp only[jF,Option.some.injEq]at h;exact .inl ⟨h.symm,rfl⟩
 |(k,v)::es,l,i,r,hr,h=>by
  match l,hr with
  |[],hr=>exact absurd hr.1 sM
  |e::l,hr=>
   obtain⟨h1,h2⟩:=hr.2 0 k v e rfl rfl;simp only[jF]at h;split at h
   .rename_i hk;obtain⟨s1,s2⟩:=Vb ht hd hx h1 hk;cases h;refine .inr ⟨0,v,e,rfl,by simp[Instr.findNow,s1],h2,rfl,?_,by simp,s1⟩;unfold nO at ht;rw[hd]at ht;split at ht<;>simp only[Option.some.injEq,reduceCtorEq]at ht<;>rename_i he<;>cases he<;>subst ht
    .cases hx<;>generalize hek:e.key=ek at *<;>cases h1<;>simp only[nN,reduceCtorEq,Option.some.injEq]at hk;rename_i a b;obtain⟨x⟩:=a;obtain⟨y⟩:=b;simp at hk;subst hk;exact .str _
    .cases hx<;>generalize hek:e.key=ek at *<;>cases h1<;>simp only[nN,reduceCtorEq]at hk;split at hk
     .rename_i hkk;obtain⟨rfl,rfl⟩:=hkk;simp at hk;subst hk;exact .int _ _
     .cases hk
   .rename_i hk;obtain⟨s1,s2⟩:=Vb ht hd hx h1 hk;have hr':yd E es l:=⟨by have:=hr.1;simp at this;exact this,fun j k' v' e' hj hj'=>hr.2 (j+1) k' v' e' (by simpa using hj) (by simpa using hj')⟩;rcases xg ht hd hx es l (i+1) r hr' h with ⟨g1,g2⟩|⟨j,v',e',g1,g2,g3,g4,g5,g6,g7⟩
    .exact .inl ⟨g1,by simp[Instr.findNow,s1,g2]⟩
    .refine .inr ⟨j+1,v',e',by rw[g1];simp;omega,by simp only[Instr.findNow,s1,g2];simp;omega,g3,by simpa using g4,g5,by simp;omega,g7⟩
   .cases h
def uk(S:St):V->Option (List (V×V))
 |.cG=>some []
 |.map l=>match S[l]? with
  |some (.map es _ _)=>some es
  |_=>none
 |_=>none
def mA(S:St)(kd:fS)(z:V)(ok:Bool)(x k:V):Option V:=
 if qQ kd k=true then match uk S x with
  |some es=>match jF kd k es 0 with
   |some (some (_,v))=>some (if ok then .aH [v,.bool true] else v)
   |some none=>some (if ok then .aH [z,.bool false] else z)
   |none=>none
  |none=>none
 else none
def nR(P:Program)(t:TypeId):Option (fS×TypeId×TypeId):=
 match P.underlying t with
 |some (.map k e)=>(nO P k).map fun kd=>(kd,k,e)
 |_=>none
def qjI{E:En}{S:St}{P:Program}{w:World}{x k r z:V}{u ku:Value}{t kt et:TypeId}{kd:fS}{ok:Bool}{i:TypeInfo}{zv:Value}(hs:SR E S w)(ht:nR P t=some (kd,kt,et))(hi:P.info? et=some i)(hz:i.zero=some zv)(hzz:VR E z zv)(hx:VR E x u)(hk:VR E k ku)(h:mA S kd z ok x k=some r):
  cu P E S w (Instr.lookup t u ku ok) r S:=by
 unfold nR at ht;split at ht<;>try cases ht
 rename_i k' e' hu
 cases hkk:nO P k' with
 |none=>rw[hkk]at ht;cases ht
 |some kd'=>
  rw[hkk]at ht;simp only[dM,Option.some.injEq,Prod.mk.injEq]at ht;obtain⟨rfl,rfl,rfl⟩:=ht
  have hd:∃d,P.underlying k'=some d:=by
   unfold nO at hkk
   cases hd:P.underlying k' with
   |none=>rw[hd]at hkk;cases hkk
   |some d=>exact⟨d,rfl⟩
  obtain⟨d,hd⟩:=hd;unfold mA at h;split at h
  case isFalse=>cases h
  rename_i hki;have hkey:=K3 hkk hd hk hki;split at h<;>try cases h
  rename_i es hes
  have hent:∃l:Array MapEntry,yd E es l.toList/\((u=.map none/\l=#[])\/∃b clock,u=.map (some b)/\w.heap[b]?=some (.map l clock)):=by
   cases hx<;>simp only[uk,reduceCtorEq,Option.some.injEq]at hes
   .subst hes;exact⟨#[],⟨rfl,fun i k v e h=>by simp at h⟩,.inl ⟨rfl,rfl⟩⟩
   .rename_i l y hy;split at hes<;>cases hes;rename_i hl;obtain⟨y',entries,h1,h2,h3,_,h4⟩:=hs.obs l _ hl;rw[hy]at h1;cases h1;exact⟨entries,⟨by simpa using h3,fun i k v e hk he=>h4 i k v e hk (by simpa using he)⟩,.inr ⟨_,_,rfl,h2⟩⟩
  obtain⟨l,hl,hform⟩:=hent;have hck:(Instr.checkKey l.isEmpty 10000 k' ku).run P w=.ok () w:=MapKept.run_checkKey hd hkey _ _;split at h<;>try cases h
  .rename_i j v hf;rcases xg hkk hd hk es l.toList 0 _ hl hf with ⟨g1,_⟩|⟨j',v',e,g1,g2,g3,_⟩
   .cases g1
   .simp only[Option.some.injEq,Prod.mk.injEq]at g1;obtain⟨rfl,rfl⟩:=g1;have hfk:=MapKept.run_findKey (P:=P) (w:=w) hd g2;refine⟨if ok then .tuple #[e.val,.bool true] else e.val,E,w,?_,?_,hs,Ext.refl _ _ _ _,cq _⟩
    .rcases hform with ⟨rfl,rfl⟩|⟨b,clock,rfl,hb⟩
     .simp only[Instr.lookup,Sem.run_bind,dz hu,Result.andThen,Sem.run_pure,hck,hfk]
     .simp only[Instr.lookup,Sem.run_bind,dz hu,Result.andThen,MapKept.run_getObj_map hb,Sem.run_pure,hck,hfk]
    .cases ok
     .exact g3
     .refine .aH rfl fun i v u hv hu=>?_
      match i with
      |0=>simp at hv hu;subst hv;subst hu;exact g3
      |1=>simp at hv hu;subst hv;subst hu;exact .bool _
      |i+2=>simp at hv
  .rename_i hf;rcases xg hkk hd hk es l.toList 0 _ hl hf with ⟨_,g2⟩|⟨j',v',e,g1,_⟩
   .have hfk:=MapKept.run_findKey (P:=P) (w:=w) hd g2;refine⟨if ok then .tuple #[zv,.bool false] else zv,E,w,?_,?_,hs,Ext.refl _ _ _ _,cq _⟩
    .rcases hform with ⟨rfl,rfl⟩|⟨b,clock,rfl,hb⟩
     .simp only[Instr.lookup,Sem.run_bind,dz hu,Result.andThen,Sem.run_pure,hck,hfk,qk hi hz]
     .simp only[Instr.lookup,Sem.run_bind,dz hu,Result.andThen,MapKept.run_getObj_map hb,Sem.run_pure,hck,hfk,qk hi hz]
    .cases ok
     .exact hzz
     .refine .aH rfl fun i v u hv hu=>?_
      match i with
      |0=>simp at hv hu;subst hv;subst hu;exact hzz
      |1=>simp at hv hu;subst hv;subst hu;exact .bool _
      |i+2=>simp at hv
   .cases g1
def qjJ{E:En}{S:St}{P:Program}{w:World}{t:TypeId}(hs:SR E S w):cu P E S w (Instr.makeMap t none) (.map S.length) (S++[.map [] [] 0]):=by
 have hno:∀st,E.ρ S.length st=none:=fun st=>by
  cases hr:E.ρ S.length st with
  |none=>rfl
  |some x=>exact absurd (hs.dom _ _ _ hr) oM
 obtain⟨n1,n2⟩:=hs.new (o:=.map #[] 0) (ob:=.map [] [] 0) (st:=0) (N:=0) (sz:=0) ⟨⟨w.heap.size,0,0⟩,#[],iG,xA,rfl,rfl,fun i k v e h=>by simp at h⟩;refine⟨.map (some w.heap.size),_,_,?_,?_,n1,n2,by simp⟩
 .simp[Instr.makeMap,newObj,Sem.run,Result.andThen]
 .exact VR.map (x:=⟨w.heap.size,0,0⟩) iG
def kE(S:St)(kd:fS)(x k v:V):Option St:=
 if qQ kd k=true then match x with
  |.map l=>match S[l]? with
   |some (.map es bs ck)=>match jF kd k es 0 with
    |some (some (i,_))=>some (S.set l (.map (es.set i (k,v)) bs ck))
    |some none=>some (S.set l (.map (es++[(k,v)]) (bs++[ck]) (ck+1)))
    |none=>none
   |_=>none
  |_=>none
 else none
def YU{E:En}{S S':St}{P:Program}{w:World}{x k v:V}{u ku vu:Value}{t kt et:TypeId}{kd:fS}(hs:SR E S w)(ht:nR P t=some (kd,kt,et))(hx:VR E x u)(hk:VR E k ku)(hv:VR E v vu)(h:kE S kd x k v=some S'):
    ∃E' w',(Instr.mapUpdate t u ku vu).run P w=.ok () w'/\SR E' S' w'/\Ext S.length E S w E' S' w'/\S.length<=S'.length:=by
  unfold nR at ht;split at ht<;>try cases ht
  rename_i k' e' hu
  cases hkk:nO P k' with
  |none=>rw[hkk]at ht;cases ht
  |some kd'=>
    rw[hkk]at ht;simp only[dM,Option.some.injEq,Prod.mk.injEq]at ht;obtain⟨rfl,rfl,rfl⟩:=ht
    have hd:∃d,P.underlying k'=some d:=by
      unfold nO at hkk
      cases hd:P.underlying k' with
      |none=>rw[hd]at hkk;cases hkk
      |some d=>exact⟨d,rfl⟩
    obtain⟨d,hd⟩:=hd;unfold kE at h;split at h
    case isFalse=>cases h
    rename_i hki;have hkey:=K3 hkk hd hk hki;split at h<;>try cases h
    rename_i l;split at h<;>try cases h
    rename_i es bs clock hl
    cases hx with
    |map hy=>
      rename_i y;obtain⟨y',entries,h1,hb,h3,hbs,h4⟩:=hs.obs l _ hl;rw[hy]at h1;cases h1;have hlive:eY S l:=⟨_,hl,by simp⟩;have hent:yd E es entries.toList:=⟨by simpa using h3,fun i k v e hk he=>h4 i k v e hk (by simpa using he)⟩;have hck:(Instr.checkKey false 10000 k' ku).run P w=.ok () w:=MapKept.run_checkKey hd hkey _ _;have put:∀(es':List (V×V)) (bs':List Nat) (yK:Array MapEntry) (clock':Nat),yd E es' yK.toList->bs'=yK.toList.map (·.born)->
          ∃E' w',w'={ w with heap:=w.heap.setIfInBounds y.b (.map yK clock') }/\SR E' (S.set l (.map es' bs' clock')) w'/\Ext S.length E S w E' (S.set l (.map es' bs' clock')) w':=by
        intro es' bs' yK clock' he hbs';have hlt:y.b<w.heap.size:=(gY.1 hb).1;have:=hs.change (E':=E) (w':={ w with heap:=w.heap.setIfInBounds y.b (.map yK clock') }) (ob:=.map es' bs' clock') hlive rfl (En.le_refl E) (fun _ _ _=>rfl) (fun st z hz=>.inl ⟨st,z,hz,rfl⟩) sM
          (fun b hb' hne=>by
            show(w.heap.setIfInBounds y.b _)[b]?=_;rw[nh (hne 0 y hy)]) rfl ⟨y,yK,hy,by simp[hlt],by simpa using he.1,hbs',fun i k v e hk he'=>he.2 i k v e hk (by simpa using he')⟩
        exact⟨E,_,rfl,this.1,this.2⟩
      split at h<;>try cases h
      · rename_i i v0 hf;rcases xg hkk hd hk es entries.toList 0 _ hent hf with ⟨g1,_⟩|⟨j,v',e,g1,g2,g3,g4,g5,g6,g7⟩
        · cases g1
        · simp only[Option.some.injEq,Prod.mk.injEq,iQ]at g1;obtain⟨rfl,rfl⟩:=g1
          have hkeq:e.key=ku:=by
            have hx:=g5;cases hk<;>cases hkk':kd'<;>simp[qQ,hkk']at hki<;>(generalize e.key=q at hx;cases hx;rfl)
          have hge:entries[i]?=some e:=by simpa using g4
          have hfk:=MapKept.run_findKey (P:=P) (w:=w) hd g2
          obtain ⟨E',w',rfl,q1,q2⟩:=put (es.set i (k,v)) bs (entries.modify i fun e=>{ e with key:=ku,val:=vu }) clock ⟨by simp[h3],fun j' k2 v2 e2 hk2 he2=>by
            have jW:(entries.modify i fun e=>{ e with key:=ku,val:=vu })[j']?=some e2:=by rw[<-Ai];exact he2
            rw[vv]at jW;by_cases hj:i=j'
            · subst hj;rw[bJ g6]at hk2;cases hk2;rw[ai rfl,hge]at jW;cases jW;exact⟨hk,hv⟩
            · rw[bC hj]at hk2;rw[aj hj]at jW
              exact h4 j' k2 v2 e2 hk2 jW⟩ (by
            rw[hbs];apply ou;intro q;simp only[dS,Ai,vv];split
            · cases entries[q]?<;>rfl
            · rfl)
          refine⟨E',_,?_,q1,q2,by simp⟩;simp[Instr.mapUpdate,dz hu,MapKept.run_getObj_map hb,hck,hfk,hge,hkeq,MapKept.run_keyThatStays hkey,MapKept.run_setObj_map _ hb,Result.andThen]
      · rename_i hf;rcases xg hkk hd hk es entries.toList 0 _ hent hf with ⟨_,g2⟩|⟨j',v',e,g1,_⟩
        · have hfk:=MapKept.run_findKey (P:=P) (w:=w) hd g2
          obtain ⟨E',w',rfl,q1,q2⟩:=put (es++[(k,v)]) (bs++[clock]) (entries.push { key:=ku,val:=vu,born:=clock }) (clock+1) ⟨by simp[h3],fun j' k2 v2 e2 hk2 he2=>by
            have jW:(entries.push { key:=ku,val:=vu,born:=clock })[j']?=some e2:=by rw[<-Ai];exact he2
            rw[pz]at jW;by_cases hj:j'=entries.size
            · rw[ai hj]at jW;cases jW;rw[bK oM,show j'-es.length=0 by omega]at hk2;simp at hk2;obtain⟨rfl,rfl⟩:=hk2;exact⟨hk,hv⟩
            · rw[aj hj]at jW;have:=(gY.1 jW).1;rw[b8 oM]at hk2;exact h4 j' k2 v2 e2 hk2 jW⟩ (by rw[hbs];simp)
          refine⟨E',_,?_,q1,q2,by simp⟩;simp[Instr.mapUpdate,dz hu,MapKept.run_getObj_map hb,hck,hfk,MapKept.run_setObj_map _ hb,Result.andThen]
        · cases g1
inductive CK where
 |b|i| s
 deriving DecidableEq,Inhabited
def nz:CK->V->V->Option Bool
 |.b,.bool a,.bool b=>some (a==b)
 |.i,.int k a,.int k' b=>if k=k' then some (a==b) else none
 |.s,.str a,.str b=>some (a.data.toList==b.data.toList)
 |_,_,_=>none
def fU(xs ys:List V):List (Nat×CK)->Option Bool
 |[]=>some true
 |(o,c)::os=>match xs[o]?,ys[o]? with
  |some a,some b=>match nz c a b with
   |some true=>fU xs ys os
   |some false=>some false
   |none=>none
  |_,_=>none
def shift(off:Nat)(p:Nat×CK):Nat×CK:=(p.1+off,p.2)
def Bh(P:Program)(g:TypeId->Option (List (Nat×CK)))(size:Nat):List Field->Option (List (Nat×CK))
 |[]=>some []
 | f :: fs => if f.name = "_" then none else match jk P f.type, g f.type, Bh P g size fs with
  |some k,some os,some es=>match k with
   |none=>if f.offset+1<=size/\os.all (fun o=>decide (o.1<1))=true then some (os.map (shift f.offset)++es) else none
   |some n=>if f.offset+n<=size/\os.all (fun o=>decide (o.1<n))=true then some (os.map (shift f.offset)++es) else none
  |_,_,_=>none
def qI(P:Program):Nat->TypeId->Option (List (Nat×CK))
 |0,_=>none
 |d+1,t=>match P.underlying t with
  |some .bool=>some [(0,.b)]
  |some (.int _)=>some [(0,.i)]
  |some .string=>some [(0,.s)]
  |some (.struct fs)=>if P.stoodInHeld t=true then none else match P.info? t with
   |some i=>Bh P (qI P d) i.size fs.toList
   |none=>none
  |_=>none
def Jy{xs ys:List V}:∀{a b:List (Nat×CK)},fU xs ys (a++b)=match fU xs ys a with
  |some true=>fU xs ys b
  |r=>r
 |[],b=>rfl
 |(o,c)::a,b=>by
  simp only[cP,fU];split
  .split
   .exact Jy
   .rfl
   .rfl
  .rfl
def S5{xs ys xs' ys':List V}{off:Nat}:∀{os:List (Nat×CK)},(∀o,o∈os->xs[o.1+off]?=xs'[o.1]?/\ys[o.1+off]?=ys'[o.1]?)->fU xs ys (os.map (shift off))=fU xs' ys' os
 |[],_=>rfl
 |(o,c)::os,h=>by
  obtain⟨h1,h2⟩:=h (o,c) sM;simp only[b9,fU,shift,h1,h2];rw[S5 (os:=os) fun o ho=>h o (by simp[ho])]
def qgA{P:Program}{t:TypeId}{n:Nat}(h:jk P t=some (some n)):∃i,P.info? t=some i/\i.size=n:=by
 unfold jk at h;split at h
 .cases hi:P.info? t with
  |none=>rw[hi]at h;cases h
  |some i=>rw[hi]at h;cases h;exact⟨i,rfl,rfl⟩
 .cases hi:P.info? t with
  |none=>rw[hi]at h;cases h
  |some i=>rw[hi]at h;cases h;exact⟨i,rfl,rfl⟩
 .cases h
 .cases h
def qcj{P:Program}{t:TypeId}{d:Nat}{os:List (Nat×CK)}(hk:jk P t=some none)(h:qI P d t=some os):(∃c,os=[(0,c)])/\∀fs,P.underlying t≠some (.struct fs):=by
 cases d with
 |zero=>cases h
 |succ d=>
  simp only[qI]at h;split at h
  .rename_i hd;cases h;exact⟨⟨_,rfl⟩,fun fs=>by rw[hd];simp⟩
  .rename_i hd;cases h;exact⟨⟨_,rfl⟩,fun fs=>by rw[hd];simp⟩
  .rename_i hd;cases h;exact⟨⟨_,rfl⟩,fun fs=>by rw[hd];simp⟩
  .rename_i fs hd;exfalso;simp only[jk,hd]at hk;cases hi:P.info? t<;>rw[hi]at hk<;>cases hk
  .cases h
def qci{P:Program}{t:TypeId}{d n:Nat}{os:List (Nat×CK)}(hk:jk P t=some (some n))(h:qI P d t=some os):∃fs,P.underlying t=some (.struct fs):=by
 cases d with
 |zero=>cases h
 |succ d=>
  simp only[qI]at h;split at h
  .rename_i hd;simp[jk,hd]at hk
  .rename_i hd;simp[jk,hd]at hk
  .rename_i hd;simp[jk,hd]at hk
  .rename_i fs hd;exact⟨fs,hd⟩
  .cases h
def nn(P:Program)(t:TypeId)(x:V):Prop:=match P.underlying t with
 |some (.struct _)=>x.isAgg=true/\∃i,P.info? t=some i/\x.cells.length=i.size
 |_=>x.isAgg=false
def tO{x:V}(h:x.isAgg=false):x.cells=[x]:=by
 cases x<;>first|rfl|simp[V.isAgg]at h
def V6{x:V}{off n:Nat}(ha:x.isAgg=true)(hle:off+n<=x.cells.length):∃r,x.part off (some n)=some r/\r.isAgg=true/\r.cells.length=n/\∀o,o<n->x.cells[o+off]?=r.cells[o]?:=by
 cases x<;>simp[V.isAgg]at ha;rename_i cs;simp only[V.cells]at hle;simp only[V.part];split
 .rename_i h;obtain⟨rfl,rfl,_⟩:=h;exact⟨_,rfl,rfl,rfl,fun o _=>rfl⟩
 .refine⟨_,rfl,rfl,by simp[V.cells];omega,fun o ho=>?_⟩;simp only[V.cells];rw[lj ho,kh,Nat.add_comm]
def qdd{E:En}{P:Program}{w:World}:∀(d:Nat) (t:TypeId) (os:List (Nat×CK)) (x y:V) (u v:Value) (b:Bool),qI P d t=some os->VR E x u->VR E y v->nn P t x->nn P t y->fU x.cells y.cells os=some b->(Op.equalIn d t u v).run P w=.ok b w:=by
 intro d
 induction d with
 |zero=>intro t os x y u v b hc;cases hc
 |succ d ih=>
  intro t os x y u v b hc hx hy fx fy h;simp only[qI]at hc;split at hc<;>try cases hc
  .rename_i hd;simp only[nn,hd]at fx fy;rw[tO fx,tO fy]at h;simp only[fU,vK]at h;cases hx<;>cases hy<;>simp[nz]at h;simp only[Op.equalIn,Sem.run_bind,dz hd,Result.andThen,Sem.run_pure];rename_i p q;cases p<;>cases q<;>simp at h<;>subst h<;>rfl
  .rename_i k hd;simp only[nn,hd]at fx fy;rw[tO fx,tO fy]at h;simp only[fU,vK]at h;cases hx<;>cases hy<;>simp[nz]at h;rename_i k1 p k2 q;simp only[Op.equalIn,Sem.run_bind,dz hd,Result.andThen];by_cases hk:k1=k2
   .subst hk;simp at h;simp only[if_true,Sem.run_pure];by_cases hpq:p=q
    .subst hpq;simp at h;subst h;simp
    .have:(p==q)=false:=by simpa using hpq
     rw[this]at h |-;simp at h;subst h;rfl
   .simp[hk]at h
  .rename_i hd;simp only[nn,hd]at fx fy;rw[tO fx,tO fy]at h;simp only[fU,vK]at h;cases hx<;>cases hy<;>simp only[nz,reduceCtorEq]at h<;>try (cases h;done)
   rename_i p q;simp only[Op.equalIn,Sem.run_bind,dz hd,Result.andThen,Sem.run_pure]
   have hpq:(p==q)=(p.data.toList==q.data.toList):=by
    rw[dq,MapKept.bytes_beq];obtain⟨x⟩:=p;obtain⟨y⟩:=q;simp
   rw[hpq];cases hb:(p.data.toList==q.data.toList)<;>rw[hb]at h<;>simp at h<;>subst h<;>rfl
  .rename_i fs hd;split at hc
   .cases hc
   rename_i hs;split at hc<;>try cases hc
   rename_i i hi;simp only[nn,hd]at fx fy;obtain⟨ax,ix,hix,lx⟩:=fx;obtain⟨ay,iy,Uj,ly⟩:=fy;rw[hi]at hix Uj;cases hix;cases Uj;obtain⟨cs,rfl⟩:∃cs,x=.agg cs:=by cases x<;>simp[V.isAgg]at ax;exact⟨_,rfl⟩
   obtain⟨ds,rfl⟩:∃cs,y=.agg cs:=by cases y<;>simp[V.isAgg]at ay;exact⟨_,rfl⟩
   cases hx with
   |agg hl g=>
    rename_i us
    cases hy with
    |agg hl' g'=>
     rename_i vs;have hx:VR E (.agg cs) (.agg us):=.agg hl g;have hy:VR E (.agg ds) (.agg vs):=.agg hl' g';simp only[V.cells]at h lx ly;have hloop:∀(l:List Field) (os:List (Nat×CK)) (b:Bool),Bh P (qI P d) i.size l=some os->fU cs ds os=some b->
       (forIn (m:=Sem) l ((none,()):Option Bool×Unit) fun f __s=>
        if f.name ≠ "_" then do
         let __do_lift <-part f.type us f.offset
         let qaZ <-part f.type vs f.offset
         let __do_lift <-Op.equalIn d f.type __do_lift qaZ
         if(!__do_lift)=true then pure (ForInStep.done (some false,()))
          else pure (ForInStep.yield (none,()))
        else pure (ForInStep.yield (none,()))).run P w=.ok (if b then none else some false,()) w:=by
      intro l
      induction l with
      |nil=>
       intro os b hc h;simp only[Bh,Option.some.injEq]at hc;subst hc;simp only[fU,Option.some.injEq]at h;subst h;simp
      |cons f l ihl=>
       intro os b hc h;simp only[Bh]at hc;split at hc
       .cases hc
       rename_i hname;split at hc<;>try cases hc
       rename_i k os1 es hk hg hes;have hparts:∃n px py,os1.all (fun o=>decide (o.1<n))=true/\os=os1.map (shift f.offset)++es/\(V.agg cs).part f.offset k=some px/\(V.agg ds).part f.offset k=some py/\nn P f.type px/\nn P f.type py/\
         (∀o,o<n->cs[o+f.offset]?=px.cells[o]?)/\(∀o,o<n->ds[o+f.offset]?=py.cells[o]?):=by
        cases k with
        |none=>
         simp only at hc;split at hc<;>cases hc;rename_i hcc;obtain⟨hle,hall⟩:=hcc;obtain⟨⟨c,rfl⟩,hns⟩:=qcj hk hg;rw[Jy]at h;simp only[b9,jj,shift,fU,iQ]at h;have h1:cs[f.offset]?=some (cs[f.offset]'oM):=by simp
         have h2:ds[f.offset]?=some (ds[f.offset]'oM):=by simp
         rw[h1,h2]at h;simp only at h
         have hagg:∀(c:CK) (p q:V),p.isAgg=true\/q.isAgg=true->nz c p q=none:=by
          intro c p q hpq;cases c<;>cases p<;>cases q<;>first|rfl|simp[V.isAgg]at hpq
         have hfit:∀p:V,p.isAgg=false->nn P f.type p:=fun p hp=>by
          unfold nn;split
          .rename_i fs' hfs;exact absurd hfs (hns fs')
          .exact hp
         refine⟨1,cs[f.offset]'oM,ds[f.offset]'oM,hall,rfl,h1,h2,hfit _ ?_,hfit _ ?_,fun o ho=>?_,fun o ho=>?_⟩
         .cases ha:(cs[f.offset]'oM).isAgg with
          |false=>rfl
          |true=>rw[hagg c _ _ (.inl ha)]at h;cases h
         .cases ha:(ds[f.offset]'oM).isAgg with
          |false=>rfl
          |true=>rw[hagg c _ _ (.inr ha)]at h;cases h
         .have:o=0:=by omega
          subst this;rw[iQ,h1,tO]
          .rfl
          .cases ha:(cs[f.offset]'oM).isAgg with
           |false=>rfl
           |true=>rw[hagg c _ _ (.inl ha)]at h;cases h
         .have:o=0:=by omega
          subst this;rw[iQ,h2,tO]
          .rfl
          .cases ha:(ds[f.offset]'oM).isAgg with
           |false=>rfl
           |true=>rw[hagg c _ _ (.inr ha)]at h;cases h
        |some n=>
         simp only at hc;split at hc<;>cases hc;rename_i hcc;obtain⟨hle,hall⟩:=hcc;obtain⟨px,p1,p2,p3,p4⟩:=V6 (x:=.agg cs) (off:=f.offset) (n:=n) rfl (by simp only[V.cells];omega);obtain⟨py,q1,q2,q3,q4⟩:=V6 (x:=.agg ds) (off:=f.offset) (n:=n) rfl (by simp only[V.cells];omega);refine⟨n,px,py,hall,rfl,p1,q1,?_,?_,p4,q4⟩
         all_goals
          obtain⟨fs',hfs⟩:=qci hk hg
          obtain⟨i',hi',hn'⟩:=qgA hk
          simp only[nn,hfs]
         .exact⟨p2,i',hi',by omega⟩
         .exact⟨q2,i',hi',by omega⟩
       obtain⟨n,px,py,hall,rfl,p1,p2,p3,p4,p5,p6⟩:=hparts;obtain⟨pu,r1,r2⟩:=Hl (P:=P) (w:=w) hk hx sM p1;obtain⟨pv,s1,s2⟩:=Hl (P:=P) (w:=w) hk hy sM p2;simp only[d6,cR]at hall;rw[Jy,S5 (xs':=px.cells) (ys':=py.cells) fun o ho=>⟨p5 o.1 (hall o ho),p6 o.1 (hall o ho)⟩]at h;simp only[List.forIn_cons,ne_eq,hname,not_false_eq_true,if_true,Sem.run_bind,r1,s1,Result.andThen]
       cases he:fU px.cells py.cells os1 with
       |none=>rw[he]at h;cases h
       |some bb=>
        rw[he]at h;have hrun:=ih f.type os1 px py pu pv bb hg r2 s2 p3 p4 he;simp only[hrun]
        cases bb with
        |true=>
         simp only at h;simp only[Bool.not_true,iz,if_false,Sem.run_pure];exact ihl es b hes h
        |false=>
         simp only[Option.some.injEq]at h;subst h;simp only[Am,if_true,Sem.run_pure,iz,if_false]
     have:=hloop fs.toList os b hc h;simp only[Op.equalIn,Sem.run_bind,dz hd,Result.andThen,run_program,hs,iz,if_false];rw[<-Array.forIn_toList,this];cases b<;>rfl
def zm(S:St)(sz bytes:Nat)(z:V)(l c:Int):Option (V×St):=
 if 0<=l/\l<=c/\(bytes:Int)*c<=281474976710656/\c<=9223372036854775807/\0<sz/\z.size=sz/\(z.cells.all V.flat)=true then
  some (.arr S.length 0 l.toNat l.toNat,S++[.arr (List.replicate l.toNat z) sz l.toNat])
 else none
def qjK{E:En}{S S':St}{P:Program}{w:World}{z r:V}{t e:TypeId}{i:TypeInfo}{zv:Value}{kl kc:IntKind}{l c:Int}(hs:SR E S w)(ht:P.underlying t=some (.slice e))(hi:P.info? e=some i)(hz:i.zero=some zv)(hzz:VR E z zv)(h:zm S i.size i.bytes z l c=some (r,S')):
  cu P E S w (Instr.makeSlice t (.int kl l) (.int kc c)) r S':=by
 unfold zm at h;split at h
 case isFalse=>cases h
 rename_i hc;obtain⟨h1,h2,h3,h4,h5,h6,h7⟩:=hc;simp only[Option.some.injEq,Prod.mk.injEq]at h;obtain⟨rfl,rfl⟩:=h;have hrun:=run_make (P:=P) w t e i zv ht hi hz kl kc l c h1 h2 h3 h4
 have hno:∀st,E.ρ S.length st=none:=fun st=>by
  cases hr:E.ρ S.length st with
  |none=>rfl
  |some x=>exact absurd (hs.dom _ _ _ hr) oM
 obtain⟨c1,c2⟩:=hzz.cells (nE h7);have hlc:l.toNat<=c.toNat:=by omega
 obtain ⟨n1,n2⟩:=hs.new (o:=.cells (madeCells zv.cells (c.toNat * i.size)) e (0,0)) (ob:=.arr (List.replicate l.toNat z) i.size l.toNat) (st:=l.toNat) (N:=c.toNat * i.size) (sz:=i.size) (by
  refine⟨⟨h5,by simp⟩,fun v hv=>?_,fun st y hy hst=>?_⟩
  .rw[List.mem_replicate]at hv;rw[hv.2];exact h6
  .by_cases hs1:st=l.toNat
   .subst hs1;rw[iG]at hy;cases hy;refine⟨by simp,rfl,_,e,xA,size_madeCells _ _,oD _ hlc,fun j v hv hj q c' hc'=>?_⟩;have hv':=dc hv;rw[List.mem_replicate]at hv';obtain⟨_,rfl⟩:=hv';have hq:q<i.size:=by rw[<-h6];exact(aT.1 hc').1
    obtain⟨d,hd,hdr⟩:=hzz.Fh (nE h7) hc'
    have hlt:j*i.size+q<c.toNat*i.size:=by
     have:(j+1)*i.size<=c.toNat*i.size:=oD _ oM;rw[gk]at this;omega
    refine⟨d,?_,hdr.mono (pR (hno _))⟩;have hsz:zv.cells.size=i.size:=by rw[<-c1];exact h6
    simp only[madeCells,tt];rw[Array.getElem?_range,ai hlt];simp only[dM,hsz];have hqs:=(gY.1 hd);obtain⟨hq1,hq2⟩:=hqs;rw[show(j*i.size+q)%i.size=q by rw[Nat.mul_comm,Nat.mul_add_mod,AO hq],getElem!_pos zv.cells q hq1,hq2]
   .exfalso;simp only[En.at]at hy;rw[aj (by simp;exact hs1),hno]at hy;cases hy)
 refine⟨_,_,_,hrun,?_,n1,n2,by simp⟩;have:=VR.arr (E:=E.at S.length l.toNat ⟨w.heap.size,c.toNat*i.size,i.size⟩) (l:=S.length) (off:=0) (len:=l.toNat) (cap:=c.toNat) (st:=l.toNat) iG sM hlc;simpa using this
def Gn(len sz:Nat)(p:V)(ix:Int):Option V:=if 0<=ix/\ix<len then rS p (ix.toNat*sz) else none
def IR(P:Program)(t:TypeId):Option (Nat×Nat):=
 match P.underlying t with
 |some (.array n e)=>match P.info? e with
  |some i=>if i.size=0 then none else some (n,i.size)
  |none=>none
 |_=>none
def qjF{E:En}{S:St}{P:Program}{w:World}{p r:V}{u:Value}{t:TypeId}{k:IntKind}{n sz:Nat}{ix:Int}(hs:SR E S w)(hp:VR E p u)(ho:IR P t=some (n,sz))(h:Gn n sz p ix=some r):
  cu P E S w (Instr.indexAt t u (.int k ix)) r S:=by
 unfold Gn at h;split at h
 case isFalse=>cases h
 rename_i hix;obtain⟨b,o,rfl,hr⟩:=hp.fa h;unfold IR at ho;split at ho<;>try cases ho
 rename_i n' e hu;split at ho<;>try cases ho
 rename_i i hi;split at ho<;>cases ho;rename_i hz;refine cu.pure hs ?_ hr;simp[Instr.indexAt,asIntOf,dz hu,Result.andThen,Instr.sureAddr,hix.1,hix.2,lO hi,oI]
def bytesOf:List V->Option (List UInt8)
 |[]=>some []
 |.int .u8 n::xs=>(bytesOf xs).map fun bs=>UInt8.ofNat n.toNat::bs
 |_=>none
def yA(S:St)(p:V):Option V:=
 (elems S p).bind fun xs=>(bytesOf xs).map fun bs=>.str ⟨bs.toArray⟩
def RN:∀{xs:List V} {bs:List UInt8},bytesOf xs=some bs->∃ns:List Int,xs=ns.map (V.int .u8)/\bs=ns.map fun n=>UInt8.ofNat n.toNat
 |[],bs,h=>by cases h;exact⟨[],rfl,rfl⟩
 |x::xs,bs,h=>by
  unfold bytesOf at h;split at h
  .rename_i he;cases he
  .rename_i n xs' he;cases he
   cases hb:bytesOf xs with
   |none=>rw[hb]at h;cases h
   |some bs'=>
    rw[hb]at h;cases h;obtain⟨ns,h1,h2⟩:=RN hb;exact⟨n::ns,by rw[h1];rfl,by rw[h2];rfl⟩
  .cases h
def Yh:∀(ns:List Int) (r:Bz),ns.foldl (fun r n=>r.push (UInt8.ofNat n.toNat)) r=⟨r.data++(ns.map fun n=>UInt8.ofNat n.toNat).toArray⟩
 |[],r=>by cases r;simp
 |n::ns,r=>by
  rw[vJ,Yh ns];simp[ByteArray.push]
def qeg(ns:List Int):fV (ns.map (V.int .u8))=ns.map (V.int .u8):=by
 induction ns with
 |nil=>rfl
 |cons n ns ih=>simp only[fV,b9,iO]at *;rw[ih];rfl
def qjw{E:En}{S:St}{P:Program}{w:World}{p r:V}{u:Value}{src dst e:TypeId}(hs:SR E S w)(hp:VR E p u)(h1:P.underlying src=some (.slice e))(h2:P.underlying e=some (.int .u8))(h3:P.underlying dst=some .string)(h:yA S p=some r):
  cu P E S w (convert src dst u) r S:=by
 unfold yA at h
 cases hel:elems S p with
 |none=>rw[hel]at h;cases h
 |some xs=>
  rw[hel]at h;simp only[ez]at h
  cases hb:bytesOf xs with
  |none=>rw[hb]at h;cases h
  |some bs=>
   rw[hb]at h;cases h;obtain⟨ns,rfl,rfl⟩:=RN hb
   obtain ⟨a,cap,us,rfl,hrun,cB⟩:=xH (P:=P) (sz:=1) hs hp hel (fun x hx=>by
    simp only[cE]at hx;obtain⟨n,_,rfl⟩:=hx;rfl) oM
   rw[qeg]at cB
   have hus:us=(ns.map (Value.int .u8)).toArray:=by
    cases cB with
    |agg hl g=>
     apply Array.ext
     .simpa using hl.symm
     .intro i hi1 hi2;have hi:i<ns.length:=by simpa using hi2
      have hq:=g i (.int .u8 ns[i]) us[i] (by simp[hi]) sM;have:∀(n:Int) (q:Value),VR E (.int .u8 n) q->q=.int .u8 n:=by intro n q h;cases h;rfl
      rw[this _ _ hq];simp
   refine cu.pure hs ?_ (.str _);rw[run_convert_bytes_string w src dst e a _ cap h1 h2 h3]
   cases a with
   |none=>
    simp only[Builtin.firstCells,Sem.run_pure,Result.ok.injEq]at hrun
    have:ns=[]:=by
     have h0:=hrun.1;rw[hus]at h0
     cases ns with
     |nil=>rfl
     |cons n ns=>simp at h0
    subst this;simp[Conv.bytesToString];rfl
   |some a=>
    simp only[Builtin.firstCells]at hrun;have:=run_bytesToString (P:=P) w a (ns.map (V.int .u8)).length cap ns (by rw[<-hus];simpa using hrun);rw[this,Yh];simp
def SR.lay'{E:En}{S:St}{w w':World}(h:SR E S w){cells:Array Value}{t:TypeId}{fz:Nat×Nat}(g1:w'.heap.size=w.heap.size+1)(g2:w'.heap[w.heap.size]?=some (.cells cells t fz))(g3:∀b,b<w.heap.size->w'.heap[b]?=w.heap[b]?)(g4:(w'.output,w'.os)=(w.output,w.os)):
  SR (E.lay w.heap.size cells) S w'/\E.le (E.lay w.heap.size cells)/\Ext S.length E S w (E.lay w.heap.size cells) S w':=by
 have hno:∀o,E.I w.heap.size o=none:=fun o=>by
  cases hc:E.I w.heap.size o with
  |none=>rfl
  |some c=>exact absurd (oL (h.I _ _ _ hc)) oM
 have hle:E.le (E.lay w.heap.size cells):=⟨fun b o c hc=>by
  by_cases hb:b=w.heap.size
  .subst hb;rw[hno]at hc;cases hc
  .simp[En.lay,hb];exact hc,fun _ _ _ h=>h⟩
 refine⟨⟨h.gl.old hle.1 (fun b _ _ _ hb _=>g3 b (wL hb)),?_,?_,h.dom,?_,?_,h.inj⟩,hle,⟨by omega,hle.1,fun _ _ _ _ hx=>hx,fun _ _ hx=>hx,fun b hb=>.inl hb,?_,fun b hb _=>g3 b hb,g4⟩⟩
 .intro b o c hc;by_cases hb:b=w.heap.size
  .subst hb;simp only[En.lay,if_true]at hc;unfold World.cell?;rw[g2];simpa using hc
  .simp only[En.lay,hb,if_false]at hc;have:=h.I b o c hc;rw[qG (g3 b (oL this))];exact this
 .intro l o hl;by_cases hd:o=.dead
  .subst hd;trivial
  exact(h.obs l o hl).mono hle (fun _ _ hx=>hx) (fun st' x hx=>g3 _ (h.lt _ ⟨l,st',x,⟨o,hl,hd⟩,hx,rfl⟩))
 .intro b o hb;have h1:=h.lt b hb;simp only[En.lay];rw[aj oM];exact h.apart b o hb
 .intro b hb;have:=h.lt b hb;omega
 .intro b o c hc;by_cases hb:b=w.heap.size
  .exact .inr (.inr oM)
  .simp only[En.lay,hb,if_false]at hc;exact .inl hc
def Jo(s:Bz):V:=.sl false (s.data.toList.map fun b=>.int .u8 b.toNat)
def qjv{E:En}{S:St}{P:Program}{w:World}{s:Bz}{src dst e:TypeId}(hs:SR E S w)(h0:P.underlying src=some .string)(h1:P.underlying dst=some (.slice e))(h2:P.underlying e=some (.int .u8)):cu P E S w (convert src dst (.string s)) (Jo s) S:=by
 let q:=Question.appendCap s.size 0 e
 let cap:=q.cut (w.tape w.drawn q)
 have hcap:s.size<=cap:=by simp[cap,q,Question.cut]
 let cells:Array Value:=s.data.map (fun b=>Value.int .u8 (b.toNat:Nat))++Array.replicate (cap-s.size) (.int .u8 0)
 let w1:World:={ w with drawn:=w.drawn+1 }
 let w2:World:={ w1 with heap:=w1.heap.push (.cells cells e (0,0)) }
 let w3:World:=w2.freeze { block:=w.heap.size,off:=cells.size } 1
 have hch:(choose q).run P w=.ok cap w1:=by
  simp[choose,Sem.run,Question.forced,cap,q,w1]
 have hrun:(convert src dst (.string s)).run P w=.ok (.slice (some ⟨w.heap.size,0,none⟩) s.size cap) w3:=by
  simp only[convert,Sem.run_bind,dz h0,dz h1,dz h2,Result.andThen,Conv.stringToBytes];rw[show(choose (.appendCap s.size 0 e)).run P w=.ok cap w1 from hch];simp only[xI]
  have hsh:w2.shape? w.heap.size=some (e,cells.size):=by
   simp[World.shape?,w2,w1]
  simp only[markStringish,Sem.run_bind,shape,Sem.run];rw[show({ w1 with heap:=w1.heap.push (.cells cells e (0,0)) }:World)=w2 from rfl,show w1.heap.size=w.heap.size from rfl,hsh];simp only[Result.andThen,freeze,Sem.run,Sem.run_pure];rfl
 have hw3:w3.heap.size=w.heap.size+1/\(∃fz,w3.heap[w.heap.size]?=some (.cells cells e fz))/\(∀b,b<w.heap.size->w3.heap[b]?=w.heap[b]?)/\(w3.output,w3.os)=(w.output,w.os):=by
  refine⟨?_,?_,fun b hb=>?_,?_⟩
  .simp[w3,World.freeze,w2,w1]
  .refine⟨(cells.size,cells.size+1),?_⟩;simp only[w3,World.freeze,w2,w1];rw[aj (by decide)];simp only[];rw[vv,ai rfl,pz,ai rfl];rfl
  .simp only[w3,World.freeze,w2,w1,vv];rw[aj (by decide)];simp only[];rw[vv,aj oM,pz,aj oM]
  .simp only[w3,World.freeze];rw[aj (by decide)]
 obtain⟨g1,⟨fz,g2⟩,g3,g4⟩:=hw3;obtain⟨r1,r2,r3⟩:=hs.lay' (cells:=cells) (t:=e) (fz:=fz) g1 g2 g3 g4;refine⟨_,_,w3,hrun,?_,r1,r3,cq _⟩
 have hget:∀(j:Nat) (b:UInt8),s.data.toList[j]?=some b->cells[j]?=some (.int .u8 (b.toNat:Nat)):=fun j b hj=>by
  have hlt:j<s.data.size:=by simpa using(aT.1 hj).1
  simp only[cells];rw[tq (by simpa using hlt),tt];have:s.data[j]?=some b:=by rw[<-Ai];exact hj
  rw[this];rfl
 have hI:∀(j:Nat) (b:UInt8),s.data.toList[j]?=some b->(E.lay w.heap.size cells).I w.heap.size j=some (.int .u8 ((b.toNat:Nat):Int)):=fun j b hj=>by
  simp only[En.lay,if_true];rw[hget j b hj]
 have hlen:s.size=(s.data.toList.map fun b=>V.int .u8 (b.toNat:Nat)).length:=by rw[bu];rfl
 rw[hlen];refine VR.sl (b:=w.heap.size) (o:=0) (sz:=1) (by rw[<-hlen];exact hcap) (fun h=>by cases h) (fun v hv=>?_) (fun i j hi hj=>?_) (fun i v j c' c hv hc hi=>?_)
 .simp only[cE]at hv;obtain⟨b,_,rfl⟩:=hv;rfl
 .have:j=0:=by omega
  subst this;have hi':i<s.data.toList.length:=by simpa using hi
  rw[iQ,Nat.mul_one,rJ,hI i (s.data.toList[i]) (bI hi')];rfl
 .simp only[dS,dL]at hv;obtain⟨b,hb,rfl⟩:=hv
  have hj:j=0:=by
   have:=(aT.1 hc).1;simp[V.cells]at this;exact this
  subst hj;simp[V.cells]at hc;subst hc;rw[iQ,Nat.mul_one,rJ,hI i b hb]at hi;cases hi;exact .int _ _
def SR.I9{E:En}{S:St}{w:World}(h:SR E S w){l:Nat}{o ob:Ob}{x:kg}{b:Obj}(hl:S[l]?=some o)(hd:o≠.dead)(hx:E.ρ l 0=some x)(hlt:x.b<w.heap.size)
  (hn:OR E { w with heap:=w.heap.setIfInBounds x.b b } l ob):SR E (S.set l ob) { w with heap:=w.heap.setIfInBounds x.b b }/\Ext S.length E S w E (S.set l ob) { w with heap:=w.heap.setIfInBounds x.b b }:=by
 refine h.change (E':=E) (w':={ w with heap:=w.heap.setIfInBounds x.b b }) ⟨o,hl,hd⟩ rfl (En.le_refl E) (fun _ _ _=>rfl) (fun st z hz=>.inl ⟨st,z,hz,rfl⟩) sM (fun b' hb' hne=>?_) rfl hn;show(w.heap.setIfInBounds x.b _)[b']?=_;rw[nh (hne 0 x hx)]
def uK(S:St)(x:V):Option (V×St):=
 match x with
 |.map lm=>match S[lm]? with
  |some (.map _ _ ck)=>some (.ptr S.length 0 0 0,S++[.iter lm ck [] ck])
  |_=>none
 |_=>none
def qjM{E:En}{S S':St}{P:Program}{w:World}{x r:V}{u:Value}{t:TypeId}{q:fS×TypeId×TypeId}(hs:SR E S w)(ht:nR P t=some q)(hx:VR E x u)(h:uK S x=some (r,S')):
  cu P E S w (Instr.range t u) r S':=by
 unfold nR at ht;split at ht<;>try cases ht
 rename_i k' e' hu;unfold uK at h;split at h<;>try cases h
 rename_i lm;split at h<;>try cases h
 rename_i es bs ck hl
 cases hx with
 |map hy=>
  rename_i y;obtain⟨y',entries,h1,hb,_⟩:=hs.obs lm _ hl;rw[hy]at h1;cases h1;have hlt:lm<S.length:=(aT.1 hl).1
  have hno:E.ρ S.length 0=none:=by
   cases hr:E.ρ S.length 0 with
   |none=>rfl
   |some z=>exact absurd (hs.dom _ _ _ hr) oM
  have hy':(E.at S.length 0 ⟨w.heap.size,0,0⟩).ρ lm 0=some y:=(pR hno).2 _ _ _ hy;obtain⟨n1,n2⟩:=hs.new (o:=.mapIter (some y.b) ck #[] ck) (ob:=.iter lm ck [] ck) (st:=0) (N:=0) (sz:=0) ⟨⟨w.heap.size,0,0⟩,y,iG,hy',xA⟩;refine⟨.pointer (some ⟨w.heap.size,0,none⟩),_,_,?_,?_,n1,n2,by simp⟩
  .simp[Instr.range,dz hu,MapKept.run_getObj_map hb,newObj,Sem.run,Result.andThen]
  .have:=VR.ptr (E:=E.at S.length 0 ⟨w.heap.size,0,0⟩) (l:=S.length) (st:=0) (x:=⟨w.heap.size,0,0⟩) 0 0 iG;simpa using this
def o8(S:St)(p:V):List (V×St):=
 match p with
 |.ptr l 0 0 0=>match S[l]? with
  |some (.iter lm since seen last)=>match S[lm]? with
   |some (.map es bs ck)=>if(bs.all fun b=>decide (b<since))=true/\since<=last then
     match (es.zip bs).filter fun q=>!seen.contains q.2 with
     |[]=>[(.aH [.bool false],S)]
     |c::cs=>(c::cs).map fun q=>(.aH [.bool true,q.1.1,q.1.2],S.set l (.iter lm since (seen++[q.2]) ck))
    else []
   |_=>[]
  |_=>[]
 |_=>[]
def qjL{E:En}{S:St}{P:Program}{w:World}{p:V}{u:Value}{t:TypeId}(hs:SR E S w)(hp:VR E p u)(h:o8 S p≠[]):∃q,q∈o8 S p/\cu P E S w (Instr.next u false t) q.1 q.2:=by
 unfold o8 at h |-;split at h<;>try exact absurd rfl h
 rename_i l;split at h<;>try exact absurd rfl h
 rename_i lm since seen last hl;split at h<;>try exact absurd rfl h
 rename_i es bs ck hm;split at h
 case isFalse=>exact absurd rfl h
 rename_i hc;rw[ai hc];obtain⟨hall,hsc⟩:=hc
 cases hp with
 |ptr i off hr=>
  rename_i x;obtain⟨x',y,h1,h2,h3⟩:=hs.obs l _ hl;rw[hr]at h1;cases h1;obtain⟨y',entries,g1,g2,g3,g4,g5⟩:=hs.obs lm _ hm;rw[h2]at g1;cases g1;have hlt:x.b<w.heap.size:=(gY.1 h3).1
  have hold:∀e∈entries.toList,e.born<since:=fun e he=>by
   simp only[d6,cR]at hall;exact hall e.born (by rw[g4];exact jO he)
  have hleft:∀e,e∈entries.toList->seen.contains e.born=false->∃k v,((k,v),e.born)∈(es.zip bs).filter (fun q=>!seen.contains q.2)/\VR E k e.key/\VR E v e.val:=by
   intro e he hse;obtain⟨j,hj⟩:=jA he;have hj1:j<entries.toList.length:=(aT.1 hj).1;have hj2:j<es.length:=by rw[g3];simpa using hj1
   have hes:es[j]?=some es[j]:=bI hj2;obtain⟨a,b⟩:=g5 j es[j].1 es[j].2 e hes (by simpa using hj);refine⟨es[j].1,es[j].2,?_,a,b⟩;rw[np];refine⟨?_,by simpa using hse⟩;have hbs:bs[j]?=some e.born:=by rw[g4,dS,hj];rfl
   exact dc (show(es.zip bs)[j]?=some (es[j],e.born) by rw[vM];exact⟨hes,hbs⟩)
  have hnil:(leftOf entries seen.toArray).size=0↔(es.zip bs).filter (fun q=>!seen.contains q.2)=[]:=by
   unfold leftOf;rw[Array.size_eq_zero_iff,Array.filter_eq_empty_iff,List.filter_eq_nil_iff];constructor
   .intro hh q hq;obtain⟨j,hj⟩:=jA hq;rw[vM]at hj;have hb:=hj.2;rw[g4,dS,dL]at hb;obtain⟨e,he,hbe⟩:=hb;have:=hh e (by simpa using dc he);rw[<-hbe];simpa using this
   .intro hh e he;intro hse;obtain⟨k,v,hmem,_⟩:=hleft e (by simpa using he) (by simpa using hse);rw[np]at hmem;exact hh _ hmem.1 hmem.2
  have hu:(Value.pointer (some ⟨x.b,0*x.sz+0,none⟩))=.pointer (some ⟨x.b,0,none⟩):=by simp
  rw[hu];rcases run_next_at (P:=P) w t x.b y.b since last seen.toArray entries ck h3 g2 hold hsc with ⟨hz,hrun⟩|⟨e,he,w1,hw1,hrun⟩
  .rw[hnil.1 hz];refine⟨_,mK.2 rfl,_,E,w,hrun,.aH rfl fun i v u hv hu=>?_,hs,Ext.refl _ _ _ _,cq _⟩
   match i with
   |0=>simp at hv hu;subst hv;subst hu;exact .bool _
   |i+1=>simp at hv
  .have he':e∈entries.toList/\seen.contains e.born=false:=by
    simp only[leftOf,Array.toList_filter,np]at he;exact⟨he.1,by simpa using he.2⟩
   obtain⟨k,v,hmem,hk,hv⟩:=hleft e he'.1 he'.2;have hs1:SR E S w1:=by rcases hw1 with rfl|rfl<;>first|exact hs|exact hs.heap rfl
   have hx1:Ext S.length E S w E S w1:=by rcases hw1 with rfl|rfl<;>first|exact Ext.refl _ _ _ _|exact Ext.heap _ rfl rfl
   have hlt1:x.b<w1.heap.size:=by rcases hw1 with rfl|rfl<;>exact hlt
   obtain⟨s1,s2⟩:=hs1.I9 (ob:=.iter lm since (seen++[e.born]) ck) (b:=.mapIter (some y.b) since (seen.toArray.push e.born) ck) hl sM hr hlt1 ⟨x,y,hr,h2,by simp[hlt1]⟩
   have hq:(V.aH [.bool true,k,v],S.set l (.iter lm since (seen++[e.born]) ck))∈(match (es.zip bs).filter fun q=>!seen.contains q.2 with
     |[]=>[(V.aH [.bool false],S)]
     |c::cs=>(c::cs).map fun(q:(V×V)×Nat)=>(V.aH [.bool true,q.1.1,q.1.2],S.set l (.iter lm since (seen++[q.2]) ck))):=by
    cases hf:(es.zip bs).filter fun q=>!seen.contains q.2 with
    |nil=>rw[hf]at hmem;cases hmem
    |cons c cs=>rw[hf]at hmem;exact cE.2 ⟨_,hmem,rfl⟩
   refine⟨_,hq,_,E,_,hrun,?_,s1,hx1.trans s2,by simp⟩;refine .aH rfl fun i a b ha hb=>?_
   match i with
   |0=>simp at ha hb;subst ha;subst hb;exact .bool _
   |1=>simp at ha hb;subst ha;subst hb;exact hk
   |2=>simp at ha hb;subst ha;subst hb;exact hv
   |i+3=>simp at ha
def tQ(S:St)(p:V):Option V:=
 match p with
 |.ptr l 0 0 0=>match S[l]? with
  |some (.iter lm _ seen last)=>match S[lm]? with
   |some (.map es bs ck)=>if ck=last/\bs.Nodup then match seen.getLast? with
     |some b=>match (es.zip bs).find? fun q=>q.2==b with
      |some q=>some (.aH [q.1.1,q.1.2])
      |none=>none
     |none=>none
    else none
   |_=>none
  |_=>none
 |_=>none
def qjy{E:En}{S:St}{P:Program}{w:World}{p r:V}{u:Value}(hs:SR E S w)(hp:VR E p u)(h:tQ S p=some r):cu P E S w (Instr.entry u) r S:=by
 unfold tQ at h;split at h<;>try cases h
 rename_i l;split at h<;>try cases h
 rename_i lm since seen last hl;split at h<;>try cases h
 rename_i es bs ck hm;split at h<;>try cases h
 rename_i hc;obtain⟨rfl,hnd⟩:=hc;split at h<;>try cases h
 rename_i b hb;split at h<;>try cases h
 rename_i q hq
 cases hp with
 |ptr i off hr=>
  rename_i x;obtain⟨x',y,h1,h2,h3⟩:=hs.obs l _ hl;rw[hr]at h1;cases h1;obtain⟨y',entries,g1,g2,g3,g4,g5⟩:=hs.obs lm _ hm;rw[h2]at g1;cases g1;have hu:(Value.pointer (some ⟨x.b,0*x.sz+0,none⟩))=.pointer (some ⟨x.b,0,none⟩):=by simp
  rw[hu];have hqb:q.2=b:=by simpa using List.find?_some hq
  obtain⟨j,hj⟩:=jA (AH hq);rw[vM]at hj;have hbj:=hj.2;rw[g4,dS,dL]at hbj;obtain⟨e,he,hbe⟩:=hbj;obtain⟨k1,k2⟩:=g5 j q.1.1 q.1.2 e hj.1 (by simpa using he)
  have Ky:seen.toArray=seen.dropLast.toArray.push e.born:=by
   rw[hbe,hqb]
   have:seen=seen.dropLast++[b]:=by
    obtain⟨zs,rfl⟩:=List.getLast?_eq_some_iff.1 hb;simp
   conv=>lhs;rw[this]
   simp
  rw[Ky]at h3;have hrun:=run_entry_at (P:=P) w x.b y.b since seen.dropLast.toArray entries ck e h3 g2 (by simpa using dc he) (by rw[<-g4];exact hnd);refine⟨_,E,w,hrun,.aH rfl fun i a b ha hb=>?_,hs,Ext.refl _ _ _ _,cq _⟩
  match i with
  |0=>simp at ha hb;subst ha;subst hb;exact k1
  |1=>simp at ha hb;subst ha;subst hb;exact k2
  |i+2=>simp at ha
def wm(S:St)(kd:fS)(x k:V):Option St:=
 if qQ kd k=true then match x with
  |.map l=>match S[l]? with
   |some (.map es bs ck)=>match jF kd k es 0 with
    |some (some (i,_))=>some (S.set l (.map (es.eraseIdx i) (bs.eraseIdx i) ck))
    |some none=>some (S.set l (.map es bs ck))
    |none=>none
   |_=>none
  |_=>none
 else none
def qjx{E:En}{S S':St}{P:Program}{w:World}{x k:V}{u ku:Value}{ts:Array TypeId}{T t kt et:TypeId}{kd:fS}(hs:SR E S w)(hts:ts[0]?=some t)(ht:nR P t=some (kd,kt,et))(hx:VR E x u)(hk:VR E k ku)(h:wm S kd x k=some S'):
  cu P E S w (Builtin.delete_ ts T #[u,ku]) (.aH []) S':=by
 unfold nR at ht;split at ht<;>try cases ht
 rename_i k' e' hu
 cases hkk:nO P k' with
 |none=>rw[hkk]at ht;cases ht
 |some kd'=>
  rw[hkk]at ht;simp only[dM,Option.some.injEq,Prod.mk.injEq]at ht;obtain⟨rfl,rfl,rfl⟩:=ht
  have hd:∃d,P.underlying k'=some d:=by
   unfold nO at hkk
   cases hd:P.underlying k' with
   |none=>rw[hd]at hkk;cases hkk
   |some d=>exact⟨d,rfl⟩
  obtain⟨d,hd⟩:=hd;unfold wm at h;split at h
  case isFalse=>cases h
  rename_i hki;have hkey:=K3 hkk hd hk hki;split at h<;>try cases h
  rename_i l;split at h<;>try cases h
  rename_i es bs clock hl
  cases hx with
  |map hy=>
   rename_i y;obtain⟨y',entries,h1,hb,h3,hbs,h4⟩:=hs.obs l _ hl;rw[hy]at h1;cases h1;have hent:yd E es entries.toList:=⟨by simpa using h3,fun i k v e hk he=>h4 i k v e hk (by simpa using he)⟩;have hck:∀b,(Instr.checkKey b 10000 k' ku).run P w=.ok () w:=fun b=>MapKept.run_checkKey hd hkey _ _
   have hlt:y.b<w.heap.size:=(gY.1 hb).1;split at h<;>try cases h
   .rename_i i v0 hf;rcases xg hkk hd hk es entries.toList 0 _ hent hf with ⟨g1,_⟩|⟨j,v',e,g1,g2,g3,g4,g5,g6,g7⟩
    .cases g1
    .simp only[Option.some.injEq,Prod.mk.injEq,iQ]at g1;obtain⟨rfl,rfl⟩:=g1;have hfk:=MapKept.run_findKey (P:=P) (w:=w) hd g2;have hij:i<entries.size:=by rw[<-h3];exact g6
     have her:(entries.eraseIdxIfInBounds i).toList=entries.toList.eraseIdx i:=by
      unfold Array.eraseIdxIfInBounds;rw[dif_pos hij];simp
     have hsz:(entries.eraseIdxIfInBounds i).size=(entries.toList.eraseIdx i).length:=by rw[<-her,pB]
     have hmap:∀(l:List MapEntry) (i:Nat),(l.map (·.born)).eraseIdx i=(l.eraseIdx i).map (·.born):=by
      intro l
      induction l with
      |nil=>intro i;rfl
      |cons a l ih=>
       intro i
       cases i with
       |zero=>rfl
       |succ i=>simp only[b9,List.eraseIdx_cons_succ,ih]
     obtain ⟨s1,s2⟩:=hs.I9 (ob:=.map (es.eraseIdx i) (bs.eraseIdx i) clock) (b:=.map (entries.eraseIdxIfInBounds i) clock) hl sM hy hlt ⟨y,entries.eraseIdxIfInBounds i,hy,by simp[hlt],by
       rw[hsz,List.length_eraseIdx,List.length_eraseIdx];simp[h3],by rw[her,hbs,hmap],fun j' k2 v2 e2 hk2 he2=>by
       have jW:(entries.toList.eraseIdx i)[j']?=some e2:=by rw[<-her,Ai];exact he2
       rw[List.getElem?_eraseIdx]at hk2 jW;split at hk2<;>rename_i hji
       .rw[ai hji]at jW;exact h4 j' k2 v2 e2 hk2 (by simpa using jW)
       .rw[aj hji]at jW;exact h4 (j'+1) k2 v2 e2 hk2 (by simpa using jW)⟩
     refine⟨.tuple #[],E,_,?_,.aH rfl (fun i v u hv=>by simp at hv),s1,s2,by simp⟩;simp[Builtin.delete_,hts,dz hu,MapKept.run_getObj_map hb,hck,hfk,MapKept.run_setObj_map _ hb,Result.andThen]
   .rename_i hf;rcases xg hkk hd hk es entries.toList 0 _ hent hf with ⟨_,g2⟩|⟨j',v',e,g1,_⟩
    .have hfk:=MapKept.run_findKey (P:=P) (w:=w) hd g2;obtain⟨s1,s2⟩:=hs.I9 (ob:=.map es bs clock) (b:=.map entries clock) hl sM hy hlt ⟨y,entries,hy,by simp[hlt],h3,hbs,h4⟩;refine⟨.tuple #[],E,_,?_,.aH rfl (fun i v u hv=>by simp at hv),s1,s2,by simp⟩;simp[Builtin.delete_,hts,dz hu,MapKept.run_getObj_map hb,hck,hfk,MapKept.run_setObj_map _ hb,Result.andThen]
    .cases g1
inductive aV where
 |t (n:Nat)
 |c (v:V)
 |f (k:FuncId)
 deriving Inhabited
def aV.ev(e:af):aV->Option V
 |.t n=>e.get n
 |.c v=>some v
 |.f k=>some (.fn (.func k) [] [])
def DY:Value->V
 |.bool b=>.bool b
 |.int k n=>.int k n
 |.string s=>.str s
 |.pointer none=>.bF
 |.slice none 0 0=>.sl true []
 |.map none=>.cG
 |.nilFunc=>.bB
 |.nilIface=>.dr
 |_=>.top
def qx:Value->V
 |.agg cs=>.agg (cs.toList.map DY)
 |v=>DY v
def qad(E:En)(v:Value):VR E (DY v) v:=by
 unfold DY;split<;>constructor
def zY(E:En)(v:Value):VR E (qx v) v:=by
 unfold qx;split
 .rename_i cs;refine .agg sM fun i v u hv hu=>?_
  simp only[dS,dL]at hv;obtain⟨x,hx,rfl⟩:=hv;simp at hx;rw[hx]at hu;cases hu;exact qad E _
 .exact qad E _
def bE:Operand->Option aV
 |.tmp t=>some (.t t)
 |.const v=>some (.c (qx v))
 |.func f=>some (.f f)
 |.global g=>some (.c (.cL g 0))
def cx{E:En}{e:af}{a:Act}{o:Operand}{o':aV}{v:V}(ht:fw E e a.tmps)(hc:bE o=some o')(hv:o'.ev e=some v):VR E v (a.eval o):=by
 cases o<;>simp only[bE,Option.some.injEq,reduceCtorEq]at hc<;>subst hc
 .simp only[aV.ev]at hv;obtain⟨u,hu,hr⟩:=ht _ _ hv;simp only[Act.eval];rw[show a.tmps.getD _ undef=u by simp[hu]];exact hr
 .simp only[aV.ev,Option.some.injEq]at hv;subst hv;exact zY E _
 .simp only[aV.ev,Option.some.injEq]at hv;subst hv;exact .cL _ _
 .simp only[aV.ev,Option.some.injEq]at hv;subst hv;exact .fn rfl rfl (fun i v u h=>by simp at h) (fun i v u h=>by simp at h)
def aV.tmps:aV->List Nat
 |.t n=>[n]
 |_=>[]
def iI(e:af):List aV->Option (List V)
 |[]=>some []
 |x::xs=>match x.ev e,iI e xs with
  |some v,some vs=>some (v::vs)
  |_,_=>none
def bz(e:af):List (Nat×Nat×Nat×aV)->Option (List (Nat×Nat×Nat×V))
 |[]=>some []
 |(f,o,n,x)::ps=>match x.ev e,bz e ps with
  |some v,some vs=>some ((f,o,n,v)::vs)
  |_,_=>none
def qnu:V->Option Int
 |.int _ n=>some n
 |_=>none
def ju(e:af):Option aV->Option (Option Int)
 |none=>some none
 |some x=>match x.ev e with
  |some (.int _ n)=>some (some n)
  |_=>none
inductive X where
 |eqs (neg:Bool) (sz:Nat) (os:List (Nat×CK)) (x y:aV)
 |eqn (neg:Bool) (x:aV)
 |xf (kd:fS) (z:V) (ok:Bool) (x k:aV)
 |sn (kd:fS) (x k v:aV)
 |um
 |mm (mx:Bool) (x y:aV)
 |uq (sz bytes:Nat) (z:V) (l c:aV)
 |Gm (n sz:Nat) (x i:aV)
 |yz (x:aV)
 |Fp (x:aV)
 |rng (x:aV)
 |kG (x:aV)
 |ent (x:aV)
 |del (kd:fS) (x k:aV)
 |wrap (n:Nat) (x:aV)
 |Ce (len sz:Nat) (kd:Option Nat) (x i:aV)
 deriving Inhabited
def qU(mx:Bool):V->V->Option V
 |.int k a,.int _ b=>some (.int k (if mx then(if b > a then b else a) else(if b<a then b else a)))
 |_,_=>none
def aZ(e:af)(S:St):X->Option (V×St)
 |.eqs neg sz os x y=>match x.ev e,y.ev e with
  |some (.agg cs),some (.agg ds)=>if cs.length=sz/\ds.length=sz then(fU cs ds os).map fun b=>(.bool (if neg then !b else b),S) else none
  |_,_=>none
 |.eqn neg x=>match x.ev e with
  |some (.sl _ (_::_))=>some (.bool neg,S)
  |some (.arr ..)=>some (.bool neg,S)
  |_=>none
 |.xf kd z ok x k=>match x.ev e,k.ev e with
  |some m,some key=>(mA S kd z ok m key).map fun r=>(r,S)
  |_,_=>none
 |.sn kd x k v=>match x.ev e,k.ev e,v.ev e with
  |some m,some key,some val=>(kE S kd m key val).map fun S'=>(.aH [],S')
  |_,_,_=>none
 |.um=>some (.map S.length,S++[.map [] [] 0])
 |.mm mx x y=>match x.ev e,y.ev e with
  |some u,some v=>(qU mx u v).map fun r=>(r,S)
  |_,_=>none
 |.uq sz bytes z l c=>match l.ev e,c.ev e with
  |some (.int _ l),some (.int _ c)=>zm S sz bytes z l c
  |_,_=>none
 |.Gm n sz x i=>match x.ev e,i.ev e with
  |some p,some (.int _ ix)=>(Gn n sz p ix).map fun r=>(r,S)
  |_,_=>none
 |.yz x=>(x.ev e).bind fun p=>(yA S p).map fun r=>(r,S)
 |.Fp x=>match x.ev e with
  |some (.str s)=>some (Jo s,S)
  |_=>none
 |.rng x=>(x.ev e).bind fun v=>uK S v
 |.kG _=>none
 |.ent x=>(x.ev e).bind fun v=>(tQ S v).map fun r=>(r,S)
 |.del kd x k=>match x.ev e,k.ev e with
  |some m,some key=>(wm S kd m key).map fun S'=>(.aH [],S')
  |_,_=>none
 |.wrap n x=>(x.ev e).bind fun v=>if v.size=n/\(v.cells.all V.flat)=true then some (.agg v.cells,S) else none
 |.Ce len sz kd x i=>match x.ev e,i.ev e with
  |some v,some (.int _ ix)=>if v.isAgg=true/\0<=ix/\ix<len then(v.part (ix.toNat*sz) kd).map fun r=>(r,S) else none
  |_,_=>none
def xp(e:af):X->List V
 |.eqn _ x=>match x.ev e with
  |some (.sl _ [])=>[.bool true,.bool false]
  |_=>[]
 |_=>[]
def X.tmps:X->List Nat
 |.eqs _ _ _ x y|.xf _ _ _ x y|.mm _ x y|.uq _ _ _ x y|.Gm _ _ x y|.del _ x y|.Ce _ _ _ x y=>x.tmps++y.tmps
 |.eqn _ x|.yz x|.Fp x|.rng x|.kG x|.ent x|.wrap _ x=>x.tmps
 |.sn _ x k v=>x.tmps++k.tmps++v.tmps
 |.um=>[]
def X.writes:X->Bool
 |.sn ..|.um|.uq ..|.rng ..|.kG ..|.del ..=>true
 |_=>false
def X.reads:X->Bool
 |.sn ..|.um|.xf ..|.uq ..|.yz ..|.rng ..|.kG ..|.ent ..|.del ..=>true
 |_=>false
def KT:Operand->Bool
 |.const (.slice none 0 0)=>true
 |_=>false
def GF:Option TypeDesc->Bool
 |some (.int .u8)=>true
 |_=>false
def UR{d:Option TypeDesc}(h:GF d=true):d=some (.int .u8):=by
 unfold GF at h;split at h
 .rfl
 .cases h
def oP(P:Program)(o:Oper):Option X:=
 match o.op with
 |.binOp op t x y _=>match op==.eql||op==.neq with
  |false=>none
  |true=>match P.underlying t with
   |some (.struct _)=>if P.eqGuardType P.depth t=true then none else match qI P 10000 t,P.info? t,bE x,bE y with
    |some os,some i,some x,some y=>some (.eqs (op==.neq) i.size os x y)
    |_,_,_,_=>none
   |some (.slice _)=>if KT y=true then(bE x).map (.eqn (op==.neq)) else none
   |_=>none
 |.lookup t x k ok=>match nR P t with
  |some (kd,_,et)=>match P.info? et,bE x,bE k with
   |some i,some x,some k=>i.zero.map fun z=>.xf kd (qx z) ok x k
   |_,_,_=>none
  |none=>none
 |.mapUpdate t m k x|.insert t m k x=>match nR P t,bE m,bE k,bE x with
  |some (kd,_,_),some m,some k,some x=>some (.sn kd m k x)
  |_,_,_,_=>none
 |.makeMap _ none=>some .um
 |.makeSlice t l c=>match P.underlying t with
  |some (.slice e)=>match P.info? e,bE l,bE c with
   |some i,some l,some c=>i.zero.map fun z=>.uq i.size i.bytes (qx z) l c
   |_,_,_=>none
  |_=>none
 |.indexAddr t x i=>match IR P t,bE x,bE i with
  |some (n,sz),some x,some i=>some (.Gm n sz x i)
  |_,_,_=>none
 |.convert src dst x=>match P.underlying src,P.underlying dst,bE x with
  |some (.slice e),some .string,some x=>if GF (P.underlying e)=true then some (.yz x) else none
  |some .string,some (.slice e),some x=>if GF (P.underlying e)=true then some (.Fp x) else none
  |_,_,_=>none
 |.call c=>match c.callee,c.args.toList.mapM bE with
  |.builtin .max,some [x,y]=>some (.mm true x y)
  |.builtin .min,some [x,y]=>some (.mm false x y)
  |.builtin .delete,some [x,y]=>match c.argTypes[0]? with
   |some t=>(nR P t).bind fun p=>some (.del p.1 x y)
   |none=>none
  |_,_=>none
 |.range t x=>match nR P t,bE x with
  |some _,some x=>some (.rng x)
  |_,_=>none
 |.next x false=>(bE x).map .kG
 |.entry x=>(bE x).map .ent
 |.build t ps=>match P.info? t,xR P t with
  |some i,some l=>match i.zero with
   |some z=>match ps.toList with
    |[(j,x)]=>match l[j]?,bE x with
     |some (0,n),some x=>if z.cells.size=n then some (.wrap n x) else none
     |_,_=>none
    |_=>none
   |none=>none
  |_,_=>none
 |.index t x i=>match P.underlying t with
  |some (.array n e)=>match P.info? e,jk P e,bE x,bE i with
   |some ei,some k,some x,some i=>some (.Ce n ei.size k x i)
   |_,_,_,_=>none
  |_=>none
 |_=>none
inductive EA where
 |bool|ptr|func
 deriving DecidableEq,Inhabited
inductive K where
 |mv (x:aV)
 |pick (c a b:aV)
 |new (z:V)
 |box (x:aV)
 |build (z:V) (ps:List (Nat×Nat×Nat×aV))
 |wh (sz:Nat) (xs:List aV)
 |ld (k:Option Nat) (a:aV)
 |jy (n:Nat) (a x:aV)
 |xn (x:aV)
 |bin (op:BinOp) (x y:aV)
 |eq (kd:EA) (neg:Bool) (x y:aV)
 |un (op:UnOp) (x:aV)
 |fa (off:Nat) (x:aV)
 |ia (sz:Nat) (x i:aV)
 |idx (x i:aV)
 |yO (off:Nat) (k:Option Nat) (x:aV)
 |slc (s:Bool) (sz:Nat) (x:aV) (lo hi:Option aV)
 |ext (i:Nat) (x:aV)
 |len (s:Bool) (x:aV)
 |app (sz bytes:Nat) (d x:aV)
 |zl (k:FuncId) (fs cs:List aV)
 |conv (k:IntKind) (x:aV)
 |call (f:aV) (args:List aV)
 |ex (k:X)
 deriving Inhabited
def cF:V->Bool
 |.ptr ..=>true
 |.bG ..=>true
 |.fn (.func _) _ _=>true
 |_=>false
def eh:EA->V->V->Bool
 |.bool,.bool _,.bool _=>true
 |.ptr,.bF,.bF|.ptr,.bF,.ptr ..|.ptr,.bF,.bG ..|.ptr,.ptr ..,.bF|.ptr,.bG ..,.bF=>true
 |.func,.bB,.bB|.func,.bB,.fn ..|.func,.fn ..,.bB=>true
 |_,_,_=>false
def br(e:af)(S:St):K->Option (V×St)
 |.mv x=>(x.ev e).map fun v=>(v,S)
 |.pick c a b=>match c.ev e with
  |some (.bool t)=>((if t then a else b).ev e).map fun v=>(v,S)
  |_=>none
 |.new z=>aC S z
 |.box x=>(x.ev e).bind fun v=>aC S v
 |.build z ps=>(bz e ps).bind fun l=>(bj z (l.map fun p=>p.2)).map fun v=>(v,S)
 |.wh sz xs=>(iI e xs).bind fun l=>if fits sz l=true/\l.length*sz<=2^24 then some (.sl true l,S) else none
 |.ld k a=>(a.ev e).bind fun p=>(ae S p k).map fun v=>(v,S)
 |.jy n a x=>match a.ev e,x.ev e with
  |some p,some v=>(aA S p n v).map fun S'=>(.aH [],S')
  |_,_=>none
 |.xn x=>(x.ev e).bind fun v=>if cF v=true then some (v,S) else none
 |.bin op x y=>match x.ev e,y.ev e with
  |some u,some v=>(tL op u v).map fun r=>(r,S)
  |_,_=>none
 |.eq kd neg x y=>match x.ev e,y.ev e with
  |some u,some v=>if eh kd u v=true then(dN u v).map fun b=>(.bool (if neg then !b else b),S) else none
  |_,_=>none
 |.un op x=>(x.ev e).bind fun v=>(zW op v).map fun r=>(r,S)
 |.fa off x=>(x.ev e).bind fun v=>(rS v off).map fun r=>(r,S)
 |.ia sz x i=>match x.ev e,i.ev e with
  |some p,some (.int _ ix)=>(eJ S sz p ix).map fun r=>(r,S)
  |_,_=>none
 |.idx x i=>match x.ev e,i.ev e with
  |some (.str s),some (.int _ ix)=>(pZ s ix).map fun r=>(r,S)
  |_,_=>none
 |.yO off k x=>(x.ev e).bind fun v=>if v.isAgg=true then(v.part off k).map fun r=>(r,S) else none
 |.slc s sz x lo hi=>match x.ev e,ju e lo,ju e hi with
  |some d,some l,some h=>match s,d with
   |true,.str b=>(gX S sz (.str b) l h).map fun r=>(r,S)
   |false,.sl ..|false,.arr ..=>(gX S sz d l h).map fun r=>(r,S)
   |_,_=>none
  |_,_,_=>none
 |.ext i x=>match x.ev e with
  |some (.aH vs)=>(vs[i]?).map fun r=>(r,S)
  |_=>none
 |.len s x=>(x.ev e).bind fun v=>match s,v with
  |true,.str b=>some (.int .i64 b.size,S)
  |false,.sl _ xs=>some (.int .i64 xs.length,S)
  |false,.arr _ _ n _=>some (.int .i64 n,S)
  |_,_=>none
 |.app sz bytes d x=>match d.ev e,x.ev e with
  |some u,some v=>dY S sz bytes u v
  |_,_=>none
 |.zl k fs cs=>match iI e fs,iI e cs with
  |some us,some vs=>some (.fn (.func k) us vs,S)
  |_,_=>none
 |.conv k x=>match x.ev e with
  |some (.int _ n)=>some (.int k (k.wrap n),S)
  |_=>none
 |.call _ _=>none
 |.ex k=>aZ e S k
def Sj(P:Program)(t:TypeId)(ps:List (Nat×Operand)):Option (List (Nat×Nat×Nat×aV)):=
 match xR P t with
 |none=>none
 |some l=>ps.mapM fun(i,x)=>match l[i]?,bE x with
  |some (o,n),some y=>some (i,o,n,y)
  |_,_=>none
def Gt:Nat->List (Nat×Operand)->Bool
 |_,[]=>true
 |k,(i,_)::ps=>i==k&&Gt (k+1) ps
def Jx(P:Program)(t:TypeId):Option EA:=
 match P.underlying t with
 |some .bool=>some .bool
 |some (.pointer _)=>some .ptr
 |some (.func ..)=>some .func
 |_=>none
def qfM(P:Program)(t:TypeId):Bool:=
 match P.underlying t with
 |some (.int _)=>true
 |some .string=>true
 |_=>false
def oO(P:Program)(o:Oper):Option K:=
 match o.op with
 |.move x|.assign x=>(bE x).map .mv
 |.pick c a b=>match bE c,bE a,bE b with
  |some c,some a,some b=>some (.pick c a b)
  |_,_,_=>none
 |.alloc t=>match P.info? t with
  |some i=>match i.zero with
   |some z=>some (.new (qx z))
   |none=>none
  |none=>none
 |.box _ x=>(bE x).map .box
 |.build t ps=>match P.info? t with
  |some i=>match i.zero with
   |some z=>match qx z,Sj P t ps.toList with
    |.agg cs,some l=>if(l.all fun p=>!(p.2.1==0&&p.2.2.1==cs.length))=true then some (.build (.agg cs) l) else none
    |_,_=>none
   |none=>none
  |none=>none
 |.buildSlice t n ps=>match MP P t,ps.toList.mapM fun p=>bE p.2 with
  |some sz,some l=>if n=ps.size/\Gt 0 ps.toList=true then some (.wh sz l) else none
  |_,_=>none
 |.load t a=>match jk P t,bE a with
  |some k,some a=>some (.ld k a)
  |_,_=>none
 |.store t a x=>match P.info? t,bE a,bE x with
  |some i,some a,some x=>some (.jy i.size a x)
  |_,_,_=>none
 |.nilCheck x=>(bE x).map .xn
 |.binOp op t x y _=>match bE x,bE y with
  |some x,some y=>if qfM P t=true then some (.bin op x y) else match Jx P t with
   |some kd=>match op with
    |.eql=>some (.eq kd false x y)
    |.neq=>some (.eq kd true x y)
    |_=>none
   |none=>none
  |_,_=>none
 |.unOp op _ x=>(bE x).map (.un op)
 |.convert t d x=>match P.underlying t,P.underlying d,bE x with
  |some _,some (.int k),some x=>some (.conv k x)
  |_,_,_=>none
 |.fieldAddr t x f=>match JE P t f,bE x with
  |some off,some x=>some (.fa off x)
  |_,_=>none
 |.field t x f=>match JF P t f,bE x with
  |some (off,k),some x=>some (.yO off k x)
  |_,_=>none
 |.indexAddr t x i=>match wy P t,bE x,bE i with
  |some sz,some x,some i=>some (.ia sz x i)
  |_,_,_=>none
 |.index t x i=>match P.underlying t,bE x,bE i with
  |some .string,some x,some i=>some (.idx x i)
  |_,_,_=>none
 |.slice t x lo hi none=>match bE x,(match lo with|none=>some none|some y=>(bE y).map some),(match hi with|none=>some none|some y=>(bE y).map some) with
  |some x,some lo,some hi=>match P.underlying t with
   |some .string=>some (.slc true 0 x lo hi)
   |_=>match wy P t with
    |some sz=>some (.slc false sz x lo hi)
    |none=>none
  |_,_,_=>none
 |.extract x i=>(bE x).map (.ext i)
 |.makeFunc (.func k) fs cs=>match fs.toList.mapM bE,cs.toList.mapM bE with
  |some fs,some cs=>some (.zl k fs cs)
  |_,_=>none
 |.call c=>match c.callee,c.args.toList.mapM bE with
  |.value f,some args=>(bE f).map fun f=>.call f args
  |.builtin .len,some [x]=>match c.argTypes[0]? with
   |some t=>match P.underlying t with
    |some .string=>some (.len true x)
    |some (.slice _)=>some (.len false x)
    |_=>none
   |none=>none
  |.builtin .append,some [d,x]=>(A2 P c.argTypes).map fun p=>.app p.1 p.2 d x
  |_,_=>none
 |_=>none
def jt(P:Program)(o:Oper):Option K:=
 match oO P o with
 |some k=>some k
 |none=>(oP P o).map .ex
def kF(e:af):K->List V
 |.ex k=>xp e k
 |_=>[]
def NR(E:En)(nx:Next)(r:V):Prop:=(∃u,nx=.value u/\VR E r u)\/(nx=.skip/\r=.aH [])
def mL(P:Program)(E:En)(S:St)(w:World)(s:Sem Next)(r:V)(S':St):Prop:=
 ∃nx E' w',s.run P w=.ok nx w'/\NR E' nx r/\SR E' S' w'/\Ext S.length E S w E' S' w'/\S.length<=S'.length
def cu.next{P:Program}{E:En}{S S':St}{w:World}{s:Sem Value}{r:V}(h:cu P E S w s r S'):mL P E S w (do Pure.pure (Next.value (<-s))) r S':=by
 obtain⟨d,E',w',h1,h2,h3⟩:=h;exact⟨.value d,E',w',by simp[h1,Result.andThen],.inl ⟨d,rfl,h2⟩,h3⟩
def mL.val{P:Program}{E:En}{S:St}{w:World}{u:Value}{r:V}(hs:SR E S w)(h:VR E r u):mL P E S w (Pure.pure (Next.value u)) r S:=
 ⟨.value u,E,w,rfl,.inl ⟨u,rfl,h⟩,hs,Ext.refl _ _ _ _,cq _⟩
def mL.cast{P:Program}{E:En}{S S':St}{w:World}{s s':Sem Next}{r:V}(h:mL P E S w s r S')(e:s'=s):mL P E S w s' r S':=by rw[e];exact h
def wZ{E:En}{e:af}{a:Act}(ht:fw E e a.tmps):∀{os:List Operand} {xs:List aV} {vs:List V},os.mapM bE=some xs->iI e xs=some vs->
  vs.length=os.length/\∀(i:Nat) (v:V) (o:Operand),vs[i]?=some v->os[i]?=some o->VR E v (a.eval o)
 |[],xs,vs,h1,h2=>by
  simp at h1;subst h1;simp only[iI]at h2;cases h2;exact⟨rfl,fun i v o h=>by simp at h⟩
 |o::os,xs,vs,h1,h2=>by
  simp only[oz,oH]at h1
  cases hc:bE o with
  |none=>rw[hc]at h1;simp at h1
  |some x=>
   rw[hc]at h1
   cases hr:os.mapM bE with
   |none=>rw[hr]at h1;simp at h1
   |some xs'=>
    rw[hr]at h1;simp at h1;subst h1;simp only[iI]at h2;split at h2<;>try cases h2
    rename_i v vs' hv hvs;obtain⟨i1,i2⟩:=wZ ht hr hvs;refine⟨by simp[i1],fun i v' o' h h'=>?_⟩
    cases i with
    |zero=>simp at h h';subst h;subst h';exact cx ht hc hv
    |succ i=>exact i2 i v' o' (by simpa using h) (by simpa using h')
def V7{E:En}{P:Program}{e:af}{a:Act}{t:TypeId}{l:List (Nat×Nat)}(ht:fw E e a.tmps)(hl:xR P t=some l):∀{ps:List (Nat×Operand)} {qs:List (Nat×Nat×Nat×aV)} {vs:List (Nat×Nat×Nat×V)},
  (ps.mapM fun(i,x)=>match l[i]?,bE x with|some (o,n),some y=>some (i,o,n,y)|_,_=>none)=some qs->bz e qs=some vs->
  vs.length=ps.length/\(∀(j:Nat) (p:Nat×Nat×Nat×V) (u:Nat×Operand),vs[j]?=some p->ps[j]?=some u->p.1=u.1/\l[p.1]?=some (p.2.1,p.2.2.1)/\VR E p.2.2.2 (a.eval u.2))/\
  (∀p,p∈vs->∃q,q∈qs/\q.2.1=p.2.1/\q.2.2.1=p.2.2.1)
 |[],qs,vs,h1,h2=>by
  simp at h1;subst h1;simp only[bz]at h2;cases h2;exact⟨rfl,fun j p u h=>by simp at h,fun p hp=>by simp at hp⟩
 |(i,x)::ps,qs,vs,h1,h2=>by
  simp only[oz,oH]at h1
  cases hi:l[i]? with
  |none=>rw[hi]at h1;simp at h1
  |some on=>
   obtain⟨o,n⟩:=on
   cases hc:bE x with
   |none=>rw[hi,hc]at h1;simp at h1
   |some y=>
    rw[hi,hc]at h1;simp only[ez]at h1
    cases hr:(ps.mapM fun(i,x)=>match l[i]?,bE x with|some (o,n),some y=>some (i,o,n,y)|_,_=>none) with
    |none=>rw[hr]at h1;simp at h1
    |some qs'=>
     rw[hr]at h1;simp at h1;subst h1;simp only[bz]at h2;split at h2<;>try cases h2
     rename_i v vs' hv hvs;obtain⟨i1,i2,i3⟩:=V7 ht hl hr hvs;refine⟨by simp[i1],fun j p u h h'=>?_,fun p hp=>?_⟩
     .cases j with
      |zero=>simp at h h';subst h;subst h';exact⟨rfl,hi,cx ht hc hv⟩
      |succ j=>exact i2 j p u (by simpa using h) (by simpa using h')
     .rcases cX.1 hp with rfl|hp
      .exact⟨_,tH,rfl,rfl⟩
      .obtain⟨q,hq,h⟩:=i3 p hp;exact⟨q,mc _ hq,h⟩
def UJ:∀{ps:List (Nat×Operand)} {k:Nat},Gt k ps=true->∀(i:Nat) (p:Nat×Operand),ps[i]?=some p->p.1=k+i
 |[],_,_,i,p,h=>by simp at h
 |(j,x)::ps,k,hr,i,p,h=>by
  simp only[Gt,bZ,beq_iff_eq]at hr
  cases i with
  |zero=>simp at h;subst h;exact hr.1
  |succ i=>have:=UJ hr.2 i p (by simpa using h);omega
def qgJ{ps:List (Nat×Operand)}:(ps.mapM fun p=>bE p.2)=(ps.map fun p=>p.2).mapM bE:=by
 induction ps with
 |nil=>rfl
 |cons p ps ih=>simp[ih]
def qc8{P:Program}{t:TypeId}{kd:EA}{x y:V}(h:Jx P t=some kd)(hk:eh kd x y=true):yL P t x y=true:=by
 unfold Jx at h;split at h<;>cases h<;>rename_i hd
 all_goals (cases x<;>first|(simp[eh]at hk;done)|(cases y<;>first|(simp[eh]at hk;done)|simp[yL,hd]))
def Ta{E:En}{e:af}{a:Act}{o:Option Operand}{x:Option aV}{r:Option Int}(ht:fw E e a.tmps)(hc:(match o with|none=>some none|some y=>(bE y).map some)=some x)(h:ju e x=some r):
  ∃k:IntKind,o.map a.eval=r.map (Value.int k):=by
 cases o with
 |none=>simp at hc;subst hc;simp only[ju,Option.some.injEq]at h;subst h;exact⟨.i64,rfl⟩
 |some y=>
  simp only at hc
  cases hy:bE y with
  |none=>rw[hy]at hc;cases hc
  |some z=>
   rw[hy]at hc;cases hc;simp only[ju]at h;split at h<;>cases h;rename_i k n hz;have:=cx ht hy hz;cases hu:a.eval y<;>rw[hu]at this<;>cases this;exact⟨k,by simp[hu]⟩
def qdh{P:Program}{E:En}{e:af}{S S':St}{a:Act}{w:World}{o:Oper}{k:K}{r:V}(hc:oO P o=some k)(he:br e S k=some (r,S'))(ht:fw E e a.tmps)(hs:SR E S w):
  mL P E S w (execOp a.eval o) r S':=by
 obtain⟨dst,op,type,pos,after,guard⟩:=o;cases op<;>simp only[oO]at hc<;>try (cases hc;done)
 case move x=>
  cases hx:bE x with
  |none=>rw[hx]at hc;cases hc
  |some x'=>
   rw[hx]at hc;cases hc;simp only[br]at he
   cases hv:x'.ev e with
   |none=>rw[hv]at he;cases he
   |some v=>rw[hv]at he;cases he;exact mL.val hs (cx ht hx hv)
 case assign x=>
  cases hx:bE x with
  |none=>rw[hx]at hc;cases hc
  |some x'=>
   rw[hx]at hc;cases hc;simp only[br]at he
   cases hv:x'.ev e with
   |none=>rw[hv]at he;cases he
   |some v=>rw[hv]at he;cases he;exact mL.val hs (cx ht hx hv)
 case pick c x y=>
  split at hc<;>cases hc;rename_i c' x' y' h1 h2 h3;simp only[br]at he;split at he<;>try cases he
  rename_i t hb;have hcb:=cx ht h1 hb;cases hu:a.eval c<;>rw[hu]at hcb<;>cases hcb
  cases t with
  |true=>
   simp only[if_true]at he
   cases hv:x'.ev e with
   |none=>rw[hv]at he;cases he
   |some v=>
    rw[hv]at he;cases he;exact⟨.value (a.eval x),E,w,by simp[execOp,hu,asBool,Result.andThen],.inl ⟨_,rfl,cx ht h2 hv⟩,hs,Ext.refl _ _ _ _,cq _⟩
  |false=>
   simp only[iz,if_false]at he
   cases hv:y'.ev e with
   |none=>rw[hv]at he;cases he
   |some v=>
    rw[hv]at he;cases he;exact⟨.value (a.eval y),E,w,by simp[execOp,hu,asBool,Result.andThen],.inl ⟨_,rfl,cx ht h3 hv⟩,hs,Ext.refl _ _ _ _,cq _⟩
 case alloc t=>
  split at hc<;>try cases hc
  rename_i i hi;split at hc<;>cases hc;rename_i z hz;simp only[br]at he;exact(qjq (o:=.tuple #[]) hi hz hs (zY E z) he).next
 case box t x=>
  cases hx:bE x with
  |none=>rw[hx]at hc;cases hc
  |some x'=>
   rw[hx]at hc;cases hc;simp only[br]at he
   cases hv:x'.ev e with
   |none=>rw[hv]at he;cases he
   |some v=>rw[hv]at he;exact(YS (t:=t) hs (cx ht hx hv) he).next
 case build t ps=>
  split at hc<;>try cases hc
  rename_i i hi;split at hc<;>try cases hc
  rename_i z hz;split at hc<;>try cases hc
  rename_i cs l hcs hl;split at hc<;>cases hc;rename_i hall;unfold Sj at hl;split at hl<;>try cases hl
  rename_i sp hsp;simp only[br]at he
  cases hev:bz e l with
  |none=>rw[hev]at he;cases he
  |some vs=>
   rw[hev]at he;simp only[ez]at he
   cases hb:bj (.agg cs) (vs.map fun p=>p.2) with
   |none=>rw[hb]at he;cases he
   |some r'=>
    rw[hb]at he;cases he;obtain⟨p1,p2,p3⟩:=V7 ht hsp hl hev;have hvz:VR E (.agg cs) z:=by rw[<-hcs];exact zY E z
    exact (qju (us:=ps.map fun (i,x)=>(i,a.eval x)) hs hi hz hsp hvz rfl (by simp[p1]) (fun j p u hp hu=>by
     simp only[tt,dL]at hu;obtain⟨u',hu',rfl⟩:=hu
     exact p2 j p u' hp (by simpa using hu')) (fun p hp=>by
     obtain⟨q,hq,h1,h2⟩:=p3 p hp;simp only[d6,vx,Eh,beq_eq_false_iff_ne]at hall;have:=hall q hq;rintro⟨h3,h4⟩;rcases this with h| h
     .exact h oM
     .exact h (by rw[h2,h4];rfl)) hb).next
 case buildSlice t n ps=>
  split at hc<;>try cases hc
  rename_i sz l hsz hl;split at hc<;>cases hc;rename_i hn;obtain⟨rfl,hrow⟩:=hn;simp only[br]at he
  cases hev:iI e l with
  |none=>rw[hev]at he;cases he
  |some vs=>
   rw[hev]at he;simp only[ez]at he;split at he<;>cases he;rename_i hf;rw[qgJ]at hl;obtain⟨p1,p2⟩:=wZ ht hl hev;have hlen:vs.length=ps.size:=by rw[p1];simp
   have:=qjt (P:=P) (us:=ps.map fun (i,x)=>(i,a.eval x)) hs (qj4 hsz) (xs:=vs) (by simp[hlen]) (fun i x u hx hu=>by
    simp only[tt,dL]at hu;obtain⟨u',hu',rfl⟩:=hu;refine⟨?_,p2 i x u'.2 hx (by simp;exact⟨_,by simpa using hu'⟩)⟩;have:=UJ hrow i u' (by simpa using hu');simpa using this) hf.1 hf.2
   rw[hlen]at this;exact this.next
 case load t x=>
  split at hc<;>cases hc;rename_i k x' hk hx;simp only[br]at he
  cases hv:x'.ev e with
  |none=>rw[hv]at he;cases he
  |some v=>
   rw[hv]at he;simp only[ez]at he
   cases hl:ae S v k with
   |none=>rw[hl]at he;cases he
   |some r'=>
    rw[hl]at he;cases he;obtain⟨d,hd,hr⟩:=YT (P:=P) hs (cx ht hx hv) hk hl;exact(cu.pure hs hd hr).next
 case store t x y=>
  split at hc<;>cases hc;rename_i i x' y' hi hx hy;simp only[br]at he;split at he<;>try cases he
  rename_i p v hp hv
  cases hst:aA S p i.size v with
  |none=>rw[hst]at he;cases he
  |some S2=>
   rw[hst]at he;cases he;obtain⟨w',h1,h2,h3,h4⟩:=qjO (P:=P) hs (cx ht hx hp) (cx ht hy hv) hi hst;exact⟨.skip,E,w',by simp[execOp,h1,Result.andThen],.inr ⟨rfl,rfl⟩,h2,h3,h4⟩
 case nilCheck x=>
  cases hx:bE x with
  |none=>rw[hx]at hc;cases hc
  |some x'=>
   rw[hx]at hc;cases hc;simp only[br]at he
   cases hv:x'.ev e with
   |none=>rw[hv]at he;cases he
   |some v=>
    rw[hv]at he;simp only[ez]at he;split at he<;>cases he;rename_i uc;have cB:=cx ht hx hv;refine⟨.value (a.eval x),E,w,?_,.inl ⟨_,rfl,cB⟩,hs,Ext.refl _ _ _ _,cq _⟩;generalize hu:a.eval x=u at cB;cases cB<;>simp[cF]at uc<;>simp[execOp,hu];rename_i f fs cs us ws h1 h2 g1 g2;cases f<;>simp[cF]at uc |-
 case binOp ko t x y yt=>
  split at hc<;>try cases hc
  rename_i x' y' hx hy;split at hc
  .cases hc;simp only[br]at he;split at he<;>try cases he
   rename_i u v hu hv
   cases hb:tL ko u v with
   |none=>rw[hb]at he;cases he
   |some r'=>
    rw[hb]at he;cases he;exact(qjs (t:=t) (ox:=x) (oy:=y) hs (cx ht hx hu) (cx ht hy hv) hb).next
  .split at hc<;>try cases hc
   rename_i kd hkd
   have key:∀neg,(ko=if neg=true then BinOp.neq else BinOp.eql)->br e S (.eq kd neg x' y')=some (r,S')->mL P E S w (execOp a.eval ⟨dst,.binOp ko t x y yt,type,pos,after,guard⟩) r S':=by
    intro neg hop he;simp only[br]at he;split at he<;>try cases he
    rename_i u v hu hv;split at he<;>try cases he
    rename_i hok
    cases hb:dN u v with
    |none=>rw[hb]at he;cases he
    |some b=>
     rw[hb]at he;cases he;have:=qjz (op:=ko) (t:=t) (ox:=x) (oy:=y) hs (cx ht hx hu) (cx ht hy hv) hb (qc8 hkd hok) (by rw[hop];cases neg<;>simp);cases neg
     .subst hop;exact this.next
     .subst hop;exact this.next
   split at hc<;>cases hc
   .exact key false rfl he
   .exact key true rfl he
 case unOp uop t x=>
  cases hx:bE x with
  |none=>rw[hx]at hc;cases hc
  |some x'=>
   rw[hx]at hc;cases hc;simp only[br]at he
   cases hv:x'.ev e with
   |none=>rw[hv]at he;cases he
   |some v=>
    rw[hv]at he;simp only[ez]at he
    cases hu:zW uop v with
    |none=>rw[hu]at he;cases he
    |some r'=>rw[hu]at he;cases he;exact(qjP hs (cx ht hx hv) hu).next
 case convert st d x=>
  split at hc<;>cases hc;rename_i k x' ht' hd hx;simp only[br]at he;split at he<;>cases he;rename_i k' n hv;have cB:=cx ht hx hv;generalize hu:a.eval x=u at cB;cases cB;refine(cu.pure (s:=convert st d (.int k' n)) (d:=.int k (k.wrap n)) hs ?_ (.int _ _)).next.cast ?_
  .simp[convert,dz ht',dz hd,Result.andThen,Conv.intToInt]
  .simp only[execOp,hu]
 case fieldAddr t x f=>
  split at hc<;>cases hc;rename_i off x' ho hx;simp only[br]at he
  cases hv:x'.ev e with
  |none=>rw[hv]at he;cases he
  |some v=>
   rw[hv]at he;simp only[ez]at he
   cases hf:rS v off with
   |none=>rw[hf]at he;cases he
   |some r'=>rw[hf]at he;cases he;exact(qjC hs (cx ht hx hv) ho hf).next
 case field t x f=>
  split at hc<;>cases hc;rename_i off k x' ho hx;simp only[br]at he
  cases hv:x'.ev e with
  |none=>rw[hv]at he;cases he
  |some v=>
   rw[hv]at he;simp only[ez]at he;split at he<;>try cases he
   rename_i hag
   cases hf:v.part off k with
   |none=>rw[hf]at he;cases he
   |some r'=>rw[hf]at he;cases he;exact(qjD hs (cx ht hx hv) hag ho hf).next
 case indexAddr t x i=>
  split at hc<;>cases hc;rename_i sz x' i' hsz hx hi;simp only[br]at he;split at he<;>try cases he
  rename_i p kk ix hp hix;have cB:=cx ht hi hix;generalize hu:a.eval i=u at cB;cases cB
  cases hf:eJ S sz p ix with
  |none=>rw[hf]at he;cases he
  |some r'=>
   rw[hf]at he;cases he;have:=qjE (P:=P) (k:=kk) hs (cx ht hx hp) hsz hf;rw[<-hu]at this;exact this.next
 case index t x i=>
  split at hc<;>cases hc;rename_i x' i' hd hx hi;simp only[br]at he;split at he<;>try cases he
  rename_i s kk ix hp hix;have h1:=cx ht hi hix;have h2:=cx ht hx hp;generalize hu:a.eval i=u at h1;generalize hv:a.eval x=v at h2;cases h1;cases h2
  cases hf:pZ s ix with
  |none=>rw[hf]at he;cases he
  |some r'=>
   rw[hf]at he;cases he;have:=qjG (P:=P) (k:=kk) hs hd hf;rw[<-hu,<-hv]at this;exact this.next
 case slice t x lo hi mx=>
  cases mx with
  |some m=>cases hc
  |none=>
   simp only at hc;split at hc<;>try cases hc
   rename_i x' lo' hi' hx hlo hhi
   have key:∀(s:Bool) (sz:Nat),(s=true->P.underlying t=some .string)->(s=false->wy P t=some sz)->br e S (.slc s sz x' lo' hi')=some (r,S')->mL P E S w (execOp a.eval ⟨dst,.slice t x lo hi none,type,pos,after,guard⟩) r S':=by
    intro s sz h1 h2 he;simp only[br]at he;split at he<;>try cases he
    rename_i d l h hd hl hh;obtain⟨k1,e1⟩:=Ta ht hlo hl;obtain⟨k2,e2⟩:=Ta ht hhi hh;have hdr:=cx ht hx hd;split at he<;>try cases he
    .rename_i b;generalize hu:a.eval x=u at hdr;cases hdr
     cases hf:gX S sz (.str b) l h with
     |none=>rw[hf]at he;cases he
     |some r'=>
      rw[hf]at he;cases he;exact(qjN (P:=P) (k:=k1) (k':=k2) hs (h1 rfl) hf).next.cast (by simp[execOp,hu,e1,e2])
    .rename_i xx xs
     cases hf:gX S sz (.sl xx xs) l h with
     |none=>rw[hf]at he;cases he
     |some r'=>
      rw[hf]at he;cases he;exact(YV (P:=P) (k:=k1) (k':=k2) hs (h2 rfl) hdr hf (fun s=>by simp)).next.cast (by simp[execOp,e1,e2])
    .rename_i al ao an ast
     cases hf:gX S sz (.arr al ao an ast) l h with
     |none=>rw[hf]at he;cases he
     |some r'=>
      rw[hf]at he;cases he;exact(YV (P:=P) (k:=k1) (k':=k2) hs (h2 rfl) hdr hf (fun s=>by simp)).next.cast (by simp[execOp,e1,e2])
   split at hc
   .rename_i hd;cases hc;exact key true 0 (fun _=>hd) (fun h=>by cases h) he
   .split at hc<;>cases hc;rename_i sz hsz;exact key false sz (fun h=>by cases h) (fun _=>hsz) he
 case extract x i=>
  cases hx:bE x with
  |none=>rw[hx]at hc;cases hc
  |some x'=>
   rw[hx]at hc;cases hc;simp only[br]at he;split at he<;>try cases he
   rename_i vs hv
   cases hi:vs[i]? with
   |none=>rw[hi]at he;cases he
   |some r'=>rw[hi]at he;cases he;exact(qjB hs (cx ht hx hv) hi).next
 case makeFunc fn fs cs=>
  cases fn<;>try cases hc
  rename_i kf;simp only at hc;split at hc<;>cases hc;rename_i fs' cs' hfs hcs;simp only[br]at he;split at he<;>cases he;rename_i us vs hus hvs;obtain⟨a1,a2⟩:=wZ ht hfs hus;obtain⟨b1,b2⟩:=wZ ht hcs hvs;refine(cu.pure (d:=.func (.func kf) (fs.map a.eval) (cs.map a.eval)) hs (by simp[Instr.makeFunc]) (.fn (by simp[a1]) (by simp[b1]) (fun i v u hv hu=>?_) (fun i v u hv hu=>?_))).next
  .simp only[tt,dL]at hu;obtain⟨o,ho,rfl⟩:=hu;exact a2 i v o hv (by simpa using ho)
  .simp only[tt,dL]at hu;obtain⟨o,ho,rfl⟩:=hu;exact b2 i v o hv (by simpa using ho)
 case call c=>
  obtain⟨callee,args,argTypes⟩:=c;simp only at hc;split at hc<;>try cases hc
  .rename_i f args' hargs
   cases hf:bE f with
   |none=>rw[hf]at hc;cases hc
   |some f'=>rw[hf]at hc;cases hc;cases he
  .rename_i x' hargs;split at hc<;>try cases hc
   rename_i t ht0
   have hx:∃x,args=#[x]/\bE x=some x':=by
    have hl:args.toList.mapM bE=some [x']:=hargs
    cases hargs':args.toList with
    |nil=>rw[hargs']at hl;simp at hl
    |cons x xs=>
     rw[hargs']at hl;simp only[oz,oH]at hl
     cases hc1:bE x with
     |none=>rw[hc1]at hl;simp at hl
     |some y=>
      rw[hc1]at hl
      cases hr:xs.mapM bE with
      |none=>rw[hr]at hl;simp at hl
      |some ys=>
       rw[hr]at hl;simp at hl;obtain⟨rfl,rfl⟩:=hl
       cases xs with
       |nil=>exact⟨x,by apply x9.1;rw[hargs'],hc1⟩
       |cons z zs=>
        simp only[oz,oH]at hr
        cases h1:bE z with
        |none=>rw[h1]at hr;simp at hr
        |some y1=>
         rw[h1]at hr
         cases h2:zs.mapM bE with
         |none=>rw[h2]at hr;simp at hr
         |some y2=>rw[h2]at hr;simp at hr
   obtain⟨x,rfl,hx⟩:=hx
   have run:∀u:Value,(Builtin.len_ argTypes type #[a.eval x]).run P w=.ok u w->(execOp a.eval ⟨dst,.call ⟨.builtin .len,#[x],argTypes⟩,type,pos,after,guard⟩).run P w=.ok (.value u) w:=fun u hu=>by
    simp[execOp,resolve,invoke,builtin,hu,Result.andThen]
   split at hc<;>cases hc
   .rename_i hd;simp only[br]at he
    cases hv:x'.ev e with
    |none=>rw[hv]at he;cases he
    |some v=>
     rw[hv]at he;simp only[ez]at he;split at he<;>first|contradiction|(cases he;done)|skip
     cases he;rename_i b hb;have cB:=cx ht hx hv;generalize hu:a.eval x=u at cB;cases cB;exact⟨.value (.int .i64 b.size),E,w,run _ (by simp[Builtin.len_,ht0,hu,dz hd,Result.andThen,goInt]),.inl ⟨_,rfl,.int _ _⟩,hs,Ext.refl _ _ _ _,cq _⟩
   .rename_i el hd;simp only[br]at he
    cases hv:x'.ev e with
    |none=>rw[hv]at he;cases he
    |some v=>
     rw[hv]at he;simp only[ez]at he;have cB:=cx ht hx hv;split at he<;>first|contradiction|(cases he;done)|skip
     .cases he;rename_i b xs hb;generalize hu:a.eval x=u at cB;cases cB<;>exact⟨.value (.int .i64 _),E,w,run _ (by simp[Builtin.len_,ht0,hu,dz hd,Result.andThen,goInt]),.inl ⟨_,rfl,.int _ _⟩,hs,Ext.refl _ _ _ _,cq _⟩
     .cases he;rename_i l off n st hb;generalize hu:a.eval x=u at cB;cases cB;exact⟨.value (.int .i64 _),E,w,run _ (by simp[Builtin.len_,ht0,hu,dz hd,Result.andThen,goInt]),.inl ⟨_,rfl,.int _ _⟩,hs,Ext.refl _ _ _ _,cq _⟩
  .rename_i d' x' hargs
   cases hp:A2 P argTypes with
   |none=>rw[hp]at hc;cases hc
   |some pr=>
    obtain⟨sz,bytes⟩:=pr;rw[hp]at hc;cases hc;simp only[br]at he;split at he<;>try cases he
    rename_i u v hu hv;have hl:args.toList.mapM bE=some [d',x']:=hargs;have hev:iI e [d',x']=some [u,v]:=by simp[iI,hu,hv]
    obtain⟨l1,l2⟩:=wZ ht hl hev;have hsz:args.size=2:=by simpa using l1.symm
    obtain⟨o1,o2,rfl⟩:∃o1 o2,args=#[o1,o2]:=by
     obtain⟨l⟩:=args
     match l,hsz with
     |[o1,o2],_=>exact⟨o1,o2,rfl⟩
    have r1:=l2 0 u o1 rfl rfl;have r2:=l2 1 v o2 rfl rfl;obtain⟨d,E',w',h1,h2,h3⟩:=qjr (P:=P) (T:=type) hs (qbl hp) r1 r2 he;exact⟨.value d,E',w',by simp[execOp,resolve,invoke,builtin,h1,Result.andThen],.inl ⟨d,rfl,h2⟩,h3⟩
def qjA{E:En}{S:St}{P:Program}{w:World}{op:BinOp}{t:TypeId}{ox oy:Operand}{cs ds:List V}{u v:Value}{b neg:Bool}{fs:Array Field}{i:TypeInfo}{os:List (Nat×CK)}(hs:SR E S w)(hx:VR E (.agg cs) u)(hy:VR E (.agg ds) v)
  (hu:P.underlying t=some (.struct fs)) (hg:P.eqGuardType P.depth t=false) (hc:qI P 10000 t=some os) (hi:P.info? t=some i) (l1:cs.length=i.size) (l2:ds.length=i.size) (h:fU cs ds os=some b) (ho:op=if neg=true then .neq else .eql):
  cu P E S w (do eqGuard op t ox oy u v;binOp op t u v) (.bool (if neg then !b else b)) S:=by
 have h1:(Op.equal t u v).run P w=.ok b w:=qdd 10000 t os _ _ u v b hc hx hy (by simp only[nn,hu];exact⟨rfl,i,hi,l1⟩) (by simp only[nn,hu];exact⟨rfl,i,hi,l2⟩) h
 cases hx with
 |agg _ _=>
  rename_i us _ _
  cases hy with
  |agg _ _=>
   rename_i vs _ _
   have hgd:(eqGuard op t ox oy (.agg us) (.agg vs)).run P w=.ok () w:=by
    unfold eqGuard;subst ho;cases neg<;>simp[run_program,hg,Result.andThen]
   refine cu.pure hs (d:=.bool (if neg then !b else b)) ?_ (.bool _);simp only[Sem.run_bind,hgd,Result.andThen];subst ho;cases neg
   .show(do pure (.bool (<-Op.equal t (.agg us) (.agg vs))):Sem Value).run P w=_;simp[h1,Result.andThen]
   .show(do pure (.bool (!(<-Op.equal t (.agg us) (.agg vs)))):Sem Value).run P w=_;simp[h1,Result.andThen]
def qi0{P:Program}{w:World}{t el:TypeId}{a:Option Addr}{l c:Nat}(n:Nat)(hu:P.underlying t=some (.slice el)):(Op.equalIn (n+1) t (.slice a l c) (.slice none 0 0)).run P w=.ok a.isNone w:=by
 simp only[Op.equalIn,Sem.run_bind,dz hu,Result.andThen];cases a<;>rfl
def qiZ{P:Program}{w:World}{op:BinOp}{t el:TypeId}{ox oy:Operand}{a:Option Addr}{l c:Nat}{neg:Bool}(hu:P.underlying t=some (.slice el))(ho:op=if neg=true then .neq else .eql):
  (do eqGuard op t ox oy (.slice a l c) (.slice none 0 0);binOp op t (.slice a l c) (.slice none 0 0):Sem Value).run P w=.ok (.bool (if neg then !a.isNone else a.isNone)) w:=by
 have hgd:(eqGuard op t ox oy (.slice a l c) (.slice none 0 0)).run P w=.ok () w:=by
  unfold eqGuard;subst ho;cases neg<;>simp
 have h1:(Op.equal t (.slice a l c) (.slice none 0 0)).run P w=.ok a.isNone w:=by
  exact qi0 9999 hu
 simp only[Sem.run_bind,hgd,Result.andThen];subst ho;cases neg
 .show(do pure (.bool (<-Op.equal t (.slice a l c) (.slice none 0 0))):Sem Value).run P w=_;simp[h1,Result.andThen]
 .show(do pure (.bool (!(<-Op.equal t (.slice a l c) (.slice none 0 0)))):Sem Value).run P w=_;simp[h1,Result.andThen]
def JB{P:Program}{w:World}{a:Act}{op:BinOp}{t el yt:TypeId}{x y:Operand}{ad:Option Addr}{l c:Nat}{neg:Bool}{dst:Option Tmp}{type:TypeId}{pos:String}{after:Array Edge}{guard:Option (Nat×Bool)}(hu:P.underlying t=some (.slice el))(ho:op=if neg=true then .neq else .eql)
  (hx:a.eval x=.slice ad l c) (hy:a.eval y=.slice none 0 0):(execOp a.eval ⟨dst,.binOp op t x y yt,type,pos,after,guard⟩).run P w=.ok (.value (.bool (if neg then !ad.isNone else ad.isNone))) w:=by
 have:=qiZ (P:=P) (w:=w) (ox:=x) (oy:=y) (a:=ad) (l:=l) (c:=c) hu ho;simp only[Sem.run_bind]at this;simp only[execOp,hx,hy,Sem.run_bind];rw[this];simp only[Result.andThen,Sem.run_pure]
def UQ{a:Act}{y:Operand}(h:KT y=true):a.eval y=.slice none 0 0:=by
 unfold KT at h;split at h
 .rfl
 .cases h
def IQ{args:Array Operand}{x' y':aV}(h:args.toList.mapM bE=some [x',y']):∃x y,args=#[x,y]/\bE x=some x'/\bE y=some y':=by
 cases hl:args.toList with
 |nil=>rw[hl]at h;simp at h
 |cons x xs=>
  rw[hl]at h;simp only[oz,oH]at h
  cases h1:bE x with
  |none=>rw[h1]at h;simp at h
  |some x1=>
   rw[h1]at h
   cases xs with
   |nil=>simp at h
   |cons y ys=>
    simp only[oz,oH]at h
    cases h2:bE y with
    |none=>rw[h2]at h;simp at h
    |some y1=>
     rw[h2]at h
     cases ys with
     |nil=>
      simp at h;obtain⟨rfl,rfl⟩:=h;exact⟨x,y,by apply x9.1;rw[hl],h1,h2⟩
     |cons z zs=>
      simp only[oz,oH]at h
      cases h3:bE z with
      |none=>rw[h3]at h;simp at h
      |some z1=>
       rw[h3]at h
       cases h4:zs.mapM bE with
       |none=>rw[h4]at h;simp at h
       |some q=>rw[h4]at h;simp at h
def qdj{P:Program}{E:En}{e:af}{S S':St}{a:Act}{w:World}{o:Oper}{k:X}{r:V}(hc:oP P o=some k)(he:aZ e S k=some (r,S'))(ht:fw E e a.tmps)(hs:SR E S w):
  mL P E S w (execOp a.eval o) r S':=by
 obtain⟨dst,op,type,pos,after,guard⟩:=o;cases op<;>simp only[oP]at hc<;>try (cases hc;done)
 case binOp ko t x y yt=>
  split at hc
  .cases hc
  rename_i hop
  have hop':∀neg,(ko==BinOp.neq)=neg->ko=if neg=true then .neq else .eql:=by
   intro neg hn;subst hn;cases ko<;>first|rfl|(simp at hop;done)|(exact absurd hop (by decide))
  split at hc<;>try cases hc
  .rename_i fs hu;split at hc
   .cases hc
   rename_i hg;split at hc<;>try cases hc
   rename_i os i x' y' hos hi hx hy;simp only[aZ]at he;split at he<;>try cases he
   rename_i cs ds hv1 hv2;split at he<;>try cases he
   rename_i hlen
   cases hb:fU cs ds os with
   |none=>rw[hb]at he;cases he
   |some b=>
    rw[hb]at he;cases he;exact(qjA (ox:=x) (oy:=y) hs (cx ht hx hv1) (cx ht hy hv2) hu (by simpa using hg) hos hi hlen.1 hlen.2 hb (hop' _ rfl)).next
  .rename_i el hu;split at hc
   .rename_i hn
    cases hx:bE x with
    |none=>rw[hx]at hc;cases hc
    |some x'=>
     rw[hx]at hc;cases hc;have hy0:=UQ (a:=a) hn;simp only[aZ]at he;split at he
     .rename_i hv;cases he;have cB:=cx ht hx hv;generalize uf:a.eval x=u at cB
      cases cB with
      |sl hc' hx' hs' hI hv'=>
       refine⟨.value (.bool (ko==.neq)),E,w,?_,.inl ⟨_,rfl,.bool _⟩,hs,Ext.refl _ _ _ _,cq _⟩;rw[JB hu (hop' _ rfl) uf hy0];cases (ko==BinOp.neq)<;>rfl
     .rename_i hv;cases he;have cB:=cx ht hx hv;generalize uf:a.eval x=u at cB
      cases cB with
      |arr hr hN hc'=>
       refine⟨.value (.bool (ko==.neq)),E,w,?_,.inl ⟨_,rfl,.bool _⟩,hs,Ext.refl _ _ _ _,cq _⟩;rw[JB hu (hop' _ rfl) uf hy0];cases (ko==BinOp.neq)<;>rfl
     .cases he
   .cases hc
 case lookup t x k ok=>
  split at hc<;>try cases hc
  rename_i kd kt et hm;split at hc<;>try cases hc
  rename_i i x' k' hi hx hk
  cases hz:i.zero with
  |none=>rw[hz]at hc;cases hc
  |some z=>
   rw[hz]at hc;cases hc;simp only[aZ]at he;split at he<;>try cases he
   rename_i m key hv1 hv2
   cases hl:mA S kd (qx z) ok m key with
   |none=>rw[hl]at he;cases he
   |some r'=>
    rw[hl]at he;cases he;exact(qjI hs hm hi hz (zY E z) (cx ht hx hv1) (cx ht hk hv2) hl).next
 case mapUpdate t m k x=>
  split at hc<;>try cases hc
  rename_i kd kt et m' k' x' hm h1 h2 h3;simp only[aZ]at he;split at he<;>try cases he
  rename_i mv kv xv e1 e2 e3
  cases hl:kE S kd mv kv xv with
  |none=>rw[hl]at he;cases he
  |some S2=>
   rw[hl]at he;cases he;obtain⟨E',w',g1,g2,g3,g4⟩:=YU (P:=P) hs hm (cx ht h1 e1) (cx ht h2 e2) (cx ht h3 e3) hl;exact⟨.skip,E',w',by simp[execOp,g1,Result.andThen],.inr ⟨rfl,rfl⟩,g2,g3,g4⟩
 case insert t m k x=>
  split at hc<;>try cases hc
  rename_i kd kt et m' k' x' hm h1 h2 h3;simp only[aZ]at he;split at he<;>try cases he
  rename_i mv kv xv e1 e2 e3
  cases hl:kE S kd mv kv xv with
  |none=>rw[hl]at he;cases he
  |some S2=>
   rw[hl]at he;cases he;obtain⟨E',w',g1,g2,g3,g4⟩:=YU (P:=P) hs hm (cx ht h1 e1) (cx ht h2 e2) (cx ht h3 e3) hl;exact⟨.skip,E',w',by simp[execOp,g1,Result.andThen],.inr ⟨rfl,rfl⟩,g2,g3,g4⟩
 case makeMap t rv=>
  cases rv with
  |some h=>cases hc
  |none=>
   simp only[Option.some.injEq]at hc;subst hc;simp only[aZ,Option.some.injEq,Prod.mk.injEq]at he;obtain⟨rfl,rfl⟩:=he;exact(qjJ (t:=t) hs).next
 case call c=>
  obtain⟨callee,args,argTypes⟩:=c;simp only at hc;split at hc<;>try cases hc
  .rename_i x' y' hargs;obtain⟨x,y,rfl,hx,hy⟩:=IQ hargs;simp only[aZ]at he;split at he<;>try cases he
   rename_i u v hu hv
   cases hm:qU true u v with
   |none=>rw[hm]at he;cases he
   |some r'=>
    rw[hm]at he;cases he;have h1:=cx ht hx hu;have h2:=cx ht hy hv;generalize hxa:a.eval x=xa at h1;generalize hya:a.eval y=ya at h2;cases h1<;>cases h2<;>simp only[qU,reduceCtorEq,Option.some.injEq]at hm;subst hm;exact⟨.value (.int _ _),E,w,by simp[execOp,resolve,invoke,builtin,Builtin.max_,Builtin.max2,hxa,hya,Result.andThen],.inl ⟨_,rfl,.int _ _⟩,hs,Ext.refl _ _ _ _,cq _⟩
  .rename_i x' y' hargs;obtain⟨x,y,rfl,hx,hy⟩:=IQ hargs;simp only[aZ]at he;split at he<;>try cases he
   rename_i u v hu hv
   cases hm:qU false u v with
   |none=>rw[hm]at he;cases he
   |some r'=>
    rw[hm]at he;cases he;have h1:=cx ht hx hu;have h2:=cx ht hy hv;generalize hxa:a.eval x=xa at h1;generalize hya:a.eval y=ya at h2;cases h1<;>cases h2<;>simp only[qU,reduceCtorEq,Option.some.injEq]at hm;subst hm;exact⟨.value (.int _ _),E,w,by simp[execOp,resolve,invoke,builtin,Builtin.min_,Builtin.min2,hxa,hya,Result.andThen],.inl ⟨_,rfl,.int _ _⟩,hs,Ext.refl _ _ _ _,cq _⟩
  .rename_i x' y' hargs;obtain⟨x,y,rfl,hx,hy⟩:=IQ hargs;split at hc<;>try cases hc
   rename_i t hts
   cases hm:nR P t with
   |none=>rw[hm]at hc;cases hc
   |some q=>
    rw[hm]at hc;simp only[ez,Option.some.injEq]at hc;subst hc;obtain⟨kd,kt,et⟩:=q;simp only[aZ]at he;split at he<;>try cases he
    rename_i m key hv1 hv2
    cases hl:wm S kd m key with
    |none=>rw[hl]at he;cases he
    |some S2=>
     rw[hl]at he;cases he;obtain⟨d,E',w',g1,g2,g3⟩:=qjx (P:=P) (T:=type) hs hts hm (cx ht hx hv1) (cx ht hy hv2) hl;exact⟨.value d,E',w',by simp[execOp,resolve,invoke,builtin,g1,Result.andThen],.inl ⟨d,rfl,g2⟩,g3⟩
 case range t x=>
  split at hc<;>try cases hc
  rename_i q x' hm hx;simp only[aZ]at he
  cases hv:x'.ev e with
  |none=>rw[hv]at he;cases he
  |some v=>
   rw[hv]at he;exact(qjM hs hm (cx ht hx hv) he).next
 case next x b=>
  cases b
  .simp only at hc
   cases hx:bE x with
   |none=>rw[hx]at hc;cases hc
   |some x'=>rw[hx]at hc;cases hc;simp only[aZ]at he;cases he
  .cases hc
 case entry x=>
  cases hx:bE x with
  |none=>rw[hx]at hc;cases hc
  |some x'=>
   rw[hx]at hc;cases hc;simp only[aZ]at he
   cases hv:x'.ev e with
   |none=>rw[hv]at he;cases he
   |some v=>
    rw[hv]at he;simp only[ez]at he
    cases hr:tQ S v with
    |none=>rw[hr]at he;cases he
    |some r'=>
     rw[hr]at he;cases he;exact(qjy hs (cx ht hx hv) hr).next
 case build t ps=>
  split at hc<;>try cases hc
  rename_i i l hi hl;split at hc<;>try cases hc
  rename_i z hz;split at hc<;>try cases hc
  rename_i j x hps;split at hc<;>try cases hc
  rename_i n x' hj hx;split at hc<;>cases hc;rename_i hzn;simp only[aZ]at he
  cases hv:x'.ev e with
  |none=>rw[hv]at he;cases he
  |some v=>
   rw[hv]at he;simp only[ez]at he;split at he<;>cases he;rename_i hvn;have qe7:ps=#[(j,x)]:=by apply x9.1;rw[hps]
   subst qe7;exact(qjQ hs hi hz hzn hl hj (cx ht hx hv) hvn.1 hvn.2).next.cast (by simp[execOp])
 case index t x i=>
  split at hc<;>try cases hc
  rename_i n el hu;split at hc<;>try cases hc
  rename_i ei k x' i' pX hk hx hi;simp only[aZ]at he;split at he<;>try cases he
  rename_i v kd ix hv1 hv2;split at he<;>try cases he
  rename_i hcc
  cases hr:v.part (ix.toNat*ei.size) k with
  |none=>rw[hr]at he;cases he
  |some r'=>
   rw[hr]at he;cases he;have h2:=cx ht hi hv2;generalize hia:a.eval i=ia at h2;cases h2;refine(qjH (kd:=kd) hs (cx ht hx hv1) hcc.1 hu pX hk hcc.2 hr).next.cast ?_;simp only[execOp,hia]
 case makeSlice t l c=>
  split at hc<;>try cases hc
  rename_i el hu;split at hc<;>try cases hc
  rename_i i l' c' hi hl hcc
  cases hz:i.zero with
  |none=>rw[hz]at hc;cases hc
  |some z=>
   rw[hz]at hc;cases hc;simp only[aZ]at he;split at he<;>try cases he
   rename_i kl l0 kc c0 e1 e2;have h1:=cx ht hl e1;have h2:=cx ht hcc e2;refine(qjK (kl:=kl) (kc:=kc) hs hu hi hz (zY E z) he).next.cast ?_;generalize hla:a.eval l=la at h1;generalize hca:a.eval c=ca at h2;cases h1;cases h2;simp only[execOp,hla,hca]
 case indexAddr t x i=>
  split at hc<;>try cases hc
  rename_i n sz x' i' hty hx hi;simp only[aZ]at he;split at he<;>try cases he
  rename_i p k ix e1 e2
  cases hr:Gn n sz p ix with
  |none=>rw[hr]at he;cases he
  |some r'=>
   rw[hr]at he;cases he;have h2:=cx ht hi e2;refine(qjF (k:=k) hs (cx ht hx e1) hty hr).next.cast ?_;generalize hia:a.eval i=ia at h2;cases h2;simp only[execOp,hia]
 case convert src d x=>
  split at hc<;>try cases hc
  .rename_i el x' h1 h2 hx;split at hc<;>cases hc;rename_i hb;simp only[aZ]at he
   cases hv:x'.ev e with
   |none=>rw[hv]at he;cases he
   |some p=>
    rw[hv]at he;simp only[ez]at he
    cases hr:yA S p with
    |none=>rw[hr]at he;cases he
    |some r'=>
     rw[hr]at he;cases he;exact(qjw hs (cx ht hx hv) h1 (UR hb) h2 hr).next
  .rename_i el x' h1 h2 hx;split at hc<;>cases hc;rename_i hb;simp only[aZ]at he;split at he<;>try cases he
   rename_i s hv;have cB:=cx ht hx hv;refine(qjv hs h1 h2 (UR hb)).next.cast ?_;generalize hxa:a.eval x=xa at cB;cases cB;simp only[execOp,hxa]
def qdg{P:Program}{E:En}{e:af}{S S':St}{a:Act}{w:World}{o:Oper}{k:K}{r:V}(hc:jt P o=some k)(he:br e S k=some (r,S'))(ht:fw E e a.tmps)(hs:SR E S w):
  mL P E S w (execOp a.eval o) r S':=by
 unfold jt at hc;split at hc
 .rename_i k' hk;cases hc;exact qdh hk he ht hs
 .cases hx:oP P o with
  |none=>rw[hx]at hc;cases hc
  |some x=>rw[hx]at hc;cases hc;exact qdj hx he ht hs
def R7(P:Program)(o:Oper)(x:X):oO P o≠some (.ex x):=by
 intro h;obtain⟨dst,op,type,pos,after,guard⟩:=o;cases op<;>simp only[oO]at h
 all_goals (first|(cases h;done)|(simp at h;done)|(revert h;repeat' split))
 all_goals (first|contradiction|(intro h;cases h;done)|(intro h;simp at h;done)|skip)
def mC(e:af)(S:St):K->List (V×St)
 |.ex (.kG x)=>match x.ev e with
  |some p=>o8 S p
  |none=>[]
 |_=>[]
def qg7{P:Program}{E:En}{e:af}{S:St}{a:Act}{w:World}{o:Oper}{k:K}(hc:jt P o=some k)(hn:mC e S k≠[])(ht:fw E e a.tmps)(hs:SR E S w):∃q,q∈mC e S k/\mL P E S w (execOp a.eval o) q.1 q.2:=by
 have hk:∃x,k=.ex (.kG x):=by
  cases k<;>try exact absurd rfl hn
  rename_i x;cases x<;>first|exact⟨_,rfl⟩|exact absurd rfl hn
 obtain⟨x,rfl⟩:=hk
 have hx:oP P o=some (.kG x):=by
  unfold jt at hc;split at hc
  .rename_i k' hk;cases hc;exact absurd hk (R7 P o _)
  .cases hx:oP P o with
   |none=>rw[hx]at hc;cases hc
   |some x'=>rw[hx]at hc;cases hc;rfl
 obtain⟨dst,op,type,pos,after,guard⟩:=o
 have hop:∃y,op=.next y false/\bE y=some x:=by
  cases op<;>simp only[oP]at hx<;>try (cases hx;done)
  case next y b=>
   cases b
   .simp only at hx
    cases hy:bE y with
    |none=>rw[hy]at hx;cases hx
    |some y'=>rw[hy]at hx;cases hx;exact⟨y,rfl,hy⟩
   .cases hx
  all_goals (revert hx;repeat' split)
  all_goals first|contradiction|(intro hx;first|(cases hx;done)|(simp only[dL,pK,reduceCtorEq,and_false,exists_false,Option.some.injEq]at hx;done)|(obtain⟨_,_,hx⟩:=dL.1 hx;cases hx)|(obtain⟨_,_,hx⟩:=pK.1 hx;cases hx))
 obtain⟨y,rfl,hy⟩:=hop;simp only[mC]at hn |-;split at hn
 .rename_i p hp;obtain⟨q,hq,qfh⟩:=qjL (P:=P) (t:=type) hs (cx ht hy hp) hn;exact⟨q,hq,qfh.next⟩
 .exact absurd rfl hn
def qg6{P:Program}{E:En}{e:af}{S:St}{a:Act}{w:World}{o:Oper}{k:K}(hc:jt P o=some k)(hn:kF e k≠[])(ht:fw E e a.tmps)(hs:SR E S w):
  ∃v u,v∈kF e k/\(execOp a.eval o).run P w=.ok (.value u) w/\VR E v u:=by
 have hk:∃x,k=.ex x:=by cases k<;>first|exact⟨_,rfl⟩|exact absurd rfl hn
 obtain⟨x,rfl⟩:=hk
 have hx:oP P o=some x\/oO P o=some (.ex x):=by
  unfold jt at hc;split at hc
  .rename_i k' hk;cases hc;exact .inr hk
  .cases hx:oP P o with
   |none=>rw[hx]at hc;cases hc
   |some x'=>rw[hx]at hc;cases hc;exact .inl rfl
 obtain⟨dst,op,type,pos,after,guard⟩:=o;cases x<;>simp only[kF,xp]at hn<;>try exact absurd rfl hn
 rename_i neg x';rcases hx with hx|hx
 .cases op<;>simp only[oP]at hx<;>try (cases hx;done)
  case binOp ko t x y yt=>
   split at hx
   .cases hx
   rename_i hop
   have hop':∀neg,(ko==BinOp.neq)=neg->ko=if neg=true then .neq else .eql:=by
    intro neg hn;subst hn;cases ko<;>first|rfl|(simp at hop;done)|(exact absurd hop (by decide))
   split at hx<;>try cases hx
   .split at hx
    .cases hx
    .split at hx<;>cases hx
   .rename_i el hu;split at hx
    .rename_i hnil
     cases hxx:bE x with
     |none=>rw[hxx]at hx;cases hx
     |some x2=>
      rw[hxx]at hx;cases hx;simp only[kF,xp];split at hn
      .rename_i hv;have cB:=cx ht hxx hv;have hy0:=UQ (a:=a) hnil;generalize uf:a.eval x=u at cB;have hform:∃ad l c,u=.slice ad l c:=by cases cB<;>exact⟨_,_,_,rfl⟩
       obtain⟨ad,l,c,rfl⟩:=hform;refine⟨_,_,?_,JB hu (hop' _ rfl) uf hy0,.bool _⟩
       .simp only[cX,V.bool.injEq,qC,or_false];generalize (if(ko==BinOp.neq)=true then !ad.isNone else ad.isNone)=q;cases q<;>simp
      .exact absurd rfl hn
    .cases hx
  all_goals (exfalso;revert hx;repeat' split)
  all_goals (first|contradiction|(intro hx;cases hx;done)|(intro hx;simp only[dL]at hx;obtain⟨_,_,hx⟩:=hx;cases hx;done)|(intro hx;simp only[pK]at hx;obtain⟨_,_,hx⟩:=hx;cases hx;done)|(intro hx;simp at hx;done)|skip)
 .exact absurd hx (R7 _ _ _)
structure O' where
 dst:Option Nat
 g:Option (Nat×Bool)
 k:K
 deriving Inhabited
def yF(N:Nat):Option Nat->Bool
 |none=>true
 |some d=>decide (d<N)
def mM(P:Program)(N:Nat)(ops:Array Oper)(o:Oper):Option O':=
 match jt P o with
 |none=>none
 |some k=>if yF N o.dst=true then
   match o.guard with
   |none=>some ⟨o.dst,none,k⟩
   |some (j,want)=>match (ops[j]?).bind (·.dst) with
    |some t=>some ⟨o.dst,some (t,want),k⟩
    |none=>none
  else none
def pM(E:En)(args:List V)(us:Array Value):Prop:=args.length=us.size/\∀(i:Nat) (v:V) (u:Value),args[i]?=some v->us[i]?=some u->VR E v u
def au(P:Program)(f:FuncId)(args:List V)(S:St)(R:V->St->Prop):Prop:=
 (∀as w,(callFunc f as).run P w=.ok (.enter f as) w)/\
 ∀(E:En) (w:World) (us:Array Value) (n:Nat),SR E S w->pM E args us->
  CallsIn Fence.wide n P f us w fun e w'=>∃u r E' S',e=.returned u/\R r S'/\VR E' r u/\SR E' S' w'/\Ext S.length E S w E' S' w'/\S.length<=S'.length
def fA(P:Program)(l:Nat)(args:List V)(S:St)(R:V->St->Prop):Prop:=
 ∀(E:En) (w:World) (us:Array Value) (n:Nat) (x:kg),SR E S w->pM E args us->E.ρ l 0=some x->
  ∃f tmps bT body,(Instr.yield x.b us).run P w=.ok (.round x.b f tmps bT body) w/\
   RoundIn Fence.wide n P x.b f tmps bT body w fun e w'=>∃u r E' S',e=.returned u/\R r S'/\VR E' r u/\SR E' S' w'/\Ext S.length E S w E' S' w'/\S.length<=S'.length
def au.mono{P:Program}{f:FuncId}{args:List V}{S:St}{R R':V->St->Prop}(h:au P f args S R)(hr:∀r S',R r S'->R' r S'):au P f args S R':=
 ⟨h.1,fun E w us n hs hv=>(h.2 E w us n hs hv).mono fun e w' ⟨u,r,E',S',h1,h2,h3⟩=>⟨u,r,E',S',h1,hr _ _ h2,h3⟩⟩
def ga(e:af):Option (Nat×Bool)->Option Bool
 |none=>some true
 |some (t,want)=>match e.get t with
  |some (.bool b)=>some (b==want)
  |some (.aH [])=>some false
  |_=>none
def dk(P:Program):List O'->(af->St->Prop)->af->St->Prop
 |[],Q,e,S=>Q e S
 |o::os,Q,e,S=>match ga e o.g with
  |none=>False
  |some false=>dk P os Q (e.put o.dst (.aH [])) S
  |some true=>match o.k with
   |.call f args=>match f.ev e,iI e args with
    |some (.fn (.func k) fs cs),some vs=>∃R,au P k (fs++vs++cs) S R/\∀r S',R r S'->dk P os Q (e.put o.dst r) S'
    |some (.cj l),some vs=>∃R,fA P l vs S R/\∀r S',R r S'->dk P os Q (e.put o.dst r) S'
    |_,_=>False
   |k=>match br e S k with
    |some (r,S')=>dk P os Q (e.put o.dst r) S'
    |none=>(kF e k≠[]/\∀v,v∈kF e k->dk P os Q (e.put o.dst v) S)\/(mC e S k≠[]/\∀q,q∈mC e S k->dk P os Q (e.put o.dst q.1) q.2)
abbrev cM:=Exit->af->St->Prop
def af.sub(e' e:af):Prop:=∀t v,e'.get t=some v->e.get t=some v
def ii(ro:Option Nat):Fence:={ Fence.wide with round:=ro }
def Up(N n0 m0:Nat)(E:En)(S:St)(w:World)(Q:cM)(x:Exit)(a':Act)(w':World):Prop:=
 ∃E' e' S',Rel N n0 m0 E' e' S' a' w'/\Ext n0 E S w E' S' w'/\Q x e' S'
def Up.back{N n0 m0:Nat}{E E1:En}{S S1:St}{w w1:World}{Q:cM}{x:Exit}{a:Act}{w':World}(h:Ext n0 E S w E1 S1 w1)(g:Up N n0 m0 E1 S1 w1 Q x a w'):Up N n0 m0 E S w Q x a w':=
 let ⟨E',e',S',r,x,q⟩:=g;⟨E',e',S',r,h.trans x,q⟩
def zN{ro:Option Nat}{ρ:Operand->Value}{o:Oper}{P:Program}{k:K}(h:jt P o=some k):o.semAt ro ρ=execOp ρ o:=by
 cases ro with
 |none=>exact Oper.semAt_none ρ o
 |some l=>exact Oper.semAt_some l ρ o fun c hc=>by simp[jt,oO,oP,hc]at h
def Rel.put{N n0 m0:Nat}{E:En}{e:af}{S:St}{a:Act}{w:World}(h:Rel N n0 m0 E e S a w){d:Option Nat}{v:V}{u:Value}(hd:yF N d=true)(r:VR E v u):Rel N n0 m0 E (e.put d v) S (a.put d u) w:=by
 cases d with
 |none=>exact h
 |some d=>
  simp[yF]at hd;exact⟨h.tmps.put (by rw[h.size];exact hd) r,by simp[Act.put,h.size],h.defers,h.base,h.sr⟩
def Rel.step{N n0 m0:Nat}{E E':En}{e:af}{S S':St}{a:Act}{w w':World}(h:Rel N n0 m0 E e S a w)(hs:SR E' S' w')(hx:Ext S.length E S w E' S' w')(hl:S.length<=S'.length):Rel N n0 m0 E' e S' a w':=
 ⟨h.tmps.mono (hx.le h.sr),h.size,nu.step hx h.defers,fL h.base hl,hs⟩
def Si{P:Program}{o:Oper}{k:K}(h:jt P o=some k)(hx:∀x,k≠.ex x):oO P o=some k:=by
 unfold jt at h;split at h
 .rename_i k' hk;cases h;exact hk
 .cases hx':oP P o with
  |none=>rw[hx']at h;cases h
  |some x=>rw[hx']at h;cases h;exact absurd rfl (hx x)
def R9{P:Program}{dst:Option Tmp}{op:Op}{type:TypeId}{pos:String}{after:Array Edge}{guard:Option (Nat×Bool)}{f:aV}{args:List aV}(hk:jt P ⟨dst,op,type,pos,after,guard⟩=some (.call f args)):
  ∃c f0,op=.call c/\c.callee=.value f0/\bE f0=some f/\c.args.toList.mapM bE=some args:=by
 replace hk:=Si hk (fun x=>by simp);by_cases hc:∃c,op=.call c
 .obtain⟨c,rfl⟩:=hc;simp only[oO]at hk;split at hk
  .rename_i f0 args' h1 h2
   cases h3:bE f0 with
   |none=>rw[h3]at hk;cases hk
   |some f1=>rw[h3]at hk;cases hk;exact⟨c,f0,rfl,h1,h3,h2⟩
  .exfalso;repeat' split at hk
   all_goals cases hk
  .rename_i h1 h2;cases h3:A2 P c.argTypes<;>rw[h3]at hk<;>cases hk
  .cases hk
 .exfalso;cases op<;>first|(exact hc ⟨_,rfl⟩)|skip
  all_goals (simp only[oO]at hk)
  all_goals (first|(cases hk;done)|(simp at hk;done)|(revert hk;repeat' split))
  all_goals (first|contradiction|(intro hk;cases hk;done)|(intro hk;simp at hk;done)|skip)
def pm{F:Fence}{n:Nat}{P:Program}{ops:Array Oper}{Q Q':Exit->Act->World->Prop}(hq:∀x a w,Q x a w->Q' x a w):∀{l:List Oper} {a:Act} {w:World},wpListIn F n P ops Q l a w->wpListIn F n P ops Q' l a w
 |[],a,w,h=>hq _ _ _ h
 |o::l,a,w,h=>by
  have hlet:LetsOut Q->LetsOut Q':=fun⟨a,w,h⟩=>⟨a,w,hq _ _ _ h⟩
  simp only[wpListIn]at h |-;split
  .rename_i hw;rw[ai hw]at h;obtain⟨h1,h2⟩:=h;refine⟨h1,?_⟩;generalize (o.semAt F.round a.eval).run P w=r at h2 |-
   cases r with
   |ok nx w'=>
    cases nx<;>simp only[Oper.uponIn]at h2 |-
    case value v=>exact pm hq h2
    case skip=>exact pm hq h2
    case defer d=>exact pm hq h2
    case enter f args=>exact⟨h2.1,h2.2.mono fun e w'' he=>by cases e<;>first|exact pm hq he|exact hq _ _ _ he|exact hlet he⟩
    case row r args=>exact⟨h2.1,h2.2.mono fun v w'' he=>pm hq he⟩
    case round l f t x y=>exact⟨h2.1,h2.2.mono fun e w'' he=>by cases e<;>first|exact pm hq he|exact hq _ _ _ he|exact hlet he⟩
   |halt x w'=>
    cases x<;>simp only[Oper.uponIn]at h2 |-
    case panic v=>exact hq _ _ _ h2
  .rename_i hw;rw[aj hw]at h;exact⟨h.1,pm hq h.2⟩
def LV{P:Program}{ro:Option Nat}{n:Nat}{o:Oper}{k:K}{E:En}{e:af}{S S':St}{r:V}{a:Act}{w:World}{next:Act->World->Prop}{Q:Exit->Act->World->Prop}(hk:jt P o=some k)(ht:fw E e a.tmps)(hs:SR E S w)(hev:br e S k=some (r,S'))
  (hn:∀E' u w',VR E' r u->SR E' S' w'->Ext S.length E S w E' S' w'->S.length<=S'.length->next (a.put o.dst u) w'):o.wpIn (ii ro) n P a w next Q:=by
 refine⟨fun f hf=>trivial,?_⟩;rw[show o.semAt (ii ro).round a.eval=execOp a.eval o from zN hk];obtain⟨nx,E',w',hrun,hnr,hsr,hext,hlen⟩:=qdg hk hev ht hs;rw[hrun];rcases hnr with ⟨u,rfl,cB⟩|⟨rfl,rfl⟩
 .exact hn E' u w' cB hsr hext hlen
 .exact hn E' undef w' (.aH sM (fun i v u h=>by simp at h)) hsr hext hlen
def qhu{P:Program}{ro:Option Nat}{n:Nat}{o:Oper}{k:K}{E:En}{e:af}{S:St}{a:Act}{w:World}{next:Act->World->Prop}{Q:Exit->Act->World->Prop}(hk:jt P o=some k)(hnd:kF e k≠[])(ht:fw E e a.tmps)(hs:SR E S w)
  (hn:∀v u,v∈kF e k->VR E v u->next (a.put o.dst u) w):o.wpIn (ii ro) n P a w next Q:=by
 refine⟨fun f hf=>trivial,?_⟩;rw[show o.semAt (ii ro).round a.eval=execOp a.eval o from zN hk];obtain⟨v,u,hv,hrun,cB⟩:=qg6 hk hnd ht hs;rw[hrun];exact hn v u hv cB
def qhv{P:Program}{ro:Option Nat}{n:Nat}{o:Oper}{k:K}{E:En}{e:af}{S:St}{a:Act}{w:World}{next:Act->World->Prop}{Q:Exit->Act->World->Prop}(hk:jt P o=some k)(hnd:mC e S k≠[])(ht:fw E e a.tmps)(hs:SR E S w)
  (hn:∀q E' u w',q∈mC e S k->VR E' q.1 u->SR E' q.2 w'->Ext S.length E S w E' q.2 w'->S.length<=q.2.length->next (a.put o.dst u) w'):o.wpIn (ii ro) n P a w next Q:=by
 refine⟨fun f hf=>trivial,?_⟩;rw[show o.semAt (ii ro).round a.eval=execOp a.eval o from zN hk];obtain⟨q,hq,nx,E',w',hrun,hnr,hsr,hext,hlen⟩:=qg7 hk hnd ht hs;rw[hrun];rcases hnr with ⟨u,rfl,cB⟩|⟨rfl,hv⟩
 .exact hn q E' u w' hq cB hsr hext hlen
 .exact hn q E' undef w' hq (by rw[hv];exact .aH sM (fun i v u h=>by simp at h)) hsr hext hlen
def VY{P:Program}{ro:Option Nat}{n:Nat}{o:Oper}{f:aV}{args:List aV}{kf:FuncId}{fs cs vs:List V}{R:V->St->Prop}{E:En}{e:af}{S:St}{a:Act}{w:World}{next:Act->World->Prop}{Q:Exit->Act->World->Prop}(hk:jt P o=some (.call f args))(ht:fw E e a.tmps)(hs:SR E S w)
  (hf:f.ev e=some (.fn (.func kf) fs cs)) (hvs:iI e args=some vs) (hspec:au P kf (fs++vs++cs) S R)
  (hn:∀r S' E' u w',R r S'->VR E' r u->SR E' S' w'->Ext S.length E S w E' S' w'->S.length<=S'.length->next (a.put o.dst u) w'):o.wpIn (ii ro) n P a w next Q:=by
 refine⟨fun f hf=>trivial,?_⟩;rw[show o.semAt (ii ro).round a.eval=execOp a.eval o from zN hk];obtain⟨dst,op,type,pos,after,guard⟩:=o;obtain⟨c,f0,rfl,h1,h2,h3⟩:=R9 hk;have hfv:=cx ht h2 hf;obtain⟨a1,a2⟩:=wZ ht h3 hvs;generalize hu:a.eval f0=u at hfv;have a1':vs.length=c.args.size:=by simpa using a1
 obtain⟨us,ws,rfl,b1,b2,b3,b4⟩:∃us ws,u=.func (.func kf) us ws/\fs.length=us.size/\cs.length=ws.size/\(∀(i:Nat) (v:V) (u:Value),fs[i]?=some v->us[i]?=some u->VR E v u)/\(∀(i:Nat) (v:V) (u:Value),cs[i]?=some v->ws[i]?=some u->VR E v u):=by
  cases hfv with
  |fn h1 h2 g1 g2=>exact⟨_,_,rfl,h1,h2,g1,g2⟩
 have hrun:(execOp a.eval ⟨dst,.call c,type,pos,after,guard⟩).run P w=.ok (.enter kf (us++c.args.map a.eval++ws)) w:=by
  simp only[execOp,resolve,h1,hu,Deferred.ofValue,Sem.run_bind,Sem.run_pure,Result.andThen,invoke];exact hspec.1 _ w
 rw[hrun];simp only[Oper.uponIn];refine⟨fun hd=>by simp[ii,Fence.wide]at hd,?_⟩
 have hargs:pM E (fs++vs++cs) (us++c.args.map a.eval++ws):=by
  refine⟨by simp[b1,b2,a1'],fun i v u hv hu=>?_⟩;rw[cO]at hv;rw[Ee]at hu;by_cases hi:i<fs.length
  .rw[b8 hi]at hv;rw[tq oM]at hu;exact b3 i v u hv hu
  .rw[bK oM]at hv;rw[Ah oM,<-b1]at hu;by_cases hj:i-fs.length<vs.length
   .rw[b8 hj]at hv;rw[tq (by simp;omega)]at hu;simp only[tt,dL]at hu;obtain⟨o,ho,rfl⟩:=hu;exact a2 _ v o hv (by simpa using ho)
   .rw[bK oM]at hv;rw[Ah (by simp;omega)]at hu;rw[show i-fs.length-(c.args.map a.eval).size=i-fs.length-vs.length by simp[a1']]at hu;exact b4 _ v u hv hu
 have qeK:=hspec.2 E w _ (n-1) hs hargs;refine CallsIn.mono (show CallsIn (ii ro) (n-1) P kf _ w _ from qeK) ?_;rintro ed w' ⟨uv,r,E',S',rfl,hR,cB,hsr,hext,hlen⟩;exact hn r S' E' uv w' hR cB hsr hext hlen
def qhx{P:Program}{ro:Option Nat}{n:Nat}{o:Oper}{f:aV}{args:List aV}{ly:Nat}{vs:List V}{R:V->St->Prop}{E:En}{e:af}{S:St}{a:Act}{w:World}{next:Act->World->Prop}{Q:Exit->Act->World->Prop}(hk:jt P o=some (.call f args))(ht:fw E e a.tmps)(hs:SR E S w)
    (hf:f.ev e=some (.cj ly)) (hvs:iI e args=some vs) (hspec:fA P ly vs S R)
    (hn:∀r S' E' u w',R r S'->VR E' r u->SR E' S' w'->Ext S.length E S w E' S' w'->S.length<=S'.length->next (a.put o.dst u) w'):o.wpIn (ii ro) n P a w next Q:=by
  refine⟨fun f hf=>trivial,?_⟩;rw[show o.semAt (ii ro).round a.eval=execOp a.eval o from zN hk];obtain⟨dst,op,type,pos,after,guard⟩:=o;obtain⟨c,f0,rfl,h1,h2,h3⟩:=R9 hk;have hfv:=cx ht h2 hf;obtain⟨a1,a2⟩:=wZ ht h3 hvs;generalize hu:a.eval f0=u at hfv;have a1':vs.length=c.args.size:=by simpa using a1
  cases hfv with
  |cj hx=>
    rename_i x
    obtain ⟨fn,tmps,bT,body,hy,Kx⟩:=hspec E w (c.args.map a.eval) (n - 1) x hs ⟨by simp[a1'],fun i v u hv hu=>by
      simp only[tt,dL]at hu;obtain⟨o,ho,rfl⟩:=hu;exact a2 _ v o hv (by simpa using ho)⟩ hx
    have hrun:(execOp a.eval ⟨dst,.call c,type,pos,after,guard⟩).run P w=.ok (.round x.b fn tmps bT body) w:=by
      simp only[execOp,resolve,h1,hu,Deferred.ofValue,Sem.run_bind,Sem.run_pure,Result.andThen,invoke,Array.empty_append];exact hy
    rw[hrun,Oper.uponIn_round];refine⟨fun hd=>by simp[ii,Fence.wide]at hd,?_⟩;refine RoundIn.mono (show RoundIn (ii ro) (n-1) P _ _ _ _ _ w _ from Kx) ?_;rintro ed w' ⟨uv,r,E',S',rfl,hR,cB,hsr,hext,hlen⟩;exact hn r S' E' uv w' hR cB hsr hext hlen
def TX{P:Program}{N:Nat}{ops:Array Oper}{o:Oper}{o':O'}(h:mM P N ops o=some o'):
  o'.dst=o.dst/\yF N o.dst=true/\jt P o=some o'.k/\∀(E:En) (e:af) (a:Act) (b:Bool),(∀t w,o'.g=some (t,w)->∀v,e.get t=some v->∃u,a.tmps[t]?=some u/\VR E v u)->ga e o'.g=some b->Region.wanted o (yielded ops a.tmps)=b:=by
 unfold mM at h;split at h
 .cases h
 rename_i k hk;split at h
 case isFalse=>cases h
 rename_i hd;split at h
 .rename_i hgd;cases h;exact⟨rfl,hd,hk,fun E e a b _ hb=>by cases hb;simp[Region.wanted,hgd]⟩
 .rename_i j want hgd;split at h<;>cases h;rename_i t ht;refine⟨rfl,hd,hk,fun E e a b hr hb=>?_⟩;simp only[ga]at hb;split at hb<;>cases hb
  .rename_i bb hbb;obtain⟨u,hu,hv⟩:=hr _ _ rfl _ hbb;cases hv;simp[Region.wanted,hgd,yielded,ht,hu]
  .rename_i hbb;obtain⟨u,hu,hv⟩:=hr _ _ rfl _ hbb;cases hv;simp[Region.wanted,hgd,yielded,ht,hu]
def vr{P:Program}{N n0 m0:Nat}{ro:Option Nat}{n:Nat}{ops:Array Oper}{Q:cM}:∀(l:List Oper) (l':List O') (E:En) (e:af) (S:St) (a:Act) (w:World),
  l.mapM (mM P N ops)=some l'->Rel N n0 m0 E e S a w->dk P l' (Q .normal) e S->wpListIn (ii ro) n P ops (Up N n0 m0 E S w Q) l a w
 |[],l',E,e,S,a,w,hc,hr,h=>by
  simp at hc;subst hc;exact⟨E,e,S,hr,Ext.refl _ _ _ _,h⟩
 |o::l,l',E,e,S,a,w,hc,hr,h=>by
  simp only[oz,oH]at hc
  cases ho:mM P N ops o with
  |none=>rw[ho]at hc;simp at hc
  |some o'=>
   rw[ho]at hc
   cases hl:l.mapM (mM P N ops) with
   |none=>rw[hl]at hc;simp at hc
   |some l2=>
    rw[hl]at hc;simp at hc;subst hc;obtain⟨hdst,hd,hk,hg⟩:=TX ho;simp only[dk]at h;rw[hdst]at h
    cases hw:ga e o'.g with
    |none=>rw[hw]at h;exact h.elim
    |some b=>
     rw[hw]at h;have hwd:=hg E e a b (fun t _ _ v hv=>hr.tmps t v hv) hw;simp only[wpListIn]
     cases b with
     |false=>
      rw[hwd];simp only[iz,if_false];refine⟨fun f hf=>trivial,?_⟩;exact vr l l2 E _ S _ w hl (hr.put hd (.aH sM (fun i v u h=>by simp at h))) h
     |true=>
      rw[hwd];simp only[if_true];generalize hkk:o'.k=k at h hk;by_cases hcall:∃f args,k=.call f args
      .obtain⟨f,args,rfl⟩:=hcall;simp only at h;split at h<;>try exact h.elim
       .rename_i kf fs cs vs hf hvs;obtain⟨R,hspec,hnext⟩:=h;refine VY hk hr.tmps hr.sr hf hvs hspec fun r S' E' u w' hR cB hsr hext hlen=>?_
        have hr':=(hr.step hsr hext hlen).put hd cB;have:=vr (n:=n) (ro:=ro) (Q:=Q) l l2 E' _ S' _ w' hl hr' (hnext r S' hR);exact pm (fun x a' w'' hq=>hq.back (hext.less hr.base)) this
       .rename_i ly vs hf hvs;obtain⟨R,hspec,hnext⟩:=h;refine qhx hk hr.tmps hr.sr hf hvs hspec fun r S' E' u w' hR cB hsr hext hlen=>?_
        have hr':=(hr.step hsr hext hlen).put hd cB;have:=vr (n:=n) (ro:=ro) (Q:=Q) l l2 E' _ S' _ w' hl hr' (hnext r S' hR);exact pm (fun x a' w'' hq=>hq.back (hext.less hr.base)) this
      .have h':match br e S k with
        |some (r,S')=>dk P l2 (Q .normal) (e.put o.dst r) S'
        |none=>(kF e k≠[]/\∀v,v∈kF e k->dk P l2 (Q .normal) (e.put o.dst v) S)\/(mC e S k≠[]/\∀q,q∈mC e S k->dk P l2 (Q .normal) (e.put o.dst q.1) q.2):=by
        cases k<;>first|exact h|exact absurd ⟨_,_,rfl⟩ hcall
       cases hev:br e S k with
       |none=>
        rw[hev]at h';rcases h' with h'|h'
        .refine qhu hk h'.1 hr.tmps hr.sr fun v u hv cB=>?_
         exact vr l l2 E _ S _ w hl (hr.put hd cB) (h'.2 v hv)
        .refine qhv hk h'.1 hr.tmps hr.sr fun q E' u w' hq cB hsr hext hlen=>?_
         have hr':=(hr.step hsr hext hlen).put hd cB;have:=vr (n:=n) (ro:=ro) (Q:=Q) l l2 E' _ q.2 _ w' hl hr' (h'.2 q hq);exact pm (fun x a' w'' hq=>hq.back (hext.less hr.base)) this
       |some rs=>
        obtain⟨r,S'⟩:=rs;rw[hev]at h';refine LV hk hr.tmps hr.sr hev fun E' u w' cB hsr hext hlen=>?_
        have hr':=(hr.step hsr hext hlen).put hd cB;have:=vr (n:=n) (ro:=ro) (Q:=Q) l l2 E' _ S' _ w' hl hr' h';exact pm (fun x a' w'' hq=>hq.back (hext.less hr.base)) this
def SR.qhO{E:En}{S:St}{w:World}(h:SR E S w){z:V}(h0:0<z.size):SR E (S++[.arr [z] z.size 1]) w/\∀n,Ext n E S w E (S++[.arr [z] z.size 1]) w:=by
 have hno:∀st,E.ρ S.length st=none:=fun st=>by
  cases hr:E.ρ S.length st with
  |none=>rfl
  |some x=>exact absurd (h.dom _ _ _ hr) oM
 have hlv:∀l st x,eY (S++[.arr [z] z.size 1]) l->E.ρ l st=some x->eY S l:=fun l st x hl hx=>by
  rcases Le hl with hl|rfl
  .exact hl
  .rw[hno]at hx;cases hx
 have hown:∀b,own E (S++[.arr [z] z.size 1]) b->own E S b:=fun b ⟨l,st,x,hl,hx,he⟩=>⟨l,st,x,hlv l st x hl hx,hx,he⟩
 refine ⟨⟨h.gl,h.I,fun l o ho=>?_,fun l st x hx=>by have:=h.dom _ _ _ hx;simp;omega,fun b o hb=>h.apart b o (hown b hb),fun b hb=>h.lt b (hown b hb),fun l l' st st' x x' hl hl' hx hx' he=>h.inj l l' st st' x x' (hlv l st x hl hx) (hlv l' st' x' hl' hx') hx hx' he⟩,
  fun n=>⟨cq _,fun _ _ _ h=>h,fun _ _ _ _ h=>h,fun _ _ h=>h,fun b hb=>.inl (hown b hb),fun _ _ _ h=>.inl h,fun _ _ _=>rfl,rfl⟩⟩
 rcases pJ l S.length with hl|hl
 .rw[b8 hl]at ho;exact h.obs l o ho
 .have hlt:=(aT.1 ho).1;simp at hlt;have:l=S.length:=by omega
  subst this;simp at ho;subst ho;refine⟨⟨h0,by simp⟩,fun v hv=>by simp at hv;subst hv;rfl,fun st x hx=>?_⟩;rw[hno]at hx;cases hx
def fg(zs:List V):St:=zs.map fun z=>.arr [z] z.size 1
def SR.V9{E:En}{w:World}:∀(zs:List V) {S:St},SR E S w->(∀z,z∈zs->0<z.size)->SR E (S++fg zs) w/\∀n,Ext n E S w E (S++fg zs) w
 |[],S,h,_=>by simp[fg];exact⟨h,fun n=>Ext.refl _ _ _ _⟩
 |z::zs,S,h,h0=>by
  obtain⟨a,b⟩:=h.qhO (h0 z sM);obtain⟨c,d⟩:=SR.V9 zs a fun z hz=>h0 z (by simp[hz])
  rw[cO]at c d;exact⟨c,fun n=>(b n).trans (d n)⟩
def SR.real{E:En}{S:St}{w:World}(h:SR E S w){l:Nat}{ob:Ob}{o:Obj}{st N sz:Nat}(hl:S[l]?=some ob)(hno:∀st,E.ρ l st=none)
  (ho:OR (E.at l st ⟨w.heap.size,N,sz⟩) { w with heap:=w.heap.push o } l ob):
  SR (E.at l st ⟨w.heap.size,N,sz⟩) S { w with heap:=w.heap.push o }/\E.le (E.at l st ⟨w.heap.size,N,sz⟩)/\
  ∀n,n<=l->Ext n E S w (E.at l st ⟨w.heap.size,N,sz⟩) S { w with heap:=w.heap.push o }:=by
 have hle:E.le (E.at l st ⟨w.heap.size,N,sz⟩):=pR (hno st)
 have key:∀l' st' x,eY S l'->(E.at l st ⟨w.heap.size,N,sz⟩).ρ l' st'=some x->(l'=l/\x.b=w.heap.size)\/(l'≠l/\E.ρ l' st'=some x/\x.b<w.heap.size):=by
  intro l' st' x hl' hx;by_cases hk:l'=l
  .subst hk;by_cases hs:st'=st
   .subst hs;rw[iG]at hx;cases hx;exact .inl ⟨rfl,rfl⟩
   .simp[En.at,hs,hno]at hx
  .rw[oK hk]at hx;exact .inr ⟨hk,hx,h.lt _ ⟨l',st',x,hl',hx,rfl⟩⟩
 have hown:∀b,own (E.at l st ⟨w.heap.size,N,sz⟩) S b->own E S b\/b=w.heap.size:=by
  rintro b ⟨l',st',x,hl',hx,rfl⟩;rcases key l' st' x hl' hx with ⟨_,h2⟩|⟨_,h2,_⟩
  .exact .inr h2
  .exact .inl ⟨l',st',x,hl',h2,rfl⟩
 refine⟨⟨h.gl.old hle.1 (fun b _ _ _ hb _=>lJ (wL hb)),?_,?_,?_,?_,?_,?_⟩,hle,fun n hn=>⟨by simp,hle.1,fun l st' x _ hx=>hle.2 l st' x hx,fun l' hl' hx st'=>by rw[oK oM];exact hx st',fun b hb=>(hown b hb).imp id (fun e=>by omega),fun b o c hc=>.inl hc,fun b hb _=>lJ hb,rfl⟩⟩
 .intro b o' c hc;have:=h.I b o' c hc;rw[qG (lJ (oL this))];exact this
 .intro l' o' hl';by_cases hk:l'=l
  .subst hk;rw[hl]at hl';cases hl';exact ho
  .by_cases hd:o'=.dead
   .subst hd;trivial
   exact(h.obs l' o' hl').mono hle (fun st' x hx=>by rw[oK hk]at hx;exact hx) (fun st' x hx=>lJ (h.lt _ ⟨l',st',x,⟨o',hl',hd⟩,hx,rfl⟩))
 .intro l' st' x hx;by_cases hk:l'=l
  .subst hk;exact(aT.1 hl).1
  .rw[oK hk]at hx;exact h.dom _ _ _ hx
 .intro b o' hb;rcases hown b hb with hb|rfl
  .exact h.apart b o' hb
  .cases hc:E.I w.heap.size o' with
   |none=>exact hc
   |some c=>exact absurd (oL (h.I _ _ _ hc)) oM
 .intro b hb;rcases hown b hb with hb|rfl
  .have:=h.lt b hb;simp;omega
  .simp
 .intro l1 l2 st1 st2 x x' hl1 hl2 hx hx' hb;rcases key l1 st1 x hl1 hx with ⟨h1,h2⟩|⟨h1,h3,h4⟩<;>rcases key l2 st2 x' hl2 hx' with ⟨g1,g2⟩|⟨g1,g3,g4⟩
  .omega
  .omega
  .omega
  .exact h.inj l1 l2 st1 st2 x x' hl1 hl2 h3 g3 hb
def SR.qiM{E:En}{S:St}{w:World}{l:Nat}{z:V}{d:Value}{t:TypeId}(h:SR E S w)(hl:S[l]?=some (.arr [z] z.size 1))(hno:∀st,E.ρ l st=none)(h0:0<z.size)(hf:(z.cells.all V.flat)=true)(hz:VR E z d):
  ∃E',SR E' S { w with heap:=w.heap.push (.cells d.cells t (0,0)) }/\E.le E'/\(∀n,n<=l->Ext n E S w E' S { w with heap:=w.heap.push (.cells d.cells t (0,0)) })/\(∀l' st,l'≠l->E'.ρ l' st=E.ρ l' st)/\VR E' (.ptr l 0 0 1) (.pointer (some ⟨w.heap.size,0,none⟩)):=by
 obtain⟨h1,h2⟩:=hz.cells (nE hf)
 obtain ⟨n1,n2,n3⟩:=h.real (o:=.cells d.cells t (0,0)) (st:=1) (N:=d.cells.size) (sz:=z.size) hl hno (by
  refine⟨⟨h0,by simp⟩,fun v hv=>by simp at hv;subst hv;rfl,fun st y hy hst=>?_⟩;by_cases hs1:st=1
  .subst hs1;rw[iG]at hy;cases hy;refine⟨by simp,rfl,d.cells,t,xA,rfl,by simp[V.size,h1],fun i v hv hi j c hc=>?_⟩;have hi0:i=0:=by omega
   subst hi0;simp at hv;subst hv;obtain⟨e,he,hr⟩:=hz.Fh (nE hf) hc;exact⟨e,by simpa using he,hr.mono (pR (hno 1))⟩
  .exfalso;simp only[En.at]at hy;rw[aj (by simp;exact hs1),hno]at hy;cases hy)
 refine⟨_,n1,n2,n3,fun l' st hl'=>oK hl',?_⟩;have:=VR.ptr (E:=E.at l 1 ⟨w.heap.size,d.cells.size,z.size⟩) (l:=l) (st:=1) 0 0 iG;simpa using this
def qcl{P:Program}{o:Oper}{z:V}(h:jt P o=some (.new z)):∃t i zv,o.op=.alloc t/\P.info? t=some i/\i.zero=some zv/\z=qx zv:=by
 obtain⟨dst,op,type,pos,after,guard⟩:=o;replace h:=Si h (fun x=>by simp);by_cases hc:∃t,op=.alloc t
 .obtain⟨t,rfl⟩:=hc;simp only[oO]at h;split at h<;>try cases h
  rename_i i hi;split at h<;>cases h;rename_i z hz;exact⟨t,i,z,rfl,hi,hz,rfl⟩
 .exfalso;cases op<;>first|(exact hc ⟨_,rfl⟩)|skip
  all_goals (simp only[oO]at h)
  all_goals (first|(cases h;done)|(simp at h;done)|(revert h;repeat' split))
  all_goals (first|contradiction|(intro h;cases h;done)|(intro h;simp at h;done)|skip)
def qhw{P:Program}{ro:Option Nat}{n:Nat}{o:Oper}{z:V}{E:En}{S:St}{a:Act}{w:World}{next:Act->World->Prop}{Q:Exit->Act->World->Prop}{l:Nat}(hk:jt P o=some (.new z))(hs:SR E S w)(hl:S[l]?=some (.arr [z] z.size 1))(hno:∀st,E.ρ l st=none)(h0:0<z.size)(hf:(z.cells.all V.flat)=true)
  (hn:∀E' u w',VR E' (.ptr l 0 0 1) u->SR E' S w'->E.le E'->(∀n,n<=l->Ext n E S w E' S w')->(∀l' st,l'≠l->E'.ρ l' st=E.ρ l' st)->next (a.put o.dst u) w'):o.wpIn (ii ro) n P a w next Q:=by
 refine⟨fun f hf=>trivial,?_⟩;rw[show o.semAt (ii ro).round a.eval=execOp a.eval o from zN hk];obtain⟨t,i,zv,hop,hi,hz,rfl⟩:=qcl hk;obtain⟨E',b1,b2,b3,b4,b5⟩:=hs.qiM (t:=t) hl hno h0 hf (zY E zv);obtain⟨dst,op,type,pos,after,guard⟩:=o;cases hop
 have hrun:(execOp a.eval ⟨dst,.alloc t,type,pos,after,guard⟩).run P w=.ok (.value (.pointer (some ⟨w.heap.size,0,none⟩))) { w with heap:=w.heap.push (.cells zv.cells t (0,0)) }:=by
  have:(Instr.alloc t true (.tuple #[])).run P w=.ok (.pointer (some ⟨w.heap.size,0,none⟩)) { w with heap:=w.heap.push (.cells zv.cells t (0,0)) }:=by
   simp[Instr.alloc,newVar,Sem.run_bind,qk hi hz,Result.andThen,xI]
  simp only[execOp,Sem.run_bind,this,Result.andThen,Sem.run_pure]
 rw[hrun];exact hn E' _ _ b5 b1 b2 b3 b4
def K.tmps:K->List Nat
 |.mv x|.box x|.xn x|.un _ x|.fa _ x|.yO _ _ x|.ext _ x|.len _ x|.conv _ x|.ld _ x=>x.tmps
 |.pick c a b=>c.tmps++a.tmps++b.tmps
 |.new _=>[]
 |.build _ ps=>ps.flatMap fun p=>p.2.2.2.tmps
 |.wh _ xs=>xs.flatMap aV.tmps
 |.jy _ a x|.bin _ a x|.eq _ _ a x|.ia _ a x|.idx a x|.app _ _ a x=>a.tmps++x.tmps
 |.slc _ _ x lo hi=>x.tmps++lo.toList.flatMap aV.tmps++hi.toList.flatMap aV.tmps
 |.zl _ fs cs=>fs.flatMap aV.tmps++cs.flatMap aV.tmps
 |.call f xs=>f.tmps++xs.flatMap aV.tmps
 |.ex k=>k.tmps
def l7(ts:List Nat)(e e':af):Prop:=∀t,t∈ts->e'.get t=e.get t
def l7.sub{ts us:List Nat}{e e':af}(h:l7 ts e e')(hs:∀t,t∈us->t∈ts):l7 us e e':=fun t ht=>h t (hs t ht)
def dd{e e':af}{x:aV}(h:l7 x.tmps e e'):x.ev e'=x.ev e:=by
 cases x with
 |t n=>exact h n (by simp[aV.tmps])
 |c v=>rfl
 |f k=>rfl
def Bv{e e':af}:∀{xs:List aV},l7 (xs.flatMap aV.tmps) e e'->iI e' xs=iI e xs
 |[],_=>rfl
 |x::xs,h=>by
  simp only[iI]
  rw[dd (x:=x) (fun t ht=>h t (by simp[ht])),Bv (xs:=xs) (fun t ht=>h t (by
   simp only[iO,cC];exact .inr ht))]
def Tc{e e':af}:∀{ps:List (Nat×Nat×Nat×aV)},l7 (ps.flatMap fun p=>p.2.2.2.tmps) e e'->bz e' ps=bz e ps
 |[],_=>rfl
 |(f,o,n,x)::ps,h=>by
  simp only[bz]
  rw[dd (x:=x) (fun t ht=>h t (by simp[ht])),Tc (ps:=ps) (fun t ht=>h t (by
   simp only[iO,cC];exact .inr ht))]
def S9{e e':af}{x:Option aV}(h:l7 (x.toList.flatMap aV.tmps) e e'):ju e' x=ju e x:=by
 cases x with
 |none=>rfl
 |some x=>simp only[ju];rw[dd (x:=x) (fun t ht=>h t (by simpa using ht))]
def Td{e e':af}{S:St}{k:X}(h:l7 k.tmps e e'):aZ e' S k=aZ e S k:=by
 cases k<;>simp only[X.tmps]at h<;>simp only[aZ]
 case eqs n s os x y=>rw[dd (h.sub (us:=x.tmps) (by simp;grind)),dd (h.sub (us:=y.tmps) (by simp;grind))]
 case eqn n x=>rw[dd h]
 case xf kd z ok x y=>rw[dd (h.sub (us:=x.tmps) (by simp;grind)),dd (h.sub (us:=y.tmps) (by simp;grind))]
 case sn kd x y z=>rw[dd (h.sub (us:=x.tmps) (by simp;grind)),dd (h.sub (us:=y.tmps) (by simp;grind)),dd (h.sub (us:=z.tmps) (by simp;grind))]
 case uq sz b z x y=>rw[dd (h.sub (us:=x.tmps) (by simp;grind)),dd (h.sub (us:=y.tmps) (by simp;grind))]
 case Gm n sz x y=>rw[dd (h.sub (us:=x.tmps) (by simp;grind)),dd (h.sub (us:=y.tmps) (by simp;grind))]
 case yz x=>rw[dd h]
 case Fp x=>rw[dd h]
 case rng x=>rw[dd h]
 case ent x=>rw[dd h]
 case wrap n x=>rw[dd h]
 case del kd x y=>rw[dd (h.sub (us:=x.tmps) (by simp;grind)),dd (h.sub (us:=y.tmps) (by simp;grind))]
 case Ce n sz kd x y=>rw[dd (h.sub (us:=x.tmps) (by simp;grind)),dd (h.sub (us:=y.tmps) (by simp;grind))]
 case mm m x y=>rw[dd (h.sub (us:=x.tmps) (by simp;grind)),dd (h.sub (us:=y.tmps) (by simp;grind))]
def FN{e e':af}{S:St}{k:K}(h:l7 k.tmps e e'):br e' S k=br e S k:=by
 cases k<;>simp only[K.tmps]at h<;>simp only[br]
 case mv x=>rw[dd h]
 case pick c a b=>
  have ha:=dd (h.sub (us:=a.tmps) (by simp;grind));have hb:=dd (h.sub (us:=b.tmps) (by simp;grind));rw[dd (h.sub (us:=c.tmps) (by simp;grind))];split
  .rename_i t _;cases t<;>simp[ha,hb]
  .rfl
 case box x=>rw[dd h]
 case build z ps=>rw[Tc h]
 case wh sz xs=>rw[Bv h]
 case ld k a=>rw[dd h]
 case jy n a x=>rw[dd (h.sub (us:=a.tmps) (by simp;grind)),dd (h.sub (us:=x.tmps) (by simp;grind))]
 case xn x=>rw[dd h]
 case bin op a x=>rw[dd (h.sub (us:=a.tmps) (by simp;grind)),dd (h.sub (us:=x.tmps) (by simp;grind))]
 case eq kd ng a x=>rw[dd (h.sub (us:=a.tmps) (by simp;grind)),dd (h.sub (us:=x.tmps) (by simp;grind))]
 case un op x=>rw[dd h]
 case fa op x=>rw[dd h]
 case ia sz a x=>rw[dd (h.sub (us:=a.tmps) (by simp;grind)),dd (h.sub (us:=x.tmps) (by simp;grind))]
 case idx a x=>rw[dd (h.sub (us:=a.tmps) (by simp;grind)),dd (h.sub (us:=x.tmps) (by simp;grind))]
 case yO o k x=>rw[dd h]
 case slc s sz x lo hi=>rw[dd (h.sub (us:=x.tmps) (by simp;grind)),S9 (h.sub (us:=lo.toList.flatMap aV.tmps) (by simp;grind)),S9 (h.sub (us:=hi.toList.flatMap aV.tmps) (by simp;grind))]
 case ext i x=>rw[dd h]
 case len s x=>rw[dd h]
 case app sz b a x=>rw[dd (h.sub (us:=a.tmps) (by simp;grind)),dd (h.sub (us:=x.tmps) (by simp;grind))]
 case zl k fs cs=>rw[Bv (h.sub (us:=fs.flatMap aV.tmps) (by simp;grind)),Bv (h.sub (us:=cs.flatMap aV.tmps) (by simp;grind))]
 case conv k x=>rw[dd h]
 case ex k=>exact Td h
def K.writes:K->Bool
 |.new _|.box _|.jy ..|.app ..|.call ..=>true
 |.ex k=>k.writes
 |_=>false
def Ti{e:af}{S S':St}{k:X}{r:V}(hw:k.writes=false)(h:aZ e S k=some (r,S')):S'=S:=by
 cases k<;>simp only[X.writes,Ej]at hw<;>simp only[aZ]at h
 all_goals first
  |(simp only[pK]at h;obtain⟨_,_,h⟩:=h)
  |skip
 all_goals (repeat' split at h)
 all_goals first
  |(cases h;done)
  |(simp only[dL,Prod.mk.injEq]at h;obtain⟨_,_,_,h⟩:=h;exact h.symm)
  |(simp only[Option.some.injEq,Prod.mk.injEq]at h;exact h.2.symm)
def Br{e:af}{S S':St}{k:K}{r:V}(hw:k.writes=false)(h:br e S k=some (r,S')):S'=S:=by
 cases k<;>simp only[K.writes,Ej]at hw<;>simp only[br]at h
 case ex k=>exact Ti hw h
 all_goals first
  |(simp only[dL,Prod.mk.injEq]at h;obtain⟨_,_,_,h⟩:=h;exact h.symm)
  |skip
 all_goals first
  |(simp only[pK]at h;obtain⟨_,_,h⟩:=h)
  |skip
 all_goals (repeat' split at h)
 all_goals first
  |(cases h;done)
  |(simp only[dL,Prod.mk.injEq]at h;obtain⟨_,_,_,h⟩:=h;exact h.symm)
  |(simp only[Option.some.injEq,Prod.mk.injEq]at h;exact h.2.symm)
def K.reads:K->Bool
 |.new _|.box _|.jy ..|.app ..|.call ..|.ld ..|.ia ..|.slc ..=>true
 |.ex k=>k.reads
 |_=>false
def Tf{e:af}{S T:St}{k:X}(hr:k.reads=false):aZ e T k=(aZ e S k).map fun p=>(p.1,T):=by
 cases k<;>simp only[X.reads,Ej]at hr<;>simp only[aZ]
 case wrap n x=>
  cases x.ev e with
  |none=>rfl
  |some v=>simp only[ez];split<;>rfl
 all_goals ((repeat' split)<;>first|rfl|(simp only[AU];rfl)|simp)
def qdf{e:af}{S T:St}{k:K}(hr:k.reads=false):br e T k=(br e S k).map fun p=>(p.1,T):=by
 cases k<;>simp only[K.reads,Ej]at hr<;>simp only[br]
 case ex k=>exact Tf hr
 all_goals first
  |rfl
  |(simp only[AU];rfl)
  |(simp only[Option.map_bind];congr 1;funext v;simp only[Function.comp];first|rfl|(simp only[AU];rfl)|(repeat' split)<;>first|rfl|(simp only[AU];rfl))
  |((repeat' split)<;>first|rfl|(simp only[AU];rfl)|simp)
end Go.Proofs.YtbifpocccfkhhaaGreatDoor
