/- A part. -/
import Derived.Test.YtbifpocccfkhhaaGreatDoorKl
import Derived.Sort.Walk0
set_option linter.all false
noncomputable section
namespace Go.Proofs.YtbifpocccfkhhaaGreatDoor
open Go Go.Proofs.Tryz
theorem qb5:∀(k:Nat) (l:List Bz),l.length≤k→∀x,x∈nms l→x∈l
 | _,[],_,x,h=>by simp[nms,qd,binds] at h
 | 0,_::_,h,_,_=>by simp at h
 | k+1,y::l',h,x,hx=>by
  obtain ⟨l,z,hl⟩:∃l z,y::l'=l++[z]:=⟨(y::l').dropLast,(y::l').getLast (by simp),(List.dropLast_concat_getLast _).symm⟩;rw[hl] at h hx ⊢;have hk:l.length≤k:=by simp at h;exact h
  rw[qcK] at hx;split at hx
  ·exact qq6 _ (qb5 k l hk x hx)
  ·rcases qq0.1 hx with hx|hx
   ·exact qq6 _ (qb5 k l hk x hx)
   ·exact qq9 _ hx
theorem QG{l:List Bz}{x:Bz}(h:x∈nms l):x∈l:=qb5 _ l (qqY _) x h
theorem qbk{b:List Sm}(h:Sm.okL b){x:Bz}(hx:x∈qk b):x.size≤B50:=by
 obtain ⟨s,hs,hx⟩:=qr6.1 hx;exact ((Sm.ok_iff s).1 (Sm.okL_mem h s hs)).labels.2 x hx
mutual
theorem Sm.bn_ok:∀(s:Sm),s.ok→∀x,x∈s.bn→x.size≤B50
 | .mk l k t g e f d b,v,x,hx=>by
  have V:=(Sm.ok_iff _).1 v;have vd:=V.decls.2;have vb:=V.body.2;simp only[Sm.decls,Sm.body] at vd vb;rw[Sm.bn] at hx;split at hx
  ·rcases qq0.1 hx with hx|hx
   ·rcases qq0.1 hx with hx|hx
    ·rcases qq0.1 (QG hx) with hx|hx
     ·obtain ⟨y,hy,hx⟩:=qr6.1 hx;exact ((De.ok_iff y).1 (De.okL_mem vd y hy)).names.2 x hx
     ·exact qbk vb hx
    ·exact De.bnl_ok d vd x hx
   ·exact Sm.bnl_ok b vb x hx
  ·split at hx
   ·rcases qq0.1 hx with hx|hx
    ·exact qbk vb (QG hx)
    ·exact Sm.bnl_ok b vb x hx
   ·exact Sm.bn1_ok b vb x hx
theorem De.bn_ok:∀(s:De),s.ok→∀x,x∈s.bn→x.size≤B50
 | .mk k o t ns e fo b,v,x,hx=>by
  have V:=(De.ok_iff _).1 v;have vf:=V.formals.2;have vb:=V.body.2;simp only[De.formals,De.body] at vf vb;rw[De.bn] at hx;split at hx
  ·rcases qq0.1 hx with hx|hx
   ·obtain ⟨y,hy,rfl⟩:=qrf.1 (QG hx);exact vf y hy
   ·exact Sm.bn1_ok b vb x hx
  ·simp at hx
theorem De.bnl_ok:∀(l:List De),De.okL l→∀x,x∈De.bnl l→x.size≤B50
 | [],_,x,hx=>by simp[De.bnl] at hx
 | y::l,v,x,hx=>by
  rw[De.okL] at v;rw[De.bnl] at hx;rcases qq0.1 hx with hx|hx
  ·exact De.bn_ok y v.1 x hx
  ·exact De.bnl_ok l v.2 x hx
theorem Sm.bnl_ok:∀(l:List Sm),Sm.okL l→∀x,x∈Sm.bnl l→x.size≤B50
 | [],_,x,hx=>by simp[Sm.bnl] at hx
 | y::l,v,x,hx=>by
  rw[Sm.okL] at v;rw[Sm.bnl] at hx;rcases qq0.1 hx with hx|hx
  ·exact Sm.bn_ok y v.1 x hx
  ·exact Sm.bnl_ok l v.2 x hx
theorem Sm.bn1_ok:∀(l:List Sm),Sm.okL l→∀x,x∈Sm.bn1 l→x.size≤B50
 | [],_,x,hx=>by simp[Sm.bn1] at hx
 | y::l,v,x,hx=>by
  rw[Sm.okL] at v;rw[Sm.bn1] at hx;rcases qq0.1 hx with hx|hx
  ·rcases qq0.1 hx with hx|hx
   ·exact ((Sm.ok_iff y).1 v.1).labels.2 x (QG hx)
   ·exact Sm.bn_ok y v.1 x hx
  ·exact Sm.bn1_ok l v.2 x hx
end
def Sm.bounds(s:Sm):List Bz:=nms s.labels++s.bn
theorem Sm.bounds_ok(s:Sm)(v:s.ok):∀x,x∈s.bounds→x.size≤B50:=fun x hx=>(qq0.1 hx).elim (fun h=>((Sm.ok_iff s).1 v).labels.2 x (QG h)) (Sm.bn_ok s v x)
def qpl(h:coP.H):List Bz:=Prod.snd (α:=List Bz) (β:=List Bz) h
theorem qjE:HInv coP fun l h=>qpl h=l where
 e x h:=by subst h;rfl
 n {l h} x sc tg hq:=by
  show Prod.snd (coU h x.text sc)=l;unfold coU;split <;> exact hq
 c {l h} x sc hq:=by
  show Prod.snd (coU h x sc)=l;unfold coU;split <;> exact hq
theorem Sm.whole_bounds(s:Sm):qpl (s.wholeH coP coZ)=s.bounds:=by
 have h0:qpl coZ=[]:=rfl;have h1:=qjE.enters h0 _ s.labels (qqY _);have h2:=qjE.sm [qd s.labels 0] s h1;rw[qr9,qz] at h2;exact h2
theorem Sm.bounds_len(s:Sm):s.bounds.length=Sm.nb1 [s]:=by
 unfold Sm.bounds;simp only[qrd,qz,Sm.bn_length,Sm.nb1,qsV]
def Sm.binds(s:Sm):List Bz:=JB (s.bounds.foldl yR [])
theorem qnV(s:Sm)(hs:s.ok)(hsz:(Pa.st s).size≤4000)(hn:Sm.nb1 [s]≤100000)(S:St):
  qt prog 31 [s.v] S (fun r U=>r=.tup [.sl (decide ((Pa.st s).err qb≠0)) ((if (Pa.st s).err qb=0 then s.binds else []).map .str),.int .i64 ((Pa.st s).err qb)]∧Kp (fun _=>False) S U):=by
 refine qt.ib func31 ok31 ?_;obtain ⟨S1,hS1⟩:∃S1:St,S1=S++[.arr [s.v] 8 1]:=⟨_,rfl⟩;have b0:S1[S.length]?=some (.arr [s.v] 8 1):=by rw[hS1];simp
 have kS:Kp (fun _=>False) S S1:=by rw[hS1];exact (Kp.refl _ _).push _
 simp[c31,qG];rw[←hS1];simp[ldS,b0];refine qg (jU s hs S1) ?_;by_cases he:(Pa.st s).err qb=0
 ·simp[he,ldS,b0];refine qi (qcu s hs hsz hn S1) ?_;rintro r U ⟨m,c4,c5,c6,v,ps,F,D,rfl,k,kU,_⟩;have hb:(s.wholeH coP ([],[]):List Bz×List Bz).2=s.bounds:=s.whole_bounds;simp;refine qi (qop k (by rw[hb,s.bounds_len];exact hn)) ?_;rintro r U2 ⟨rfl,⟨bs,ck,hst,hm⟩,k2⟩;rw[hb] at hm;simp;refine qi (qjI U.length _ bs ck U2 hm hst (Zy List.nodup_nil) ?_ ?_) ?_
  ·have h1:=Qz (l:=s.bounds) (ks:=[]);rw[s.bounds_len] at h1;simp only[qrX] at h1;exact qrt h1 (by omega)
  ·intro x hx;rw[Qf] at hx;exact qrt (s.bounds_ok hs x (hx.elim (fun h=>by simp at h) id)) (by decide)
  ·rintro r U3 ⟨rfl,rfl⟩;simp;exact qf rfl ⟨rfl,(kS.trans kU).trans k2⟩
 ·simp[he];exact qf rfl ⟨rfl,kS⟩
end Go.Proofs.YtbifpocccfkhhaaGreatDoor

namespace Go.Proofs.YtbifpocccfkhhaaGreatDoor
open Go
theorem jH{ks:List Bz}{x:Bz}:x∈JB ks↔x∈ks:=by
 unfold JB;rw[qrf];constructor
 ·rintro ⟨y,hy,rfl⟩;rw[List.mem_mergeSort] at hy;obtain ⟨k,hk,rfl⟩:=qrf.1 hy;simpa using hk
 ·intro hx;exact ⟨x.data.toList,by rw[List.mem_mergeSort];exact qrG hx,by simp⟩
end Go.Proofs.YtbifpocccfkhhaaGreatDoor




namespace Go.Proofs.YtbifpocccfkhhaaGreatDoor
open Go
theorem Gr.rd{n0:Nat}{ys:List Bz}{v:V}{S:St}(h:Gr 1 n0 (ys.map .str) v S):Rd v ys S:=by
 rcases h with ⟨h1,rfl⟩|⟨l,wr,h1,rfl,h3,h4⟩
 ·have:ys=[]:=by simpa using h1
  subst this;exact Rd.sl true [] S
 ·rw[qq2] at h4 ⊢;exact Rd.arr h3 h4
open Go.Proofs.Tryz
theorem qlH(x:Bz){p3 p5 p7 t3 t5 m:Nat}{tks fks:List Bz}{b1 b2:List Nat}{c1 c2:Nat}{c:Bz→Int}{S:St}(h3:S[p3]?=some (.arr [.map t3] 1 1))(h3':S[t3]?=some (.map (tks.map kv) b1 c1))(h5:S[p5]?=some (.arr [.map t5] 1 1))(h5':S[t5]?=some (.map (fks.map kv) b2 c2))(h7:S[p7]?=some (.arr [.map m] 1 1))(hc:Cm c m S):
  Fn prog 146 [.str x,.ptr p3 0 0 1,.ptr p5 0 0 1,.ptr p7 0 0 1] S (.bool (Q9 x tks || Q9 x fks || decide (0<c x))):=by
 refine qt.ib func146 ok146 ?_;have l1:=qdo x h3';have l2:=qdo x h5';have l3:=hc.get x
 cases h1:Q9 x tks with
 | true=>
  rw[h1] at l1;simp[c146,ldS,h3,evX,l1,V.part,V.cells];exact qf rfl ⟨rfl,rfl⟩
 | false=>
  rw[h1] at l1
  cases h2:Q9 x fks with
  | true=>
   rw[h2] at l2;simp[c146,ldS,h3,h5,evX,l1,l2,V.part,V.cells];exact qf rfl ⟨rfl,rfl⟩
  | false=>
   rw[h2] at l2;simp[c146,ldS,h3,h5,h7,evX,l1,l2,l3,V.part,V.cells];exact qf rfl ⟨by simp[qo],rfl⟩
theorem Rd.flat{v:V}{l:List Bz}{S:St}(h:Rd v l S):v.cells=[v]∧v.flat=true∧v.size=1:=by
 have:=h.1;cases v <;> simp[lenS] at this <;> exact ⟨rfl,rfl,rfl⟩
theorem qmq(p c k:Nat)(x y:Bz)(tv:V)(l:List Bz)(U:St)(hp:U[p]?=some (plc x k y))(hc:U[c]?=some (.arr [tv] 1 1))(hr:Rd tv l U)(hk:k<l.length):
  qt prog 147 [.ptr p 0 0 1,.ptr c 0 0 1] U (fun _ U'=>U'=U.set p (plc x k (lf l k))):=by
 refine qt.ib func147 ok147 ?_;have hlf:lf l k=l[k]:=by unfold lf;rw[qqZ hk];rfl
 have hfl:=hr.flat;obtain ⟨q,q1,q2⟩:=hr.2 k hk;rw[hlf];unfold plc at hp ⊢;have e1:ldS U (.ptr p 0 0 1) none=some (.int .i64 k):=by simp[ldS,hp]
 have e2:ldS U (.ptr c 0 0 1) none=some tv:=by simp[ldS,hc,hfl]
 have e3:stS U (.ptr p 0 2 1) 1 (.str l[k])=some (U.set p (.arr [.agg [.int .i64 k,.str x,.str l[k]]] 3 1)):=by simp[stS,hp,qh]
 simp[c147,e1,e2,zY,q1,q2,e3];refine jB rfl rfl ?_;exact qA rfl rfl
structure Ap(l:List Bz)(c:Nat)(tv:V)(F D:Np)(U:St):Prop where
 f:∀x,¬ F x
 d:∀x,D x↔x=c∨∃n,tv=.arr x 0 n n
 c:U[c]?=some (.arr [tv] 1 1)
 t:(l=[]∧tv=.sl true [])∨∃a wr,tv=.arr a 0 l.length l.length∧U[a]?=some (.arr (l.map .str) 1 wr)∧wr≤l.length
section
variable {l:List Bz} {c:Nat} {tv:V} {F D:Np} {U:St}
theorem Ap.rd(k:Ap l c tv F D U):Rd tv l U:=by
 rcases k.t with ⟨rfl,rfl⟩|⟨a,wr,rfl,h1,h2⟩
 ·exact Rd.sl true [] U
 ·exact Rd.arr h1 h2
theorem Ap.gD(k:Ap l c tv F D U){x:Nat}(h:D x):∃o,U[x]?=some o∧(∀i,o≠.loop i)∧∀y k z,o≠plc y k z:=by
 rcases (k.d x).1 h with rfl|⟨n,hn⟩
 ·refine ⟨_,k.c,by simp,fun y i z hh=>?_⟩;unfold plc at hh;simp at hh
 ·rcases k.t with ⟨_,rfl⟩|⟨a,wr,rfl,h1,h2⟩
  ·cases hn
  ·cases hn;refine ⟨_,h1,by simp,fun y i z hh=>?_⟩;unfold plc at hh;simp at hh
theorem Ap.fr{U':St}{M:Np}(k:Ap l c tv F D U)(hk:Kp M U U')(hM:∀l,M l→l<U.length→¬ F l∧¬ D l):Ap l c tv F D U':=by
 have g:∀{x o},U[x]?=some o→D x→U'[x]?=some o:=fun ho hd=>hk.at ho fun hm=>(hM _ hm (glt ho)).2 hd
 refine ⟨k.f,k.d,g k.c ((k.d _).2 (.inl rfl)),k.t.imp id fun ⟨a,wr,h1,h2,h3⟩=>⟨a,wr,h1,g h2 ((k.d _).2 (.inr ⟨_,h1⟩)),h3⟩⟩
end
def apC(l:List Bz)(c:Nat):Cb where
 toPw:=nuP (lf l)
 fe:=.fn (.func 147) [] [.ptr c 0 0 1]
 fn:=.nilfn
 fc:=.nilfn
 I _ F D U:=∃tv,Ap l c tv F D U
 cn _ _:=True
 lim:=l.length
theorem qok(l:List Bz)(c:Nat)(hl:l.length≤100001):(apC l c).Ok where
 lim:=hl
 lt:=fun ⟨tv,k⟩ x hx=>by
  rcases hx with hx|hx
  ·exact absurd hx (k.f x)
  ·obtain ⟨o,ho,_⟩:=k.gD hx;exact glt ho
 fr:=fun ⟨tv,k⟩ hk hM=>⟨tv,k.fr hk hM⟩
 lp:=fun ⟨tv,k⟩ x o ho=>⟨k.f x,fun hd=>by
  obtain ⟨o',ho',h1,_⟩:=k.gD hd;rw[ho] at ho';cases ho';exact h1 _ rfl⟩
 ce _ _:=trivial
 cm _ _ _ _:=trivial
 cc _ _ _:=trivial
 real:=fun {h F D S} ⟨tv,k⟩ h'=>⟨F,D,S,⟨tv,k⟩,Kp.refl _ _,grow.refl _ _,grow.refl _ _⟩
 en:=.inr ⟨147,[.ptr c 0 0 1],rfl,fun U p k x h F D hp hF hD hk _ ⟨tv,hI⟩=>by
  refine qt.mono (qmq p c k x x tv l U hp hI.c hI.rd hk) fun v U' hU=>?_
  subst hU;exact ⟨F,D,⟨tv,hI.fr (M:=fun y=>y=p) ((Kp.refl _ _).set _ (.inl rfl)) fun y hy _=>by rw[hy];exact ⟨hF,hD⟩⟩,qqV (glt hp),(Kp.refl _ _).set _ (.inl (.inl rfl)),grow.refl _ _,fun _ h=>.inl h⟩⟩
 nm:=rfl
 cl:=rfl
structure Az(h:List Bz×List Bz)(m c4 c5 c6:Nat)(v:V)(ps:List Nat)(F D:Np)(q5 q7 mm:Nat)(c:Bz→Int)(U:St):Prop where
 co:Co m c4 c5 c6 h v ps F D U
 x5:U[q5]?=some (.arr [.map m] 1 1)
 x7:U[q7]?=some (.arr [.map mm] 1 1)
 xm:Cm c mm U
 o5:¬ F q5∧¬ D q5
 o7:¬ F q7∧¬ D q7
 om:¬ F mm∧¬ D mm
section
variable {h:List Bz×List Bz} {m c4 c5 c6:Nat} {v:V} {ps:List Nat} {F D:Np} {q5 q7 mm:Nat} {c:Bz→Int} {U:St}
theorem Az.mo(k:Az h m c4 c5 c6 v ps F D q5 q7 mm c U):∃ms bs ck,U[mm]?=some (.map (List.map ki ms) bs ck):=by
 obtain ⟨ms,bs,ck,h,_⟩:=k.xm;exact ⟨ms,bs,ck,h⟩
theorem Az.fr{U':St}{M:Np}(k:Az h m c4 c5 c6 v ps F D q5 q7 mm c U)(hk:Kp M U U')(hM:∀l,M l→l<U.length→¬ F l∧¬ D l∧l≠q5∧l≠q7∧l≠mm):Az h m c4 c5 c6 v ps F D q5 q7 mm c U':=
 ⟨k.co.fr hk fun l hl hh=>⟨(hM l hl hh).1,(hM l hl hh).2.1⟩,hk.at k.x5 fun hh=>(hM _ hh (glt k.x5)).2.2.1 rfl,hk.at k.x7 fun hh=>(hM _ hh (glt k.x7)).2.2.2.1 rfl,k.xm.keep fun o ho=>hk.at ho fun hh=>(hM _ hh (glt ho)).2.2.2.2 rfl,k.o5,k.o7,k.om⟩
theorem Az.put(k:Az h m c4 c5 c6 v ps F D q5 q7 mm c U)(s:Bz)(n:Int):∃o,qaV U .str (.map mm) (.str s) (.int .i64 n)=some (U.set mm o)∧Az h m c4 c5 c6 v ps F D q5 q7 mm (fun x=>if x=s then n else c x) (U.set mm o):=by
 obtain ⟨es,bs,ck,h1,h2⟩:=k.xm.put s n;obtain ⟨ms,b0,k0,h3⟩:=k.mo;refine ⟨_,h1,k.co.set _ k.om.1 k.om.2,?_,?_,h2 _ (qqV (glt h3)),k.o5,k.o7,k.om⟩
 ·rw[qqX (YZ h3 k.x5 (by simp))];exact k.x5
 ·rw[qqX (YZ h3 k.x7 (by simp))];exact k.x7
end
mutual
theorem Sm.bn_nm{nm:Bz→Bool}:∀(s:Sm),(Pa.st s).valid nm=true→∀x,x∈s.bn→nm x=true
 | .mk l k t g e f d b,v,x,hx=>by
  have vd:=Sm.valid_decls v;have vb:=Sm.valid_body v;simp only[Sm.decls,Sm.body] at vd vb
  have lab:x∈qk b→nm x=true:=fun hx=>by
   obtain ⟨y,hy,hx⟩:=qr6.1 hx;exact Sm.valid_labels (vb y hy) x hx
  rw[Sm.bn] at hx;split at hx
  ·rcases qq0.1 hx with hx|hx
   ·rcases qq0.1 hx with hx|hx
    ·rcases qq0.1 (QG hx) with hx|hx
     ·obtain ⟨y,hy,hx⟩:=qr6.1 hx;exact De.valid_names (vd y hy) x hx
     ·exact lab hx
    ·exact De.bnl_nm d vd x hx
   ·exact Sm.bnl_nm b vb x hx
  ·split at hx
   ·rcases qq0.1 hx with hx|hx
    ·exact lab (QG hx)
    ·exact Sm.bnl_nm b vb x hx
   ·exact Sm.bn1_nm b vb x hx
theorem De.bn_nm{nm:Bz→Bool}:∀(s:De),(Pa.de s).valid nm=true→∀x,x∈s.bn→nm x=true
 | .mk k o t ns e fo b,v,x,hx=>by
  have vb:=De.valid_body v;have vf:=De.valid_formals v;simp only[De.body,De.formals] at vb vf;rw[De.bn] at hx;split at hx
  ·rcases qq0.1 hx with hx|hx
   ·obtain ⟨y,hy,rfl⟩:=qrf.1 (QG hx);exact vf y hy
   ·exact Sm.bn1_nm b vb x hx
  ·simp at hx
theorem De.bnl_nm{nm:Bz→Bool}:∀(l:List De),(∀y,y∈l→(Pa.de y).valid nm=true)→∀x,x∈De.bnl l→nm x=true
 | [],_,x,hx=>by simp[De.bnl] at hx
 | y::l,v,x,hx=>by
  rw[De.bnl] at hx;rcases qq0.1 hx with hx|hx
  ·exact De.bn_nm y (v y (by simp)) x hx
  ·exact De.bnl_nm l (fun z hz=>v z (by simp[hz])) x hx
theorem Sm.bnl_nm{nm:Bz→Bool}:∀(l:List Sm),(∀y,y∈l→(Pa.st y).valid nm=true)→∀x,x∈Sm.bnl l→nm x=true
 | [],_,x,hx=>by simp[Sm.bnl] at hx
 | y::l,v,x,hx=>by
  rw[Sm.bnl] at hx;rcases qq0.1 hx with hx|hx
  ·exact Sm.bn_nm y (v y (by simp)) x hx
  ·exact Sm.bnl_nm l (fun z hz=>v z (by simp[hz])) x hx
theorem Sm.bn1_nm{nm:Bz→Bool}:∀(l:List Sm),(∀y,y∈l→(Pa.st y).valid nm=true)→∀x,x∈Sm.bn1 l→nm x=true
 | [],_,x,hx=>by simp[Sm.bn1] at hx
 | y::l,v,x,hx=>by
  rw[Sm.bn1] at hx;rcases qq0.1 hx with hx|hx
  ·rcases qq0.1 hx with hx|hx
   ·exact Sm.valid_labels (v y (by simp)) x (QG hx)
   ·exact Sm.bn_nm y (v y (by simp)) x hx
  ·exact Sm.bn1_nm l (fun z hz=>v z (by simp[hz])) x hx
end
theorem Sm.bounds_nm{nm:Bz→Bool}(s:Sm)(v:(Pa.st s).valid nm=true):∀x,x∈s.bounds→nm x=true:=fun x hx=>(qq0.1 hx).elim (fun h=>Sm.valid_labels v x (QG h)) (Sm.bn_nm s v x)
theorem qiW(s:Sm)(b:Bz):Q9 b ((ym (s.wholeH coP coZ)).foldl yR [])=Q9 b s.frees:=by
 rw[qrz,zo,zo];unfold Sm.frees;rw[jH]
theorem qgq(l:List Bz)(y x:Bz):Qe (l++[y]) x=if x=y then Qe l y+1 else Qe l x:=by
 rw[Yh];simp only[Qe];split
 ·rename_i h;rw[h];omega
 ·omega
theorem qgG(a b:List Bz)(y t x:Bz):Qe (a++t::b) x=if x=t then (if t=y then Qe (a++y::b) y - 1 else Qe (a++y::b) t)+1 else if x=y then Qe (a++y::b) y - 1 else Qe (a++y::b) x:=by
 simp only[Yh,Qe];by_cases h1:x=t
 ·subst h1;by_cases h2:x=y
  ·subst h2;simp
  ·simp[h2];omega
 ·by_cases h2:x=y
  ·subst h2;simp[h1];omega
  ·simp[h1,h2]
theorem qqf{v y:V}(hv:v.size=1)(hy:y.cells=[y]∧y.flat=true∧y.size=1):V.upd v 0 1 y=some y:=by
 unfold V.upd;rw[if_pos ⟨hy.2.2,by rw[hy.1];simp[hy.2.1]⟩,if_pos ⟨rfl,hv.symm⟩]
theorem qoV(s:Sm)(hs:s.ok)(va:(Pa.st s).valid qb=true)(hsz:(Pa.st s).size≤4000)(tks:List Bz)(htk:s.frees.length+Sm.nb1 [s]+tks.length≤899)(tk:Nat)(b1:List Nat)(k1:Nat)(S:St)(htS:S[tk]?=some (.map (tks.map kv) b1 k1)):
    qt prog 95 [s.v,.map tk] S (fun r U=>r=(s.whole (lf (apL tks s.frees [] s.bounds))).v∧Kp (fun _=>False) S U):=by
  refine qt.ib func95 ok95 ?_;obtain ⟨S1,hS1⟩:∃S1:St,S1=S++[.arr [s.v] 8 1,.arr [.map tk] 1 1,.arr [smZ] 8 1]:=⟨_,rfl⟩;have p0:S1[S.length]?=some (.arr [s.v] 8 1):=by rw[hS1];simp
  have p1:S1[S.length+1]?=some (.arr [.map tk] 1 1):=by rw[hS1,qqU (by omega)];simp
  have p2:S1[S.length+2]?=some (.arr [smZ] 8 1):=by rw[hS1,qqU (by omega)];simp
  have l1:S1.length=S.length+3:=by rw[hS1];simp
  have kS:Kp (fun _=>False) S S1:=by rw[hS1];exact (Kp.refl _ _).push _
  have pt:S1[tk]?=some (.map (tks.map kv) b1 k1):=kS.at htS id;have d0:ldS S1 (.ptr S.length 0 0 1) (some 8)=some s.v:=by simp[ldS,p0]
  have hN:=s.bounds_len;simp[c95,qG];rw[←hS1];simp[d0];refine qi (qcu s hs (by omega) (by omega) S1) ?_;rintro r U ⟨m,c4,c5,c6,v,ps,F,D,rfl,co,kU,far⟩;have hb2:(s.wholeH coP ([],[]):List Bz×List Bz).2=s.bounds:=s.whole_bounds;have hlv:=co.lenS;rw[hb2] at hlv;have hvc:v.cells=[v]∧v.flat=true∧v.size=1:=by rcases co.gr with ⟨_,rfl⟩|⟨a,wr,rfl,_⟩ <;> exact ⟨rfl,rfl,rfl⟩
  have lU:=kU.len;obtain ⟨h,hh⟩:∃h:List Bz×List Bz,h=(s.wholeH coP ([],[]):List Bz×List Bz):=⟨_,rfl⟩;obtain ⟨U2,hU2⟩:∃U2:St,U2=U++[.arr [.map m] 1 1,.map [] [] 0,.arr [.map (U.length+1)] 1 1]:=⟨_,rfl⟩;have out:∀l,U.length≤l→¬ F l∧¬ D l:=fun l hl=>⟨fun hf=>by have:=co.lt (.inl hf);omega,fun hf=>by have:=co.lt (.inr hf);omega⟩
  have az:Az h m c4 c5 c6 v ps F D U.length (U.length+2) (U.length+1) (fun _=>0) U2:=by
    rw[hU2,hh];refine ⟨co.push _,by simp,by rw[qqU (by omega)];simp,⟨[],[],0,by rw[qqU (by omega)];simp,fun _=>rfl⟩,out _ (by omega),out _ (by omega),out _ (by omega)⟩
  have kU2:Kp (fun _=>False) S1 U2:=by rw[hU2];exact kU.push _
  have hbl:s.bounds.length<900:=by omega
  simp[qG,evX,stS,YC,↓qap,hlv];rw[←hU2];refine qQ (fun e X=>Az h m c4 c5 c6 v ps F D U.length (U.length+2) (U.length+1) (Qe s.bounds) X∧Kp (fun _=>False) S1 X∧U2.length≤X.length∧e.get 2=some (.ptr S.length 0 0 1)∧e.get 3=some (.ptr (S.length+1) 0 0 1)∧e.get 4=some (.ptr (S.length+2) 0 0 1)∧e.get 5=some (.ptr U.length 0 0 1)∧e.get 6=some v∧e.get 7=some (.ptr (U.length+2) 0 0 1)) ?_ ?_
  · refine qw (fun j e X=>∃i:Nat,j=s.bounds.length - i∧i≤s.bounds.length∧Az h m c4 c5 c6 v ps F D U.length (U.length+2) (U.length+1) (Qe (s.bounds.take i)) X∧Kp (fun _=>False) S1 X∧U2.length≤X.length∧
      e=[(23,.int .i64 i),(22,.int .i64 s.bounds.length),(21,v),(7,.ptr (U.length+2) 0 0 1),(6,v),(5,.ptr U.length 0 0 1),(4,.ptr (S.length+2) 0 0 1),(3,.ptr (S.length+1) 0 0 1),(2,.ptr S.length 0 0 1)]) s.bounds.length _ ?_ ⟨0,by simp,by omega,az,kU2,qqY _,rfl⟩ ?_
    · exact Env.so (by simp)
    rintro j e X ⟨i,rfl,hi,az,kX,lX,rfl⟩;by_cases hlt:i<s.bounds.length
    · have hlt':i<h.2.length:=by rw[hh,hb2];exact hlt
      obtain ⟨p,l,st,h1,h2,h3⟩:=az.co.at hlt';have hx:h.2[i]=s.bounds[i]:=by simp only[hh,hb2]
      rw[hx] at h3;obtain ⟨x,hxx⟩:∃x,x=s.bounds[i]:=⟨_,rfl⟩;rw[←hxx] at h3;unfold plc at h3;have h4:ldS X (.ptr p 0 1 1) none=some (.str x):=by simp only[ldS,h3];rfl
      have h7:ldS X (.ptr (U.length+2) 0 0 1) none=some (.map (U.length+1)):=by simp[ldS,az.x7,V.part,V.cells]
      have hg:=az.xm.get x;have hle:=J4 x (s.bounds.take i);have htl:(s.bounds.take i).length≤900:=by rw[qsf];omega
      obtain ⟨o,hp,az2⟩:=az.put x (Qe (s.bounds.take i) x+1)
      have hc:(fun y=>if y=x then Qe (s.bounds.take i) x+1 else Qe (s.bounds.take i) y)=Qe (s.bounds.take (i+1)):=by
        funext y;rw[qrj,qqZ hlt,qrH,←hxx,qgq]
      rw[hc] at az2;have i1:=qu (n:=Qe (s.bounds.take i) x+1) (by omega) (by omega);simp[hlt,h1,h2,zY,h7,h4,evX,hg,i1,hp];refine jB rfl rfl ?_;simp[zk (n:=(i:Int)+1)];refine ⟨_,?_,_,?_,i+1,rfl,by omega,az2,kX.set _ (.inr (by omega)),by simpa using lX,rfl⟩
      · omega
      · exact Env.so (by simp)
    · have:i=s.bounds.length:=by omega
      subst this;rw[qrP] at az;simp;exact ⟨az,kX,lX⟩
  clear az kU2;rintro e X ⟨az,kX,lX,g2,g3,g4,g5,g6,g7⟩;simp[g2,g3,g4,g5,g6,g7,qG,stS,↓qap,hlv];obtain ⟨Q,hQ⟩:∃Q,Q=X.length:=⟨_,rfl⟩;rw[←hQ];obtain ⟨dn,hdn⟩:∃dn:Nat→List Bz,dn=fun i=>apD tks s.frees [] s.bounds i:=⟨_,rfl⟩
  have dn0:dn 0=[]:=by rw[hdn];simp[apD]
  have dnl:∀i,i≤s.bounds.length→(dn i).length=i:=fun i hi=>by rw[hdn];simpa using kz tks s.frees s.bounds [] i hi
  have dns:∀i (hi:i<s.bounds.length),dn (i+1)=dn i++[apN tks s.frees (dn i) s.bounds[i] (s.bounds.drop (i+1))]:=fun i hi=>by rw[hdn];exact qdz tks s.frees s.bounds [] i hi
  have hU2l:U2.length=U.length+3:=by rw[hU2];simp
  have lo:∀l,Q≤l→¬ F l∧¬ D l∧l≠U.length∧l≠U.length+2∧l≠U.length+1:=fun l hl=>⟨fun hf=>by have:=az.co.lt (.inl hf);omega,fun hf=>by have:=az.co.lt (.inr hf);omega,by omega,by omega,by omega⟩
  obtain ⟨Inv,hInv⟩:∃Inv:Nat→V→St→Prop,∀i tv Y,Inv i tv Y↔(Az h m c4 c5 c6 v ps F D U.length (U.length+2) (U.length+1) (Qe (dn i++s.bounds.drop i)) Y∧Kp (fun _=>False) S1 Y∧Y[Q]?=some (.arr [tv] 1 1)∧Gr 1 (Q+1) ((dn i).map .str) tv Y):=⟨_,fun _ _ _=>Iff.rfl⟩;have step:∀(i:Nat) (hi:i<s.bounds.length) (Y:St) (tv:V),Az h m c4 c5 c6 v ps F D U.length (U.length+2) (U.length+1) (Qe (dn (i+1)++s.bounds.drop (i+1))) Y→Kp (fun _=>False) S1 Y→Y[Q]?=some (.arr [tv] 1 1)→Gr 1 (Q+1) ((dn i).map .str) tv Y→
      ∃tv' Z,Jz Y 1 16 tv (.sl true [.str (apN tks s.frees (dn i) s.bounds[i] (s.bounds.drop (i+1)))])=some (tv',Z)∧Z[Q]?=some (.arr [tv] 1 1)∧tv'.cells=[tv']∧tv'.flat=true∧tv'.size=1∧Inv (i+1) tv' (Z.set Q (.arr [tv'] 1 1)):=fun i hi Y tv az kY hq hg=>by
    have lY:=glt hq;obtain ⟨tv',Z,h1,h2,h3,h4⟩:=hg.app1 (bytes:=16) (y:=.str (apN tks s.frees (dn i) s.bounds[i] (s.bounds.drop (i+1)))) (b:=true) rfl (by rw[qq2,dnl i (by omega)];omega) (by omega);have h5:(dn i).map V.str++[.str (apN tks s.frees (dn i) s.bounds[i] (s.bounds.drop (i+1)))]=(dn (i+1)).map .str:=by rw[dns i hi,qrg];rfl
    rw[h5] at h2;have hf:=h2.rd.flat;have kZ:Kp (fun l=>Q≤l) Y Z:=⟨h3,fun l hl hn=>h4 l (by omega)⟩;refine ⟨tv',Z,h1,?_,hf.1,hf.2.1,hf.2.2,(hInv _ _ _).2 ⟨?_,?_,?_,?_⟩⟩
    · rw[h4 Q (by omega)];exact hq
    · exact az.fr (M:=fun l=>Q≤l) (kZ.set _ (.inl (qqY _))) fun l hl _=>lo l hl
    · have h6:Kp (fun _=>False) S1 Z:=⟨by have:=kY.len;omega,fun l hl hn=>by rw[h4 l (by have:=kX.len;omega)];exact kY.get l hl hn⟩;exact h6.set _ (.inr (by have:=kX.len;omega))
    · exact qqV (by omega)
    · refine h2.keep fun l hl _=>?_
      rw[qqX (by omega)]
  refine qQ (fun e Y=>∃tv,Inv s.bounds.length tv Y∧e.get 2=some (.ptr S.length 0 0 1)∧e.get 4=some (.ptr (S.length+2) 0 0 1)∧e.get 10=some (.ptr Q 0 0 1)) ?_ ?_
  · refine qw (fun j e Y=>∃(i:Nat) (tv:V),j=s.bounds.length - i∧i≤s.bounds.length∧Inv i tv Y∧
      e=[(37,.int .i64 i),(36,.int .i64 s.bounds.length),(35,v),(10,.ptr Q 0 0 1),(7,.ptr (U.length+2) 0 0 1),(5,.ptr U.length 0 0 1),(4,.ptr (S.length+2) 0 0 1),(3,.ptr (S.length+1) 0 0 1),(2,.ptr S.length 0 0 1)]) s.bounds.length _ ?_ ⟨0,.sl true [],by simp,by omega,(hInv _ _ _).2 ⟨?_,?_,?_,?_⟩,rfl⟩ ?_
    · repeat' first|exact Env.sub_nil _|refine Env.sub_cons (by simp[g2,g3,g4,g5,g6,g7]) ?_
    · rw[dn0,List.drop_zero,qr9];exact az.fr (M:=fun _=>False) ((Kp.refl _ _).push _) fun _ h=>h.elim
    · exact kX.push _
    · rw[hQ];simp
    · rw[dn0];exact Gr.nil _ _ _
    rintro j e Y ⟨i,tv,rfl,hi,hI,rfl⟩;obtain ⟨az,kY,hq,hg⟩:=(hInv _ _ _).1 hI;by_cases hlt:i<s.bounds.length
    · have hlt':i<h.2.length:=by rw[hh,hb2];exact hlt
      obtain ⟨p,l,st,h1,h2,h3⟩:=az.co.at hlt';have hx:h.2[i]=s.bounds[i]:=by simp only[hh,hb2]
      rw[hx] at h3;have hap:apN tks s.frees (dn i) s.bounds[i] (s.bounds.drop (i+1))=if Q9 s.bounds[i] tks=true then frs s.bounds[i] (s.frees++(dn i++s.bounds[i]::s.bounds.drop (i+1))++tks) else s.bounds[i]:=rfl
      have hst:=step i hlt;have hdl:=dnl i hi;have hds:=dns i hlt;have hdr:s.bounds.drop i=s.bounds[i]::s.bounds.drop (i+1):=qst hlt;have hxs:s.bounds[i].size≤16:=QV (s.bounds_nm va _ (qra hlt));rw[hdr] at az;obtain ⟨rest,hrest⟩:∃rest,rest=s.bounds.drop (i+1):=⟨_,rfl⟩;have hrl:rest.length=s.bounds.length - (i+1):=by rw[hrest,List.length_drop]
      obtain ⟨x,hxx⟩:∃x,x=s.bounds[i]:=⟨_,rfl⟩;rw[←hxx,←hrest] at hap hst hds az;rw[←hxx] at h3 hxs;unfold plc at h3;have h4:ldS Y (.ptr p 0 1 1) none=some (.str x):=by simp only[ldS,h3];rfl
      have e1:=kY.at p1 id;have q3:ldS Y (.ptr (S.length+1) 0 0 1) none=some (.map tk):=by simp[ldS,e1,V.part,V.cells]
      have tkY:=kY.at pt id;have hlk:=qdo x tkY;have htf:=hg.rd.flat;have lq:∀{Z:St},Z[Q]?=some (.arr [tv] 1 1)→ldS Z (.ptr Q 0 0 1) none=some tv:=fun hZ=>by simp[ldS,hZ,htf]
      cases hin:Q9 x tks with
      | false=>
        rw[hin] at hap hlk;rw[if_neg (by simp)] at hap;rw[hap] at hst hds;obtain ⟨tv',Z,a1,a2,a3,a4,a5,a6⟩:=hst Y tv (by rw[hds,qrc];exact az) kY hq hg;have sq:stS Z (.ptr Q 0 0 1) 1 tv'=some (Z.set Q (.arr [tv'] 1 1)):=by simp[stS,a2,qqf htf.2.2 ⟨a3,a4,a5⟩]
        have hft:fits 1 [V.str x]=true:=rfl;simp[hlt,h1,h2,zY,h4,q3,evX,hlk,lq hq,hft,a1,sq,zk (n:=(i:Int)+1)];refine ⟨_,?_,_,?_,i+1,rfl,by omega,⟨tv',a6⟩,rfl⟩
        · omega
        · exact Env.so (by simp)
      | true=>
        rw[hin] at hap hlk;rw[if_pos rfl] at hap;obtain ⟨bs,ck,_,hm⟩:=az.co.fm;obtain ⟨cur,hcur⟩:∃cur,cur=dn i++x::rest:=⟨_,rfl⟩;rw[←hcur] at az hap
        have hcl:cur.length=s.bounds.length:=by
          have h8:=dnl i (by omega);rw[hcur,qrd,qrk];omega
        have hfk:h.1=ym (s.wholeH coP coZ):=by rw[hh];rfl
        obtain ⟨all,hall⟩:∃all,all=s.frees++cur++tks:=⟨_,rfl⟩;rw[←hall] at hap;simp[hlt,h1,h2,zY,h4,q3,evX,hlk];refine qi (qme x 146 [.ptr (S.length+1) 0 0 1,.ptr U.length 0 0 1,.ptr (U.length+2) 0 0 1] (fun y=>Q9 y tks || Q9 y (h.1.foldl yR []) || decide (0<Qe cur y)) all Y (fun y=>qlH y e1 tkY az.x5 hm az.x7 az.xm) (fun y=>?_) hxs ?_) ?_
        · rw[hfk,qiW,hall];simp only[qsL,zo,decide_eq_true_eq,qdF,qq0];constructor
          · rintro ((hh|hh)|hh) <;> simp[hh]
          · rintro ((hh|hh)|hh) <;> simp[hh]
        · rw[hall];simp;omega
        rintro r Y' ⟨⟨t,rfl,hfr⟩,rfl⟩;rw[qdK hfr] at hap;rw[hap] at hst hds;have lm:∀{Z:St} {c:Bz→Int},Az h m c4 c5 c6 v ps F D U.length (U.length+2) (U.length+1) c Z→ldS Z (.ptr (U.length+2) 0 0 1) none=some (.map (U.length+1)):=fun k=>by simp[ldS,k.x7,V.part,V.cells]
        have lm0:=lm az;have hg0:=az.xm.get x;have hc0:=J4 x cur;obtain ⟨o1,w1,az1⟩:=az.put x (Qe cur x - 1);have lm1:=lm az1;have hg1:=az1.xm.get t;have hc1:=J4 t cur;have hc2:-1≤(if t=x then Qe cur x - 1 else Qe cur t)∧(if t=x then Qe cur x - 1 else Qe cur t)≤1000:=by split <;> omega
        obtain ⟨o2,w2,az2⟩:=az1.put t ((if t=x then Qe cur x - 1 else Qe cur t)+1)
        have hcs:(fun y=>if y=t then (if t=x then Qe cur x - 1 else Qe cur t)+1 else if y=x then Qe cur x - 1 else Qe cur y)=Qe (dn i++t::rest):=by
          funext y;rw[hcur,qgG (dn i) rest x t y]
        rw[hcs] at az2;obtain ⟨Y1,hY1⟩:∃Y1,Y1=Y'.set (U.length+1) o1:=⟨_,rfl⟩;rw[←hY1] at lm1 hg1 w2 az1 az2 w1;obtain ⟨Y2,hY2⟩:∃Y2,Y2=Y1.set (U.length+1) o2:=⟨_,rfl⟩;rw[←hY2] at az2 w2;have kk:∀l,l≠U.length+1→Y2[l]?=Y'[l]?:=fun l hl=>by rw[hY2,qqX (Ne.symm hl),hY1,qqX (Ne.symm hl)]
        have ll:Y2.length=Y'.length:=by rw[hY2,List.length_set,hY1,List.length_set]
        have kY2:Kp (fun _=>False) S1 Y2:=⟨by rw[ll];exact kY.len,fun l hl hn=>by rw[kk l (by omega)];exact kY.get l hl hn⟩;have hq2:Y2[Q]?=some (.arr [tv] 1 1):=by rw[kk Q (by omega)];exact hq
        have hg2:Gr 1 (Q+1) ((dn i).map .str) tv Y2:=hg.keep fun l hl _=>kk l (by omega)
        obtain ⟨tv',Z,a1,a2,a3,a4,a5,a6⟩:=hst Y2 tv (by rw[hds,qrc];exact az2) kY2 hq2 hg2;have sq:stS Z (.ptr Q 0 0 1) 1 tv'=some (Z.set Q (.arr [tv'] 1 1)):=by simp[stS,a2,qqf htf.2.2 ⟨a3,a4,a5⟩]
        have hft:fits 1 [V.str t]=true:=rfl;have i1:=qu (n:=Qe cur x - 1) (by omega) (by omega);have i2:=qu (n:=(if t=x then Qe cur x - 1 else Qe cur t)+1) (by omega) (by omega);simp[zY,lm0,h4,evX,hg0,i1,w1];refine jB rfl rfl ?_;simp[lm1,evX,hg1,i2,w2,lq hq2,hft,a1,sq,zk (n:=(i:Int)+1)];refine ⟨_,?_,_,?_,i+1,rfl,by omega,⟨tv',a6⟩,rfl⟩
        · omega
        · exact Env.so (by simp)
    · have:i=s.bounds.length:=by omega
      subst this;simp;exact ⟨tv,hI⟩
  rintro e Y ⟨tv,hI,g2,g4,g10⟩;obtain ⟨az,kY,hq,hg⟩:=(hInv _ _ _).1 hI;have hfin:dn s.bounds.length=apL tks s.frees [] s.bounds:=by rw[hdn];exact qc2 tks s.frees s.bounds []
  rw[hfin] at hg;obtain ⟨L,hL⟩:∃L,L=apL tks s.frees [] s.bounds:=⟨_,rfl⟩;have hLl:L.length=s.bounds.length:=by rw[hL,YW];simp
  rw[←hL] at hg ⊢;have e0:=kY.at p0 id;have e2:=kY.at p2 id;have lX1:=kX.len;have lQ:=glt hq
  have far2:∀x n,tv=.arr x 0 n n→Q<x∧x<Y.length:=fun x n hx=>by
    rcases hg with ⟨_,rfl⟩|⟨l,wr,h1,rfl,h3,_⟩
    · cases hx
    · cases hx;exact ⟨by omega,glt h3⟩
  have ap:Ap L Q tv (fun _=>False) (fun x=>x=Q∨∃n,tv=.arr x 0 n n) Y:=⟨fun _=>id,fun _=>Iff.rfl,hq,by
    rcases hg with ⟨h1,h2⟩|⟨l,wr,h1,h2,h3,h4⟩
    · exact .inl ⟨by simpa using h1,h2⟩
    · rw[qq2] at h2 h4;exact .inr ⟨l,wr,h2,h3,h4⟩⟩
  obtain ⟨Y1,hY1⟩:∃Y1:St,Y1=Y++[.arr [.agg [.int .i64 0,.fn (.func 147) [] [.ptr Q 0 0 1],.nilfn,.nilfn]] 4 1]:=⟨_,rfl⟩;have w1:Y1[Y.length]?=some (.arr [.agg [.int .i64 0,.fn (.func 147) [] [.ptr Q 0 0 1],.nilfn,.nilfn]] 4 1):=by rw[hY1];simp
  have kY1:Kp (fun _=>False) Y Y1:=by rw[hY1];exact (Kp.refl _ _).push _
  have ld1:ldS Y1 (.ptr S.length 0 0 1) (some 8)=some s.v:=by
    have:=kY1.at e0 id;simp[ldS,this]
  have hw:Wk (apC L Q) Y.length 0 () (fun _=>False) (fun x=>x=Q∨∃n,tv=.arr x 0 n n) Y1:=⟨w1,⟨tv,ap.fr kY1 fun _ hf=>hf.elim⟩,id,by rintro (h|⟨n,h⟩);omega;have:=far2 _ _ h;omega,trivial⟩;simp[g2,g4,g10,qB,qF,qh,Zq,qG];rw[←hY1];simp[ld1];refine qi (qa5 (apC L Q) (qok L Q (by omega)) Y.length s hs (by omega) () _ _ Y1 hw (by show Sm.nb1 [s]≤L.length;omega)) ?_;rintro r Z ⟨hr,F2,D2,kw,sw⟩;have hr':r=(s.whole (lf L)).v:=by rw[hr];exact congrArg Sm.v (Sm.wholeR_w rfl rfl (fun _ _=>rfl) s va)
  have kZ:Kp (fun _=>False) S1 Z:=⟨by have:=kY.len;have:=kY1.len;have:=sw.k.len;omega,fun l hl hn=>by
    rw[sw.k.get l (by have:=kY.len;have:=kY1.len;omega) (by rintro (hh|hh);have:=kY.len;omega;exact hh),kY1.get l (by have:=kY.len;omega) id];exact kY.get l hl hn⟩
  have f2:=kZ.at p2 id;have hr8:r.size=8∧r.cells.all V.flat=true∧V.part r 0 (some 8)=some r:=by rw[hr'];exact ⟨Sm.v_size _,by simp,ZY _⟩
  have hst:stS Z (.ptr (S.length+2) 0 0 1) 8 r=some (Z.set (S.length+2) (.arr [r] 8 1)):=by simp[stS,f2,qh,hr8]
  simp[hst,g4];have hz:(Z.set (S.length+2) (.arr [r] 8 1))[S.length+2]?=some (.arr [r] 8 1):=qqV (glt f2);exact qf (vs:=[r]) (by simp[rvs,g4,ldS,hz,hr8]) ⟨hr',(kS.trans kZ).set _ (.inr (by omega))⟩
end Go.Proofs.YtbifpocccfkhhaaGreatDoor

namespace Go.Proofs.YtbifpocccfkhhaaGreatDoor
open Go Go.Proofs.Tryz
theorem qis{tk tk' fr fr':List Bz}(h1:∀x,x∈tk↔x∈tk')(h2:∀x,x∈fr↔x∈fr')(done:List Bz)(x:Bz)(rest:List Bz):apN tk fr done x rest=apN tk' fr' done x rest:=by
 have hi:Q9 x tk=Q9 x tk':=by rw[qrz,zo,zo];exact h1 x
 have hf:frs x (fr++(done++x::rest)++tk)=frs x (fr'++(done++x::rest)++tk'):=qiR fun y=>by
  simp only[qq0,h1,h2]
 unfold apN;rw[hi,hf]
theorem qcs{tk tk' fr fr':List Bz}(h1:∀x,x∈tk↔x∈tk')(h2:∀x,x∈fr↔x∈fr'):∀(rest done:List Bz),apL tk fr done rest=apL tk' fr' done rest
 | [],done=>by simp[apL]
 | x::rest,done=>by rw[apL,apL,qis h1 h2,qcs h1 h2 rest]
def Sm.aps(s:Sm)(taken:List Bz):List Bz:=apL (taken.foldl yR []) s.frees [] s.bounds
theorem Sm.aps_length(s:Sm)(taken:List Bz):(s.aps taken).length=Sm.nb1 [s]:=by
 unfold Sm.aps;rw[YW,s.bounds_len];simp
theorem qmH{l:List Bz}(h:∀x,x∈l→x.size≤16)(k:Nat):(lf l k).size≤B50:=by
 unfold lf
 cases hk:l[k]? with
 | none=>exact qrA _
 | some x=>exact qrt (h x (qq1 hk)) (by decide)
def Sm.ap(s:Sm)(taken:List Bz):Sm:=s.whole (lf (s.aps taken))
theorem qjM(x:Sm)(hx:x.ok)(S:St):qt prog 82 [x.v] S (fun r U=>r=.tup [if (Pa.st x).err qb=0 then x.v else smZ,.int .i64 ((Pa.st x).err qb)]∧Kp (fun _=>False) S U):=by
 refine qt.ib func82 ok82 ?_;obtain ⟨S1,hS1⟩:∃S1:St,S1=S++[.arr [x.v] 8 1,.arr [smZ] 8 1]:=⟨_,rfl⟩;have b0:S1[S.length]?=some (.arr [x.v] 8 1):=by rw[hS1];simp
 have b1:S1[S.length+1]?=some (.arr [smZ] 8 1):=by rw[hS1,qqU (by omega)];simp
 have kS:Kp (fun _=>False) S S1:=by rw[hS1];exact (Kp.refl _ _).push _
 have d0:ldS S1 (.ptr S.length 0 0 1) (some 8)=some x.v:=by simp[ldS,b0]
 simp[c82,qG];rw[←hS1];simp[d0];refine qg (jU x hx S1) ?_;by_cases h0:(Pa.st x).err qb=0
 ·simp[h0,d0,stS,b1,qh];have hz:(S1.set (S.length+1) (.arr [x.v] 8 1))[S.length+1]?=some (.arr [x.v] 8 1):=qqV (glt b1);exact qf (vs:=[x.v,.int .i64 0]) (by simp[rvs,ldS,hz]) ⟨rfl,kS.set _ (.inr (by omega))⟩
 ·simp[h0,qB,qF,stS,b1,qh];have hz:(S1.set (S.length+1) (.arr [smZ] 8 1))[S.length+1]?=some (.arr [smZ] 8 1):=qqV (glt b1);exact qf (vs:=[smZ,.int .i64 ((Pa.st x).err qb)]) (by simp[rvs,ldS,hz,yI]) ⟨rfl,kS.set _ (.inr (by omega))⟩
def frO(e:Oc):List Bz:=if e.2.at e.1=none then [e.1] else []
theorem qfG(h:coP.H)(x:Bz)(sc:Scs):ym (coP.clH h x sc)=ym h++frO (x,sc):=by
 show Prod.fst (coU h x sc)=_;unfold coU ym frO
 cases hs:sc.at x with
 | none=>simp[hs]
 | some k=>simp[hs]
theorem qnC:Obs coP (List Bz) ym (fun h e=>h++frO e) where
 nm h:=by cases h
 cl h:=by cases h
 n h x sc tg:=qfG h x.text sc
 c h x sc:=qfG h x sc
 e h k x:=rfl
theorem qbh{α β:Type}(g:α→List β):∀(l:List α) (h:List β),l.foldl (fun h e=>h++g e) h=h++l.flatMap g
 | [],h=>by simp
 | e::l,h=>by rw[qsD,qbh g l,qrs,qrc]
def Sm.evs(s:Sm):List Oc:=s.ev [qd s.labels 0] (qd s.labels 0).length
theorem Sm.fsto_evs{nm:Bz→Bool}(s:Sm)(v:(Pa.st s).valid nm=true):ym (s.wholeH coP coZ)=s.evs.flatMap frO:=by
 have h:=qnC.sm s [qd s.labels 0] (qd s.labels 0).length (enters coP coZ (qd s.labels 0)) v;rw[qbh,zB] at h;exact h
theorem Sm.mem_frees(s:Sm)(x:Bz):x∈s.frees↔x∈ym (s.wholeH coP coZ):=by
 unfold Sm.frees;rw[jH,Qf];simp
theorem Sm.ev_free{nm:Bz→Bool}(s:Sm)(v:(Pa.st s).valid nm=true){e:Oc}(he:e∈s.evs)(hf:e.2.at e.1=none):e.1∈s.frees:=by
 rw[Sm.mem_frees,Sm.fsto_evs s v];refine qr6.2 ⟨e,he,?_⟩;unfold frO;rw[if_pos hf];simp
theorem Sm.frees_nm(s:Sm)(v:(Pa.st s).valid qb=true){x:Bz}(hx:x∈s.frees):qb x=true:=by
 rw[Sm.mem_frees,Sm.free_occ (f:=yn) ZG s v] at hx;exact (qrR.1 hx).2
theorem zg.new{x:Bz}{all:List Bz}{t:Bz}(h:zg x all t):t∉all:=by
 rcases h with ⟨h,rfl⟩|⟨_,n,_,rfl,h,_⟩
 ·exact h
 ·exact h
theorem qo2{tk fr done rest:List Bz}{x:Bz}(hl:fr.length+(done.length+(rest.length+1))+tk.length≤899):
  (apN tk fr done x rest=x∧x∉tk)∨apN tk fr done x rest∉fr++(done++x::rest)++tk:=by
 unfold apN;split
 ·obtain ⟨t,ht⟩:=zg.exists x (fr++(done++x::rest)++tk) (by simp only[qrd,qrk];omega);rw[qdK ht];exact .inr ht.new
 ·rename_i h;exact .inl ⟨rfl,fun hx=>h (zo.2 hx)⟩
structure ApI(tk fr od done rest:List Bz):Prop where
 len:done.length=od.length
 a:∀(j k:Nat) (x:Bz),done[j]?=some x→done[k]?=some x→od[j]?=od[k]?
 b:∀(j:Nat) (x:Bz),done[j]?=some x→x∈rest→od[j]?=some x
 c:∀(j:Nat) (x:Bz),done[j]?=some x→x∈fr→od[j]?=some x
 d:∀x,x∈done→x∉tk
theorem JO{l:List Bz}{y x:Bz}{j:Nat}(h:(l++[y])[j]?=some x):l[j]?=some x∨(j=l.length∧x=y):=by
 by_cases hj:j<l.length
 ·rw[qqW hj] at h;exact .inl h
 ·rw[qqU (by omega)] at h;have:j - l.length=0:=by have:=(qqT.1 h).1;simp at this;omega
  rw[this] at h;simp at h;exact .inr ⟨by omega,h.symm⟩
theorem qe1{tk fr:List Bz}:∀(rest od done:List Bz),ApI tk fr od done rest→fr.length+(done.length+rest.length)+tk.length≤899→ApI tk fr (od++rest) (apL tk fr done rest) []
 | [],od,done,i,_=>by rw[apL,qr8];exact i
 | y::rest,od,done,i,hl=>by
  rw[apL,show od++y::rest=(od++[y])++rest by simp];rw[qrk] at hl;have hn:=qo2 (tk:=tk) (fr:=fr) (done:=done) (rest:=rest) (x:=y) (by omega);refine qe1 rest _ _ ?_ (by simp;omega);obtain ⟨t,ht⟩:∃t,t=apN tk fr done y rest:=⟨_,rfl⟩;rw[←ht] at hn ⊢;have hlen:=i.len;have hod:(od++[y])[od.length]?=some y:=by simp
  have old:∀(j:Nat) (x:Bz),done[j]?=some x→(od++[y])[j]?=od[j]?:=fun j x h=>by
   have:=(qqT.1 h).1;rw[qqW (by omega)]
  have hnew:∀(j:Nat),done[j]?=some t→od[j]?=some y:=fun j h=>by
   rcases hn with ⟨h1,_⟩|h1
   ·rw[h1] at h;exact i.b j y h (by simp)
   ·exact absurd (by have:=qq1 h;simp[this]) h1
  refine ⟨by simp[hlen],fun j k x h1 h2=>?_,fun j x h1 h2=>?_,fun j x h1 h2=>?_,fun x h1=>?_⟩
  ·rcases JO h1 with g1|⟨g1,e1⟩ <;> rcases JO h2 with g2|⟨g2,e2⟩
   ·rw[old j x g1,old k x g2];exact i.a j k x g1 g2
   ·rw[old j x g1,g2,hlen,hod];exact hnew j (e2 ▸ g1)
   ·rw[old k x g2,g1,hlen,hod];exact (hnew k (e1 ▸ g2)).symm
   ·rw[g1,g2]
  ·rcases JO h1 with g1|⟨g1,e1⟩
   ·rw[old j x g1];exact i.b j x g1 (by simp[h2])
   ·rw[g1,hlen,hod,e1];rcases hn with ⟨g,_⟩| g
    ·rw[g]
    ·exact absurd (by rw[←e1];simp[h2]) g
  ·rcases JO h1 with g1|⟨g1,e1⟩
   ·rw[old j x g1];exact i.c j x g1 h2
   ·rw[g1,hlen,hod,e1];rcases hn with ⟨g,_⟩| g
    ·rw[g]
    ·exact absurd (by rw[←e1];simp[h2]) g
  ·rcases qq0.1 h1 with h1|h1
   ·exact i.d x h1
   ·simp at h1;rw[h1];rcases hn with ⟨g,g2⟩| g
    ·rw[g];exact g2
    ·exact fun hh=>g (by simp[hh])
theorem qot{tk fr l:List Bz}(hl:fr.length+l.length+tk.length≤899):ApI tk fr l (apL tk fr [] l) []:=
 qe1 l [] [] ⟨rfl,by simp,by simp,by simp,by simp⟩ (by simp;omega)
theorem Jd{x:Bz}(h:qb x=true):x≠⟨⟨[]⟩⟩:=fun hx=>by
 rw[hx] at h;simp[qb,ByteArray.size] at h
theorem qfE{l:List Bz}{j:Nat}{x:Bz}(h:lf l j=x)(hx:x≠⟨⟨[]⟩⟩):l[j]?=some x:=by
 unfold lf at h
 cases hg:l[j]? with
 | none=>rw[hg] at h;exact absurd h.symm hx
 | some y=>rw[hg] at h;rw[←h];rfl
theorem qd4{l:List Bz}{j:Nat}{x:Bz}(h:l[j]?=some x):lf l j=x:=by unfold lf;rw[h];rfl
theorem qoZ(l:List Bz):Agr (lf l) 0 l:=fun i x h=>by rw[qr1];exact qd4 h
theorem Sm.aps_ok(s:Sm){taken:List Bz}(hl:s.frees.length+Sm.nb1 [s]+taken.length≤899):ApI (taken.foldl yR []) s.frees s.bounds (s.aps taken) []:=by
 have h1:=Qz (l:=taken) (ks:=[]);have h2:=s.bounds_len;simp only[qrX] at h1;exact qot (by omega)
theorem qmW(n:Nat):dig n≠[]:=by
 by_cases h:n<10
 ·rw[z6 h];simp
 ·rw[Qa h];simp
theorem qi7(x:Bz)(n:Nat):YB x n≠⟨⟨[]⟩⟩:=fun h=>by
 have:=congrArg (fun b:Bz=>b.data.toList) h;simp[YB,qmW] at this
theorem qkV{tk fr done rest:List Bz}{x:Bz}(hx:x≠⟨⟨[]⟩⟩):apN tk fr done x rest≠⟨⟨[]⟩⟩:=by
 unfold apN;split
 ·unfold frs qkp;split
  ·rename_i h;rcases Classical.choose_spec h with ⟨_,g⟩|⟨_,n,_,g,_⟩
   ·rw[g];exact hx
   ·rw[g];exact qi7 x n
  ·exact hx
 ·exact hx
theorem qgL{tk fr:List Bz}:∀(rest done:List Bz),(∀x,x∈done→x≠⟨⟨[]⟩⟩)→(∀x,x∈rest→x≠⟨⟨[]⟩⟩)→∀x,x∈apL tk fr done rest→x≠⟨⟨[]⟩⟩
 | [],done,h,_=>by rw[apL];exact h
 | y::rest,done,h,g=>by
  rw[apL];refine qgL rest _ (fun x hx=>?_) fun x hx=>g x (by simp[hx])
  rcases qq0.1 hx with hx|hx
  ·exact h x hx
  ·simp at hx;rw[hx];exact qkV (g y (by simp))
theorem qnL(l:List Bz):(List.range' 0 l.length).map (lf l)=l:=by
 refine qrM fun i=>?_
 rw[qq7];by_cases h:i<l.length
 ·rw[List.getElem?_range' h,qqZ h,qre,qr1,Nat.one_mul,qd4 (qqZ h)]
 ·rw[qrv (by simpa using h),qrv (by omega)];rfl
set_option linter.unusedSectionVars false
section
variable {s:Sm} {taken:List Bz} (va:(Pa.st s).valid qb=true) (hl:s.frees.length+Sm.nb1 [s]+taken.length≤899)
include va hl
theorem Sm.aps_h1:∀j k,lf (s.aps taken) j=lf (s.aps taken) k→lf s.bounds j=lf s.bounds k:=fun j k h=>by
 have hi:=s.aps_ok (taken:=taken) hl;have hp:∀x,x∈s.aps taken→x≠⟨⟨[]⟩⟩:=qgL _ _ (by simp) fun x hx=>Jd (s.bounds_nm va x hx)
 cases hj:(s.aps taken)[j]? with
 | none=>
  cases hk:(s.aps taken)[k]? with
  | none=>
   have h1:=qsv.1 hj;have h2:=qsv.1 hk;rw[hi.len] at h1 h2;unfold lf;rw[qrv h1,qrv h2]
  | some y=>
   rw[qd4 hk] at h;unfold lf at h;rw[hj] at h;exact absurd h.symm (hp y (qq1 hk))
 | some x=>
  rw[qd4 hj] at h;have h2:=hi.a j k x hj (qfE h.symm (hp x (qq1 hj)));unfold lf;rw[h2]
theorem Sm.aps_fre:∀e,e∈s.evs→Fre (lf (s.aps taken)) (lf s.bounds) e:=fun e he hf j hj=>by
 have hi:=s.aps_ok (taken:=taken) hl;have hm:=s.ev_free va he hf;exact qd4 (hi.c j _ (qfE hj (Jd (s.frees_nm va hm))) hm)
theorem Sm.aps_agr:Agr (lf s.bounds) 0 (nms s.labels++s.bn):=qoZ _
theorem Sm.whole_bs:ScB (lf s.bounds) [qd s.labels 0]:=ScB.cons (sc:=[]) (fun s hs=>by cases hs) (aps_agr va hl).fst
theorem Sm.bn_agr:Agr (lf s.bounds) (qd s.labels 0).length s.bn:=by
 have:=(aps_agr va hl).snd;rwa [qz,qr1] at this
theorem Sm.ap_labels:(s.ap taken).labels=s.labels.map (zH (lf (s.aps taken)) [qd s.labels 0]):=Sm.w_labels _ _ _ _
theorem Sm.ap_bind0:qd (s.ap taken).labels 0=mpE (lf (s.aps taken)) (qd s.labels 0):=by
 rw[ap_labels va hl];exact QK (aps_h1 va hl) (aps_agr va hl).fst
theorem Sm.ap_alike(g:Nat→Bz):(s.ap taken).whole g=s.whole g:=by
 have h1:=aps_h1 va hl;unfold Sm.whole;rw[ap_bind0 va hl,Qg];exact Sm.ww h1 g s [qd s.labels 0] _ (whole_bs va hl) (bn_agr va hl) (zJ _ _ _) (aps_fre va hl)
theorem Sm.ap_bounds:(s.ap taken).bounds=s.aps taken:=by
 have h1:=aps_h1 va hl;have hi:=s.aps_ok (taken:=taken) hl;unfold Sm.bounds;rw[qfP 0,ap_bind0 va hl];have h2:=Sm.bn_w h1 s [qd s.labels 0] (qd s.labels 0).length (bn_agr va hl);rw[show (s.ap taken).bn=_ from h2]
 have h3:(mpE (lf (s.aps taken)) (qd s.labels 0)).map (·.1)=(List.range' 0 (qd s.labels 0).length).map (lf (s.aps taken)):=by
  rw[←qbB];unfold mpE;rw[qr2,qr2];rfl
 have h4:=qsb (s:=0) (m:=(qd s.labels 0).length) (n:=s.nb);rw[qr1] at h4
 have h5:(qd s.labels 0).length+s.nb=(s.aps taken).length:=by
  rw[hi.len,Sm.bounds,qrd,qz,Sm.bn_length]
 rw[h3,←qrg,h4,h5,qnL]
theorem Sm.ap_free:∀x,x∈(s.ap taken).bounds→x∉taken:=fun x hx hm=>by
 rw[ap_bounds va hl] at hx;exact (s.aps_ok (taken:=taken) hl).d x hx (Qf.2 (.inr hm))
theorem Sm.ap_nb:(s.ap taken).nb=s.nb:=Sm.nb_w (aps_h1 va hl) s _ _ (bn_agr va hl)
end
structure Sok(p:Pw):Prop where
 ok:∀g,p.nm=some g→∀(x:Ex) sc tg,x.ok→(g x sc tg).ok
 f:∀k x,x.size≤B50→(p.f k x).size≤B50
 cl:∀c,p.cl=some c→∀x sc,x.size≤B50→(c x sc).size≤B50
structure Shp(p:Pw):Prop extends Sok p where
 le:∀g,p.nm=some g→∀x sc tg,(Pa.ex (g x sc tg)).le (.ex x)
theorem Pa.le_trans{p q r:Pa}(h:p.le q)(g:q.le r):p.le r:=⟨qrt h.1 g.1,qrt h.2 g.2⟩
theorem yQ(l:List Pa):km l l:=⟨qqY _,qqY _⟩
section
variable {p:Pw} (i:Shp p)
include i
mutual
theorem Ex.wr_le(sc:Scs)(tg:Bool):∀x:Ex,(Pa.ex (x.wr p sc tg)).le (.ex x)
 | .mk k o n m e t a=>by
  have h1:∀t',(Pa.ex (.mk k o n m e t' (Ex.wrl p sc false a))).le (.ex (.mk k o n m e t a)):=fun t'=>Pa.le_of' (qqY _) (by simp only[Pa.kids,Ex.args];exact Ex.wrl_le sc false a)
  rw[Ex.wr];unfold Pw.nmE;split
  ·split
   ·exact h1 _
   ·rename_i g hg;exact Pa.le_trans (i.le g hg _ _ _) (h1 _)
  ·exact h1 _
theorem Ex.wrl_le(sc:Scs)(tg:Bool):∀l:List Ex,km ((Ex.wrl p sc tg l).map Pa.ex) (l.map Pa.ex)
 | []=>zh _
 | x::l=>zZ (Ex.wr_le sc tg x) (Ex.wrl_le sc tg l)
end
theorem El.wr_le(sc:Scs)(e:El):(Pa.el (e.wr p sc)).le (.el e):=Pa.le_of' (qqY _) (Ex.wrl_le i sc false e.exps)
theorem Els.wr_le(sc:Scs):∀l:List El,km ((l.map (El.wr p sc)).map Pa.el) (l.map Pa.el)
 | []=>zh _
 | x::l=>zZ (El.wr_le i sc x) (Els.wr_le sc l)
mutual
theorem Sm.wr_le:∀(s:Sm) (sc:Scs) (n:Nat),(Pa.st (s.wr p sc n)).le (.st s)
 | .mk l k t g e h d b,sc,n=>by
  simp only[Sm.wr];split
  ·refine Pa.le_of' (by simp[Pa.own,Sm.labels]) ?_;simp only[Pa.kids,Sm.targets,Sm.exps,Sm.elems,Sm.decls,Sm.body];exact qH (Ex.wrl_le i sc true g) (qH (yQ _) (qH (yQ _) (qH (De.wrl_le d _ _ _) (Sm.wrl_le b _ _))))
  ·split
   ·refine Pa.le_of' (by simp[Pa.own,Sm.labels]) ?_;simp only[Pa.kids,Sm.targets,Sm.exps,Sm.elems,Sm.decls,Sm.body];exact qH (Ex.wrl_le i sc true g) (qH (yQ _) (qH (yQ _) (qH (yQ _) (Sm.wrl_le b _ _))))
   ·refine Pa.le_of' (by simp[Pa.own,Sm.labels]) ?_;simp only[Pa.kids,Sm.targets,Sm.exps,Sm.elems,Sm.decls,Sm.body];exact qH (Ex.wrl_le i sc true g) (qH (Ex.wrl_le i sc false e) (qH (Els.wr_le i sc h) (qH (yQ _) (Sm.wr1_le b _ _))))
theorem De.wr_le:∀(d:De) (own sc:Scs) (n:Nat),(Pa.de (d.wr p own sc n)).le (.de d)
 | .mk k o t nm e fo b,own,sc,n=>by
  simp only[De.wr];split
  ·refine Pa.le_of' (by simp[Pa.own,De.names,De.formals]) ?_;simp only[Pa.kids,De.exps,De.body];exact qH (Ex.wrl_le i own false e) (Sm.wr1_le b _ _)
  ·refine Pa.le_of' (by simp[Pa.own,De.names,De.formals]) ?_;simp only[Pa.kids,De.exps,De.body];exact qH (Ex.wrl_le i _ false e) (yQ _)
theorem De.wrl_le:∀(l:List De) (own sc:Scs) (n:Nat),km ((De.wrl p own sc n l).map Pa.de) (l.map Pa.de)
 | [],_,_,_=>zh _
 | x::l,own,sc,n=>zZ (De.wr_le x own sc n) (De.wrl_le l _ _ _)
theorem Sm.wrl_le:∀(l:List Sm) (sc:Scs) (n:Nat),km ((Sm.wrl p sc n l).map Pa.st) (l.map Pa.st)
 | [],_,_=>zh _
 | x::l,sc,n=>zZ (Sm.wr_le x sc n) (Sm.wrl_le l _ _)
theorem Sm.wr1_le:∀(l:List Sm) (sc:Scs) (n:Nat),km ((Sm.wr1 p sc n l).map Pa.st) (l.map Pa.st)
 | [],_,_=>zh _
 | x::l,sc,n=>zZ (Sm.wr_le x _ _) (Sm.wr1_le l _ _)
end
theorem Sm.wholeR_fits(s:Sm)(h:(Pa.st s).fits):(Pa.st (s.wholeR p)).fits:=by
 have:=Sm.wr_le i s [qd s.labels 0] (qd s.labels 0).length;unfold Pa.fits Pa.le at *;unfold Sm.wholeR;omega
end
section
variable {p:Pw} (i:Sok p)
include i
theorem Zb(sc:Scs){x:Bz}(hx:x.size≤B50):(ZF p sc x).size≤B50:=by
 unfold ZF
 cases sc.at x with
 | none=>exact hx
 | some k=>exact i.f k x hx
mutual
theorem Ex.wr_ok(sc:Scs)(tg:Bool):∀x:Ex,x.ok→(x.wr p sc tg).ok
 | .mk k o n m e t a,v=>by
  obtain ⟨h1,h2,h3⟩:=v;have h4:∀t':Bz,t'.size≤B50→(Ex.mk k o n m e t' (Ex.wrl p sc false a)).ok:=fun t' ht=>⟨ht,by rw[Ex.wrl_map,qq2];exact h2,Ex.wrl_ok sc false a h3⟩
  rw[Ex.wr];unfold Pw.nmE;split
  ·split
   ·exact h4 _ (Zb i sc h1)
   ·rename_i g hg;exact i.ok g hg _ _ _ (h4 _ h1)
  ·exact h4 _ h1
theorem Ex.wrl_ok(sc:Scs)(tg:Bool):∀l:List Ex,Ex.okL l→Ex.okL (Ex.wrl p sc tg l)
 | [],_=>trivial
 | x::l,⟨h1,h2⟩=>⟨Ex.wr_ok sc tg x h1,Ex.wrl_ok sc tg l h2⟩
end
theorem El.wr_ok(sc:Scs)(e:El)(v:e.ok):(e.wr p sc).ok:=
 ⟨by unfold El.wr;rw[Ex.wrl_map,qq2];exact v.1,Ex.wrl_ok i sc false e.exps v.2⟩
omit i in
theorem Sm.wrl_len(sc:Scs):∀(m:List Sm) (n:Nat),(Sm.wrl p sc n m).length=m.length
 | [],_=>by rw[Sm.wrl]
 | x::m,n=>by simp only[Sm.wrl,qrk,Sm.wrl_len sc m]
omit i in
theorem Sm.wr1_len(sc:Scs):∀(m:List Sm) (n:Nat),(Sm.wr1 p sc n m).length=m.length
 | [],_=>by rw[Sm.wr1]
 | x::m,n=>by simp only[Sm.wr1,qrk,Sm.wr1_len sc m]
omit i in
theorem De.wrl_len(own sc:Scs):∀(m:List De) (n:Nat),(De.wrl p own sc n m).length=m.length
 | [],_=>by rw[De.wrl]
 | x::m,n=>by simp only[De.wrl,qrk,De.wrl_len own sc m]
mutual
theorem Sm.wr_ok:∀(s:Sm) (sc:Scs) (n:Nat),s.ok→(s.wr p sc n).ok
 | .mk l k t gs e hh d b,sc,n,v=>by
  have V:=(Sm.ok_iff _).1 v;have hl:=kP V.labels fun x hx=>Zb i sc (V.labels.2 x hx)
  have hg:gs.length≤B50→(Ex.wrl p sc true gs).length≤B50:=fun h=>by rw[Ex.wrl_map,qq2];exact h
  rw[Sm.wr];split
  ·refine (Sm.ok_iff _).2 ⟨hl,V.text,⟨hg V.targets.1,Ex.wrl_ok i sc true gs V.targets.2⟩,V.exps,V.elems,⟨?_,De.wrl_ok d _ _ _ V.decls.2⟩,?_,Sm.wrl_ok b _ _ V.body.2⟩
   ·have:=V.decls.1;simp only[Sm.decls] at this ⊢;rw[De.wrl_len];exact this
   ·have:=V.body.1;simp only[Sm.body] at this ⊢;rw[Sm.wrl_len];exact this
  ·split
   ·refine (Sm.ok_iff _).2 ⟨hl,V.text,⟨hg V.targets.1,Ex.wrl_ok i sc true gs V.targets.2⟩,V.exps,V.elems,V.decls,?_,Sm.wrl_ok b _ _ V.body.2⟩;have:=V.body.1;simp only[Sm.body] at this ⊢;rw[Sm.wrl_len];exact this
   ·refine (Sm.ok_iff _).2 ⟨hl,?_,⟨hg V.targets.1,Ex.wrl_ok i sc true gs V.targets.2⟩,⟨?_,Ex.wrl_ok i sc false e V.exps.2⟩,⟨?_,?_⟩,V.decls,?_,Sm.wr1_ok b _ _ V.body.2⟩
    ·have:=V.text;simp only[Sm.text] at this ⊢;unfold Pw.clE;split
     ·split
      ·exact Zb i sc this
      ·rename_i c hc;exact i.cl c hc _ _ this
     ·exact this
    ·have:=V.exps.1;simp only[Sm.exps] at this ⊢;rw[Ex.wrl_map,qq2];exact this
    ·have:=V.elems.1;simp only[Sm.elems] at this ⊢;rw[qq2];exact this
    ·intro x hx;simp only[Sm.elems] at hx;obtain ⟨y,hy,rfl⟩:=qrf.1 hx;exact El.wr_ok i sc y (V.elems.2 y hy)
    ·have:=V.body.1;simp only[Sm.body] at this ⊢;rw[Sm.wr1_len];exact this
theorem De.wr_ok:∀(s:De) (own sc:Scs) (n:Nat),s.ok→(s.wr p own sc n).ok
 | .mk k o t ns e fo b,own,sc,n,v=>by
  have V:=(De.ok_iff _).1 v;have hl:=kP V.names fun x hx=>Zb i own (V.names.2 x hx)
  have he:∀sc,e.length≤B50→(Ex.wrl p sc false e).length≤B50:=fun sc h=>by rw[Ex.wrl_map,qq2];exact h
  rw[De.wr];split
  ·refine (De.ok_iff _).2 ⟨hl,⟨he own V.exps.1,Ex.wrl_ok i own false e V.exps.2⟩,⟨?_,?_⟩,?_,Sm.wr1_ok b _ _ V.body.2⟩
   ·have:=V.formals.1;simp only[De.formals] at this ⊢;rw[qq2];exact this
   ·intro x hx;simp only[De.formals] at hx;obtain ⟨y,hy,rfl⟩:=qrf.1 hx;exact Zb i _ (V.formals.2 y hy)
   ·have:=V.body.1;simp only[De.body] at this ⊢;rw[Sm.wr1_len];exact this
  ·exact (De.ok_iff _).2 ⟨hl,⟨he _ V.exps.1,Ex.wrl_ok i _ false e V.exps.2⟩,V.formals,V.body⟩
theorem De.wrl_ok:∀(l:List De) (own sc:Scs) (n:Nat),De.okL l→De.okL (De.wrl p own sc n l)
 | [],_,_,_,_=>by rw[De.wrl];exact trivial
 | x::l,own,sc,n,v=>by
  rw[De.okL] at v;rw[De.wrl,De.okL];exact ⟨De.wr_ok x own sc n v.1,De.wrl_ok l own sc _ v.2⟩
theorem Sm.wrl_ok:∀(l:List Sm) (sc:Scs) (n:Nat),Sm.okL l→Sm.okL (Sm.wrl p sc n l)
 | [],_,_,_=>by rw[Sm.wrl];exact trivial
 | x::l,sc,n,v=>by
  rw[Sm.okL] at v;rw[Sm.wrl,Sm.okL];exact ⟨Sm.wr_ok x sc n v.1,Sm.wrl_ok l sc _ v.2⟩
theorem Sm.wr1_ok:∀(l:List Sm) (sc:Scs) (n:Nat),Sm.okL l→Sm.okL (Sm.wr1 p sc n l)
 | [],_,_,_=>by rw[Sm.wr1];exact trivial
 | x::l,sc,n,v=>by
  rw[Sm.okL] at v;rw[Sm.wr1,Sm.okL];exact ⟨Sm.wr_ok x _ _ v.1,Sm.wr1_ok l sc _ v.2⟩
end
theorem Sm.wholeR_ok(s:Sm)(v:s.ok):(s.wholeR p).ok:=Sm.wr_ok i s _ _ v
end
end Go.Proofs.YtbifpocccfkhhaaGreatDoor







namespace Go.Proofs.YtbifpocccfkhhaaGreatDoor
open Go
def r0:Rp:=⟨[],[],[]⟩
def st0:Rst:=⟨[],false,false⟩
section
variable {f:Nat→Bz} {nm:Bz→Bool} (hf:∀k,nm (f k)=false) (r:Rp) (z:Bz)
include hf
omit hf in
theorem qqS{a b c:Prop}:(a∨b)∨c↔a∨c∨b:=⟨by rintro ((h|h)|h) <;> simp[h],by rintro (h|h|h) <;> simp[h]⟩
end
open Go.Proofs.Tryz
def usP:Pw where
 H:=List Bz
 f _ x:=x
 nm:=some fun x _ _=>x
 cl:=none
 ent h _ _:=h
 nmH h x _ _:=h++[x.text]
 clH h _ _:=h
structure Us(m c:Nat)(h:List Bz)(F D:Np)(U:St):Prop where
 fc:U[c]?=some (.arr [.map m] 1 1)
 fm:∃bs ck,(Za bs ck∧bs.length=(h.foldl yR []).length)∧U[m]?=some (.map ((h.foldl yR []).map kv) bs ck)
 hF:∀l,F l↔l=m
 hD:∀l,D l↔l=c
def usC(m c:Nat):Cb where
 toPw:=usP
 fe:=.nilfn
 fn:=.fn (.func 133) [] [.ptr c 0 0 1]
 fc:=.nilfn
 I h F D U:=Us m c h F D U
 cn _ _:=True
 lim:=100001
section
variable {m c:Nat} {h:List Bz} {F D:Np} {U:St}
theorem Us.fr{U':St}{M:Np}(k:Us m c h F D U)(hk:Kp M U U')(hM:∀l,M l→l<U.length→¬ F l∧¬ D l):Us m c h F D U':=by
 obtain ⟨bs,ck,hst,hm⟩:=k.fm;exact ⟨hk.at k.fc fun hh=>(hM _ hh (glt k.fc)).2 ((k.hD _).2 rfl),⟨bs,ck,hst,hk.at hm fun hh=>(hM _ hh (glt hm)).1 ((k.hF _).2 rfl)⟩,k.hF,k.hD⟩
theorem Us.use(k:Us m c h F D U)(h':List Bz){bs:List Nat}{ck:Nat}(hst:Za bs ck∧bs.length=(h'.foldl yR []).length):Us m c h' F D (U.set m (.map ((h'.foldl yR []).map kv) bs ck)):=by
 obtain ⟨bs0,ck0,_,hm⟩:=k.fm;refine ⟨?_,⟨bs,ck,hst,qqV (glt hm)⟩,k.hF,k.hD⟩;rw[qqX (YZ hm k.fc (by simp))];exact k.fc
theorem qlz(k:Us m c h F D U)(x:Ex)(v:V)(tg:Bool):
  qt prog 133 [x.v,v,.bool tg,.ptr c 0 0 1] U (fun r U'=>r=x.v∧Us m c (h++[x.text]) F D U'∧Kp F U U'):=by
 refine qt.ib func133 ok133 ?_;simp[c133,qG];obtain ⟨U1,hU1⟩:∃U1:St,U1=U++[.arr [x.v] 7 1,.arr [.agg [.int .i64 0,.int .i64 0,.int .i64 0,.int .i64 0,.int .i64 0,.str ⟨⟨[]⟩⟩,.sl true []]] 7 1]:=⟨_,rfl⟩;rw[←hU1];have l1:U1.length=U.length+2:=by rw[hU1];simp
 have b0:U1[U.length]?=some (.arr [x.v] 7 1):=by rw[hU1];simp
 have b1:U1[U.length+1]?=some (.arr [.agg [.int .i64 0,.int .i64 0,.int .i64 0,.int .i64 0,.int .i64 0,.str ⟨⟨[]⟩⟩,.sl true []]] 7 1):=by rw[hU1,qqU (by omega)];simp
 have kp1:Kp F U U1:=by rw[hU1];exact (Kp.refl _ _).push _
 have k1:Us m c h F D U1:=by rw[hU1];exact k.fr (M:=fun _=>False) ((Kp.refl _ _).push _) fun _ h=>h.elim
 clear hU1;have h6:=k1.fc;obtain ⟨bs,ck,hst,hm⟩:=k1.fm;have lm:=glt k.fm.choose_spec.choose_spec.2;have lc:=glt k.fc;have hft:fits 1 [V.str x.text]=true:=rfl;simp[ldS,h6,b0,hft];refine qi (qe0 true [x.text] _ bs ck m U1 (by simp) hm) ?_;rintro r U2 ⟨bs',ck',hst',hln',rfl⟩;have k2:=k1.use (h++[x.text]) (bs:=bs') (ck:=ck') ⟨hst' hst.1,by rw[qrD];exact hln' hst.2⟩;rw[qrD] at k2
 have g:∀{l o},U1[l]?=some o→l≠m→(U1.set m (.map (([x.text].foldl yR (h.foldl yR [])).map kv) bs' ck'))[l]?=some o:=fun {l o} ho hl=>by
  rw[qqX (Ne.symm hl)];exact ho
 have c0:=g b0 (by omega);have c1:=g b1 (by omega);have kp2:Kp F U (U1.set m (.map (([x.text].foldl yR (h.foldl yR [])).map kv) bs' ck')):=kp1.set _ (.inl ((k.hF m).2 rfl));obtain ⟨U2,hU2⟩:∃U2,U2=U1.set m (.map (([x.text].foldl yR (h.foldl yR [])).map kv) bs' ck'):=⟨_,rfl⟩;rw[←hU2] at c0 c1 k2 kp2 ⊢;simp[ldS,c0,stS,c1,qh];have hz:(U2.set (U.length+1) (.arr [x.v] 7 1))[U.length+1]?=some (.arr [x.v] 7 1):=qqV (glt c1);refine qf (vs:=[x.v]) (by simp[rvs,ldS,hz]) ⟨rfl,k2.fr (M:=fun l=>l=U.length+1) ((Kp.refl _ _).set _ (.inl rfl)) fun l hl _=>⟨fun hf=>?_,fun hf=>?_⟩,kp2.set _ (.inr (by omega))⟩
 ·have:=(k.hF _).1 hf;omega
 ·have:=(k.hD _).1 hf;omega
end
theorem qje(n:Nat):Za (List.range n) n∧(List.range n).length=n:=⟨⟨fun b hb=>qsS.1 hb,List.nodup_range⟩,List.length_range⟩
theorem qob(m c:Nat):(usC m c).Ok where
 lim:=qqY _
 lt:=fun {h F D S} k l hl=>by
  have k:Us m c h F D S:=k;rcases hl with hl|hl
  ·obtain ⟨_,_,_,hm⟩:=k.fm;rw[(k.hF l).1 hl];exact glt hm
  ·rw[(k.hD l).1 hl];exact glt k.fc
 fr:=fun k hk hM=>Us.fr k hk hM
 lp:=fun {h F D S} k l o ho=>by
  have k:Us m c h F D S:=k;refine ⟨fun hf=>?_,fun hf=>?_⟩
  ·obtain ⟨_,_,_,hm⟩:=k.fm;rw[(k.hF l).1 hf,hm] at ho;cases ho
  ·rw[(k.hD l).1 hf,k.fc] at ho;cases ho
 ce _ _:=trivial
 cm _ _ _ _:=trivial
 cc _ _ _:=trivial
 real:=fun {h F D S} k h'=>⟨F,D,_,Us.use k h' (qje _),(Kp.refl _ _).set _ (.inl ((k.hF m).2 rfl)),grow.refl _ _,grow.refl _ _⟩
 en:=.inl ⟨rfl,fun _ _=>rfl,fun _ _ _=>rfl⟩
 nm:=⟨133,[.ptr c 0 0 1],rfl,fun U x w ts tg w' h F D hsc k=>qt.mono (qlz k x w tg) fun r U' ⟨a,b,c⟩=>⟨a,F,D,b,c,grow.refl _ _,grow.refl _ _⟩⟩
 cl:=rfl
def qhx(h:usP.H):List Bz:=h
def usZ:usP.H:=([]:List Bz)
theorem qnP(sc:Scs)(tg:Bool)(h:usP.H)(k o n m e:Int)(t:Bz)(a:List Ex):qhx (usP.nmS sc tg h (.mk k o n m e t a))=if Ex.named k=true then qhx h++[t] else qhx h:=by
 show qhx (if Ex.named k=true then _ else _)=_;split <;> rfl
mutual
theorem Ex.hs_us(sc:Scs)(tg:Bool):∀(x:Ex) (h:usP.H),qhx (Ex.hs usP sc tg h x)=qhx h++Ex.occ x
 | .mk k o n m e t a,h=>by
  rw[Ex.hs,qnP,Ex.hsl_us sc false a h,Ex.occ];split <;> simp
theorem Ex.hsl_us(sc:Scs)(tg:Bool):∀(l:List Ex) (h:usP.H),qhx (Ex.hsl usP sc tg h l)=qhx h++Ex.occl l
 | [],h=>by simp[Ex.hsl,Ex.occl]
 | x::l,h=>by rw[Ex.hsl,Ex.hsl_us sc tg l,Ex.hs_us sc tg x,Ex.occl,qrc]
end
theorem qn0(b:Bool)(l:List Ex)(hl:qK (l.map Pa.ex)≤4000)(S:St):
  qt prog 74 [.sl b (l.map Ex.v)] S (fun r U=>∃m bs ck,r=.map m∧(Za bs ck∧bs.length=((Ex.occl l).foldl yR []).length)∧U[m]?=some (.map (((Ex.occl l).foldl yR []).map kv) bs ck)∧Kp (fun _=>False) S U∧S.length≤m):=by
 refine qt.weakA ?_;simp only[V.weakL,V.weak,wEx];refine qt.ib func74 ok74 ?_;simp[c74,qG,ldS,stS,qh,qF,qB,evX,YC,Zq];obtain ⟨B,hB⟩:∃B,B=S.length:=⟨_,rfl⟩;obtain ⟨S1,hS1⟩:∃S1:St,S1=S++[.map [] [] 0,.arr [.map B] 1 1,.arr [.agg [.int .i64 0,.nilfn,.fn (.func 133) [] [.ptr (B+1) 0 0 1],.nilfn]] 4 1]:=⟨_,rfl⟩;rw[←hB,←hS1];have l1:S1.length=B+3:=by rw[hS1,hB];simp
 have b0:S1[B]?=some (.map [] [] 0):=by rw[hS1,hB];simp
 have b1:S1[B+1]?=some (.arr [.map B] 1 1):=by rw[hS1,hB,qqU (by omega)];simp
 have b2:S1[B+2]?=some (.arr [.agg [.int .i64 0,.nilfn,.fn (.func 133) [] [.ptr (B+1) 0 0 1],.nilfn]] 4 1):=by rw[hS1,hB,qqU (by omega)];simp
 have kS:Kp (fun _=>False) S S1:=by rw[hS1];exact (Kp.refl _ _).push _
 have k1:Us B (B+1) [] (fun l=>l=B) (fun l=>l=B+1) S1:=⟨b1,⟨[],0,⟨Za.nil,rfl⟩,b0⟩,fun _=>Iff.rfl,fun _=>Iff.rfl⟩;have hw:Wk (usC B (B+1)) (B+2) 0 ([]:List Bz) (fun l=>l=B) (fun l=>l=B+1) S1:=⟨b2,k1,by omega,by omega,trivial⟩;clear hS1 k1;refine qi (jn (usC B (B+1)) (qob _ _) (B+2) l hl 0 ([]:List Bz) _ _ S1 .nilp [] false hw rfl) ?_;rintro r U ⟨rfl,F2,D2,k2,s2⟩;have kk:Us B (B+1) (qhx (Ex.hsl usP (Scx []) false usZ l)) F2 D2 U:=k2.st;rw[Ex.hsl_us (Scx []) false l usZ] at kk;have he:qhx usZ++Ex.occl l=Ex.occl l:=rfl;rw[he] at kk;have h4:=kk.fc;obtain ⟨bs,ck,hst,hm⟩:=kk.fm;simp[ldS,h4];refine qf rfl ⟨B,rfl,bs,ck,hst,hm,⟨qrt kS.len s2.k.len,fun l hl hn=>?_⟩,by omega⟩;rw[s2.k.get l (by have:=kS.len;omega) (by rintro (hh|hh) <;> omega)];exact kS.get l hl hn
def Lss(v v':V):Prop:=v'.cells.length=v.cells.length∧∀(j:Nat) (c c':V),v.cells[j]?=some c→v'.cells[j]?=some c'→∀(E:En) (u:Value),VR E c u→VR E c' u
section
variable {S:St} {l sz wr:Nat} {xs ys:List V} (ho:S[l]?=some (.arr xs sz wr)) (hn:ys.length=xs.length) (hx:∀(i:Nat) (v v':V),xs[i]?=some v→ys[i]?=some v'→Lss v v')
include ho
include hn hx
end
theorem qkB{X:St}{L lm since last:Nat}{seen bs:List Nat}{es:List (V×V)}{ck:Nat}(h1:X[L]?=some (.iter lm since seen last))(h2:X[lm]?=some (.map es bs ck))(hb:∀b,b∈bs→b<since)(hs:since≤last):
  qeQ X (.ptr L 0 0 0)=match (es.zip bs).filter fun q=>!seen.contains q.2 with
   | []=>[(.tup [.bool false],X)]
   | c::cs=>(c::cs).map fun q=>(.tup [.bool true,q.1.1,q.1.2],X.set L (.iter lm since (seen++[q.2]) ck)):=by
 have hc:(bs.all fun b=>decide (b<since))=true∧since≤last:=⟨by simpa using hb,hs⟩;simp only[qeQ,h1,h2,if_pos hc];rfl
theorem qhV{P:Program}{d:Option Nat}{it:Opd}{os:List O'}{Q:Env→St→Prop}{e:Env}{X:St}{L lm since last:Nat}{seen bs:List Nat}{es:List (V×V)}{ck:Nat}
  (hit:it.ev e=some (.ptr L 0 0 0)) (h1:X[L]?=some (.iter lm since seen last)) (h2:X[lm]?=some (.map es bs ck)) (hb:∀b,b∈bs→b<since) (hs:since≤last) (hl:es.length=bs.length)
  (hA:(∀b,b∈bs→b∈seen)→yK P os Q (e.put d (.tup [.bool false])) X)
  (hB:∀(i:Nat) (k v:V) (b:Nat),es[i]?=some (k,v)→bs[i]?=some b→b∉seen→yK P os Q (e.put d (.tup [.bool true,k,v])) (X.set L (.iter lm since (seen++[b]) ck))):
  yK P (⟨d,none,.ex (.nxt it)⟩::os) Q e X:=by
 rw[kn (by intro f a h;cases h)];have hev:evK e X (.ex (.nxt it))=none:=rfl;rw[hev];show (ndK e (.ex (.nxt it))≠[]∧_)∨_;refine .inr ?_;have hn:ndS e X (.ex (.nxt it))=qeQ X (.ptr L 0 0 0):=by simp only[ndS,hit]
 rw[hn,qkB h1 h2 hb hs]
 cases hf:(es.zip bs).filter fun q=>!seen.contains q.2 with
 | nil=>
  refine ⟨by simp,fun q hq=>?_⟩;simp at hq;subst hq;refine hA fun b hbm=>?_
  obtain ⟨i,hi⟩:=qse.1 hbm;have hlt:=(qqT.1 hi).1;have hz:(es.zip bs)[i]?=some (es[i],b):=by rw[qsa];exact ⟨qqZ (by omega),hi⟩
  have h3:=List.filter_eq_nil_iff.1 hf _ (qq1 hz);simpa using h3
 | cons c cs=>
  refine ⟨by simp,fun q hq=>?_⟩;obtain ⟨p,hp,rfl⟩:=qrf.1 hq;rw[←hf] at hp;obtain ⟨hp1,hp2⟩:=qrR.1 hp;obtain ⟨i,hi⟩:=qse.1 hp1;rw[qsa] at hi;exact hB i p.1.1 p.1.2 p.2 hi.1 hi.2 (by simpa using hp2)
theorem qhi{X:St}{L lm since:Nat}{seen bs:List Nat}{es:List (V×V)}{ck i b:Nat}{k v:V}(h1:X[L]?=some (.iter lm since (seen++[b]) ck))(h2:X[lm]?=some (.map es bs ck))(nd:bs.Nodup)(hk:es[i]?=some (k,v))(hi:bs[i]?=some b):
  qjN X (.ptr L 0 0 0)=some (.tup [k,v]):=by
 have hf:(es.zip bs).find? (fun q=>q.2==b)=some ((k,v),b):=by
  have hz:(es.zip bs)[i]?=some ((k,v),b):=by rw[qsa];exact ⟨hk,hi⟩
  cases hq:(es.zip bs).find? (fun q=>q.2==b) with
  | none=>
   have:=List.find?_eq_none.1 hq _ (qq1 hz);simp at this
  | some q=>
   have h3:=List.find?_some hq;simp at h3;obtain ⟨j,hj⟩:=qse.1 (qsH hq);have hj2:=hj;rw[qsa] at hj2;rw[h3] at hj2;have hij:i=j:=(List.getElem?_inj (qqT.1 hi).1 nd).1 (hi.trans hj2.2.symm);subst hij;rw[←hj,hz]
 simp only[qjN,h1,h2,if_pos (⟨rfl,nd⟩:ck=ck∧bs.Nodup),List.getLast?_concat];simp[hf,nd]
theorem jL{P:Program}{a c:Nat}{it:Opd}{id:Nat}{body:C'}{Q:yD}{e e0:Env}{S:St}{L lm since:Nat}{bs:List Nat}{es:List (V×V)}{ck:Nat}(J:List Nat→St→Prop)
  (hsub:Env.sub e0 e) (hit:it.ev e0=some (.ptr L 0 0 0)) (hl:es.length=bs.length) (hb:∀b,b∈bs→b<since)
  (h0:J [] S) (hJ:∀seen X,J seen X→(∃last,since≤last∧X[L]?=some (.iter lm since seen last))∧X[lm]?=some (.map es bs ck))
  (fin:∀seen X,J seen X→(∀b,b∈bs→b∈seen)→Q (.exit id) ((c,.bool false)::(a,.tup [.bool false])::e0) X)
  (step:∀(seen:List Nat) (X:St) (i:Nat) (k v:V) (b:Nat),J seen X→es[i]?=some (k,v)→bs[i]?=some b→b∉seen→
   WP P body (Zi (fun e' X'=>Env.sub e0 e'∧J (seen++[b]) X') Q) ((c,.bool true)::(a,.tup [.bool true,k,v])::e0) (X.set L (.iter lm since (seen++[b]) ck))):
  WP P (.loop (.seq (.reg [⟨some a,none,.ex (.nxt it)⟩,⟨some c,none,.ext 0 (.t a)⟩]) (.seq (.cond (.t c) .skip (.exit id)) body))) Q e S:=by
 refine qw (fun n e X=>e=e0∧∃seen,n=(bs.filter fun b=>!decide (b∈seen)).length∧J seen X) _ e0 hsub ⟨rfl,[],rfl,h0⟩ ?_;rintro n e X ⟨rfl,seen,rfl,hj⟩;obtain ⟨⟨last,hla,h1⟩,h2⟩:=hJ _ _ hj;rw[qc7,qjJ];refine qhV hit h1 h2 hb hla hl (fun hall=>?_) fun i k v b hk hi hn=>?_
 ·simp;exact fin seen X hj hall
 ·simp;refine QD (fun x e' X' hx=>?_) (step seen X i k v b hj hk hi hn);cases x <;> simp only[Zi] at hx ⊢<;> try exact hx
  obtain ⟨h3,h4⟩:=hx;refine ⟨_,?_,e,h3,rfl,seen++[b],rfl,h4⟩
  have h5:(bs.filter fun x=>!decide (x∈seen++[b]))=(bs.filter fun x=>!decide (x∈seen)).filter fun x=>!decide (x=b):=by
   rw[List.filter_filter];congr 1;funext x;simp[Bool.and_comm]
  rw[h5];exact List.length_filter_lt_length_iff_exists.2 ⟨b,qrR.2 ⟨qq1 hi,by simpa using hn⟩,by simp⟩
def suT(l:List Bz)(es:List Ae):List Bz:=l++es.flatMap fun e=>e.2.occ
def Tk(T:Nat)(q:Bz→Prop)(X:St):Prop:=∃(ks:List Bz) (bs:List Nat) (ck:Nat),Za bs ck∧X[T]?=some (.map (ks.map kv) bs ck)∧ks.Nodup∧∀x,x∈ks↔q x
theorem Tk.keep{T:Nat}{q:Bz→Prop}{X Y:St}(h:Tk T q X)(hk:Y[T]?=X[T]?):Tk T q Y:=by
 obtain ⟨ks,bs,ck,a,b,c⟩:=h;exact ⟨ks,bs,ck,a,by rw[hk];exact b,c⟩
theorem Tk.same{T:Nat}{q q':Bz→Prop}{X:St}(h:Tk T q X)(hq:∀x,q x↔q' x):Tk T q' X:=by
 obtain ⟨ks,bs,ck,a,b,c,d⟩:=h;exact ⟨ks,bs,ck,a,b,c,fun x=>(d x).trans (hq x)⟩
theorem Tk.add{T:Nat}{q:Bz→Prop}{X:St}(h:Tk T q X)(b:Bool)(l:List Bz)(hl:l.length≤1000000):
  qt prog 79 [.map T,.sl b (l.map .str)] X (fun _ U=>Tk T (fun x=>q x∨x∈l) U∧Kp (fun k=>k=T) X U∧U.length=X.length):=by
 obtain ⟨ks,bs,ck,h1,h2,h3,h4⟩:=h;refine qt.mono (qe7 b l ks bs ck T X hl h2) ?_;rintro r U ⟨bs',ck',hs,rfl⟩;exact ⟨⟨l.foldl yR ks,bs',ck',hs h1,qqV (glt h2),Zy h3,fun x=>by rw[Qf,h4]⟩,(Kp.refl _ _).set _ (.inl rfl),by simp⟩
theorem Sm.aps_size2(s:Sm)(va:(Pa.st s).valid qb=true){taken:List Bz}(hl:s.frees.length+Sm.nb1 [s]+taken.length≤899):∀x,x∈s.aps taken→x.size≤16:=by
 refine qcB _ _ _ _ (fun x hx=>by simp at hx) (fun x hx=>QV (s.bounds_nm va x hx)) ?_;have h1:=Qz (l:=taken) (ks:=[]);have h3:=s.bounds_len;simp only[qrX] at h1 ⊢;omega
theorem Sm.ap_ok2(s:Sm)(hs:s.ok)(va:(Pa.st s).valid qb=true){taken:List Bz}(hl:s.frees.length+Sm.nb1 [s]+taken.length≤899):(s.ap taken).ok:=
 Sm.whole_ok (f:=lf (s.aps taken)) (N:=1000) (fun k _=>qmH (s.aps_size2 va hl) k) s (by omega) hs
def suA(s:Sm)(l:List Bz)(es:List Ae):Sm:=s.ap (suT l es)
def suF(s:Sm)(l:List Bz)(es:List Ae):Bool:=sbb ((suA s l es).wholeH (sbP (lkL es)) (false:Bool))
def suO(s:Sm)(l:List Bz)(es:List Ae):Sm:=(suA s l es).wholeR (sbP (lkL es))
def suE(s:Sm)(l:List Bz)(es:List Ae):Int:=if (Pa.st (suA s l es)).err qb≠0 then (Pa.st (suA s l es)).err qb else if suF s l es=true then 10 else (Pa.st (suO s l es)).err qb
def suV(s:Sm)(l:List Bz)(es:List Ae):V:=if suE s l es=0 then (suO s l es).v else smZ
theorem qbC:∀{ks L:List Bz},ks.Nodup→(∀x,x∈ks→x∈L)→ks.length≤L.length
 | [],_,_,_=>qrA _
 | x::ks,L,nd,h=>by
  have nd:=List.nodup_cons.1 nd;have hx:=h x (by simp);have:=qbC (L:=L.filter fun y=>decide (y≠x)) nd.2 fun y hy=>qrR.2 ⟨h y (by simp[hy]),by simpa using fun e:y=x=>nd.1 (e ▸ hy)⟩
  have h2:=List.length_filter_lt_length_iff_exists (p:=fun y=>decide (y≠x)).2 ⟨x,hx,by simp⟩;rw[qrk];omega
theorem Qj{x:Bz}{y:Ex}:∀{es:List Ae},lkL es x=some y→(x,y)∈es
 | e::es,h=>by
  simp only[lkL] at h;split at h
  ·rename_i hx;cases h;rw[←hx];simp
  ·exact qrV _ (Qj h)
theorem qjr{es:List Ae}(ho:∀e,e∈es→e.2.ok):Sok (sbP (lkL es)) where
 ok g hg x sc tg hx:=by
  cases hg
  have ht:(sbT (lkL es) sc x.text).size≤B50:=by
   unfold sbT sbn;have hxt:x.text.size≤B50:=by cases x;exact hx.1
   cases sc.at x.text with
   | some k=>exact hxt
   | none=>
    cases hy:lkL es x.text with
    | none=>exact hxt
    | some y=>
     have:=ho _ (Qj hy);cases y;exact this.1
  show Ex.ok (if x.kind=6 then sbX (lkL es) sc x else _);split
  ·unfold sbX
   cases sc.at x.text with
   | some k=>exact hx
   | none=>
    cases hy:lkL es x.text with
    | none=>exact hx
    | some y=>exact ho _ (Qj hy)
  ·cases x;exact ⟨ht,hx.2.1,hx.2.2⟩
 f _ _ hx:=hx
 cl c hc x sc hx:=by
  cases hc;show (sbT (lkL es) sc x).size≤B50;unfold sbT sbn
  cases sc.at x with
  | some k=>exact hx
  | none=>
   cases hy:lkL es x with
   | none=>exact hx
   | some y=>
    have:=ho _ (Qj hy);cases y;exact this.1
theorem qn2(s:Sm)(hs:s.ok)(va:(Pa.st s).valid qb=true)(hsz:(Pa.st s).size≤4000)(b:Bool)(l:List Bz)(es:List Ae)(hl:l.length≤1000)(hz:∀e,e∈es→(Pa.ex e.2).size≤4000)(ho:∀e,e∈es→e.2.ok)
  (hfr:s.frees.length+Sm.nb1 [s]+(suT l es).length≤899) (m:Nat) (bs:List Nat) (ck:Nat) (hbs:Za bs ck) (hlen:bs.length=es.length) (S:St) (hm:S[m]?=some (.map (es.map aeT) bs ck)):
  qt prog 81 [s.v,.sl b (l.map .str),.map m] S (fun r U=>r=.tup [suV s l es,.int .i64 (suE s l es)]∧Kp (fun _=>False) S U):=by
 refine qt.ib func81 ok81 ?_;obtain ⟨S1,hS1⟩:∃S1:St,S1=S++[.arr [s.v] 8 1,.arr [smZ] 8 1]:=⟨_,rfl⟩;have b0:S1[S.length]?=some (.arr [s.v] 8 1):=by rw[hS1];simp
 have b1:S1[S.length+1]?=some (.arr [smZ] 8 1):=by rw[hS1,qqU (by omega)];simp
 have l1:S1.length=S.length+2:=by rw[hS1];simp
 have kS:Kp (fun _=>False) S S1:=by rw[hS1];exact (Kp.refl _ _).push _
 have m1:=kS.at hm id;have lm:=glt hm;have he:suE s l es=if (Pa.st (suA s l es)).err qb≠0 then (Pa.st (suA s l es)).err qb else if suF s l es=true then 10 else (Pa.st (suO s l es)).err qb:=rfl
 have hv:suV s l es=if suE s l es=0 then (suO s l es).v else smZ:=rfl
 have fin:∀(Y:St) (y:V) (e:Int) (ev:Env),Kp (fun _=>False) S1 Y→suV s l es=y→suE s l es=e→ev.get 6=some (.ptr (S.length+1) 0 0 1)→ev.get 7=some (.int .i64 e)→V.part y 0 (some 8)=some y→
   JQ [.cell 6 (some 8),.t 7] S.length (fun r U=>r=.tup [suV s l es,.int .i64 (suE s l es)]∧Kp (fun _=>False) S U) .ret ev (Y.set (S.length+1) (.arr [y] 8 1)):=fun Y y e ev kY hy he g6 g7 hp=>by
  have h1:=kY.at b1 id;have h2:(Y.set (S.length+1) (.arr [y] 8 1))[S.length+1]?=some (.arr [y] 8 1):=qqV (glt h1);exact qf (vs:=[y,.int .i64 e]) (by simp[rvs,g6,g7,ldS,h2,hp]) ⟨by rw[hy,he];rfl,(kS.trans kY).set _ (.inr (by omega))⟩
 simp only[c81,C'.k];refine qx (fun e U=>U=S1∧e.get 1=some (.sl b (l.map .str))∧e.get 2=some (.map m)∧e.get 3=some (.ptr S.length 0 0 1)∧e.get 6=some (.ptr (S.length+1) 0 0 1)) (by rw[hS1];simp[qG,yo]) ?_;rintro e U ⟨rfl,g1,g2,g3,g6⟩;refine qx (fun e Z1=>Z1=U++[.map [] [] 0]∧e.get 8=some (.map U.length)∧e.get 1=some (.sl b (l.map .str))∧e.get 2=some (.map m)∧e.get 3=some (.ptr S.length 0 0 1)∧e.get 6=some (.ptr (S.length+1) 0 0 1)) (by simp[evX,g1,g2,g3,g6]) ?_;clear g1 g2 g3 g6 e;rintro e Z1 ⟨hV,g8,g1,g2,g3,g6⟩;have kV:Kp (fun _=>False) U Z1:=by rw[hV];exact (Kp.refl _ _).push _
 have tV:Tk U.length (fun _=>False) Z1:=⟨[],[],0,Za.nil,by rw[hV];simp,List.nodup_nil,fun x=>by simp⟩;have lV:Z1.length=U.length+1:=by rw[hV];simp
 clear hV;refine qx (fun e X=>Kp (fun _=>False) U X∧U.length+1≤X.length∧Tk U.length (fun x=>x∈l) X∧e.get 8=some (.map U.length)∧e.get 1=some (.sl b (l.map .str))∧e.get 2=some (.map m)∧e.get 3=some (.ptr S.length 0 0 1)∧e.get 6=some (.ptr (S.length+1) 0 0 1)) ?_ ?_
 ·simp[g8,g1];refine qi (tV.add b l (by omega)) ?_;rintro r X ⟨tX,kX,lX⟩;simp[g8,g1,g2,g3,g6];refine ⟨⟨by omega,fun k hk _=>?_⟩,by omega,tX.same (by simp)⟩;rw[kX.get k (by omega) (by omega),kV.get k hk id]
 clear g8 g1 g2 g3 g6 e tV;rintro e X ⟨kX,lX,tX,g8,g1,g2,g3,g6⟩;refine qx (fun e Y=>Kp (fun _=>False) U Y∧U.length+1≤Y.length∧Tk U.length (fun x=>x∈suT l es) Y∧e.get 8=some (.map U.length)∧e.get 2=some (.map m)∧e.get 3=some (.ptr S.length 0 0 1)∧e.get 6=some (.ptr (S.length+1) 0 0 1)) ?_ ?_
 ·have mX:=kX.at m1 id;simp[evX,g2,qju,mX];obtain ⟨L,hL⟩:∃L,L=X.length:=⟨_,rfl⟩;obtain ⟨X2,hX2⟩:∃X2:St,X2=X++[.iter m ck [] ck]:=⟨_,rfl⟩;rw[←hX2,←hL];have iX2:X2[L]?=some (.iter m ck [] ck):=by rw[hX2,hL];simp
  have kX2:Kp (fun _=>False) U X2:=by rw[hX2];exact kX.push _
  have tX2:Tk U.length (fun x=>x∈l) X2:=tX.keep (by rw[hX2,qqW (by omega)]);have lX2:X2.length=L+1:=by rw[hX2,hL];simp
  clear hX2;obtain ⟨J,hJ⟩:∃J:List Nat→St→Prop,∀seen Y,J seen Y↔(Kp (fun _=>False) U Y∧L+1≤Y.length∧Y[L]?=some (.iter m ck seen ck)∧Tk U.length (fun x=>x∈l∨∃(i:Nat) (e:Ae) (b:Nat),es[i]?=some e∧bs[i]?=some b∧b∈seen∧x∈e.2.occ) Y):=⟨_,fun _ _=>Iff.rfl⟩;refine jL (L:=L) (lm:=m) (since:=ck) (bs:=bs) (es:=es.map aeT) (ck:=ck) (e0:=[(22,.ptr L 0 0 0),(8,.map U.length),(6,.ptr (S.length+1) 0 0 1),(3,.ptr S.length 0 0 1),(2,.map m)]) J
   ?_ (by simp[Opd.ev]) (by simp[hlen]) hbs.1 ((hJ _ _).2 ⟨kX2,by omega,iX2,tX2.same fun x=>by simp⟩) ?_ ?_ ?_
  ·repeat' first|exact Env.sub_nil _|refine Env.sub_cons (by simp[g8,g2,g3,g6]) ?_
  ·intro seen Y hj;obtain ⟨h1,_,h2,_⟩:=(hJ _ _).1 hj;exact ⟨⟨ck,qqY _,h2⟩,h1.at m1 id⟩
  ·intro seen Y hj hall;obtain ⟨h1,h2,h3,h4⟩:=(hJ _ _).1 hj;simp;refine ⟨h1,by omega,h4.same fun x=>?_⟩;unfold suT;rw[qq0,qr6];refine or_congr_right ⟨?_,?_⟩
   ·rintro ⟨i,e,b,hi,_,_,hx⟩;exact ⟨e,qq1 hi,hx⟩
   ·rintro ⟨e,he,hx⟩;obtain ⟨i,hi⟩:=qse.1 he;have hlt:=(qqT.1 hi).1;have hb:=qqZ (l:=bs) (i:=i) (by omega);exact ⟨i,e,bs[i],hi,hb,hall _ (qq1 hb),hx⟩
  ·intro seen Y i k v b' hj hk hb hn;obtain ⟨h1,h2,h3,h4⟩:=(hJ _ _).1 hj;rw[qq7,qq3] at hk;obtain ⟨e1,hi,hkv⟩:=hk;cases hkv;have hY2:(Y.set L (.iter m ck (seen++[b']) ck))[L]?=some (.iter m ck (seen++[b']) ck):=qqV (glt h3)
   have hYm:(Y.set L (.iter m ck (seen++[b']) ck))[m]?=some (.map (es.map aeT) bs ck):=by
    rw[qqX (by have:=glt m1;omega)];exact h1.at m1 id
   have hent:=qhi hY2 hYm hbs.2 (by rw[qq7,hi];rfl) hb;obtain ⟨Y2,hY2e⟩:∃Y2,Y2=Y.set L (.iter m ck (seen++[b']) ck):=⟨_,rfl⟩;have kY2:Kp (fun _=>False) U Y2:=by rw[hY2e];exact h1.set _ (.inr (by omega))
   have tY2:=h4.keep (Y:=Y2) (by rw[hY2e,qqX (by omega)]);have lY2:Y2.length=Y.length:=by rw[hY2e];simp
   rw[←hY2e] at hY2 hYm hent ⊢;clear hY2e;have hn7:V.upd (.agg [.int .i64 0,.int .i64 0,.int .i64 0,.int .i64 0,.int .i64 0,.str ⟨⟨[]⟩⟩,.sl true []]) 0 7 e1.2.v=some e1.2.v:=by rw[qh];simp
   have hea:(aeT e1).2=e1.2.v:=rfl;have hft:fits 7 [e1.2.v]=true:=by simp[fits]
   simp[evX,hent,qG,stS,hea,hn7,ldS,hft];obtain ⟨Y3,hY3⟩:∃Y3:St,Y3=Y2++[.arr [e1.2.v] 7 1]:=⟨_,rfl⟩;have kY3:Kp (fun _=>False) Y2 Y3:=by rw[hY3];exact (Kp.refl _ _).push _
   rw[←hY3];clear hY3;refine qi (qn0 true [e1.2] (by have:=hz e1 (qq1 hi);simp[sizes_cons,qK];omega) Y3) ?_;rintro r Y4 ⟨M,bs2,ck2,rfl,hst2,hM,kY4,hMl⟩;have hoc:Ex.occl [e1.2]=e1.2.occ:=by simp[Ex.occl]
   rw[hoc] at hM;obtain ⟨ks2,hks2⟩:∃ks2,ks2=e1.2.occ.foldl yR []:=⟨_,rfl⟩;rw[←hks2] at hM;have lM:=glt hM;simp[evX,qju,hM];obtain ⟨L2,hL2⟩:∃L2,L2=Y4.length:=⟨_,rfl⟩;obtain ⟨Y5,hY5⟩:∃Y5:St,Y5=Y4++[.iter M ck2 [] ck2]:=⟨_,rfl⟩;rw[←hY5,←hL2];have kY45:Kp (fun _=>False) Y4 Y5:=by rw[hY5];exact (Kp.refl _ _).push _
   have iY5:Y5[L2]?=some (.iter M ck2 [] ck2):=by rw[hY5,hL2];simp
   have k25:Kp (fun _=>False) Y2 Y5:=(kY3.trans kY4).trans kY45;have M5:=kY45.at hM id;have L5:=k25.at hY2 id;have T5:=tY2.keep (k25.get U.length (by omega) id);have l5:L2+1≤Y5.length:=by rw[hY5,hL2];simp
   have lY3:=kY3.len;clear hY5;obtain ⟨J2,hJ2⟩:∃J2:List Nat→St→Prop,∀seen2 Z,J2 seen2 Z↔(Kp (fun _=>False) U Z∧L2+1≤Z.length∧Z[L]?=some (.iter m ck (seen++[b']) ck)∧Z[M]?=some (.map (ks2.map kv) bs2 ck2)∧Z[L2]?=some (.iter M ck2 seen2 ck2)∧Tk U.length (fun x=>(x∈l∨∃(i:Nat) (e:Ae) (b:Nat),es[i]?=some e∧bs[i]?=some b∧b∈seen∧x∈e.2.occ)∨∃(i:Nat) (b:Nat),ks2[i]?=some x∧bs2[i]?=some b∧b∈seen2) Z):=⟨_,fun _ _=>Iff.rfl⟩;have hkl:(ks2.map kv).length=bs2.length:=by rw[qq2,hst2.2,hoc,hks2]
   refine jL (L:=L2) (lm:=M) (since:=ck2) (bs:=bs2) (es:=ks2.map kv) (ck:=ck2) (e0:=[(30,.ptr L2 0 0 0),(22,.ptr L 0 0 0),(8,.map U.length),(6,.ptr (S.length+1) 0 0 1),(3,.ptr S.length 0 0 1),(2,.map m)]) J2
    ?_ (by simp[Opd.ev]) hkl hst2.1.1 ((hJ2 _ _).2 ⟨kY2.trans k25,l5,L5,M5,iY5,T5.same fun x=>by simp⟩) ?_ ?_ ?_
   ·exact Env.so (by simp)
   ·intro seen2 Z hj;obtain ⟨_,_,_,q1,q2,_⟩:=(hJ2 _ _).1 hj;exact ⟨⟨ck2,qqY _,q2⟩,q1⟩
   ·intro seen2 Z hj hall2;obtain ⟨q1,q2,q3,q4,q5,q6⟩:=(hJ2 _ _).1 hj;simp;refine ⟨?_,(hJ _ _).2 ⟨q1,by omega,q3,q6.same fun x=>?_⟩⟩
    ·exact Env.so (by simp)
    ·constructor
     ·rintro ((hx|⟨j,e,b2,h5,h6,h7,h8⟩)|⟨j,b2,h5,h6,h7⟩)
      ·exact .inl hx
      ·exact .inr ⟨j,e,b2,h5,h6,by simp[h7],h8⟩
      ·refine .inr ⟨i,e1,b',hi,hb,by simp,?_⟩;have:=qq1 h5;rw[hks2,Qf] at this;simpa using this
     ·rintro (hx|⟨j,e,b2,h5,h6,h7,h8⟩)
      ·exact .inl (.inl hx)
      ·rcases qq0.1 h7 with h7|h7
       ·exact .inl (.inr ⟨j,e,b2,h5,h6,h7,h8⟩)
       ·simp at h7;subst h7;have hij:i=j:=(List.getElem?_inj (qqT.1 hb).1 hbs.2).1 (hb.trans h6.symm);subst hij;rw[hi] at h5;cases h5;have hx2:x∈ks2:=by rw[hks2,Qf];exact .inr h8
        obtain ⟨j2,hj2⟩:=qse.1 hx2;rw[qq2] at hkl;have hlt:=(qqT.1 hj2).1;have hb2:=qqZ (l:=bs2) (i:=j2) (by omega);exact .inr ⟨j2,bs2[j2],hj2,hb2,hall2 _ (qq1 hb2)⟩
   ·intro seen2 Z i2 k2 v2 b2 hj hk2 hb2 hn2;obtain ⟨q1,q2,q3,q4,q5,q6⟩:=(hJ2 _ _).1 hj;rw[qq7,qq3] at hk2;obtain ⟨x2,hx2,hkv2⟩:=hk2;cases hkv2;have hZ2:(Z.set L2 (.iter M ck2 (seen2++[b2]) ck2))[L2]?=some (.iter M ck2 (seen2++[b2]) ck2):=qqV (glt q5)
    have hZm:(Z.set L2 (.iter M ck2 (seen2++[b2]) ck2))[M]?=some (.map (ks2.map kv) bs2 ck2):=by
     rw[qqX (by omega)];exact q4
    have hent2:=qhi hZ2 hZm hst2.1.2 (by rw[qq7,hx2];rfl) hb2;obtain ⟨Z2,hZ2e⟩:∃Z2,Z2=Z.set L2 (.iter M ck2 (seen2++[b2]) ck2):=⟨_,rfl⟩;have kZ2:Kp (fun _=>False) U Z2:=by rw[hZ2e];exact q1.set _ (.inr (by omega))
    have tZ2:=q6.keep (Y:=Z2) (by rw[hZ2e,qqX (by omega)]);have lZ2:Z2.length=Z.length:=by rw[hZ2e];simp
    have cZ2:Z2[L]?=some (.iter m ck (seen++[b']) ck):=by rw[hZ2e,qqX (by omega)];exact q3
    rw[←hZ2e] at hZ2 hZm hent2 ⊢;clear hZ2e;have hft2:fits 1 [V.str x2]=true:=rfl;simp[evX,hent2,kv,hft2];refine qi (tZ2.add true [x2] (by simp)) ?_;rintro r Z3 ⟨tZ3,kZ3,lZ3⟩;simp;refine ⟨?_,(hJ2 _ _).2 ⟨⟨by omega,fun k hk _=>?_⟩,by omega,kZ3.at cZ2 (by omega),kZ3.at hZm (by omega),kZ3.at hZ2 (by omega),tZ3.same fun x=>?_⟩⟩
    ·exact Env.so (by simp)
    ·have:=kZ2.len;rw[kZ3.get k (by omega) (by omega),kZ2.get k hk id]
    ·rw[or_assoc];refine or_congr_right ?_;constructor
     ·rintro (⟨j,b3,h5,h6,h7⟩|h5)
      ·exact ⟨j,b3,h5,h6,by simp[h7]⟩
      ·simp at h5;subst h5;exact ⟨i2,b2,hx2,hb2,by simp⟩
     ·rintro ⟨j,b3,h5,h6,h7⟩;rcases qq0.1 h7 with h7|h7
      ·exact .inl ⟨j,b3,h5,h6,h7⟩
      ·simp at h7;subst h7;have hij:i2=j:=(List.getElem?_inj (qqT.1 hb2).1 hst2.1.2).1 (hb2.trans h6.symm);subst hij;rw[hx2] at h5;cases h5;exact .inr (by simp)
 clear g8 g1 g2 g3 g6 e tX;rintro e Y ⟨kY,lY,⟨ks,bs',ck',_,mY,nd,hks⟩,g8,g2,g3,g6⟩;obtain ⟨a,ha⟩:∃a,a=suA s l es:=⟨_,rfl⟩
 have haw:s.whole (lf (apL ks s.frees [] s.bounds))=a:=by
  rw[ha];unfold suA Sm.ap Sm.aps;rw[qcs (tk':=(suT l es).foldl yR []) (fun x=>by rw[hks,Qf];simp) (fun _=>Iff.rfl)]
 have hkl:ks.length≤(suT l es).length:=qbC nd fun x hx=>(hks x).1 hx
 have aok:a.ok:=by rw[ha];exact s.ap_ok2 hs va hfr
 have asz:(Pa.st a).size≤4000:=by
  have:=(Sm.w_le (lf (s.aps (suT l es))) s [qd s.labels 0] (qd s.labels 0).length).1;rw[ha];exact qrt this hsz
 have anb:Sm.nb1 [a]=Sm.nb1 [s]:=by
  rw[←Sm.bounds_len,ha,suA,Sm.ap_bounds va hfr,Sm.aps_length]
 refine qx (fun e Z=>Kp (fun _=>False) U Z∧(∃A,U.length≤A∧e.get 12=some (.ptr A 0 0 1)∧Z[A]?=some (.arr [if (Pa.st a).err qb=0 then a.v else smZ] 8 1))∧e.get 13=some (.int .i64 ((Pa.st a).err qb))∧e.get 2=some (.map m)∧e.get 3=some (.ptr S.length 0 0 1)∧e.get 6=some (.ptr (S.length+1) 0 0 1)) ?_ ?_
 ·have c0:=kY.at b0 id;have d0:ldS Y (.ptr S.length 0 0 1) (some 8)=some s.v:=by simp[ldS,c0]
  simp[g8,g3,d0];refine qi (qoV s hs va hsz ks (by omega) U.length bs' ck' Y mY) ?_;rintro r Z ⟨rfl,kZ⟩;rw[haw];simp;refine qi (qjM a aok Z) ?_;rintro r Z2 ⟨rfl,kZ2⟩;have kk:=(kY.trans kZ).trans kZ2;obtain ⟨q,hq⟩:∃q,q=if (Pa.st a).err qb=0 then a.v else smZ:=⟨_,rfl⟩
  have hq2:V.upd smZ 0 8 q=some q:=by
   rw[hq];split
   ·unfold smZ;rw[qh];simp
   ·rfl
  unfold smZ at hq2;rw[←hq];simp[qG,stS,hq2,g2,g3,g6];exact ⟨kk.push _,_,kk.len,rfl,by simp⟩
 clear g8 g2 g3 g6 e;rintro e Z ⟨kZ,⟨A,hA,g12,zA⟩,g13,g2,g3,g6⟩;rw[←ha] at he;refine qx (fun e Z'=>Z'=Z∧(Pa.st a).err qb=0∧e.get 12=some (.ptr A 0 0 1)∧e.get 2=some (.map m)∧e.get 6=some (.ptr (S.length+1) 0 0 1)) ?_ ?_
 ·have z1:=kZ.at b1 id;by_cases h0:(Pa.st a).err qb=0
  ·simp[g13,h0,g12,g2,g6]
  ·rw[if_pos h0] at he;rw[he,if_neg h0] at hv;simp[g13,h0,qB,qF,stS,g6,z1,qh];refine fin _ smZ _ _ kZ hv he ?_ ?_ rfl <;> simp[g6]
 clear g12 g13 g2 g3 g6 e;rintro e Z' ⟨rfl,h0,g12,g2,g6⟩;rw[if_neg (by rw[h0];simp)] at he;rw[if_pos h0] at zA;have av:=(qI h0).2;refine qx (fun e X'=>qqw es m Z' (.tup [(e.get 14).getD .nilp,(e.get 15).getD .nilp]) X'∧e.get 12=some (.ptr A 0 0 1)∧(∃x,e.get 14=some x)∧(∃x,e.get 15=some x)∧e.get 6=some (.ptr (S.length+1) 0 0 1)) ?_ ?_
 ·simp[g2];refine qi (qov es m bs ck Z' (kZ.at m1 id)) ?_;rintro r X' ⟨w,cb,cg,ct,F,D,rfl,h1,h2,h3,h4,h5⟩;simp[g12,g6];exact ⟨w,cb,cg,ct,F,D,rfl,h1,h2,h3,h4,h5⟩
 clear g12 g2 g6 e;rintro e X' ⟨⟨w,cb,cg,ct,F,D,hr,h1,h2,h3,h4,h5⟩,g12,⟨x14,g14⟩,⟨x15,g15⟩,g6⟩;rw[g14,g15] at hr;simp only[Option.getD_some,V.tup.injEq,List.cons.injEq,and_true] at hr;obtain ⟨rfl,rfl⟩:=hr;have hcb:(sbC es cb m cg ct).Ok:=qof es cb m cg ct fun x y hy=>hz _ (Qj hy)
 obtain ⟨o,hO⟩:∃o,o=a.wholeR (sbP (lkL es)):=⟨_,rfl⟩;have hoS:suO s l es=o:=by rw[hO,ha];rfl
 have ook:o.ok:=by rw[hO];exact Sm.wholeR_ok (qjr ho) a aok
 have hF:suF s l es=sbb (a.wholeH (sbP (lkL es)) (false:Bool)):=by rw[ha];rfl
 refine qx (fun e W=>Kp (fun _=>False) U W∧(∃B,U.length≤B∧e.get 16=some (.ptr B 0 0 1)∧W[B]?=some (.arr [o.v] 8 1))∧W[cg]?=some (.arr [.bool (suF s l es)] 1 1)∧e.get 15=some (.ptr cg 0 0 1)∧e.get 6=some (.ptr (S.length+1) 0 0 1)) ?_ ?_
 ·have c0:=h5.at zA id;have d0:ldS X' (.ptr A 0 0 1) (some 8)=some a.v:=by simp[ldS,c0]
  simp[g14,g12,d0];refine qi (qa5 (sbC es cb m cg ct) hcb w a aok asz (false:Bool) F D X' h1 (by show Sm.nb1 [a]≤100001;omega)) ?_;rintro r W ⟨rfl,F2,D2,k2,s2⟩;have hst:Sbs es cb m cg ct (a.wholeH (sbP (lkL es)) (false:Bool)) F2 D2 W:=k2.st;have hg:W[cg]?=some (.arr [.bool (suF s l es)] 1 1):=by rw[hF];exact hst.g
  have kW:Kp (fun _=>False) U W:=⟨qrt (kZ.trans h5).len s2.k.len,fun k hk _=>by
   have q1:=kZ.len;have q2:=h5.len;rw[s2.k.get k (by omega) (by rintro (hh|hh);omega;have:=(h4 k).1 hh;omega)];exact (kZ.trans h5).get k hk id⟩
  rw[show a.wholeR (sbC es cb m cg ct).toPw=o from hO.symm];have hq2:V.upd smZ 0 8 o.v=some o.v:=by unfold smZ;rw[qh];simp
  unfold smZ at hq2;have hlt:=glt hg;simp[qG,stS,hq2,g15,g6];exact ⟨kW.push _,⟨_,kW.len,rfl,by simp⟩,by rw[qqW hlt];exact hg⟩
 clear g12 g14 g15 g6 e;rintro e W ⟨kW,⟨B,hB,g16,wB⟩,wg,g15,g6⟩;have w1:=kW.at b1 id;rw[hoS] at he hv
 cases hf:suF s l es with
 | true=>
  rw[hf] at wg;rw[hf,if_pos rfl] at he;rw[he,if_neg (by decide)] at hv;simp[g15,zY,ldS,wg,qB,qF,stS,g6,w1,qh];refine fin _ smZ _ _ kW hv he ?_ ?_ rfl <;> simp[g6]
 | false=>
  rw[hf] at wg;rw[hf,if_neg (by simp)] at he;have d0:ldS W (.ptr B 0 0 1) (some 8)=some o.v:=by simp[ldS,wB]
  have dg:ldS W (.ptr cg 0 0 1) none=some (.bool false):=by simp[ldS,wg]
  simp[g15,zY,dg,g16,d0];refine qi (qjM o ook W) ?_;rintro r W2 ⟨rfl,kW2⟩;have w2:=kW2.at w1 id;by_cases ho0:(Pa.st o).err qb=0
  ·rw[he,if_pos ho0] at hv;rw[ho0] at he;simp[ho0,stS,g6,w2,qh];refine fin _ o.v 0 _ (kW.trans kW2) hv he ?_ ?_ (ZY _) <;> simp[g6]
  ·rw[he,if_neg ho0] at hv;simp[ho0,stS,g6,w2,qh];refine fin _ smZ _ _ (kW.trans kW2) hv he ?_ ?_ rfl <;> simp[g6]
theorem ji{l:List Bz}{n:Nat}{sc:Scs}{u:Bz}(h:u∉nms l)(g:sc.at u=none):Scs.at (qd l n::sc) u=none:=by
 unfold Scs.at
 cases ha:Sco.at (qd l n) u with
 | none=>exact g
 | some k=>
  refine absurd ?_ h;rw[qfP n];exact qrG (f:=(·.1)) (qdI ha)
mutual
theorem Ex.ev_at{sc:Scs}:∀(x:Ex) (e:Oc),e∈x.ev sc→e.2=sc
 | .mk k o n m e t a,oc,h=>by
  rw[Ex.ev] at h;rcases qq0.1 h with h| h
  ·exact Ex.evl_at a oc h
  ·split at h
   ·simp at h;rw[h]
   ·cases h
theorem Ex.evl_at{sc:Scs}:∀(l:List Ex) (e:Oc),e∈Ex.evl sc l→e.2=sc
 | [],_,h=>by rw[Ex.evl] at h;cases h
 | x::l,e,h=>by
  rw[Ex.evl] at h;rcases qq0.1 h with h| h
  ·exact Ex.ev_at x e h
  ·exact Ex.evl_at l e h
end
theorem El.evl_at{sc:Scs}:∀(l:List El) (e:Oc),e∈El.evl sc l→e.2=sc
 | [],_,h=>by rw[El.evl] at h;cases h
 | x::l,e,h=>by
  rw[El.evl] at h;rcases qq0.1 h with h| h
  ·exact Ex.evl_at _ e h
  ·exact El.evl_at l e h
section
variable {u:Bz}
mutual
theorem Sm.ev_at:∀(s:Sm) (sc:Scs) (n:Nat),u∉s.bn→sc.at u=none→∀e,e∈s.ev sc n→e.2.at u=none
 | .mk l k t g e hh d b,sc,n,hu,hs,oc,ho=>by
  rw[Sm.bn] at hu;rw[Sm.ev] at ho;by_cases h7:k=7
  ·rw[if_pos h7] at hu ho;simp only[qq0,not_or] at hu;have h2:=ji (n:=n) hu.1.1 hs;rcases qq0.1 ho with ho|ho
   ·exact De.evl_at d _ _ _ hu.1.2 h2 hs oc ho
   ·exact Sm.evl_at b _ _ hu.2 h2 oc ho
  ·rw[if_neg h7] at hu ho;by_cases h8:k=8
   ·rw[if_pos h8] at hu ho;simp only[qq0,not_or] at hu;exact Sm.evl_at b _ _ hu.2 (ji (n:=n) hu.1 hs) oc ho
   ·rw[if_neg h8] at hu ho;simp only[qq0] at ho;rcases ho with (((ho|ho)|ho)|ho)|ho
    ·rw[Ex.evl_at _ _ ho];exact hs
    ·rw[Ex.evl_at _ _ ho];exact hs
    ·rw[El.evl_at _ _ ho];exact hs
    ·exact Sm.ev1_at b _ _ hu hs oc ho
    ·split at ho
     ·simp at ho;rw[ho];exact hs
     ·cases ho
theorem De.ev_at:∀(s:De) (own sc:Scs) (n:Nat),u∉s.bn→own.at u=none→sc.at u=none→∀e,e∈s.ev own sc n→e.2.at u=none
 | .mk k o t ns e fo b,own,sc,n,hu,h1,hs,oc,ho=>by
  rw[De.bn] at hu;rw[De.ev] at ho;by_cases h4:k=4
  ·rw[if_pos h4] at hu ho;simp only[qq0,not_or] at hu;exact Sm.ev1_at b _ _ hu.2 (ji (n:=n) hu.1 h1) oc ho
  ·rw[if_neg h4] at ho;rw[Ex.evl_at _ _ ho];split
   ·exact hs
   ·exact h1
theorem De.evl_at:∀(l:List De) (own sc:Scs) (n:Nat),u∉De.bnl l→own.at u=none→sc.at u=none→∀e,e∈De.evl own sc n l→e.2.at u=none
 | [],_,_,_,_,_,_,_,ho=>by rw[De.evl] at ho;cases ho
 | x::l,own,sc,n,hu,h1,hs,oc,ho=>by
  rw[De.bnl] at hu;rw[De.evl] at ho;simp only[qq0,not_or] at hu;rcases qq0.1 ho with ho|ho
  ·exact De.ev_at x own sc n hu.1 h1 hs oc ho
  ·exact De.evl_at l own sc _ hu.2 h1 hs oc ho
theorem Sm.evl_at:∀(l:List Sm) (sc:Scs) (n:Nat),u∉Sm.bnl l→sc.at u=none→∀e,e∈Sm.evl sc n l→e.2.at u=none
 | [],_,_,_,_,_,ho=>by rw[Sm.evl] at ho;cases ho
 | x::l,sc,n,hu,hs,oc,ho=>by
  rw[Sm.bnl] at hu;rw[Sm.evl] at ho;simp only[qq0,not_or] at hu;rcases qq0.1 ho with ho|ho
  ·exact Sm.ev_at x sc n hu.1 hs oc ho
  ·exact Sm.evl_at l sc _ hu.2 hs oc ho
theorem Sm.ev1_at:∀(l:List Sm) (sc:Scs) (n:Nat),u∉Sm.bn1 l→sc.at u=none→∀e,e∈Sm.ev1 sc n l→e.2.at u=none
 | [],_,_,_,_,_,ho=>by rw[Sm.ev1] at ho;cases ho
 | x::l,sc,n,hu,hs,oc,ho=>by
  rw[Sm.bn1] at hu;rw[Sm.ev1] at ho;simp only[qq0,not_or] at hu;rcases qq0.1 ho with ho|ho
  ·exact Sm.ev_at x _ _ hu.1.2 (ji (n:=n) hu.1.1 hs) oc ho
  ·exact Sm.ev1_at l sc _ hu.2 hs oc ho
end
theorem Sm.evs_at(s:Sm)(hu:u∉s.bounds):∀e,e∈s.evs→e.2.at u=none:=by
 unfold Sm.bounds at hu;simp only[qq0,not_or] at hu;exact Sm.ev_at s _ _ hu.2 (ji (sc:=[]) hu.1 rfl)
end
theorem Sm.sb_whole{lk:Lk}{g:Nat→Bz}(hg:∀k,lk (g k)=none){nm:Bz→Bool}(s:Sm)(v:(Pa.st s).valid nm=true)(hb:(s.whole g).sbad lk=false)(ha:∀x y u,lk x=some y→u∈y.occ→u∉s.bounds):(s.wholeR (sbP lk)).whole g=(s.whole g).sb lk:=by
 unfold Sm.whole Sm.wholeR at *;rw[Sm.wr_labels Jm];exact Sm.sb_w hg s _ _ v hb fun e he hn y hy u hu=>s.evs_at (ha _ _ _ hy hu) e he
theorem Sm.flag_whole{lk:Lk}{g:Nat→Bz}(hg:∀k,lk (g k)=none){nm:Bz→Bool}(s:Sm)(v:(Pa.st s).valid nm=true):sbb (s.wholeH (sbP lk) (false:Bool))=(s.whole g).sbad lk:=by
 have h1:sbb (enters (sbP lk) (false:Bool) (qd s.labels 0))=false:=Zj (lk:=lk) (qd s.labels 0) (false:Bool);have h2:=Sm.sb_flag hg s [qd s.labels 0] (qd s.labels 0).length (enters (sbP lk) (false:Bool) (qd s.labels 0)) v;rw[h1,Bool.false_or] at h2;exact h2
section
variable {s:Sm} {l:List Bz} {es:List Ae} {g:Nat→Bz} (va:(Pa.st s).valid qb=true) (hl:s.frees.length+Sm.nb1 [s]+(suT l es).length≤899) (hg:∀k,lkL es (g k)=none)
include va hl hg
theorem qg6(ho:(Pa.st (suA s l es)).valid qb=true):suF s l es=(s.whole g).sbad (lkL es):=by
 unfold suF;rw[Sm.flag_whole hg _ ho,suA,Sm.ap_alike va hl]
theorem qoQ(ho:(Pa.st (suA s l es)).valid qb=true)(hf:suF s l es=false):(suO s l es).whole g=(s.whole g).sb (lkL es):=by
 have h1:=qg6 va hl hg ho;have h2:(suA s l es).whole g=s.whole g:=by rw[suA,Sm.ap_alike va hl]
 unfold suO;rw[Sm.sb_whole hg _ ho (by rw[h2,←h1,hf]) fun x y u hy hu hb=>Sm.ap_free va hl u hb ?_,h2];unfold suT;exact qq9 _ (qr6.2 ⟨_,Qj hy,hu⟩)
end
def ocO(lk:Lk)(g:Nat→Bz)(e:Oc):List Bz:=match lk (zH g e.2 e.1) with
 | some y=>y.occ
 | none=>[zH g e.2 e.1]
theorem qf9{lk:Lk}(hk:∀x y,lk x=some y→y.kind=6→y.occ=[y.text]){g:Nat→Bz}{sc:Scs}{t:Bz}(hb:qaK lk (zH g sc t)=false):[sbn lk (zH g sc t)]=ocO lk g (t,sc):=by
 unfold sbn ocO qaK at *;simp only
 cases hy:lk (zH g sc t) with
 | none=>rfl
 | some y=>
  rw[hy] at hb;simp only[decide_not,qsU,decide_eq_true_eq] at hb;simp only;rw[hk _ _ hy hb]
section
variable {lk:Lk} (hk:∀x y,lk x=some y→y.kind=6→y.occ=[y.text]) {g:Nat→Bz} {nm:Bz→Bool}
include hk
mutual
theorem Ex.occ_sb(sc:Scs)(tg:Bool):∀x:Ex,(Pa.ex x).valid nm=true→(x.w g sc).sbad lk tg=false→((x.w g sc).sb lk).occ=(x.ev sc).flatMap (ocO lk g)
 | .mk k o n m e t a,v,hb=>by
  have va:=Ex.valid_args v;simp only[Ex.args] at va;have h1:=(Pa.valid_iff.1 v).1;rw[Ex.w,Ex.sbad,qq4] at hb;have h2:=Ex.occ_sbl sc false a va hb.1;have hb:=hb.2;rw[Ex.w,Ex.sb,Ex.ev,qr5];by_cases h6:k=6
  ·have hn:Ex.named k=true:=by rw[h6];rfl
   have ha:a=[]:=by
    subst h6;simp[Pa.vOwn,Ex.vOwn] at h1;simp[h1]
   subst ha;rw[if_pos h6,if_pos hn,if_pos hn,Ex.evl];simp only[List.flatMap_nil,qr9,qrs,qr8];unfold ocO;simp only
   cases hy:lk (zH g sc t) with
   | none=>
    simp only;rw[Ex.occ,if_pos hn];rfl
   | some y=>rfl
  ·rw[if_neg h6] at hb ⊢;rw[Ex.occ,h2];by_cases hn:Ex.named k=true
   ·rw[if_pos hn,hn,qsc] at hb;rw[if_pos hn,if_pos hn,if_pos hn,if_pos hn,qf9 hk hb];simp
   ·rw[if_neg hn,if_neg hn];simp
theorem Ex.occ_sbl(sc:Scs)(tg:Bool):∀l:List Ex,(∀x,x∈l→(Pa.ex x).valid nm=true)→Ex.sbadl lk tg (Ex.wl g sc l)=false→Ex.occl (Ex.sbl lk (Ex.wl g sc l))=(Ex.evl sc l).flatMap (ocO lk g)
 | [],_,_=>rfl
 | x::l,v,hb=>by
  rw[Ex.wl,Ex.sbadl,qq4] at hb;rw[Ex.wl,Ex.sbl,Ex.occl,Ex.evl,qr5,Ex.occ_sb sc tg x (v x (by simp)) hb.1,Ex.occ_sbl sc tg l (fun y hy=>v y (by simp[hy])) hb.2]
end
theorem El.occ_sbl(sc:Scs):∀l:List El,(∀x,x∈l→(Pa.el x).valid nm=true)→El.sbadl lk (l.map (El.w g sc))=false→El.occl ((l.map (El.w g sc)).map (El.sb lk))=(El.evl sc l).flatMap (ocO lk g)
 | [],_,_=>rfl
 | x::l,v,hb=>by
  rw[qq8,El.sbadl,qq4] at hb;have hx:(El.w g sc x).exps=Ex.wl g sc x.exps:=by unfold El.w;rw[Ex.wl_map]
  rw[hx] at hb;have h1:=Ex.occ_sbl hk sc false x.exps (fun y hy=>(Pa.valid_iff.1 (v x (by simp))).2 _ (by simp only[Pa.kids];exact qrG hy)) hb.1;rw[qq8,qq8,El.occl,El.evl,qr5,El.occ_sbl sc l (fun y hy=>v y (by simp[hy])) hb.2,←h1,←hx];rfl
mutual
theorem Sm.occ_sb:∀(s:Sm) (sc:Scs) (n:Nat),(Pa.st s).valid nm=true→(s.w g sc n).sbad lk=false→((s.w g sc n).sb lk).occ=(s.ev sc n).flatMap (ocO lk g)
 | .mk l k t gs e hh d b,sc,n,v,hb=>by
  have vd:=Sm.valid_decls v;have vb:=Sm.valid_body v;have vg:=Sm.valid_targets v;have ve:=Sm.valid_exps v;have vl:=Sm.valid_elems v;simp only[Sm.decls,Sm.body,Sm.targets,Sm.exps,Sm.elems] at vd vb vg ve vl;rw[Sm.w] at hb;rw[Sm.ev];by_cases h7:k=7
  ·have h6:¬ k=6:=by omega
   rw[if_pos h7,Sm.sbad] at hb;simp only[qq4] at hb;simp only[Sm.w,if_pos h7];rw[Sm.sb,Sm.occ,if_pos h7,De.occ_sbl d _ _ _ vd hb.1.1.2,Sm.occ_sbl b _ _ vb hb.1.2,qr5]
  ·by_cases h8:k=8
   ·rw[if_neg h7,if_pos h8,Sm.sbad] at hb;simp only[qq4] at hb;simp only[Sm.w,if_neg h7,if_pos h8];rw[Sm.sb,Sm.occ,if_neg h7,if_pos h8,Sm.occ_sbl b _ _ vb hb.1.2]
   ·rw[if_neg h7,if_neg h8,Sm.sbad] at hb;simp only[qq4] at hb;obtain ⟨⟨⟨⟨⟨b1,b2⟩,b3⟩,_⟩,b5⟩,b6⟩:=hb;simp only[Sm.w,if_neg h7,if_neg h8];rw[Sm.sb,Sm.occ,if_neg h7,if_neg h8,Ex.occ_sbl hk sc true gs vg b1,Ex.occ_sbl hk sc false e ve b2,El.occ_sbl hk sc hh vl b3,Sm.occ_sb1 b sc n vb b5];simp only[qr5];congr 1;by_cases h6:k=6
    ·rw[if_pos h6,decide_eq_true h6,qsc] at b6;simp only[if_pos h6];rw[qf9 hk b6];simp
    ·simp only[if_neg h6];rfl
theorem De.occ_sb:∀(s:De) (own sc:Scs) (n:Nat),(Pa.de s).valid nm=true→(s.w g own sc n).sbad lk=false→((s.w g own sc n).sb lk).occ=(s.ev own sc n).flatMap (ocO lk g)
 | .mk k o t ns e fo b,own,sc,n,v,hb=>by
  have vb:=De.valid_body v;have ve:=De.valid_exps v;simp only[De.body,De.exps] at vb ve;rw[De.w] at hb;rw[De.ev];by_cases h4:k=4
  ·rw[if_pos h4,De.sbad,qq4] at hb;simp only[De.w,if_pos h4];rw[De.sb,De.occ,if_pos h4,Sm.occ_sb1 b _ _ vb hb.2]
  ·rw[if_neg h4,De.sbad,qq4] at hb;simp only[De.w,if_neg h4];rw[De.sb,De.occ,if_neg h4,Ex.occ_sbl hk _ false e ve hb.1]
theorem De.occ_sbl:∀(l:List De) (own sc:Scs) (n:Nat),(∀x,x∈l→(Pa.de x).valid nm=true)→De.sbadl lk (De.wl g own sc n l)=false→De.occl (De.sbl lk (De.wl g own sc n l))=(De.evl own sc n l).flatMap (ocO lk g)
 | [],_,_,_,_,_=>rfl
 | x::l,own,sc,n,v,hb=>by
  rw[De.wl,De.sbadl,qq4] at hb;rw[De.wl,De.sbl,De.occl,De.evl,qr5,De.occ_sb x own sc n (v x (by simp)) hb.1,De.occ_sbl l own sc _ (fun y hy=>v y (by simp[hy])) hb.2]
theorem Sm.occ_sbl:∀(l:List Sm) (sc:Scs) (n:Nat),(∀x,x∈l→(Pa.st x).valid nm=true)→Sm.sbadl lk (Sm.wl g sc n l)=false→Sm.occl (Sm.sbl lk (Sm.wl g sc n l))=(Sm.evl sc n l).flatMap (ocO lk g)
 | [],_,_,_,_=>rfl
 | x::l,sc,n,v,hb=>by
  rw[Sm.wl,Sm.sbadl,qq4] at hb;rw[Sm.wl,Sm.sbl,Sm.occl,Sm.evl,qr5,Sm.occ_sb x sc n (v x (by simp)) hb.1,Sm.occ_sbl l sc _ (fun y hy=>v y (by simp[hy])) hb.2]
theorem Sm.occ_sb1:∀(l:List Sm) (sc:Scs) (n:Nat),(∀x,x∈l→(Pa.st x).valid nm=true)→Sm.sbadl lk (Sm.w1 g sc n l)=false→Sm.occl (Sm.sbl lk (Sm.w1 g sc n l))=(Sm.ev1 sc n l).flatMap (ocO lk g)
 | [],_,_,_,_=>rfl
 | x::l,sc,n,v,hb=>by
  rw[Sm.w1,Sm.sbadl,qq4] at hb;rw[Sm.w1,Sm.sbl,Sm.occl,Sm.ev1,qr5,Sm.occ_sb x _ _ (v x (by simp)) hb.1,Sm.occ_sb1 l sc _ (fun y hy=>v y (by simp[hy])) hb.2]
end
theorem Sm.occ_whole(s:Sm)(v:(Pa.st s).valid nm=true)(hb:(s.whole g).sbad lk=false):((s.whole g).sb lk).occ=s.evs.flatMap (ocO lk g):=Sm.occ_sb hk s _ _ v hb
end
theorem qhN{lk:Lk}{t:Bz}(h:lk t=none):sbn lk t=t:=by unfold sbn;rw[h]
section
variable {lk:Lk} {g:Nat→Bz}
end
structure Cmp(lk1 lk2 lk3:Lk)(t:Bz):Prop where
 e:lk3 t=match lk1 t with
  | some y=>some (y.sb lk2)
  | none=>lk2 t
 x:∀y,lk1 t=some y→∀tg,qeK lk3 tg t=false→y.sbad lk2 tg=false
 n:∀y,lk1 t=some y→qaK lk3 t=false→qaK lk2 y.text=false
section
variable {lk1 lk2 lk3:Lk} {g:Nat→Bz}
def CmO(lk1 lk2 lk3:Lk)(g:Nat→Bz)(e:Oc):Prop:=Cmp lk1 lk2 lk3 (zH g e.2 e.1)
theorem Cmp.title{t:Bz}(h:Cmp lk1 lk2 lk3 t)(b1:qaK lk1 t=false)(b3:qaK lk3 t=false):sbn lk2 (sbn lk1 t)=sbn lk3 t∧qaK lk2 (sbn lk1 t)=false:=by
 have he:=h.e
 cases hy:lk1 t with
 | none=>
  rw[hy] at he;simp only at he;rw[qhN hy];unfold sbn qaK at *;rw[←he];exact ⟨rfl,b3⟩
 | some y=>
  have hn:=h.n y hy b3;rw[hy] at he;simp only at he;have h1:sbn lk1 t=y.text:=by unfold sbn;rw[hy]
  have h3:sbn lk3 t=(y.sb lk2).text:=by unfold sbn;rw[he]
  rw[h1,h3];refine ⟨?_,hn⟩;unfold qaK at b1;rw[hy] at b1;simp only[decide_not,qsU,decide_eq_true_eq] at b1
  cases y with
  | mk k o n m e u a=>
   simp only[Ex.kind] at b1;subst b1;rw[Ex.sb,if_pos rfl];unfold sbn;simp only[Ex.text];cases lk2 u <;> rfl
mutual
theorem Ex.sb_sb(sc:Scs)(tg:Bool):∀x:Ex,(x.w g sc).sbad lk1 tg=false→(x.w g sc).sbad lk3 tg=false→(∀e,e∈x.ev sc→CmO lk1 lk2 lk3 g e)→((x.w g sc).sb lk1).sb lk2=(x.w g sc).sb lk3∧((x.w g sc).sb lk1).sbad lk2 tg=false
 | .mk k o n m e t a,b1,b3,h=>by
  rw[Ex.w,Ex.sbad,qq4] at b1 b3;rw[Ex.ev] at h;obtain ⟨i1,i2⟩:=Ex.sb_sbl sc false a b1.1 b3.1 fun e he=>h e (qq6 _ he)
  have b1:=b1.2;have b3:=b3.2;rw[Ex.w];by_cases h6:k=6
  ·have hn:Ex.named k=true:=by rw[h6];rfl
   rw[if_pos hn] at h;have hc:Cmp lk1 lk2 lk3 (zH g sc t):=h (t,sc) (by simp);rw[if_pos h6,if_pos hn] at b3;rw[if_pos hn];generalize zH g sc t=T at *;have he:=hc.e;rw[Ex.sb,if_pos h6,Ex.sb,if_pos h6]
   cases hy:lk1 T with
   | some y=>
    rw[hy] at he;simp only at he ⊢;rw[he];exact ⟨rfl,hc.x y hy tg b3⟩
   | none=>
    rw[hy] at he;simp only at he ⊢;rw[Ex.sb,if_pos h6,Ex.sbad,if_pos h6,i1,i2,he];refine ⟨rfl,?_⟩;unfold qeK at b3 ⊢;rw[he] at b3;rw[b3];rfl
  ·rw[if_neg h6] at b1 b3;rw[Ex.sb,if_neg h6,Ex.sb,if_neg h6,Ex.sb,if_neg h6,Ex.sbad,if_neg h6,i1,i2];by_cases hn:Ex.named k=true
   ·rw[if_pos hn] at h;have hc:Cmp lk1 lk2 lk3 (zH g sc t):=h (t,sc) (by simp);rw[hn,if_pos rfl,qsc] at b1 b3;obtain ⟨j1,j2⟩:=hc.title b1 b3;simp only[hn,if_true,j1,j2,qsc,qrS,and_self]
   ·have hn':Ex.named k=false:=by simpa using hn
    simp only[hn',qrn,if_false,qsT,qrS,and_self]
theorem Ex.sb_sbl(sc:Scs)(tg:Bool):∀l:List Ex,Ex.sbadl lk1 tg (Ex.wl g sc l)=false→Ex.sbadl lk3 tg (Ex.wl g sc l)=false→(∀e,e∈Ex.evl sc l→CmO lk1 lk2 lk3 g e)→Ex.sbl lk2 (Ex.sbl lk1 (Ex.wl g sc l))=Ex.sbl lk3 (Ex.wl g sc l)∧Ex.sbadl lk2 tg (Ex.sbl lk1 (Ex.wl g sc l))=false
 | [],_,_,_=>⟨rfl,rfl⟩
 | x::l,b1,b3,h=>by
  rw[Ex.wl,Ex.sbadl,qq4] at b1 b3;rw[Ex.evl] at h;obtain ⟨i1,i2⟩:=Ex.sb_sb sc tg x b1.1 b3.1 fun e he=>h e (qq6 _ he)
  obtain ⟨j1,j2⟩:=Ex.sb_sbl sc tg l b1.2 b3.2 fun e he=>h e (qq9 _ he)
  rw[Ex.wl,Ex.sbl,Ex.sbl,Ex.sbl,Ex.sbadl,i1,i2,j1,j2];exact ⟨rfl,rfl⟩
end
theorem El.sb_sbl(sc:Scs):∀l:List El,El.sbadl lk1 (l.map (El.w g sc))=false→El.sbadl lk3 (l.map (El.w g sc))=false→(∀e,e∈El.evl sc l→CmO lk1 lk2 lk3 g e)→((l.map (El.w g sc)).map (El.sb lk1)).map (El.sb lk2)=(l.map (El.w g sc)).map (El.sb lk3)∧El.sbadl lk2 ((l.map (El.w g sc)).map (El.sb lk1))=false
 | [],_,_,_=>⟨rfl,rfl⟩
 | x::l,b1,b3,h=>by
  have hx:(El.w g sc x).exps=Ex.wl g sc x.exps:=by unfold El.w;rw[Ex.wl_map]
  rw[qq8,El.sbadl,qq4,hx] at b1 b3;rw[El.evl] at h;obtain ⟨i1,i2⟩:=Ex.sb_sbl sc false x.exps b1.1 b3.1 fun e he=>h e (qq6 _ he)
  obtain ⟨j1,j2⟩:=El.sb_sbl sc l b1.2 b3.2 fun e he=>h e (qq9 _ he)
  have h1:(El.sb lk1 (El.w g sc x)).exps=Ex.sbl lk1 (Ex.wl g sc x.exps):=by rw[←hx];rfl
  rw[qq8,qq8,qq8,qq8,El.sbadl,h1,i2,j1,j2];refine ⟨?_,rfl⟩;congr 1;show El.mk _ (Ex.sbl lk2 (El.sb lk1 (El.w g sc x)).exps)=El.mk _ (Ex.sbl lk3 (El.w g sc x).exps);rw[h1,hx,i1];rfl
mutual
theorem Sm.sb_sb:∀(s:Sm) (sc:Scs) (n:Nat),(s.w g sc n).sbad lk1=false→(s.w g sc n).sbad lk3=false→(∀e,e∈s.ev sc n→CmO lk1 lk2 lk3 g e)→((s.w g sc n).sb lk1).sb lk2=(s.w g sc n).sb lk3∧((s.w g sc n).sb lk1).sbad lk2=false
 | .mk l k t gs e hh d b,sc,n,b1,b3,h=>by
  rw[Sm.ev] at h;by_cases h7:k=7
  ·have h6:¬ k=6:=by omega
   rw[if_pos h7] at h;simp only[Sm.w,if_pos h7] at b1 b3 ⊢;rw[Sm.sbad] at b1 b3;simp only[qq4] at b1 b3;obtain ⟨d1,d2⟩:=De.sb_sbl d _ _ _ b1.1.1.2 b3.1.1.2 fun e he=>h e (qq6 _ he)
   obtain ⟨e1,e2⟩:=Sm.sb_sbl b _ _ b1.1.2 b3.1.2 fun e he=>h e (qq9 _ he)
   simp only[Sm.sb,Sm.sbad,if_neg h6,d1,d2,e1,e2,decide_eq_false h6,Ex.sbl,Ex.sbadl,El.sbadl,qrY,qrS,qsT,and_self]
  ·by_cases h8:k=8
   ·have h6:¬ k=6:=by omega
    rw[if_neg h7,if_pos h8] at h;simp only[Sm.w,if_neg h7,if_pos h8] at b1 b3 ⊢;rw[Sm.sbad] at b1 b3;simp only[qq4] at b1 b3;obtain ⟨e1,e2⟩:=Sm.sb_sbl b _ _ b1.1.2 b3.1.2 h;simp only[Sm.sb,Sm.sbad,if_neg h6,e1,e2,decide_eq_false h6,Ex.sbl,Ex.sbadl,El.sbadl,De.sbl,De.sbadl,qrY,qrS,qsT,and_self]
   ·rw[if_neg h7,if_neg h8] at h;simp only[Sm.w,if_neg h7,if_neg h8] at b1 b3 ⊢;rw[Sm.sbad] at b1 b3;simp only[qq4] at b1 b3;obtain ⟨⟨⟨⟨⟨p1,p2⟩,p3⟩,_⟩,p5⟩,p6⟩:=b1;obtain ⟨⟨⟨⟨⟨q1,q2⟩,q3⟩,_⟩,q5⟩,q6⟩:=b3;obtain ⟨a1,a2⟩:=Ex.sb_sbl sc true gs p1 q1 fun x hx=>h x (by simp[hx])
    obtain ⟨c1,c2⟩:=Ex.sb_sbl sc false e p2 q2 fun x hx=>h x (by simp[hx])
    obtain ⟨d1,d2⟩:=El.sb_sbl sc hh p3 q3 fun x hx=>h x (by simp[hx])
    obtain ⟨e1,e2⟩:=Sm.sb_sb1 b sc n p5 q5 fun x hx=>h x (by simp[hx])
    by_cases h6:k=6
    ·rw[if_pos h6] at h;have hc:Cmp lk1 lk2 lk3 (zH g sc t):=h (t,sc) (by simp);rw[if_pos h6,decide_eq_true h6,qsc] at p6 q6;obtain ⟨j1,j2⟩:=hc.title p6 q6;simp only[Sm.sb,Sm.sbad,if_pos h6,a1,a2,c1,c2,d1,d2,e1,e2,j1,j2,De.sbl,De.sbadl,qrS,Bool.and_false,and_self]
    ·simp only[Sm.sb,Sm.sbad,if_neg h6,a1,a2,c1,c2,d1,d2,e1,e2,decide_eq_false h6,De.sbl,De.sbadl,qrS,qsT,and_self]
theorem De.sb_sb:∀(s:De) (own sc:Scs) (n:Nat),(s.w g own sc n).sbad lk1=false→(s.w g own sc n).sbad lk3=false→(∀e,e∈s.ev own sc n→CmO lk1 lk2 lk3 g e)→((s.w g own sc n).sb lk1).sb lk2=(s.w g own sc n).sb lk3∧((s.w g own sc n).sb lk1).sbad lk2=false
 | .mk k o t ns e fo b,own,sc,n,b1,b3,h=>by
  rw[De.ev] at h;by_cases h4:k=4
  ·rw[if_pos h4] at h;simp only[De.w,if_pos h4] at b1 b3 ⊢;rw[De.sbad,qq4] at b1 b3;obtain ⟨e1,e2⟩:=Sm.sb_sb1 b _ _ b1.2 b3.2 h;simp only[De.sb,De.sbad,e1,e2,Ex.sbl,Ex.sbadl,qrS,and_self]
  ·rw[if_neg h4] at h;simp only[De.w,if_neg h4] at b1 b3 ⊢;rw[De.sbad,qq4] at b1 b3;obtain ⟨e1,e2⟩:=Ex.sb_sbl _ false e b1.1 b3.1 h;simp only[De.sb,De.sbad,e1,e2,Sm.sbl,Sm.sbadl,qrS,and_self]
theorem De.sb_sbl:∀(l:List De) (own sc:Scs) (n:Nat),De.sbadl lk1 (De.wl g own sc n l)=false→De.sbadl lk3 (De.wl g own sc n l)=false→(∀e,e∈De.evl own sc n l→CmO lk1 lk2 lk3 g e)→De.sbl lk2 (De.sbl lk1 (De.wl g own sc n l))=De.sbl lk3 (De.wl g own sc n l)∧De.sbadl lk2 (De.sbl lk1 (De.wl g own sc n l))=false
 | [],_,_,_,_,_,_=>⟨rfl,rfl⟩
 | x::l,own,sc,n,b1,b3,h=>by
  rw[De.wl,De.sbadl,qq4] at b1 b3;rw[De.evl] at h;obtain ⟨i1,i2⟩:=De.sb_sb x own sc n b1.1 b3.1 fun e he=>h e (qq6 _ he)
  obtain ⟨j1,j2⟩:=De.sb_sbl l own sc _ b1.2 b3.2 fun e he=>h e (qq9 _ he)
  rw[De.wl,De.sbl,De.sbl,De.sbl,De.sbadl,i1,i2,j1,j2];exact ⟨rfl,rfl⟩
theorem Sm.sb_sbl:∀(l:List Sm) (sc:Scs) (n:Nat),Sm.sbadl lk1 (Sm.wl g sc n l)=false→Sm.sbadl lk3 (Sm.wl g sc n l)=false→(∀e,e∈Sm.evl sc n l→CmO lk1 lk2 lk3 g e)→Sm.sbl lk2 (Sm.sbl lk1 (Sm.wl g sc n l))=Sm.sbl lk3 (Sm.wl g sc n l)∧Sm.sbadl lk2 (Sm.sbl lk1 (Sm.wl g sc n l))=false
 | [],_,_,_,_,_=>⟨rfl,rfl⟩
 | x::l,sc,n,b1,b3,h=>by
  rw[Sm.wl,Sm.sbadl,qq4] at b1 b3;rw[Sm.evl] at h;obtain ⟨i1,i2⟩:=Sm.sb_sb x sc n b1.1 b3.1 fun e he=>h e (qq6 _ he)
  obtain ⟨j1,j2⟩:=Sm.sb_sbl l sc _ b1.2 b3.2 fun e he=>h e (qq9 _ he)
  rw[Sm.wl,Sm.sbl,Sm.sbl,Sm.sbl,Sm.sbadl,i1,i2,j1,j2];exact ⟨rfl,rfl⟩
theorem Sm.sb_sb1:∀(l:List Sm) (sc:Scs) (n:Nat),Sm.sbadl lk1 (Sm.w1 g sc n l)=false→Sm.sbadl lk3 (Sm.w1 g sc n l)=false→(∀e,e∈Sm.ev1 sc n l→CmO lk1 lk2 lk3 g e)→Sm.sbl lk2 (Sm.sbl lk1 (Sm.w1 g sc n l))=Sm.sbl lk3 (Sm.w1 g sc n l)∧Sm.sbadl lk2 (Sm.sbl lk1 (Sm.w1 g sc n l))=false
 | [],_,_,_,_,_=>⟨rfl,rfl⟩
 | x::l,sc,n,b1,b3,h=>by
  rw[Sm.w1,Sm.sbadl,qq4] at b1 b3;rw[Sm.ev1] at h;obtain ⟨i1,i2⟩:=Sm.sb_sb x _ _ b1.1 b3.1 fun e he=>h e (qq6 _ he)
  obtain ⟨j1,j2⟩:=Sm.sb_sb1 l sc _ b1.2 b3.2 fun e he=>h e (qq9 _ he)
  rw[Sm.w1,Sm.sbl,Sm.sbl,Sm.sbl,Sm.sbadl,i1,i2,j1,j2];exact ⟨rfl,rfl⟩
end
theorem Sm.sb_sb_whole(s:Sm)(b1:(s.whole g).sbad lk1=false)(b3:(s.whole g).sbad lk3=false)(h:∀e,e∈s.evs→CmO lk1 lk2 lk3 g e):((s.whole g).sb lk1).sb lk2=(s.whole g).sb lk3∧((s.whole g).sb lk1).sbad lk2=false:=Sm.sb_sb s _ _ b1 b3 h
end
theorem Ex.vOwn_same{nm:Bz→Bool}{k o n m e:Int}{t t':Bz}{a a':List Ex}(ha:a'.length=a.length)(h1:Ex.named k=true→nm t'=true)(h2:¬ Ex.named k=true→t'=t)
  (v:Ex.vOwn nm (.mk k o n m e t a)=true):Ex.vOwn nm (.mk k o n m e t' a')=true:=by
 by_cases hn:Ex.named k=true
 ·have ht:=h1 hn;have hk:k=6∨k=7∨k=8:=by simpa[Ex.named,or_assoc] using hn
  rcases hk with rfl|rfl|rfl <;> simp[Ex.vOwn] at v <;> simp[Ex.vOwn,ha,ht,v]
 ·rw[h2 hn];simp only[Ex.vOwn] at v ⊢;rw[ha];exact v
theorem Sm.vOwn_same{nm:Bz→Bool}{l l':List Bz}{k:Int}{t t':Bz}{g g' e e':List Ex}{h h':List El}{d d':List De}{b b':List Sm}
  (hl:l'.all nm=true) (hg:g'.all Ex.tgt=true) (lg:g'.length=g.length) (le:e'.length=e.length) (lh:h'.length=h.length) (ld:d'.length=d.length) (lb:b'.length=b.length)
  (h1:k=6→nm t'=true) (h2:k≠6→t'=t) (hb:Sm.noIf b'=Sm.noIf b) (v:Sm.vOwn nm (.mk l k t g e h d b)=true):Sm.vOwn nm (.mk l' k t' g' e' h' d' b')=true:=by
 unfold Sm.vOwn at v ⊢;rw[qq5] at v ⊢;refine ⟨by rw[hl,hg];rfl,?_⟩;have v:=v.2;rw[lg,le,lh,ld,lb,hb];by_cases h6:k=6
 ·have ht:=h1 h6;subst h6;simp at v ⊢;simp[v,ht]
 ·rw[h2 h6];exact v
theorem De.vOwn_same{nm:Bz→Bool}{k:Int}{o:Bool}{t:Int}{n n':List Bz}{e e':List Ex}{f f':List Fo}{b b':List Sm}
  (hn:n'.all nm=true) (ln:n'.length=n.length) (le:e'.length=e.length) (lf:f'.length=f.length) (lb:b'.length=b.length) (hf:k=4→yx nm f []=true→yx nm f' []=true)
  (v:De.vOwn nm (.mk k o t n e f b)=true):De.vOwn nm (.mk k o t n' e' f' b')=true:=by
 unfold De.vOwn at v ⊢;rw[qq5] at v ⊢;refine ⟨hn,?_⟩;have v:=v.2;rw[ln,le,lf,lb];by_cases h4:k=4
 ·have ht:=hf h4;subst h4;simp at v ⊢;simp[v,ht]
 ·simp only[if_neg h4] at v ⊢;exact v
theorem Ex.valid_mk{nm:Bz→Bool}{k o n m e:Int}{t:Bz}{a:List Ex}(h:Ex.vOwn nm (.mk k o n m e t a)=true)(ha:∀x,x∈a→(Pa.ex x).valid nm=true):(Pa.ex (.mk k o n m e t a)).valid nm=true:=
 Pa.valid_iff.2 ⟨h,fun q hq=>by simp only[Pa.kids,qrf] at hq;obtain ⟨x,hx,rfl⟩:=hq;exact ha x hx⟩
theorem Sm.valid_mk{nm:Bz→Bool}{l:List Bz}{k:Int}{t:Bz}{g e:List Ex}{h:List El}{d:List De}{b:List Sm}(v:Sm.vOwn nm (.mk l k t g e h d b)=true)
  (vg:∀x,x∈g→(Pa.ex x).valid nm=true) (ve:∀x,x∈e→(Pa.ex x).valid nm=true) (vh:∀x,x∈h→(Pa.el x).valid nm=true) (vd:∀x,x∈d→(Pa.de x).valid nm=true) (vb:∀x,x∈b→(Pa.st x).valid nm=true):(Pa.st (.mk l k t g e h d b)).valid nm=true:=
 Pa.valid_iff.2 ⟨v,fun q hq=>by
  simp only[Pa.kids,qq0,qrf] at hq;rcases hq with ⟨x,hx,rfl⟩|⟨x,hx,rfl⟩|⟨x,hx,rfl⟩|⟨x,hx,rfl⟩|⟨x,hx,rfl⟩
  ·exact vg x hx
  ·exact ve x hx
  ·exact vh x hx
  ·exact vd x hx
  ·exact vb x hx⟩
theorem De.valid_mk{nm:Bz→Bool}{k:Int}{o:Bool}{t:Int}{n:List Bz}{e:List Ex}{f:List Fo}{b:List Sm}(v:De.vOwn nm (.mk k o t n e f b)=true)
  (ve:∀x,x∈e→(Pa.ex x).valid nm=true) (vb:∀x,x∈b→(Pa.st x).valid nm=true):(Pa.de (.mk k o t n e f b)).valid nm=true:=
 Pa.valid_iff.2 ⟨v,fun q hq=>by
  simp only[Pa.kids,qq0,qrf] at hq;rcases hq with ⟨x,hx,rfl⟩|⟨x,hx,rfl⟩
  ·exact ve x hx
  ·exact vb x hx⟩
theorem El.valid_exps{nm:Bz→Bool}{e:El}(v:(Pa.el e).valid nm=true):∀x,x∈e.exps→(Pa.ex x).valid nm=true:=fun x hx=>(Pa.valid_iff.1 v).2 _ (by simp only[Pa.kids,qrf];exact ⟨x,hx,rfl⟩)
theorem El.valid_mk{nm:Bz→Bool}{e:El}{a:List Ex}(v:(Pa.el e).valid nm=true)(hl:a.length=e.exps.length)(ha:∀x,x∈a→(Pa.ex x).valid nm=true):(Pa.el ⟨e.kind,a⟩).valid nm=true:=
 Pa.valid_iff.2 ⟨by
  have:=(Pa.valid_iff.1 v).1;simp only[Pa.vOwn,El.vOwn] at this ⊢;rw[hl];exact this,fun q hq=>by simp only[Pa.kids,qrf] at hq;obtain ⟨x,hx,rfl⟩:=hq;exact ha x hx⟩
theorem qa7{nm:Bz→Bool}{φ:Fo→Fo}{ψ:Bz→Bz}(hφ:∀x,(φ x).name=ψ x.name∧(φ x).value=x.value∧(φ x).spec=x.spec∧(φ x).type=x.type):∀(l:List Fo) (had:List Bz),
  (∀x,x∈l→nm (ψ x.name)=true)→(∀x y,(x∈had∨x∈l.map Fo.name)→(y∈had∨y∈l.map Fo.name)→ψ x=ψ y→x=y)→yx nm l had=true→yx nm (l.map φ) (had.map ψ)=true
 | [],_,_,_,_=>rfl
 | x::l,had,hn,hi,h=>by
  simp only[qq8,yx,qq5,qsK,List.any_eq_false,decide_eq_true_eq] at h ⊢;obtain ⟨⟨h1,h2⟩,h3⟩:=h;obtain ⟨p1,p2,p3,p4⟩:=hφ x;refine ⟨⟨?_,?_⟩,?_⟩
  ·unfold Fo.vOwn at h1 ⊢;rw[qq5] at h1 ⊢;rw[p1,p2,p3,p4];exact ⟨hn x (by simp),h1.2⟩
  ·intro y hy;obtain ⟨z,hz,rfl⟩:=qrf.1 hy;rw[p1];exact fun he=>h2 z hz (hi z x.name (.inl hz) (.inr (by simp)) he)
  ·have:=qa7 hφ l (had++[x.name]) (fun y hy=>hn y (by simp[hy])) (fun a b ha hb=>hi a b (by simpa[or_assoc] using ha) (by simpa[or_assoc] using hb)) h3;rw[qrg] at this;rw[p1];exact this
set_option linter.unusedSectionVars false
section
variable {nm:Bz→Bool} {f bs:Nat→Bz} (h1:∀j k,f j=f k→bs j=bs k) (hf:∀k,nm (bs k)=true→nm (f k)=true)
include h1 hf
theorem qaw{sc:Scs}(hb:ScB bs sc){x:Bz}(hx:nm x=true):nm (zH f sc x)=true:=by
 unfold zH
 cases h:sc.at x with
 | none=>exact hx
 | some k=>exact hf k (by rw[qfS hb h];exact hx)
theorem qdh{sc:Scs}(hb:ScB bs sc){l:List Bz}(hx:∀x,x∈l→nm x=true):(l.map (zH f sc)).all nm=true:=by
 rw[qri];intro x h;obtain ⟨y,hy,rfl⟩:=qrf.1 h;exact qaw h1 hf hb (hx y hy)
theorem qhY{sc:Scs}(hb:ScB bs sc){x y:Bz}(hx:(sc.at x).isSome=true)(hy:(sc.at y).isSome=true)(h:zH f sc x=zH f sc y):x=y:=by
 unfold zH at h
 cases ha:sc.at x with
 | none=>rw[ha] at hx;cases hx
 | some j=>
  cases hk:sc.at y with
  | none=>rw[hk] at hy;cases hy
  | some k=>
   rw[ha,hk] at h;rw[←qfS hb ha,←qfS hb hk];exact h1 _ _ h
mutual
theorem Ex.w_valid{sc:Scs}(hb:ScB bs sc):∀x:Ex,(Pa.ex x).valid nm=true→(Pa.ex (x.w f sc)).valid nm=true
 | .mk k o n m e t a,v=>by
  rw[Ex.w];refine Ex.valid_mk (Ex.vOwn_same (by rw[Ex.wl_map,qq2]) (fun hn=>?_) (fun hn=>if_neg hn) (Pa.valid_iff.1 v).1) (Ex.wl_valid hb a (Ex.valid_args v));rw[if_pos hn];exact qaw h1 hf hb (Ex.valid_text v hn)
theorem Ex.wl_valid{sc:Scs}(hb:ScB bs sc):∀l:List Ex,(∀x,x∈l→(Pa.ex x).valid nm=true)→∀x,x∈Ex.wl f sc l→(Pa.ex x).valid nm=true
 | [],_,x,h=>by rw[Ex.wl] at h;cases h
 | y::l,v,x,h=>by
  rw[Ex.wl] at h;rcases qrl.1 h with rfl| h
  ·exact Ex.w_valid hb y (v y (by simp))
  ·exact Ex.wl_valid hb l (fun z hz=>v z (by simp[hz])) x h
end
theorem El.w_valid{sc:Scs}(hb:ScB bs sc)(e:El)(v:(Pa.el e).valid nm=true):(Pa.el (e.w f sc)).valid nm=true:=
 El.valid_mk v (by rw[qq2]) (by rw[←Ex.wl_map];exact Ex.wl_valid h1 hf hb e.exps (El.valid_exps v))
omit h1 hf in
theorem Ex.wl_tgt{sc:Scs}:∀l:List Ex,l.all Ex.tgt=true→(Ex.wl f sc l).all Ex.tgt=true
 | [],_=>rfl
 | x::l,h=>by
  simp only[qsY,qq5,Ex.wl] at h ⊢;exact ⟨by cases x;exact h.1,Ex.wl_tgt l h.2⟩
omit h1 hf in
theorem Sm.w_kind(s:Sm)(sc:Scs)(n:Nat):(s.w f sc n).kind=s.kind:=by
 cases s;rw[Sm.w];split
 ·rfl
 ·split <;> rfl
omit h1 hf in
theorem Sm.wl_noIf(l:List Sm)(sc:Scs)(n:Nat):Sm.noIf (Sm.wl f sc n l)=Sm.noIf l:=by
 cases l with
 | nil=>rfl
 | cons x l=>rw[Sm.wl,Sm.noIf,Sm.noIf,Sm.w_kind]
omit h1 hf in
theorem Sm.w1_noIf(l:List Sm)(sc:Scs)(n:Nat):Sm.noIf (Sm.w1 f sc n l)=Sm.noIf l:=by
 cases l with
 | nil=>rfl
 | cons x l=>rw[Sm.w1,Sm.noIf,Sm.noIf,Sm.w_kind]
omit h1 hf in
theorem Sm.tgts{l:List Bz}{k:Int}{t:Bz}{g e:List Ex}{h:List El}{d:List De}{b:List Sm}(v:Sm.vOwn nm (.mk l k t g e h d b)=true):g.all Ex.tgt=true:=by
 unfold Sm.vOwn at v;rw[qq5,qq5] at v;exact v.1.2
omit h1 hf in
theorem yg{α:Type}{P:α→Prop}:∀x,x∈([]:List α)→P x:=fun x h=>by cases h
mutual
theorem Sm.w_valid:∀(s:Sm) (sc:Scs) (n:Nat),ScB bs sc→Agr bs n s.bn→(Pa.st s).valid nm=true→(Pa.st (s.w f sc n)).valid nm=true
 | .mk l k t gs e hh d b,sc,n,hb,ha,v=>by
  obtain ⟨v7,v8,v9⟩:=Sm.valid_block v;have vd:=Sm.valid_decls v;have vb:=Sm.valid_body v;have vo:Sm.vOwn nm (.mk l k t gs e hh d b)=true:=(Pa.valid_iff.1 v).1;have vl:=qdh h1 hf hb (Sm.valid_labels v);simp only[Sm.decls,Sm.body,Sm.labels] at vd vb vl;rw[Sm.bn] at ha;rw[Sm.w];by_cases h7:k=7
  ·obtain ⟨rfl,rfl,rfl⟩:=v7 h7;have h6:¬ k=6:=by omega
   rw[if_pos h7] at ha ⊢;have hd:=ha.fst.snd;have hbb:=ha.snd;rw[qrd,De.bnl_length,qz,←qrF,←qq _ n 0] at hbb;rw[qz,←qq _ n 0] at hd;have hs:=hb.cons ha.fst.fst;exact Sm.valid_mk (Sm.vOwn_same vl rfl rfl rfl rfl (De.wl_len _ _ _ _ _) (Sm.wl_len _ _ _ _) (fun h=>absurd h h6) (fun _=>rfl) (Sm.wl_noIf _ _ _) vo) yg yg yg (De.wl_valid d _ _ _ hs hb hd vd) (Sm.wl_valid b _ _ hs hbb vb)
  ·rw[if_neg h7] at ha ⊢;by_cases h8:k=8
   ·obtain ⟨rfl,rfl,rfl,rfl⟩:=v8 h8;have h6:¬ k=6:=by omega
    rw[if_pos h8] at ha ⊢;have hbb:=ha.snd;rw[qz,←qq _ n 0] at hbb;exact Sm.valid_mk (Sm.vOwn_same vl rfl rfl rfl rfl rfl (Sm.wl_len _ _ _ _) (fun h=>absurd h h6) (fun _=>rfl) (Sm.wl_noIf _ _ _) vo) yg yg yg yg (Sm.wl_valid b _ _ (hb.cons ha.fst) hbb vb)
   ·obtain rfl:=v9 h7 h8;rw[if_neg h8] at ha ⊢;refine Sm.valid_mk (Sm.vOwn_same vl (Ex.wl_tgt gs (Sm.tgts vo)) (by rw[Ex.wl_map,qq2]) (by rw[Ex.wl_map,qq2]) (by rw[qq2]) rfl (Sm.w1_len _ _ _ _) (fun h=>?_) (fun h=>if_neg h) (Sm.w1_noIf _ _ _) vo)
     (Ex.wl_valid h1 hf hb gs (Sm.valid_targets v)) (Ex.wl_valid h1 hf hb e (Sm.valid_exps v)) (fun x hx=>?_) yg (Sm.w1_valid b _ _ hb ha vb)
    ·rw[if_pos h];exact qaw h1 hf hb (Sm.valid_text v h)
    ·obtain ⟨y,hy,rfl⟩:=qrf.1 hx;exact El.w_valid h1 hf hb y (Sm.valid_elems v y hy)
theorem De.w_valid:∀(s:De) (own sc:Scs) (n:Nat),ScB bs own→ScB bs sc→Agr bs n s.bn→(Pa.de s).valid nm=true→(Pa.de (s.w f own sc n)).valid nm=true
 | .mk k o t ns e fo b,own,sc,n,ho,hb,ha,v=>by
  obtain ⟨v4,v5⟩:=De.valid_proc v;have vb:=De.valid_body v;have vo:De.vOwn nm (.mk k o t ns e fo b)=true:=(Pa.valid_iff.1 v).1;have vl:=qdh h1 hf ho (De.valid_names v);have vf:=De.valid_formals v;simp only[De.body,De.names,De.formals] at vb vl vf;rw[De.bn] at ha;rw[De.w];by_cases h4:k=4
  ·obtain rfl:=v4 h4;rw[if_pos h4] at ha ⊢;have hbb:=ha.snd;rw[qz,←qq _ n 0] at hbb;have hs:=ho.cons ha.fst;refine De.valid_mk (De.vOwn_same vl (by rw[qq2]) rfl (by rw[qq2]) (Sm.w1_len _ _ _ _) (fun _ hv=>?_) vo) yg (Sm.w1_valid b _ _ hs hbb vb);have:=qa7 (φ:=Fo.w f (qd (fo.map Fo.name) n::own)) (ψ:=zH f (qd (fo.map Fo.name) n::own)) (fun x=>⟨rfl,rfl,rfl,rfl⟩) fo [] (fun x hx=>qaw h1 hf hs (vf x hx)) (fun x y hx hy he=>?_) hv
   ·exact this
   ·exact qhY h1 hf hs (qjA fo n own x (by simpa using hx)) (qjA fo n own y (by simpa using hy)) he
  ·obtain ⟨rfl,rfl⟩:=v5 h4;rw[if_neg h4];refine De.valid_mk (De.vOwn_same vl (by rw[qq2]) (by rw[Ex.wl_map,qq2]) rfl rfl (fun h=>absurd h h4) vo) (Ex.wl_valid h1 hf (by split <;> assumption) e (De.valid_exps v)) yg
theorem De.wl_valid:∀(l:List De) (own sc:Scs) (n:Nat),ScB bs own→ScB bs sc→Agr bs n (De.bnl l)→(∀x,x∈l→(Pa.de x).valid nm=true)→∀x,x∈De.wl f own sc n l→(Pa.de x).valid nm=true
 | [],_,_,_,_,_,_,_,x,h=>by rw[De.wl] at h;cases h
 | y::l,own,sc,n,ho,hb,ha,v,x,h=>by
  rw[De.bnl] at ha;have h2:=ha.snd;rw[De.bn_length] at h2;rw[De.wl] at h;rcases qrl.1 h with rfl| h
  ·exact De.w_valid y own sc n ho hb ha.fst (v y (by simp))
  ·exact De.wl_valid l own sc _ ho hb h2 (fun z hz=>v z (by simp[hz])) x h
theorem Sm.wl_valid:∀(l:List Sm) (sc:Scs) (n:Nat),ScB bs sc→Agr bs n (Sm.bnl l)→(∀x,x∈l→(Pa.st x).valid nm=true)→∀x,x∈Sm.wl f sc n l→(Pa.st x).valid nm=true
 | [],_,_,_,_,_,x,h=>by rw[Sm.wl] at h;cases h
 | y::l,sc,n,hb,ha,v,x,h=>by
  rw[Sm.bnl] at ha;have h2:=ha.snd;rw[Sm.bn_length] at h2;rw[Sm.wl] at h;rcases qrl.1 h with rfl| h
  ·exact Sm.w_valid y sc n hb ha.fst (v y (by simp))
  ·exact Sm.wl_valid l sc _ hb h2 (fun z hz=>v z (by simp[hz])) x h
theorem Sm.w1_valid:∀(l:List Sm) (sc:Scs) (n:Nat),ScB bs sc→Agr bs n (Sm.bn1 l)→(∀x,x∈l→(Pa.st x).valid nm=true)→∀x,x∈Sm.w1 f sc n l→(Pa.st x).valid nm=true
 | [],_,_,_,_,_,x,h=>by rw[Sm.w1] at h;cases h
 | y::l,sc,n,hb,ha,v,x,h=>by
  rw[Sm.bn1] at ha;have h2:=ha.snd;have h3:=ha.fst.snd;rw[qrd,Sm.bn_length,qz,←qrF,←qq _ n 0] at h2;rw[qz,←qq _ n 0] at h3;have hs:=hb.cons (sc:=sc) ha.fst.fst;rw[Sm.w1] at h;rcases qrl.1 h with rfl| h
  ·exact Sm.w_valid y _ _ hs h3 (v y (by simp))
  ·exact Sm.w1_valid l sc _ hb h2 (fun z hz=>v z (by simp[hz])) x h
end
end
set_option linter.unusedSectionVars false
section
variable {lk:Lk} {g:Nat→Bz} (hg:∀k,lk (g k)=none) {nm:Bz→Bool} (hv:∀x y,lk x=some y→(Pa.ex y).valid nm=true)
include hg hv
theorem qjq{sc:Scs}{t:Bz}(hb:qaM lk sc t=false)(ht:nm t=true):nm (sbT lk sc t)=true:=by
 unfold qaM at hb;unfold sbT
 cases hs:sc.at t with
 | some k=>exact ht
 | none=>
  rw[hs] at hb;simp only at hb ⊢;unfold qaK at hb;unfold sbn
  cases hy:lk t with
  | none=>exact ht
  | some y=>
   rw[hy] at hb;simp only[decide_not,qsU,decide_eq_true_eq] at hb ⊢;exact Ex.valid_text (hv _ _ hy) (by rw[hb];rfl)
mutual
theorem Ex.wr_valid(sc:Scs)(tg:Bool):∀x:Ex,(Pa.ex x).valid nm=true→(x.w g sc).sbad lk tg=false→(Pa.ex (x.wr (sbP lk) sc tg)).valid nm=true∧(tg=true→x.tgt=true→(x.wr (sbP lk) sc tg).tgt=true)
 | .mk k o n m e t a,v,hb=>by
  rw[Ex.w,Ex.sbad,qq4] at hb;have h1:=Ex.wrl_valid sc false a (Ex.valid_args v) hb.1;have hb:=hb.2;have vo:Ex.vOwn nm (.mk k o n m e t a)=true:=(Pa.valid_iff.1 v).1;have hl:(Ex.wrl (sbP lk) sc false a).length=a.length:=by rw[Ex.wrl_map,qq2]
  have same:∀t',(Ex.named k=true→nm t'=true)→(¬ Ex.named k=true→t'=t)→(Pa.ex (.mk k o n m e t' (Ex.wrl (sbP lk) sc false a))).valid nm=true:=fun t' h h'=>Ex.valid_mk (Ex.vOwn_same hl h h' vo) h1.1
  have h2:Ex.wr (sbP lk) sc tg (.mk k o n m e t a)=if Ex.named k=true then (if k=6 then sbX lk sc (.mk k o n m e t (Ex.wrl (sbP lk) sc false a)) else .mk k o n m e (sbT lk sc t) (Ex.wrl (sbP lk) sc false a)) else .mk k o n m e t (Ex.wrl (sbP lk) sc false a):=by
   rw[Ex.wr];rfl
  rw[h2];by_cases h6:k=6
  ·have hn:Ex.named k=true:=by rw[h6];rfl
   have ht:nm t=true:=Ex.valid_text v hn;rw[if_pos hn,if_pos h6];rw[if_pos h6,if_pos hn,qbq hg] at hb;unfold qeN at hb;unfold sbX;simp only[Ex.text]
   cases hs:sc.at t with
   | some j=>exact ⟨same t (fun _=>ht) (fun _=>rfl),fun _ h=>h⟩
   | none=>
    rw[hs] at hb;simp only at hb ⊢;unfold qeK at hb
    cases hy:lk t with
    | none=>exact ⟨same t (fun _=>ht) (fun _=>rfl),fun _ h=>h⟩
    | some y=>
     rw[hy] at hb;refine ⟨hv _ _ hy,fun h _=>?_⟩;subst h;unfold Ex.tgt;simp only[Option.getD_some,decide_eq_true_eq];simp only[qsc,Bool.and_eq_false_iff,decide_not,qsU,decide_eq_true_eq] at hb;exact hb
  ·rw[if_neg h6] at hb;rw[if_neg h6];by_cases hn:Ex.named k=true
   ·have ht:nm t=true:=Ex.valid_text v hn;rw[if_pos hn,hn,qsc,QM hg] at hb;rw[if_pos hn];exact ⟨same _ (fun _=>qjq hg hv hb ht) (fun h=>absurd hn h),fun _ h=>h⟩
   ·rw[if_neg hn];exact ⟨same t (fun h=>absurd h hn) (fun _=>rfl),fun _ h=>h⟩
theorem Ex.wrl_valid(sc:Scs)(tg:Bool):∀l:List Ex,(∀x,x∈l→(Pa.ex x).valid nm=true)→Ex.sbadl lk tg (Ex.wl g sc l)=false→(∀x,x∈Ex.wrl (sbP lk) sc tg l→(Pa.ex x).valid nm=true)∧(tg=true→l.all Ex.tgt=true→(Ex.wrl (sbP lk) sc tg l).all Ex.tgt=true)
 | [],_,_=>⟨fun x h=>(by rw[Ex.wrl] at h;cases h),fun _ _=>rfl⟩
 | y::l,v,hb=>by
  rw[Ex.wl,Ex.sbadl,qq4] at hb;have h1:=Ex.wr_valid sc tg y (v y (by simp)) hb.1;have h2:=Ex.wrl_valid sc tg l (fun z hz=>v z (by simp[hz])) hb.2;rw[Ex.wrl];refine ⟨fun x h=>?_,fun ht h=>?_⟩
  ·rcases qrl.1 h with rfl| h
   ·exact h1.1
   ·exact h2.1 x h
  ·rw[qsY,qq5] at h ⊢;exact ⟨h1.2 ht h.1,h2.2 ht h.2⟩
end
theorem Els.wr_valid(sc:Scs):∀l:List El,(∀x,x∈l→(Pa.el x).valid nm=true)→El.sbadl lk (l.map (El.w g sc))=false→∀x,x∈l.map (El.wr (sbP lk) sc)→(Pa.el x).valid nm=true
 | [],_,_,x,h=>by cases h
 | y::l,v,hb,x,h=>by
  rw[qq8,El.sbadl,qq4] at hb;have hx:(El.w g sc y).exps=Ex.wl g sc y.exps:=by unfold El.w;rw[Ex.wl_map]
  rw[hx] at hb;rw[qq8] at h;rcases qrl.1 h with rfl| h
  ·exact El.valid_mk (v y (by simp)) (by rw[Ex.wrl_map,qq2]) (Ex.wrl_valid hg hv sc false y.exps (El.valid_exps (v y (by simp))) hb.1).1
  ·exact Els.wr_valid sc l (fun z hz=>v z (by simp[hz])) hb.2 x h
omit hg hv in
theorem Sm.wr_kind{p:Pw}(s:Sm)(sc:Scs)(n:Nat):(s.wr p sc n).kind=s.kind:=by
 cases s;rw[Sm.wr];split
 ·rfl
 ·split <;> rfl
omit hg hv in
theorem Sm.wrl_noIf{p:Pw}(l:List Sm)(sc:Scs)(n:Nat):Sm.noIf (Sm.wrl p sc n l)=Sm.noIf l:=by
 cases l with
 | nil=>rfl
 | cons x l=>rw[Sm.wrl,Sm.noIf,Sm.noIf,Sm.wr_kind]
omit hg hv in
theorem Sm.wr1_noIf{p:Pw}(l:List Sm)(sc:Scs)(n:Nat):Sm.noIf (Sm.wr1 p sc n l)=Sm.noIf l:=by
 cases l with
 | nil=>rfl
 | cons x l=>rw[Sm.wr1,Sm.noIf,Sm.noIf,Sm.wr_kind]
mutual
theorem Sm.wr_valid:∀(s:Sm) (sc:Scs) (n:Nat),(Pa.st s).valid nm=true→(s.w g sc n).sbad lk=false→(Pa.st (s.wr (sbP lk) sc n)).valid nm=true
 | .mk l k t gs e hh d b,sc,n,v,hb=>by
  obtain ⟨v7,v8,v9⟩:=Sm.valid_block v;have vd:=Sm.valid_decls v;have vb:=Sm.valid_body v;have vo:Sm.vOwn nm (.mk l k t gs e hh d b)=true:=(Pa.valid_iff.1 v).1;have vl:l.all nm=true:=qri.2 (Sm.valid_labels v);simp only[Sm.decls,Sm.body] at vd vb;rw[Sm.w] at hb;rw[Sm.wr];by_cases h7:k=7
  ·obtain ⟨rfl,rfl,rfl⟩:=v7 h7;have h6:¬ k=6:=by omega
   rw[if_pos h7,Sm.sbad] at hb;simp only[qq4] at hb;rw[if_pos h7,qL Jm,Ex.wrl];exact Sm.valid_mk (Sm.vOwn_same vl rfl rfl rfl rfl (De.wrl_len _ _ _ _) (Sm.wrl_len _ _ _) (fun h=>absurd h h6) (fun _=>rfl) (Sm.wrl_noIf _ _ _) vo) yg yg yg (De.wrl_valid d _ _ _ vd hb.1.1.2) (Sm.wrl_valid b _ _ vb hb.1.2)
  ·by_cases h8:k=8
   ·obtain ⟨rfl,rfl,rfl,rfl⟩:=v8 h8;have h6:¬ k=6:=by omega
    rw[if_neg h7,if_pos h8,Sm.sbad] at hb;simp only[qq4] at hb;rw[if_neg h7,if_pos h8,qL Jm,Ex.wrl];exact Sm.valid_mk (Sm.vOwn_same vl rfl rfl rfl rfl rfl (Sm.wrl_len _ _ _) (fun h=>absurd h h6) (fun _=>rfl) (Sm.wrl_noIf _ _ _) vo) yg yg yg yg (Sm.wrl_valid b _ _ vb hb.1.2)
   ·obtain rfl:=v9 h7 h8;rw[if_neg h7,if_neg h8,Sm.sbad] at hb;simp only[qq4] at hb;obtain ⟨⟨⟨⟨⟨b1,b2⟩,b3⟩,_⟩,b5⟩,b6⟩:=hb;have hgs:=Ex.wrl_valid hg hv sc true gs (Sm.valid_targets v) b1;rw[if_neg h7,if_neg h8,qL Jm,qfA];refine Sm.valid_mk (Sm.vOwn_same vl (hgs.2 rfl (Sm.tgts vo)) (by rw[Ex.wrl_map,qq2]) (by rw[Ex.wrl_map,qq2]) (by rw[qq2]) rfl (Sm.wr1_len _ _ _) (fun h=>?_) (fun h=>if_neg h) (Sm.wr1_noIf _ _ _) vo)
     hgs.1 (Ex.wrl_valid hg hv sc false e (Sm.valid_exps v) b2).1 (Els.wr_valid hg hv sc hh (Sm.valid_elems v) b3) yg (Sm.wr1_valid b _ _ vb b5)
    rw[if_pos h] at b6 ⊢;rw[decide_eq_true h,qsc,QM hg] at b6;exact qjq hg hv b6 (Sm.valid_text v h)
theorem De.wr_valid:∀(s:De) (own sc:Scs) (n:Nat),(Pa.de s).valid nm=true→(s.w g own sc n).sbad lk=false→(Pa.de (s.wr (sbP lk) own sc n)).valid nm=true
 | .mk k o t ns e fo b,own,sc,n,v,hb=>by
  obtain ⟨v4,v5⟩:=De.valid_proc v;have vb:=De.valid_body v;have vo:De.vOwn nm (.mk k o t ns e fo b)=true:=(Pa.valid_iff.1 v).1;have vl:ns.all nm=true:=qri.2 (De.valid_names v);simp only[De.body] at vb;rw[De.w] at hb;rw[De.wr];by_cases h4:k=4
  ·obtain rfl:=v4 h4;rw[if_pos h4,De.sbad,qq4] at hb;rw[if_pos h4,qL Jm,Fo.wr_id Jm,Ex.wrl];exact De.valid_mk (De.vOwn_same vl rfl rfl rfl (Sm.wr1_len _ _ _) (fun _ hv=>hv) vo) yg (Sm.wr1_valid b _ _ vb hb.2)
  ·obtain ⟨rfl,rfl⟩:=v5 h4;rw[if_neg h4,De.sbad,qq4] at hb;rw[if_neg h4,qL Jm];exact De.valid_mk (De.vOwn_same vl rfl (by rw[Ex.wrl_map,qq2]) rfl rfl (fun h=>absurd h h4) vo) (Ex.wrl_valid hg hv _ false e (De.valid_exps v) hb.1).1 yg
theorem De.wrl_valid:∀(l:List De) (own sc:Scs) (n:Nat),(∀x,x∈l→(Pa.de x).valid nm=true)→De.sbadl lk (De.wl g own sc n l)=false→∀x,x∈De.wrl (sbP lk) own sc n l→(Pa.de x).valid nm=true
 | [],_,_,_,_,_,x,h=>by rw[De.wrl] at h;cases h
 | y::l,own,sc,n,v,hb,x,h=>by
  rw[De.wl,De.sbadl,qq4] at hb;rw[De.wrl] at h;rcases qrl.1 h with rfl| h
  ·exact De.wr_valid y own sc n (v y (by simp)) hb.1
  ·exact De.wrl_valid l own sc _ (fun z hz=>v z (by simp[hz])) hb.2 x h
theorem Sm.wrl_valid:∀(l:List Sm) (sc:Scs) (n:Nat),(∀x,x∈l→(Pa.st x).valid nm=true)→Sm.sbadl lk (Sm.wl g sc n l)=false→∀x,x∈Sm.wrl (sbP lk) sc n l→(Pa.st x).valid nm=true
 | [],_,_,_,_,x,h=>by rw[Sm.wrl] at h;cases h
 | y::l,sc,n,v,hb,x,h=>by
  rw[Sm.wl,Sm.sbadl,qq4] at hb;rw[Sm.wrl] at h;rcases qrl.1 h with rfl| h
  ·exact Sm.wr_valid y sc n (v y (by simp)) hb.1
  ·exact Sm.wrl_valid l sc _ (fun z hz=>v z (by simp[hz])) hb.2 x h
theorem Sm.wr1_valid:∀(l:List Sm) (sc:Scs) (n:Nat),(∀x,x∈l→(Pa.st x).valid nm=true)→Sm.sbadl lk (Sm.w1 g sc n l)=false→∀x,x∈Sm.wr1 (sbP lk) sc n l→(Pa.st x).valid nm=true
 | [],_,_,_,_,x,h=>by rw[Sm.wr1] at h;cases h
 | y::l,sc,n,v,hb,x,h=>by
  rw[Sm.w1,Sm.sbadl,qq4] at hb;rw[Sm.wr1] at h;rcases qrl.1 h with rfl| h
  ·exact Sm.wr_valid y _ _ (v y (by simp)) hb.1
  ·exact Sm.wr1_valid l sc _ (fun z hz=>v z (by simp[hz])) hb.2 x h
end
theorem Sm.wholeR_valid(s:Sm)(v:(Pa.st s).valid nm=true)(hb:(s.whole g).sbad lk=false):(Pa.st (s.wholeR (sbP lk))).valid nm=true:=Sm.wr_valid hg hv s _ _ v hb
end
end Go.Proofs.YtbifpocccfkhhaaGreatDoor
end
