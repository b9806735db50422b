/- A part of it. -/
import Derived.Test.YtbifpocccfkhhaaGreatDoorKm
set_option linter.all false
noncomputable section
namespace Go.Proofs.YtbifpocccfkhhaaGreatDoor
open Go Go.Proofs.Tryz
theorem qtf(c:Cb)(ok:c.Ok)(w:Nat)(s:Sm)(hs:s.ok)(hsz:(Pa.st s).size≤4000)(h:c.H)(F D:Nat→Prop)(S:St)(hk:Wk c w 0 h F D S)(hn:Sm.nb1 [s]≤100000):
  Spec prog 62 [.ptr w 0 0 1,s.v] S (fun r U=>Wd c w (Sm.nb1 [s]) (s.wholeH c.toPw h) F D S (s.wholeR c.toPw).v r U):=by
 refine Spec.intro func62 ok62 (by simp[c62]) ?_;obtain ⟨S1,hS1⟩:∃S1:St,S1=S++[.arr [s.v] 8 1,.arr [smZ] 8 1]:=⟨_,rfl⟩;have b0:S1[S.length]?=some (.arr [s.v] 8 1):=by rw[hS1,qtC (by omega)];simp
 have b1:S1[S.length+1]?=some (.arr [smZ] 8 1):=by rw[hS1,qtC (by omega)];simp
 have k1:Wk c w 0 h F D S1:=by rw[hS1];exact hk.push ok _
 have s1:Stp w F D S F D S1:=by rw[hS1];exact (Stp.refl _ _ _ _).push _
 have hf:=Sm.fits1 s;simp[c62,boxS,ldS,qac,Sm.fits1];rw[←hS1];have q:=qeD c ok w [s] true (fun x hx=>by simp at hx;subst hx;exact qiD c ok w 4000 x hsz (by omega) hs) (by simp) (fun x hx=>by simp at hx;subst hx;exact hs) 0 h F D S1 .nilp [] k1 rfl (by omega);simp only[qtW,quG,quJ] at q;refine qan q ?_;rintro r U ⟨rfl,F2,D2,k2,s2⟩;have o1:Off w F D (S.length+1):=hk.out ok (by omega);have l1:S.length+1<S1.length:=glt b1;have c1:=s2.at o1 b1;have p1:=o1.next l1 s2;have he:Sm.wr1 c.toPw (Scx []) 0 [s]=[s.wholeR c.toPw]:=by simp only[Sm.wr1,Sm.wholeR,Scx,quG,quJ]
 have he2:Sm.hs1 c.toPw (Scx []) 0 h [s]=s.wholeH c.toPw h:=by simp only[Sm.hs1,Sm.wholeH,Scx,quG,quJ]
 rw[he2] at k2;rw[he];simp only[qtW,quG];have hia:iaS U 8 (.sl false [(s.wholeR c.toPw).v]) 0=some (.iptr (s.wholeR c.toPw).v 0):=by simp[iaS]
 simp[hia,ldS,stS,c1,qac];have hz:(U.set (S.length+1) (.arr [(s.wholeR c.toPw).v] 8 1))[S.length+1]?=some (.arr [(s.wholeR c.toPw).v] 8 1):=qtE (glt c1);exact qaj (vs:=[(s.wholeR c.toPw).v]) (by simp[rvs,ldS,hz]) ⟨rfl,F2,D2,k2.set ok _ p1.1 p1.2.1 p1.2.2,(s1.trans s2).set _ (by omega)⟩
def numF(k:Nat):ByteArray:=⟨⟨[35]⟩⟩++⟨(dig k).toArray⟩
theorem qcF:∀(m n:Nat),n≤m→(dig n).length≤n+1
 | 0,n,h=>by rw[qbN (by omega)];simp
 | m+1,n,h=>by
  by_cases hn:n<10
  ·rw[qbN hn];simp
  ·rw[qdx hn,qtZ];have:=qcF m (n / 10) (by omega);simp only[que,qu2];omega
theorem qql(p k:Nat)(x y:ByteArray)(hk:k≤100000)(U:St)(hp:U[p]?=some (plc x k y)):Spec prog 128 [.ptr p 0 0 1] U (fun _ U'=>U'=U.set p (plc x k (numF k))):=by
 refine Spec.intro func128 ok128 (by simp[c128]) ?_;unfold plc at hp ⊢;simp[c128,qbd,ldS,hp];refine qan (qpi k (by omega) U) ?_;rintro r U2 ⟨rfl,rfl⟩
 have hs:strV .add ⟨⟨[35]⟩⟩ ⟨(dig k).toArray⟩=some (.str (numF k)):=by
  have:=qcF k k (qtH _);unfold strV numF;rw[if_pos];show (((⟨⟨[35]⟩⟩:ByteArray).size+(⟨(dig k).toArray⟩:ByteArray).size:Nat):Int)≤9223372036854775807;have h1:(⟨⟨[35]⟩⟩:ByteArray).size=1:=rfl;have h2:(⟨(dig k).toArray⟩:ByteArray).size=(dig k).length:=by simp[ByteArray.size]
  omega
 simp[qbd,stS,hp,qac,hs];exact qaN rfl rfl
def nuP(f:Nat→ByteArray):Pw where
 H:=Unit
 f k _:=f k
 nm:=none
 cl:=none
 ent _ _ _:=()
 nmH _ _ _ _:=()
 clH _ _ _:=()
def nuC:Cb where
 toPw:=nuP numF
 fe:=.fn (.func 128) [] []
 fn:=.nilfn
 fc:=.nilfn
 I _ F D _:=∀l,¬ F l∧¬ D l
theorem qs2:nuC.Ok where
 lt hI l hl:=hl.elim (fun hf=>absurd hf (hI l).1) fun hd=>absurd hd (hI l).2
 fr hI _ _:=hI
 lp hI l _ _:=hI l
 real {h F D S} hI h':=⟨F,D,S,hI,Kp.refl _ _,grow.refl _ _,grow.refl _ _⟩
 en:=.inr ⟨128,[],rfl,fun U p k x h F D hp hF hD hk hI=>by
  refine Spec.mono (qql p k x x hk U hp) fun v U' hU=>?_
  subst hU;exact ⟨F,D,hI,qtE (qtB.1 hp).1,(Kp.refl _ _).set _ (.inl (.inl rfl)),fun _ h=>h,fun _ h=>.inl h⟩⟩
 nm:=rfl
 cl:=rfl
theorem qoX(s:Sm)(hs:s.ok)(hsz:(Pa.st s).size≤4000)(hn:Sm.nb1 [s]≤100000)(S:St):Spec prog 70 [s.v] S (fun r U=>r=(s.wholeR (nuP numF)).v∧Kp (fun _=>False) S U):=by
 refine Spec.intro func70 ok70 (by simp[c70]) ?_;simp[c70,boxS,ldS,qac,qal,qah];obtain ⟨S1,hS1⟩:∃S1:St,S1=S++[.arr [s.v] 8 1,.arr [smZ] 8 1,.arr [.agg [.int .i64 0,.fn (.func 128) [] [],.nilfn,.nilfn]] 4 1]:=⟨_,rfl⟩;rw[←hS1];have b1:S1[S.length+1]?=some (.arr [smZ] 8 1):=by rw[hS1,qtC (by omega)];simp
 have b2:S1[S.length+2]?=some (wkr nuC 0):=by rw[hS1,qtC (by omega)];simp[wkr,nuC]
 have l1:S1.length=S.length+3:=by rw[hS1];simp
 have kS:Kp (fun _=>False) S S1:=by rw[hS1];exact (Kp.refl _ _).push _
 refine qan (qtf nuC qs2 (S.length+2) s hs hsz () (fun _=>False) (fun _=>False) S1 ⟨b2,fun _=>⟨id,id⟩,id,id⟩ hn) ?_;rintro r U ⟨rfl,F2,D2,k2,s2⟩;have c1:=s2.k.at b1 (by rintro (hh|hh);omega;exact hh);simp[stS,c1,qac];have hz:(U.set (S.length+1) (.arr [(s.wholeR nuC.toPw).v] 8 1))[S.length+1]?=some (.arr [(s.wholeR nuC.toPw).v] 8 1):=qtE (glt c1);refine qaj (vs:=[(s.wholeR nuC.toPw).v]) (by simp[rvs,ldS,hz]) ⟨rfl,Kp.set ⟨quF kS.len s2.k.len,fun l hl hn=>?_⟩ _ (.inr (by omega))⟩;rw[s2.k.get l (by omega) (by rintro (hh|hh);omega;exact hh)];exact kS.get l hl hn
theorem qmz(a b:Sm):qal (V.agg [V.sl true [],V.int IntKind.i64 0,V.str ⟨⟨[]⟩⟩,V.sl true [],V.sl true [],V.sl true [],V.sl true [],V.sl true [],V.sl true [],V.int IntKind.i64 0,V.str ⟨⟨[]⟩⟩,V.sl true [],V.sl true [],V.sl true [],V.sl true [],V.sl true []]) [(0,8,a.v),(8,8,b.v)]=some (.agg (a.v.cells++b.v.cells)):=by
 simp[qal,qac]
theorem qn2(a b:Sm)(i:Nat)(hi:i<2):V.part (.agg (a.v.cells++b.v.cells)) (i * 8) (some 8)=some (if i=0 then a.v else b.v):=by
 have h:i=0∨i=1:=by omega
 rcases h with rfl|rfl
 ·rw[qaf,Sm.v_cells,Sm.v_cells,Sm.v_eq a];simp
 ·rw[qaf,Sm.v_cells,Sm.v_cells,Sm.v_eq b];simp
open Classical in
theorem qsa(a b:Sm)(ha:a.ok)(hb:b.ok)(za:(Pa.st a).size≤4000)(zb:(Pa.st b).size≤4000)(hn:Sm.nb1 [a]≤100000)(hm:Sm.nb1 [b]≤100000)(na:(Pa.st a).err qab=0→(a.wholeR (nuP numF)).ok)(S:St):
  Spec prog 24 [a.v,b.v] S (fun r U=>r=.tup [.bool (decide ((Pa.st a).err qab=0∧(Pa.st b).err qab=0∧a.wholeR (nuP numF)=b.wholeR (nuP numF))),.int .i64 (if (Pa.st a).err qab=0 then (Pa.st b).err qab else (Pa.st a).err qab)]∧Kp (fun _=>False) S U):=by
 refine Spec.intro func24 ok24 (by simp[c24]) ?_;obtain ⟨S1,hS1⟩:∃S1:St,S1=S++[.arr [a.v] 8 1,.arr [b.v] 8 1]:=⟨_,rfl⟩;have b0:S1[S.length]?=some (.arr [a.v] 8 1):=by rw[hS1,qtC (by omega)];simp
 have b1:S1[S.length+1]?=some (.arr [b.v] 8 1):=by rw[hS1,qtC (by omega)];simp
 have kS:Kp (fun _=>False) S S1:=by rw[hS1];exact (Kp.refl _ _).push _
 simp[c24,boxS,ldS,qah];rw[qmz];rw[←hS1];obtain ⟨ab,hab⟩:∃ab,ab=V.agg (a.v.cells++b.v.cells):=⟨_,rfl⟩;have hagg:ab.isAgg=true:=by rw[hab];rfl
 rw[←hab];simp;refine qaC (fun e U=>(Pa.st a).err qab=0∧(Pa.st b).err qab=0∧Kp (fun _=>False) S1 U∧e.get 2=some (.ptr S.length 0 0 1)∧e.get 3=some (.ptr (S.length+1) 0 0 1)) ?_ ?_
 ·refine qap (fun j e U=>∃i:Nat,j=2 - i∧i≤2∧(1≤i→(Pa.st a).err qab=0)∧(2≤i→(Pa.st b).err qab=0)∧Kp (fun _=>False) S1 U∧
   e=[(12,.int .i64 i),(11,ab),(2,.ptr S.length 0 0 1),(3,.ptr (S.length+1) 0 0 1)]) 2 _ ?_ ⟨0,by simp,by omega,by omega,by omega,Kp.refl _ _,rfl⟩ ?_
  ·exact Env.so (by simp)
  rintro j e U ⟨i,rfl,hi,h1,h2,hk,rfl⟩;by_cases hlt:i<2
  ·have hp:=qn2 a b i hlt;obtain ⟨y,hy⟩:∃y:Sm,y=if i=0 then a else b:=⟨_,rfl⟩
   rw[←hab] at hp;have hyv:(if i=0 then a.v else b.v)=y.v:=by rw[hy];split <;> rfl
   rw[hyv] at hp;have hyo:y.ok:=by rw[hy];split <;> assumption
   have hi2:(i:Int)<2:=by omega
   simp[hi2,evX,hp,hagg,boxS,stS,qac,ldS];refine qag (qsY y hyo _) ?_;by_cases he:(Pa.st y).err qab=0
   ·simp[he,qaK (n:=(i:Int)+1)];refine ⟨_,?_,_,?_,i+1,rfl,by omega,fun hh=>?_,fun hh=>?_,hk.push _,rfl⟩
    ·omega
    ·exact Env.so (by simp)
    ·by_cases h0:i=0
     ·rw[if_pos h0] at hy;rw[←hy];exact he
     ·exact h1 (by omega)
    ·rw[if_neg (by omega)] at hy;rw[←hy];exact he
   ·simp[he,qeQ];refine qaj rfl ?_;refine ⟨?_,(kS.trans hk).push _⟩;by_cases h0:i=0
    ·rw[if_pos h0] at hy;rw[hy] at he ⊢;simp[retV,he]
    ·rw[if_neg h0] at hy;rw[hy] at he ⊢;simp[retV,he,h1 (by omega)]
  ·have:i=2:=by omega
   subst this;simp;exact ⟨h1 (by omega),h2 (by omega),hk⟩
 rintro e U ⟨h1,h2,hk,g2,g3⟩;have c0:=hk.at b0 id;have c1:=hk.at b1 id;simp[g2,g3,ldS,c0];refine qbE (qoX a ha za hn U) ⟨_,U,rfl,Kp.refl _ _⟩ ?_;rintro r U2 ⟨rfl,k2⟩;have d0:=k2.at c0 id;have d1:=k2.at c1 id;simp[Sm.fits1,g3,ldS,d1];refine qbE (qoX b hb zb hm U2) ⟨_,U2,rfl,Kp.refl _ _⟩ ?_;rintro r U3 ⟨rfl,k3⟩;have q:=qsC [a.wholeR (nuP numF)] [b.wholeR (nuP numF)] (by unfold B50;simp) ⟨na h1,trivial⟩ U3;simp only[qtW,quG] at q
 have q':Fn prog 69 [.sl true [(a.wholeR (nuP numF)).v],.sl true [(b.wholeR (nuP numF)).v]] U3 (.bool (decide ([a.wholeR (nuP numF)]=[b.wholeR (nuP numF)]))):=by
  refine Spec.weakA ?_;simp only[V.weakL,V.weak,Sm.v_weak];exact q
 simp[Sm.fits1];refine qa6 q' ?_;simp[dend,qbe,qbj,ldS,g3,c1,d1];exact qaj rfl ⟨by simp[retV,h1,h2],(kS.trans hk).trans (k2.trans k3)⟩
structure Rp where
 fresh:List ByteArray
 fro:List ByteArray
 to:List Ex
structure Rst where
 free:List ByteArray
 bad:Bool
 caught:Bool
def Scs.flat:Scs→Sco
 | []=>[]
 | s::r=>Scs.flat r++s
def mtL:List ByteArray→List Ex→ByteArray→Option Ex
 | f::fs,e::es,x=>if f=x then some e else mtL fs es x
 | _,_,_=>none
def mt(r:Rp)(x:ByteArray):Option Ex:=mtL r.fro r.to x
def rren(r:Rp)(sc:Scs)(x:ByteArray):ByteArray:=match sc.at x with
 | some k=>(r.fresh[k]?).getD x
 | none=>x
def ruse(r:Rp)(sc:Scs)(x:ByteArray)(st:Rst):Rst:=match sc.at x with
 | some _=>st
 | none=>{ free:=st.free++[x],bad:=st.bad,caught:=st.caught || (match mt r x with
  | some e=>decide (e.kind=6) && (Scs.flat sc).any fun p=>decide (p.1=e.text)
  | none=>false) }
def rmt(r:Rp)(sc:Scs)(x:ByteArray):Option Ex:=match sc.at x with
 | some _=>none
 | none=>mt r x
def qcd(r:Rp)(sc:Scs)(x:ByteArray):ByteArray:=match rmt r sc x with
 | some e=>if e.kind=6 then e.text else x
 | none=>rren r sc x
def qbA(r:Rp)(sc:Scs)(x:ByteArray)(st:Rst):Rst:={ ruse r sc x st with bad:=(ruse r sc x st).bad || (match rmt r sc x with
 | some e=>!decide (e.kind=6)
 | none=>false) }
mutual
def Ex.rw(r:Rp)(sc:Scs):Ex→Ex
 | .mk k o n m e t a=>if k=6 then (match rmt r sc t with
   | some x=>x
   | none=>.mk 6 0 0 0 0 (rren r sc t) [])
  else .mk k o n m e (if k=7∨k=8 then qcd r sc t else t) (Ex.rwl r sc a)
def Ex.rwl(r:Rp)(sc:Scs):List Ex→List Ex
 | []=>[]
 | x::l=>Ex.rw r sc x::Ex.rwl r sc l
end
theorem Ex.rwl_map(r:Rp)(sc:Scs):∀l,Ex.rwl r sc l=l.map (Ex.rw r sc)
 | []=>rfl
 | x::l=>by rw[Ex.rwl,Ex.rwl_map r sc l];rfl
mutual
def Ex.rs(r:Rp)(sc:Scs)(st:Rst):Ex→Rst
 | .mk k _ _ _ _ t a=>if k=6 then ruse r sc t st else Ex.rsl r sc (if k=7∨k=8 then qbA r sc t st else st) a
def Ex.rsl(r:Rp)(sc:Scs)(st:Rst):List Ex→Rst
 | []=>st
 | x::l=>Ex.rsl r sc (Ex.rs r sc st x) l
end
theorem Ex.rsl_append(r:Rp)(sc:Scs):∀(l m:List Ex) (st:Rst),Ex.rsl r sc st (l++m)=Ex.rsl r sc (Ex.rsl r sc st l) m
 | [],m,h=>rfl
 | x::l,m,h=>by simp only[qtO,Ex.rsl];exact Ex.rsl_append r sc l m _
def qeY(l:List Ex):Bool:=l.any fun x=>decide (x.kind≠6) && decide (x.kind≠7)
def El.rw(r:Rp)(sc:Scs)(e:El):El:=⟨e.kind,Ex.rwl r sc e.exps⟩
def El.rsl(r:Rp)(sc:Scs)(st:Rst)(l:List El):Rst:=l.foldl (fun st e=>Ex.rsl r sc st e.exps) st
def Fo.rw(r:Rp)(sc:Scs)(x:Fo):Fo:=⟨rren r sc x.name,x.value,x.spec,x.type⟩
def tgS(r:Rp)(sc:Scs)(st:Rst)(l:List Ex):Rst:={ Ex.rsl r sc st l with bad:=(Ex.rsl r sc st l).bad || qeY (Ex.rwl r sc l) }
mutual
def Sm.rw(r:Rp)(sc:Scs)(n:Nat):Sm→Sm
 | .mk l k t g e h d b=>
  if k=7 then
   .mk (l.map (rren r sc)) k t g e h (De.rwl r (qae (qai d b) n::sc) sc (n+(qae (qai d b) n).length) d) (Sm.rwl r (qae (qai d b) n::sc) (n+(qae (qai d b) n).length+De.nbl d) b)
  else if k=8 then
   .mk (l.map (rren r sc)) k t g e h d (Sm.rwl r (qae (qak b) n::sc) (n+(qae (qak b) n).length) b)
  else .mk (l.map (rren r sc)) k (if k=6 then qcd r sc t else t) (Ex.rwl r sc g) (Ex.rwl r sc e) (h.map (El.rw r sc)) d (Sm.rw1 r sc n b)
def De.rw(r:Rp)(own sc:Scs)(n:Nat):De→De
 | .mk k o t nm e fo b=>
  if k=4 then .mk k o t (nm.map (rren r own)) (Ex.rwl r own e) (fo.map (Fo.rw r (qae (fo.map Fo.name) n::own))) (Sm.rw1 r (qae (fo.map Fo.name) n::own) (n+(qae (fo.map Fo.name) n).length) b)
  else .mk k o t (nm.map (rren r own)) (Ex.rwl r (if k=2 then sc else own) e) fo b
def De.rwl(r:Rp)(own sc:Scs)(n:Nat):List De→List De
 | []=>[]
 | x::l=>De.rw r own sc n x::De.rwl r own sc (n+De.nb x) l
def Sm.rwl(r:Rp)(sc:Scs)(n:Nat):List Sm→List Sm
 | []=>[]
 | x::l=>Sm.rw r sc n x::Sm.rwl r sc (n+Sm.nb x) l
def Sm.rw1(r:Rp)(sc:Scs)(n:Nat):List Sm→List Sm
 | []=>[]
 | x::l=>Sm.rw r (qae x.labels n::sc) (n+(qae x.labels n).length) x::Sm.rw1 r sc (n+(qae x.labels n).length+Sm.nb x) l
end
mutual
def Sm.rs(r:Rp)(sc:Scs)(n:Nat)(st:Rst):Sm→Rst
 | .mk _ k t g e h d b=>
  if k=7 then Sm.rsl r (qae (qai d b) n::sc) (n+(qae (qai d b) n).length+De.nbl d) (De.rsl r (qae (qai d b) n::sc) sc (n+(qae (qai d b) n).length) st d) b
  else if k=8 then Sm.rsl r (qae (qak b) n::sc) (n+(qae (qak b) n).length) st b
  else Sm.rs1 r sc n (Ex.rsl r sc (El.rsl r sc (tgS r sc (if k=6 then qbA r sc t st else st) g) h) e) b
def De.rs(r:Rp)(own sc:Scs)(n:Nat)(st:Rst):De→Rst
 | .mk k _ _ _ e fo b=>
  if k=4 then Sm.rs1 r (qae (fo.map Fo.name) n::own) (n+(qae (fo.map Fo.name) n).length) (Ex.rsl r own st e) b
  else Ex.rsl r (if k=2 then sc else own) st e
def De.rsl(r:Rp)(own sc:Scs)(n:Nat)(st:Rst):List De→Rst
 | []=>st
 | x::l=>De.rsl r own sc (n+De.nb x) (De.rs r own sc n st x) l
def Sm.rsl(r:Rp)(sc:Scs)(n:Nat)(st:Rst):List Sm→Rst
 | []=>st
 | x::l=>Sm.rsl r sc (n+Sm.nb x) (Sm.rs r sc n st x) l
def Sm.rs1(r:Rp)(sc:Scs)(n:Nat)(st:Rst):List Sm→Rst
 | []=>st
 | x::l=>Sm.rs1 r sc (n+(qae x.labels n).length+Sm.nb x) (Sm.rs r (qae x.labels n::sc) (n+(qae x.labels n).length) st x) l
end
def nms(l:List ByteArray):List ByteArray:=(qae l 0).map (·.1)
mutual
def Sm.bn:Sm→List ByteArray
 | .mk _ k _ _ _ _ d b=>if k=7 then nms (qai d b)++De.bnl d++Sm.bnl b else if k=8 then nms (qak b)++Sm.bnl b else Sm.bn1 b
def De.bn:De→List ByteArray
 | .mk k _ _ _ _ f b=>if k=4 then nms (f.map Fo.name)++Sm.bn1 b else []
def De.bnl:List De→List ByteArray
 | []=>[]
 | x::l=>De.bn x++De.bnl l
def Sm.bnl:List Sm→List ByteArray
 | []=>[]
 | x::l=>Sm.bn x++Sm.bnl l
def Sm.bn1:List Sm→List ByteArray
 | []=>[]
 | x::l=>nms x.labels++Sm.bn x++Sm.bn1 l
end
theorem qcL(l:List ByteArray):(nms l).length=(qae l 0).length:=qtN _
mutual
theorem Sm.bn_length:∀s:Sm,s.bn.length=s.nb
 | .mk _ k _ _ _ _ d b=>by
  simp only[Sm.bn,Sm.nb];split
  ·rw[qtZ,qtZ,qcL,De.bnl_length d,Sm.bnl_length b]
  ·split
   ·rw[qtZ,qcL,Sm.bnl_length b]
   ·exact Sm.bn1_length b
theorem De.bn_length:∀s:De,s.bn.length=s.nb
 | .mk k _ _ _ _ f b=>by
  simp only[De.bn,De.nb];split
  ·rw[qtZ,qcL,Sm.bn1_length b]
  ·rfl
theorem De.bnl_length:∀s:List De,(De.bnl s).length=De.nbl s
 | []=>rfl
 | x::l=>by simp only[De.bnl,De.nbl,qtZ,De.bn_length x,De.bnl_length l]
theorem Sm.bnl_length:∀s:List Sm,(Sm.bnl s).length=Sm.nbl s
 | []=>rfl
 | x::l=>by simp only[Sm.bnl,Sm.nbl,qtZ,Sm.bn_length x,Sm.bnl_length l]
theorem Sm.bn1_length:∀s:List Sm,(Sm.bn1 s).length=Sm.nb1 s
 | []=>rfl
 | x::l=>by simp only[Sm.bn1,Sm.nb1,qtZ,qcL,Sm.bn_length x,Sm.bn1_length l]
end
theorem Sm.bnl_append:∀(l m:List Sm),Sm.bnl (l++m)=Sm.bnl l++Sm.bnl m
 | [],m=>rfl
 | x::l,m=>by simp only[qtO,Sm.bnl,Sm.bnl_append l m,qt1]
theorem De.bnl_append:∀(l m:List De),De.bnl (l++m)=De.bnl l++De.bnl m
 | [],m=>rfl
 | x::l,m=>by simp only[qtO,De.bnl,De.bnl_append l m,qt1]
theorem Sm.bn1_append:∀(l m:List Sm),Sm.bn1 (l++m)=Sm.bn1 l++Sm.bn1 m
 | [],m=>rfl
 | x::l,m=>by simp only[qtO,Sm.bn1,Sm.bn1_append l m,qt1]
theorem Sm.rwl_append(p:Rp)(sc:Scs):∀(l m:List Sm) (n:Nat),Sm.rwl p sc n (l++m)=Sm.rwl p sc n l++Sm.rwl p sc (n+Sm.nbl l) m
 | [],m,n=>by simp[Sm.rwl,Sm.nbl]
 | x::l,m,n=>by simp only[qtO,Sm.rwl,Sm.nbl,Sm.rwl_append p sc l m,quu]
theorem De.rwl_append(p:Rp)(own sc:Scs):∀(l m:List De) (n:Nat),De.rwl p own sc n (l++m)=De.rwl p own sc n l++De.rwl p own sc (n+De.nbl l) m
 | [],m,n=>by simp[De.rwl,De.nbl]
 | x::l,m,n=>by simp only[qtO,De.rwl,De.nbl,De.rwl_append p own sc l m,quu]
theorem Sm.rw1_append(p:Rp)(sc:Scs):∀(l m:List Sm) (n:Nat),Sm.rw1 p sc n (l++m)=Sm.rw1 p sc n l++Sm.rw1 p sc (n+Sm.nb1 l) m
 | [],m,n=>by simp[Sm.rw1,Sm.nb1]
 | x::l,m,n=>by
  have:=qbc x.labels n 0;simp only[qtO,Sm.rw1,Sm.nb1,Sm.rw1_append p sc l m,this,quu]
theorem Sm.rsl_append(p:Rp)(sc:Scs):∀(l m:List Sm) (n:Nat) (h:Rst),Sm.rsl p sc n h (l++m)=Sm.rsl p sc (n+Sm.nbl l) (Sm.rsl p sc n h l) m
 | [],m,n,h=>by simp[Sm.rsl,Sm.nbl]
 | x::l,m,n,h=>by simp only[qtO,Sm.rsl,Sm.nbl,Sm.rsl_append p sc l m,quu]
theorem De.rsl_append(p:Rp)(own sc:Scs):∀(l m:List De) (n:Nat) (h:Rst),De.rsl p own sc n h (l++m)=De.rsl p own sc (n+De.nbl l) (De.rsl p own sc n h l) m
 | [],m,n,h=>by simp[De.rsl,De.nbl]
 | x::l,m,n,h=>by simp only[qtO,De.rsl,De.nbl,De.rsl_append p own sc l m,quu]
theorem Sm.rs1_append(p:Rp)(sc:Scs):∀(l m:List Sm) (n:Nat) (h:Rst),Sm.rs1 p sc n h (l++m)=Sm.rs1 p sc (n+Sm.nb1 l) (Sm.rs1 p sc n h l) m
 | [],m,n,h=>by simp[Sm.rs1,Sm.nb1]
 | x::l,m,n,h=>by
  have:=qbc x.labels n 0;simp only[qtO,Sm.rs1,Sm.nb1,Sm.rs1_append p sc l m,this,quu]
theorem qmN(p:Rp)(sc:Scs):∀(m:List Sm) (n:Nat),(Sm.rwl p sc n m).length=m.length
 | [],_=>rfl
 | x::m,n=>by simp only[Sm.rwl,que,qmN p sc m]
theorem qlu(p:Rp)(sc:Scs):∀(m:List Sm) (n:Nat),(Sm.rw1 p sc n m).length=m.length
 | [],_=>rfl
 | x::m,n=>by simp only[Sm.rw1,que,qlu p sc m]
theorem qiF(p:Rp)(own sc:Scs):∀(m:List De) (n:Nat),(De.rwl p own sc n m).length=m.length
 | [],_=>rfl
 | x::m,n=>by simp only[De.rwl,que,qiF p own sc m]
def Sm.wholeQ(r:Rp)(s:Sm):Sm:=s.rw r [qae s.labels 0] (qae s.labels 0).length
set_option maxRecDepth 20000
def c4:F':=⟨53,[.t 4],
 .seq (.reg [.o 2 (.box (.t 0)),
 .o 3 (.box (.t 1)),
 .o 4 (.mv (.c (.bool false)))])
 (.seq (.seq (.reg [.j 8 8 2,
 .o 9 (.call (.f 17) [(.t 8)]),
 .o 10 (.un .not (.t 9)),
 .m 11 10,
 .v 12 11 false (.ld (some 8) (.t 3)),
 .v 13 11 false (.call (.f 17) [(.t 12)]),
 .v 14 11 false (.un .not (.t 13)),
 .z 15 11 14])
 (.cond (.t 15)
 (.seq (.reg [.o 16 (.call (.f 18) []),
 .m 4 16])
 (.ret))
 (.skip)))
 (.seq (.reg [.j 18 8 2,
 .j 19 8 3,
 .o 20 (.call (.f 24) [(.t 18),(.t 19)]),
 .m 17 20,
 .e 21 0 17,
 .e 22 1 17,
 .m 5 21,
 .m 6 22])
 (.seq (.reg [.j 23 8 2,
 .o 24 (.call (.f 20) [(.t 23)]),
 .m 7 24])
 (.seq (.seq (.reg [.m 25 7,
 .u 26 .eql 25 0])
 (.cond (.t 26)
 (.reg [.j 27 8 3,
 .o 28 (.call (.f 20) [(.t 27)]),
 .m 7 28])
 (.skip)))
 (.seq (.seq (.reg [.m 29 7,
 .u 30 .neq 29 0])
 (.cond (.t 30)
 (.seq (.reg [.o 31 (.call (.f 18) []),
 .m 32 31,
 .v 33 32 true (.mv (.t 6)),
 .v 34 32 true (.mv (.t 7)),
 .v 35 32 true (.bin .eql (.t 33) (.t 34)),
 .y 36 32 35,
 .m 37 36,
 .v 38 37 true (.mv (.t 5)),
 .v 39 37 true (.un .not (.t 38)),
 .y 40 37 39,
 .m 4 40])
 (.ret))
 (.skip)))
 (.seq (.reg [.o 41 (.call (.f 18) []),
 .m 42 41,
 .v 43 42 true (.mv (.t 6)),
 .v 44 42 true (.bin .eql (.t 43) (.c (.int .i64 0))),
 .y 45 42 44,
 .m 46 45,
 .v 47 46 true (.mv (.t 5)),
 .v 48 46 true (.ld (some 8) (.t 2)),
 .v 49 46 true (.ld (some 8) (.t 3)),
 .v 50 46 true (.call (.f 25) [(.t 48),(.t 49)]),
 .v 51 46 true (.eq .bool false (.t 47) (.t 50)),
 .y 52 46 51,
 .m 4 52])
 (.ret)))))))⟩
theorem ok4:oF Tryz.f4 c4:=oI (by kernel_rfl)
def c25:F':=⟨10,[.t 4],
 .seq (.reg [.o 2 (.box (.t 0)),
 .o 3 (.box (.t 1)),
 .o 4 (.mv (.c (.bool false)))])
 (.seq (.draw [⟨.j 5 8 2,false,none,false,[],0,0⟩,
 ⟨.o 6 (.call (.f 71) [(.t 5)]),true,none,false,[0],0,0⟩,
 ⟨.j 7 8 3,false,none,true,[],0,1⟩,
 ⟨.o 8 (.call (.f 71) [(.t 7)]),true,none,false,[2,1,0],1,1⟩,
 ⟨.o 9 (.call (.f 23) [(.t 6),(.t 8)]),true,none,false,[3,2,1,0],2,2⟩,
 ⟨.m 4 9,false,none,false,[4,3,2,1,0],3,3⟩] [])
 (.ret))⟩
theorem ok25:oF Tryz.f25 c25:=oI (by kernel_rfl)
def c67:F':=⟨13,[.cell 4 (some 8)],
 .seq (.reg [.o 3 (.box (.t 1)),
 .o 4 (.new zS)])
 (.seq (.reg [.m 6 0,
 .j 7 8 3,
 .o 8 (.bsl 8 [(.t 7)]),
 .o 9 (.call (.f 117) [(.t 6),(.t 8),(.c (.sl true []))]),
 .m 5 9])
 (.seq (.reg [.m 10 5,
 .o 11 (.ia 8 (.t 10) (.c (.int .i64 0))),
 .j 12 8 11,
 .s 8 4 12])
 (.ret)))⟩
theorem ok67:oF Tryz.f67 c67:=oI (by kernel_rfl)
def c71:F':=⟨37,[.cell 2 (some 8)],
 .seq (.reg [.o 1 (.box (.t 0)),
 .o 2 (.new zS)])
 (.seq (.reg [.o 6 (.build (.agg [(.sl true []),(.sl true []),(.sl true []),(.sl true []),(.sl true []),(.bool false),(.bool false)]) []),
 .o 7 (.box (.t 6)),
 .m 3 7])
 (.seq (.reg [.m 8 3,
 .j 9 8 1,
 .o 10 (.call (.f 67) [(.t 8),(.t 9)])])
 (.seq (.reg [.o 11 (.build (.agg [(.sl true []),(.sl true []),(.sl true []),(.sl true []),(.sl true []),(.bool false),(.bool false)]) []),
 .o 12 (.box (.t 11)),
 .m 4 12])
 (.seq (.seq (.reg [.o 5 (.mv (.c (.int .i64 0)))])
 (.block 0 (.loop (.seq (.seq (.reg [.m 13 5,
 .m 14 3,
 .h 15 14,
 .f 16 0 15,
 .l 17 16,
 .o 18 (.len false (.t 17)),
 .b 19 .lss 13 18])
 (.cond (.t 19)
 (.skip)
 (.exit 0)))
 (.seq (.block 1 (.draw [⟨.m 22 4,false,none,false,[],0,2⟩,
 ⟨.m 23 4,false,none,false,[],0,1⟩,
 ⟨.h 24 23,false,none,false,[1],0,1⟩,
 ⟨.f 25 2 24,false,none,false,[2,1],0,1⟩,
 ⟨.l 26 25,false,none,true,[3,2,1],0,1⟩,
 ⟨.m 27 5,false,none,false,[],0,0⟩,
 ⟨.o 28 (.call (.f 94) [(.t 27)]),true,none,false,[5],0,0⟩,
 ⟨.o 29 (.bin .add (.c (.str ⟨⟨[63]⟩⟩)) (.t 28)),false,none,false,[6,5],1,1⟩,
 ⟨.o 30 (.bsl 1 [(.t 29)]),false,none,false,[7,6,5],1,1⟩,
 ⟨.o 31 (.app 1 16 (.t 26) (.t 30)),true,none,false,[4,8,3,2,1,7,6,5],1,1⟩,
 ⟨.h 32 22,false,none,false,[0,9,4,8,3,2,1,7,6,5],2,2⟩,
 ⟨.f 33 2 32,false,none,false,[10,0,9,4,8,3,2,1,7,6,5],2,2⟩,
 ⟨.s 1 33 31,true,none,false,[11,10,0,9,4,8,3,2,1,7,6,5],2,2⟩] []))
 (.reg [.m 20 5,
 .u 21 .add 20 1,
 .m 5 21]))))))
 (.seq (.reg [.m 34 4,
 .j 35 8 1,
 .o 36 (.call (.f 67) [(.t 34),(.t 35)]),
 .s 8 2 36])
 (.ret))))))⟩
theorem ok71:oF Tryz.f71 c71:=oI (by kernel_rfl)
def c92:F':=⟨49,[.cell 6 (some 7)],
 .seq (.reg [.o 4 (.box (.t 1)),
 .o 6 (.new zX)])
 (.seq (.seq (.reg [.f 11 0 4,
 .l 12 11,
 .u 13 .eql 12 6])
 (.cond (.t 13)
 (.seq (.reg [.m 15 0,
 .m 16 2,
 .f 17 5 4,
 .l 18 17,
 .o 19 (.call (.f 143) [(.t 15),(.t 16),(.t 18)]),
 .m 14 19,
 .e 20 0 14,
 .e 21 1 14,
 .e 22 2 14,
 .o 8 (.new zX),
 .m 7 20,
 .s 7 8 21,
 .m 9 22])
 (.seq (.seq (.reg [.m 23 9])
 (.cond (.t 23)
 (.seq (.reg [.j 24 7 8,
 .s 7 6 24])
 (.ret))
 (.skip)))
 (.seq (.reg [.m 25 7,
 .o 26 (.build zX [(0,0,1,(.c (.int .i64 6))),(4,5,1,(.t 25))]),
 .s 7 6 26])
 (.ret))))
 (.skip)))
 (.seq (.reg [.j 27 7 4,
 .o 10 (.new zX),
 .s 7 10 27])
 (.seq (.seq (.reg [.f 28 0 4,
 .l 29 28,
 .u 30 .eql 29 7,
 .m 31 30,
 .v 32 31 false (.fa 0 (.t 4)),
 .v 33 31 false (.ld none (.t 32)),
 .v 34 31 false (.bin .eql (.t 33) (.c (.int .i64 8))),
 .z 35 31 34])
 (.cond (.t 35)
 (.reg [.m 36 0,
 .m 37 2,
 .f 38 5 4,
 .l 39 38,
 .o 40 (.call (.f 144) [(.t 36),(.t 37),(.t 39)]),
 .f 41 5 10,
 .s 1 41 40])
 (.skip)))
 (.seq (.reg [.m 42 0,
 .f 43 6 4,
 .l 44 43,
 .m 45 2,
 .o 46 (.call (.f 145) [(.t 42),(.t 44),(.t 45)]),
 .f 47 6 10,
 .s 1 47 46])
 (.seq (.reg [.j 48 7 10,
 .s 7 6 48])
 (.ret))))))⟩
theorem ok92:oF Tryz.f92 c92:=oI (by kernel_rfl)
def c117:F':=⟨15,[.t 6],
 .seq (.reg [.o 6 (.mv (.c (.sl true [])))])
 (.seq (.reg [.m 7 0,
 .m 8 1,
 .m 9 0,
 .m 10 2,
 .m 11 1,
 .o 12 (.call (.f 163) [(.t 11)]),
 .o 13 (.call (.f 162) [(.t 9),(.t 10),(.t 12)]),
 .o 14 (.call (.f 161) [(.t 7),(.t 8),(.t 13)]),
 .m 6 14])
 (.ret))⟩
theorem ok117:oF Tryz.f117 c117:=oI (by kernel_rfl)
def c143:F':=⟨98,[.t 6,.cell 7 (some 7),.t 8],
 .seq (.reg [.o 6 (.mv (.c (.str ⟨⟨[]⟩⟩))),
 .o 7 (.new zX),
 .o 8 (.mv (.c (.bool false)))])
 (.seq (.seq (.reg [.m 11 1,
 .m 12 2,
 .o 13 (.call (.f 175) [(.t 11),(.t 12)]),
 .u 14 .geq 13 0])
 (.cond (.t 14)
 (.seq (.reg [.m 15 0,
 .m 16 1,
 .m 17 2,
 .o 18 (.call (.f 176) [(.t 15),(.t 16),(.t 17)]),
 .o 19 (.build zX []),
 .m 6 18,
 .s 7 7 19,
 .o 8 (.mv (.c (.bool false)))])
 (.ret))
 (.skip)))
 (.seq (.reg [.m 20 0,
 .m 21 0,
 .h 22 21,
 .f 23 1 22,
 .l 24 23,
 .m 25 2,
 .o 26 (.bsl 1 [(.t 25)]),
 .o 27 (.app 1 16 (.t 24) (.t 26)),
 .h 28 20,
 .f 29 1 28,
 .s 1 29 27])
 (.seq (.seq (.reg [.o 9 (.mv (.c (.int .i64 0)))])
 (.block 0 (.loop (.seq (.seq (.reg [.m 30 9,
 .m 31 0,
 .h 32 31,
 .f 33 3 32,
 .l 34 33,
 .o 35 (.len false (.t 34)),
 .b 36 .lss 30 35])
 (.cond (.t 36)
 (.skip)
 (.exit 0)))
 (.seq (.block 1 (.seq (.reg [.m 39 0,
 .h 40 39,
 .f 41 3 40,
 .l 42 41,
 .m 43 9,
 .i 44 1 42 43,
 .l 45 44,
 .m 46 2,
 .b 47 .eql 45 46])
 (.cond (.t 47)
 (.seq (.seq (.reg [.o 10 (.mv (.c (.int .i64 0)))])
 (.block 2 (.loop (.seq (.seq (.reg [.m 48 10,
 .m 49 1,
 .o 50 (.len false (.t 49)),
 .b 51 .lss 48 50])
 (.cond (.t 51)
 (.skip)
 (.exit 2)))
 (.seq (.block 3 (.draw [⟨.m 54 0,false,none,false,[],0,0⟩,
 ⟨.m 55 0,false,none,false,[],0,0⟩,
 ⟨.h 56 55,false,none,false,[1],0,0⟩,
 ⟨.f 57 6 56,false,none,false,[2,1],0,0⟩,
 ⟨.l 58 57,false,none,false,[3,2,1],0,0⟩,
 ⟨.m 59 58,false,none,false,[4,3,2,1],0,0⟩,
 ⟨.v 60 59 false (.mv (.t 0)),false,none,false,[5,4,3,2,1],0,0⟩,
 ⟨.v 61 59 false (.nck (.t 60)),false,none,false,[6,5,4,3,2,1],0,0⟩,
 ⟨.v 62 59 false (.fa 4 (.t 61)),false,none,false,[7,6,5,4,3,2,1],0,0⟩,
 ⟨.v 63 59 false (.ld none (.t 62)),false,none,false,[8,7,6,5,4,3,2,1],0,0⟩,
 ⟨.v 64 59 false (.mv (.t 9)),false,none,false,[5,4,3,2,1],0,0⟩,
 ⟨.v 65 59 false (.ia 7 (.t 63) (.t 64)),false,none,false,[9,10,8,7,6,5,4,3,2,1],0,0⟩,
 ⟨.v 66 59 false (.fa 0 (.t 65)),false,none,false,[11,9,10,8,7,6,5,4,3,2,1],0,0⟩,
 ⟨.v 67 59 false (.ld none (.t 66)),false,none,false,[12,11,9,10,8,7,6,5,4,3,2,1],0,0⟩,
 ⟨.v 68 59 false (.bin .eql (.t 67) (.c (.int .i64 6))),false,none,false,[13,12,11,9,10,8,7,6,5,4,3,2,1],0,0⟩,
 ⟨.v 69 59 false (.mv (.t 68)),false,none,false,[14,13,12,11,9,10,8,7,6,5,4,3,2,1],0,0⟩,
 ⟨.v 70 69 true (.mv (.t 1)),false,none,false,[15,14,13,12,11,9,10,8,7,6,5,4,3,2,1],0,0⟩,
 ⟨.v 71 69 true (.mv (.t 10)),false,none,false,[15,14,13,12,11,9,10,8,7,6,5,4,3,2,1],0,0⟩,
 ⟨.v 72 69 true (.ia 2 (.t 70) (.t 71)),false,none,false,[16,17,15,14,13,12,11,9,10,8,7,6,5,4,3,2,1],0,0⟩,
 ⟨.v 73 69 true (.fa 0 (.t 72)),false,none,false,[18,16,17,15,14,13,12,11,9,10,8,7,6,5,4,3,2,1],0,0⟩,
 ⟨.v 74 69 true (.ld none (.t 73)),false,none,false,[19,18,16,17,15,14,13,12,11,9,10,8,7,6,5,4,3,2,1],0,0⟩,
 ⟨.v 75 69 true (.mv (.t 0)),false,none,false,[15,14,13,12,11,9,10,8,7,6,5,4,3,2,1],0,0⟩,
 ⟨.v 76 69 true (.nck (.t 75)),false,none,false,[21,15,14,13,12,11,9,10,8,7,6,5,4,3,2,1],0,0⟩,
 ⟨.v 77 69 true (.fa 4 (.t 76)),false,none,false,[22,21,15,14,13,12,11,9,10,8,7,6,5,4,3,2,1],0,0⟩,
 ⟨.v 78 69 true (.ld none (.t 77)),false,none,false,[23,22,21,15,14,13,12,11,9,10,8,7,6,5,4,3,2,1],0,0⟩,
 ⟨.v 79 69 true (.mv (.t 9)),false,none,false,[15,14,13,12,11,9,10,8,7,6,5,4,3,2,1],0,0⟩,
 ⟨.v 80 69 true (.ia 7 (.t 78) (.t 79)),false,none,false,[24,25,23,22,21,15,14,13,12,11,9,10,8,7,6,5,4,3,2,1],0,0⟩,
 ⟨.v 81 69 true (.fa 5 (.t 80)),false,none,false,[26,24,25,23,22,21,15,14,13,12,11,9,10,8,7,6,5,4,3,2,1],0,0⟩,
 ⟨.v 82 69 true (.ld none (.t 81)),false,none,false,[27,26,24,25,23,22,21,15,14,13,12,11,9,10,8,7,6,5,4,3,2,1],0,0⟩,
 ⟨.v 83 69 true (.bin .eql (.t 74) (.t 82)),false,none,false,[20,28,19,18,16,17,27,26,24,25,23,22,21,15,14,13,12,11,9,10,8,7,6,5,4,3,2,1],0,0⟩,
 ⟨.v 84 59 false (.pick (.t 69) (.t 83) (.c (.bool false))),false,none,false,[29,20,28,19,18,16,17,27,26,24,25,23,22,21,15,14,13,12,11,9,10,8,7,6,5,4,3,2,1],0,0⟩,
 ⟨.z 85 59 84,false,none,false,[30,29,20,28,19,18,16,17,27,26,24,25,23,22,21,15,14,13,12,11,9,10,8,7,6,5,4,3,2,1],0,0⟩,
 ⟨.h 86 54,false,none,false,[0,31,30,29,20,28,19,18,16,17,27,26,24,25,23,22,21,15,14,13,12,11,9,10,8,7,6,5,4,3,2,1],0,0⟩,
 ⟨.f 87 6 86,false,none,false,[32,0,31,30,29,20,28,19,18,16,17,27,26,24,25,23,22,21,15,14,13,12,11,9,10,8,7,6,5,4,3,2,1],0,0⟩,
 ⟨.s 1 87 85,true,none,false,[33,32,0,31,30,29,20,28,19,18,16,17,27,26,24,25,23,22,21,15,14,13,12,11,9,10,8,7,6,5,4,3,2,1],0,0⟩] []))
 (.reg [.m 52 10,
 .u 53 .add 52 1,
 .m 10 53]))))))
 (.seq (.draw [⟨.m 88 2,false,none,false,[],0,0⟩,
 ⟨.m 89 0,false,none,false,[],0,0⟩,
 ⟨.h 90 89,false,none,false,[1],0,0⟩,
 ⟨.f 91 4 90,false,none,false,[2,1],0,0⟩,
 ⟨.l 92 91,false,none,false,[3,2,1],0,0⟩,
 ⟨.m 93 9,false,none,false,[],0,0⟩,
 ⟨.i 94 7 92 93,false,none,false,[4,5,3,2,1],0,0⟩,
 ⟨.j 95 7 94,false,none,false,[6,4,5,3,2,1],0,0⟩,
 ⟨.m 6 88,false,none,false,[0],0,0⟩,
 ⟨.s 7 7 95,true,none,false,[7,8,6,4,5,3,2,1,0],0,0⟩,
 ⟨.o 8 (.mv (.c (.bool true))),false,none,false,[9,7,8,6,4,5,3,2,1,0],1,1⟩] [])
 (.ret)))
 (.skip))))
 (.reg [.m 37 9,
 .u 38 .add 37 1,
 .m 9 38]))))))
 (.seq (.reg [.m 96 2,
 .o 97 (.build zX []),
 .m 6 96,
 .s 7 7 97,
 .o 8 (.mv (.c (.bool false)))])
 (.ret)))))⟩
theorem ok143:oF Tryz.f143 c143:=oI (by kernel_rfl)
def c144:F':=⟨37,[.t 6],
 .seq (.reg [.o 6 (.mv (.c (.str ⟨⟨[]⟩⟩)))])
 (.seq (.reg [.m 11 0,
 .m 12 1,
 .m 13 2,
 .o 14 (.call (.f 143) [(.t 11),(.t 12),(.t 13)]),
 .m 10 14,
 .e 15 0 10,
 .e 16 1 10,
 .e 17 2 10,
 .o 8 (.new zX),
 .m 7 15,
 .s 7 8 16,
 .m 9 17])
 (.seq (.seq (.reg [.m 18 9,
 .m 19 18,
 .v 20 19 true (.fa 0 (.t 8)),
 .v 21 19 true (.ld none (.t 20)),
 .v 22 19 true (.bin .eql (.t 21) (.c (.int .i64 6))),
 .y 23 19 22])
 (.cond (.t 23)
 (.seq (.reg [.f 24 5 8,
 .l 25 24,
 .m 6 25])
 (.ret))
 (.skip)))
 (.seq (.reg [.m 26 0,
 .m 27 0,
 .h 28 27,
 .f 29 5 28,
 .l 30 29,
 .m 31 30,
 .v 32 31 false (.mv (.t 9)),
 .z 33 31 32,
 .h 34 26,
 .f 35 5 34,
 .s 1 35 33])
 (.seq (.reg [.m 36 7,
 .m 6 36])
 (.ret)))))⟩
theorem ok144:oF Tryz.f144 c144:=oI (by kernel_rfl)
def c145:F':=⟨26,[.t 6],
 .seq (.reg [.o 6 (.mv (.c (.sl true [])))])
 (.seq (.reg [.o 7 (.mv (.c (.sl true [])))])
 (.seq (.seq (.reg [.o 8 (.mv (.c (.int .i64 0)))])
 (.block 0 (.loop (.seq (.seq (.reg [.m 9 8,
 .m 10 1,
 .o 11 (.len false (.t 10)),
 .b 12 .lss 9 11])
 (.cond (.t 12)
 (.skip)
 (.exit 0)))
 (.seq (.block 1 (.reg [.m 15 7,
 .m 16 0,
 .m 17 1,
 .m 18 8,
 .i 19 7 17 18,
 .j 20 7 19,
 .m 21 2,
 .o 22 (.call (.f 92) [(.t 16),(.t 20),(.t 21)]),
 .o 23 (.bsl 7 [(.t 22)]),
 .o 24 (.app 7 80 (.t 15) (.t 23)),
 .m 7 24]))
 (.reg [.m 13 8,
 .u 14 .add 13 1,
 .m 8 14]))))))
 (.seq (.reg [.m 25 7,
 .m 6 25])
 (.ret))))⟩
theorem ok145:oF Tryz.f145 c145:=oI (by kernel_rfl)
def c161:F':=⟨26,[.t 6],
 .seq (.reg [.o 6 (.mv (.c (.sl true [])))])
 (.seq (.reg [.o 7 (.mv (.c (.sl true [])))])
 (.seq (.seq (.reg [.o 8 (.mv (.c (.int .i64 0)))])
 (.block 0 (.loop (.seq (.seq (.reg [.m 9 8,
 .m 10 1,
 .o 11 (.len false (.t 10)),
 .b 12 .lss 9 11])
 (.cond (.t 12)
 (.skip)
 (.exit 0)))
 (.seq (.block 1 (.reg [.m 15 7,
 .m 16 0,
 .m 17 1,
 .m 18 8,
 .i 19 8 17 18,
 .j 20 8 19,
 .m 21 2,
 .o 22 (.call (.f 194) [(.t 16),(.t 20),(.t 21)]),
 .o 23 (.bsl 8 [(.t 22)]),
 .o 24 (.app 8 168 (.t 15) (.t 23)),
 .m 7 24]))
 (.reg [.m 13 8,
 .u 14 .add 13 1,
 .m 8 14]))))))
 (.seq (.reg [.m 25 7,
 .m 6 25])
 (.ret))))⟩
theorem ok161:oF Tryz.f161 c161:=oI (by kernel_rfl)
def c162:F':=⟨60,[.t 6],
 .seq (.reg [.o 6 (.mv (.c (.sl true [])))])
 (.seq (.reg [.o 7 (.mv (.c (.sl true [])))])
 (.seq (.reg [.o 10 (.bsl 2 []),
 .m 11 1,
 .o 12 (.app 2 24 (.t 10) (.t 11)),
 .m 8 12])
 (.seq (.seq (.reg [.o 9 (.mv (.c (.int .i64 0)))])
 (.block 0 (.loop (.seq (.seq (.reg [.m 13 9,
 .m 14 2,
 .o 15 (.len false (.t 14)),
 .b 16 .lss 13 15])
 (.cond (.t 16)
 (.skip)
 (.exit 0)))
 (.seq (.block 1 (.seq (.reg [.m 19 7,
 .m 20 2,
 .m 21 9,
 .i 22 1 20 21,
 .l 23 22,
 .o 24 (.call (.f 34) [(.t 19),(.t 23)]),
 .o 25 (.un .not (.t 24))])
 (.cond (.t 25)
 (.seq (.reg [.m 26 7,
 .m 27 2,
 .m 28 9,
 .i 29 1 27 28,
 .l 30 29,
 .o 31 (.bsl 1 [(.t 30)]),
 .o 32 (.app 1 16 (.t 26) (.t 31)),
 .m 7 32])
 (.seq (.draw [⟨.m 33 8,false,none,false,[],0,0⟩,
 ⟨.m 34 2,false,none,false,[],0,0⟩,
 ⟨.m 35 9,false,none,false,[],0,0⟩,
 ⟨.i 36 1 34 35,false,none,false,[1,2],0,0⟩,
 ⟨.l 37 36,false,none,false,[3,1,2],0,0⟩,
 ⟨.m 38 0,false,none,false,[],0,0⟩,
 ⟨.h 39 38,false,none,false,[5],0,0⟩,
 ⟨.f 40 0 39,false,none,false,[6,5],0,0⟩,
 ⟨.l 41 40,false,none,false,[7,6,5],0,0⟩,
 ⟨.o 42 (.len false (.t 41)),false,none,false,[8,7,6,5],0,0⟩,
 ⟨.o 43 (.build (.agg [(.str ⟨⟨[]⟩⟩),(.int .i64 0)]) [(0,0,1,(.t 37)),(1,1,1,(.t 42))]),false,none,false,[4,9,3,1,2,8,7,6,5],0,0⟩,
 ⟨.o 44 (.bsl 2 [(.t 43)]),false,none,false,[10,4,9,3,1,2,8,7,6,5],0,0⟩,
 ⟨.o 45 (.app 2 24 (.t 33) (.t 44)),true,none,false,[0,11,10,4,9,3,1,2,8,7,6,5],0,0⟩,
 ⟨.m 8 45,false,none,false,[12,0,11,10,4,9,3,1,2,8,7,6,5],1,1⟩] [])
 (.draw [⟨.m 46 0,false,none,false,[],0,1⟩,
 ⟨.m 47 0,false,none,false,[],0,0⟩,
 ⟨.h 48 47,false,none,false,[1],0,0⟩,
 ⟨.f 49 0 48,false,none,false,[2,1],0,0⟩,
 ⟨.l 50 49,false,none,false,[3,2,1],0,0⟩,
 ⟨.m 51 2,false,none,false,[],0,0⟩,
 ⟨.m 52 9,false,none,false,[],0,0⟩,
 ⟨.i 53 1 51 52,false,none,false,[5,6],0,0⟩,
 ⟨.l 54 53,false,none,false,[7,5,6],0,0⟩,
 ⟨.o 55 (.bsl 1 [(.t 54)]),false,none,false,[8,7,5,6],0,0⟩,
 ⟨.o 56 (.app 1 16 (.t 50) (.t 55)),true,none,false,[4,9,3,2,1,8,7,5,6],0,0⟩,
 ⟨.h 57 46,false,none,false,[0,10,4,9,3,2,1,8,7,5,6],1,1⟩,
 ⟨.f 58 0 57,false,none,false,[11,0,10,4,9,3,2,1,8,7,5,6],1,1⟩,
 ⟨.s 1 58 56,true,none,false,[12,11,0,10,4,9,3,2,1,8,7,5,6],1,1⟩] [])))
 (.skip))))
 (.reg [.m 17 9,
 .u 18 .add 17 1,
 .m 9 18]))))))
 (.seq (.reg [.m 59 8,
 .m 6 59])
 (.ret)))))⟩
theorem ok162:oF Tryz.f162 c162:=oI (by kernel_rfl)
def c163:F':=⟨19,[.t 2],
 .seq (.reg [.o 2 (.mv (.c (.sl true [])))])
 (.seq (.reg [.o 3 (.mv (.c (.sl true [])))])
 (.seq (.seq (.reg [.o 4 (.mv (.c (.int .i64 0)))])
 (.block 0 (.loop (.seq (.seq (.reg [.m 5 4,
 .m 6 0,
 .o 7 (.len false (.t 6)),
 .b 8 .lss 5 7])
 (.cond (.t 8)
 (.skip)
 (.exit 0)))
 (.seq (.block 1 (.reg [.m 11 3,
 .m 12 0,
 .m 13 4,
 .i 14 8 12 13,
 .f 15 0 14,
 .l 16 15,
 .o 17 (.app 1 16 (.t 11) (.t 16)),
 .m 3 17]))
 (.reg [.m 9 4,
 .u 10 .add 9 1,
 .m 4 10]))))))
 (.seq (.reg [.m 18 3,
 .m 2 18])
 (.ret))))⟩
theorem ok163:oF Tryz.f163 c163:=oI (by kernel_rfl)
def c175:F':=⟨25,[.t 4],
 .seq (.reg [.o 4 (.mv (.c (.int .i64 0)))])
 (.seq (.seq (.reg [.m 6 0,
 .o 7 (.len false (.t 6)),
 .u 8 .sub 7 1,
 .m 5 8])
 (.block 0 (.loop (.seq (.seq (.reg [.m 9 5,
 .u 10 .geq 9 0])
 (.cond (.t 10)
 (.skip)
 (.exit 0)))
 (.seq (.block 1 (.seq (.reg [.m 13 0,
 .m 14 5,
 .i 15 2 13 14,
 .f 16 0 15,
 .l 17 16,
 .m 18 1,
 .b 19 .eql 17 18])
 (.cond (.t 19)
 (.seq (.reg [.m 20 0,
 .m 21 5,
 .i 22 2 20 21,
 .f 23 1 22,
 .l 24 23,
 .m 4 24])
 (.ret))
 (.skip))))
 (.reg [.m 11 5,
 .u 12 .sub 11 1,
 .m 5 12]))))))
 (.seq (.reg [.o 4 (.mv (.c (.int .i64 (-1))))])
 (.ret)))⟩
theorem ok175:oF Tryz.f175 c175:=oI (by kernel_rfl)
def c176:F':=⟨30,[.t 6],
 .seq (.reg [.o 6 (.mv (.c (.str ⟨⟨[]⟩⟩)))])
 (.seq (.reg [.m 8 1,
 .m 9 2,
 .o 10 (.call (.f 175) [(.t 8),(.t 9)]),
 .m 7 10])
 (.seq (.seq (.reg [.m 11 7,
 .u 12 .geq 11 0,
 .m 13 12,
 .v 14 13 true (.mv (.t 7)),
 .v 15 13 true (.mv (.t 0)),
 .v 16 13 true (.nck (.t 15)),
 .v 17 13 true (.fa 2 (.t 16)),
 .v 18 13 true (.ld none (.t 17)),
 .v 19 13 true (.len false (.t 18)),
 .v 20 13 true (.bin .lss (.t 14) (.t 19)),
 .y 21 13 20])
 (.cond (.t 21)
 (.seq (.reg [.m 22 0,
 .h 23 22,
 .f 24 2 23,
 .l 25 24,
 .m 26 7,
 .i 27 1 25 26,
 .l 28 27,
 .m 6 28])
 (.ret))
 (.skip)))
 (.seq (.reg [.m 29 2,
 .m 6 29])
 (.ret))))⟩
theorem ok176:oF Tryz.f176 c176:=oI (by kernel_rfl)
def c194:F':=⟨157,[.cell 6 (some 8)],
 .seq (.reg [.o 4 (.box (.t 1)),
 .o 6 (.new zS)])
 (.seq (.reg [.j 14 8 4,
 .o 7 (.new zS),
 .s 8 7 14])
 (.seq (.reg [.f 15 0 7,
 .n (.sto 1 (.t 15) (.c (.sl true [])))])
 (.seq (.seq (.reg [.o 8 (.mv (.c (.int .i64 0)))])
 (.block 0 (.loop (.seq (.seq (.reg [.m 16 8,
 .f 17 0 4,
 .l 18 17,
 .o 19 (.len false (.t 18)),
 .b 20 .lss 16 19])
 (.cond (.t 20)
 (.skip)
 (.exit 0)))
 (.seq (.block 1 (.draw [⟨.f 23 0 7,false,none,false,[],0,1⟩,
 ⟨.l 24 23,false,none,true,[0],0,1⟩,
 ⟨.m 25 0,false,none,false,[],0,0⟩,
 ⟨.m 26 2,false,none,false,[],0,0⟩,
 ⟨.f 27 0 4,false,none,false,[],0,0⟩,
 ⟨.l 28 27,false,none,false,[4],0,0⟩,
 ⟨.m 29 8,false,none,false,[],0,0⟩,
 ⟨.i 30 1 28 29,false,none,false,[5,6,4],0,0⟩,
 ⟨.l 31 30,false,none,false,[7,5,6,4],0,0⟩,
 ⟨.o 32 (.call (.f 176) [(.t 25),(.t 26),(.t 31)]),true,none,false,[2,3,8,7,5,6,4],0,0⟩,
 ⟨.o 33 (.bsl 1 [(.t 32)]),false,none,false,[9,2,3,8,7,5,6,4],1,1⟩,
 ⟨.o 34 (.app 1 16 (.t 24) (.t 33)),true,none,false,[1,10,0,9,2,3,8,7,5,6,4],1,1⟩,
 ⟨.f 35 0 7,false,none,false,[11,1,10,0,9,2,3,8,7,5,6,4],2,2⟩,
 ⟨.s 1 35 34,true,none,false,[12,11,1,10,0,9,2,3,8,7,5,6,4],2,2⟩] []))
 (.reg [.m 21 8,
 .u 22 .add 21 1,
 .m 8 22]))))))
 (.seq (.seq (.reg [.f 36 1 4,
 .l 37 36])
 (.block 2 (.seq (.reg [.u 39 .eql 37 7,
 .m 38 39])
 (.cond (.t 38)
 (.seq (.reg [.o 9 (.mv (.c (.sl true [])))])
 (.seq (.seq (.reg [.o 10 (.mv (.c (.int .i64 0)))])
 (.block 3 (.loop (.seq (.seq (.reg [.m 40 10,
 .f 41 6 4,
 .l 42 41,
 .o 43 (.len false (.t 42)),
 .b 44 .lss 40 43])
 (.cond (.t 44)
 (.skip)
 (.exit 3)))
 (.seq (.block 4 (.reg [.m 47 9,
 .f 48 6 4,
 .l 49 48,
 .m 50 10,
 .i 51 7 49 50,
 .f 52 3 51,
 .l 53 52,
 .o 54 (.app 1 16 (.t 47) (.t 53)),
 .m 9 54]))
 (.reg [.m 45 10,
 .u 46 .add 45 1,
 .m 10 46]))))))
 (.seq (.reg [.m 55 0,
 .m 56 2,
 .m 57 9,
 .f 58 7 4,
 .l 59 58,
 .o 60 (.call (.f 163) [(.t 59)]),
 .o 61 (.app 1 16 (.t 57) (.t 60)),
 .o 62 (.call (.f 162) [(.t 55),(.t 56),(.t 61)]),
 .m 11 62])
 (.seq (.reg [.f 63 6 7,
 .n (.sto 1 (.t 63) (.c (.sl true [])))])
 (.seq (.seq (.reg [.o 12 (.mv (.c (.int .i64 0)))])
 (.block 5 (.loop (.seq (.seq (.reg [.m 64 12,
 .f 65 6 4,
 .l 66 65,
 .o 67 (.len false (.t 66)),
 .b 68 .lss 64 67])
 (.cond (.t 68)
 (.skip)
 (.exit 5)))
 (.seq (.block 6 (.draw [⟨.f 71 6 7,false,none,false,[],0,1⟩,
 ⟨.l 72 71,false,none,true,[0],0,1⟩,
 ⟨.m 73 0,false,none,false,[],0,0⟩,
 ⟨.f 74 6 4,false,none,false,[],0,0⟩,
 ⟨.l 75 74,false,none,false,[3],0,0⟩,
 ⟨.m 76 12,false,none,false,[],0,0⟩,
 ⟨.i 77 7 75 76,false,none,false,[4,5,3],0,0⟩,
 ⟨.j 78 7 77,false,none,false,[6,4,5,3],0,0⟩,
 ⟨.m 79 2,false,none,false,[],0,0⟩,
 ⟨.m 80 11,false,none,false,[],0,0⟩,
 ⟨.o 81 (.call (.f 230) [(.t 73),(.t 78),(.t 79),(.t 80)]),true,none,false,[2,7,8,9,6,4,5,3],0,0⟩,
 ⟨.o 82 (.bsl 7 [(.t 81)]),false,none,false,[10,2,7,8,9,6,4,5,3],1,1⟩,
 ⟨.o 83 (.app 7 120 (.t 72) (.t 82)),true,none,false,[1,11,0,10,2,7,8,9,6,4,5,3],1,1⟩,
 ⟨.f 84 6 7,false,none,false,[12,1,11,0,10,2,7,8,9,6,4,5,3],2,2⟩,
 ⟨.s 1 84 83,true,none,false,[13,12,1,11,0,10,2,7,8,9,6,4,5,3],2,2⟩] []))
 (.reg [.m 69 12,
 .u 70 .add 69 1,
 .m 12 70]))))))
 (.seq (.reg [.m 85 0,
 .f 86 7 4,
 .l 87 86,
 .m 88 11,
 .o 89 (.call (.f 161) [(.t 85),(.t 87),(.t 88)]),
 .f 90 7 7,
 .s 1 90 89])
 (.seq (.reg [.j 91 8 7,
 .s 8 6 91])
 (.ret))))))))
 (.seq (.reg [.u 93 .eql 37 8,
 .m 92 93])
 (.cond (.t 92)
 (.seq (.reg [.m 94 0,
 .f 95 7 4,
 .l 96 95,
 .m 97 2,
 .o 98 (.call (.f 117) [(.t 94),(.t 96),(.t 97)]),
 .f 99 7 7,
 .s 1 99 98])
 (.seq (.reg [.j 100 8 7,
 .s 8 6 100])
 (.ret)))
 (.seq (.reg [.u 102 .eql 37 6,
 .m 101 102])
 (.cond (.t 101)
 (.reg [.m 103 0,
 .m 104 2,
 .f 105 2 4,
 .l 106 105,
 .o 107 (.call (.f 144) [(.t 103),(.t 104),(.t 106)]),
 .f 108 2 7,
 .s 1 108 107])
 (.skip)))))))))
 (.seq (.reg [.m 109 0,
 .f 110 3 4,
 .l 111 110,
 .m 112 2,
 .o 113 (.call (.f 231) [(.t 109),(.t 111),(.t 112)]),
 .f 114 3 7,
 .s 1 114 113])
 (.seq (.reg [.f 115 5 7,
 .n (.sto 1 (.t 115) (.c (.sl true [])))])
 (.seq (.seq (.reg [.o 13 (.mv (.c (.int .i64 0)))])
 (.block 7 (.loop (.seq (.seq (.reg [.m 116 13,
 .f 117 5 4,
 .l 118 117,
 .o 119 (.len false (.t 118)),
 .b 120 .lss 116 119])
 (.cond (.t 120)
 (.skip)
 (.exit 7)))
 (.seq (.block 8 (.draw [⟨.f 123 5 7,false,none,false,[],0,1⟩,
 ⟨.l 124 123,false,none,true,[0],0,1⟩,
 ⟨.f 125 5 4,false,none,false,[],0,1⟩,
 ⟨.l 126 125,false,none,true,[2],0,1⟩,
 ⟨.m 127 13,false,none,false,[],0,1⟩,
 ⟨.i 128 2 126 127,false,none,true,[3,4,2],0,1⟩,
 ⟨.f 129 0 128,false,none,false,[5,3,4,2],0,1⟩,
 ⟨.l 130 129,false,none,true,[6,5,3,4,2],0,1⟩,
 ⟨.m 131 0,false,none,false,[],0,0⟩,
 ⟨.f 132 5 4,false,none,false,[],0,0⟩,
 ⟨.l 133 132,false,none,false,[9],0,0⟩,
 ⟨.m 134 13,false,none,false,[],0,0⟩,
 ⟨.i 135 2 133 134,false,none,false,[10,11,9],0,0⟩,
 ⟨.f 136 1 135,false,none,false,[12,10,11,9],0,0⟩,
 ⟨.l 137 136,false,none,false,[13,12,10,11,9],0,0⟩,
 ⟨.m 138 2,false,none,false,[],0,0⟩,
 ⟨.o 139 (.call (.f 145) [(.t 131),(.t 137),(.t 138)]),true,none,false,[8,14,15,13,12,10,11,9],0,0⟩,
 ⟨.o 140 (.build zE [(0,0,1,(.t 130)),(1,1,1,(.t 139))]),false,none,false,[7,16,6,5,3,4,2,8,14,15,13,12,10,11,9],1,1⟩,
 ⟨.o 141 (.bsl 2 [(.t 140)]),false,none,false,[17,7,16,6,5,3,4,2,8,14,15,13,12,10,11,9],1,1⟩,
 ⟨.o 142 (.app 2 32 (.t 124) (.t 141)),true,none,false,[1,18,0,17,7,16,6,5,3,4,2,8,14,15,13,12,10,11,9],1,1⟩,
 ⟨.f 143 5 7,false,none,false,[19,1,18,0,17,7,16,6,5,3,4,2,8,14,15,13,12,10,11,9],2,2⟩,
 ⟨.s 1 143 142,true,none,false,[20,19,1,18,0,17,7,16,6,5,3,4,2,8,14,15,13,12,10,11,9],2,2⟩] []))
 (.reg [.m 121 13,
 .u 122 .add 121 1,
 .m 13 122]))))))
 (.seq (.reg [.m 144 0,
 .f 145 4 4,
 .l 146 145,
 .m 147 2,
 .o 148 (.call (.f 145) [(.t 144),(.t 146),(.t 147)]),
 .f 149 4 7,
 .s 1 149 148])
 (.seq (.reg [.m 150 0,
 .f 151 7 4,
 .l 152 151,
 .m 153 2,
 .o 154 (.call (.f 232) [(.t 150),(.t 152),(.t 153)]),
 .f 155 7 7,
 .s 1 155 154])
 (.seq (.reg [.j 156 8 7,
 .s 8 6 156])
 (.ret)))))))))))⟩
theorem ok194:oF Tryz.f194 c194:=oI (by kernel_rfl)
def c230:F':=⟨110,[.cell 8 (some 7)],
 .seq (.reg [.o 5 (.box (.t 1)),
 .o 8 (.new zD)])
 (.seq (.reg [.j 16 7 5,
 .o 9 (.new zD),
 .s 7 9 16])
 (.seq (.reg [.f 17 3 9,
 .n (.sto 1 (.t 17) (.c (.sl true [])))])
 (.seq (.seq (.reg [.o 10 (.mv (.c (.int .i64 0)))])
 (.block 0 (.loop (.seq (.seq (.reg [.m 18 10,
 .f 19 3 5,
 .l 20 19,
 .o 21 (.len false (.t 20)),
 .b 22 .lss 18 21])
 (.cond (.t 22)
 (.skip)
 (.exit 0)))
 (.seq (.block 1 (.draw [⟨.f 25 3 9,false,none,false,[],0,1⟩,
 ⟨.l 26 25,false,none,true,[0],0,1⟩,
 ⟨.m 27 0,false,none,false,[],0,0⟩,
 ⟨.m 28 3,false,none,false,[],0,0⟩,
 ⟨.f 29 3 5,false,none,false,[],0,0⟩,
 ⟨.l 30 29,false,none,false,[4],0,0⟩,
 ⟨.m 31 10,false,none,false,[],0,0⟩,
 ⟨.i 32 1 30 31,false,none,false,[5,6,4],0,0⟩,
 ⟨.l 33 32,false,none,false,[7,5,6,4],0,0⟩,
 ⟨.o 34 (.call (.f 176) [(.t 27),(.t 28),(.t 33)]),true,none,false,[2,3,8,7,5,6,4],0,0⟩,
 ⟨.o 35 (.bsl 1 [(.t 34)]),false,none,false,[9,2,3,8,7,5,6,4],1,1⟩,
 ⟨.o 36 (.app 1 16 (.t 26) (.t 35)),true,none,false,[1,10,0,9,2,3,8,7,5,6,4],1,1⟩,
 ⟨.f 37 3 9,false,none,false,[11,1,10,0,9,2,3,8,7,5,6,4],2,2⟩,
 ⟨.s 1 37 36,true,none,false,[12,11,1,10,0,9,2,3,8,7,5,6,4],2,2⟩] []))
 (.reg [.m 23 10,
 .u 24 .add 23 1,
 .m 10 24]))))))
 (.seq (.seq (.reg [.f 38 0 5,
 .l 39 38,
 .u 40 .eql 39 2])
 (.cond (.t 40)
 (.seq (.reg [.m 41 0,
 .f 42 4 5,
 .l 43 42,
 .m 44 2,
 .o 45 (.call (.f 145) [(.t 41),(.t 43),(.t 44)]),
 .f 46 4 9,
 .s 1 46 45])
 (.seq (.reg [.j 47 7 9,
 .s 7 8 47])
 (.ret)))
 (.skip)))
 (.seq (.reg [.m 48 0,
 .f 49 4 5,
 .l 50 49,
 .m 51 3,
 .o 52 (.call (.f 145) [(.t 48),(.t 50),(.t 51)]),
 .f 53 4 9,
 .s 1 53 52])
 (.seq (.seq (.reg [.f 54 0 5,
 .l 55 54,
 .u 56 .neq 55 4])
 (.cond (.t 56)
 (.seq (.reg [.j 57 7 9,
 .s 7 8 57])
 (.ret))
 (.skip)))
 (.seq (.reg [.o 11 (.mv (.c (.sl true [])))])
 (.seq (.seq (.reg [.o 12 (.mv (.c (.int .i64 0)))])
 (.block 2 (.loop (.seq (.seq (.reg [.m 58 12,
 .f 59 5 5,
 .l 60 59,
 .o 61 (.len false (.t 60)),
 .b 62 .lss 58 61])
 (.cond (.t 62)
 (.skip)
 (.exit 2)))
 (.seq (.block 3 (.reg [.m 65 11,
 .f 66 5 5,
 .l 67 66,
 .m 68 12,
 .i 69 4 67 68,
 .f 70 0 69,
 .l 71 70,
 .o 72 (.bsl 1 [(.t 71)]),
 .o 73 (.app 1 16 (.t 65) (.t 72)),
 .m 11 73]))
 (.reg [.m 63 12,
 .u 64 .add 63 1,
 .m 12 64]))))))
 (.seq (.reg [.m 74 0,
 .m 75 3,
 .m 76 11,
 .o 77 (.call (.f 162) [(.t 74),(.t 75),(.t 76)]),
 .m 13 77])
 (.seq (.reg [.f 78 5 9,
 .n (.sto 1 (.t 78) (.c (.sl true [])))])
 (.seq (.seq (.reg [.o 14 (.mv (.c (.int .i64 0)))])
 (.block 4 (.loop (.seq (.seq (.reg [.m 79 14,
 .f 80 5 5,
 .l 81 80,
 .o 82 (.len false (.t 81)),
 .b 83 .lss 79 82])
 (.cond (.t 83)
 (.skip)
 (.exit 4)))
 (.seq (.block 5 (.seq (.reg [.f 86 5 5,
 .l 87 86,
 .m 88 14,
 .i 89 4 87 88,
 .j 90 4 89,
 .o 15 (.new zF),
 .s 4 15 90])
 (.seq (.reg [.m 91 0,
 .m 92 13,
 .f 93 0 15,
 .l 94 93,
 .o 95 (.call (.f 176) [(.t 91),(.t 92),(.t 94)]),
 .f 96 0 15,
 .s 1 96 95])
 (.reg [.f 97 5 9,
 .l 98 97,
 .j 99 4 15,
 .o 100 (.bsl 4 [(.t 99)]),
 .o 101 (.app 4 40 (.t 98) (.t 100)),
 .f 102 5 9,
 .s 1 102 101]))))
 (.reg [.m 84 14,
 .u 85 .add 84 1,
 .m 14 85]))))))
 (.seq (.reg [.m 103 0,
 .f 104 6 5,
 .l 105 104,
 .m 106 13,
 .o 107 (.call (.f 232) [(.t 103),(.t 105),(.t 106)]),
 .f 108 6 9,
 .s 1 108 107])
 (.seq (.reg [.j 109 7 9,
 .s 7 8 109])
 (.ret))))))))))))))⟩
theorem ok230:oF Tryz.f230 c230:=oI (by kernel_rfl)
def c231:F':=⟨43,[.t 6],
 .seq (.reg [.o 6 (.mv (.c (.sl true [])))])
 (.seq (.reg [.m 9 0,
 .m 10 1,
 .m 11 2,
 .o 12 (.call (.f 145) [(.t 9),(.t 10),(.t 11)]),
 .m 7 12])
 (.seq (.seq (.reg [.o 8 (.mv (.c (.int .i64 0)))])
 (.block 0 (.loop (.seq (.seq (.reg [.m 13 8,
 .m 14 7,
 .o 15 (.len false (.t 14)),
 .b 16 .lss 13 15])
 (.cond (.t 16)
 (.skip)
 (.exit 0)))
 (.seq (.block 1 (.reg [.m 19 0,
 .m 20 0,
 .h 21 20,
 .f 22 5 21,
 .l 23 22,
 .m 24 23,
 .v 25 24 false (.mv (.t 7)),
 .v 26 24 false (.mv (.t 8)),
 .v 27 24 false (.ia 7 (.t 25) (.t 26)),
 .v 28 24 false (.fa 0 (.t 27)),
 .v 29 24 false (.ld none (.t 28)),
 .v 30 24 false (.bin .neq (.t 29) (.c (.int .i64 6))),
 .v 31 24 false (.mv (.t 30)),
 .v 32 31 true (.mv (.t 7)),
 .v 33 31 true (.mv (.t 8)),
 .v 34 31 true (.ia 7 (.t 32) (.t 33)),
 .v 35 31 true (.fa 0 (.t 34)),
 .v 36 31 true (.ld none (.t 35)),
 .v 37 31 true (.bin .neq (.t 36) (.c (.int .i64 7))),
 .v 38 24 false (.pick (.t 31) (.t 37) (.c (.bool false))),
 .z 39 24 38,
 .h 40 19,
 .f 41 5 40,
 .s 1 41 39]))
 (.reg [.m 17 8,
 .u 18 .add 17 1,
 .m 8 18]))))))
 (.seq (.reg [.m 42 7,
 .m 6 42])
 (.ret))))⟩
theorem ok231:oF Tryz.f231 c231:=oI (by kernel_rfl)
def c232:F':=⟨28,[.t 6],
 .seq (.reg [.o 6 (.mv (.c (.sl true [])))])
 (.seq (.reg [.o 7 (.mv (.c (.sl true [])))])
 (.seq (.seq (.reg [.o 8 (.mv (.c (.int .i64 0)))])
 (.block 0 (.loop (.seq (.seq (.reg [.m 10 8,
 .m 11 1,
 .o 12 (.len false (.t 11)),
 .b 13 .lss 10 12])
 (.cond (.t 13)
 (.skip)
 (.exit 0)))
 (.seq (.block 1 (.seq (.reg [.m 16 0,
 .m 17 1,
 .m 18 8,
 .i 19 8 17 18,
 .j 20 8 19,
 .o 21 (.bsl 8 [(.t 20)]),
 .m 22 2,
 .o 23 (.call (.f 117) [(.t 16),(.t 21),(.t 22)]),
 .m 9 23])
 (.reg [.m 24 7,
 .m 25 9,
 .o 26 (.app 8 168 (.t 24) (.t 25)),
 .m 7 26])))
 (.reg [.m 14 8,
 .u 15 .add 14 1,
 .m 8 15]))))))
 (.seq (.reg [.m 27 7,
 .m 6 27])
 (.ret))))⟩
theorem ok232:oF Tryz.f232 c232:=oI (by kernel_rfl)
def Rd(v:V)(l:List ByteArray)(S:St):Prop:=lenS v=some (.int .i64 l.length)∧∀(i:Nat) (h:i<l.length),∃p,iaS S 1 v i=some p∧ldS S p none=some (.str l[i])
theorem Rd.sl(b:Bool)(l:List ByteArray)(S:St):Rd (.sl b (l.map .str)) l S:=⟨by simp[lenS],fun i h=>⟨_,qdp h b S,by simp[ldS]⟩⟩
theorem Rd.arr{lo wr:Nat}{l:List ByteArray}{S:St}(h:S[lo]?=some (.arr (l.map .str) 1 wr))(hw:wr≤l.length):Rd (.arr lo 0 l.length l.length) l S:=
 ⟨rfl,fun i hi=>⟨.ptr lo i 0 l.length,by simp[iaS,h,hw,hi],by simp[ldS,h,hw,hi]⟩⟩
theorem qpe(v:V)(l:List ByteArray)(s:ByteArray)(S:St)(hl:l.length≤1000000)(hr:Rd v l S):Fn prog 34 [v,.str s] S (.bool (isIn s l)):=by
 obtain ⟨hlen,hrd⟩:=hr;refine Spec.intro func34 ok34 (by simp[c34]) ?_;simp[c34];refine qap (fun n e S'=>∃i:Nat,n=l.length - i∧i≤l.length∧(∀j,(h:j<l.length)→j<i→l[j]≠s)∧S'=S∧
  e=[(5,.int .i64 i),(4,.bool false),(0,v),(1,.str s)]) l.length _ ?_ ⟨0,by simp,by omega,by omega,rfl,rfl⟩ ?_
 ·exact Env.so (by simp)
 rintro n e S' ⟨i,rfl,hi,hno,rfl,rfl⟩;by_cases h:i<l.length
 ·obtain ⟨p,hp1,hp2⟩:=hrd i h;by_cases he:l[i]=s
  ·rw[he] at hp2;simp[↓qcl,hlen,h,hp1,hp2];exact qaj rfl ⟨by rw[qd2.2 (by rw[←he];exact qtM h)];rfl,rfl⟩
  ·simp[↓qcl,hlen,h,hp1,hp2,he,qaK (n:=(i:Int)+1)];refine ⟨_,?_,_,?_,i+1,rfl,by omega,fun j hj hji=>?_,rfl⟩
   ·omega
   ·exact Env.so (by simp)
   ·by_cases hj':j=i
    ·subst hj';exact he
    ·exact hno j hj (by omega)
 ·simp[↓qcl,hlen,h];refine qaj rfl ⟨?_,rfl⟩;rw[qg3.2]
  ·rfl
  intro hs;obtain ⟨j,hj,rfl⟩:=quI hs;exact hno j hj (by omega) rfl
def bndV(e:ByteArray×Nat):V:=.agg [.str e.1,.int .i64 e.2]
theorem ql6(e:ByteArray×Nat):(bndV e).size=2:=rfl
theorem qrK{l:Sco}{i:Nat}(h:i<l.length)(b:Bool)(S:St):iaS S 2 (.sl b (l.map bndV)) i=some (.iptr (bndV l[i]) 0):=qik (f:=bndV) ql6 h b S
def qfK(l:Sco)(x:ByteArray):Option Nat:=Sco.at l.reverse x
def plcV(l:Sco)(x:ByteArray):V:=.int .i64 (match qfK l x with|some k=>(k:Int)|none=>-1)
theorem qis{l:Sco}{x:ByteArray}:Sco.at l x=none↔∀e,e∈l→e.1≠x:=by
 unfold Sco.at;simp[List.find?_eq_none]
theorem qkZ(l:Sco)(b:Bool)(x:ByteArray)(hl:l.length≤1000000)(S:St):Fn prog 175 [.sl b (l.map bndV),.str x] S (plcV l x):=by
 refine Spec.intro func175 ok175 (by simp[c175]) ?_;simp[c175,qaz (n:=(l.length:Int) - 1) (by omega) (by omega)];refine qaC (fun e U=>qfK l x=none∧U=S) ?_ ?_
 ·refine qap (fun k e U=>k≤l.length∧(∀i,(h:i<l.length)→k≤i→l[i].1≠x)∧U=S∧
   e=[(5,.int .i64 ((k:Int) - 1)),(0,.sl b (l.map bndV)),(1,.str x)]) l.length _ ?_ ⟨qtH _,by omega,rfl,rfl⟩ ?_
  ·exact Env.so (by simp)
  rintro k e U ⟨hk,hno,rfl,rfl⟩;by_cases h0:k=0
  ·subst h0;simp;unfold qfK;rw[qis];intro e he;obtain ⟨i,hi,rfl⟩:=quI (List.mem_reverse.1 he);exact hno i hi (quj _)
  ·obtain ⟨m,rfl⟩:∃m,k=m+1:=⟨k - 1,by omega⟩;have hm:m<l.length:=by omega
   have e1:((m+1:Nat):Int) - 1=m:=by omega
   rw[e1];have hg:(0:Int)≤m:=by omega
   by_cases hx:l[m].1=x
   ·simp[hg,qrK hm,bndV,ldS,hx,qeQ];refine qaj rfl ⟨?_,rfl⟩;unfold plcV
    have:qfK l x=some l[m].2:=by
     unfold qfK Sco.at;have hs:l=l.take m++(l[m]::l.drop (m+1)):=by rw[←qu0 hm,qul]
     conv=>lhs;rw[hs]
     rw[List.reverse_append,List.reverse_cons,qvl,qvl]
     have hn:(l.drop (m+1)).reverse.find? (fun p=>decide (p.1=x))=none:=by
      rw[List.find?_eq_none];intro e he;obtain ⟨i,hi,rfl⟩:=quI (List.mem_reverse.1 he);rw[List.getElem_drop];simp only[List.length_drop] at hi;have:=hno (m+1+i) (by omega) (by omega);simpa using this
     rw[hn];simp[hx]
    rw[this];rfl
   ·simp[hg,qrK hm,bndV,ldS,hx,qaz (n:=(m:Int) - 1) (by omega) (by omega)];refine ⟨m,by omega,_,?_,by omega,fun i hi hmi=>?_,rfl⟩
    ·exact Env.so (by simp)
    ·by_cases hj':m=i
     ·subst hj';exact hx
     ·exact hno i hi (by omega)
 rintro e U ⟨hn,rfl⟩;simp;refine qaj rfl ⟨?_,rfl⟩;unfold plcV;rw[hn];rfl
structure Frm(w:Nat)(P:(Nat→Prop)→(Nat→Prop)→St→Prop):Prop where
 push:∀{F D S},P F D S→∀os,P F D (S++os)
 set:∀{F D S},P F D S→∀{l} (o:Ob),Off w F D l→P F D (S.set l o)
 out:∀{F D S},P F D S→∀{l},S.length≤l→Off w F D l
theorem Gw.appF{w:Nat}{P:(Nat→Prop)→(Nat→Prop)→St→Prop}(fm:Frm w P){sz bytes:Nat}{F0 D0 F D:Nat→Prop}{xs ys:List V}{v x:V}{S0 S:St}(h:Gw sz S0.length w F D xs v S)(k:P F D S)(s:Stp w F0 D0 S0 F D S)(hx:elems S x=some ys)(hy:fits sz ys=true)(hr:(xs.length+ys.length) * bytes≤2 ^ 47):
  ∃v' S',appS S sz bytes v x=some (v',S')∧Gw sz S0.length w F D (xs++ys) v' S'∧P F D S'∧Stp w F0 D0 S0 F D S'∧(∀l o,S[l]?=some o→(∀a b c,v≠.arr l a b c)→S'[l]?=some o)∧(∀l a b c,v'=.arr l a b c→v=.arr l 0 xs.length xs.length∨l=S.length):=by
 have hlen:=s.k.len;rcases h with ⟨rfl,rfl⟩|⟨l,wr,h1,h2,rfl,h3,h4⟩
 ·cases ys with
  | nil=>
   refine ⟨.sl true [],S,?_,.inl ⟨rfl,rfl⟩,k,s,fun _ _ h _=>h,fun l a b c hh=>by cases hh⟩;unfold appS;rw[hx];rfl
  | cons y ys=>
   refine ⟨.arr S.length 0 (y::ys).length (y::ys).length,S++[.arr (y::ys) sz (y::ys).length],?_,.inr ⟨S.length,(y::ys).length,hlen,fm.out k (qtH _),by simp,by simp,by simp⟩,fm.push k _,s.push _,fun l o h _=>gp h,fun l a b c hh=>by cases hh;exact .inr rfl⟩;unfold appS;rw[hx];have hc:true=true∧fits sz (y::ys)=true∧(([]:List V).all fun v=>v.size==sz)=true∧(([]:List V).length+(y::ys).length) * bytes≤2 ^ 47:=⟨rfl,hy,rfl,hr⟩;show (if (y::ys).isEmpty=true then _ else _)=_;rw[if_neg (by simp),if_pos hc];simp
 ·have hc:0=0∧xs.length=xs.length∧xs.length=xs.length∧sz=sz∧fits sz ys=true∧(xs.length+ys.length) * bytes≤2 ^ 47:=⟨rfl,rfl,rfl,rfl,hy,hr⟩;have hlt:l<S.length:=(qtB.1 h3).1;refine ⟨.arr l 0 (xs.length+ys.length) (xs.length+ys.length),S.set l (.arr (xs++ys) sz wr),?_,.inr ⟨l,wr,h1,h2,by simp,by rw[qtE hlt],by simp;omega⟩,fm.set k _ h2,s.set _ h1,fun k o ho hne=>?_,fun l' a b c hh=>by cases hh;exact .inl rfl⟩
  ·unfold appS;rw[hx];show (match S[l]? with|_=>_)=_;rw[h3];show (if _ then _ else _)=_;rw[if_pos hc]
  ·rw[qtG (by rintro rfl;exact hne _ _ _ rfl)];exact ho
theorem Gw.app1F{w:Nat}{P:(Nat→Prop)→(Nat→Prop)→St→Prop}(fm:Frm w P){sz bytes:Nat}{F0 D0 F D:Nat→Prop}{xs:List V}{y v:V}{S0 S:St}{b:Bool}(h:Gw sz S0.length w F D xs v S)(k:P F D S)(s:Stp w F0 D0 S0 F D S)(hy:fits sz [y]=true)(hr:(xs.length+1) * bytes≤2 ^ 47):
  ∃v' S',appS S sz bytes v (.sl b [y])=some (v',S')∧Gw sz S0.length w F D (xs++[y]) v' S'∧P F D S'∧Stp w F0 D0 S0 F D S'∧(∀l o,S[l]?=some o→(∀a b c,v≠.arr l a b c)→S'[l]?=some o)∧(∀l a b c,v'=.arr l a b c→v=.arr l 0 xs.length xs.length∨l=S.length):=
 h.appF fm k s (qcC S b [y]) hy hr
theorem Gw.finF{w:Nat}{P:(Nat→Prop)→(Nat→Prop)→St→Prop}(fm:Frm w P){sz:Nat}{F0 D0 F D:Nat→Prop}{xs:List V}{v:V}{S0 U:St}(h:Gw sz S0.length w F D xs v U)(k:P F D U)(s:Stp w F0 D0 S0 F D U):
  ∃U',qa1 S0.length v U (.sl false (xs.map V.weak)) U'∧P F D U'∧Stp w F0 D0 S0 F D U':=by
 rcases h with ⟨rfl,rfl⟩|⟨l,wr,h1,h2,rfl,h3,h4⟩
 ·exact ⟨U,qa1.weak (r:=.sl true []),k,s⟩
 ·have g1:=qa1.freeze (n:=S0.length) (l:=l) (off:=0) (len:=xs.length) (st:=xs.length) h3 h4 (by omega);simp only[List.drop_zero,qt7] at g1;have g2:qa1 S0.length (.sl false xs) (U.set l .dead) (V.sl false xs).weak (U.set l .dead):=qa1.weak;simp only[V.weak,qaJ] at g2;exact ⟨_,g1.trans g2,fm.set k _ h2,s.set _ h1⟩
def Rd'(w:Nat)(P':(Nat→Prop)→(Nat→Prop)→St→Prop)(F D:Nat→Prop)(S:St)(x:V)(r:V)(U:St):Prop:=r=x∧∃F' D',P' F' D' U∧Stp w F D S F' D' U
theorem qd0{w:Nat}{P:(Nat→Prop)→(Nat→Prop)→St→Prop}(fm:Frm w P){sz:Nat}{F0 D0 F D:Nat→Prop}{xs:List V}{v:V}{S0 U:St}{rs:List RV}{e:Env}(hv:rvs e U rs=some [v])(h:Gw sz S0.length w F D xs v U)(k:P F D U)(s:Stp w F0 D0 S0 F D U){ys:List V}(hx:xs.map V.weak=ys):
  endp rs S0.length (fun r U=>Rd' w P F0 D0 S0 (.sl false ys) r U) .ret e U:=by
 obtain ⟨U',g,k',s'⟩:=h.finF fm k s;exact ⟨_,hv,_,U',g,by rw[hx],F,D,k',s'⟩
def LwF(w sz:Nat)(F D:Nat→Prop)(S:St)(len:Nat)(P:Nat→(Nat→Prop)→(Nat→Prop)→St→Prop)(xs:Nat→List V)(env:Nat→V→Env)(j:Nat)(e:Env)(U:St):Prop:=∃(i:Nat) (gv:V) (F' D':Nat→Prop),j=len - i∧i≤len∧Gw sz S.length w F' D' (xs i) gv U∧P i F' D' U∧Stp w F D S F' D' U∧e=env i gv
def WwF(w sz:Nat)(F D:Nat→Prop)(S:St)(P:(Nat→Prop)→(Nat→Prop)→St→Prop)(reg:Nat)(xs:List V)(e:Env)(U:St):Prop:=∃(gv:V) (F' D':Nat→Prop),e.get reg=some gv∧Gw sz S.length w F' D' xs gv U∧P F' D' U∧Stp w F D S F' D' U
def Gs(w:Nat)(F:Nat→Prop)(xs:List ByteArray)(v:V)(S:St):Prop:=(xs=[]∧v=.sl true [])∨∃l wr,F l∧l≠w∧v=.arr l 0 xs.length xs.length∧S[l]?=some (.arr (xs.map .str) 1 wr)∧wr≤xs.length
def Fr(D:Nat→Prop)(fv:V)(fresh:List ByteArray)(S:St):Prop:=(∃b,fv=.sl b (fresh.map .str))∨∃l wr,D l∧fv=.arr l 0 fresh.length fresh.length∧S[l]?=some (.arr (fresh.map .str) 1 wr)∧wr≤fresh.length
def wkO(r:Rp)(bf bt:Bool)(fv vb vf:V)(st:Rst):Ob:=.arr [.agg [vb,vf,fv,.sl bf (r.fro.map .str),.sl bt (r.to.map Ex.v),.bool st.bad,.bool st.caught]] 7 1
structure Rk(r:Rp)(bf bt:Bool)(w:Nat)(fv:V)(bound:List ByteArray)(st:Rst)(F D:Nat→Prop)(S:St):Prop where
 wx:∃vb vf,S[w]?=some (wkO r bf bt fv vb vf st)∧Gs w F bound vb S∧Gs w F st.free vf S∧∀l a b c,vb=.arr l a b c→∀a' b' c',vf≠.arr l a' b' c'
 fr:Fr D fv r.fresh S
 lt:∀l,F l∨D l→l<S.length
 nF:¬ F w
 nD:¬ D w
 di:∀l,F l→¬ D l
 lw:w<S.length
theorem Gs.keep{w:Nat}{F:Nat→Prop}{xs:List ByteArray}{v:V}{S U:St}(h:Gs w F xs v S)(hk:∀l o,F l→S[l]?=some o→U[l]?=some o):Gs w F xs v U:=by
 rcases h with h|⟨l,wr,h1,h2,h3,h4,h5⟩
 ·exact .inl h
 ·exact .inr ⟨l,wr,h1,h2,h3,hk l _ h1 h4,h5⟩
theorem Gs.flat{w:Nat}{F:Nat→Prop}{xs:List ByteArray}{v:V}{S:St}(h:Gs w F xs v S):v.cells=[v]∧v.flat=true∧v.size=1∧lenS v=some (.int .i64 xs.length):=by
 rcases h with ⟨rfl,rfl⟩|⟨l,wr,h1,h2,rfl,h4,h5⟩ <;> exact ⟨rfl,rfl,rfl,rfl⟩
theorem Fr.keep{D:Nat→Prop}{xs:List ByteArray}{v:V}{S U:St}(h:Fr D v xs S)(hk:∀l o,D l→S[l]?=some o→U[l]?=some o):Fr D v xs U:=by
 rcases h with h|⟨l,wr,h1,h3,h4,h5⟩
 ·exact .inl h
 ·exact .inr ⟨l,wr,h1,h3,hk l _ h1 h4,h5⟩
theorem Fr.rd{D:Nat→Prop}{xs:List ByteArray}{v:V}{S:St}(h:Fr D v xs S):Rd v xs S:=by
 rcases h with ⟨b,rfl⟩|⟨l,wr,h1,rfl,h4,h5⟩
 ·exact Rd.sl b xs S
 ·exact Rd.arr h4 h5
theorem Rk.frm(r:Rp)(bf bt:Bool)(w:Nat)(fv:V)(bound:List ByteArray)(st:Rst):Frm w (Rk r bf bt w fv bound st) where
 push {F D S} h os:=by
  have g:∀l o,S[l]?=some o→(S++os)[l]?=some o:=fun l o h=>by rw[qtD (qtB.1 h).1];exact h
  obtain ⟨vb,vf,h1,h2,h3,h4⟩:=h.wx;exact ⟨⟨vb,vf,g _ _ h1,h2.keep fun l o _=>g l o,h3.keep fun l o _=>g l o,h4⟩,h.fr.keep fun l o _=>g l o,fun l hl=>by have:=h.lt l hl;simp;omega,h.nF,h.nD,h.di,by simp;have:=h.lw;omega⟩
 set {F D S} h l o hl:=by
  have g:∀k o',(k=w∨F k∨D k)→S[k]?=some o'→(S.set l o)[k]?=some o':=fun k o' hk h=>by
   rw[qtG]
   ·exact h
   ·rintro rfl;rcases hk with hk|hk|hk
    ·exact hl.1 hk
    ·exact hl.2.1 hk
    ·exact hl.2.2 hk
  obtain ⟨vb,vf,h1,h2,h3,h4⟩:=h.wx;exact ⟨⟨vb,vf,g _ _ (.inl rfl) h1,h2.keep fun l o h=>g l o (.inr (.inl h)),h3.keep fun l o h=>g l o (.inr (.inl h)),h4⟩,h.fr.keep fun l o h=>g l o (.inr (.inr h)),fun l hl=>by have:=h.lt l hl;simpa using this,h.nF,h.nD,h.di,by simpa using h.lw⟩
 out {F D S} h l hl:=⟨by have:=h.lw;omega,fun hf=>by have:=h.lt l (.inl hf);omega,fun hf=>by have:=h.lt l (.inr hf);omega⟩
def ScD(sc:Scs):Prop:=∀s,s∈sc→(s.map (·.1)).Nodup
theorem qsz{s:Sco}(x:ByteArray)(h:(s.map (·.1)).Nodup):Sco.at s.reverse x=Sco.at s x:=by
 induction s with
 | nil=>rfl
 | cons e s ih=>
  rw[qtW,List.nodup_cons] at h;have ih:=ih h.2;unfold Sco.at at ih ⊢;rw[List.reverse_cons,qvl,List.find?_cons];by_cases hx:e.1=x
  ·have hn:s.reverse.find? (fun p=>decide (p.1=x))=none:=by
    rw[List.find?_eq_none];intro e' he' hh;simp only[decide_eq_true_eq] at hh;exact h.1 (by rw[hx,←hh];exact qup (List.mem_reverse.1 he'))
   rw[hn];simp[hx]
  ·simp only[decide_eq_false hx];simp only[List.find?_cons,decide_eq_false hx,List.find?_nil,Option.or_none];exact ih
theorem qiy:∀(sc:Scs) (x:ByteArray),ScD sc→qfK (Scs.flat sc) x=sc.at x
 | [],x,_=>rfl
 | s::r,x,h=>by
  have ih:=qiy r x fun s hs=>h s (qvg _ hs)
  have hs:=qsz x (h s (List.mem_cons_self ..));unfold qfK Sco.at at *;simp only[Scs.flat,List.reverse_append,qvl,Scs.at,Sco.at]
  cases hf:s.reverse.find? (fun p=>decide (p.1=x)) with
  | some p=>rw[hf] at hs;rw[←hs];simp
  | none=>rw[hf] at hs;rw[←hs];simpa using ih
theorem qdR:∀(l:List ByteArray) (s:Sco) (n:Nat),(s.map (·.1)).Nodup→((binds l s n).map (·.1)).Nodup
 | [],s,n,h=>h
 | x::l,s,n,h=>by
  simp only[binds];split
  ·exact qdR l s n h
  ·rename_i hx;refine qdR l _ _ ?_;rw[qtX,List.nodup_append];refine ⟨h,by simp,?_⟩;intro a ha b hb;simp at hb;subst hb;rintro rfl;obtain ⟨e,he,rfl⟩:=qt3.1 ha;apply hx
   cases hf:Sco.at s e.1 with
   | some k=>rfl
   | none=>exact absurd rfl (qis.1 hf e he)
theorem ScD.bind{sc:Scs}(h:ScD sc)(l:List ByteArray)(n:Nat):ScD (qae l n::sc):=fun s hs=>by
 rcases quc.1 hs with rfl|hs
 ·exact qdR l [] n List.nodup_nil
 ·exact h s hs
theorem qc9{r:Rp}{bf bt:Bool}{w:Nat}{fv:V}{bound:List ByteArray}{st:Rst}{F D:Nat→Prop}{S:St}(hk:Rk r bf bt w fv bound st F D S):∃vb vf,ldS S (.ptr w 0 0 1) none=some vb∧ldS S (.ptr w 0 1 1) none=some vf∧ldS S (.ptr w 0 2 1) none=some fv∧ldS S (.ptr w 0 3 1) none=some (.sl bf (r.fro.map .str))∧ldS S (.ptr w 0 4 1) none=some (.sl bt (r.to.map Ex.v))∧ldS S (.ptr w 0 5 1) none=some (.bool st.bad)∧ldS S (.ptr w 0 6 1) none=some (.bool st.caught):=by
 obtain ⟨vb,vf,h,_⟩:=hk.wx;unfold wkO at h;refine ⟨vb,vf,?_,?_,?_,?_,?_,?_,?_⟩ <;> simp[ldS,h]
theorem qgV(r:Rp)(bf bt:Bool)(w:Nat)(fv:V)(bound:List ByteArray)(st:Rst)(F D:Nat→Prop)(S:St)(hk:Rk r bf bt w fv bound st F D S)(b:Bool)(sc:Scs)(hd:ScD sc)(hl:(Scs.flat sc).length≤1000000)(x:ByteArray):
  Fn prog 176 [.ptr w 0 0 1,.sl b ((Scs.flat sc).map bndV),.str x] S (.str (rren r sc x)):=by
 refine Spec.intro func176 ok176 (by simp[c176]) ?_;obtain ⟨vb,vf,_,_,hfr,_⟩:=qc9 hk;obtain ⟨hlen,hrd⟩:=hk.fr.rd;simp[c176];refine qag (qkZ _ b x hl S) ?_;unfold plcV;rw[qiy sc x hd]
 have hr:rren r sc x=match sc.at x with
  | some k=>(r.fresh[k]?).getD x
  | none=>x:=rfl
 cases hat:sc.at x with
 | none=>
  rw[hat] at hr;simp only at hr;rw[hr];simp;exact qaj rfl ⟨rfl,rfl⟩
 | some k=>
  rw[hat] at hr;simp only at hr;have hk0:(0:Int)≤k:=by omega
  by_cases hlt:k<r.fresh.length
  ·obtain ⟨p,hp1,hp2⟩:=hrd k hlt;rw[hr,qtF hlt];simp[hk0,↓qcl,qbd,hfr,hlen,hlt,hp1,hp2];exact qaj rfl ⟨rfl,rfl⟩
  ·rw[hr,qur (by omega)];simp[hk0,↓qcl,qbd,hfr,hlen,hlt];exact qaj rfl ⟨rfl,rfl⟩
theorem qgx(l:List ByteArray):fits 1 (l.map V.str)=true:=by simp[fits]
theorem qk7(l:List Sm)(hl:qaD (l.map Pa.st)≤4000)(b:Bool)(w:Nat)(P:(Nat→Prop)→(Nat→Prop)→St→Prop)(fm:Frm w P)(F D:Nat→Prop)(S:St)(hk:P F D S):
  Spec prog 163 [.sl b (l.map Sm.v)] S (fun r U=>Rd' w P F D S (.sl false ((qak l).map .str)) r U):=by
 have hlen:l.length≤4000:=by have:=qaR (l.map Pa.st);rw[qtN] at this;omega
 have hlab:∀i,i≤l.length→(qak (l.take i)).length≤4000:=fun i _=>by
  have:∀m:List Sm,(qak m).length≤qaD (m.map Pa.st):=by
   intro m
   induction m with
   | nil=>simp[qak]
   | cons x m ih=>
    have:=Sm.size_parts x;simp only[qak,quz,qtZ,qtW,sizes_cons] at ih ⊢;omega
  have h1:=this (l.take i);have h2:qaD (l.map Pa.st)=qaD ((l.take i).map Pa.st)+qaD ((l.drop i).map Pa.st):=by rw[←qa5,←qtX,qul]
  omega
 refine Spec.weakA ?_;simp only[V.weakL,V.weak,wSm];refine Spec.intro func163 ok163 (by simp[c163]) ?_;simp[c163];refine qaC (WwF w 1 F D S P 3 ((qak l).map .str)) ?_ ?_
 ·refine qap (LwF w 1 F D S l.length (fun _=>P) (fun i=>(qak (l.take i)).map .str)
   (fun i gv=>[(4,.int .i64 i),(3,gv),(0,.sl false (l.map Sm.v))])) l.length _ ?_ ⟨0,_,F,D,by simp,by omega,by simp[qak];exact Gw.nil _ _ _ _ _ _,hk,Stp.refl _ _ _ _,rfl⟩ ?_
  ·exact Env.so (by simp)
  rintro j e U ⟨i,gv,F1,D1,rfl,hi,hg,hk1,hs1,rfl⟩;dsimp only at hg hk1;by_cases hlt:i<l.length
  ·obtain ⟨v',U3,ha,hg3,hk3,hs4,_⟩:=hg.appF fm (bytes:=16) (x:=.sl false (l[i].labels.map .str)) hk1 hs1 (qcC _ _ _) (qgx _) (by
    have:=hlab i (by omega);have h2:=qaV (l:=l.map Pa.st) (i:=i) (q:=Pa.st l[i]) (by simp[hlt]);have h3:=Sm.size_parts l[i];rw[qtN,qtN];omega)
   have hn:(qak (l.take i)).map V.str++l[i].labels.map .str=(qak (l.take (i+1))).map .str:=by
    rw[qtQ,qtF hlt,qug,←qtX];unfold qak;rw[List.flatMap_append];simp
   rw[hn] at hg3;simp[hlt,iaSm,ldS,ha,qaK (n:=(i:Int)+1)];refine ⟨_,?_,_,?_,i+1,v',F1,D1,rfl,by omega,hg3,hk3,hs4,rfl⟩
   ·omega
   ·exact Env.so (by simp)
  ·have:i=l.length:=by omega
   subst this;simp only[qt7] at hg hk1;simp;exact ⟨gv,F1,D1,rfl,hg,hk1,hs1⟩
 rintro e U ⟨gv,F1,D1,g5,hg,hk1,hs1⟩;simp[g5];exact qd0 fm rfl hg hk1 hs1 (by rw[←qaJ,wStr])
theorem Gs.app{w:Nat}{F D:Nat→Prop}{xs:List ByteArray}{v:V}{S:St}(h:Gs w F xs v S)(hlt:∀l,F l∨D l→l<S.length)(hw:w<S.length)(x:ByteArray)(hr:(xs.length+1) * 16≤2 ^ 47)(b:Bool):
  ∃v' S' F',appS S 1 16 v (.sl b [.str x])=some (v',S')∧Gs w F' (xs++[x]) v' S'∧S.length≤S'.length∧(∀l o,S[l]?=some o→(∀a b c,v≠.arr l a b c)→S'[l]?=some o)∧(∀l,F' l↔F l∨v=.sl true []∧l=S.length)∧(∀l,l<S.length→¬ F l→S'[l]?=S[l]?)∧(∀l,F' l→l<S'.length)∧(v=.sl true []→v'=.arr S.length 0 1 1)∧(∀l a b c,v=.arr l a b c→v'=.arr l 0 (xs.length+1) (xs.length+1)):=by
 have hy:fits 1 [V.str x]=true:=rfl;rcases h with ⟨rfl,rfl⟩|⟨l,wr,h1,h2,rfl,h3,h4⟩
 ·refine ⟨.arr S.length 0 1 1,S++[.arr [.str x] 1 1],fun l=>F l∨l=S.length,?_,.inr ⟨S.length,1,.inr rfl,by omega,by simp,by simp,by simp⟩,by simp,fun l o h _=>gp h,fun l=>by simp,fun l hl _=>by rw[qtD hl],?_,fun _=>rfl,fun l a b c hh=>by cases hh⟩
  ·unfold appS;rw[qcC];have hc:true=true∧fits 1 [V.str x]=true∧(([]:List V).all fun v=>v.size==1)=true∧(([]:List V).length+[V.str x].length) * 16≤2 ^ 47:=⟨rfl,hy,rfl,by simp⟩;show (if [V.str x].isEmpty=true then _ else _)=_;rw[if_neg (by simp),if_pos hc];simp
  ·rintro l (hl|rfl)
   ·have:=hlt l (.inl hl);simp;omega
   ·simp
 ·have hc:0=0∧xs.length=(xs.map V.str).length∧xs.length=(xs.map V.str).length∧1=1∧fits 1 [V.str x]=true∧((xs.map V.str).length+[V.str x].length) * 16≤2 ^ 47:=⟨rfl,by simp,by simp,rfl,hy,by simpa using hr⟩;have hlt':l<S.length:=(qtB.1 h3).1;refine ⟨.arr l 0 (xs.length+1) (xs.length+1),S.set l (.arr (xs.map .str++[.str x]) 1 wr),F,?_,.inr ⟨l,wr,h1,h2,by simp,by rw[qtE hlt'];simp,by simp;omega⟩,by simp,fun k o ho hne=>?_,fun l=>by simp,fun k hk hn=>?_,fun k hk=>by have:=hlt k (.inl hk);simpa using this,fun hh=>(by cases hh),fun l a b c hh=>by cases hh;rfl⟩
  ·unfold appS;rw[qcC];show (match S[l]? with|_=>_)=_;rw[h3];show (if _ then _ else _)=_;rw[if_pos hc];simp
  ·rw[qtG (by rintro rfl;exact hne _ _ _ rfl)];exact ho
  ·rw[qtG (by rintro rfl;exact hn h1)]
theorem Rk.addB{r:Rp}{bf bt:Bool}{w:Nat}{fv:V}{bound:List ByteArray}{st:Rst}{F D:Nat→Prop}{S:St}(h:Rk r bf bt w fv bound st F D S)(x:ByteArray)(hr:(bound.length+1) * 16≤2 ^ 47)(b:Bool):
  ∃vb vf vb' S' F',S[w]?=some (wkO r bf bt fv vb vf st)∧appS S 1 16 vb (.sl b [.str x])=some (vb',S')∧S'[w]?=some (wkO r bf bt fv vb vf st)∧vb'.cells=[vb']∧vb'.flat=true∧vb'.size=1∧lenS vb=some (.int .i64 bound.length)∧Rk r bf bt w fv (bound++[x]) st F' D (S'.set w (wkO r bf bt fv vb' vf st))∧Stp w F D S F' D (S'.set w (wkO r bf bt fv vb' vf st)):=by
 obtain ⟨vb,vf,h1,h2,h3,h4⟩:=h.wx;obtain ⟨vb',S',F',a1,a2,a3,a4,a5,a6,a7,a8,a9⟩:=h2.app h.lt h.lw x hr b;have hlw:=h.lw;have hw':S'[w]?=some (wkO r bf bt fv vb vf st):=by rw[a6 w h.lw h.nF];exact h1
 have hset:∀l o,l≠w→S'[l]?=some o→(S'.set w (wkO r bf bt fv vb' vf st))[l]?=some o:=fun l o hl ho=>by rw[qtG (Ne.symm hl)];exact ho
 have hFn:∀l,F' l→F l∨S.length≤l:=fun l hl=>((a5 l).1 hl).imp id fun hh=>by omega
 have hvf:Gs w F' st.free vf (S'.set w (wkO r bf bt fv vb' vf st)):=by
  rcases h3 with hh|⟨l,wr,z1,z2,z3,z4,z5⟩
  ·exact .inl hh
  ·refine .inr ⟨l,wr,(a5 l).2 (.inl z1),z2,z3,hset _ _ z2 (a4 l _ z4 fun a b c hh=>h4 l a b c hh _ _ _ z3),z5⟩
 obtain ⟨f1,f2,f3,_⟩:=a2.flat;refine ⟨vb,vf,vb',S',F',h1,a1,hw',f1,f2,f3,h2.flat.2.2.2,⟨⟨vb',vf,?_,?_,?_,?_⟩,?_,?_,?_,h.nD,?_,?_⟩,⟨?_,?_⟩,hFn,grow.refl _ _⟩
 ·exact qtE (by omega)
 ·exact a2.keep fun l o hl ho=>hset _ _ (fun hh=>by subst hh;rcases hFn _ hl with hh|hh;exact h.nF hh;omega) ho
 ·exact hvf
 ·intro l a b c hb a' b' c' hf;rcases h2 with ⟨_,rfl⟩|⟨l0,wr,z1,z2,rfl,z4,z5⟩
  ·rw[a8 rfl] at hb;cases hb;rcases h3 with ⟨_,hh⟩|⟨l1,wr1,y1,y2,y3,y4,y5⟩
   ·rw[hh] at hf;cases hf
   ·rw[y3] at hf;cases hf;have:=glt y4;omega
  ·rw[a9 _ _ _ _ rfl] at hb;cases hb;exact h4 _ _ _ _ rfl _ _ _ hf
 ·exact h.fr.keep fun l o hl ho=>hset _ _ (fun hh=>h.nD (hh ▸ hl)) (by rw[a6 l (h.lt l (.inr hl)) (fun hf=>h.di l hf hl)];exact ho)
 ·rintro l (hl|hl)
  ·have:=a7 l hl;simpa using this
  ·have:=h.lt l (.inr hl);simp;omega
 ·intro hf;rcases hFn _ hf with hh|hh
  ·exact h.nF hh
  ·omega
 ·intro l hl hd;rcases hFn _ hl with hh|hh
  ·exact h.di l hh hd
  ·have:=h.lt l (.inr hd);omega
 ·simp;omega
 ·simp;omega
 ·intro l hl hn;rw[qtG (fun hh=>hn (.inl hh.symm)),a6 l hl fun hf=>hn (.inr hf)]
theorem Rk.addF{r:Rp}{bf bt:Bool}{w:Nat}{fv:V}{bound:List ByteArray}{st:Rst}{F D:Nat→Prop}{S:St}(h:Rk r bf bt w fv bound st F D S)(x:ByteArray)(hr:(st.free.length+1) * 16≤2 ^ 47)(b:Bool):
  ∃vb vf vf' S' F',S[w]?=some (wkO r bf bt fv vb vf st)∧appS S 1 16 vf (.sl b [.str x])=some (vf',S')∧S'[w]?=some (wkO r bf bt fv vb vf st)∧vf'.cells=[vf']∧vf'.flat=true∧vf'.size=1∧Rk r bf bt w fv bound { st with free:=st.free++[x] } F' D (S'.set w (wkO r bf bt fv vb vf' st))∧Stp w F D S F' D (S'.set w (wkO r bf bt fv vb vf' st)):=by
 obtain ⟨vb,vf,h1,h3,h2,h4⟩:=h.wx;obtain ⟨vf',S',F',a1,a2,a3,a4,a5,a6,a7,a8,a9⟩:=h2.app h.lt h.lw x hr b;have hlw:=h.lw;have hw':S'[w]?=some (wkO r bf bt fv vb vf st):=by rw[a6 w h.lw h.nF];exact h1
 have hset:∀l o,l≠w→S'[l]?=some o→(S'.set w (wkO r bf bt fv vb vf' st))[l]?=some o:=fun l o hl ho=>by rw[qtG (Ne.symm hl)];exact ho
 have hFn:∀l,F' l→F l∨S.length≤l:=fun l hl=>((a5 l).1 hl).imp id fun hh=>by omega
 have hvf:Gs w F' bound vb (S'.set w (wkO r bf bt fv vb vf' st)):=by
  rcases h3 with hh|⟨l,wr,z1,z2,z3,z4,z5⟩
  ·exact .inl hh
  ·refine .inr ⟨l,wr,(a5 l).2 (.inl z1),z2,z3,hset _ _ z2 (a4 l _ z4 fun a b c hh=>h4 l _ _ _ z3 a b c hh),z5⟩
 obtain ⟨f1,f2,f3,_⟩:=a2.flat;refine ⟨vb,vf,vf',S',F',h1,a1,hw',f1,f2,f3,⟨⟨vb,vf',?_,?_,?_,?_⟩,?_,?_,?_,h.nD,?_,?_⟩,⟨?_,?_⟩,hFn,grow.refl _ _⟩
 ·exact qtE (by omega)
 ·exact hvf
 ·exact a2.keep fun l o hl ho=>hset _ _ (fun hh=>by subst hh;rcases hFn _ hl with hh|hh;exact h.nF hh;omega) ho
 ·intro l a b c hb a' b' c' hf;rcases h2 with ⟨_,rfl⟩|⟨l0,wr,z1,z2,rfl,z4,z5⟩
  ·rw[a8 rfl] at hf;cases hf;rcases h3 with ⟨_,hh⟩|⟨l1,wr1,y1,y2,y3,y4,y5⟩
   ·rw[hh] at hb;cases hb
   ·rw[y3] at hb;cases hb;have:=glt y4;omega
  ·rw[a9 _ _ _ _ rfl] at hf;cases hf;exact h4 _ _ _ _ hb _ _ _ rfl
 ·exact h.fr.keep fun l o hl ho=>hset _ _ (fun hh=>h.nD (hh ▸ hl)) (by rw[a6 l (h.lt l (.inr hl)) (fun hf=>h.di l hf hl)];exact ho)
 ·rintro l (hl|hl)
  ·have:=a7 l hl;simpa using this
  ·have:=h.lt l (.inr hl);simp;omega
 ·intro hf;rcases hFn _ hf with hh|hh
  ·exact h.nF hh
  ·omega
 ·intro l hl hd;rcases hFn _ hl with hh|hh
  ·exact h.di l hh hd
  ·have:=h.lt l (.inr hd);omega
 ·simp;omega
 ·simp;omega
 ·intro l hl hn;rw[qtG (fun hh=>hn (.inl hh.symm)),a6 l hl fun hf=>hn (.inr hf)]
theorem Rk.flag{r:Rp}{bf bt:Bool}{w:Nat}{fv:V}{bound:List ByteArray}{st:Rst}{F D:Nat→Prop}{S:St}(h:Rk r bf bt w fv bound st F D S)(b c:Bool):
  ∃vb vf,S[w]?=some (wkO r bf bt fv vb vf st)∧vb.cells=[vb]∧vf.cells=[vf]∧Rk r bf bt w fv bound { st with bad:=b,caught:=c } F D (S.set w (wkO r bf bt fv vb vf { st with bad:=b,caught:=c }))∧Stp w F D S F D (S.set w (wkO r bf bt fv vb vf { st with bad:=b,caught:=c })):=by
 obtain ⟨vb,vf,h1,h2,h3,h4⟩:=h.wx;have g:∀l o,l≠w→S[l]?=some o→(S.set w (wkO r bf bt fv vb vf { st with bad:=b,caught:=c }))[l]?=some o:=fun l o hl ho=>by rw[qtG (Ne.symm hl)];exact ho
 refine ⟨vb,vf,h1,h2.flat.1,h3.flat.1,⟨⟨vb,vf,qtE h.lw,h2.keep fun l o hl=>g l o (fun hh=>h.nF (hh ▸ hl)),h3.keep fun l o hl=>g l o (fun hh=>h.nF (hh ▸ hl)),h4⟩,h.fr.keep fun l o hl=>g l o (fun hh=>h.nD (hh ▸ hl)),fun l hl=>by have:=h.lt l hl;simpa using this,h.nF,h.nD,h.di,by simpa using h.lw⟩,⟨(Kp.refl _ _).set _ (.inl (.inl rfl)),grow.refl _ _,grow.refl _ _⟩⟩
def Nr(w:Nat)(F D:Nat→Prop)(names:List ByteArray)(v:V)(S:St):Prop:=(∃b,v=.sl b (names.map .str))∨∃l wr,Off w F D l∧v=.arr l 0 names.length names.length∧S[l]?=some (.arr (names.map .str) 1 wr)∧wr≤names.length
theorem Nr.step{w:Nat}{F D F' D':Nat→Prop}{names:List ByteArray}{v:V}{S U:St}(h:Nr w F D names v S)(s:Stp w F D S F' D' U):Nr w F' D' names v U:=by
 rcases h with h|⟨l,wr,h2,h3,h4,h5⟩
 ·exact .inl h
 ·exact .inr ⟨l,wr,h2.next (glt h4) s,h3,s.at h2 h4,h5⟩
theorem Nr.rd{w:Nat}{F D:Nat→Prop}{names:List ByteArray}{v:V}{S:St}(h:Nr w F D names v S):Rd v names S:=by
 rcases h with ⟨b,rfl⟩|⟨l,wr,h1,rfl,h4,h5⟩
 ·exact Rd.sl b names S
 ·exact Rd.arr h4 h5
theorem Gw.other{sz n0 w:Nat}{F D:Nat→Prop}{xs:List V}{v:V}{S U:St}(h:Gw sz n0 w F D xs v S)(hk:∀l o,S[l]?=some o→(∀a b c,v=.arr l a b c→U[l]?=some o)):Gw sz n0 w F D xs v U:=by
 rcases h with h|⟨l,wr,h1,h2,h3,h4,h5⟩
 ·exact .inl h
 ·exact .inr ⟨l,wr,h1,h2,h3,hk l _ h4 _ _ _ h3,h5⟩
theorem Gw.rd{n0 w:Nat}{F D:Nat→Prop}{names:List ByteArray}{v:V}{S:St}(h:Gw 1 n0 w F D (names.map .str) v S):Rd v names S:=by
 rcases h with ⟨h1,rfl⟩|⟨l,wr,h1,h2,rfl,h4,h5⟩
 ·rw[List.map_eq_nil_iff] at h1;subst h1;exact Rd.sl true [] S
 ·rw[qtN] at h5 ⊢;exact Rd.arr h4 h5
theorem qox(s:Sco)(x:ByteArray):isIn x (s.map (·.1))=(Sco.at s x).isSome:=by
 cases h:Sco.at s x with
 | none=>
  rw[qg3.2]
  ·rfl
  intro hm;obtain ⟨e,he,rfl⟩:=qt3.1 hm;exact qis.1 h e he rfl
 | some k=>
  rw[qd2.2]
  ·rfl
  unfold Sco.at at h;rw[qtK] at h;obtain ⟨e,he,_⟩:=h;have h1:=List.find?_some he;simp only[decide_eq_true_eq] at h1;rw[←h1];exact qup (List.mem_of_find?_eq_some he)
def qfg(v u:V):Prop:=∀l a b c,v=.arr l a b c→∀a' b' c',u≠.arr l a' b' c'
structure Ei(r:Rp)(bf bt:Bool)(w:Nat)(fv:V)(bound:List ByteArray)(st:Rst)(F D:Nat→Prop)(S:St)(sc:Scs)(names:List ByteArray)(nv:V)(i:Nat)(hv ov:V)(F' D':Nat→Prop)(U:St):Prop where
 rk:Rk r bf bt w fv (bound++(qae (names.take i) bound.length).map (·.1)) st F' D' U
 st:Stp w F D S F' D' U
 had:Gw 1 S.length w F' D' (((qae (names.take i) bound.length).map (·.1)).map .str) hv U
 out:Gw 2 S.length w F' D' ((Scs.flat sc++qae (names.take i) bound.length).map bndV) ov U
 nr:Nr w F' D' names nv U
 df:qfg hv ov
def EiL(r:Rp)(bf bt:Bool)(w:Nat)(fv:V)(bound:List ByteArray)(st:Rst)(F D:Nat→Prop)(S:St)(sc:Scs)(names:List ByteArray)(nv:V)(j:Nat)(e:Env)(U:St):Prop:=
 ∃(i:Nat) (hv ov:V) (F' D':Nat→Prop),j=names.length - i∧i≤names.length∧Ei r bf bt w fv bound st F D S sc names nv i hv ov F' D' U∧e=[(9,.int .i64 i),(7,hv),(8,ov),(0,.ptr w 0 0 1),(2,nv)]
def EiE(r:Rp)(bf bt:Bool)(w:Nat)(fv:V)(bound:List ByteArray)(st:Rst)(F D:Nat→Prop)(S:St)(sc:Scs)(names:List ByteArray)(nv:V)(e:Env)(U:St):Prop:=
 ∃(hv ov:V) (F' D':Nat→Prop),Ei r bf bt w fv bound st F D S sc names nv names.length hv ov F' D' U∧e.get 8=some ov
theorem qmk(l:Sco):V.weakL (l.map bndV)=l.map bndV:=qcY (fun _=>rfl) l
theorem qij(r:Rp)(bf bt:Bool)(w:Nat)(fv:V)(bound:List ByteArray)(st:Rst)(F D:Nat→Prop)(S:St)(hk:Rk r bf bt w fv bound st F D S)(b:Bool)(sc:Scs)(names:List ByteArray)(nv:V)(hnr:Nr w F D names nv S)
  (hl:(Scs.flat sc).length+names.length≤100000) (hb:bound.length+names.length≤100000):
  Spec prog 162 [.ptr w 0 0 1,.sl b ((Scs.flat sc).map bndV),nv] S (fun v U=>Rd' w (Rk r bf bt w fv (bound++nms names) st) F D S (.sl false ((Scs.flat (qae names bound.length::sc)).map bndV)) v U):=by
 refine Spec.intro func162 ok162 (by simp[c162]) ?_;have fm:=Rk.frm r bf bt w fv bound st;have hfb:fits 2 ((Scs.flat sc).map bndV)=true:=by simp[fits,bndV,V.size,V.cells,V.flat]
 obtain ⟨ov,S1,ha,hg,hk1,hs1,_⟩:=(Gw.nil 2 S.length w F D S).appF fm (bytes:=24) (x:=.sl b ((Scs.flat sc).map bndV)) hk (Stp.refl _ _ _ _) (qcC _ _ _) hfb (by simp;omega);rw[qt4] at hg;have hf0:fits 2 []=true:=rfl;simp[c162,hf0,ha];refine qaC (EiE r bf bt w fv bound st F D S sc names nv) ?_ ?_
 ·refine qap (EiL r bf bt w fv bound st F D S sc names nv) names.length _ ?_ ⟨0,.sl true [],ov,F,D,by simp,by omega,⟨by simpa[qae,binds] using hk1,hs1,by simpa[qae,binds] using Gw.nil 1 S.length w F D S1,by simpa[qae,binds] using hg,hnr.step hs1,fun l a b c hh=>by cases hh⟩,rfl⟩ ?_
  ·exact Env.so (by simp)
  rintro j e U ⟨i,hv,ov,F1,D1,rfl,hi,ei,rfl⟩;obtain ⟨hlen,hrd⟩:=ei.nr.rd;by_cases hlt:i<names.length
  ·obtain ⟨p,hp1,hp2⟩:=hrd i hlt;have hsn:=qeq names[i] (names.take i) bound.length;have hte:names.take i++[names[i]]=names.take (i+1):=by rw[qtQ,qtF hlt];rfl
   rw[hte] at hsn;have hbl:=qeB names bound.length (names.length - i) i (by omega);have hbl2:=qmd names bound.length;have hin:=qpe hv ((qae (names.take i) bound.length).map (·.1)) names[i] U (by rw[qtN];omega) ei.had.rd;rw[qox] at hin;simp[↓qcl,hlen,hlt,hp1,hp2];refine qag hin ?_
   cases hat:(Sco.at (qae (names.take i) bound.length) names[i]).isSome with
   | true=>
    rw[hat] at hsn;simp only[if_true] at hsn;simp[qaK (n:=(i:Int)+1)];refine ⟨_,?_,_,?_,i+1,hv,ov,F1,D1,rfl,by omega,⟨by rw[hsn];exact ei.rk,ei.st,by rw[hsn];exact ei.had,by rw[hsn];exact ei.out,ei.nr,ei.df⟩,rfl⟩
    ·omega
    ·exact Env.so (by simp)
   | false=>
    rw[hat] at hsn;simp only[qua,if_false] at hsn;have fmi:=Rk.frm r bf bt w fv (bound++(qae (names.take i) bound.length).map (·.1)) st;have hfs:fits 1 [V.str names[i]]=true:=rfl;obtain ⟨hv',U1,a1,a2,a3,a4,a5,a6⟩:=ei.had.app1F fmi (bytes:=16) (b:=true) (y:=.str names[i]) ei.rk ei.st hfs (by simp;omega);have out1:Gw 2 S.length w F1 D1 ((Scs.flat sc++qae (names.take i) bound.length).map bndV) ov U1:=ei.out.other fun l o ho a b c hov=>a5 l o ho fun a' b' c' hh=>ei.df l a' b' c' hh a b c hov
    have nr1:=hnr.step a4;obtain ⟨hlen1,hrd1⟩:=nr1.rd;obtain ⟨p',hq1,hq2⟩:=hrd1 i hlt;obtain ⟨vb,vf,r0,_⟩:=qc9 a3
    have hlb:lenS vb=some (.int .i64 (bound.length+(qae (names.take i) bound.length).length:Nat)):=by
     obtain ⟨vb2,vf2,h1,h2,_⟩:=a3.wx;unfold wkO at h1;have:vb=vb2:=by simpa[ldS,h1,h2.flat.1] using r0.symm
     rw[this,h2.flat.2.2.2];simp
    have hfe:fits 2 [bndV (names[i],bound.length+(qae (names.take i) bound.length).length)]=true:=rfl;obtain ⟨ov',U2,b1,b2,b3,b4,b5,b6⟩:=out1.app1F fmi (bytes:=24) (b:=true) (y:=bndV (names[i],bound.length+(qae (names.take i) bound.length).length)) a3 a4 hfe (by simp;omega);have dlt:=a2.lt;have olt:=ei.out.lt;have hlt0:=ei.had.lt
    have df1:qfg hv' ov:=fun l a b c hh a' b' c' ho=>by
     rcases a6 l a b c hh with h1|h1
     ·exact ei.df l _ _ _ h1 a' b' c' ho
     ·have:=olt l a' b' c' ho;omega
    have had2:Gw 1 S.length w F1 D1 (((qae (names.take i) bound.length).map (·.1)).map .str++[.str names[i]]) hv' U2:=a2.other fun l o ho a b c hh=>b5 l o ho fun a' b' c' ho'=>df1 l a b c hh a' b' c' ho'
    have nr2:=hnr.step b4;obtain ⟨hlen2,hrd2⟩:=nr2.rd;obtain ⟨p2,hs1',hs2'⟩:=hrd2 i hlt;obtain ⟨wb,wf,wb',U3,F2,c1,c2,c3,c4,c5,c6,c7,c8,c9⟩:=b3.addB names[i] (by simp;omega) true
    have df2:qfg hv' ov':=fun l a b c hh a' b' c' ho=>by
     rcases b6 l a' b' c' ho with h1|h1
     ·exact df1 l a b c hh _ _ _ h1
     ·have:=dlt l a b c hh;omega
    have hn1:bound++(qae (names.take (i+1)) bound.length).map (·.1)=bound++(qae (names.take i) bound.length).map (·.1)++[names[i]]:=by rw[hsn,qtX,qt1];rfl
    have hn2:((qae (names.take (i+1)) bound.length).map (·.1)).map V.str=((qae (names.take i) bound.length).map (·.1)).map .str++[.str names[i]]:=by rw[hsn,qtX,qtX];rfl
    have hn3:(Scs.flat sc++qae (names.take (i+1)) bound.length).map bndV=(Scs.flat sc++qae (names.take i) bound.length).map bndV++[bndV (names[i],bound.length+(qae (names.take i) bound.length).length)]:=by rw[hsn,←qt1,qtX];rfl
    have c1':=c1;have c3':=c3;unfold wkO at c1' c3';have hbu:qal (.agg [.str ⟨⟨[]⟩⟩,.int .i64 0]) [(0,1,.str names[i]),(1,1,.int .i64 ((bound.length+(qae (names.take i) bound.length).length:Nat):Int))]=some (bndV (names[i],bound.length+(qae (names.take i) bound.length).length)):=by simp[qal,qac,bndV]
    have hwb:ldS U2 (.ptr w 0 0 1) none=some wb:=by
     have:wb.cells=wb.cells:=rfl;simp[ldS,c1']
    push_cast at hbu;simp[hp1,hp2,hfs,a1,qbd,↓qcl,hq1,hq2,r0,hlb,qah,hbu,hfe,b1];refine qcI rfl rfl ?_;simp[qbd,hwb,hs1',hs2',hfs,c2,stS,c3',qac,c4,c5,c6];refine qcI rfl rfl ?_;simp[qaK (n:=(i:Int)+1)];refine ⟨_,?_,_,?_,i+1,hv',ov',F2,D1,rfl,by omega,⟨by rw[hn1];exact c8,b4.trans c9,by rw[hn2];exact had2.step c9,by rw[hn3];exact b2.step c9,hnr.step (b4.trans c9),df2⟩,rfl⟩
    ·omega
    ·exact Env.so (by simp)
  ·have:i=names.length:=by omega
   subst this;simp[↓qcl,hlen];exact ⟨hv,ov,F1,D1,ei,rfl⟩
 rintro e U ⟨hv,ov,F1,D1,ei,g8⟩;simp[g8];have h1:=ei.out;have h2:=ei.rk;rw[qt7] at h1 h2;have hnm:(qae names bound.length).map (·.1)=nms names:=by unfold nms;exact qcS 0 names [] [] _ _ rfl
 rw[hnm] at h2;exact qd0 (Rk.frm r bf bt w fv (bound++nms names) st) rfl h1 h2 ei.st (by rw[←qaJ,qmk];rfl)
structure RpOk(r:Rp):Prop where
 le:r.fro.length≤r.to.length
 small:r.to.length≤1000000
theorem qi5:∀(fs:List ByteArray) (es:List Ex) (x:ByteArray),(∀f,f∈fs→f≠x)→mtL fs es x=none
 | [],_,_,_=>by simp[mtL]
 | f::fs,[],_,_=>by simp[mtL]
 | f::fs,e::es,x,h=>by
  rw[mtL,if_neg (h f (List.mem_cons_self ..))];exact qi5 fs es x fun g hg=>h g (qvg _ hg)
theorem qiR:∀(fs:List ByteArray) (es:List Ex) (x:ByteArray) (i:Nat) (hi:i<fs.length) (hj:i<es.length),fs[i]=x→(∀j,(h:j<fs.length)→j<i→fs[j]≠x)→mtL fs es x=some es[i]
 | f::fs,e::es,x,0,_,_,h,_=>by rw[mtL,if_pos (by simpa using h)];rfl
 | f::fs,e::es,x,i+1,hi,hj,h,g=>by
  rw[mtL,if_neg (by have:=g 0 (by simp) (by omega);simpa using this)]
  exact qiR fs es x i (by simpa using hi) (by simpa using hj) (by simpa using h) fun j hj' hji=>by
   have:=g (j+1) (by simpa using hj') (by omega);simpa using this
theorem Rk.put6{r:Rp}{bf bt:Bool}{w:Nat}{fv:V}{bound:List ByteArray}{st:Rst}{F D:Nat→Prop}{S:St}(h:Rk r bf bt w fv bound st F D S)(c:Bool):
  ∃U,stS S (.ptr w 0 6 1) 1 (.bool c)=some U∧Rk r bf bt w fv bound { st with caught:=c } F D U∧Stp w F D S F D U:=by
 obtain ⟨vb,vf,h1,h2,h3,h4,h5⟩:=h.flag st.bad c;refine ⟨_,?_,h4,h5⟩;obtain ⟨_,_,hw,g1,g2,_⟩:=h.wx;rw[hw] at h1;unfold wkO at hw h1 ⊢;simp only[Option.some.injEq,Ob.arr.injEq,List.cons.injEq,V.agg.injEq] at h1;obtain ⟨⟨⟨rfl,rfl,_⟩,_⟩,_⟩:=h1;simp[stS,hw,qac]
theorem Rk.put5{r:Rp}{bf bt:Bool}{w:Nat}{fv:V}{bound:List ByteArray}{st:Rst}{F D:Nat→Prop}{S:St}(h:Rk r bf bt w fv bound st F D S)(c:Bool):
  ∃U,stS S (.ptr w 0 5 1) 1 (.bool c)=some U∧Rk r bf bt w fv bound { st with bad:=c } F D U∧Stp w F D S F D U:=by
 obtain ⟨vb,vf,h1,h2,h3,h4,h5⟩:=h.flag c st.caught;refine ⟨_,?_,h4,h5⟩;obtain ⟨_,_,hw,g1,g2,_⟩:=h.wx;rw[hw] at h1;unfold wkO at hw h1 ⊢;simp only[Option.some.injEq,Ob.arr.injEq,List.cons.injEq,V.agg.injEq] at h1;obtain ⟨⟨⟨rfl,rfl,_⟩,_⟩,_⟩:=h1;simp[stS,hw,qac]
abbrev exZ:V:=.agg [.int .i64 0,.int .i64 0,.int .i64 0,.int .i64 0,.int .i64 0,.str ⟨⟨[]⟩⟩,.sl true []]
theorem qi7:exZ.weak=Ex.z.v:=by simp only[exZ,V.weak,V.weakL,Ex.v_eq];rfl
theorem qjv:V.part exZ 0 (some 7)=some exZ:=rfl
theorem qez(y:V)(h:y.size=7)(hf:y.cells.all V.flat=true):V.upd exZ 0 7 y=some y:=by unfold exZ;rw[qac];simp[h,hf]
def useV(r:Rp)(sc:Scs)(x:ByteArray):V:=.tup [.str (match rmt r sc x with|some _=>x|none=>rren r sc x),(match rmt r sc x with|some e=>e.v|none=>Ex.z.v),.bool (rmt r sc x).isSome]
def cgt(e:Ex)(sc:Scs)(k:Nat):Bool:=decide (e.kind=6) && ((Scs.flat sc).take k).any fun p=>decide (p.1=e.text)
theorem qn4(e:Ex)(sc:Scs):cgt e sc 0=false:=by simp[cgt]
theorem qom(e:Ex)(sc:Scs)(k:Nat)(h:k<(Scs.flat sc).length):cgt e sc (k+1)=(cgt e sc k || (decide (e.kind=6) && decide ((Scs.flat sc)[k].1=e.text))):=by
 unfold cgt;rw[qtQ,qtF h,qug,List.any_append];simp only[List.any_cons,List.any_nil,Bool.or_false];cases decide (e.kind=6) <;> simp
theorem qnV(e:Ex)(sc:Scs):cgt e sc (Scs.flat sc).length=(decide (e.kind=6) && (Scs.flat sc).any fun p=>decide (p.1=e.text)):=by
 unfold cgt;rw[qt7]
theorem qmb(r:Rp)(ho:RpOk r)(bf bt:Bool)(w:Nat)(fv:V)(bound:List ByteArray)(st:Rst)(F D:Nat→Prop)(S:St)(hk:Rk r bf bt w fv bound st F D S)(b:Bool)(sc:Scs)(hd:ScD sc)(hl:(Scs.flat sc).length≤1000000)(x:ByteArray)(hfl:st.free.length≤1000000):
  Spec prog 143 [.ptr w 0 0 1,.sl b ((Scs.flat sc).map bndV),.str x] S (fun v U=>Rd' w (Rk r bf bt w fv bound (ruse r sc x st)) F D S (useV r sc x) v U):=by
 refine Spec.intro func143 ok143 (by simp[c143]) ?_;obtain ⟨S1,hS1⟩:∃S1:St,S1=S++[.arr [exZ] 7 1]:=⟨_,rfl⟩;have fm:=Rk.frm r bf bt w fv bound st;have k1:Rk r bf bt w fv bound st F D S1:=by rw[hS1];exact fm.push hk _
 have s1:Stp w F D S F D S1:=by rw[hS1];exact (Stp.refl _ _ _ _).push _
 have b1:S1[S.length]?=some (.arr [exZ] 7 1):=by rw[hS1];simp
 have o1:Off w F D S.length:=fm.out hk (qtH _);have fin:∀(st':Rst) (F' D':Nat→Prop) (U:St) (y:ByteArray) (ev:V) (z:Ex) (is:Bool) (e:Env),Rk r bf bt w fv bound st' F' D' U→Stp w F D S F' D' U→U[S.length]?=some (.arr [exZ] 7 1)→Off w F' D' S.length→ev.weak=z.v→
   V.part ev 0 (some 7)=some ev→e.get 6=some (.str y)→e.get 7=some (.ptr S.length 0 0 1)→e.get 8=some (.bool is)→
   endp [.t 6,.cell 7 (some 7),.t 8] S.length (fun v U=>Rd' w (Rk r bf bt w fv bound st') F D S (.tup [.str y,z.v,.bool is]) v U) .ret e (U.set S.length (.arr [ev] 7 1)):=fun st' F' D' U y ev z is e hk' hs' hb ho' hw hp g6 g7 g8=>by
  have hset:(U.set S.length (.arr [ev] 7 1))[S.length]?=some (.arr [ev] 7 1):=qtE (glt hb);refine ⟨[.str y,ev,.bool is],by simp[rvs,g6,g7,g8,ldS,hset,hp],_,_,qa1.weak,?_,F',D',(Rk.frm r bf bt w fv bound st').set hk' _ ho',hs'.set _ (qtH _)⟩;simp only[retV,V.weak,V.weakL,hw]
 have hru:ruse r sc x st=match sc.at x with
  | some _=>st
  | none=>{ free:=st.free++[x],bad:=st.bad,caught:=st.caught || (match mt r x with
   | some e=>decide (e.kind=6) && (Scs.flat sc).any fun p=>decide (p.1=e.text)
   | none=>false) }:=rfl
 have hrm:rmt r sc x=match sc.at x with
  | some _=>none
  | none=>mt r x:=rfl
 have hrr:rren r sc x=match sc.at x with
  | some k=>(r.fresh[k]?).getD x
  | none=>x:=rfl
 simp[c143];show qiw _ _ _ (S++[.arr [exZ] 7 1]) _;rw[←hS1];refine qag (qkZ _ b x hl S1) ?_;unfold plcV;rw[qiy sc x hd]
 cases hat:sc.at x with
 | some k=>
  rw[hat] at hru hrm;simp only at hru hrm;have hu:useV r sc x=.tup [.str (rren r sc x),Ex.z.v,.bool false]:=by unfold useV;rw[hrm];rfl
  rw[hru,hu];have hk0:(0:Int)≤k:=by omega
  simp[hk0];refine qag (qgV r bf bt w fv bound st F D S1 k1 b sc hd hl x) ?_;have hbu:qal exZ []=some exZ:=rfl;unfold exZ at hbu;simp[qah,hbu];have hst:stS S1 (.ptr S.length 0 0 1) 7 exZ=some (S1.set S.length (.arr [exZ] 7 1)):=by simp[stS,b1,qez exZ rfl rfl]
  unfold exZ at hst;simp[hst];exact fin st F D S1 (rren r sc x) exZ Ex.z false _ k1 s1 b1 o1 qi7 qjv rfl rfl rfl
 | none=>
  rw[hat] at hru hrm hrr;simp only at hru hrm hrr;obtain ⟨vb,vf,vf',U1,F1,a1,a2,a3,a4,a5,a6,k2,s2⟩:=k1.addF x (by omega) true;have hfs:fits 1 [V.str x]=true:=rfl;obtain ⟨U2,hU2⟩:∃U2,U2=U1.set w (wkO r bf bt fv vb vf' st):=⟨_,rfl⟩;rw[←hU2] at k2 s2;have hlf:ldS S1 (.ptr w 0 1 1) none=some vf:=by unfold wkO at a1;simp[ldS,a1]
  have hst:stS U1 (.ptr w 0 1 1) 1 vf'=some U2:=by
   rw[hU2];unfold wkO at a3 ⊢;simp[stS,a3,qac,a4,a5,a6]
  have s3:=s1.trans s2;have b2:=s2.at o1 b1;have o2:=o1.next (glt b1) s2;simp[qbd,hlf,hfs,a2,hst];refine qaC (fun e U=>mt r x=none∧U=U2∧e.get 0=some (.ptr w 0 0 1)∧e.get 2=some (.str x)∧e.get 7=some (.ptr S.length 0 0 1)) ?_ ?_
  ·refine qap (fun j e U=>∃i:Nat,j=r.fro.length - i∧i≤r.fro.length∧(∀j,(h:j<r.fro.length)→j<i→r.fro[j]≠x)∧U=U2∧
    e=[(9,.int .i64 i),(0,.ptr w 0 0 1),(1,.sl b ((Scs.flat sc).map bndV)),(2,.str x),(7,.ptr S.length 0 0 1)]) r.fro.length _ ?_ ⟨0,by simp,by omega,by omega,rfl,rfl⟩ ?_
   ·exact Env.so (by simp)
   rintro j e U ⟨i,rfl,hi,hno,rfl,rfl⟩;obtain ⟨_,_,r0,r1,r2,r3,r4,r5,r6⟩:=qc9 k2;by_cases hlt:i<r.fro.length
   ·have hia:=qdp hlt bf U;by_cases heq:r.fro[i]=x
    ·have hj:i<r.to.length:=by have:=ho.le;omega
     have hmt:mt r x=some r.to[i]:=qiR r.fro r.to x i hlt hj heq hno;have hu:useV r sc x=.tup [.str x,r.to[i].v,.bool true]:=by unfold useV;rw[hrm,hmt];rfl
     rw[hu,hru,hmt];rw[heq] at hia;simp[qbd,r3,hlt,hia];obtain ⟨y,hy⟩:∃y,y=r.to[i]:=⟨_,rfl⟩;rw[←hy];refine qaC (fun e U=>∃F' D',Rk r bf bt w fv bound { free:=st.free++[x],bad:=st.bad,caught:=st.caught || cgt y sc (Scs.flat sc).length } F' D' U∧Stp w F D S F' D' U∧U[S.length]?=some (.arr [exZ] 7 1)∧Off w F' D' S.length∧e.get 0=some (.ptr w 0 0 1)∧e.get 2=some (.str x)∧e.get 7=some (.ptr S.length 0 0 1)∧e.get 9=some (.int .i64 i)) ?_ ?_
     ·refine qap (fun j e U=>∃(k:Nat) (F' D':Nat→Prop),j=(Scs.flat sc).length - k∧k≤(Scs.flat sc).length∧Rk r bf bt w fv bound { free:=st.free++[x],bad:=st.bad,caught:=st.caught || cgt y sc k } F' D' U∧Stp w F D S F' D' U∧U[S.length]?=some (.arr [exZ] 7 1)∧Off w F' D' S.length∧
       e=[(10,.int .i64 k),(9,.int .i64 i),(0,.ptr w 0 0 1),(1,.sl b ((Scs.flat sc).map bndV)),(2,.str x),(7,.ptr S.length 0 0 1)]) (Scs.flat sc).length _ ?_ ⟨0,F1,D,by simp,by omega,by rw[qn4,Bool.or_false];exact k2,s3,b2,o2,rfl⟩ ?_
      ·exact Env.so (by simp)
      rintro j e U ⟨k,F3,D3,rfl,hk',kU,sU,bU,oU,rfl⟩;obtain ⟨_,_,q0,q1,q2,q3,q4,q5,q6⟩:=qc9 kU;by_cases hlk:k<(Scs.flat sc).length
      ·have hib:=qrK hlk b U;have hie:=iaEx hj bt U;rw[←hy] at hie;obtain ⟨U4,p1,p2,p3⟩:=kU.put6 (st.caught || cgt y sc (k+1));have hcs:=qom y sc k hlk;have hbn:V.part (bndV (Scs.flat sc)[k]) 0 none=some (.str (Scs.flat sc)[k].1):=rfl;have bU4:=p3.at oU bU;have oU4:=oU.next (glt bU) p3;simp only at q6
       cases hc:(st.caught || cgt y sc k) with
       | true=>
        have hc1:(st.caught || cgt y sc (k+1))=true:=by rw[hcs,←Bool.or_assoc,hc,Bool.true_or]
        rw[hc] at q6;rw[hc1] at p1;simp[hlk,qbd,q6,p1];refine qcI rfl rfl ?_;simp[qaK (n:=(k:Int)+1)];refine ⟨_,?_,_,?_,k+1,rfl,by omega,F3,D3,p2,sU.trans p3,bU4,oU4,rfl⟩
        ·omega
        ·exact Env.so (by simp)
       | false=>
        rw[hc] at q6;have hc1:(st.caught || cgt y sc (k+1))=(decide (y.kind=6) && decide ((Scs.flat sc)[k].1=y.text)):=by rw[hcs,←Bool.or_assoc,hc,Bool.false_or]
        rw[hc1] at p1;by_cases h6:y.kind=6
        ·simp[h6] at p1;simp[hlk,qbd,q6,q4,hie,hib,hbn,h6,p1];refine qcI rfl rfl ?_;simp[qaK (n:=(k:Int)+1)];refine ⟨_,?_,_,?_,k+1,rfl,by omega,F3,D3,p2,sU.trans p3,bU4,oU4,rfl⟩
         ·omega
         ·exact Env.so (by simp)
        ·simp[h6] at p1;simp[hlk,qbd,q6,q4,hie,h6,p1];refine qcI rfl rfl ?_;simp[qaK (n:=(k:Int)+1)];refine ⟨_,?_,_,?_,k+1,rfl,by omega,F3,D3,p2,sU.trans p3,bU4,oU4,rfl⟩
         ·omega
         ·exact Env.so (by simp)
      ·have:k=(Scs.flat sc).length:=by omega
       subst this;simp;exact ⟨F3,D3,kU,sU,bU,oU⟩
     rintro e U ⟨F3,D3,kU,sU,bU,oU,g0,g2,g7,g9⟩;obtain ⟨_,_,q0,q1,q2,q3,q4,q5,q6⟩:=qc9 kU;have hie:=iaEx hj bt U;rw[←hy] at hie;have hst2:stS U (.ptr S.length 0 0 1) 7 y.v=some (U.set S.length (.arr [y.v] 7 1)):=by simp[stS,bU,qez y.v (Ex.v_size y) (by simp)]
     simp[g0,g2,g7,g9,qbd,q4,hie,hst2];refine qcI rfl rfl ?_;rw[qnV] at kU;simp;exact fin _ F3 D3 U x y.v y true _ kU sU bU oU (Ex.v_weak y) (qgP y) rfl g7 rfl
    ·simp[qbd,r3,hlt,hia,heq,qaz (n:=(i:Int)+1) (by have:=ho.le;have:=ho.small;omega) (by have:=ho.le;have:=ho.small;omega)];refine ⟨_,?_,_,?_,i+1,rfl,by omega,fun j hj hji=>?_,rfl⟩
     ·omega
     ·exact Env.so (by simp)
     ·by_cases hj':j=i
      ·subst hj';exact heq
      ·exact hno j hj (by omega)
   ·simp[qbd,r3,hlt];refine qi5 _ _ _ fun f hf=>?_
    obtain ⟨j,hj,rfl⟩:=quI hf;exact hno j hj (by omega)
  rintro e U ⟨hmt,rfl,g0,g2,g7⟩;have hu:useV r sc x=.tup [.str x,Ex.z.v,.bool false]:=by unfold useV;rw[hrm,hmt,hrr];rfl
  rw[hmt] at hru;simp only[Bool.or_false] at hru;rw[hu,hru];have hbu:qal exZ []=some exZ:=rfl;have hst2:stS U (.ptr S.length 0 0 1) 7 exZ=some (U.set S.length (.arr [exZ] 7 1)):=by simp[stS,b2,qez exZ rfl rfl]
  unfold exZ at hbu hst2;simp[g2,g7,qah,hbu,hst2];exact fin _ F1 D U x exZ Ex.z false _ k2 s3 b2 o2 qi7 qjv rfl g7 rfl
theorem qjh(r:Rp)(sc:Scs)(x:ByteArray)(st:Rst):(ruse r sc x st).free.length≤st.free.length+1:=by
 unfold ruse;cases sc.at x <;> simp
theorem qcQ(r:Rp)(sc:Scs)(x:ByteArray)(st:Rst):(qbA r sc x st).free.length≤st.free.length+1:=qjh r sc x st
theorem qcg{α:Type}(f:α→Pa)(l:List α)(i:Nat)(h:i<l.length):qaD ((l.take i).map f)+(f l[i]).size≤qaD (l.map f):=by
 have h1:=qul i l;rw[qu0 h] at h1;have h2:=congrArg (fun m=>qaD (m.map f)) h1;simp only[qtX,qtW,qa5,sizes_cons] at h2;omega
mutual
theorem Ex.rs_len(r:Rp)(sc:Scs):∀(x:Ex) (st:Rst),(x.rs r sc st).free.length≤st.free.length+(Pa.ex x).size
 | .mk k o n m e t a,st=>by
  have hsz:(Pa.ex (.mk k o n m e t a)).size=1+qaD (a.map Pa.ex):=by rw[Pa.size_eq];rfl
  rw[Ex.rs];split
  ·have:=qjh r sc t st;omega
  ·have h1:=Ex.rsl_len r sc a (if k=7∨k=8 then qbA r sc t st else st)
   have h2:(if k=7∨k=8 then qbA r sc t st else st).free.length≤st.free.length+1:=by
    split
    ·exact qcQ r sc t st
    ·omega
   omega
theorem Ex.rsl_len(r:Rp)(sc:Scs):∀(l:List Ex) (st:Rst),(Ex.rsl r sc st l).free.length≤st.free.length+qaD (l.map Pa.ex)
 | [],st=>by simp[Ex.rsl]
 | x::l,st=>by
  have h1:=Ex.rs_len r sc x st;have h2:=Ex.rsl_len r sc l (x.rs r sc st);simp only[Ex.rsl,qtW,sizes_cons];omega
end
theorem qlt(r:Rp)(ho:RpOk r)(bf bt:Bool)(w:Nat)(fv:V)(bound:List ByteArray)(st:Rst)(F D:Nat→Prop)(S:St)(hk:Rk r bf bt w fv bound st F D S)(b:Bool)(sc:Scs)(hd:ScD sc)(hl:(Scs.flat sc).length≤1000000)(x:ByteArray)(hfl:st.free.length≤1000000):
  Spec prog 144 [.ptr w 0 0 1,.sl b ((Scs.flat sc).map bndV),.str x] S (fun v U=>Rd' w (Rk r bf bt w fv bound (qbA r sc x st)) F D S (.str (qcd r sc x)) v U):=by
 refine Spec.intro func144 ok144 (by simp[c144]) ?_;have hS:qbA r sc x st={ ruse r sc x st with bad:=(ruse r sc x st).bad || (match rmt r sc x with|some e=>!decide (e.kind=6)|none=>false) }:=rfl;have hT:qcd r sc x=match rmt r sc x with|some e=>if e.kind=6 then e.text else x|none=>rren r sc x:=rfl
 rw[hS,hT];simp[c144];refine qan (qmb r ho bf bt w fv bound st F D S hk b sc hd hl x hfl) ?_;rintro v U ⟨rfl,F1,D1,k1,s1⟩;generalize ruse r sc x st=st1 at k1 ⊢;unfold useV
 cases hm:rmt r sc x with
 | some e=>
  obtain ⟨U2,hU2⟩:∃U2,U2=U++[.arr [e.v] 7 1]:=⟨_,rfl⟩;have k2:Rk r bf bt w fv bound st1 F1 D1 U2:=by rw[hU2];exact (Rk.frm _ _ _ _ _ _ _).push k1 _
  have s2:Stp w F D S F1 D1 U2:=by rw[hU2];exact s1.push _
  have c2:U2[U.length]?=some (.arr [e.v] 7 1):=by rw[hU2];simp
  simp[boxS,evX,stS,qac];rw[←hU2];by_cases h6:e.kind=6
  ·simp[ldS,c2,h6];exact qaj rfl ⟨rfl,F1,D1,k2,s2⟩
  ·obtain ⟨_,_,q0,q1,q2,q3,q4,q5,q6⟩:=qc9 k2;obtain ⟨U3,p1,p2,p3⟩:=k2.put5 true;have h0:ldS U2 (.ptr U.length 0 0 1) none=some (.int .i64 e.kind):=by simp[ldS,c2]
   have hb:(st1.bad || !decide (e.kind=6))=true:=by simp[h6]
   rw[hb]
   cases hbad:st1.bad with
   | true=>
    rw[hbad] at q5;simp[h0,h6,qbd,q5,p1];exact qaj rfl ⟨rfl,F1,D1,p2,s2.trans p3⟩
   | false=>
    rw[hbad] at q5;simp[h0,h6,qbd,q5,p1];exact qaj rfl ⟨rfl,F1,D1,p2,s2.trans p3⟩
 | none=>
  obtain ⟨U2,hU2⟩:∃U2,U2=U++[.arr [Ex.z.v] 7 1]:=⟨_,rfl⟩;have k2:Rk r bf bt w fv bound st1 F1 D1 U2:=by rw[hU2];exact (Rk.frm _ _ _ _ _ _ _).push k1 _
  have s2:Stp w F D S F1 D1 U2:=by rw[hU2];exact s1.push _
  simp[boxS,evX,stS,qac];rw[←hU2];obtain ⟨_,_,q0,q1,q2,q3,q4,q5,q6⟩:=qc9 k2;obtain ⟨U3,p1,p2,p3⟩:=k2.put5 st1.bad
  cases hbad:st1.bad with
  | true=>
   rw[hbad] at q5 p1 p2;simp[qbd,q5,p1];exact qaj rfl ⟨rfl,F1,D1,p2,s2.trans p3⟩
  | false=>
   rw[hbad] at q5 p1 p2;simp[qbd,q5,p1];exact qaj rfl ⟨rfl,F1,D1,p2,s2.trans p3⟩
def P92(r:Rp)(bf bt:Bool)(w:Nat)(fv:V)(x:Ex):Prop:=∀(bound:List ByteArray) (st:Rst) (F D:Nat→Prop) (S:St) (b:Bool) (sc:Scs),Rk r bf bt w fv bound st F D S→ScD sc→(Scs.flat sc).length≤1000000→st.free.length+(Pa.ex x).size≤1000000→
 Spec prog 92 [.ptr w 0 0 1,x.v,.sl b ((Scs.flat sc).map bndV)] S (fun v U=>Rd' w (Rk r bf bt w fv bound (x.rs r sc st)) F D S (x.rw r sc).v v U)
theorem qgc(r:Rp)(bf bt:Bool)(w:Nat)(fv:V)(l:List Ex)(H:∀x,x∈l→P92 r bf bt w fv x)(hl:l.length≤4000)(bound:List ByteArray)(st:Rst)(F D:Nat→Prop)(S:St)(bl b:Bool)(sc:Scs)(hk:Rk r bf bt w fv bound st F D S)(hd:ScD sc)(hf:(Scs.flat sc).length≤1000000)(hs:st.free.length+qaD (l.map Pa.ex)≤1000000):
  Spec prog 145 [.ptr w 0 0 1,.sl bl (l.map Ex.v),.sl b ((Scs.flat sc).map bndV)] S (fun v U=>Rd' w (Rk r bf bt w fv bound (Ex.rsl r sc st l)) F D S (.sl false ((Ex.rwl r sc l).map Ex.v)) v U):=by
 refine Spec.intro func145 ok145 (by simp[c145]) ?_;simp[c145];refine qaC (WwF w 7 F D S (Rk r bf bt w fv bound (Ex.rsl r sc st l)) 7 ((Ex.rwl r sc l).map Ex.v)) ?_ ?_
 ·refine qap (LwF w 7 F D S l.length (fun i=>Rk r bf bt w fv bound (Ex.rsl r sc st (l.take i))) (fun i=>(Ex.rwl r sc (l.take i)).map Ex.v)
   (fun i gv=>[(8,.int .i64 i),(7,gv),(0,.ptr w 0 0 1),(1,.sl bl (l.map Ex.v)),(2,.sl b ((Scs.flat sc).map bndV))])) l.length _ ?_ ⟨0,_,F,D,by simp,by omega,Gw.nil _ _ _ _ _ _,hk,Stp.refl _ _ _ _,rfl⟩ ?_
  ·exact Env.so (by simp)
  rintro j e U ⟨i,gv,F1,D1,rfl,hi,hg,hk1,hs1,rfl⟩;dsimp only at hg hk1;by_cases hlt:i<l.length
  ·have hst:=qcg Pa.ex l i hlt;have hrl:=Ex.rsl_len r sc (l.take i) st;simp[hlt,iaEx];refine qan (H l[i] (qtM hlt) bound _ F1 D1 U b sc hk1 hd hf (by omega)) ?_;rintro v U2 ⟨rfl,F2,D2,hk2,hs2⟩;have hg2:=hg.step hs2;have hs3:=hs1.trans hs2;obtain ⟨v',U3,ha,hg3,hk3,hs4,_⟩:=hg2.app1F (Rk.frm r bf bt w fv bound _) (bytes:=80) (b:=true) hk2 hs3 (Ex.fits1 (l[i].rw r sc)) (by rw[qtN,Ex.rwl_map,qtN,quE];omega)
   have hn:(Ex.rwl r sc (l.take i)).map Ex.v++[(l[i].rw r sc).v]=(Ex.rwl r sc (l.take (i+1))).map Ex.v:=by
    rw[Ex.rwl_map,Ex.rwl_map,qtQ,qtF hlt,qug,qtX,qtX];rfl
   have hn2:Ex.rs r sc (Ex.rsl r sc st (l.take i)) l[i]=Ex.rsl r sc st (l.take (i+1)):=by
    rw[qtQ,qtF hlt,qug,Ex.rsl_append];rfl
   rw[hn] at hg3;rw[hn2] at hk3;simp[Ex.fits1,ha,qaK (n:=(i:Int)+1)];refine ⟨_,?_,_,?_,i+1,v',F2,D2,rfl,by omega,hg3,hk3,hs4,rfl⟩
   ·omega
   ·exact Env.so (by simp)
  ·have:i=l.length:=by omega
   subst this;simp only[qt7] at hg hk1;simp;exact ⟨gv,F1,D1,rfl,hg,hk1,hs1⟩
 rintro e U ⟨gv,F1,D1,g9,hg,hk1,hs1⟩;simp[g9];exact qd0 (Rk.frm _ _ _ _ _ _ _) rfl hg hk1 hs1 (by rw[←qaJ,wEx])
theorem Ex.rs_eq(r:Rp)(sc:Scs)(st:Rst)(x:Ex):x.rs r sc st=if x.kind=6 then ruse r sc x.text st else Ex.rsl r sc (if x.kind=7∨x.kind=8 then qbA r sc x.text st else st) x.args:=by cases x;rw[Ex.rs];rfl
theorem Ex.rw_eq(r:Rp)(sc:Scs)(x:Ex):x.rw r sc=if x.kind=6 then (match rmt r sc x.text with
  | some y=>y
  | none=>.mk 6 0 0 0 0 (rren r sc x.text) [])
 else .mk x.kind x.op x.n x.man x.exp (if x.kind=7∨x.kind=8 then qcd r sc x.text else x.text) (Ex.rwl r sc x.args):=by cases x;rw[Ex.rw];rfl
def qhr(t:ByteArray):V:=.agg [.int .i64 6,.int .i64 0,.int .i64 0,.int .i64 0,.int .i64 0,.str t,.sl true []]
theorem qkF(t:ByteArray):qal exZ [(0,1,.int .i64 6),(5,1,.str t)]=some (qhr t):=by
 unfold qhr;simp[qal,qac]
theorem qlo(t:ByteArray):(qhr t).weak=(Ex.mk 6 0 0 0 0 t []).v:=by
 simp only[qhr,V.weak,V.weakL,Ex.v_eq];rfl
theorem qo2(r:Rp)(ho:RpOk r)(bf bt:Bool)(w:Nat)(fv:V):∀(m:Nat) (x:Ex),(Pa.ex x).size≤m→m≤4000→P92 r bf bt w fv x
 | 0,x,hx,_=>by have:=(Pa.ex x).size_pos;omega
 | m+1,x,hx,hm=>by
  intro bound st F D S b sc hk hd hf hfr;have hsz:(Pa.ex x).size=1+qaD (x.args.map Pa.ex):=by rw[Pa.size_eq];rfl
  have hl:x.args.length≤4000:=by have:=qaR (x.args.map Pa.ex);rw[qtN] at this;omega
  have IH:∀y,y∈x.args→P92 r bf bt w fv y:=fun y hy=>qo2 r ho bf bt w fv m y (by
   obtain ⟨i,hi⟩:=qub (qup (f:=Pa.ex) hy);have:=qaV hi;omega) (by omega)
  refine Spec.intro func92 ok92 (by simp[c92]) ?_;obtain ⟨S1,hS1⟩:∃S1:St,S1=S++[.arr [x.v] 7 1,.arr [exZ] 7 1]:=⟨_,rfl⟩;have b0:S1[S.length]?=some (.arr [x.v] 7 1):=by rw[hS1,qtC (by omega)];simp
  have b1:S1[S.length+1]?=some (.arr [exZ] 7 1):=by rw[hS1,qtC (by omega)];simp
  have l1:S1.length=S.length+2:=by rw[hS1];simp
  have fm:=fun bo s=>Rk.frm r bf bt w fv bo s
  have k1:Rk r bf bt w fv bound st F D S1:=by rw[hS1];exact (fm _ _).push hk _
  have s1:Stp w F D S F D S1:=by rw[hS1];exact (Stp.refl _ _ _ _).push _
  have o0:Off w F D S.length:=(fm _ _).out hk (qtH _);have o1:Off w F D (S.length+1):=(fm _ _).out hk (by omega);have h0:ldS S1 (.ptr S.length 0 0 1) none=some (.int .i64 x.kind):=by simp[ldS,b0]
  have h5:ldS S1 (.ptr S.length 0 5 1) none=some (.str x.text):=by simp[ldS,b0]
  rw[Ex.rs_eq,Ex.rw_eq];have fin:∀(st':Rst) (F' D':Nat→Prop) (U:St) (z:Ex) (o:V) (e:Env),Rk r bf bt w fv bound st' F' D' U→Stp w F D S F' D' U→U[S.length+1]?=some (.arr [exZ] 7 1)→Off w F' D' (S.length+1)→o.weak=z.v→V.part o 0 (some 7)=some o→e.get 6=some (.ptr (S.length+1) 0 0 1)→
    endp [.cell 6 (some 7)] S.length (fun v U=>Rd' w (Rk r bf bt w fv bound st') F D S z.v v U) .ret e (U.set (S.length+1) (.arr [o] 7 1)):=fun st' F' D' U z o e hk' hs' hb ho' hw hp g6=>by
   have hset:(U.set (S.length+1) (.arr [o] 7 1))[S.length+1]?=some (.arr [o] 7 1):=qtE (glt hb);refine ⟨[o],by simp[rvs,g6,ldS,hset,hp],_,_,qa1.weak,?_,F',D',(fm _ _).set hk' _ ho',hs'.set _ (by omega)⟩;simp only[retV,hw]
  simp[c92,boxS];rw[←hS1];by_cases h6:x.kind=6
  ·rw[if_pos h6,if_pos h6];simp[h0,h5,h6];refine qan (qmb r ho bf bt w fv bound st F D S1 k1 b sc hd hf x.text (by omega)) ?_;rintro v U ⟨rfl,F1,D1,k2,s2⟩;have c1:=s2.at o1 b1;have p1:=o1.next (glt b1) s2;have s2':=s1.trans s2;unfold useV
   cases hmt:rmt r sc x.text with
   | some y=>
    obtain ⟨U2,hU2⟩:∃U2,U2=U++[.arr [y.v] 7 1]:=⟨_,rfl⟩;have k3:=(fm _ _).push k2 [.arr [y.v] 7 1];have s3:=s2'.push [.arr [y.v] 7 1];have d1:U2[S.length+1]?=some (.arr [exZ] 7 1):=by rw[hU2];exact gp c1
    have c2:U2[U.length]?=some (.arr [y.v] 7 1):=by rw[hU2];simp
    rw[←hU2] at k3 s3;have hst:stS U2 (.ptr (S.length+1) 0 0 1) 7 y.v=some (U2.set (S.length+1) (.arr [y.v] 7 1)):=by simp[stS,d1,qez y.v (Ex.v_size y) (by simp)]
    have hld:ldS U2 (.ptr U.length 0 0 1) (some 7)=some y.v:=by simp[ldS,c2]
    simp[boxS,evX,stS,qac];rw[←hU2];simp[hld,hst];exact fin _ F1 D1 U2 y y.v _ k3 s3 d1 p1 (Ex.v_weak y) (qgP y) rfl
   | none=>
    obtain ⟨U2,hU2⟩:∃U2,U2=U++[.arr [Ex.z.v] 7 1]:=⟨_,rfl⟩;have k3:=(fm _ _).push k2 [.arr [Ex.z.v] 7 1];have s3:=s2'.push [.arr [Ex.z.v] 7 1];have d1:U2[S.length+1]?=some (.arr [exZ] 7 1):=by rw[hU2];exact gp c1
    rw[←hU2] at k3 s3;have hbu:=qkF (rren r sc x.text);have hst:stS U2 (.ptr (S.length+1) 0 0 1) 7 (qhr (rren r sc x.text))=some (U2.set (S.length+1) (.arr [qhr (rren r sc x.text)] 7 1)):=by simp[stS,d1,qez (qhr (rren r sc x.text)) rfl rfl]
    simp[boxS,evX,stS,qac];rw[←hU2];simp[qah,hbu];simp[hst];exact fin _ F1 D1 U2 _ (qhr (rren r sc x.text)) _ k3 s3 d1 p1 (qlo _) rfl rfl
  ·rw[if_neg h6,if_neg h6];obtain ⟨S2,hS2⟩:∃S2:St,S2=S1++[.arr [x.v] 7 1]:=⟨_,rfl⟩;have k2:Rk r bf bt w fv bound st F D S2:=by rw[hS2];exact (fm _ _).push k1 _
   have s2:Stp w F D S F D S2:=by rw[hS2];exact s1.push _
   have d0:S2[S.length]?=some (.arr [x.v] 7 1):=by rw[hS2];exact gp b0
   have d1:S2[S.length+1]?=some (.arr [exZ] 7 1):=by rw[hS2];exact gp b1
   have d2:S2[S.length+2]?=some (.arr [x.v] 7 1):=by rw[hS2,qtC (by omega)];simp[l1]
   have o2:Off w F D (S.length+2):=(fm _ _).out hk (by omega);have hld:ldS S1 (.ptr S.length 0 0 1) (some 7)=some x.v:=by simp[ldS,b0]
   have rest:∀(st':Rst) (F' D':Nat→Prop) (U:St) (y:Ex),y.kind=x.kind→y.op=x.op→y.n=x.n→y.man=x.man→y.exp=x.exp→st'.free.length≤st.free.length+1→Rk r bf bt w fv bound st' F' D' U→Stp w F D S F' D' U→U[S.length+1]?=some (.arr [exZ] 7 1)→U[S.length+2]?=some (.arr [y.v] 7 1)→
     Off w F' D' (S.length+1)→Off w F' D' (S.length+2)→∀(Φ:V→St→Prop),(∀(U2 U3 U4:St) (z:Ex),stS U2 (.ptr (S.length+2) 0 6 1) 1 (.sl false ((Ex.rwl r sc x.args).map Ex.v))=some U3→ldS U3 (.ptr (S.length+2) 0 0 1) (some 7)=some z.v→stS U3 (.ptr (S.length+1) 0 0 1) 7 z.v=some U4→
      (∀e:Env,e.get 6=some (.ptr (S.length+1) 0 0 1)→endp [.cell 6 (some 7)] S.length (fun v U=>Rd' w (Rk r bf bt w fv bound (Ex.rsl r sc st' x.args)) F D S (Ex.mk x.kind x.op x.n x.man x.exp y.text (Ex.rwl r sc x.args)).v v U) .ret e U4)→Φ (.sl false ((Ex.rwl r sc x.args).map Ex.v)) U2)→
     qiw prog 145 [.ptr w 0 0 1,.sl false (x.args.map Ex.v),.sl b ((Scs.flat sc).map bndV)] U Φ:=by
    intro st' F' D' U y y1 y2 y3 y4 y5 hfr' kU sU e1 e2 po1 po2 Φ hΦ;refine qan (qgc r bf bt w fv x.args IH hl bound st' F' D' U false b sc kU hd hf (by omega)) ?_;rintro v U2 ⟨rfl,F2,D2,k3,s3⟩;have f1:=s3.at po1 e1;have f2:=s3.at po2 e2;have po1':=po1.next (glt e1) s3;have po2':=po2.next (glt e2) s3;obtain ⟨z,hz⟩:∃z:Ex,z=.mk x.kind x.op x.n x.man x.exp y.text (Ex.rwl r sc x.args):=⟨_,rfl⟩
    have hst:stS U2 (.ptr (S.length+2) 0 6 1) 1 (.sl false ((Ex.rwl r sc x.args).map Ex.v))=some (U2.set (S.length+2) (.arr [z.v] 7 1)):=by
     simp[stS,f2,qhD,qac,y1,y2,y3,y4,y5,hz];rw[Ex.v_eq];rfl
    have hld2:ldS (U2.set (S.length+2) (.arr [z.v] 7 1)) (.ptr (S.length+2) 0 0 1) (some 7)=some z.v:=by
     have:(U2.set (S.length+2) (.arr [z.v] 7 1))[S.length+2]?=some (.arr [z.v] 7 1):=qtE (glt f2);simp[ldS,this]
    have e1':(U2.set (S.length+2) (.arr [z.v] 7 1))[S.length+1]?=some (.arr [exZ] 7 1):=by rw[qtG (by omega)];exact f1
    have hst2:stS (U2.set (S.length+2) (.arr [z.v] 7 1)) (.ptr (S.length+1) 0 0 1) 7 z.v=some ((U2.set (S.length+2) (.arr [z.v] 7 1)).set (S.length+1) (.arr [z.v] 7 1)):=by simp[stS,e1',qez z.v (Ex.v_size z) (by simp)]
    refine hΦ _ _ _ z hst hld2 hst2 fun e g6=>?_
    rw[←hz];exact fin _ F2 D2 _ z z.v _ ((fm _ _).set k3 _ po2') ((sU.trans s3).set _ (by omega)) e1' po1' (Ex.v_weak z) (qgP z) g6
   simp[h0,h6,hld,boxS,evX,stS,qac];rw[←hS2];have h0':ldS S2 (.ptr S.length 0 0 1) none=some (.int .i64 x.kind):=by simp[ldS,d0]
   have h5':ldS S2 (.ptr S.length 0 5 1) none=some (.str x.text):=by simp[ldS,d0]
   have h6':ldS S2 (.ptr S.length 0 6 1) none=some (.sl false (x.args.map Ex.v)):=by simp[ldS,d0]
   by_cases h78:x.kind=7∨x.kind=8
   ·rw[if_pos h78,if_pos h78];have q:=qlt r ho bf bt w fv bound st F D S2 k2 b sc hd hf x.text (by omega)
    have hc:decide (x.kind=7)=true∨(decide (x.kind=7)=false∧decide (x.kind=8)=true):=by
     by_cases h7:x.kind=7
     ·exact .inl (by simp[h7])
     ·exact .inr ⟨by simp[h7],by simp[h78.resolve_left h7]⟩
    rcases hc with hc|⟨hc,hc2⟩
    all_goals
     simp only[decide_eq_true_eq,decide_eq_false_iff_not] at hc
     try simp only[decide_eq_true_eq] at hc2
     first
      | simp[h0',h5',hc,hc2,l1]
      | simp[h0',h5',hc,l1]
     refine qan q ?_
     rintro v U ⟨rfl,F1,D1,k3,s3⟩
     have e0:=s3.at o0 d0
     have e1:=s3.at o1 d1
     have e2:=s3.at o2 d2
     have po0:=o0.next (glt d0) s3
     have po1:=o1.next (glt d1) s3
     have po2:=o2.next (glt d2) s3
     obtain ⟨y,hy⟩:∃y:Ex,y=.mk x.kind x.op x.n x.man x.exp (qcd r sc x.text) x.args:=⟨_,rfl⟩
     have hst:stS U (.ptr (S.length+2) 0 5 1) 1 (.str (qcd r sc x.text))=some (U.set (S.length+2) (.arr [y.v] 7 1)):=by
      simp[stS,e2,qhD,qac,hy];rw[Ex.v_eq];rfl
     have e0':(U.set (S.length+2) (.arr [y.v] 7 1))[S.length]?=some (.arr [x.v] 7 1):=by rw[qtG (by omega)];exact e0
     have e1':(U.set (S.length+2) (.arr [y.v] 7 1))[S.length+1]?=some (.arr [exZ] 7 1):=by rw[qtG (by omega)];exact e1
     have e2':(U.set (S.length+2) (.arr [y.v] 7 1))[S.length+2]?=some (.arr [y.v] 7 1):=qtE (glt e2)
     have k4:=(fm _ _).set k3 (.arr [y.v] 7 1) po2
     have s4:=(s2.trans s3).set (l:=S.length+2) (.arr [y.v] 7 1) (by omega)
     have ha:ldS (U.set (S.length+2) (.arr [y.v] 7 1)) (.ptr S.length 0 6 1) none=some (.sl false (x.args.map Ex.v)):=by simp[ldS,e0']
     simp[hst,ha]
     have hr:=qcQ r sc x.text st
     refine rest _ F1 D1 _ y (by rw[hy];rfl) (by rw[hy];rfl) (by rw[hy];rfl) (by rw[hy];rfl) (by rw[hy];rfl) hr k4 s4 e1' e2' po1 po2 _ ?_
     intro U2 U3 U4 z a1 a2 a3 a4
     have hyt:y.text=qcd r sc x.text:=by rw[hy];rfl
     rw[hyt] at a4
     simp[a1,a2,a3]
     first
      | exact a4 _ rfl
      | (simp only[hc2] at a4;exact a4 _ rfl)
      | (simp only[hc] at a4;exact a4 _ rfl)
   ·rw[if_neg h78,if_neg h78];have h7:x.kind≠7:=fun hh=>h78 (.inl hh)
    have h8:x.kind≠8:=fun hh=>h78 (.inr hh)
    simp[h0',h7,h8,h6'];refine rest st F D S2 x rfl rfl rfl rfl rfl (by omega) k2 s2 d1 d2 o1 o2 _ ?_;intro U2 U3 U4 z a1 a2 a3 a4;simp[l1,a1,a2,a3];exact a4 _ rfl
theorem qke(l:List Ex)(i:Nat)(h:i<l.length):qeY (l.take (i+1))=(qeY (l.take i) || (decide (l[i].kind≠6) && decide (l[i].kind≠7))):=by
 unfold qeY;rw[qtQ,qtF h,qug,List.any_append];simp
theorem qfO(r:Rp)(ho:RpOk r)(bf bt:Bool)(w:Nat)(fv:V)(l:List Ex)(hl:qaD (l.map Pa.ex)≤4000)(bound:List ByteArray)(st:Rst)(F D:Nat→Prop)(S:St)(bl b:Bool)(sc:Scs)(hk:Rk r bf bt w fv bound st F D S)(hd:ScD sc)(hf:(Scs.flat sc).length≤1000000)(hs:st.free.length+qaD (l.map Pa.ex)≤1000000):
  Spec prog 145 [.ptr w 0 0 1,.sl bl (l.map Ex.v),.sl b ((Scs.flat sc).map bndV)] S (fun v U=>Rd' w (Rk r bf bt w fv bound (Ex.rsl r sc st l)) F D S (.sl false ((Ex.rwl r sc l).map Ex.v)) v U):=
 qgc r bf bt w fv l (fun x hx=>qo2 r ho bf bt w fv 4000 x (by
  obtain ⟨i,hi⟩:=qub (qup (f:=Pa.ex) hx);have:=qaV hi;omega) (qtH _)) (by have:=qaR (l.map Pa.ex);rw[qtN] at this;omega) bound st F D S bl b sc hk hd hf hs
theorem qqm(r:Rp)(ho:RpOk r)(bf bt:Bool)(w:Nat)(fv:V)(l:List Ex)(hl:qaD (l.map Pa.ex)≤4000)(bound:List ByteArray)(st:Rst)(F D:Nat→Prop)(S:St)(bl b:Bool)(sc:Scs)(hk:Rk r bf bt w fv bound st F D S)(hd:ScD sc)(hf:(Scs.flat sc).length≤1000000)(hs:st.free.length+qaD (l.map Pa.ex)≤1000000):
  Spec prog 231 [.ptr w 0 0 1,.sl bl (l.map Ex.v),.sl b ((Scs.flat sc).map bndV)] S (fun v U=>Rd' w (Rk r bf bt w fv bound (tgS r sc st l)) F D S (.sl false ((Ex.rwl r sc l).map Ex.v)) v U):=by
 refine Spec.intro func231 ok231 (by simp[c231]) ?_;have hll:l.length≤4000:=by have:=qaR (l.map Pa.ex);rw[qtN] at this;omega
 simp[c231];refine qan (qfO r ho bf bt w fv l hl bound st F D S bl b sc hk hd hf hs) ?_;rintro v U ⟨rfl,F1,D1,k1,s1⟩;have hT:tgS r sc st l={ Ex.rsl r sc st l with bad:=(Ex.rsl r sc st l).bad || qeY (Ex.rwl r sc l) }:=rfl;rw[hT];obtain ⟨st1,hst1⟩:∃st1,st1=Ex.rsl r sc st l:=⟨_,rfl⟩;obtain ⟨o,ho'⟩:∃o,o=Ex.rwl r sc l:=⟨_,rfl⟩;have hol:o.length=l.length:=by rw[ho',Ex.rwl_map,qtN]
 rw[←hst1] at k1 ⊢;rw[←ho'];simp;refine qaC (fun e U=>Rk r bf bt w fv bound { st1 with bad:=st1.bad || qeY o } F1 D1 U∧Stp w F D S F1 D1 U∧e.get 7=some (.sl false (o.map Ex.v))) ?_ ?_
 ·refine qap (fun j e U=>∃i:Nat,j=o.length - i∧i≤o.length∧Rk r bf bt w fv bound { st1 with bad:=st1.bad || qeY (o.take i) } F1 D1 U∧Stp w F D S F1 D1 U∧
   e=[(8,.int .i64 i),(7,.sl false (o.map Ex.v)),(0,.ptr w 0 0 1)]) o.length _ ?_ ⟨0,by simp,by omega,by simpa[qeY] using k1,s1,rfl⟩ ?_
  ·exact Env.so (by simp)
  rintro j e U ⟨i,rfl,hi,hk1,hs1,rfl⟩;by_cases hlt:i<o.length
  ·have hia:=iaEx hlt false U;obtain ⟨_,_,q0,q1,q2,q3,q4,q5,q6⟩:=qc9 hk1;obtain ⟨U2,p1,p2,p3⟩:=hk1.put5 (st1.bad || qeY (o.take (i+1)));have ht:=qke o i hlt;simp only at q5
   cases hb:st1.bad || qeY (o.take i) with
   | true=>
    have hb1:(st1.bad || qeY (o.take (i+1)))=true:=by rw[ht,←Bool.or_assoc,hb,Bool.true_or]
    rw[hb] at q5;rw[hb1] at p1;simp[hlt,qbd,q5,p1,qaK (n:=(i:Int)+1)];refine ⟨_,?_,_,?_,i+1,rfl,by omega,p2,hs1.trans p3,rfl⟩
    ·omega
    ·exact Env.so (by simp)
   | false=>
    have hb1:(st1.bad || qeY (o.take (i+1)))=(decide (o[i].kind≠6) && decide (o[i].kind≠7)):=by rw[ht,←Bool.or_assoc,hb,Bool.false_or]
    rw[hb] at q5;rw[hb1] at p1;by_cases h6:o[i].kind=6
    ·simp[h6] at p1;simp[hlt,qbd,q5,hia,h6,p1,qaK (n:=(i:Int)+1)];refine ⟨_,?_,_,?_,i+1,rfl,by omega,p2,hs1.trans p3,rfl⟩
     ·omega
     ·exact Env.so (by simp)
    ·simp[h6] at p1;simp[hlt,qbd,q5,hia,h6,p1,qaK (n:=(i:Int)+1)];refine ⟨_,?_,_,?_,i+1,rfl,by omega,p2,hs1.trans p3,rfl⟩
     ·omega
     ·exact Env.so (by simp)
  ·have:i=o.length:=by omega
   subst this;rw[qt7] at hk1;simp;exact ⟨hk1,hs1⟩
 rintro e U ⟨hk1,hs1,g7⟩;simp[g7];exact qaj rfl ⟨by rw[ho'];rfl,F1,D1,hk1,hs1⟩
theorem El.rsl_len(r:Rp)(sc:Scs):∀(l:List El) (st:Rst),(El.rsl r sc st l).free.length≤st.free.length+qaD (l.map Pa.el)
 | [],st=>by simp[El.rsl]
 | x::l,st=>by
  have h1:=Ex.rsl_len r sc x.exps st;have h2:=El.rsl_len r sc l (Ex.rsl r sc st x.exps);have h3:(Pa.el x).size=1+qaD (x.exps.map Pa.ex):=by rw[Pa.size_eq];rfl
  have h4:El.rsl r sc st (x::l)=El.rsl r sc (Ex.rsl r sc st x.exps) l:=rfl;rw[h4,qtW,sizes_cons];omega
theorem qmR(r:Rp)(sc:Scs)(st:Rst)(l:List Ex):(tgS r sc st l).free.length≤st.free.length+qaD (l.map Pa.ex):=Ex.rsl_len r sc l st
mutual
theorem Sm.rs_len(r:Rp):∀(s:Sm) (sc:Scs) (n:Nat) (st:Rst),(s.rs r sc n st).free.length≤st.free.length+(Pa.st s).size
 | .mk l k t g e h d b,sc,n,st=>by
  have hsz:=Sm.size_parts (.mk l k t g e h d b);simp only[Sm.labels,Sm.targets,Sm.exps,Sm.elems,Sm.decls,Sm.body] at hsz;rw[Sm.rs];split
  ·have h1:=De.rsl_len r d (qae (qai d b) n::sc) sc (n+(qae (qai d b) n).length) st;have h2:=Sm.rsl_len r b (qae (qai d b) n::sc) (n+(qae (qai d b) n).length+De.nbl d) (De.rsl r (qae (qai d b) n::sc) sc (n+(qae (qai d b) n).length) st d);omega
  ·split
   ·have h2:=Sm.rsl_len r b (qae (qak b) n::sc) (n+(qae (qak b) n).length) st;omega
   ·have h0:(if k=6 then qbA r sc t st else st).free.length≤st.free.length+1:=by
     split
     ·exact qcQ r sc t st
     ·omega
    have h1:=qmR r sc (if k=6 then qbA r sc t st else st) g;have h2:=El.rsl_len r sc h (tgS r sc (if k=6 then qbA r sc t st else st) g);have h3:=Ex.rsl_len r sc e (El.rsl r sc (tgS r sc (if k=6 then qbA r sc t st else st) g) h);have h4:=Sm.rs1_len r b sc n (Ex.rsl r sc (El.rsl r sc (tgS r sc (if k=6 then qbA r sc t st else st) g) h) e);omega
theorem De.rs_len(r:Rp):∀(s:De) (own sc:Scs) (n:Nat) (st:Rst),(s.rs r own sc n st).free.length≤st.free.length+(Pa.de s).size
 | .mk k o t nm e fo b,own,sc,n,st=>by
  have hsz:=De.size_parts (.mk k o t nm e fo b);simp only[De.names,De.formals,De.exps,De.body] at hsz;rw[De.rs];split
  ·have h1:=Ex.rsl_len r own e st;have h2:=Sm.rs1_len r b (qae (fo.map Fo.name) n::own) (n+(qae (fo.map Fo.name) n).length) (Ex.rsl r own st e);omega
  ·have h1:=Ex.rsl_len r (if k=2 then sc else own) e st;omega
theorem De.rsl_len(r:Rp):∀(l:List De) (own sc:Scs) (n:Nat) (st:Rst),(De.rsl r own sc n st l).free.length≤st.free.length+qaD (l.map Pa.de)
 | [],own,sc,n,st=>by simp[De.rsl]
 | x::l,own,sc,n,st=>by
  have h1:=De.rs_len r x own sc n st;have h2:=De.rsl_len r l own sc (n+De.nb x) (x.rs r own sc n st);simp only[De.rsl,qtW,sizes_cons];omega
theorem Sm.rsl_len(r:Rp):∀(l:List Sm) (sc:Scs) (n:Nat) (st:Rst),(Sm.rsl r sc n st l).free.length≤st.free.length+qaD (l.map Pa.st)
 | [],sc,n,st=>by simp[Sm.rsl]
 | x::l,sc,n,st=>by
  have h1:=Sm.rs_len r x sc n st;have h2:=Sm.rsl_len r l sc (n+Sm.nb x) (x.rs r sc n st);simp only[Sm.rsl,qtW,sizes_cons];omega
theorem Sm.rs1_len(r:Rp):∀(l:List Sm) (sc:Scs) (n:Nat) (st:Rst),(Sm.rs1 r sc n st l).free.length≤st.free.length+qaD (l.map Pa.st)
 | [],sc,n,st=>by simp[Sm.rs1]
 | x::l,sc,n,st=>by
  have h1:=Sm.rs_len r x (qae x.labels n::sc) (n+(qae x.labels n).length) st;have h2:=Sm.rs1_len r l sc (n+(qae x.labels n).length+Sm.nb x) (x.rs r (qae x.labels n::sc) (n+(qae x.labels n).length) st);simp only[Sm.rs1,qtW,sizes_cons];omega
end
theorem qei(l:List ByteArray)(n:Nat):(nms l).length=(qae l n).length:=by rw[qcL];exact qbc l 0 n
theorem qlG(s:Sco)(sc:Scs):(Scs.flat (s::sc)).length=(Scs.flat sc).length+s.length:=by simp[Scs.flat]
theorem Rk.real{r:Rp}{bf bt:Bool}{w:Nat}{fv:V}{bound:List ByteArray}{st:Rst}{F D:Nat→Prop}{S:St}(h:Rk r bf bt w fv bound st F D S)(bound':List ByteArray)(st':Rst):∃F' D' U,Rk r bf bt w fv bound' st' F' D' U∧Stp w F D S F' D' U:=by
 have hlw:=h.lw;obtain ⟨U,hU⟩:∃U:St,U=(S++[Ob.arr (bound'.map V.str) 1 0,Ob.arr (st'.free.map V.str) 1 0]).set w (wkO r bf bt fv (.arr S.length 0 bound'.length bound'.length) (.arr (S.length+1) 0 st'.free.length st'.free.length) st'):=⟨_,rfl⟩;have u0:U[S.length]?=some (.arr (bound'.map .str) 1 0):=by rw[hU,qtG (by omega),qtC (by omega)];simp
 have u1:U[S.length+1]?=some (.arr (st'.free.map .str) 1 0):=by rw[hU,qtG (by omega),qtC (by omega)];simp
 have uw:U[w]?=some (wkO r bf bt fv (.arr S.length 0 bound'.length bound'.length) (.arr (S.length+1) 0 st'.free.length st'.free.length) st'):=by rw[hU,qtE (by simp;omega)]
 have uo:∀l o,l≠w→S[l]?=some o→U[l]?=some o:=fun l o hl ho=>by rw[hU,qtG (Ne.symm hl)];exact gpp ho
 have lU:U.length=S.length+2:=by rw[hU];simp
 refine ⟨fun l=>F l∨l=S.length∨l=S.length+1,D,U,⟨⟨_,_,uw,.inr ⟨S.length,0,.inr (.inl rfl),by omega,rfl,u0,by omega⟩,.inr ⟨S.length+1,0,.inr (.inr rfl),by omega,rfl,u1,by omega⟩,?_⟩,h.fr.keep fun l o hl ho=>uo l o (fun hh=>h.nD (hh ▸ hl)) ho,?_,?_,h.nD,?_,by omega⟩,⟨?_,?_⟩,?_,grow.refl _ _⟩
 ·intro l a b c hb a' b' c' hf;simp only[V.arr.injEq] at hb hf;omega
 ·rintro l ((hl|rfl|rfl)|hl)
  ·have:=h.lt l (.inl hl);omega
  ·omega
  ·omega
  ·have:=h.lt l (.inr hl);omega
 ·rintro (hf|hf|hf)
  ·exact h.nF hf
  ·omega
  ·omega
 ·rintro l (hl|rfl|rfl) hd
  ·exact h.di l hl hd
  ·have:=h.lt _ (.inr hd);omega
  ·have:=h.lt _ (.inr hd);omega
 ·omega
 ·intro l hl hn;rw[hU,qtG (fun hh=>hn (.inl hh.symm)),qtD hl]
 ·rintro l (hl|hl|hl)
  ·exact .inl hl
  ·exact .inr (by omega)
  ·exact .inr (by omega)
structure Okw(bound:List ByteArray)(st:Rst)(sc:Scs)(nb size:Nat):Prop where
 nd:ScD sc
 fl:(Scs.flat sc).length≤bound.length
 bo:bound.length+nb≤50000
 fr:st.free.length+size≤1000000
def P194(r:Rp)(bf bt:Bool)(w:Nat)(fv:V)(s:Sm):Prop:=∀(bound:List ByteArray) (st:Rst) (F D:Nat→Prop) (S:St) (b:Bool) (sc:Scs),Rk r bf bt w fv bound st F D S→Okw bound st sc s.nb (Pa.st s).size→
 Spec prog 194 [.ptr w 0 0 1,s.v,.sl b ((Scs.flat sc).map bndV)] S (fun v U=>Rd' w (Rk r bf bt w fv (bound++s.bn) (s.rs r sc bound.length st)) F D S (s.rw r sc bound.length).v v U)
theorem qoP(l:List Sm)(i:Nat)(h:i<l.length):Sm.nbl (l.take (i+1))=Sm.nbl (l.take i)+l[i].nb∧Sm.nbl (l.take (i+1))≤Sm.nbl l:=by
 have ht:l.take (i+1)=l.take i++[l[i]]:=by rw[qtQ,qtF h];rfl
 refine ⟨by rw[ht,Sm.nbl_append];simp[Sm.nbl],?_⟩;have:Sm.nbl l=Sm.nbl (l.take (i+1))+Sm.nbl (l.drop (i+1)):=by rw[←Sm.nbl_append,qul]
 omega
theorem qos(l:List Sm)(i:Nat)(h:i<l.length):Sm.nb1 (l.take (i+1))=Sm.nb1 (l.take i)+((qae l[i].labels 0).length+l[i].nb)∧Sm.nb1 (l.take (i+1))≤Sm.nb1 l:=by
 have ht:l.take (i+1)=l.take i++[l[i]]:=by rw[qtQ,qtF h];rfl
 refine ⟨by rw[ht,Sm.nb1_append];simp[Sm.nb1],?_⟩;have:Sm.nb1 l=Sm.nb1 (l.take (i+1))+Sm.nb1 (l.drop (i+1)):=by rw[←Sm.nb1_append,qul]
 omega
theorem qgp(r:Rp)(bf bt:Bool)(w:Nat)(fv:V)(l:List Sm)(H:∀s,s∈l→P194 r bf bt w fv s)(hl:l.length≤4000)(bound:List ByteArray)(st:Rst)(F D:Nat→Prop)(S:St)(bl b:Bool)(sc:Scs)(hk:Rk r bf bt w fv bound st F D S)(ok:Okw bound st sc (Sm.nbl l) (qaD (l.map Pa.st))):
  Spec prog 161 [.ptr w 0 0 1,.sl bl (l.map Sm.v),.sl b ((Scs.flat sc).map bndV)] S (fun v U=>Rd' w (Rk r bf bt w fv (bound++Sm.bnl l) (Sm.rsl r sc bound.length st l)) F D S (.sl false ((Sm.rwl r sc bound.length l).map Sm.v)) v U):=by
 refine Spec.intro func161 ok161 (by simp[c161]) ?_;simp[c161];refine qaC (WwF w 8 F D S (Rk r bf bt w fv (bound++Sm.bnl l) (Sm.rsl r sc bound.length st l)) 7 ((Sm.rwl r sc bound.length l).map Sm.v)) ?_ ?_
 ·refine qap (LwF w 8 F D S l.length (fun i=>Rk r bf bt w fv (bound++Sm.bnl (l.take i)) (Sm.rsl r sc bound.length st (l.take i))) (fun i=>(Sm.rwl r sc bound.length (l.take i)).map Sm.v)
   (fun i gv=>[(8,.int .i64 i),(7,gv),(0,.ptr w 0 0 1),(1,.sl bl (l.map Sm.v)),(2,.sl b ((Scs.flat sc).map bndV))])) l.length _ ?_ ⟨0,_,F,D,by simp,by omega,Gw.nil _ _ _ _ _ _,by simpa[Sm.bnl,Sm.rsl] using hk,Stp.refl _ _ _ _,rfl⟩ ?_
  ·exact Env.so (by simp)
  rintro j e U ⟨i,gv,F1,D1,rfl,hi,hg,hk1,hs1,rfl⟩;dsimp only at hg hk1;by_cases hlt:i<l.length
  ·have hst:=qcg Pa.st l i hlt;have hrl:=Sm.rsl_len r (l.take i) sc bound.length st;obtain ⟨n1,n2⟩:=qoP l i hlt;have hbl:(bound++Sm.bnl (l.take i)).length=bound.length+Sm.nbl (l.take i):=by rw[qtZ,Sm.bnl_length]
   have ht:l.take (i+1)=l.take i++[l[i]]:=by rw[qtQ,qtF hlt];rfl
   have q:=H l[i] (qtM hlt) _ _ F1 D1 U b sc hk1 ⟨ok.nd,by have:=ok.fl;omega,by have:=ok.bo;omega,by have:=ok.fr;omega⟩;rw[hbl] at q;simp[hlt,iaSm];refine qan q ?_;rintro v U2 ⟨rfl,F2,D2,hk2,hs2⟩;have hg2:=hg.step hs2;have hs3:=hs1.trans hs2;obtain ⟨v',U3,ha,hg3,hk3,hs4,_⟩:=hg2.app1F (Rk.frm r bf bt w fv _ _) (bytes:=168) (b:=true) hk2 hs3 (Sm.fits1 (l[i].rw r sc (bound.length+Sm.nbl (l.take i)))) (by rw[qtN,qmN,quE];omega)
   have hn1:(Sm.rwl r sc bound.length (l.take i)).map Sm.v++[(l[i].rw r sc (bound.length+Sm.nbl (l.take i))).v]=(Sm.rwl r sc bound.length (l.take (i+1))).map Sm.v:=by
    rw[ht,Sm.rwl_append,qtX];rfl
   have hn2:Sm.rs r sc (bound.length+Sm.nbl (l.take i)) (Sm.rsl r sc bound.length st (l.take i)) l[i]=Sm.rsl r sc bound.length st (l.take (i+1)):=by
    rw[ht,Sm.rsl_append];rfl
   have hn3:bound++Sm.bnl (l.take i)++l[i].bn=bound++Sm.bnl (l.take (i+1)):=by
    rw[ht,Sm.bnl_append,qt1];simp[Sm.bnl]
   rw[hn1] at hg3;rw[hn2,hn3] at hk3;simp[Sm.fits1,ha,qaK (n:=(i:Int)+1)];refine ⟨_,?_,_,?_,i+1,v',F2,D2,rfl,by omega,hg3,hk3,hs4,rfl⟩
   ·omega
   ·exact Env.so (by simp)
  ·have:i=l.length:=by omega
   subst this;simp only[qt7] at hg hk1;simp;exact ⟨gv,F1,D1,rfl,hg,hk1,hs1⟩
 rintro e U ⟨gv,F1,D1,g9,hg,hk1,hs1⟩;simp[g9];exact qd0 (Rk.frm _ _ _ _ _ _ _) rfl hg hk1 hs1 (by rw[←qaJ,wSm])
theorem Okw.enter{bound:List ByteArray}{st:Rst}{sc:Scs}{nb size m:Nat}(ok:Okw bound st sc nb size)(l:List ByteArray)(h:(qae l 0).length+m≤nb):Okw (bound++nms l) st (qae l bound.length::sc) m size:=by
 have h1:=qei l 0;have h2:=qei l bound.length;refine ⟨ok.nd.bind l _,?_,?_,ok.fr⟩
 ·rw[qlG,qtZ];have:=ok.fl;omega
 ·rw[qtZ];have:=ok.bo;omega
theorem qdd:∀l:List Sm,(qak l).length≤qaD (l.map Pa.st)
 | []=>by simp[qak]
 | x::m=>by
  have ih:=qdd m;have:=Sm.size_parts x;simp only[qak,quz,qtZ,qtW,sizes_cons] at ih ⊢;omega
theorem qeA(r:Rp)(bf bt:Bool)(w:Nat)(fv:V)(l:List Sm)(H:∀s,s∈l→P194 r bf bt w fv s)(hl:qaD (l.map Pa.st)≤4000)(bound:List ByteArray)(st:Rst)(F D:Nat→Prop)(S:St)(bl b:Bool)(sc:Scs)(hk:Rk r bf bt w fv bound st F D S)(ok:Okw bound st sc ((qae (qak l) 0).length+Sm.nbl l) (qaD (l.map Pa.st))):
  Spec prog 117 [.ptr w 0 0 1,.sl bl (l.map Sm.v),.sl b ((Scs.flat sc).map bndV)] S (fun v U=>Rd' w (Rk r bf bt w fv (bound++(nms (qak l)++Sm.bnl l)) (Sm.rsl r (qae (qak l) bound.length::sc) (bound.length+(qae (qak l) bound.length).length) st l)) F D S (.sl false ((Sm.rwl r (qae (qak l) bound.length::sc) (bound.length+(qae (qak l) bound.length).length) l).map Sm.v)) v U):=by
 refine Spec.intro func117 ok117 (by simp[c117]) ?_;have hlen:l.length≤4000:=by have:=qaR (l.map Pa.st);rw[qtN] at this;omega
 have hlab:=qdd l;have hbl:(bound++nms (qak l)).length=bound.length+(qae (qak l) bound.length).length:=by rw[qtZ,qei _ bound.length]
 simp[c117];refine qan (qk7 l hl bl w _ (Rk.frm r bf bt w fv bound st) F D S hk) ?_;rintro v U ⟨rfl,F1,D1,k1,s1⟩;simp;have hflo:=ok.fl;have hbo:=ok.bo;refine qan (qij r bf bt w fv bound st F1 D1 U k1 b sc (qak l) _ (.inl ⟨false,rfl⟩) (by omega) (by omega)) ?_;rintro v U2 ⟨rfl,F2,D2,k2,s2⟩;simp;have q:=qgp r bf bt w fv l H hlen _ st F2 D2 U2 bl false (qae (qak l) bound.length::sc) k2 (ok.enter (qak l) (qtH _));rw[hbl,qt1] at q;refine qan q ?_;rintro v U3 ⟨rfl,F3,D3,k3,s3⟩;simp;exact qaj rfl ⟨rfl,F3,D3,k3,(s1.trans s2).trans s3⟩
theorem qgj(r:Rp)(bf bt:Bool)(w:Nat)(fv:V)(l:List Sm)(H:∀s,s∈l→P194 r bf bt w fv s)(hl:qaD (l.map Pa.st)≤4000)(bound:List ByteArray)(st:Rst)(F D:Nat→Prop)(S:St)(bl b:Bool)(sc:Scs)(hk:Rk r bf bt w fv bound st F D S)(ok:Okw bound st sc (Sm.nb1 l) (qaD (l.map Pa.st))):
  Spec prog 232 [.ptr w 0 0 1,.sl bl (l.map Sm.v),.sl b ((Scs.flat sc).map bndV)] S (fun v U=>Rd' w (Rk r bf bt w fv (bound++Sm.bn1 l) (Sm.rs1 r sc bound.length st l)) F D S (.sl false ((Sm.rw1 r sc bound.length l).map Sm.v)) v U):=by
 refine Spec.intro func232 ok232 (by simp[c232]) ?_;have hlen:l.length≤4000:=by have:=qaR (l.map Pa.st);rw[qtN] at this;omega
 simp[c232];refine qaC (WwF w 8 F D S (Rk r bf bt w fv (bound++Sm.bn1 l) (Sm.rs1 r sc bound.length st l)) 7 ((Sm.rw1 r sc bound.length l).map Sm.v)) ?_ ?_
 ·refine qap (LwF w 8 F D S l.length (fun i=>Rk r bf bt w fv (bound++Sm.bn1 (l.take i)) (Sm.rs1 r sc bound.length st (l.take i))) (fun i=>(Sm.rw1 r sc bound.length (l.take i)).map Sm.v)
   (fun i gv=>[(8,.int .i64 i),(7,gv),(0,.ptr w 0 0 1),(1,.sl bl (l.map Sm.v)),(2,.sl b ((Scs.flat sc).map bndV))])) l.length _ ?_ ⟨0,_,F,D,by simp,by omega,Gw.nil _ _ _ _ _ _,by simpa[Sm.bn1,Sm.rs1] using hk,Stp.refl _ _ _ _,rfl⟩ ?_
  ·exact Env.so (by simp)
  rintro j e U ⟨i,gv,F1,D1,rfl,hi,hg,hk1,hs1,rfl⟩;dsimp only at hg hk1;by_cases hlt:i<l.length
  ·have hst:=qcg Pa.st l i hlt;have hrl:=Sm.rs1_len r (l.take i) sc bound.length st;obtain ⟨n1,n2⟩:=qos l i hlt;have hbl:(bound++Sm.bn1 (l.take i)).length=bound.length+Sm.nb1 (l.take i):=by rw[qtZ,Sm.bn1_length]
   have ht:l.take (i+1)=l.take i++[l[i]]:=by rw[qtQ,qtF hlt];rfl
   have hlab:qak [l[i]]=l[i].labels:=by simp[qak]
   have q:=qeA r bf bt w fv [l[i]] (fun s hs=>by simp at hs;subst hs;exact H _ (qtM hlt)) (by simp;omega) _ _ F1 D1 U true b sc hk1 ⟨ok.nd,by have:=ok.fl;omega,by have:=ok.bo;rw[hlab];simp only[Sm.nbl];omega,by have:=ok.fr;simp;omega⟩;rw[hbl,hlab] at q;simp only[qtW,quG,Sm.bnl,Sm.rsl,Sm.rwl,quW] at q;simp[hlt,iaSm,Sm.fits1];refine qan q ?_;rintro v U2 ⟨rfl,F2,D2,hk2,hs2⟩;have hg2:=hg.step hs2;have hs3:=hs1.trans hs2;obtain ⟨v',U3,ha,hg3,hk3,hs4,_⟩:=hg2.app1F (Rk.frm r bf bt w fv _ _) (bytes:=168) (b:=false) hk2 hs3 (Sm.fits1 (l[i].rw r (qae l[i].labels (bound.length+Sm.nb1 (l.take i))::sc) (bound.length+Sm.nb1 (l.take i)+(qae l[i].labels (bound.length+Sm.nb1 (l.take i))).length))) (by rw[qtN,qlu,quE];omega)
   have hn1:(Sm.rw1 r sc bound.length (l.take i)).map Sm.v++[(l[i].rw r (qae l[i].labels (bound.length+Sm.nb1 (l.take i))::sc) (bound.length+Sm.nb1 (l.take i)+(qae l[i].labels (bound.length+Sm.nb1 (l.take i))).length)).v]=(Sm.rw1 r sc bound.length (l.take (i+1))).map Sm.v:=by
    rw[ht,Sm.rw1_append,qtX];rfl
   have hn2:Sm.rs r (qae l[i].labels (bound.length+Sm.nb1 (l.take i))::sc) (bound.length+Sm.nb1 (l.take i)+(qae l[i].labels (bound.length+Sm.nb1 (l.take i))).length) (Sm.rs1 r sc bound.length st (l.take i)) l[i]=Sm.rs1 r sc bound.length st (l.take (i+1)):=by
    rw[ht,Sm.rs1_append];rfl
   have hn3:bound++Sm.bn1 (l.take i)++(nms l[i].labels++l[i].bn)=bound++Sm.bn1 (l.take (i+1)):=by
    rw[ht,Sm.bn1_append,qt1];simp[Sm.bn1]
   rw[hn1] at hg3;rw[hn2,hn3] at hk3;simp[ha,qaK (n:=(i:Int)+1)];refine ⟨_,?_,_,?_,i+1,v',F2,D2,rfl,by omega,hg3,hk3,hs4,rfl⟩
   ·omega
   ·exact Env.so (by simp)
  ·have:i=l.length:=by omega
   subst this;simp only[qt7] at hg hk1;simp;exact ⟨gv,F1,D1,rfl,hg,hk1,hs1⟩
 rintro e U ⟨gv,F1,D1,g9,hg,hk1,hs1⟩;simp[g9];exact qd0 (Rk.frm _ _ _ _ _ _ _) rfl hg hk1 hs1 (by rw[←qaJ,wSm])
def Gx(sz n0 w:Nat)(F D:Nat→Prop)(xs:List V)(v:V)(S:St):Prop:=(∃b,v=.sl b xs)∨Gw sz n0 w F D xs v S
theorem Gw.flatV{sz n0 w:Nat}{F D:Nat→Prop}{xs:List V}{v:V}{S:St}(h:Gw sz n0 w F D xs v S):v.cells=[v]∧v.flat=true∧v.size=1:=by
 rcases h with ⟨rfl,rfl⟩|⟨l,wr,h1,h2,rfl,h4,h5⟩ <;> exact ⟨rfl,rfl,rfl⟩
theorem Gx.flatV{sz n0 w:Nat}{F D:Nat→Prop}{xs:List V}{v:V}{S:St}(h:Gx sz n0 w F D xs v S):v.cells=[v]∧v.flat=true∧v.size=1:=by
 rcases h with ⟨b,rfl⟩| h
 ·exact ⟨rfl,rfl,rfl⟩
 ·exact h.flatV
theorem Gw.ne{sz sz' n0 n0' w w':Nat}{F D F' D':Nat→Prop}{xs xs':List V}{v v':V}{S:St}(h:Gw sz n0 w F D xs v S)(h':Gw sz' n0' w' F' D' xs' v' S)(hs:sz≠sz'):∀l a b c a' b' c',v=.arr l a b c→v'≠.arr l a' b' c':=by
 rintro l a b c a' b' c' rfl rfl;rcases h with ⟨_,h⟩|⟨l',wr,h1,h2,h3,h4,h5⟩
 ·cases h
 ·cases h3;rcases h' with ⟨_,h⟩|⟨l',wr',g1,g2,g3,g4,g5⟩
  ·cases h
  ·cases g3;rw[h4] at g4;cases g4;exact hs rfl
theorem Gx.ne{sz sz' n0 n0' w w':Nat}{F D F' D':Nat→Prop}{xs xs':List V}{v v':V}{S:St}(h:Gx sz n0 w F D xs v S)(h':Gx sz' n0' w' F' D' xs' v' S)(hs:sz≠sz'):∀l a b c a' b' c',v=.arr l a b c→v'≠.arr l a' b' c':=by
 intro l a b c a' b' c' hv hv';rcases h with ⟨_,h⟩| h
 ·rw[hv] at h;cases h
 ·rcases h' with ⟨_,h'⟩|h'
  ·rw[hv'] at h';cases h'
  ·exact h.ne h' hs l a b c a' b' c' hv hv'
def Nf(rf v:V):Prop:=∀l a b c,rf=.arr l a b c→∀xs wr,v.frz l xs wr=v
theorem Nf.under{rf v:V}(h:v.under 0=true):Nf rf v:=fun _ _ _ _ _ _ _=>V.frz_id v h
theorem Nf.gx{sz sz' n0 n0' w w':Nat}{F D F' D':Nat→Prop}{xs xs':List V}{v v':V}{S:St}(h:Gx sz n0 w F D xs v S)(h':Gx sz' n0' w' F' D' xs' v' S)(hs:sz≠sz')(hx:V.underL 0 xs'=true):Nf v v':=by
 intro l a b c hv ys wr;rcases h' with ⟨b',rfl⟩|h'
 ·exact V.frz_id _ (by simpa[V.under] using hx)
 ·rcases h' with ⟨_,rfl⟩|⟨l',wr',g1,g2,rfl,g4,g5⟩
  ·rfl
  ·have:=h.ne (sz':=sz') (n0':=n0') (w':=w') (F':=F') (D':=D') (xs':=xs') (v':=.arr l' 0 xs'.length xs'.length) (.inr (.inr ⟨l',wr',g1,g2,rfl,g4,g5⟩)) hs l a b c 0 xs'.length xs'.length hv;simp only[V.frz];rw[if_neg];rintro ⟨rfl,_⟩;exact this rfl
theorem Gx.other{sz n0 w:Nat}{F D:Nat→Prop}{xs:List V}{v:V}{S U:St}(h:Gx sz n0 w F D xs v S)(hk:∀l o,S[l]?=some o→(∀a b c,v=.arr l a b c→U[l]?=some o)):Gx sz n0 w F D xs v U:=h.imp id fun h=>h.other hk
theorem Gx.frz{w:Nat}{P:(Nat→Prop)→(Nat→Prop)→St→Prop}(fm:Frm w P){sz n0:Nat}{F0 D0 F D:Nat→Prop}{xs:List V}{rf:V}{S0 U:St}(h:Gx sz n0 w F D xs rf U)(k:P F D U)(s:Stp w F0 D0 S0 F D U)(hn:S0.length≤n0)(hx:V.underL 0 xs=true)(hw:V.weakL xs=xs):
  ∃rf' U',rf'.under 0=true∧rf'.weak=.sl false xs∧(∀a b,(∀v,v∈a→Nf rf v)→(∀v,v∈b→Nf rf v)→qa1 S0.length (.agg (a++rf::b)) U (.agg (a++rf'::b)) U')∧P F D U'∧Stp w F0 D0 S0 F D U'∧
   ∀l o,U[l]?=some o→(∀a b c,rf≠.arr l a b c)→U'[l]?=some o:=by
 have pure:∀b,rf=.sl b xs→_:=fun b hb=>(⟨rf,U,by rw[hb];simpa[V.under] using hx,by rw[hb];simp[V.weak,hw],fun _ _ _ _=>qa1.refl _ _ _,k,s,fun l o ho _=>ho⟩:
  ∃rf' U',rf'.under 0=true∧rf'.weak=.sl false xs∧(∀a b,(∀v,v∈a→Nf rf v)→(∀v,v∈b→Nf rf v)→qa1 S0.length (.agg (a++rf::b)) U (.agg (a++rf'::b)) U')∧P F D U'∧Stp w F0 D0 S0 F D U'∧
   ∀l o,U[l]?=some o→(∀a b c,rf≠.arr l a b c)→U'[l]?=some o)
 rcases h with ⟨b,rfl⟩| h
 ·exact pure b rfl
 rcases h with ⟨rfl,rfl⟩|⟨l,wr,h1,h2,rfl,h3,h4⟩
 ·exact pure true rfl
 ·refine ⟨.sl false xs,U.set l .dead,by simpa[V.under] using hx,by simp[V.weak,hw],fun a b ha hb=>?_,fm.set k _ h2,s.set _ (by omega),fun l' o ho hne=>?_⟩
  ·have g1:=qa1.freezeV (n:=S0.length) (r:=.agg (a++.arr l 0 xs.length xs.length::b)) h3
   have hz:V.frz l xs wr (.agg (a++.arr l 0 xs.length xs.length::b))=.agg (a++.sl false xs::b):=by
    have ea:a.map (V.frz l xs wr)=a:=by
     conv=>rhs;rw[←List.map_id a]
     exact quC fun v hv=>ha v hv l _ _ _ rfl xs wr
    have eb:b.map (V.frz l xs wr)=b:=by
     conv=>rhs;rw[←List.map_id b]
     exact quC fun v hv=>hb v hv l _ _ _ rfl xs wr
    simp only[V.frz,qcf,qtX,qtW];rw[ea,eb,if_pos (by simp[h4])];simp
   rw[hz] at g1;exact g1
  ·rw[qtG (by rintro rfl;exact hne _ _ _ rfl)];exact ho
theorem qtr{w:Nat}{P:(Nat→Prop)→(Nat→Prop)→St→Prop}(fm:Frm w P){n0 n1:Nat}{F0 D0 F D:Nat→Prop}{S0 U:St}{kd ty:Int}{ow:Bool}{nm:List ByteArray}{ex:List Ex}{fo:List Fo}{bo:List Sm}{nv fv:V}{c:Nat}{e:Env}{o:Nat}(hc:U[o]?=some (.arr [.agg [.int .i64 kd,.bool ow,.int .i64 ty,nv,.sl false (ex.map Ex.v),fv,.sl false (bo.map Sm.v)]] 7 1))(he:e.get c=some (.ptr o 0 0 1))
  (h1:Gx 1 n0 w F D (nm.map .str) nv U) (h2:Gx 4 n1 w F D (fo.map Fo.v) fv U) (hn:S0.length≤n0) (hn':S0.length≤n1) (k:P F D U) (s:Stp w F0 D0 S0 F D U):
  endp [.cell c (some 7)] S0.length (fun r U=>Rd' w P F0 D0 S0 (De.mk kd ow ty nm ex fo bo).v r U) .ret e U:=by
 obtain ⟨nv',U1,a1,a2,a3,a4,a5,a6⟩:=h1.frz fm k s hn (by simpa[V.under] using qew false nm) (wStr nm);have h2':Gx 4 n1 w F D (fo.map Fo.v) fv U1:=h2.other fun l o ho a b c hv=>a6 l o ho fun a' b' c' hh=>h1.ne h2 (by omega) l a' b' c' a b c hh hv
 obtain ⟨fv',U2,b1,b2,b3,b4,b5,b6⟩:=h2'.frz fm a4 a5 hn' (by simpa[V.under] using vl_under Fo.v_under false fo) (wFo fo)
 have g1:=a3 [.int .i64 kd,.bool ow,.int .i64 ty] [.sl false (ex.map Ex.v),fv,.sl false (bo.map Sm.v)] (by
  intro v hv;simp at hv
  rcases hv with rfl|rfl|rfl <;> exact Nf.under rfl) (by
  intro v hv;simp only[quc,quO,or_false] at hv;rcases hv with rfl|rfl|rfl
  ·exact Nf.under (vl_under Ex.v_under _ _)
  ·exact Nf.gx h1 h2 (by omega) (by simpa[V.under] using vl_under Fo.v_under false fo)
  ·exact Nf.under (vl_under Sm.v_under _ _))
 have g2:=b3 [.int .i64 kd,.bool ow,.int .i64 ty,nv',.sl false (ex.map Ex.v)] [.sl false (bo.map Sm.v)] (by
  intro v hv;simp only[quc,quO,or_false] at hv;rcases hv with rfl|rfl|rfl|rfl|rfl
  ·exact Nf.under rfl
  ·exact Nf.under rfl
  ·exact Nf.under rfl
  ·exact Nf.under a1
  ·exact Nf.under (vl_under Ex.v_under _ _)) (by
  intro v hv;simp only[quc,quO,or_false] at hv;subst hv;exact Nf.under (vl_under Sm.v_under _ _))
 simp only[qtO,qt4] at g1 g2;refine ⟨[_],by simp only[rvs,he,ldS,hc];rfl,_,U2,(g1.trans g2).trans qa1.weak,?_,F,D,b4,b5⟩;simp only[V.weak,V.weakL,a2,b2,wEx,wSm,De.v_eq];rfl
theorem qtt{w:Nat}{P:(Nat→Prop)→(Nat→Prop)→St→Prop}(fm:Frm w P){n0 n1 n2:Nat}{F0 D0 F D:Nat→Prop}{S0 U:St}{kd:Int}{tx:ByteArray}{lb:List ByteArray}{tg ex:List Ex}{el:List El}{de:List De}{bo:List Sm}{lv ev dv:V}{c:Nat}{e:Env}{o:Nat}(hc:U[o]?=some (.arr [.agg [lv,.int .i64 kd,.str tx,.sl false (tg.map Ex.v),.sl false (ex.map Ex.v),ev,dv,.sl false (bo.map Sm.v)]] 8 1))(he:e.get c=some (.ptr o 0 0 1))
  (h1:Gx 1 n0 w F D (lb.map .str) lv U) (h2:Gx 2 n1 w F D (el.map El.v) ev U) (h3:Gx 7 n2 w F D (de.map De.v) dv U) (hn:S0.length≤n0) (hn':S0.length≤n1) (hn'':S0.length≤n2) (k:P F D U) (s:Stp w F0 D0 S0 F D U):
  endp [.cell c (some 8)] S0.length (fun r U=>Rd' w P F0 D0 S0 (Sm.mk lb kd tx tg ex el de bo).v r U) .ret e U:=by
 have ul:V.underL 0 (lb.map .str)=true:=by simpa[V.under] using qew false lb
 have ue:V.underL 0 (el.map El.v)=true:=by simpa[V.under] using vl_under El.v_under false el
 have ud:V.underL 0 (de.map De.v)=true:=by simpa[V.under] using vl_under De.v_under false de
 obtain ⟨lv',U1,a1,a2,a3,a4,a5,a6⟩:=h1.frz fm k s hn ul (wStr lb);have h2':Gx 2 n1 w F D (el.map El.v) ev U1:=h2.other fun l o ho a b c hv=>a6 l o ho fun a' b' c' hh=>h1.ne h2 (by omega) l a' b' c' a b c hh hv
 have h3':Gx 7 n2 w F D (de.map De.v) dv U1:=h3.other fun l o ho a b c hv=>a6 l o ho fun a' b' c' hh=>h1.ne h3 (by omega) l a' b' c' a b c hh hv
 obtain ⟨ev',U2,b1,b2,b3,b4,b5,b6⟩:=h2'.frz fm a4 a5 hn' ue (wEl el);have h3'':Gx 7 n2 w F D (de.map De.v) dv U2:=h3'.other fun l o ho a b c hv=>b6 l o ho fun a' b' c' hh=>h2'.ne h3' (by omega) l a' b' c' a b c hh hv
 obtain ⟨dv',U3,c1,c2,c3,c4,c5,c6⟩:=h3''.frz fm b4 b5 hn'' ud (wDe de)
 have g1:=a3 [] [.int .i64 kd,.str tx,.sl false (tg.map Ex.v),.sl false (ex.map Ex.v),ev,dv,.sl false (bo.map Sm.v)] (by intro v hv;simp at hv) (by
  intro v hv;simp only[quc,quO,or_false] at hv;rcases hv with rfl|rfl|rfl|rfl|rfl|rfl|rfl
  ·exact Nf.under rfl
  ·exact Nf.under rfl
  ·exact Nf.under (vl_under Ex.v_under _ _)
  ·exact Nf.under (vl_under Ex.v_under _ _)
  ·exact Nf.gx h1 h2 (by omega) ue
  ·exact Nf.gx h1 h3 (by omega) ud
  ·exact Nf.under (vl_under Sm.v_under _ _))
 have g2:=b3 [lv',.int .i64 kd,.str tx,.sl false (tg.map Ex.v),.sl false (ex.map Ex.v)] [dv,.sl false (bo.map Sm.v)] (by
  intro v hv;simp only[quc,quO,or_false] at hv;rcases hv with rfl|rfl|rfl|rfl|rfl
  ·exact Nf.under a1
  ·exact Nf.under rfl
  ·exact Nf.under rfl
  ·exact Nf.under (vl_under Ex.v_under _ _)
  ·exact Nf.under (vl_under Ex.v_under _ _)) (by
  intro v hv;simp only[quc,quO,or_false] at hv;rcases hv with rfl|rfl
  ·exact Nf.gx h2' h3' (by omega) ud
  ·exact Nf.under (vl_under Sm.v_under _ _))
 have g3:=c3 [lv',.int .i64 kd,.str tx,.sl false (tg.map Ex.v),.sl false (ex.map Ex.v),ev'] [.sl false (bo.map Sm.v)] (by
  intro v hv;simp only[quc,quO,or_false] at hv;rcases hv with rfl|rfl|rfl|rfl|rfl|rfl
  ·exact Nf.under a1
  ·exact Nf.under rfl
  ·exact Nf.under rfl
  ·exact Nf.under (vl_under Ex.v_under _ _)
  ·exact Nf.under (vl_under Ex.v_under _ _)
  ·exact Nf.under b1) (by
  intro v hv;simp only[quc,quO,or_false] at hv;subst hv;exact Nf.under (vl_under Sm.v_under _ _))
 simp only[qtO,qt4] at g1 g2 g3;refine ⟨[_],by simp only[rvs,he,ldS,hc];rfl,_,U3,((g1.trans g2).trans g3).trans qa1.weak,?_,F,D,c4,c5⟩;simp only[V.weak,V.weakL,a2,b2,c2,wEx,wSm,Sm.v_eq];rfl
theorem Gw.neC{sz sz' n0 w k wr:Nat}{F D:Nat→Prop}{xs ys:List V}{v:V}{S:St}(h:Gw sz n0 w F D xs v S)(hk:S[k]?=some (.arr ys sz' wr))(hs:sz≠sz'):∀a b c,v≠.arr k a b c:=by
 rintro a b c rfl;rcases h with ⟨_,h⟩|⟨l',wr',h1,h2,h3,h4,h5⟩
 ·cases h
 ·cases h3;rw[hk] at h4;cases h4;exact hs rfl
theorem Gw.setC{sz sz' n0 w k wr:Nat}{F D:Nat→Prop}{xs ys:List V}{v:V}{S:St}(h:Gw sz n0 w F D xs v S)(hk:S[k]?=some (.arr ys sz' wr))(hs:sz≠sz')(o:Ob):Gw sz n0 w F D xs v (S.set k o):=
 by
 rcases h with h|⟨l,wr',h1,h2,h3,h4,h5⟩
 ·exact .inl h
 ·exact .inr ⟨l,wr',h1,h2,h3,by rw[qtG (by rintro rfl;rw[hk] at h4;cases h4;exact hs rfl)];exact h4,h5⟩
structure Cx(w sz:Nat)(P:(Nat→Prop)→(Nat→Prop)→St→Prop)(F D:Nat→Prop)(S:St)(x z y:V)(F' D':Nat→Prop)(U:St):Prop where
 rk:P F' D' U
 st:Stp w F D S F' D' U
 b0:U[S.length]?=some (.arr [x] sz 1)
 b1:U[S.length+1]?=some (.arr [z] sz 1)
 b2:U[S.length+2]?=some (.arr [y] sz 1)
 o0:Off w F' D' S.length
 o1:Off w F' D' (S.length+1)
 o2:Off w F' D' (S.length+2)
section
variable {w sz:Nat} {P P2:(Nat→Prop)→(Nat→Prop)→St→Prop} {F D F' D' F2 D2:Nat→Prop} {S U U2:St} {x z y:V}
theorem Cx.call(c:Cx w sz P F D S x z y F' D' U)(k:P2 F2 D2 U2)(s:Stp w F' D' U F2 D2 U2):Cx w sz P2 F D S x z y F2 D2 U2:=
 ⟨k,c.st.trans s,s.at c.o0 c.b0,s.at c.o1 c.b1,s.at c.o2 c.b2,c.o0.next (glt c.b0) s,c.o1.next (glt c.b1) s,c.o2.next (glt c.b2) s⟩
theorem Cx.app(c:Cx w sz P F D S x z y F' D' U){gv:V}(k:P F' D' U2)(s:Stp w F D S F' D' U2)(ho:∀l o,U[l]?=some o→(∀a b c,gv≠.arr l a b c)→U2[l]?=some o)(hg:∀k ys wr,U[k]?=some (.arr ys sz wr)→∀a b c,gv≠.arr k a b c):Cx w sz P F D S x z y F' D' U2:=
 ⟨k,s,ho _ _ c.b0 (hg _ _ _ c.b0),ho _ _ c.b1 (hg _ _ _ c.b1),ho _ _ c.b2 (hg _ _ _ c.b2),c.o0,c.o1,c.o2⟩
theorem Cx.put(fm:Frm w P)(c:Cx w sz P F D S x z y F' D' U)(y':V):Cx w sz P F D S x z y' F' D' (U.set (S.length+2) (.arr [y'] sz 1)):=
 ⟨fm.set c.rk _ c.o2,c.st.set _ (by omega),by rw[qtG (by omega)];exact c.b0,by rw[qtG (by omega)];exact c.b1,qtE (glt c.b2),c.o0,c.o1,c.o2⟩
theorem Cx.push(fm:Frm w P)(c:Cx w sz P F D S x z y F' D' U)(os:List Ob):Cx w sz P F D S x z y F' D' (U++os):=
 ⟨fm.push c.rk _,c.st.push _,gpp c.b0,gpp c.b1,gpp c.b2,c.o0,c.o1,c.o2⟩
end
def IvL(len:Nat)(A:Nat→V→(Nat→Prop)→(Nat→Prop)→St→Prop)(env:Nat→V→Env)(j:Nat)(e:Env)(U:St):Prop:=∃(i:Nat) (gv:V) (F' D':Nat→Prop),j=len - i∧i≤len∧A i gv F' D' U∧e=env i gv
def IvW(A:V→(Nat→Prop)→(Nat→Prop)→St→Prop)(env:V→Env)(e:Env)(U:St):Prop:=∃(gv:V) (F' D':Nat→Prop),A gv F' D' U∧Env.sub (env gv) e
abbrev deZ:V:=.agg [.int .i64 0,.bool false,.int .i64 0,.sl true [],.sl true [],.sl true [],.sl true []]
abbrev deA(d:De)(nv ev fv bv:V):V:=.agg [.int .i64 d.kind,.bool d.own,.int .i64 d.type,nv,ev,fv,bv]
theorem De.rw_eq(r:Rp)(own sc:Scs)(n:Nat)(d:De):d.rw r own sc n=if d.kind=4 then .mk d.kind d.own d.type (d.names.map (rren r own)) (Ex.rwl r own d.exps) (d.formals.map (Fo.rw r (qae (d.formals.map Fo.name) n::own))) (Sm.rw1 r (qae (d.formals.map Fo.name) n::own) (n+(qae (d.formals.map Fo.name) n).length) d.body)
  else .mk d.kind d.own d.type (d.names.map (rren r own)) (Ex.rwl r (if d.kind=2 then sc else own) d.exps) d.formals d.body:=by
 cases d;rw[De.rw];rfl
theorem De.rs_eq(r:Rp)(own sc:Scs)(n:Nat)(st:Rst)(d:De):d.rs r own sc n st=if d.kind=4 then Sm.rs1 r (qae (d.formals.map Fo.name) n::own) (n+(qae (d.formals.map Fo.name) n).length) (Ex.rsl r own st d.exps) d.body
  else Ex.rsl r (if d.kind=2 then sc else own) st d.exps:=by
 cases d;rw[De.rs];rfl
theorem De.bn_eq(d:De):d.bn=if d.kind=4 then nms (d.formals.map Fo.name)++Sm.bn1 d.body else []:=by
 cases d;rw[De.bn];rfl
theorem map_take{α β:Type}(f:α→β)(l:List α)(i:Nat)(h:i<l.length):(l.take (i+1)).map f=(l.take i).map f++[f l[i]]:=by
 rw[qtQ,qtF h,qug,qtX];rfl
theorem qbT{U:St}{l sz:Nat}{cs:List V}{j:Nat}{v:V}(h:U[l]?=some (.arr [.agg cs] sz 1))(hv:v.cells=[v]∧v.flat=true∧v.size=1)(hj:j+1≤cs.length)(hc:cs.length≠1):stS U (.ptr l 0 j 1) 1 v=some (U.set l (.arr [.agg (cs.take j++v::cs.drop (j+1))] sz 1)):=by
 have h0:¬ (j=0∧1=cs.length):=fun hh=>hc hh.2.symm
 simp[stS,h,qac,hv.1,hv.2.1,hv.2.2,hj,h0]
theorem Gx.setC{sz sz' n0 w k wr:Nat}{F D:Nat→Prop}{xs ys:List V}{v:V}{S:St}(h:Gx sz n0 w F D xs v S)(hk:S[k]?=some (.arr ys sz' wr))(hs:sz≠sz')(o:Ob):Gx sz n0 w F D xs v (S.set k o):=h.imp id fun h=>h.setC hk hs o
theorem Gw.nr{n0 w:Nat}{F D:Nat→Prop}{names:List ByteArray}{v:V}{S:St}(h:Gw 1 n0 w F D (names.map .str) v S):Nr w F D names v S:=by
 rcases h with ⟨h1,rfl⟩|⟨l,wr,h1,h2,rfl,h4,h5⟩
 ·rw[List.map_eq_nil_iff] at h1;subst h1;exact .inl ⟨true,rfl⟩
 ·rw[qtN] at h5 ⊢;exact .inr ⟨l,wr,h2,rfl,h4,h5⟩
theorem qkB(r:Rp)(ho:RpOk r)(bf bt:Bool)(w:Nat)(fv:V)(d:De)(H:∀s,s∈d.body→P194 r bf bt w fv s)(hsz:(Pa.de d).size≤4000)(bound:List ByteArray)(st:Rst)(F D:Nat→Prop)(S:St)(b b':Bool)(sc own:Scs)(hk:Rk r bf bt w fv bound st F D S)(ok:Okw bound st own d.nb (Pa.de d).size)(hd:ScD sc)(hfl:(Scs.flat sc).length≤bound.length):
  Spec prog 230 [.ptr w 0 0 1,d.v,.sl b ((Scs.flat sc).map bndV),.sl b' ((Scs.flat own).map bndV)] S (fun v U=>Rd' w (Rk r bf bt w fv (bound++d.bn) (d.rs r own sc bound.length st)) F D S (d.rw r own sc bound.length).v v U):=by
 refine Spec.intro func230 ok230 (by simp[c230]) ?_;have hparts:=De.size_parts d;have hbo:=ok.bo;have hfr:=ok.fr;have hof:=ok.fl;rw[De.rw_eq,De.rs_eq,De.bn_eq];rw[De.nb_eq] at hbo;have fm:=fun bo s=>Rk.frm r bf bt w fv bo s
 obtain ⟨ev,hev⟩:∃ev,ev=V.sl false (d.exps.map Ex.v):=⟨_,rfl⟩;obtain ⟨fv0,hfv0⟩:∃fv0,fv0=V.sl false (d.formals.map Fo.v):=⟨_,rfl⟩;obtain ⟨bv,hbv⟩:∃bv,bv=V.sl false (d.body.map Sm.v):=⟨_,rfl⟩;obtain ⟨S2,hS2⟩:∃S2:St,S2=S++[.arr [d.v] 7 1,.arr [deZ] 7 1,.arr [deA d (.sl true []) ev fv0 bv] 7 1]:=⟨_,rfl⟩
 have C0:Cx w 7 (Rk r bf bt w fv bound st) F D S d.v deZ (deA d (.sl true []) ev fv0 bv) F D S2:=by
  refine ⟨by rw[hS2];exact (fm _ _).push hk _,by rw[hS2];exact (Stp.refl _ _ _ _).push _,?_,?_,?_,(fm _ _).out hk (by omega),(fm _ _).out hk (by omega),(fm _ _).out hk (by omega)⟩
  all_goals rw[hS2,qtC (by omega)];simp
 have fin:∀{bo s F' D' U} (nm:List ByteArray) (ex:List Ex) (fo:List Fo) (bd:List Sm) (nv fx:V),Cx w 7 (Rk r bf bt w fv bo s) F D S d.v deZ (deA d nv (.sl false (ex.map Ex.v)) fx (.sl false (bd.map Sm.v))) F' D' U→Gx 1 S.length w F' D' (nm.map .str) nv U→Gx 4 S.length w F' D' (fo.map Fo.v) fx U→
   ldS U (.ptr (S.length+2) 0 0 1) (some 7)=some (deA d nv (.sl false (ex.map Ex.v)) fx (.sl false (bd.map Sm.v)))∧∃U',stS U (.ptr (S.length+1) 0 0 1) 7 (deA d nv (.sl false (ex.map Ex.v)) fx (.sl false (bd.map Sm.v)))=some U'∧
   ∀e:Env,e.get 8=some (.ptr (S.length+1) 0 0 1)→endp [.cell 8 (some 7)] S.length (fun v U=>Rd' w (Rk r bf bt w fv bo s) F D S (De.mk d.kind d.own d.type nm ex fo bd).v v U) .ret e U':=by
  intro bo s F' D' U nm ex fo bd nv fx hC h1 h2;have f1:=h1.flatV;have f2:=h2.flatV;have hl:∀x:V,x.flat=true→True:=fun _ _=>trivial
  refine ⟨by simp[ldS,hC.b2,qaf],U.set (S.length+1) (.arr [deA d nv (.sl false (ex.map Ex.v)) fx (.sl false (bd.map Sm.v))] 7 1),by simp[stS,hC.b1,qac,f1.2.1,f2.2.1],fun e he=>?_⟩;exact qtr (fm bo s) (qtE (glt hC.b1)) he (h1.setC hC.b1 (by omega) _) (h2.setC hC.b1 (by omega) _) (qtH _) (qtH _) ((fm bo s).set hC.rk _ hC.o1) (hC.st.set _ (by omega))
 simp[c230,boxS,evX,stS,ldS,qf4,qac];rw[←hev,←hfv0,←hbv];rw[←hS2];obtain ⟨A,hA⟩:∃A:Nat→V→(Nat→Prop)→(Nat→Prop)→St→Prop,∀i gv F' D' U,A i gv F' D' U↔(Cx w 7 (Rk r bf bt w fv bound st) F D S d.v deZ (deA d gv ev fv0 bv) F' D' U∧Gw 1 S.length w F' D' (((d.names.take i).map (rren r own)).map .str) gv U):=⟨_,fun _ _ _ _ _=>Iff.rfl⟩;refine qaC (IvW (A d.names.length) fun _=>[(0,.ptr w 0 0 1),(2,.sl b ((Scs.flat sc).map bndV)),(3,.sl b' ((Scs.flat own).map bndV)),(5,.ptr S.length 0 0 1),(8,.ptr (S.length+1) 0 0 1),(9,.ptr (S.length+2) 0 0 1)]) ?_ ?_
 ·refine qap (IvL d.names.length A fun i _=>[(10,.int .i64 i),(0,.ptr w 0 0 1),(2,.sl b ((Scs.flat sc).map bndV)),(3,.sl b' ((Scs.flat own).map bndV)),(5,.ptr S.length 0 0 1),(8,.ptr (S.length+1) 0 0 1),(9,.ptr (S.length+2) 0 0 1)]) d.names.length _ ?_ ⟨0,_,F,D,by simp,by omega,(hA _ _ _ _ _).2 ⟨C0,Gw.nil _ _ _ _ _ _⟩,rfl⟩ ?_
  ·exact Env.so (by simp)
  rintro j e U ⟨i,gv,F1,D1,rfl,hi,hI,rfl⟩;obtain ⟨hC,hg⟩:=(hA _ _ _ _ _).1 hI;have hn:ldS U (.ptr S.length 0 3 1) none=some (.sl false (d.names.map .str)):=by simp[ldS,hC.b0]
  by_cases hlt:i<d.names.length
  ·have hia:=qdp hlt false U;have hgv:ldS U (.ptr (S.length+2) 0 3 1) none=some gv:=by simp[ldS,hC.b2]
   have hfs:fits 1 [V.str (rren r own d.names[i])]=true:=rfl;obtain ⟨gv',U2,ha,hg2,k2,s2,a5,a6⟩:=hg.app1F (fm bound st) (bytes:=16) (b:=true) (y:=.str (rren r own d.names[i])) hC.rk hC.st hfs (by simp;omega);have C2:=hC.app (gv:=gv) k2 s2 a5 fun k ys wr hk'=>hg.neC hk' (by omega)
   have hst:=qbT (j:=3) C2.b2 hg2.flatV (by simp) (by simp);simp only[List.take,List.drop,qtO,qt4] at hst;have C3:=C2.put (fm bound st) (deA d gv' ev fv0 bv);have hg3:=hg2.setC C2.b2 (by omega) (.arr [deA d gv' ev fv0 bv] 7 1);have hm:((d.names.take (i+1)).map (rren r own)).map V.str=((d.names.take i).map (rren r own)).map .str++[.str (rren r own d.names[i])]:=by rw[map_take _ _ _ hlt,qtX];rfl
   rw[←hm] at hg3;simp[hn,hlt,hgv,hia,qbd];refine qa6 (qgV r bf bt w fv bound st F1 D1 U hC.rk b' own ok.nd (by omega) d.names[i]) ?_;simp[hfs,ha,hst];simp[dend,qbe,qbj,hgv];simp[qaK (n:=(i:Int)+1)];refine ⟨_,?_,_,?_,i+1,gv',F1,D1,rfl,by omega,(hA _ _ _ _ _).2 ⟨C3,hg3⟩,rfl⟩
   ·omega
   ·exact Env.so (by simp)
  ·have:i=d.names.length:=by omega
   subst this;simp[hn];refine ⟨gv,F1,D1,hI,?_⟩;exact Env.so (by simp)
 rintro e U ⟨gv,F0,D0,hI,hsub⟩;obtain ⟨hC,hg⟩:=(hA _ _ _ _ _).1 hI;rw[qt7] at hg;have g0:e.get 0=_:=hsub 0 _ rfl;have g2:e.get 2=_:=hsub 2 _ rfl;have g3:e.get 3=_:=hsub 3 _ rfl;have g5:e.get 5=_:=hsub 5 _ rfl;have g8:e.get 8=_:=hsub 8 _ rfl;have g9:e.get 9=_:=hsub 9 _ rfl;have hkd:ldS U (.ptr S.length 0 0 1) none=some (.int .i64 d.kind):=by simp[ldS,hC.b0]
 have hxd:ldS U (.ptr S.length 0 4 1) none=some ev:=by rw[hev];simp[ldS,hC.b0]
 by_cases h2:d.kind=2
 ·have h4:d.kind≠4:=by omega
  rw[if_neg h4,if_neg h4,if_neg h4,if_pos h2,quW];simp[g0,g2,g5,g9,hkd,hxd,h2];rw[hev];refine qan (qfO r ho bf bt w fv d.exps (by omega) bound st F0 D0 U false b sc hC.rk hd (by omega) (by omega)) ?_;rintro v U2 ⟨rfl,F1,D1,k1,s1⟩;have C1:=hC.call k1 s1;have hst:=qbT (j:=4) (v:=.sl false ((Ex.rwl r sc d.exps).map Ex.v)) C1.b2 ⟨rfl,rfl,rfl⟩ (by simp) (by simp);simp only[List.take,List.drop,qtO,qt4] at hst;have C2:=C1.put (fm _ _) (deA d gv (.sl false ((Ex.rwl r sc d.exps).map Ex.v)) fv0 bv);have hg2:=(hg.step s1).setC C1.b2 (by omega) (.arr [deA d gv (.sl false ((Ex.rwl r sc d.exps).map Ex.v)) fv0 bv] 7 1);subst hbv hfv0;obtain ⟨p1,U3,p2,p3⟩:=fin (d.names.map (rren r own)) (Ex.rwl r sc d.exps) d.formals d.body gv _ C2 (.inr hg2) (.inl ⟨false,rfl⟩);simp[g8,g9,hst,p1,p2]
  first|exact p3 _ g8|(rw[h2] at p3;exact p3 _ g8)
 simp[g0,g3,g5,g9,hkd,hxd,h2];rw[hev];refine qan (qfO r ho bf bt w fv d.exps (by omega) bound st F0 D0 U false b' own hC.rk ok.nd (by omega) (by omega)) ?_;rintro v U2 ⟨rfl,F1,D1,k1,s1⟩;have C1:=hC.call k1 s1;obtain ⟨ev1,hev1⟩:∃ev1,ev1=V.sl false ((Ex.rwl r own d.exps).map Ex.v):=⟨_,rfl⟩;have hst:=qbT (j:=4) (v:=ev1) C1.b2 (by rw[hev1];exact ⟨rfl,rfl,rfl⟩) (by simp) (by simp);simp only[List.take,List.drop,qtO,qt4] at hst;have C2:=C1.put (fm _ _) (deA d gv ev1 fv0 bv);have hg2:=(hg.step s1).setC C1.b2 (by omega) (.arr [deA d gv ev1 fv0 bv] 7 1);rw[←hev1];obtain ⟨U3,hU3⟩:∃U3,U3=U2.set (S.length+2) (.arr [deA d gv ev1 fv0 bv] 7 1):=⟨_,rfl⟩;rw[←hU3] at hst C2 hg2;have hkd:ldS U3 (.ptr S.length 0 0 1) none=some (.int .i64 d.kind):=by simp[ldS,C2.b0]
 by_cases h4:d.kind=4
 case neg=>
  rw[if_neg h4,if_neg h4,if_neg h4,quW]
  try simp only[if_neg h2]
  subst hbv hfv0 hev1;obtain ⟨p1,U4,p2,p3⟩:=fin (d.names.map (rren r own)) (Ex.rwl r own d.exps) d.formals d.body gv _ C2 (.inr hg2) (.inl ⟨false,rfl⟩);simp[g5,g8,g9,hst,hkd,h4,p1,p2];exact p3 _ g8
 rw[if_pos h4,if_pos h4,if_pos h4];rw[if_pos h4] at hbo;unfold De.prN at hbo;obtain ⟨st1,hst1⟩:∃st1,st1=Ex.rsl r own st d.exps:=⟨_,rfl⟩;have hst1l:=Ex.rsl_len r own d.exps st;rw[←hst1] at C2 hst1l ⊢;simp[g5,g9,hst,hkd,h4];obtain ⟨names,hnames⟩:∃names,names=d.formals.map Fo.name:=⟨_,rfl⟩;have hnl:names.length=d.formals.length:=by rw[hnames];simp
 obtain ⟨B,hB⟩:∃A:Nat→V→(Nat→Prop)→(Nat→Prop)→St→Prop,∀i hv F' D' U,A i hv F' D' U↔(Cx w 7 (Rk r bf bt w fv bound st1) F D S d.v deZ (deA d gv ev1 fv0 bv) F' D' U∧Gw 1 S.length w F' D' ((d.names.map (rren r own)).map .str) gv U∧Gw 1 S.length w F' D' (((d.formals.take i).map Fo.name).map .str) hv U∧qfg hv gv):=⟨_,fun _ _ _ _ _=>Iff.rfl⟩;refine qaC (IvW (B d.formals.length) fun hv=>[(11,hv),(0,.ptr w 0 0 1),(3,.sl b' ((Scs.flat own).map bndV)),(5,.ptr S.length 0 0 1),(8,.ptr (S.length+1) 0 0 1),(9,.ptr (S.length+2) 0 0 1)]) ?_ ?_
 ·refine qap (IvL d.formals.length B fun i hv=>[(12,.int .i64 i),(11,hv),(0,.ptr w 0 0 1),(3,.sl b' ((Scs.flat own).map bndV)),(5,.ptr S.length 0 0 1),(8,.ptr (S.length+1) 0 0 1),(9,.ptr (S.length+2) 0 0 1)]) d.formals.length _ ?_ ⟨0,_,F1,D1,by simp,by omega,(hB _ _ _ _ _).2 ⟨C2,hg2,Gw.nil _ _ _ _ _ _,fun l a b c hh=>V.noConfusion hh⟩,rfl⟩ ?_
  ·repeat' first|exact Env.sub_nil _|refine Env.sub_cons (by simp[g0,g3,g5,g8,g9]) ?_
  rintro j e U ⟨i,hv,F1,D1,rfl,hi,hI,rfl⟩;obtain ⟨hC,hg,hh,hdf⟩:=(hB _ _ _ _ _).1 hI;have hn:ldS U (.ptr S.length 0 5 1) none=some (.sl false (d.formals.map Fo.v)):=by simp[ldS,hC.b0]
  by_cases hlt:i<d.formals.length
  ·have hia:=iaFo hlt false U;have hfs:fits 1 [V.str d.formals[i].name]=true:=rfl;obtain ⟨hv',U2,ha,hh2,k2,s2,a5,a6⟩:=hh.app1F (fm bound st1) (bytes:=16) (b:=true) (y:=.str d.formals[i].name) hC.rk hC.st hfs (by simp;omega);have C2:=hC.app (gv:=hv) k2 s2 a5 fun k ys wr hk'=>hh.neC hk' (by omega)
   have hg':=hg.other fun l o ho a b c hv'=>a5 l o ho fun a' b' c' hh=>hdf l a' b' c' hh a b c hv'
   have hm:((d.formals.take (i+1)).map Fo.name).map V.str=((d.formals.take i).map Fo.name).map .str++[.str d.formals[i].name]:=by rw[map_take _ _ _ hlt,qtX];rfl
   rw[←hm] at hh2;have glt':=hg.lt
   have df2:qfg hv' gv:=fun l a b c hh a' b' c' hg=>by
    rcases a6 l a b c hh with h1|h1
    ·exact hdf l _ _ _ h1 _ _ _ hg
    ·have:=glt' l _ _ _ hg;omega
   simp[hn,hlt,hia,hfs,ha,qaK (n:=(i:Int)+1)];refine ⟨_,?_,_,?_,i+1,hv',F1,D1,rfl,by omega,(hB _ _ _ _ _).2 ⟨C2,hg',hh2,df2⟩,rfl⟩
   ·omega
   ·exact Env.so (by simp)
  ·have:i=d.formals.length:=by omega
   subst this;simp[hn];refine ⟨hv,F1,D1,hI,?_⟩;exact Env.so (by simp)
 clear hsub g0 g2 g3 g5 g8 g9;rintro e U4 ⟨hv,F4,D4,hI,hsub⟩;obtain ⟨C4,hg4,hh4,_⟩:=(hB _ _ _ _ _).1 hI;rw[qt7,←hnames] at hh4;have g0:e.get 0=_:=hsub 0 _ rfl;have g3:e.get 3=_:=hsub 3 _ rfl;have g5:e.get 5=_:=hsub 5 _ rfl;have g8:e.get 8=_:=hsub 8 _ rfl;have g9:e.get 9=_:=hsub 9 _ rfl;have g11:e.get 11=_:=hsub 11 _ rfl;simp[g0,g3,g11];refine qan (qij r bf bt w fv bound st1 F4 D4 U4 C4.rk b' own names hv hh4.nr (by omega) (by omega)) ?_;rintro v U5 ⟨rfl,F2,D2,k5,s5⟩;have C5:=C4.call k5 s5;have hg5:=hg4.step s5;rw[←hnames];obtain ⟨inner,hinner⟩:∃inner,inner=qae names bound.length::own:=⟨_,rfl⟩;have hbl:(bound++nms names).length=bound.length+(qae names bound.length).length:=by rw[qtZ,qei _ bound.length]
 have okw:Okw (bound++nms names) st1 inner (Sm.nb1 d.body) (qaD (d.body.map Pa.st)):=by
  rw[hinner];exact Okw.enter (nb:=(qae names 0).length+Sm.nb1 d.body) ⟨ok.nd,hof,by rw[hnames];omega,by omega⟩ names (qtH _)
 have hfi:=okw.fl;have hbi:=okw.bo;rw[←hinner];have hst5:=qbT (j:=5) (v:=.sl true []) C5.b2 ⟨rfl,rfl,rfl⟩ (by simp) (by simp);simp only[List.take,List.drop,qtO,qt4] at hst5;have C6:=C5.put (fm _ _) (deA d gv ev1 (.sl true []) bv);have hg6:=hg5.setC C5.b2 (by omega) (.arr [deA d gv ev1 (.sl true []) bv] 7 1);simp[g9,hst5];obtain ⟨E,hE⟩:∃A:Nat→V→(Nat→Prop)→(Nat→Prop)→St→Prop,∀i xv F' D' U,A i xv F' D' U↔(Cx w 7 (Rk r bf bt w fv (bound++nms names) st1) F D S d.v deZ (deA d gv ev1 xv bv) F' D' U∧Gw 1 S.length w F' D' ((d.names.map (rren r own)).map .str) gv U∧Gw 4 S.length w F' D' (((d.formals.take i).map (Fo.rw r inner)).map Fo.v) xv U):=⟨_,fun _ _ _ _ _=>Iff.rfl⟩;refine qaC (IvW (E d.formals.length) fun _=>[(13,.sl false ((Scs.flat inner).map bndV)),(0,.ptr w 0 0 1),(5,.ptr S.length 0 0 1),(8,.ptr (S.length+1) 0 0 1),(9,.ptr (S.length+2) 0 0 1)]) ?_ ?_
 ·refine qap (IvL d.formals.length E fun i _=>[(14,.int .i64 i),(13,.sl false ((Scs.flat inner).map bndV)),(0,.ptr w 0 0 1),(5,.ptr S.length 0 0 1),(8,.ptr (S.length+1) 0 0 1),(9,.ptr (S.length+2) 0 0 1)]) d.formals.length _ ?_ ⟨0,_,F2,D2,by simp,by omega,(hE _ _ _ _ _).2 ⟨C6,hg6,Gw.nil _ _ _ _ _ _⟩,rfl⟩ ?_
  ·repeat' first|exact Env.sub_nil _|refine Env.sub_cons (by simp[g0,g3,g5,g8,g9]) ?_
  rintro j e U ⟨i,xv,F2,D2,rfl,hi,hI,rfl⟩;obtain ⟨hC,hg,hx⟩:=(hE _ _ _ _ _).1 hI;have hn:ldS U (.ptr S.length 0 5 1) none=some (.sl false (d.formals.map Fo.v)):=by simp[ldS,hC.b0]
  by_cases hlt:i<d.formals.length
  ·have hia:=iaFo hlt false U;obtain ⟨f,hf⟩:∃f,f=d.formals[i]:=⟨_,rfl⟩;rw[←hf] at hia;obtain ⟨f',hf'⟩:∃f',f'=Fo.rw r inner f:=⟨_,rfl⟩;have C7:=hC.push (fm _ _) [.arr [f.v] 4 1];have q:=qgV r bf bt w fv (bound++nms names) st1 F2 D2 _ C7.rk false inner okw.nd (by omega) f.name;have C8:=hC.push (fm _ _) [.arr [f'.v] 4 1];have hg8:=hg.push [.arr [f'.v] 4 1];have hx8:=hx.push [.arr [f'.v] 4 1];have hfs:fits 4 [f'.v]=true:=rfl;obtain ⟨xv',U2,ha,hx2,k2,s2,a5,a6⟩:=hx8.app1F (fm _ _) (bytes:=40) (b:=true) (y:=f'.v) C8.rk C8.st hfs (by simp;omega);have C9:=C8.app (gv:=xv) k2 s2 a5 fun k ys wr hk'=>hx8.neC hk' (by omega)
   have hst9:=qbT (j:=5) C9.b2 hx2.flatV (by simp) (by simp);simp only[List.take,List.drop,qtO,qt4] at hst9;have C10:=C9.put (fm _ _) (deA d gv ev1 xv' bv);have hx10:=hx2.setC C9.b2 (by omega) (.arr [deA d gv ev1 xv' bv] 7 1);have hg9:=hg8.other fun l o ho a b c hv'=>a5 l o ho fun a' b' c' hh=>(Gx.ne (.inr hx8) (.inr hg8) (by omega)) l a' b' c' a b c hh hv'
   have hg10:=hg9.setC C9.b2 (by omega) (.arr [deA d gv ev1 xv' bv] 7 1);have hm:((d.formals.take (i+1)).map (Fo.rw r inner)).map Fo.v=((d.formals.take i).map (Fo.rw r inner)).map Fo.v++[f'.v]:=by rw[map_take _ _ _ hlt,qtX,hf',hf];rfl
   rw[←hm] at hx10;have hxv:ldS (U++[.arr [f'.v] 4 1]) (.ptr (S.length+2) 0 5 1) none=some xv:=by simp[ldS,C8.b2]
   have hnm:ldS (U++[.arr [f.v] 4 1]) (.ptr U.length 0 0 1) none=some (.str f.name):=by simp[ldS]
   have hst8:stS (U++[.arr [f.v] 4 1]) (.ptr U.length 0 0 1) 1 (.str (rren r inner f.name))=some (U++[.arr [f'.v] 4 1]):=by
    simp[stS,qo4,qac,hf',Fo.rw,Fo.v]
   have hld8:ldS (U++[.arr [f'.v] 4 1]) (.ptr U.length 0 0 1) (some 4)=some f'.v:=by simp[ldS]
   have hst7:stS (U++[.arr [.agg [.str ⟨⟨[]⟩⟩,.bool false,.int .i64 0,.int .i64 0]] 4 1]) (.ptr U.length 0 0 1) 4 f.v=some (U++[.arr [f.v] 4 1]):=by
    simp[stS,qac]
   simp[hn,hlt,hia,boxS,evX,hst7,hnm];refine qag q ?_;simp[hst8,hxv,hld8,hfs,ha,hst9,qaK (n:=(i:Int)+1)];refine ⟨_,?_,_,?_,i+1,xv',F2,D2,rfl,by omega,(hE _ _ _ _ _).2 ⟨C10,hg10,hx10⟩,rfl⟩
   ·omega
   ·exact Env.so (by simp)
  ·have:i=d.formals.length:=by omega
   subst this;simp[hn];refine ⟨xv,F2,D2,hI,?_⟩;exact Env.so (by simp)
 clear hsub g0 g3 g5 g8 g9 g11;rintro e U7 ⟨xv,F7,D7,hI,hsub⟩;obtain ⟨C7,hg7,hx7⟩:=(hE _ _ _ _ _).1 hI;rw[qt7] at hx7;have g0:e.get 0=_:=hsub 0 _ rfl;have g5:e.get 5=_:=hsub 5 _ rfl;have g8:e.get 8=_:=hsub 8 _ rfl;have g9:e.get 9=_:=hsub 9 _ rfl;have g13:e.get 13=_:=hsub 13 _ rfl;have hbd:ldS U7 (.ptr S.length 0 6 1) none=some (.sl false (d.body.map Sm.v)):=by simp[ldS,C7.b0]
 have q:=qgj r bf bt w fv d.body H (by omega) _ st1 F7 D7 U7 false false inner C7.rk okw;simp[g0,g5,g13,hbd];refine qan q ?_;rintro v U8 ⟨rfl,F3,D3,k8,s8⟩;have C8:=C7.call k8 s8;have hst:=qbT (j:=6) (v:=.sl false ((Sm.rw1 r inner (bound++nms names).length d.body).map Sm.v)) C8.b2 ⟨rfl,rfl,rfl⟩ (by simp) (by simp);simp only[List.take,List.drop,qtO,qt4] at hst;have C9:=C8.put (fm _ _) (deA d gv ev1 xv (.sl false ((Sm.rw1 r inner (bound++nms names).length d.body).map Sm.v)));have hg9:=(hg7.step s8).setC C8.b2 (by omega) (.arr [deA d gv ev1 xv (.sl false ((Sm.rw1 r inner (bound++nms names).length d.body).map Sm.v))] 7 1);have hx9:=(hx7.step s8).setC C8.b2 (by omega) (.arr [deA d gv ev1 xv (.sl false ((Sm.rw1 r inner (bound++nms names).length d.body).map Sm.v))] 7 1);subst hev1;obtain ⟨p1,U9,p2,p3⟩:=fin (d.names.map (rren r own)) (Ex.rwl r own d.exps) (d.formals.map (Fo.rw r inner)) _ gv xv C9 (.inr hg9) (.inr hx9);rw[qt1,hbl] at p3;rw[hbl] at hst p1 p2;simp[g8,g9,hbl,hst,p1,p2]
 first|exact p3 _ g8|(rw[h4] at p3;exact p3 _ g8)
abbrev smA(s:Sm)(lv tx tg ex el dv bv:V):V:=.agg [lv,.int .i64 s.kind,tx,tg,ex,el,dv,bv]
theorem Sm.rw_eq(r:Rp)(sc:Scs)(n:Nat)(s:Sm):s.rw r sc n=
  if s.kind=7 then .mk (s.labels.map (rren r sc)) s.kind s.text s.targets s.exps s.elems (De.rwl r (qae (qai s.decls s.body) n::sc) sc (n+(qae (qai s.decls s.body) n).length) s.decls) (Sm.rwl r (qae (qai s.decls s.body) n::sc) (n+(qae (qai s.decls s.body) n).length+De.nbl s.decls) s.body)
  else if s.kind=8 then .mk (s.labels.map (rren r sc)) s.kind s.text s.targets s.exps s.elems s.decls (Sm.rwl r (qae (qak s.body) n::sc) (n+(qae (qak s.body) n).length) s.body)
  else .mk (s.labels.map (rren r sc)) s.kind (if s.kind=6 then qcd r sc s.text else s.text) (Ex.rwl r sc s.targets) (Ex.rwl r sc s.exps) (s.elems.map (El.rw r sc)) s.decls (Sm.rw1 r sc n s.body):=by
 cases s;rw[Sm.rw];rfl
theorem Sm.rs_eq(r:Rp)(sc:Scs)(n:Nat)(st:Rst)(s:Sm):s.rs r sc n st=
  if s.kind=7 then Sm.rsl r (qae (qai s.decls s.body) n::sc) (n+(qae (qai s.decls s.body) n).length+De.nbl s.decls) (De.rsl r (qae (qai s.decls s.body) n::sc) sc (n+(qae (qai s.decls s.body) n).length) st s.decls) s.body
  else if s.kind=8 then Sm.rsl r (qae (qak s.body) n::sc) (n+(qae (qak s.body) n).length) st s.body
  else Sm.rs1 r sc n (Ex.rsl r sc (El.rsl r sc (tgS r sc (if s.kind=6 then qbA r sc s.text st else st) s.targets) s.elems) s.exps) s.body:=by
 cases s;rw[Sm.rs];rfl
theorem Sm.bn_eq(s:Sm):s.bn=if s.kind=7 then nms (qai s.decls s.body)++De.bnl s.decls++Sm.bnl s.body else if s.kind=8 then nms (qak s.body)++Sm.bnl s.body else Sm.bn1 s.body:=by
 cases s;rw[Sm.bn];rfl
theorem qnf(l:List De)(i:Nat)(h:i<l.length):De.nbl (l.take (i+1))=De.nbl (l.take i)+l[i].nb∧De.nbl (l.take (i+1))≤De.nbl l:=by
 have ht:l.take (i+1)=l.take i++[l[i]]:=by rw[qtQ,qtF h];rfl
 refine ⟨by rw[ht,De.nbl_append];simp[De.nbl],?_⟩;have:De.nbl l=De.nbl (l.take (i+1))+De.nbl (l.drop (i+1)):=by rw[←De.nbl_append,qul]
 omega
theorem qfI:∀l:List De,(l.flatMap De.names).length≤qaD (l.map Pa.de)
 | []=>by simp
 | x::m=>by
  have ih:=qfI m;have:=De.size_parts x;simp only[quz,qtZ,qtW,sizes_cons] at ih ⊢;omega
theorem qkl(l:List De)(i:Nat)(h:i<l.length):(l.take (i+1)).flatMap De.names=(l.take i).flatMap De.names++l[i].names∧((l.take i).flatMap De.names).length+l[i].names.length≤qaD (l.map Pa.de):=by
 have ht:l.take (i+1)=l.take i++[l[i]]:=by rw[qtQ,qtF h];rfl
 refine ⟨by rw[ht,List.flatMap_append];simp,?_⟩;have h1:=qfI (l.take i);have h2:=qcg Pa.de l i h;have h3:=De.size_parts l[i];omega
theorem El.rsl_append(r:Rp)(sc:Scs)(l m:List El)(st:Rst):El.rsl r sc st (l++m)=El.rsl r sc (El.rsl r sc st l) m:=List.foldl_append ..
theorem qia(r:Rp)(ho:RpOk r)(bf bt:Bool)(w:Nat)(fv:V):∀(m:Nat) (s:Sm),(Pa.st s).size≤m→m≤4000→P194 r bf bt w fv s
 | 0,s,hx,_=>by have:=(Pa.st s).size_pos;omega
 | m+1,s,hx,hm=>by
  intro bound st F D S b sc hk ok;have hparts:=Sm.size_parts s
  have IHb:∀y,y∈s.body→P194 r bf bt w fv y:=fun y hy=>qia r ho bf bt w fv m y (by
   obtain ⟨i,hi⟩:=qub (qup (f:=Pa.st) hy);have:=qaV hi;omega) (by omega)
  have IHd:∀d,d∈s.decls→∀y,y∈d.body→P194 r bf bt w fv y:=fun d hd y hy=>qia r ho bf bt w fv m y (by
   obtain ⟨i,hi⟩:=qub (qup (f:=Pa.de) hd);have h1:=qaV hi;have h2:=De.size_parts d;obtain ⟨j,hj⟩:=qub (qup (f:=Pa.st) hy);have:=qaV hj;omega) (by omega)
  have hbl:s.body.length≤4000:=by have:=qaR (s.body.map Pa.st);rw[qtN] at this;omega
  have hdl:s.decls.length≤4000:=by have:=qaR (s.decls.map Pa.de);rw[qtN] at this;omega
  have hell:s.elems.length≤4000:=by have:=qaR (s.elems.map Pa.el);rw[qtN] at this;omega
  have hbo:=ok.bo;have hfr:=ok.fr;have hof:=ok.fl;rw[Sm.nb_eq] at hbo;refine Spec.intro func194 ok194 (by simp[c194]) ?_;rw[Sm.rw_eq,Sm.rs_eq,Sm.bn_eq];have fm:=fun bo s=>Rk.frm r bf bt w fv bo s
  obtain ⟨tg,htg⟩:∃x,x=V.sl false (s.targets.map Ex.v):=⟨_,rfl⟩;obtain ⟨ex,hex⟩:∃x,x=V.sl false (s.exps.map Ex.v):=⟨_,rfl⟩;obtain ⟨el,hel⟩:∃x,x=V.sl false (s.elems.map El.v):=⟨_,rfl⟩;obtain ⟨dv,hdv⟩:∃x,x=V.sl false (s.decls.map De.v):=⟨_,rfl⟩;obtain ⟨bv,hbv⟩:∃x,x=V.sl false (s.body.map Sm.v):=⟨_,rfl⟩;obtain ⟨S2,hS2⟩:∃S2:St,S2=S++[.arr [s.v] 8 1,.arr [smZ] 8 1,.arr [smA s (.sl true []) (.str s.text) tg ex el dv bv] 8 1]:=⟨_,rfl⟩
  have C0:Cx w 8 (Rk r bf bt w fv bound st) F D S s.v smZ (smA s (.sl true []) (.str s.text) tg ex el dv bv) F D S2:=by
   refine ⟨by rw[hS2];exact (fm _ _).push hk _,by rw[hS2];exact (Stp.refl _ _ _ _).push _,?_,?_,?_,(fm _ _).out hk (by omega),(fm _ _).out hk (by omega),(fm _ _).out hk (by omega)⟩
   all_goals rw[hS2,qtC (by omega)];simp
  have fin:∀{bo s' F' D' U} (lb:List ByteArray) (tx:ByteArray) (tg ex:List Ex) (el:List El) (de:List De) (bd:List Sm) (lv elv dv:V),Cx w 8 (Rk r bf bt w fv bo s') F D S s.v smZ (smA s lv (.str tx) (.sl false (tg.map Ex.v)) (.sl false (ex.map Ex.v)) elv dv (.sl false (bd.map Sm.v))) F' D' U→Gx 1 S.length w F' D' (lb.map .str) lv U→Gx 2 S.length w F' D' (el.map El.v) elv U→Gx 7 S.length w F' D' (de.map De.v) dv U→
    ldS U (.ptr (S.length+2) 0 0 1) (some 8)=some (smA s lv (.str tx) (.sl false (tg.map Ex.v)) (.sl false (ex.map Ex.v)) elv dv (.sl false (bd.map Sm.v)))∧∃U',stS U (.ptr (S.length+1) 0 0 1) 8 (smA s lv (.str tx) (.sl false (tg.map Ex.v)) (.sl false (ex.map Ex.v)) elv dv (.sl false (bd.map Sm.v)))=some U'∧
    ∀e:Env,e.get 6=some (.ptr (S.length+1) 0 0 1)→endp [.cell 6 (some 8)] S.length (fun v U=>Rd' w (Rk r bf bt w fv bo s') F D S (Sm.mk lb s.kind tx tg ex el de bd).v v U) .ret e U':=by
   intro bo s' F' D' U lb tx tg ex el de bd lv elv dv hC h1 h2 h3;have f1:=h1.flatV;have f2:=h2.flatV;have f3:=h3.flatV;refine ⟨by simp[ldS,hC.b2,qaf],U.set (S.length+1) (.arr [smA s lv (.str tx) (.sl false (tg.map Ex.v)) (.sl false (ex.map Ex.v)) elv dv (.sl false (bd.map Sm.v))] 8 1),by simp[stS,hC.b1,qac,f1.2.1,f2.2.1,f3.2.1],fun e he=>?_⟩;exact qtt (fm bo s') (qtE (glt hC.b1)) he (h1.setC hC.b1 (by omega) _) (h2.setC hC.b1 (by omega) _) (h3.setC hC.b1 (by omega) _) (qtH _) (qtH _) (qtH _) ((fm bo s').set hC.rk _ hC.o1) (hC.st.set _ (by omega))
  simp[c194,boxS,evX,stS,ldS,qc8,qac];rw[←htg,←hex,←hel,←hdv,←hbv];rw[←hS2];obtain ⟨A,hA⟩:∃A:Nat→V→(Nat→Prop)→(Nat→Prop)→St→Prop,∀i gv F' D' U,A i gv F' D' U↔(Cx w 8 (Rk r bf bt w fv bound st) F D S s.v smZ (smA s gv (.str s.text) tg ex el dv bv) F' D' U∧Gw 1 S.length w F' D' (((s.labels.take i).map (rren r sc)).map .str) gv U):=⟨_,fun _ _ _ _ _=>Iff.rfl⟩;refine qaC (IvW (A s.labels.length) fun _=>[(0,.ptr w 0 0 1),(2,.sl b ((Scs.flat sc).map bndV)),(4,.ptr S.length 0 0 1),(6,.ptr (S.length+1) 0 0 1),(7,.ptr (S.length+2) 0 0 1)]) ?_ ?_
  ·refine qap (IvL s.labels.length A fun i _=>[(8,.int .i64 i),(0,.ptr w 0 0 1),(2,.sl b ((Scs.flat sc).map bndV)),(4,.ptr S.length 0 0 1),(6,.ptr (S.length+1) 0 0 1),(7,.ptr (S.length+2) 0 0 1)]) s.labels.length _ ?_ ⟨0,_,F,D,by simp,by omega,(hA _ _ _ _ _).2 ⟨C0,Gw.nil _ _ _ _ _ _⟩,rfl⟩ ?_
   ·exact Env.so (by simp)
   rintro j e U ⟨i,gv,F1,D1,rfl,hi,hI,rfl⟩;obtain ⟨hC,hg⟩:=(hA _ _ _ _ _).1 hI;have hn:ldS U (.ptr S.length 0 0 1) none=some (.sl false (s.labels.map .str)):=by simp[ldS,hC.b0]
   by_cases hlt:i<s.labels.length
   ·have hia:=qdp hlt false U;have hgv:ldS U (.ptr (S.length+2) 0 0 1) none=some gv:=by simp[ldS,hC.b2]
    have hfs:fits 1 [V.str (rren r sc s.labels[i])]=true:=rfl;obtain ⟨gv',U2,ha,hg2,k2,s2,a5,a6⟩:=hg.app1F (fm bound st) (bytes:=16) (b:=true) (y:=.str (rren r sc s.labels[i])) hC.rk hC.st hfs (by simp;omega);have C2:=hC.app (gv:=gv) k2 s2 a5 fun k ys wr hk'=>hg.neC hk' (by omega)
    have hst:=qbT (j:=0) C2.b2 hg2.flatV (by simp) (by simp);simp only[List.take,List.drop,qtO,qt4] at hst;have C3:=C2.put (fm bound st) (smA s gv' (.str s.text) tg ex el dv bv);have hg3:=hg2.setC C2.b2 (by omega) (.arr [smA s gv' (.str s.text) tg ex el dv bv] 8 1);have hm:((s.labels.take (i+1)).map (rren r sc)).map V.str=((s.labels.take i).map (rren r sc)).map .str++[.str (rren r sc s.labels[i])]:=by rw[map_take _ _ _ hlt,qtX];rfl
    rw[←hm] at hg3;simp[hn,hlt,hgv,hia,qbd];refine qa6 (qgV r bf bt w fv bound st F1 D1 U hC.rk b sc ok.nd (by omega) s.labels[i]) ?_;simp[hfs,ha,hst];simp[dend,qbe,qbj,hgv];simp[qaK (n:=(i:Int)+1)];refine ⟨_,?_,_,?_,i+1,gv',F1,D1,rfl,by omega,(hA _ _ _ _ _).2 ⟨C3,hg3⟩,rfl⟩
    ·omega
    ·exact Env.so (by simp)
   ·have:i=s.labels.length:=by omega
    subst this;simp[hn];refine ⟨gv,F1,D1,hI,?_⟩;exact Env.so (by simp)
  rintro e U ⟨gv,F0,D0,hI,hsub⟩;obtain ⟨hC,hg⟩:=(hA _ _ _ _ _).1 hI;rw[qt7] at hg;show WP prog (.seq _ _) _ e U;rw[qjg];obtain ⟨M,hM⟩:∃A:V→(Nat→Prop)→(Nat→Prop)→St→Prop,∀lv F1 D1 U,A lv F1 D1 U↔(s.kind≠7∧s.kind≠8∧Cx w 8 (Rk r bf bt w fv bound (if s.kind=6 then qbA r sc s.text st else st)) F D S s.v smZ (smA s lv (.str (if s.kind=6 then qcd r sc s.text else s.text)) tg ex el dv bv) F1 D1 U∧Gw 1 S.length w F1 D1 ((s.labels.map (rren r sc)).map .str) lv U):=⟨_,fun _ _ _ _=>Iff.rfl⟩;refine qo3 (IvW M fun _=>[(0,.ptr w 0 0 1),(2,.sl b ((Scs.flat sc).map bndV)),(4,.ptr S.length 0 0 1),(6,.ptr (S.length+1) 0 0 1),(7,.ptr (S.length+2) 0 0 1)]) ?_ ?_
  ·have g0:e.get 0=_:=hsub 0 _ rfl;have g2:e.get 2=_:=hsub 2 _ rfl;have g4:e.get 4=_:=hsub 4 _ rfl;have g6:e.get 6=_:=hsub 6 _ rfl;have g7:e.get 7=_:=hsub 7 _ rfl;have hkd:ldS U (.ptr S.length 0 1 1) none=some (.int .i64 s.kind):=by simp[ldS,hC.b0]
   have htx:ldS U (.ptr S.length 0 2 1) none=some (.str s.text):=by simp[ldS,hC.b0]
   have hbd:∀{bo s' y F' D' U},Cx w 8 (Rk r bf bt w fv bo s') F D S s.v smZ y F' D' U→ldS U (.ptr S.length 0 7 1) none=some (.sl false (s.body.map Sm.v)):=fun hC=>by simp[ldS,hC.b0]
   have hdd:∀{bo s' y F' D' U},Cx w 8 (Rk r bf bt w fv bo s') F D S s.v smZ y F' D' U→ldS U (.ptr S.length 0 6 1) none=some (.sl false (s.decls.map De.v)):=fun hC=>by simp[ldS,hC.b0]
   by_cases h7:s.kind=7
   ·rw[if_pos h7,if_pos h7,if_pos h7];rw[if_pos h7] at hbo;simp[g4,hkd,h7];obtain ⟨B,hB⟩:∃A:Nat→V→(Nat→Prop)→(Nat→Prop)→St→Prop,∀i hv F' D' U,A i hv F' D' U↔(Cx w 8 (Rk r bf bt w fv bound st) F D S s.v smZ (smA s gv (.str s.text) tg ex el dv bv) F' D' U∧Gw 1 S.length w F' D' ((s.labels.map (rren r sc)).map .str) gv U∧Gw 1 S.length w F' D' (((s.decls.take i).flatMap De.names).map .str) hv U∧qfg hv gv):=⟨_,fun _ _ _ _ _=>Iff.rfl⟩;refine qaC (IvW (B s.decls.length) fun hv=>[(9,hv),(0,.ptr w 0 0 1),(2,.sl b ((Scs.flat sc).map bndV)),(4,.ptr S.length 0 0 1),(6,.ptr (S.length+1) 0 0 1),(7,.ptr (S.length+2) 0 0 1)]) ?_ ?_
    ·refine qap (IvL s.decls.length B fun i hv=>[(10,.int .i64 i),(9,hv),(0,.ptr w 0 0 1),(2,.sl b ((Scs.flat sc).map bndV)),(4,.ptr S.length 0 0 1),(6,.ptr (S.length+1) 0 0 1),(7,.ptr (S.length+2) 0 0 1)]) s.decls.length _ ?_ ⟨0,_,F0,D0,by simp,by omega,(hB _ _ _ _ _).2 ⟨hC,hg,Gw.nil _ _ _ _ _ _,fun l a b c hh=>V.noConfusion hh⟩,rfl⟩ ?_
     ·repeat' first|exact Env.sub_nil _|refine Env.sub_cons (by simp[g0,g2,g4,g6,g7]) ?_
     rintro j e U ⟨i,hv,F0,D0,rfl,hi,hI,rfl⟩;obtain ⟨hC,hg,hh,hdf⟩:=(hB _ _ _ _ _).1 hI;have hn:=hdd hC;by_cases hlt:i<s.decls.length
     ·have hia:=iaDe hlt false U;obtain ⟨t1,t2⟩:=qkl s.decls i hlt;obtain ⟨hv',U2,ha,hh2,k2,s2,a5,a6⟩:=hh.appF (fm bound st) (bytes:=16) (x:=.sl false (s.decls[i].names.map .str)) hC.rk hC.st (qcC _ _ _) (qgx _) (by rw[qtN,qtN];omega);have C2:=hC.app (gv:=hv) k2 s2 a5 fun k ys wr hk'=>hh.neC hk' (by omega)
      have hg':=hg.other fun l o ho a b c hv'=>a5 l o ho fun a' b' c' hh=>hdf l a' b' c' hh a b c hv'
      rw[←qtX,←t1] at hh2;have glt':=hg.lt
      have df2:qfg hv' gv:=fun l a b c hh a' b' c' hg=>by
       rcases a6 l a b c hh with h1|h1
       ·exact hdf l _ _ _ h1 _ _ _ hg
       ·have:=glt' l _ _ _ hg;omega
      simp[hn,hlt,hia,ha,qaK (n:=(i:Int)+1)];refine ⟨_,?_,_,?_,i+1,hv',F0,D0,rfl,by omega,(hB _ _ _ _ _).2 ⟨C2,hg',hh2,df2⟩,rfl⟩
      ·omega
      ·exact Env.so (by simp)
     ·have:i=s.decls.length:=by omega
      subst this;simp[hn];refine ⟨hv,F0,D0,hI,?_⟩;exact Env.so (by simp)
    clear hsub g0 g2 g4 g6 g7 hkd htx;rintro e U1 ⟨hv,F1,D1,hI,hsub⟩;obtain ⟨C1,hg1,hh1,hdf⟩:=(hB _ _ _ _ _).1 hI;rw[qt7] at hh1;have g0:e.get 0=_:=hsub 0 _ rfl;have g2:e.get 2=_:=hsub 2 _ rfl;have g4:e.get 4=_:=hsub 4 _ rfl;have g6:e.get 6=_:=hsub 6 _ rfl;have g7:e.get 7=_:=hsub 7 _ rfl;have g9:e.get 9=_:=hsub 9 _ rfl;simp[g0,g2,g4,g9,hbd C1];refine qan (qk7 s.body (by omega) false w _ (fm bound st) F1 D1 U1 C1.rk) ?_;rintro v U2 ⟨rfl,F2,D2,k2,s2⟩;have C2:=C1.call k2 s2;have hg2:=hg1.step s2;have hh2:=hh1.step s2;have hnl:=qfI s.decls;have hll:=qdd s.body;obtain ⟨hv',U3,ha,hh3,k3,s3,a5,a6⟩:=hh2.appF (fm bound st) (bytes:=16) (x:=.sl false ((qak s.body).map .str)) C2.rk C2.st (qcC _ _ _) (qgx _) (by rw[qtN,qtN];omega);have C3:=C2.app (gv:=hv) k3 s3 a5 fun k ys wr hk'=>hh2.neC hk' (by omega)
    have hg3:=hg2.other fun l o ho a b c hv'=>a5 l o ho fun a' b' c' hh=>hdf l a' b' c' hh a b c hv'
    rw[←qtX] at hh3;obtain ⟨names,hnames⟩:∃names,names=qai s.decls s.body:=⟨_,rfl⟩;have hn':s.decls.flatMap De.names++qak s.body=names:=by rw[hnames];rfl
    rw[hn'] at hh3;rw[←hnames] at hbo ⊢;have hnl2:names.length≤8000:=by rw[←hn',qtZ];omega
    simp[ha];refine qan (qij r bf bt w fv bound st F2 D2 U3 C3.rk b sc names hv' hh3.nr (by omega) (by omega)) ?_;rintro v U4 ⟨rfl,F4,D4,k4,s4⟩;have C4:=C3.call k4 s4;have hg4:=hg3.step s4;obtain ⟨inner,hinner⟩:∃inner,inner=qae names bound.length::sc:=⟨_,rfl⟩;have hbl1:(bound++nms names).length=bound.length+(qae names bound.length).length:=by rw[qtZ,qei _ bound.length]
    have okw:Okw (bound++nms names) st inner (De.nbl s.decls+Sm.nbl s.body) (qaD (s.decls.map Pa.de)+qaD (s.body.map Pa.st)):=by
     rw[hinner];exact Okw.enter (nb:=(qae names 0).length+(De.nbl s.decls+Sm.nbl s.body)) ⟨ok.nd,hof,by omega,by omega⟩ names (qtH _)
    rw[←hinner];have hfi:=okw.fl;have hbi:=okw.bo;have hst4:=qbT (j:=6) (v:=.sl true []) C4.b2 ⟨rfl,rfl,rfl⟩ (by simp) (by simp);simp only[List.take,List.drop,qtO,qt4] at hst4;have C5:=C4.put (fm _ _) (smA s gv (.str s.text) tg ex el (.sl true []) bv);have hg5:=hg4.setC C4.b2 (by omega) (.arr [smA s gv (.str s.text) tg ex el (.sl true []) bv] 8 1);simp[g7,hst4];obtain ⟨E,hE⟩:∃A:Nat→V→(Nat→Prop)→(Nat→Prop)→St→Prop,∀i xv F5 D5 U,A i xv F5 D5 U↔(Cx w 8 (Rk r bf bt w fv (bound++nms names++De.bnl (s.decls.take i)) (De.rsl r inner sc (bound++nms names).length st (s.decls.take i))) F D S s.v smZ (smA s gv (.str s.text) tg ex el xv bv) F5 D5 U∧Gw 1 S.length w F5 D5 ((s.labels.map (rren r sc)).map .str) gv U∧Gw 7 S.length w F5 D5 ((De.rwl r inner sc (bound++nms names).length (s.decls.take i)).map De.v) xv U):=⟨_,fun _ _ _ _ _=>Iff.rfl⟩;refine qaC (IvW (E s.decls.length) fun _=>[(11,.sl false ((Scs.flat inner).map bndV)),(0,.ptr w 0 0 1),(4,.ptr S.length 0 0 1),(6,.ptr (S.length+1) 0 0 1),(7,.ptr (S.length+2) 0 0 1)]) ?_ ?_
    ·refine qap (IvL s.decls.length E fun i _=>[(12,.int .i64 i),(11,.sl false ((Scs.flat inner).map bndV)),(0,.ptr w 0 0 1),(2,.sl b ((Scs.flat sc).map bndV)),(4,.ptr S.length 0 0 1),(6,.ptr (S.length+1) 0 0 1),(7,.ptr (S.length+2) 0 0 1)]) s.decls.length _ ?_ ⟨0,_,F4,D4,by simp,by omega,(hE _ _ _ _ _).2 ⟨by simpa[De.bnl,De.rsl] using C5,hg5,Gw.nil _ _ _ _ _ _⟩,rfl⟩ ?_
     ·repeat' first|exact Env.sub_nil _|refine Env.sub_cons (by simp[g0,g2,g4,g6,g7]) ?_
     rintro j e U ⟨i,xv,F5,D5,rfl,hi,hI,rfl⟩;obtain ⟨hC,hg,hx⟩:=(hE _ _ _ _ _).1 hI;have hn:=hdd hC;by_cases hlt:i<s.decls.length
     ·have hia:=iaDe hlt false U;obtain ⟨n1,n2⟩:=qnf s.decls i hlt;have hst:=qcg Pa.de s.decls i hlt;have hrl:=De.rsl_len r (s.decls.take i) inner sc (bound++nms names).length st;have hbli:(bound++nms names++De.bnl (s.decls.take i)).length=(bound++nms names).length+De.nbl (s.decls.take i):=by rw[qtZ,De.bnl_length]
      have ht:s.decls.take (i+1)=s.decls.take i++[s.decls[i]]:=by rw[qtQ,qtF hlt];rfl
      have q:=qkB r ho bf bt w fv s.decls[i] (IHd _ (qtM hlt)) (by omega) _ _ F5 D5 U b false sc inner hC.rk ⟨okw.nd,by omega,by omega,by have:=okw.fr;omega⟩ ok.nd (by omega);rw[hbli] at q;obtain ⟨d',hd'⟩:∃d',d'=De.rw r inner sc ((bound++nms names).length+De.nbl (s.decls.take i)) s.decls[i]:=⟨_,rfl⟩;rw[←hd'] at q;have hxv:ldS U (.ptr (S.length+2) 0 6 1) none=some xv:=by simp[ldS,hC.b2]
      simp[hn,hlt,hia,hxv];obtain ⟨F',D',U',r1,r2⟩:=hC.rk.real (bound++nms names++De.bnl (s.decls.take i)++s.decls[i].bn) (De.rs r inner sc ((bound++nms names).length+De.nbl (s.decls.take i)) (De.rsl r inner sc (bound++nms names).length st (s.decls.take i)) s.decls[i]);refine qbE q ⟨_,U',rfl,F',D',r1,r2⟩ ?_;rintro v U2 ⟨rfl,F6,D6,k6,s6⟩;have C6:=hC.call k6 s6;have hg6:=hg.step s6;have hx6:=hx.step s6;obtain ⟨xv',U3,ha,hx7,k7,s7,a5,a6⟩:=hx6.app1F (fm _ _) (bytes:=120) (b:=true) C6.rk C6.st (De.fits1 d') (by rw[qtN,qiF,quE];omega);have C7:=C6.app (gv:=xv) k7 s7 a5 fun k ys wr hk'=>hx6.neC hk' (by omega)
      have hg7:=hg6.other fun l o ho a b c hv'=>a5 l o ho fun a' b' c' hh=>(Gx.ne (.inr hx6) (.inr hg6) (by omega)) l a' b' c' a b c hh hv'
      have hstx:=qbT (j:=6) C7.b2 hx7.flatV (by simp) (by simp);simp only[List.take,List.drop,qtO,qt4] at hstx;have C8:=C7.put (fm _ _) (smA s gv (.str s.text) tg ex el xv' bv);have hg8:=hg7.setC C7.b2 (by omega) (.arr [smA s gv (.str s.text) tg ex el xv' bv] 8 1);have hx8:=hx7.setC C7.b2 (by omega) (.arr [smA s gv (.str s.text) tg ex el xv' bv] 8 1)
      have hn1:(De.rwl r inner sc (bound++nms names).length (s.decls.take i)).map De.v++[d'.v]=(De.rwl r inner sc (bound++nms names).length (s.decls.take (i+1))).map De.v:=by
       rw[ht,De.rwl_append,qtX,hd'];rfl
      have hn2:De.rs r inner sc ((bound++nms names).length+De.nbl (s.decls.take i)) (De.rsl r inner sc (bound++nms names).length st (s.decls.take i)) s.decls[i]=De.rsl r inner sc (bound++nms names).length st (s.decls.take (i+1)):=by
       rw[ht,De.rsl_append];rfl
      have hn3:bound++nms names++De.bnl (s.decls.take i)++s.decls[i].bn=bound++nms names++De.bnl (s.decls.take (i+1)):=by
       rw[ht,De.bnl_append,qt1 (bound++nms names)];simp[De.bnl]
      rw[hn1] at hx8;rw[hn2,hn3] at C8;have hxv2:ldS U2 (.ptr (S.length+2) 0 6 1) none=some xv:=by simp[ldS,C6.b2]
      simp[De.fits1,ha,hstx];simp[dend,qbe,qbj,hxv,hxv2];simp[qaK (n:=(i:Int)+1)];refine ⟨_,?_,_,?_,i+1,xv',F6,D6,rfl,by omega,(hE _ _ _ _ _).2 ⟨C8,hg8,hx8⟩,rfl⟩
      ·omega
      ·exact Env.so (by simp)
     ·have:i=s.decls.length:=by omega
      subst this;simp[hn];refine ⟨xv,F5,D5,hI,?_⟩;exact Env.so (by simp)
    clear hsub g0 g2 g4 g6 g7 g9;rintro e U5 ⟨xv,F5,D5,hI,hsub⟩;obtain ⟨C5,hg5,hx5⟩:=(hE _ _ _ _ _).1 hI;rw[qt7] at C5 hx5;have g0:e.get 0=_:=hsub 0 _ rfl;have g4:e.get 4=_:=hsub 4 _ rfl;have g6:e.get 6=_:=hsub 6 _ rfl;have g7:e.get 7=_:=hsub 7 _ rfl;have g11:e.get 11=_:=hsub 11 _ rfl;have hrl:=De.rsl_len r s.decls inner sc (bound++nms names).length st;have hbld:(bound++nms names++De.bnl s.decls).length=(bound++nms names).length+De.nbl s.decls:=by rw[qtZ,De.bnl_length]
    have q:=qgp r bf bt w fv s.body IHb hbl _ _ F5 D5 U5 false false inner C5.rk ⟨okw.nd,by omega,by omega,by have:=okw.fr;omega⟩;rw[hbld,hbl1] at q;simp[g0,g4,g11,hbd C5];refine qan q ?_;rintro v U6 ⟨rfl,F6,D6,k6,s6⟩;have C6:=C5.call k6 s6;have hst:=qbT (j:=7) (v:=.sl false ((Sm.rwl r inner (bound.length+(qae names bound.length).length+De.nbl s.decls) s.body).map Sm.v)) C6.b2 ⟨rfl,rfl,rfl⟩ (by simp) (by simp);simp only[List.take,List.drop,qtO,qt4] at hst;have C7:=C6.put (fm _ _) (smA s gv (.str s.text) tg ex el xv (.sl false ((Sm.rwl r inner (bound.length+(qae names bound.length).length+De.nbl s.decls) s.body).map Sm.v)));have hg7:=(hg5.step s6).setC C6.b2 (by omega) (.arr [smA s gv (.str s.text) tg ex el xv (.sl false ((Sm.rwl r inner (bound.length+(qae names bound.length).length+De.nbl s.decls) s.body).map Sm.v))] 8 1);have hx7:=(hx5.step s6).setC C6.b2 (by omega) (.arr [smA s gv (.str s.text) tg ex el xv (.sl false ((Sm.rwl r inner (bound.length+(qae names bound.length).length+De.nbl s.decls) s.body).map Sm.v))] 8 1);subst htg hex hel;obtain ⟨p1,U9,p2,p3⟩:=fin (s.labels.map (rren r sc)) s.text s.targets s.exps s.elems _ _ gv _ xv C7 (.inr hg7) (.inl ⟨false,rfl⟩) (.inr hx7);have e1:bound++nms names++De.bnl s.decls++Sm.bnl s.body=bound++(nms names++De.bnl s.decls++Sm.bnl s.body):=by simp only[qt1]
    rw[e1] at p3;simp[g6,g7,hst,p1,p2];rw[h7,hbl1] at p3;simp only[qt1] at p3 ⊢;exact p3 _ g6
   rw[if_neg h7,if_neg h7,if_neg h7];rw[if_neg h7] at hbo;by_cases h8:s.kind=8
   ·rw[if_pos h8,if_pos h8,if_pos h8];rw[if_pos h8] at hbo;simp[g0,g2,g4,hkd,h8,hbd hC];refine qan (qeA r bf bt w fv s.body IHb (by omega) bound st F0 D0 U false b sc hC.rk ⟨ok.nd,hof,hbo,by omega⟩) ?_;rintro v U1 ⟨rfl,F1,D1,k1,s1⟩;have C1:=hC.call k1 s1;obtain ⟨bd,hbd'⟩:∃bd,bd=Sm.rwl r (qae (qak s.body) bound.length::sc) (bound.length+(qae (qak s.body) bound.length).length) s.body:=⟨_,rfl⟩;rw[←hbd'];have hst:=qbT (j:=7) (v:=.sl false (bd.map Sm.v)) C1.b2 ⟨rfl,rfl,rfl⟩ (by simp) (by simp);simp only[List.take,List.drop,qtO,qt4] at hst;have C2:=C1.put (fm _ _) (smA s gv (.str s.text) tg ex el dv (.sl false (bd.map Sm.v)));have hg2:=(hg.step s1).setC C1.b2 (by omega) (.arr [smA s gv (.str s.text) tg ex el dv (.sl false (bd.map Sm.v))] 8 1);subst htg hex hel hdv;obtain ⟨p1,U9,p2,p3⟩:=fin (s.labels.map (rren r sc)) s.text s.targets s.exps s.elems s.decls bd gv _ _ C2 (.inr hg2) (.inl ⟨false,rfl⟩) (.inl ⟨false,rfl⟩);simp[g6,g7,hst,p1,p2]
    first|exact p3 _ g6|(rw[h8] at p3;exact p3 _ g6)
   by_cases h6:s.kind=6
   ·simp[g0,g2,g4,hkd,h6,htx];refine qan (qlt r ho bf bt w fv bound st F0 D0 U hC.rk b sc ok.nd (by omega) s.text (by omega)) ?_;rintro v U1 ⟨rfl,F1,D1,k1,s1⟩;have C1:=hC.call k1 s1;have hst:=qbT (j:=2) (v:=.str (qcd r sc s.text)) C1.b2 ⟨rfl,rfl,rfl⟩ (by simp) (by simp);simp only[List.take,List.drop,qtO,qt4] at hst;have C2:=C1.put (fm _ _) (smA s gv (.str (qcd r sc s.text)) tg ex el dv bv);have hg2:=(hg.step s1).setC C1.b2 (by omega) (.arr [smA s gv (.str (qcd r sc s.text)) tg ex el dv bv] 8 1);simp[g7,hst];refine ⟨gv,F1,D1,(hM _ _ _ _).2 ⟨h7,h8,by rw[if_pos h6,if_pos h6];exact C2,hg2⟩,?_⟩
    repeat' first|exact Env.sub_nil _|refine Env.sub_cons (by simp[g0,g2,g4,g6,g7]) ?_
   ·simp[g4,hkd,h7,h8,h6];refine ⟨gv,F0,D0,(hM _ _ _ _).2 ⟨h7,h8,by rw[if_neg h6,if_neg h6];exact hC,hg⟩,?_⟩
    repeat' first|exact Env.sub_nil _|refine Env.sub_cons (by simp[g0,g2,g4,g6,g7]) ?_
  clear hsub hC hg hI;rintro e U ⟨gv,F1,D1,hI,hsub⟩;obtain ⟨h7,h8,C1,hg1⟩:=(hM _ _ _ _).1 hI;rw[if_neg h7,if_neg h8] at hbo;rw[if_neg h7,if_neg h7,if_neg h7,if_neg h8,if_neg h8,if_neg h8];obtain ⟨st1,hst1⟩:∃st1,st1=if s.kind=6 then qbA r sc s.text st else st:=⟨_,rfl⟩
  have hst1l:st1.free.length≤st.free.length+1:=by
   rw[hst1];split
   ·exact qcQ r sc s.text st
   ·omega
  obtain ⟨tx,htx⟩:∃tx,tx=if s.kind=6 then qcd r sc s.text else s.text:=⟨_,rfl⟩
  rw[←hst1] at C1 ⊢;rw[←htx] at C1 ⊢;have g0:e.get 0=_:=hsub 0 _ rfl;have g2:e.get 2=_:=hsub 2 _ rfl;have g4:e.get 4=_:=hsub 4 _ rfl;have g6:e.get 6=_:=hsub 6 _ rfl;have g7:e.get 7=_:=hsub 7 _ rfl;have ldt:ldS U (.ptr S.length 0 3 1) none=some (.sl false (s.targets.map Ex.v)):=by simp[ldS,C1.b0]
  simp[g0,g2,g4,ldt];refine qan (qqm r ho bf bt w fv s.targets (by omega) bound st1 F1 D1 U false b sc C1.rk ok.nd (by omega) (by omega)) ?_;rintro v U2 ⟨rfl,F2,D2,k2,s2⟩;have C2:=C1.call k2 s2;obtain ⟨tg1,htg1⟩:∃x,x=V.sl false ((Ex.rwl r sc s.targets).map Ex.v):=⟨_,rfl⟩;obtain ⟨st2,hst2⟩:∃st2,st2=tgS r sc st1 s.targets:=⟨_,rfl⟩;have hst2l:=qmR r sc st1 s.targets;rw[←hst2] at C2 hst2l ⊢;rw[←htg1];have hstt:=qbT (j:=3) (v:=tg1) C2.b2 (by rw[htg1];exact ⟨rfl,rfl,rfl⟩) (by simp) (by simp);simp only[List.take,List.drop,qtO,qt4] at hstt;have C3:=C2.put (fm _ _) (smA s gv (.str tx) tg1 ex el dv bv);have hg3:=(hg1.step s2).setC C2.b2 (by omega) (.arr [smA s gv (.str tx) tg1 ex el dv bv] 8 1);obtain ⟨U3,hU3⟩:∃U3,U3=U2.set (S.length+2) (.arr [smA s gv (.str tx) tg1 ex el dv bv] 8 1):=⟨_,rfl⟩;rw[←hU3] at hstt C3 hg3;have hste:=qbT (j:=5) (v:=.sl true []) C3.b2 ⟨rfl,rfl,rfl⟩ (by simp) (by simp);simp only[List.take,List.drop,qtO,qt4] at hste;have C4:=C3.put (fm _ _) (smA s gv (.str tx) tg1 ex (.sl true []) dv bv);have hg4:=hg3.setC C3.b2 (by omega) (.arr [smA s gv (.str tx) tg1 ex (.sl true []) dv bv] 8 1);simp[g7,hstt,hste];obtain ⟨E,hE⟩:∃A:Nat→V→(Nat→Prop)→(Nat→Prop)→St→Prop,∀i xv F5 D5 U,A i xv F5 D5 U↔(Cx w 8 (Rk r bf bt w fv bound (El.rsl r sc st2 (s.elems.take i))) F D S s.v smZ (smA s gv (.str tx) tg1 ex xv dv bv) F5 D5 U∧Gw 1 S.length w F5 D5 ((s.labels.map (rren r sc)).map .str) gv U∧Gw 2 S.length w F5 D5 (((s.elems.take i).map (El.rw r sc)).map El.v) xv U):=⟨_,fun _ _ _ _ _=>Iff.rfl⟩;refine qaC (IvW (E s.elems.length) fun _=>[(0,.ptr w 0 0 1),(2,.sl b ((Scs.flat sc).map bndV)),(4,.ptr S.length 0 0 1),(6,.ptr (S.length+1) 0 0 1),(7,.ptr (S.length+2) 0 0 1)]) ?_ ?_
  ·refine qap (IvL s.elems.length E fun i _=>[(13,.int .i64 i),(0,.ptr w 0 0 1),(2,.sl b ((Scs.flat sc).map bndV)),(4,.ptr S.length 0 0 1),(6,.ptr (S.length+1) 0 0 1),(7,.ptr (S.length+2) 0 0 1)]) s.elems.length _ ?_ ⟨0,_,F2,D2,by simp,by omega,(hE _ _ _ _ _).2 ⟨C4,hg4,Gw.nil _ _ _ _ _ _⟩,rfl⟩ ?_
   ·repeat' first|exact Env.sub_nil _|refine Env.sub_cons (by simp[g0,g2,g4,g6,g7]) ?_
   rintro j e U ⟨i,xv,F5,D5,rfl,hi,hI,rfl⟩;obtain ⟨hC,hg,hx⟩:=(hE _ _ _ _ _).1 hI;have hn:ldS U (.ptr S.length 0 5 1) none=some (.sl false (s.elems.map El.v)):=by simp[ldS,hC.b0]
   by_cases hlt:i<s.elems.length
   ·have hia:=fun U=>iaEl hlt false U
    obtain ⟨y,hy⟩:∃y,y=s.elems[i]:=⟨_,rfl⟩;rw[←hy] at hia;have hst:=qcg Pa.el s.elems i hlt;rw[←hy] at hst;have hrl:=El.rsl_len r sc (s.elems.take i) st2;have hys:(Pa.el y).size=1+qaD (y.exps.map Pa.ex):=by rw[Pa.size_eq];rfl
    have ht:s.elems.take (i+1)=s.elems.take i++[y]:=by rw[qtQ,qtF hlt,hy];rfl
    have q:=qfO r ho bf bt w fv y.exps (by omega) bound _ F5 D5 U false b sc hC.rk ok.nd (by omega) (by omega);have hxv:ldS U (.ptr (S.length+2) 0 5 1) none=some xv:=by simp[ldS,hC.b2]
    simp[hn,hlt,hia,hxv];obtain ⟨F',D',U',r1,r2⟩:=hC.rk.real bound (Ex.rsl r sc (El.rsl r sc st2 (s.elems.take i)) y.exps);refine qbE q ⟨_,U',rfl,F',D',r1,r2⟩ ?_;rintro v U2 ⟨rfl,F6,D6,k6,s6⟩;have C6:=hC.call k6 s6;have hg6:=hg.step s6;have hx6:=hx.step s6;obtain ⟨y',hy'⟩:∃y',y'=El.rw r sc y:=⟨_,rfl⟩;obtain ⟨xv',U3,ha,hx7,k7,s7,a5,a6⟩:=hx6.app1F (fm _ _) (bytes:=32) (b:=true) C6.rk C6.st (El.fits1 y') (by simp;omega);have C7:=C6.app (gv:=xv) k7 s7 a5 fun k ys wr hk'=>hx6.neC hk' (by omega)
    have hg7:=hg6.other fun l o ho a b c hv'=>a5 l o ho fun a' b' c' hh=>(Gx.ne (.inr hx6) (.inr hg6) (by omega)) l a' b' c' a b c hh hv'
    have hstx:=qbT (j:=5) C7.b2 hx7.flatV (by simp) (by simp);simp only[List.take,List.drop,qtO,qt4] at hstx;have C8:=C7.put (fm _ _) (smA s gv (.str tx) tg1 ex xv' dv bv);have hg8:=hg7.setC C7.b2 (by omega) (.arr [smA s gv (.str tx) tg1 ex xv' dv bv] 8 1);have hx8:=hx7.setC C7.b2 (by omega) (.arr [smA s gv (.str tx) tg1 ex xv' dv bv] 8 1)
    have hn1:((s.elems.take i).map (El.rw r sc)).map El.v++[y'.v]=((s.elems.take (i+1)).map (El.rw r sc)).map El.v:=by
     rw[ht,qtX,qtX,hy'];rfl
    have hn2:Ex.rsl r sc (El.rsl r sc st2 (s.elems.take i)) y.exps=El.rsl r sc st2 (s.elems.take (i+1)):=by
     rw[ht,El.rsl_append];rfl
    rw[hn1] at hx8;rw[hn2] at C8
    have hbu:qal (.agg [.int .i64 0,.sl true []]) [(0,1,.int .i64 y.kind),(1,1,.sl false ((Ex.rwl r sc y.exps).map Ex.v))]=some y'.v:=by
     rw[hy'];simp[qal,qac,El.v,El.rw]
    have hxv2:ldS U2 (.ptr (S.length+2) 0 5 1) none=some xv:=by simp[ldS,C6.b2]
    have hn2':ldS U2 (.ptr S.length 0 5 1) none=some (.sl false (s.elems.map El.v)):=by simp[ldS,C6.b0]
    simp[qah,hbu,El.fits1,ha,hstx];simp[dend,qbe,qbj,hxv,hxv2,hn,hn2',hia];simp[qaK (n:=(i:Int)+1)];refine ⟨_,?_,_,?_,i+1,xv',F6,D6,rfl,by omega,(hE _ _ _ _ _).2 ⟨C8,hg8,hx8⟩,rfl⟩
    ·omega
    ·exact Env.so (by simp)
   ·have:i=s.elems.length:=by omega
    subst this;simp[hn];refine ⟨xv,F5,D5,hI,?_⟩;exact Env.so (by simp)
  clear hsub g0 g2 g4 g6 g7;rintro e U5 ⟨xv,F5,D5,hI,hsub⟩;obtain ⟨C5,hg5,hx5⟩:=(hE _ _ _ _ _).1 hI;rw[qt7] at C5 hx5;have g0:e.get 0=_:=hsub 0 _ rfl;have g2:e.get 2=_:=hsub 2 _ rfl;have g4:e.get 4=_:=hsub 4 _ rfl;have g6:e.get 6=_:=hsub 6 _ rfl;have g7:e.get 7=_:=hsub 7 _ rfl;have hrl:=El.rsl_len r sc s.elems st2;have ldx:ldS U5 (.ptr S.length 0 4 1) none=some (.sl false (s.exps.map Ex.v)):=by simp[ldS,C5.b0]
  simp[g0,g2,g4,ldx];refine qan (qfO r ho bf bt w fv s.exps (by omega) bound _ F5 D5 U5 false b sc C5.rk ok.nd (by omega) (by omega)) ?_;rintro v U6 ⟨rfl,F6,D6,k6,s6⟩;have C6:=C5.call k6 s6;have hrl6:=Ex.rsl_len r sc s.exps (El.rsl r sc st2 s.elems);obtain ⟨ex1,hex1⟩:∃x,x=V.sl false ((Ex.rwl r sc s.exps).map Ex.v):=⟨_,rfl⟩;rw[←hex1];have hstx:=qbT (j:=4) (v:=ex1) C6.b2 (by rw[hex1];exact ⟨rfl,rfl,rfl⟩) (by simp) (by simp);simp only[List.take,List.drop,qtO,qt4] at hstx;have C7:=C6.put (fm _ _) (smA s gv (.str tx) tg1 ex1 xv dv bv);have hg7:=(hg5.step s6).setC C6.b2 (by omega) (.arr [smA s gv (.str tx) tg1 ex1 xv dv bv] 8 1);have hx7:=(hx5.step s6).setC C6.b2 (by omega) (.arr [smA s gv (.str tx) tg1 ex1 xv dv bv] 8 1);have ldb:ldS (U6.set (S.length+2) (.arr [smA s gv (.str tx) tg1 ex1 xv dv bv] 8 1)) (.ptr S.length 0 7 1) none=some (.sl false (s.body.map Sm.v)):=by simp only[ldS,C7.b0];simp
  simp[g0,g2,g4,g7,hstx,ldb];refine qan (qgj r bf bt w fv s.body IHb (by omega) bound _ F6 D6 _ false b sc C7.rk ⟨ok.nd,hof,hbo,by omega⟩) ?_;rintro v U8 ⟨rfl,F8,D8,k8,s8⟩;have C8:=C7.call k8 s8;have hst:=qbT (j:=7) (v:=.sl false ((Sm.rw1 r sc bound.length s.body).map Sm.v)) C8.b2 ⟨rfl,rfl,rfl⟩ (by simp) (by simp);simp only[List.take,List.drop,qtO,qt4] at hst;have C9:=C8.put (fm _ _) (smA s gv (.str tx) tg1 ex1 xv dv (.sl false ((Sm.rw1 r sc bound.length s.body).map Sm.v)));have hg9:=(hg7.step s8).setC C8.b2 (by omega) (.arr [smA s gv (.str tx) tg1 ex1 xv dv (.sl false ((Sm.rw1 r sc bound.length s.body).map Sm.v))] 8 1);have hx9:=(hx7.step s8).setC C8.b2 (by omega) (.arr [smA s gv (.str tx) tg1 ex1 xv dv (.sl false ((Sm.rw1 r sc bound.length s.body).map Sm.v))] 8 1);subst htg1 hex1 hdv;obtain ⟨p1,U9,p2,p3⟩:=fin (s.labels.map (rren r sc)) tx (Ex.rwl r sc s.targets) (Ex.rwl r sc s.exps) (s.elems.map (El.rw r sc)) s.decls _ gv xv _ C9 (.inr hg9) (.inr hx9) (.inl ⟨false,rfl⟩);simp[g6,g7,hst,p1,p2];exact p3 _ g6
theorem qoU(r:Rp)(ho:RpOk r)(bf bt:Bool)(w:Nat)(fv:V)(s:Sm)(hsz:(Pa.st s).size≤4000)(st:Rst)(F D:Nat→Prop)(S:St)(hk:Rk r bf bt w fv [] st F D S)(hn:Sm.nb1 [s]≤50000)(hfr:st.free.length+(Pa.st s).size≤1000000):
  Spec prog 67 [.ptr w 0 0 1,s.v] S (fun v U=>Rd' w (Rk r bf bt w fv (nms s.labels++s.bn) (s.rs r [qae s.labels 0] (qae s.labels 0).length st)) F D S (s.wholeQ r).v v U):=by
 refine Spec.intro func67 ok67 (by simp[c67]) ?_;obtain ⟨S1,hS1⟩:∃S1:St,S1=S++[.arr [s.v] 8 1,.arr [smZ] 8 1]:=⟨_,rfl⟩;have b0:S1[S.length]?=some (.arr [s.v] 8 1):=by rw[hS1,qtC (by omega)];simp
 have b1:S1[S.length+1]?=some (.arr [smZ] 8 1):=by rw[hS1,qtC (by omega)];simp
 have fm:=fun bo s=>Rk.frm r bf bt w fv bo s
 have k1:Rk r bf bt w fv [] st F D S1:=by rw[hS1];exact (fm _ _).push hk _
 have s1:Stp w F D S F D S1:=by rw[hS1];exact (Stp.refl _ _ _ _).push _
 have o1:Off w F D (S.length+1):=(fm _ _).out hk (by omega);have hlab:qak [s]=s.labels:=by simp[qak]
 have q:=qeA r bf bt w fv [s] (fun y hy=>by simp at hy;subst hy;exact qia r ho bf bt w fv 4000 y hsz (qtH _)) (by simpa using hsz) [] st F D S1 true true [] k1 ⟨fun _ h=>(by cases h),quj _,by rw[hlab];simpa[Sm.nb1,Sm.nbl] using hn,by simpa using hfr⟩;rw[hlab] at q;simp only[qtW,quG,Sm.bnl,Sm.rsl,Sm.rwl,quW,qt4,qu2,quJ,Scs.flat] at q;have ld0:ldS S1 (.ptr S.length 0 0 1) (some 8)=some s.v:=by simp[ldS,b0]
 simp[c67,boxS];rw[←hS1];simp[ld0,Sm.fits1];refine qan q ?_;rintro v U ⟨rfl,F1,D1,k2,s2⟩;have c1:=s2.at o1 b1;have p1:=o1.next (glt b1) s2;have hia:iaS U 8 (.sl false [(s.rw r [qae s.labels 0] (qae s.labels 0).length).v]) 0=some (.iptr (s.rw r [qae s.labels 0] (qae s.labels 0).length).v 0):=by simp[iaS]
 obtain ⟨y,hy⟩:∃y,y=s.rw r [qae s.labels 0] (qae s.labels 0).length:=⟨_,rfl⟩;rw[←hy] at hia ⊢;have hst:stS U (.ptr (S.length+1) 0 0 1) 8 y.v=some (U.set (S.length+1) (.arr [y.v] 8 1)):=by simp[stS,c1,qac]
 simp[hia,hst];have hz:(U.set (S.length+1) (.arr [y.v] 8 1))[S.length+1]?=some (.arr [y.v] 8 1):=qtE (glt c1);exact qaj (vs:=[y.v]) (by simp[rvs,ldS,hz]) ⟨by simp only[retV];rw[hy];rfl,F1,D1,(fm _ _).set k2 _ p1,(s1.trans s2).set _ (by omega)⟩
def gnum(k:Nat):ByteArray:=⟨⟨[63]⟩⟩++⟨(dig k).toArray⟩
def r0:Rp:=⟨[],[],[]⟩
def rn(n:Nat):Rp:=⟨(List.range n).map gnum,[],[]⟩
theorem qtz:RpOk r0:=⟨qtH _,quj _⟩
theorem qtj(n:Nat):RpOk (rn n):=⟨qtH _,quj _⟩
def st0:Rst:=⟨[],false,false⟩
abbrev wk0(gv:V):Ob:=.arr [.agg [.sl true [],.sl true [],gv,.sl true [],.sl true [],.bool false,.bool false]] 7 1
theorem Rk.start{w:Nat}{S:St}{gv:V}{fresh:List ByteArray}{D:Nat→Prop}(h:S[w]?=some (wk0 gv))(hg:Gs w D fresh gv S)(hD:∀l,D l→l<S.length)(hw:¬ D w):Rk ⟨fresh,[],[]⟩ true true w gv [] st0 (fun _=>False) D S:=by
 refine ⟨⟨.sl true [],.sl true [],?_,.inl ⟨rfl,rfl⟩,.inl ⟨rfl,rfl⟩,fun l a b c hh=>by cases hh⟩,?_,?_,id,hw,fun l hl=>hl.elim,glt h⟩
 ·unfold wkO st0;unfold wk0 at h;exact h
 ·rcases hg with ⟨h1,h2⟩|⟨l,wr,h1,h2,h3,h4,h5⟩
  ·exact .inl ⟨true,by rw[h1,h2];rfl⟩
  ·exact .inr ⟨l,wr,h1,h3,h4,h5⟩
 ·rintro l (hl|hl)
  ·exact hl.elim
  ·exact hD l hl
theorem qnK(k:Nat)(hk:k<1000):strV .add ⟨⟨[63]⟩⟩ ⟨(dig k).toArray⟩=some (.str (gnum k)):=by
 have:=qcF k k (qtH _);unfold strV gnum;rw[if_pos];show (((⟨⟨[63]⟩⟩:ByteArray).size+(⟨(dig k).toArray⟩:ByteArray).size:Nat):Int)≤9223372036854775807;have h1:(⟨⟨[63]⟩⟩:ByteArray).size=1:=rfl;have h2:(⟨(dig k).toArray⟩:ByteArray).size=(dig k).length:=by simp[ByteArray.size]
 omega
theorem qrq(s:Sm):Sm.nb1 [s]=(qae s.labels 0).length+s.nb:=by simp[Sm.nb1]
structure Nu(S U0:St)(s:Sm)(vb:V)(n i:Nat)(gv:V)(G:Nat→Prop)(U:St):Prop where
 len:U0.length<U.length
 old:∀l o,l<U0.length→U0[l]?=some o→U[l]?=some o
 wk:U[U0.length]?=some (wk0 gv)
 gs:Gs U0.length G ((List.range i).map gnum) gv U
 gt:∀l,G l→U0.length<l∧l<U.length
theorem qo9(s:Sm)(hsz:(Pa.st s).size≤4000)(hn:Sm.nb1 [s]<1000)(S:St):Spec prog 71 [s.v] S (fun v U=>v=(s.wholeQ (rn (Sm.nb1 [s]))).v∧Kp (fun _=>False) S U):=by
 refine Spec.intro func71 ok71 (by simp[c71]) ?_;obtain ⟨S1,hS1⟩:∃S1:St,S1=S++[.arr [s.v] 8 1,.arr [smZ] 8 1,wk0 (.sl true [])]:=⟨_,rfl⟩;have b0:S1[S.length]?=some (.arr [s.v] 8 1):=by rw[hS1,qtC (by omega)];simp
 have b1:S1[S.length+1]?=some (.arr [smZ] 8 1):=by rw[hS1,qtC (by omega)];simp
 have b2:S1[S.length+2]?=some (wk0 (.sl true [])):=by rw[hS1,qtC (by omega)];simp
 have l1:S1.length=S.length+3:=by rw[hS1];simp
 have kS:Kp (fun _=>False) S S1:=by rw[hS1];exact (Kp.refl _ _).push _
 have ld0:ldS S1 (.ptr S.length 0 0 1) (some 8)=some s.v:=by simp[ldS,b0]
 have k1:Rk r0 true true (S.length+2) (.sl true []) [] st0 (fun _=>False) (fun _=>False) S1:=Rk.start b2 (.inl ⟨rfl,rfl⟩) (fun _ h=>h.elim) id;simp[c71,boxS,qah,qal];rw[←hS1];simp[ld0];refine qan (qoU r0 qtz true true (S.length+2) _ s hsz st0 _ _ S1 k1 (by omega) (by show 0+_≤_;omega)) ?_;rintro v U ⟨rfl,F1,D1,k2,s2⟩;have kp1:Kp (fun l=>l=S.length+2) S1 U:=s2.k.mono fun l _ hh=>hh.elim id fun h=>h.elim
 have c0:=kp1.at b0 (by omega);have c1:=kp1.at b1 (by omega);have lU:S1.length≤U.length:=kp1.len;obtain ⟨vb,vf,w1,w2,w3,w4⟩:=k2.wx;have hbl:(nms s.labels++s.bn).length=Sm.nb1 [s]:=by rw[qtZ,qei _ 0,Sm.bn_length,qrq]
 have hlb:lenS vb=some (.int .i64 (Sm.nb1 [s])):=by rw[w2.flat.2.2.2,hbl]
 have hcb:=w2.flat.1
 have ldb:∀X:St,X[S.length+2]?=U[S.length+2]?→ldS X (.ptr (S.length+2) 0 0 1) none=some vb:=fun X hX=>by
  unfold wkO at w1;rw[w1] at hX;simp[ldS,hX]
 have ltU:S.length+2<U.length:=glt w1;simp[boxS,qah,qal];obtain ⟨A,hA⟩:∃A:Nat→V→(Nat→Prop)→(Nat→Prop)→St→Prop,∀i gv G D' X,A i gv G D' X↔Nu S U s vb (Sm.nb1 [s]) i gv G X:=⟨_,fun _ _ _ _ _=>Iff.rfl⟩;refine qaC (IvW (A (Sm.nb1 [s])) fun _=>[(4,.ptr U.length 0 0 1),(1,.ptr S.length 0 0 1),(2,.ptr (S.length+1) 0 0 1)]) ?_ ?_
 ·refine qap (IvL (Sm.nb1 [s]) A fun i _=>[(5,.int .i64 i),(3,.ptr (S.length+2) 0 0 1),(4,.ptr U.length 0 0 1),(1,.ptr S.length 0 0 1),(2,.ptr (S.length+1) 0 0 1)]) (Sm.nb1 [s]) _ ?_ ⟨0,.sl true [],fun _=>False,fun _=>False,by simp,by omega,(hA _ _ _ _ _).2 ⟨by simp,fun l o _ ho=>gp ho,by simp,.inl ⟨rfl,rfl⟩,fun _ h=>h.elim⟩,rfl⟩ ?_
  ·exact Env.so (by simp)
  rintro j e X ⟨i,gv,G,G0,rfl,hi,hI,rfl⟩;have hN:=(hA _ _ _ _ _).1 hI;have hld:=ldb X (by rw[w1];exact hN.old _ _ ltU w1);by_cases hlt:i<Sm.nb1 [s]
  ·have hg:=hN.wk;have hgv:ldS X (.ptr U.length 0 2 1) none=some gv:=by unfold wk0 at hg;simp[ldS,hg]
   have hfs:fits 1 [V.str (gnum i)]=true:=rfl;obtain ⟨gv',X',G',ha,g2,g3,g4,g5,g6,g7,g8,g9⟩:=hN.gs.app (D:=fun _=>False) (fun l hl=>hl.elim (fun h=>(hN.gt l h).2) fun h=>h.elim) hN.len (gnum i) (by simp;omega) true
   have hne:∀a b c,gv≠.arr U.length a b c:=fun a b c hh=>by
    rcases hN.gs with ⟨_,h⟩|⟨l,wr,h1,h2,h3,h4,h5⟩
    ·rw[hh] at h;cases h
    ·rw[hh] at h3;cases h3;exact h2 rfl
   have hw':X'[U.length]?=some (wk0 gv):=g4 _ _ hg hne;have hst:=qbT (j:=2) (v:=gv') hw' ⟨g2.flat.1,g2.flat.2.1,g2.flat.2.2.1⟩ (by simp) (by simp);simp only[List.take,List.drop,qtO,qt4] at hst;have hm:(List.range i).map gnum++[gnum i]=(List.range (i+1)).map gnum:=by rw[List.range_succ,qtX];rfl
   rw[hm] at g2;simp[hld,↓qcl,qbd,hlb,hlt,hgv];refine qa6 (qs7 i (by omega) X) ?_;simp[qnK i (by omega),hfs,ha,qbd,hst];simp[dend,qbe,qbj,hgv];simp[qaK (n:=(i:Int)+1)];refine ⟨_,?_,_,?_,i+1,gv',G',G0,rfl,by omega,(hA _ _ _ _ _).2 ⟨?_,?_,qtE (glt hw'),?_,?_⟩,rfl⟩
   ·omega
   ·exact Env.so (by simp)
   ·have:=hN.len;simp;omega
   ·intro l o hl ho;rw[qtG (by omega)];refine g4 _ _ (hN.old l o hl ho) fun a b c hh=>?_
    rcases hN.gs with ⟨_,h⟩|⟨l',wr,h1,h2,h3,h4,h5⟩
    ·rw[hh] at h;cases h
    ·rw[hh] at h3;cases h3;have:=(hN.gt _ h1).1;omega
   ·refine g2.keep fun l o hl ho=>?_
    rw[qtG]
    ·exact ho
    ·rintro rfl;rcases (g5 _).1 hl with h|⟨_,h⟩
     ·have:=(hN.gt _ h).1;omega
     ·have:=hN.len;omega
   ·intro l hl;refine ⟨?_,by have:=g7 l hl;simpa using this⟩;rcases (g5 _).1 hl with h|⟨_,h⟩
    ·exact (hN.gt _ h).1
    ·have:=hN.len;omega
  ·have:i=Sm.nb1 [s]:=by omega
   subst this;simp[hld,↓qcl,qbd,hlb];refine ⟨gv,G,G0,hI,?_⟩;exact Env.so (by simp)
 rintro e X ⟨gv,G,G0,hI,hsub⟩;have hN:=(hA _ _ _ _ _).1 hI;have g1:e.get 1=_:=hsub 1 _ rfl;have g2:e.get 2=_:=hsub 2 _ rfl;have g4:e.get 4=_:=hsub 4 _ rfl;have d0:=hN.old _ _ (by omega) c0;have d1:=hN.old _ _ (by omega) c1;have ld0:ldS X (.ptr S.length 0 0 1) (some 8)=some s.v:=by simp[ldS,d0]
 have k3:=Rk.start hN.wk hN.gs (fun l hl=>(hN.gt l hl).2) fun hh=>by have:=(hN.gt _ hh).1;omega
 simp[g1,g2,g4,ld0];refine qan (qoU (rn (Sm.nb1 [s])) (qtj _) true true U.length gv s hsz st0 _ _ X k3 (by omega) (by show 0+_≤_;omega)) ?_;rintro v Y ⟨rfl,F2,D2,k4,s4⟩;have kp4:Kp (fun l=>l=U.length) X Y:=s4.k.mono fun l _ hh=>hh.elim id fun h=>h.elim
 have e1:=kp4.at d1 (by omega);obtain ⟨y,hy⟩:∃y,y=s.wholeQ (rn (Sm.nb1 [s])):=⟨_,rfl⟩;rw[←hy];have hst:stS Y (.ptr (S.length+1) 0 0 1) 8 y.v=some (Y.set (S.length+1) (.arr [y.v] 8 1)):=by simp[stS,e1,qac]
 simp[g2,hst];have hz:(Y.set (S.length+1) (.arr [y.v] 8 1))[S.length+1]?=some (.arr [y.v] 8 1):=qtE (glt e1);refine qaj (vs:=[y.v]) (by simp[rvs,g2,ldS,hz]) ⟨rfl,?_⟩;refine Kp.set ?_ _ (.inr (by omega));refine ⟨by have:=kp4.len;have:=hN.len;have:=kS.len;omega,fun l hl _=>?_⟩;rw[kp4.get l (by have:=hN.len;omega) (by omega)];have h1:S1[l]?=S[l]?:=kS.get l hl id;obtain ⟨o,ho⟩:∃o,S[l]?=some o:=⟨_,qtF hl⟩;rw[ho] at h1 ⊢;have h2:=kp1.at h1 (by omega);exact hN.old l o (by omega) h2
