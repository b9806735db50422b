/- A part. -/
import Derived.Test.YtbifpocccfkhhaaGreatDoorRh
set_option linter.all false
noncomputable section
namespace Go.Proofs.YtbifpocccfkhhaaGreatDoor
open Go Go.Proofs.Tryz
theorem gp{U:St}{x:Nat}{o o':Ob}(h:U[x]?=some o):(U++[o'])[x]?=some o:=by rw[qpY (qpU.1 h).1];exact h
theorem gs{U:St}{x L:Nat}{o o':Ob}(h:U[x]?=some o)(hx:x≠L):(U.set L o')[x]?=some o:=by rw[qpX (Ne.symm hx)];exact h
theorem glt{U:St}{x:Nat}{o:Ob}(h:U[x]?=some o):x<U.length:=(qpU.1 h).1
@[simp] theorem Pa.v_flatA(p:Pa):(∀x,x∈p.v.cells→x.flat=true)=True:=by
 have:=Pa.v_flat p;rw[qqi] at this;exact eq_true this
@[simp] theorem Pa.v_flatB(p:Pa):(p.v.cells.all V.flat)=true:=Pa.v_flat p
@[simp] theorem Pa.v_sz(p:Pa):p.v.size=25:=rfl
@[simp] theorem Pa.v_part(p:Pa):V.part p.v 0 (some 25)=some p.v:=rfl
theorem qhm{α:Type}{l:List α}{i:Nat}{x:α}(h:l[i]?=some x):l.set i x=l:=by
 apply qq9;intro j;rw[List.getElem?_set];split
 ·rename_i hij;subst hij;rw[h];have:=(qpU.1 h).1;simp[this]
 ·rfl
theorem Kp.chain{M N:Np}{S T U:St}(h:Kp M S T)(g:Kp N T U)(hn:∀l,l<S.length→N l→M l):Kp M S U:=
 ⟨qqS h.len g.len,fun l hl hm=>(g.get l (qqC hl h.len) fun hh=>hm (hn l hl hh)).trans (h.get l hl hm)⟩
def qdt(a b c:Nat):V:=.fn (.func 177) [] [.ptr a 0 0 1,.ptr b 0 0 1,.ptr c 0 0 1]
structure MJ(a b c n:Nat)(p:Pa)(at' z d:Int)(U:St):Prop where
 ta:U[a]?=some (.arr [.int .i64 z] 1 1)
 tb:U[b]?=some (.arr [.int .i64 d] 1 1)
 tc:U[c]?=some (.arr [qdt a b c] 1 1)
 t6:U[n+1]?=some (.arr [.int .i64 at'] 1 1)
 t7:U[n+2]?=some (.arr [.bool false] 1 1)
 k:U[n+3]?=some (.arr [p.v] 25 1)
theorem MJ.push{a b c n:Nat}{p:Pa}{at' z d:Int}{U:St}(h:MJ a b c n p at' z d U)(o:Ob):MJ a b c n p at' z d (U++[o]):=⟨gp h.ta,gp h.tb,gp h.tc,gp h.t6,gp h.t7,gp h.k⟩
theorem MJ.set{a b c n:Nat}{p:Pa}{at' z d:Int}{U:St}(h:MJ a b c n p at' z d U){L:Nat}(o:Ob)(ha:a<n)(hb:b<n)(hc:c<n)(hL:n+4≤L):MJ a b c n p at' z d (U.set L o):=
 ⟨gs h.ta (by omega),gs h.tb (by omega),gs h.tc (by omega),gs h.t6 (by omega),gs h.t7 (by omega),gs h.k (by omega)⟩
structure MD(a b c n:Nat)(U:St):Prop where
 z:∃z:Int,U[a]?=some (.arr [.int .i64 z] 1 1)
 d:∃d:Int,U[b]?=some (.arr [.int .i64 d] 1 1)
 t7:U[n+2]?=some (.arr [.bool false] 1 1)
theorem MD.push{a b c n:Nat}{U:St}(h:MD a b c n U)(o:Ob):MD a b c n (U++[o]):=⟨let ⟨z,hz⟩:=h.z;⟨z,gp hz⟩,let ⟨z,hz⟩:=h.d;⟨z,gp hz⟩,gp h.t7⟩
def mOk(p:Pa)(z at':Int):Prop:=z+p.size≤2000∧at'+p.depth - 1≤60
theorem yS{l:List Pa}{i:Nat}{q:Pa}(h:l[i]?=some q):zG (l.take (i+1))=max (zG (l.take i)) q.depth:=by
 rw[qp9,h,yr];simp
theorem Ql{l:List Pa}{i:Nat}{q:Pa}(h:l[i]?=some q):qF (l.take (i+1))=qF (l.take i)+q.size:=by
 rw[qp9,h,zj];simp
theorem qdD{l:List Pa}{i:Nat}{q:Pa}(h:l[i]?=some q):q.depth≤zG l:=by
 have:=yS h;have h2:zG l=max (zG (l.take (i+1))) (zG (l.drop (i+1))):=by rw[←yr,qqE]
 omega
theorem zb{l:List Pa}{i:Nat}{q:Pa}(h:l[i]?=some q):qF (l.take i)+q.size≤qF l:=by
 have:=Ql h;have h2:qF l=qF (l.take (i+1))+qF (l.drop (i+1)):=by rw[←zj,qqE]
 omega
def mR(a b:Nat)(p:Pa)(z d at':Int)(S:St)(v:V)(U:St):Prop:=Kp (fun x=>x=a∨x=b) S U∧∃z' d':Int,U[a]?=some (.arr [.int .i64 z'] 1 1)∧U[b]?=some (.arr [.int .i64 d'] 1 1)∧
 ((v=.bool true∧z'=z+p.size∧d'=max d (at'+p.depth - 1)∧mOk p z at')∨(v=.bool false∧¬ mOk p z at'))
theorem qlI:∀(k:Nat) (p:Pa),p.wt≤k→p.ok→∀(at':Int),1≤at'→at'≤61→∀(a b c:Nat),a≠b→a≠c→b≠c→∀(z d:Int),0≤z→z≤2000→0≤d→d≤60→∀S:St,
  S[a]?=some (.arr [.int .i64 z] 1 1)→S[b]?=some (.arr [.int .i64 d] 1 1)→S[c]?=some (.arr [qdt a b c] 1 1)→
  qB prog 177 [p.v,.int .i64 at',.ptr a 0 0 1,.ptr b 0 0 1,.ptr c 0 0 1] S (mR a b p z d at' S):=by
 intro k
 induction k with
 | zero=>intro p h;exfalso;cases p with
  | st s=>cases s;simp[Pa.wt] at h
  | de s=>cases s;simp[Pa.wt] at h
  | el s=>cases s;simp[Pa.wt] at h
  | ex s=>cases s;simp[Pa.wt] at h
 | succ k ih=>
  intro p hw hp at' ha0 ha1 a b c hab hac hbc z d hz0 hz1 hd0 hd1 S hA hB hC;have la:=glt hA;have lb:=glt hB;have lc:=glt hC;have ho:=Pa.own_le hp;have ho1:=p.own_pos;unfold B50 at ho;refine qB.ib func177 ok177 ?_;have e1:IntKind.i64.wrap (z+p.own)=z+p.own:=qy (by omega) (by omega);simp[c177,qw];obtain ⟨T,hT⟩:∃T,S++[.arr [p.v] 25 1,.arr [.int .i64 at'] 1 1,.arr [.bool false] 1 1]=T:=⟨_,rfl⟩;have kT:Kp (fun x=>x=a∨x=b) S T:=by rw[←hT];exact (Kp.refl _ _).push _
  have lT:T.length=S.length+3:=by rw[←hT];simp
  have tA:T[a]?=some (.arr [.int .i64 z] 1 1):=by rw[←hT,qpY la];exact hA
  have tB:T[b]?=some (.arr [.int .i64 d] 1 1):=by rw[←hT,qpY lb];exact hB
  have tC:T[c]?=some (.arr [qdt a b c] 1 1):=by rw[←hT,qpY lc];exact hC
  have t5:T[S.length]?=some (.arr [p.v] 25 1):=by rw[←hT,qpV (by omega)];simp
  have t6:T[S.length+1]?=some (.arr [.int .i64 at'] 1 1):=by rw[←hT,qpV (by omega)];simp
  have t7:T[S.length+2]?=some (.arr [.bool false] 1 1):=by rw[←hT,qpV (by omega)];simp
  rw[hT];clear hT;simp[ldS,tA,t5];refine zt (qlq p hp _) ?_;simp[Qd,zA,zK,ldS,stS,zO,e1,tA];obtain ⟨T1,hT1⟩:∃T1,List.set T a (.arr [.int .i64 (z+p.own)] 1 1)=T1:=⟨_,rfl⟩;have uA:T1[a]?=some (.arr [.int .i64 (z+p.own)] 1 1):=by rw[←hT1,qpW (by omega)]
  have uB:T1[b]?=some (.arr [.int .i64 d] 1 1):=by rw[←hT1];exact gs tB hab.symm
  have uC:T1[c]?=some (.arr [qdt a b c] 1 1):=by rw[←hT1];exact gs tC hac.symm
  have u5:T1[S.length]?=some (.arr [p.v] 25 1):=by rw[←hT1];exact gs t5 (by omega)
  have u6:T1[S.length+1]?=some (.arr [.int .i64 at'] 1 1):=by rw[←hT1];exact gs t6 (by omega)
  have u7:T1[S.length+2]?=some (.arr [.bool false] 1 1):=by rw[←hT1];exact gs t7 (by omega)
  have kU:Kp (fun x=>x=a∨x=b) S T1:=by rw[←hT1];exact kT.set _ (.inl (.inl rfl))
  have lU:T1.length=S.length+3:=by rw[←hT1];simp[lT]
  rw[hT1];clear hT1 tA tB tC t5 t6 t7 kT lT T;have hmx:(if d<at' then at' else d)=max d at':=by omega
  simp[evX,mmV,uB,u6,stS,zO,ldS,hmx];obtain ⟨T2,hT2⟩:∃T2,List.set T1 b (.arr [.int .i64 (max d at')] 1 1)=T2:=⟨_,rfl⟩;have wA:T2[a]?=some (.arr [.int .i64 (z+p.own)] 1 1):=by rw[←hT2];exact gs uA hab
  have wB:T2[b]?=some (.arr [.int .i64 (max d at')] 1 1):=by rw[←hT2,qpW (by omega)]
  have wC:T2[c]?=some (.arr [qdt a b c] 1 1):=by rw[←hT2];exact gs uC hbc.symm
  have w5:T2[S.length]?=some (.arr [p.v] 25 1):=by rw[←hT2];exact gs u5 (by omega)
  have w6:T2[S.length+1]?=some (.arr [.int .i64 at'] 1 1):=by rw[←hT2];exact gs u6 (by omega)
  have w7:T2[S.length+2]?=some (.arr [.bool false] 1 1):=by rw[←hT2];exact gs u7 (by omega)
  have kW:Kp (fun x=>x=a∨x=b) S T2:=by rw[←hT2];exact kU.set _ (.inl (.inr rfl))
  have lW:T2.length=S.length+3:=by rw[←hT2];simp[lU]
  rw[hT2];clear hT2 uA uB uC u5 u6 u7 kU lU T1;have hsz:=p.size_eq;have hdp:=p.depth_eq;by_cases g1:2000<z+p.own
  ·simp[g1,wA,stS,zO,w7];refine qi (by simp[ldS,lW];rfl) ⟨kW.set _ (.inr (by omega)),z+p.own,max d at',gs wA (by omega),gs wB (by omega),.inr ⟨rfl,?_⟩⟩;unfold mOk;have:=Pa.own_pos p;omega
  by_cases g2:60<max d at'
  ·simp[g1,g2,wA,wB,stS,zO,w7,ldS];refine qi (by simp[ldS,lW];rfl) ⟨kW.set _ (.inr (by omega)),z+p.own,max d at',gs wA (by omega),gs wB (by omega),.inr ⟨rfl,?_⟩⟩;unfold mOk;have:=Pa.depth_pos p;omega
  simp[g1,g2,wA,wB,stS,zO,w5,ldS];refine qm (qgp p T2) ?_;rintro v U ⟨rfl,rfl⟩;simp;have hkl:(p.kids.map fun q=>[q.v]).length=p.kids.length:=by simp
  refine qc8 (k:=202) (fs:=[]) (cs:=[.ptr T2.length 0 0 1]) (by simp) (qbh p hp T2.length) rfl rfl rfl (by simp) (fun x=>x=a∨x=b∨x=S.length+2) ?_
   (fun i U=>MJ a b c S.length p at' (z+p.own+qF (p.kids.take i)) (max (max d at') (at'+zG (p.kids.take i))) U∧z+p.own+qF (p.kids.take i)≤2000∧max (max d at') (at'+zG (p.kids.take i))≤60)
   (fun U=>MD a b c S.length U∧¬ mOk p z at') (fun _ _=>False) ?_ ?_ ?_ ?_ (fun i U L o o' _ h hl=>⟨⟨gl h.1.ta (by simp) hl,gl h.1.tb (by simp) hl,gl h.1.tc (by simp) hl,gl h.1.t6 (by simp) hl,gl h.1.t7 (by simp) hl,gl h.1.k (by simp) hl⟩,h.2⟩)
   (fun U L o o' _ h hl=>⟨⟨let ⟨z,hz⟩:=h.1.z;⟨z,gl hz (by simp) hl⟩,let ⟨z,hz⟩:=h.1.d;⟨z,gl hz (by simp) hl⟩,gl h.1.t7 (by simp) hl⟩,h.2⟩) (fun id U L o o' _ h hl=>h.elim) ?_ ?_ ?_ ?_ ?_
  ·rintro x (rfl|rfl|rfl) <;> simp <;> omega
  ·rintro i U ⟨h,_⟩;rw[lW];exact h.k
  ·rintro i U ⟨h,h1⟩;exact fun o=>⟨h.push o,h1⟩
  ·rintro U ⟨h,h1⟩;exact fun o=>⟨h.push o,h1⟩
  ·rintro id U h;exact h.elim
  ·refine ⟨⟨gp (gp wA) |> fun h=>by simpa using h,gp (gp wB) |> fun h=>by simpa using h,gp (gp wC),gp (gp w6),gp (gp w7),?_⟩,by simp;omega,by simp;omega⟩;refine gp ?_;rw[←lW,qpV (qp0 _)];simp
  ·rintro i av hav U ⟨hj,hj1,hj2⟩ hk hl;rw[qqh] at hav;obtain ⟨q,hq,rfl⟩:=qp3.1 hav;have q1:=Ql hq;have q2:=yS hq;have q3:=zb hq;have q4:=qdD hq;have hqk:q∈p.kids:=qp6 hq;have hqw:=Pa.kid_lt hqk;have hL:(T2++[Ob.arr [p.v] 25 1]).length=S.length+4:=by simp[lW]
   simp[Env.keep] at hl;simp[QD,Env.keep,qw,stS,zO];refine QZ (gp hl) rfl ?_;have lU:=glt hl;have nU:U.length≠T2.length+1:=by omega
   have vq:((U++[Ob.arr [q.v] 25 1]).set (T2.length+1) (.loop { st:=.busy,pend:=none,ps:=[24],asg:=(Qt Tryz.f177 0).1,body:=(Qt Tryz.f177 0).2,e:=[(4,V.ptr c 0 0 1),(6,V.ptr (S.length+1) 0 0 1),(7,V.ptr (S.length+2) 0 0 1)],N:=31 }))[U.length]?=some (.arr [q.v] 25 1):=gs (by simp) nU;have vL:((U++[Ob.arr [q.v] 25 1]).set (T2.length+1) (.loop { st:=.busy,pend:=none,ps:=[24],asg:=(Qt Tryz.f177 0).1,body:=(Qt Tryz.f177 0).2,e:=[(4,V.ptr c 0 0 1),(6,V.ptr (S.length+1) 0 0 1),(7,V.ptr (S.length+2) 0 0 1)],N:=31 }))[T2.length+1]?=some (.loop _):=qpW (by simp;omega);have vj:=(hj.push (Ob.arr [q.v] 25 1)).set (L:=T2.length+1) (.loop { st:=.busy,pend:=none,ps:=[24],asg:=(Qt Tryz.f177 0).1,body:=(Qt Tryz.f177 0).2,e:=[(4,V.ptr c 0 0 1),(6,V.ptr (S.length+1) 0 0 1),(7,V.ptr (S.length+2) 0 0 1)],N:=31 }) la lb lc (by omega);have vk:Kp (fun x=>(x=a∨x=b∨x=S.length+2)∨x=T2.length+1) U ((U++[Ob.arr [q.v] 25 1]).set (T2.length+1) (.loop { st:=.busy,pend:=none,ps:=[24],asg:=(Qt Tryz.f177 0).1,body:=(Qt Tryz.f177 0).2,e:=[(4,V.ptr c 0 0 1),(6,V.ptr (S.length+1) 0 0 1),(7,V.ptr (S.length+2) 0 0 1)],N:=31 })):=((Kp.refl _ _).push _).set _ (.inl (.inr rfl));generalize (U++[Ob.arr [q.v] 25 1]).set (T2.length+1) _=W at vq vL vj vk ⊢;have lWl:=glt vL;simp[ldS,vj.tc,vq,vj.t6,qdt,qy (n:=at'+1) (by omega) (by omega)];refine qm (ih q (by omega) (Pa.kid_ok hp hqk) (at'+1) (by omega) (by omega) a b c hab hac hbc _ _ (by omega) hj1 (by omega) hj2 W vj.ta vj.tb vj.tc) ?_;rintro v X ⟨xk,z',d',xa,xb,⟨rfl,rfl,rfl,xo⟩|⟨rfl,xo⟩⟩
   ·simp;have xo':=xo;unfold mOk at xo';refine jZ ⟨rfl,rfl⟩ (.inr rfl) (xk.at vL (by omega)) (vk.trans (xk.mono fun l _ h=>.inl (h.elim .inl fun h=>.inr (.inl h)))) ⟨⟨gs xa (by omega) |>.trans ?_,gs xb (by omega) |>.trans ?_,gs (xk.at vj.tc (by omega)) (by omega),gs (xk.at vj.t6 (by omega)) (by omega),gs (xk.at vj.t7 (by omega)) (by omega),gs (xk.at vj.k (by omega)) (by omega)⟩,?_,?_⟩
    ·rw[q1];congr 4;omega
    ·rw[q2];congr 4;omega
    ·omega
    ·omega
   ·have x7:=xk.at vj.t7 (by omega);simp[stS,zO,x7];refine qbm (.inr rfl) (gs (xk.at vL (by omega)) (by omega)) ((vk.trans (xk.mono fun l _ h=>.inl (h.elim .inl fun h=>.inr (.inl h)))).set _ (.inl (.inl (.inr (.inr rfl))))) ⟨⟨⟨_,gs (gs xa (by omega)) (by omega)⟩,⟨_,gs (gs xb (by omega)) (by omega)⟩,gs (qpW (glt x7)) (by omega)⟩,?_⟩;unfold mOk at xo ⊢;omega
  ·rintro U ⟨hj,hj1,hj2⟩ hk;rw[hkl,qqo] at hj hj1 hj2;simp[stS,zO,hj.t7];refine qi (by simp[ldS,glt hj.t7];rfl) ⟨?_,_,_,gs hj.ta (by omega),gs hj.tb (by omega),.inl ⟨rfl,by omega,by omega,?_⟩⟩
   ·exact (kW.chain hk.ofPush fun l hl h=>by omega).set _ (.inr (by omega))
   ·unfold mOk;omega
  ·rintro U ⟨hj,hj1⟩ hk;obtain ⟨⟨z',hz'⟩,⟨d',hd'⟩,h7⟩:=hj;simp;refine qi (by simp[ldS,h7];rfl) ⟨?_,z',d',hz',hd',.inr ⟨rfl,hj1⟩⟩;exact kW.chain hk.ofPush fun l hl h=>by omega
  ·rintro id U h;exact h.elim
theorem qjL(p:Pa)(hp:p.ok):∀S,qB prog 150 [p.v] S (fun v U=>(∃z d:Int,v=.tup [.int .i64 z,.int .i64 d,.bool (decide p.fits)]∧(p.fits→z=p.size∧d=p.depth))∧U=S):=by
 refine Pu.intro (R:=fun v=>∃z d:Int,v=.tup [.int .i64 z,.int .i64 d,.bool (decide p.fits)]∧(p.fits→z=p.size∧d=p.depth)) func150 ok150 (by simp[c150]) (by simp[V.under]) (by rintro v ⟨z,d,rfl,_⟩;rfl) ?_;simp[c150,qw,stS,zO,ldS];refine qm (qlI _ p (qp0 _) hp 1 (by omega) (by omega) 1 2 3 (by omega) (by omega) (by omega) 0 0 (by omega) (by omega) (by omega) (by omega) _ rfl rfl rfl) ?_;rintro v U ⟨hk,z,d,ha,hb,h⟩;have hfit:p.fits↔mOk p 0 1:=by unfold Pa.fits mOk;omega
 have key:v=.bool (decide p.fits)∧(p.fits→z=p.size∧d=p.depth):=by
  rcases h with ⟨rfl,h1,h2,h3⟩|⟨rfl,h3⟩
  ·rw[decide_eq_true (hfit.2 h3)];refine ⟨rfl,fun _=>⟨by omega,?_⟩⟩;have:=p.depth_pos;omega
  ·rw[decide_eq_false fun hh=>h3 (hfit.1 hh)];exact ⟨rfl,fun hh=>absurd (hfit.1 hh) h3⟩
 obtain ⟨rfl,hk2⟩:=key;simp[ldS,ha,hb,stS,zO,qhm ha,qhm hb,Qd,zA,zK];refine qa (vs:=[.int .i64 z,.int .i64 d,.bool (decide p.fits)]) (by simp[ldS,ha,hb]) ⟨z,d,rfl,hk2⟩ rfl
theorem qf(cs:List V)(off n:Nat):V.part (.agg cs) off (some n)=if off=0∧n=cs.length then some (.agg cs) else if off+n≤cs.length then some (.agg ((cs.drop off).take n)) else none:=by
 by_cases h:off=0∧n=cs.length
 ·simp[V.part,h]
 ·have:¬ (off=0∧n=(V.agg cs).size∧(V.agg cs).isAgg=true):=fun hh=>h ⟨hh.1,by simpa using hh.2.1⟩
  simp only[V.part,if_neg this,if_neg h]
@[simp] theorem part_Ex2(x:Ex):V.part x.v 3 (some 2)=some (.agg [.int .i64 x.man,.int .i64 x.exp]):=by rw[Ex.v_eq];rfl
theorem qc(cs:List V)(off n:Nat)(y:V):V.upd (.agg cs) off n y=if y.size=n∧y.cells.all V.flat=true then (if off=0∧n=cs.length then some y else if off+n≤cs.length then some (.agg (cs.take off++y.cells++cs.drop (off+n))) else none) else none:=rfl
theorem qbc(x:Ex)(off n:Nat)(y:V):V.upd x.v off n y=V.upd (.agg [.int .i64 x.kind,.int .i64 x.op,.int .i64 x.n,.int .i64 x.man,.int .i64 x.exp,.str x.text,.sl false (x.args.map Ex.v)]) off n y:=by rw[Ex.v_eq]
theorem jI(d:De)(off n:Nat)(y:V):V.upd d.v off n y=V.upd (.agg [.int .i64 d.kind,.bool d.own,.int .i64 d.type,.sl false (d.names.map .str),.sl false (d.exps.map Ex.v),.sl false (d.formals.map Fo.v),.sl false (d.body.map Sm.v)]) off n y:=by rw[De.v_eq]
theorem Q3(s:Sm)(off n:Nat)(y:V):V.upd s.v off n y=V.upd (.agg [.sl false (s.labels.map .str),.int .i64 s.kind,.str s.text,.sl false (s.targets.map Ex.v),.sl false (s.exps.map Ex.v),.sl false (s.elems.map El.v),.sl false (s.decls.map De.v),.sl false (s.body.map Sm.v)]) off n y:=by rw[Sm.v_eq]
theorem qjq(f:Fo)(off n:Nat)(y:V):V.upd f.v off n y=V.upd (.agg [.str f.name,.bool f.value,.int .i64 f.spec,.int .i64 f.type]) off n y:=rfl
theorem qeX(k:IntKind)(m:Int)(y:V):V.upd (.int k m) 0 1 y=if y.size=1∧y.cells.all V.flat=true then some y else none:=rfl
theorem Qs(b:Bool)(y:V):V.upd (.bool b) 0 1 y=if y.size=1∧y.cells.all V.flat=true then some y else none:=rfl
theorem qa4(y:V):V.upd .nilfn 0 1 y=if y.size=1∧y.cells.all V.flat=true then some y else none:=rfl
theorem qK{a lo hi:Int}(h:¬ (lo≤a∧a≤hi)):(decide (lo≤a) && decide (a≤hi))=false:=by
 by_cases h1:lo≤a
 ·have h2:¬ a≤hi:=fun hh=>h ⟨h1,hh⟩
  simp[h1,h2]
 ·simp[h1]
theorem qN{a lo hi:Int}(h:lo≤a∧a≤hi):(decide (lo≤a) && decide (a≤hi))=true:=by simp[h.1,h.2]
theorem qJ(n lo hi:Int):∀S,Fn prog 209 [.int .i64 n,.int .i64 lo,.int .i64 hi] S (.bool (decide (lo≤n) && decide (n≤hi))):=by
 refine Pu.ib func209 ok209 (by simp[c209]) (by simp[V.under]) rfl ?_;by_cases h:lo≤n
 ·simp[c209,h];exact qa rfl rfl rfl
 ·simp[c209,h];exact qa rfl rfl rfl
def arL(k:Int):Int:=if k=7 then 1 else if k=8 then 1 else if k=9 then 1 else if k=10 then 2 else if k=11 then 3 else 0
def arH(k:Int):Int:=if k=7 then 4 else if k=8 then 8 else if k=9 then 1 else if k=10 then 2 else if k=11 then 3 else 0
theorem yV(k:Int):∀S,Fn prog 208 [.int .i64 k] S (.tup [.int .i64 (arL k),.int .i64 (arH k)]):=by
 refine Pu.ib func208 ok208 (by simp[c208]) (by simp[V.under]) rfl ?_;by_cases h7:k=7
 ·simp[c208,h7];exact qa rfl rfl rfl
 by_cases h8:k=8
 ·simp[c208,h8];exact qa rfl rfl rfl
 by_cases h9:k=9
 ·simp[c208,h9];exact qa rfl rfl rfl
 by_cases h10:k=10
 ·simp[c208,h10];exact qa rfl rfl rfl
 by_cases h11:k=11
 ·simp[c208,h11];exact qa rfl rfl rfl
 simp[c208,h7,h8,h9,h10,h11];exact qa rfl (by simp[qo,arL,arH,h7,h8,h9,h10,h11]) rfl
def qU(lo hi n:Int):Bool:=decide (lo≤n) && (decide (hi<0) || decide (n≤hi))
theorem qA(lo hi n:Int):∀S,Fn prog 212 [.agg [.int .i64 lo,.int .i64 hi],.int .i64 n] S (.bool (qU lo hi n)):=by
 refine Pu.intro (R:=fun v=>v=.bool (qU lo hi n)) func212 ok212 (by simp[c212]) (by simp[V.under,V.underL]) (by rintro v rfl;rfl) ?_;by_cases h:lo≤n
 ·by_cases h2:hi<0
  ·simp[c212,qw,ldS,h,h2];exact qa rfl (by simp[qo,qU,h,h2]) rfl
  ·simp[c212,qw,ldS,h,h2];exact qa rfl (by simp[qo,qU,h,h2]) rfl
 ·simp[c212,qw,ldS,h];exact qa rfl (by simp[qo,qU,h]) rfl
theorem ql2(m:Int)(h:0≤m):IntKind.i64.wrap (-m)≤m∨9223372036854775808≤m:=by
 rw[IntKind.wrap_i64];omega
theorem qnx(m:Int):IntKind.i64.wrap m≤9223372036854775807∧-9223372036854775808≤IntKind.i64.wrap m:=by
 rw[IntKind.wrap_i64];omega
theorem qlo(m:Int):(if m<IntKind.i64.wrap (-m) then IntKind.i64.wrap (-m) else m)=mag m:=by
 unfold mag;have h1:=qnx (-m);by_cases h:m<0
 ·rw[if_pos h];split
  ·rfl
  ·rename_i h2;rw[IntKind.wrap_i64] at *;omega
 ·rw[if_neg h];rcases ql2 m (by omega) with h2|h2
  ·rw[if_neg (by omega)]
  ·rw[if_neg (by omega)]
theorem Zj(m e m' e':Int):zy [.int .i64 m,.int .i64 e] [.int .i64 m',.int .i64 e'] [(0,.i),(1,.i)]=some (decide (m=m'∧e=e')):=by
 by_cases h1:m=m'
 ·by_cases h2:e=e'
  ·have h3:(m==m')=true:=by simpa using h1
   have h4:(e==e')=true:=by simpa using h2
   simp[zy,Qz,h1,h2]
  ·have h4:(e==e')=false:=by simpa using h2
   simp[zy,Qz,h1,h4,h2]
 ·have h3:(m==m')=false:=by simpa using h1
  simp[zy,Qz,h3,h1]
theorem qlT(m e:Int):∀S,Fn prog 210 [.agg [.int .i64 m,.int .i64 e]] S (.bool (qex m e)):=by
 refine Pu.intro (R:=fun v=>v=.bool (qex m e)) func210 ok210 (by simp[c210]) (by simp[V.under,V.underL]) (by rintro v rfl;rfl) ?_;have hm:=qlo m;by_cases h0:m=0∧e=0
 ·obtain ⟨rfl,rfl⟩:=h0;simp[c210,qw,ldS,V.part,ql,qh,evX,Zj];exact qa rfl rfl rfl
 have hr:qex m e=(decide (1≤mag m∧mag m<16777216) && (decide (e=-150) || (decide (8388608≤mag m) && decide (-150<e∧e≤150)))):=by
  unfold qex;rw[decide_eq_false h0];rfl
 rw[hr];simp[c210,qw,ldS,V.part,ql,qh,evX,Zj,h0,mmV,hm];clear hr hm;generalize mag m=a at *;by_cases g1:a<1
 ·simp[g1,show ¬ 1≤a by omega];exact qa rfl rfl rfl
 by_cases g2:16777216≤a
 ·simp[g1,g2,show ¬ a<16777216 by omega];exact qa rfl rfl rfl
 by_cases g3:e=-150
 ·simp[ldS,g1,g2,g3,show 1≤a by omega,show a<16777216 by omega];exact qa rfl rfl rfl
 by_cases g4:8388608≤a
 ·by_cases g5:-150<e
  ·simp[ldS,g1,g2,g3,g4,g5,show 1≤a by omega,show a<16777216 by omega];exact qa rfl rfl rfl
  ·simp[ldS,g1,g2,g3,g4,g5,show 1≤a by omega,show a<16777216 by omega];exact qa rfl rfl rfl
 ·simp[ldS,g1,g2,g3,g4,show 1≤a by omega,show a<16777216 by omega];exact qa rfl rfl rfl
def no(_:Nat):Prop:=False
def kN{α:Type}(l:List α)(q:α→Bool):Bool:=l.any q
theorem qmb(s:Bz):∀S,Fn prog 249 [.str s] S (.bool (!qb s)):=by
 refine Pu.ib func249 ok249 (by simp[c249]) (by simp[V.under]) rfl ?_;simp[c249];refine qj (jT s _) ?_;simp;exact qa rfl rfl rfl
theorem qkm(x:Ex):∀S,Fn prog 253 [x.v] S (.bool (!x.tgt)):=by
 refine Pu.ib func253 ok253 (by simp[c253]) (by simp[V.under]) rfl ?_;by_cases h6:x.kind=6
 ·simp[c253,qw,ldS,h6];exact qa rfl (by simp[qo,Ex.tgt,h6]) rfl
 ·simp[c253,qw,ldS,h6];exact qa rfl (by simp[qo,Ex.tgt,h6]) rfl
theorem qlt(b:Bool)(l:List Bz)(hl:l.length≤B50)(g:Nat)(cs:List V)(q:Bz→Bool)(S:St)(h:∀x,x∈l→∀U,Kp no S U→qB prog g (.str x::cs) U (fun v U'=>v=.bool (q x)∧Kp no U U')):
  qB prog 173 [.sl b (l.map V.str),.fn (.func g) [] cs] S (fun v U=>(∃n:Int,v=.int .i64 n∧(0≤n↔kN l q=true))∧Kp no S U):=by
 unfold B50 at hl;refine qB.ib func173 ok173 ?_;simp only[c173,C'.k];simp;refine qq (fun j e S'=>∃i:Nat,j=l.length - i∧i≤l.length∧kN (l.take i) q=false∧Kp no S S'∧
  e=[(8,.int .i64 i),(7,.int .i64 l.length),(6,.sl b (l.map V.str)),(0,.sl b (l.map V.str)),(1,.fn (.func g) [] cs)]) l.length _ ?_ ⟨0,by simp,by omega,rfl,Kp.refl _ _,rfl⟩ ?_
 ·exact Env.so (by simp)
 rintro j e S' ⟨i,rfl,hi,hq,hk,rfl⟩;by_cases h1:i<l.length
 ·have h2:=h l[i] (qp5 h1) S' hk;simp[h1,Q4];refine qm h2 ?_;rintro v U' ⟨rfl,hk'⟩
  cases h3:q l[i] with
  | true=>
   simp;refine qi rfl ⟨⟨i,rfl,?_⟩,hk.trans hk'⟩;exact ⟨fun _=>qrB.2 ⟨l[i],qp5 h1,h3⟩,fun _=>by omega⟩
  | false=>
   simp[qO (n:=(i:Int)+1)];refine ⟨_,?_,_,?_,i+1,rfl,by omega,?_,hk.trans hk',rfl⟩
   ·omega
   ·exact Env.so (by simp)
   ·unfold kN at *;rw[qp9,qpZ h1,List.any_append,hq];simp[h3]
 ·simp[h1];refine qi rfl ⟨⟨-1,rfl,?_⟩,hk⟩;rw[qqt (by omega)] at hq;rw[hq];exact ⟨fun h=>absurd h (by decide),fun h=>by cases h⟩
theorem qkW(b:Bool)(l:List Bz)(hl:l.length≤B50)(g:Nat)(cs:List V)(q:Bz→Bool)(S:St)(h:∀x,x∈l→∀U,Kp no S U→qB prog g (.str x::cs) U (fun v U'=>v=.bool (q x)∧Kp no U U')):
  qB prog 138 [.sl b (l.map V.str),.fn (.func g) [] cs] S (fun v U=>v=.bool (kN l q)∧Kp no S U):=by
 refine qB.ib func138 ok138 ?_;simp only[c138,C'.k];simp;refine qm (qlt b l hl g cs q S h) ?_;rintro v U ⟨⟨n,rfl,hn⟩,hk⟩;simp;refine qi rfl ⟨?_,hk⟩
 cases ha:kN l q with
 | true=>simp[qo,hn.2 ha]
 | false=>
  have:¬ 0≤n:=fun hh=>by rw[hn.1 hh] at ha;cases ha
  simp[qo,this]
theorem qk4(b:Bool)(l:List Fo)(hl:l.length≤B50)(g:Nat)(cs:List V)(q:Fo→Bool)(S:St)(h:∀x,x∈l→∀U,Kp no S U→qB prog g (Fo.v x::cs) U (fun v U'=>v=.bool (q x)∧Kp no U U')):
  qB prog 169 [.sl b (l.map Fo.v),.fn (.func g) [] cs] S (fun v U=>(∃n:Int,v=.int .i64 n∧(0≤n↔kN l q=true))∧Kp no S U):=by
 unfold B50 at hl;refine qB.ib func169 ok169 ?_;simp only[c169,C'.k];simp;refine qq (fun j e S'=>∃i:Nat,j=l.length - i∧i≤l.length∧kN (l.take i) q=false∧Kp no S S'∧
  e=[(8,.int .i64 i),(7,.int .i64 l.length),(6,.sl b (l.map Fo.v)),(0,.sl b (l.map Fo.v)),(1,.fn (.func g) [] cs)]) l.length _ ?_ ⟨0,by simp,by omega,rfl,Kp.refl _ _,rfl⟩ ?_
 ·exact Env.so (by simp)
 rintro j e S' ⟨i,rfl,hi,hq,hk,rfl⟩;by_cases h1:i<l.length
 ·have h2:=h l[i] (qp5 h1) S' hk;simp[h1,qhs];refine qm h2 ?_;rintro v U' ⟨rfl,hk'⟩
  cases h3:q l[i] with
  | true=>
   simp;refine qi rfl ⟨⟨i,rfl,?_⟩,hk.trans hk'⟩;exact ⟨fun _=>qrB.2 ⟨l[i],qp5 h1,h3⟩,fun _=>by omega⟩
  | false=>
   simp[qO (n:=(i:Int)+1)];refine ⟨_,?_,_,?_,i+1,rfl,by omega,?_,hk.trans hk',rfl⟩
   ·omega
   ·exact Env.so (by simp)
   ·unfold kN at *;rw[qp9,qpZ h1,List.any_append,hq];simp[h3]
 ·simp[h1];refine qi rfl ⟨⟨-1,rfl,?_⟩,hk⟩;rw[qqt (by omega)] at hq;rw[hq];exact ⟨fun h=>absurd h (by decide),fun h=>by cases h⟩
theorem qkV(b:Bool)(l:List Fo)(hl:l.length≤B50)(g:Nat)(cs:List V)(q:Fo→Bool)(S:St)(h:∀x,x∈l→∀U,Kp no S U→qB prog g (Fo.v x::cs) U (fun v U'=>v=.bool (q x)∧Kp no U U')):
  qB prog 131 [.sl b (l.map Fo.v),.fn (.func g) [] cs] S (fun v U=>v=.bool (kN l q)∧Kp no S U):=by
 refine qB.ib func131 ok131 ?_;simp only[c131,C'.k];simp;refine qm (qk4 b l hl g cs q S h) ?_;rintro v U ⟨⟨n,rfl,hn⟩,hk⟩;simp;refine qi rfl ⟨?_,hk⟩
 cases ha:kN l q with
 | true=>simp[qo,hn.2 ha]
 | false=>
  have:¬ 0≤n:=fun hh=>by rw[hn.1 hh] at ha;cases ha
  simp[qo,this]
theorem qke(b:Bool)(l:List Ex)(hl:l.length≤B50)(g:Nat)(cs:List V)(q:Ex→Bool)(S:St)(h:∀x,x∈l→∀U,Kp no S U→qB prog g (Ex.v x::cs) U (fun v U'=>v=.bool (q x)∧Kp no U U')):
  qB prog 269 [.sl b (l.map Ex.v),.fn (.func g) [] cs] S (fun v U=>(∃n:Int,v=.int .i64 n∧(0≤n↔kN l q=true))∧Kp no S U):=by
 unfold B50 at hl;refine qB.ib func269 ok269 ?_;simp only[c269,C'.k];simp;refine qq (fun j e S'=>∃i:Nat,j=l.length - i∧i≤l.length∧kN (l.take i) q=false∧Kp no S S'∧
  e=[(8,.int .i64 i),(7,.int .i64 l.length),(6,.sl b (l.map Ex.v)),(0,.sl b (l.map Ex.v)),(1,.fn (.func g) [] cs)]) l.length _ ?_ ⟨0,by simp,by omega,rfl,Kp.refl _ _,rfl⟩ ?_
 ·exact Env.so (by simp)
 rintro j e S' ⟨i,rfl,hi,hq,hk,rfl⟩;by_cases h1:i<l.length
 ·have h2:=h l[i] (qp5 h1) S' hk;simp[h1,qht];refine qm h2 ?_;rintro v U' ⟨rfl,hk'⟩
  cases h3:q l[i] with
  | true=>
   simp;refine qi rfl ⟨⟨i,rfl,?_⟩,hk.trans hk'⟩;exact ⟨fun _=>qrB.2 ⟨l[i],qp5 h1,h3⟩,fun _=>by omega⟩
  | false=>
   simp[qO (n:=(i:Int)+1)];refine ⟨_,?_,_,?_,i+1,rfl,by omega,?_,hk.trans hk',rfl⟩
   ·omega
   ·exact Env.so (by simp)
   ·unfold kN at *;rw[qp9,qpZ h1,List.any_append,hq];simp[h3]
 ·simp[h1];refine qi rfl ⟨⟨-1,rfl,?_⟩,hk⟩;rw[qqt (by omega)] at hq;rw[hq];exact ⟨fun h=>absurd h (by decide),fun h=>by cases h⟩
theorem qjz(b:Bool)(l:List Ex)(hl:l.length≤B50)(g:Nat)(cs:List V)(q:Ex→Bool)(S:St)(h:∀x,x∈l→∀U,Kp no S U→qB prog g (Ex.v x::cs) U (fun v U'=>v=.bool (q x)∧Kp no U U')):
  qB prog 252 [.sl b (l.map Ex.v),.fn (.func g) [] cs] S (fun v U=>v=.bool (kN l q)∧Kp no S U):=by
 refine qB.ib func252 ok252 ?_;simp only[c252,C'.k];simp;refine qm (qke b l hl g cs q S h) ?_;rintro v U ⟨⟨n,rfl,hn⟩,hk⟩;simp;refine qi rfl ⟨?_,hk⟩
 cases ha:kN l q with
 | true=>simp[qo,hn.2 ha]
 | false=>
  have:¬ 0≤n:=fun hh=>by rw[hn.1 hh] at ha;cases ha
  simp[qo,this]
theorem qgG{α:Type}(l:List α)(q:α→Bool):(!kN l fun x=>!q x)=l.all q:=by
 unfold kN
 induction l with
 | nil=>rfl
 | cons x l ih=>simp only[List.any_cons,List.all_cons,Bool.not_or,Bool.not_not,ih]
theorem yU(l:List Bz)(hl:l.length≤B50):∀S,Fn prog 213 [.sl false (l.map .str)] S (.bool (l.all qb)):=by
 refine Pu.ib func213 ok213 (by simp[c213]) (by simp[V.under]) rfl ?_;simp only[c213,C'.k];simp;refine qm (qkW false l hl 249 [] (fun x=>!qb x) _ fun x _ U _=>(qmb x U).mono fun v U' h=>⟨h.1,by rw[h.2];exact Kp.refl _ _⟩) ?_;rintro v U ⟨rfl,_⟩;simp;refine qa rfl ?_ rfl;simp only[qo,qgG]
theorem Q9(l:List Ex)(hl:l.length≤B50):∀S,Fn prog 215 [.sl false (l.map Ex.v)] S (.bool (l.all Ex.tgt)):=by
 refine Pu.ib func215 ok215 (by simp[c215]) (by simp[V.under]) rfl ?_;simp only[c215,C'.k];simp;refine qm (qjz false l hl 253 [] (fun x=>!x.tgt) _ fun x _ U _=>(qkm x U).mono fun v U' h=>⟨h.1,by rw[h.2];exact Kp.refl _ _⟩) ?_;rintro v U ⟨rfl,_⟩;simp;refine qa rfl ?_ rfl;simp only[qo,qgG]
theorem qkD(f:Fo):∀S,Fn prog 250 [f.v] S (.bool (f.vOwn qb)):=by
 refine Pu.ib func250 ok250 (by simp[c250]) (by simp[V.under]) rfl ?_;simp[c250,qw,ldS];refine qj (jT f.name _) ?_
 cases hn:qb f.name with
 | false=>
  simp;exact qa rfl (by simp[qo,Fo.vOwn,hn]) rfl
 | true=>
  have hv:f.vOwn qb=(if f.spec=0∨f.spec=3∨f.spec=4∨f.spec=5 then decide (f.type=0) && !f.value
   else if f.spec=1 then decide (1≤f.type∧f.type≤3)
   else if f.spec=2 then decide (0≤f.type∧f.type≤3) && (!f.value || decide (f.type≠0))
   else if f.spec=6 then decide (0≤f.type∧f.type≤3) && !f.value
   else false):=by unfold Fo.vOwn;rw[hn];rfl
  rw[hv];by_cases h0:f.spec=0
  ·by_cases ht:f.type=0
   ·simp[ldS,h0,ht];exact qa rfl rfl rfl
   ·simp[ldS,h0,ht];exact qa rfl rfl rfl
  by_cases h3:f.spec=3
  ·by_cases ht:f.type=0
   ·simp[ldS,h3,ht];exact qa rfl rfl rfl
   ·simp[ldS,h3,ht];exact qa rfl rfl rfl
  by_cases h4:f.spec=4
  ·by_cases ht:f.type=0
   ·simp[ldS,h4,ht];exact qa rfl rfl rfl
   ·simp[ldS,h4,ht];exact qa rfl rfl rfl
  by_cases h5:f.spec=5
  ·by_cases ht:f.type=0
   ·simp[ldS,h5,ht];exact qa rfl rfl rfl
   ·simp[ldS,h5,ht];exact qa rfl rfl rfl
  by_cases h1:f.spec=1
  ·simp[ldS,h1];refine qj (qJ _ _ _ _) ?_;simp;exact qa rfl rfl rfl
  by_cases h2:f.spec=2
  ·simp[ldS,h2];refine qj (qJ _ _ _ _) ?_
   cases hr:decide (0≤f.type) && decide (f.type≤3) with
   | false=>
    simp;exact qa rfl rfl rfl
   | true=>
    cases hval:f.value with
    | false=>
     simp[ldS,hval];exact qa rfl rfl rfl
    | true=>
     simp[ldS,hval];exact qa rfl rfl rfl
  by_cases h6:f.spec=6
  ·simp[ldS,h6];refine qj (qJ _ _ _ _) ?_
   cases hr:decide (0≤f.type) && decide (f.type≤3) with
   | false=>
    simp;exact qa rfl rfl rfl
   | true=>
    simp[ldS];exact qa rfl rfl rfl
  simp[ldS,h0,h1,h2,h3,h4,h5,h6];exact qa rfl rfl rfl
theorem qjt(f g:Fo)(L:Nat)(S:St)(h:S[L]?=some (.arr [f.v] 4 1)):qB prog 251 [g.v,.ptr L 0 0 1] S (fun v U=>v=.bool (decide (g.name=f.name))∧Kp no S U):=by
 refine qB.ib func251 ok251 ?_;simp[c251,qw,ldS,gp h];exact qi rfl ⟨rfl,(Kp.refl _ _).push _⟩
theorem yM(nm:Bz→Bool):∀(l m:List Fo) (had:List Bz),zV nm (l++m) had=(zV nm l had && zV nm m (had++l.map Fo.name))
 | [],m,had=>by simp[zV]
 | f::l,m,had=>by
  simp only[qp7,zV,yM nm l m,qqd,qp4,List.singleton_append,qqn,qp7,qqj]
theorem qoJ{l:List V}{k:Nat}(hk:k≤l.length){sz:Nat}(hs:∀x,x∈l→x.size=sz)(S:St):z7 S sz (.sl false l) none (some (k:Int))=some (.sl false (l.take k)):=by
 simp[z7,hk];exact hs
def prB(l:List UInt8):Bool:=l.all Zc
theorem YE(l:List Fo)(hl:l.length≤B50):∀S,Fn prog 214 [.sl false (l.map Fo.v)] S (.bool (zV qb l [])):=by
 refine Pu.ib func214 ok214 (by simp[c214]) (by simp[V.under]) rfl ?_;unfold B50 at hl;simp only[c214,C'.k];simp;refine qq (fun j e S'=>∃i:Nat,j=l.length - i∧i≤l.length∧zV qb (l.take i) []=true∧
  e=[(7,.int .i64 i),(6,.int .i64 l.length),(5,.sl false (l.map Fo.v)),(0,.sl false (l.map Fo.v))]) l.length _ ?_ ⟨0,by simp,by omega,rfl,rfl⟩ ?_
 ·exact Env.so (by simp)
 rintro j e S' ⟨i,rfl,hi,hq,rfl⟩;by_cases h:i<l.length
 ·have hnext:zV qb (l.take (i+1)) []=(l[i].vOwn qb && !((l.take i).map Fo.name).any fun x=>decide (x=l[i].name)):=by
   rw[qp9,qpZ h,qqx,yM,hq];simp[zV]
  have hall:zV qb l []=true→zV qb (l.take (i+1)) []=true:=fun hh=>by
   rw[←qqE (i+1) l,yM,qp1] at hh;exact hh.1
  simp[h,qhs,qw,stS,zO,ldS];refine qj (qkD l[i] _) ?_
  cases hv:l[i].vOwn qb with
  | false=>
   simp;refine qa rfl ?_ rfl;simp only[qo,V.bool.injEq]
   cases hh:zV qb l [] with
   | false=>rfl
   | true=>rw[hall hh,hv] at hnext;simp at hnext
  | true=>
   rw[hv] at hnext;have hs:=qoJ (l:=l.map Fo.v) (k:=i) (by simp;omega) (sz:=4) (fun x hx=>by obtain ⟨y,_,rfl⟩:=qql.1 hx;rfl) (S'++[Ob.arr [l[i].v] 4 1]);simp[YR,hs];rw[←List.map_take];refine qm (qkV false (l.take i) (by rw[qqR];unfold B50;omega) 251 [.ptr S'.length 0 0 1] (fun g=>decide (g.name=l[i].name)) _ fun x _ U hk=>qjt l[i] x S'.length U (hk.at (by simp) (fun h=>h))) ?_;rintro v U ⟨rfl,hk⟩
   have he:kN (l.take i) (fun g=>decide (g.name=l[i].name))=((l.take i).map Fo.name).any fun x=>decide (x=l[i].name):=by
    unfold kN;rw[List.any_map];rfl
   rw[he]
   cases hc:((l.take i).map Fo.name).any fun x=>decide (x=l[i].name) with
   | true=>
    rw[hc] at hnext;simp;refine qa rfl ?_ rfl;simp only[qo,V.bool.injEq]
    cases hh:zV qb l [] with
    | false=>rfl
    | true=>rw[hall hh] at hnext;simp at hnext
   | false=>
    rw[hc] at hnext;simp[qO (n:=(i:Int)+1)];refine ⟨_,?_,_,?_,i+1,rfl,by omega,by rw[hnext];rfl,rfl⟩
    ·omega
    ·exact Env.so (by simp)
 ·simp[h];refine qa rfl ?_ rfl;rw[qqt (by omega)] at hq;simp only[qo,hq]
theorem qkH(s:Bz)(hs:s.size≤B50):∀S,Fn prog 211 [.str s] S (.bool (Qy s)):=by
 refine Pu.ib func211 ok211 (by simp[c211]) (by simp[V.under]) rfl ?_;unfold B50 at hs;have hp:Qy s=(prB s.data.toList && decide (s.size≤80)):=rfl;generalize hpr:Qy s=pr at hp ⊢;simp only[c211,C'.k];simp;refine qq (fun j e S'=>∃i:Nat,j=s.size - i∧i≤s.size∧prB (s.data.toList.take i)=true∧
  e=[(3,.int .i64 i),(0,.str s)]) s.size _ ?_ ⟨0,by simp,by omega,rfl,rfl⟩ ?_
 ·exact Env.so (by simp)
 rintro j e S' ⟨i,rfl,hi,hq,rfl⟩;by_cases h:i<s.size
 ·have hb:s.data.toList[i]?=some (s.data[i]'h):=by simp[h]
  generalize hx:s.data[i]'h=x at hb;have hi':qfZ s i=some (.int .u8 x.toNat):=by rw[←hx];exact qn2 h
  have hlt:=x.toNat_lt
  have hno:Zc x=false→pr=false:=fun hh=>by
   rw[hp,qrr];left
   cases ha:prB s.data.toList with
   | false=>rfl
   | true=>
    unfold prB at ha;rw[qqi] at ha;rw[ha x (qp6 hb)] at hh;cases hh
  simp[h,hi',qy (n:=(x.toNat:Int)) (by omega) (by omega)];refine qj (qJ _ _ _ _) ?_;by_cases h1:(32:Int)≤x.toNat∧(x.toNat:Int)≤126
  ·rw[show (decide ((32:Int)≤x.toNat) && decide ((x.toNat:Int)≤126))=true by simp[h1]];by_cases h2:(x.toNat:Int)=34
   ·simp[hi',h2];refine qa rfl ?_ rfl;rw[hno (by unfold Zc;simp;omega)];rfl
   ·simp[hi',h2,qO (n:=(i:Int)+1)];refine ⟨_,?_,_,?_,i+1,rfl,by omega,?_,rfl⟩
    ·omega
    ·exact Env.so (by simp)
    ·unfold prB at *;rw[qp9,List.all_append,hq,hb];simp[Zc];omega
  ·rw[show (decide ((32:Int)≤x.toNat) && decide ((x.toNat:Int)≤126))=false by simp;omega];simp;refine qa rfl ?_ rfl;rw[hno (by unfold Zc;simp;omega)];rfl
 ·simp[h];have hsz:s.data.toList.length=s.size:=rfl;rw[qqt (by omega)] at hq;refine qa rfl ?_ rfl;rw[hp,hq];simp only[qo,V.bool.injEq,qrM,decide_eq_decide];omega
theorem qlF(e:El):∀S,Fn prog 181 [e.v] S (.bool e.vOwn):=by
 refine Pu.ib func181 ok181 (by simp[c181]) (by simp[V.under]) rfl ?_;unfold El.vOwn;by_cases h1:e.kind=1
 ·simp[c181,qw,ldS,h1];exact qa rfl (by simp[qo];omega) rfl
 by_cases h2:e.kind=2
 ·simp[c181,qw,ldS,h2];exact qa rfl (by simp[qo];omega) rfl
 by_cases h3:e.kind=3
 ·simp[c181,qw,ldS,h3];exact qa rfl (by simp[qo];omega) rfl
 simp[c181,qw,ldS,h1,h2,h3];exact qa rfl rfl rfl
section
attribute [local simp] qw ldS stS qc qbc qeX Qs qf ql qh evX Zj
theorem Ex.vOwn_eq(nm:Bz→Bool)(x:Ex):x.vOwn nm=(
 if x.kind=1 then decide (0≤x.n∧x.n≤2147483647) && decide (x.args.length=0) && decide (x.op=0) && (decide (x.man=0) && decide (x.exp=0)) && zr x.text
 else if x.kind=2 then qex x.man x.exp && decide (0≤x.man) && decide (x.args.length=0) && decide (x.op=0) && decide (x.n=0) && zr x.text
 else if x.kind=3∨x.kind=4 then decide (x.args.length=0) && decide (x.op=0) && decide (x.n=0) && (decide (x.man=0) && decide (x.exp=0)) && zr x.text
 else if x.kind=5 then Qy x.text && decide (x.args.length=0) && decide (x.op=0) && decide (x.n=0) && (decide (x.man=0) && decide (x.exp=0))
 else if x.kind=6 then nm x.text && decide (x.args.length=0) && decide (x.op=0) && decide (x.n=0) && (decide (x.man=0) && decide (x.exp=0))
 else if x.kind=7 then nm x.text && decide (1≤x.args.length∧x.args.length≤4) && decide (x.op=0) && decide (x.n=0) && (decide (x.man=0) && decide (x.exp=0))
 else if x.kind=8 then nm x.text && decide (1≤x.args.length∧x.args.length≤8) && decide (x.op=0) && decide (x.n=0) && (decide (x.man=0) && decide (x.exp=0))
 else if x.kind=9 then decide (x.op=1∨x.op=2) && decide (x.args.length=1) && decide (x.n=0) && (decide (x.man=0) && decide (x.exp=0)) && zr x.text
 else if x.kind=10 then decide (3≤x.op∧x.op≤18) && decide (x.args.length=2) && decide (x.n=0) && (decide (x.man=0) && decide (x.exp=0)) && zr x.text
 else if x.kind=11 then decide (x.args.length=3) && decide (x.op=0) && decide (x.n=0) && (decide (x.man=0) && decide (x.exp=0)) && zr x.text
 else false):=by cases x;rfl
theorem qW{t:Bz}(h:t=⟨⟨[]⟩⟩):zr t=true:=by subst h;rfl
theorem qP{t:Bz}(h:¬ t=⟨⟨[]⟩⟩):zr t=false:=decide_eq_false fun hh=>h (Yn.2 hh)
theorem qfB(x:Ex)(hx:x.ok)(h1:x.kind=1):∀S,Fn prog 180 [x.v] S (.bool (x.vOwn qb)):=by
 refine Pu.ib func180 ok180 (by simp[c180]) (by simp[V.under]) rfl ?_;have hv:=Ex.vOwn_eq qb x;generalize x.vOwn qb=r at hv ⊢
 ·simp only[h1] at hv;simp at hv;simp[c180,qw,ldS,h1];refine qj (yV _ _) ?_;simp[arL,arH,ldS,h1];refine qj (qJ _ _ _ _) ?_;simp[ldS];refine qj (qJ _ _ _ _) ?_;by_cases hl:0≤x.args.length∧x.args.length≤0
  case neg=>
   rw[qK (a:=(x.args.length:Int)) (lo:=0) (hi:=0) (by omega)];simp;refine qa rfl ?_ rfl;rw[hv];simp only[qo,V.bool.injEq,qrp];have:¬ x.args=[]:=fun hh=>hl (by rw[hh];simp)
   simp[this]
  rw[qN (a:=(x.args.length:Int)) (lo:=0) (hi:=0) (by omega)];have hl':x.args=[]:=qqq (by omega);simp[h1];refine qj (qJ _ _ _ _) ?_;by_cases hb:0≤x.n∧x.n≤2147483647
  case neg=>
   rw[qK (by omega)];simp;exact qa rfl (by rw[hv];simp[qo,hl',hb]) rfl
  rw[qN (by omega)];simp;by_cases ho:x.op=0
  case neg=>
   simp[ho];exact qa rfl (by rw[hv];simp[qo,hl',hb,ho]) rfl
  simp[ho];by_cases hr:x.man=0∧x.exp=0
  case neg=>
   rcases qqA.1 hr with hr1|hr1
   ·simp[hr1];exact qa rfl (by rw[hv];simp[qo,hl',hr1,hb,ho,true_and]) rfl
   ·simp[hr1];exact qa rfl (by rw[hv];simp[qo,hl',hr1,hb,ho,true_and]) rfl
  simp[hr];by_cases ht:x.text=⟨⟨[]⟩⟩
  case neg=>
   simp[ht];exact qa rfl (by rw[hv];simp[qo,hl',hb,ho,hr,qP ht]) rfl
  simp[ht];rw[ht] at hv;exact qa rfl (by rw[hv];simp[qo,hl',hb,ho,hr,qW rfl]) rfl
theorem qe6(x:Ex)(hx:x.ok)(h2:x.kind=2):∀S,Fn prog 180 [x.v] S (.bool (x.vOwn qb)):=by
 refine Pu.ib func180 ok180 (by simp[c180]) (by simp[V.under]) rfl ?_;have hv:=Ex.vOwn_eq qb x;generalize x.vOwn qb=r at hv ⊢
 ·simp only[h2] at hv;simp at hv;simp[c180,qw,ldS,h2];refine qj (yV _ _) ?_;simp[arL,arH,ldS,h2];refine qj (qJ _ _ _ _) ?_;simp[ldS];refine qj (qJ _ _ _ _) ?_;by_cases hl:0≤x.args.length∧x.args.length≤0
  case neg=>
   rw[qK (a:=(x.args.length:Int)) (lo:=0) (hi:=0) (by omega)];simp;refine qa rfl ?_ rfl;rw[hv];simp only[qo,V.bool.injEq,qrp];have:¬ x.args=[]:=fun hh=>hl (by rw[hh];simp)
   simp[this]
  rw[qN (a:=(x.args.length:Int)) (lo:=0) (hi:=0) (by omega)];have hl':x.args=[]:=qqq (by omega);simp[h2];refine qj (qlT _ _ _) ?_;cases hb:qex x.man x.exp
  case false=>
   simp;exact qa rfl (by rw[hv];simp[qo,hl',hb]) rfl
  simp;by_cases hm:0≤x.man
  case neg=>
   simp[hm];exact qa rfl (by rw[hv];simp[qo,hl',hb,hm]) rfl
  simp[hm];by_cases ho:x.op=0
  case neg=>
   simp[ho];exact qa rfl (by rw[hv];simp[qo,hl',hb,hm,ho]) rfl
  simp[ho];by_cases hn:x.n=0
  case neg=>
   simp[hn];exact qa rfl (by rw[hv];simp[qo,hl',hb,hm,ho,hn]) rfl
  simp[hn];by_cases ht:x.text=⟨⟨[]⟩⟩
  case neg=>
   simp[ht];exact qa rfl (by rw[hv];simp[qo,hl',hb,hm,ho,hn,qP ht]) rfl
  simp[ht];rw[ht] at hv;exact qa rfl (by rw[hv];simp[qo,hl',hb,hm,ho,hn,qW rfl]) rfl
theorem qgl(x:Ex)(hx:x.ok)(h3:x.kind=3):∀S,Fn prog 180 [x.v] S (.bool (x.vOwn qb)):=by
 refine Pu.ib func180 ok180 (by simp[c180]) (by simp[V.under]) rfl ?_;have hv:=Ex.vOwn_eq qb x;generalize x.vOwn qb=r at hv ⊢
 ·simp only[h3] at hv;simp at hv;simp[c180,qw,ldS,h3];refine qj (yV _ _) ?_;simp[arL,arH,ldS,h3];refine qj (qJ _ _ _ _) ?_;simp[ldS];refine qj (qJ _ _ _ _) ?_;by_cases hl:0≤x.args.length∧x.args.length≤0
  case neg=>
   rw[qK (a:=(x.args.length:Int)) (lo:=0) (hi:=0) (by omega)];simp;refine qa rfl ?_ rfl;rw[hv];simp only[qo,V.bool.injEq,qrp];have:¬ x.args=[]:=fun hh=>hl (by rw[hh];simp)
   simp[this]
  rw[qN (a:=(x.args.length:Int)) (lo:=0) (hi:=0) (by omega)];have hl':x.args=[]:=qqq (by omega);simp[h3];by_cases ho:x.op=0
  case neg=>
   simp[ho];exact qa rfl (by rw[hv];simp[qo,hl',ho]) rfl
  simp[ho];by_cases hn:x.n=0
  case neg=>
   simp[hn];exact qa rfl (by rw[hv];simp[qo,hl',ho,hn]) rfl
  simp[hn];by_cases hr:x.man=0∧x.exp=0
  case neg=>
   rcases qqA.1 hr with hr1|hr1
   ·simp[hr1];exact qa rfl (by rw[hv];simp[qo,hl',hr1,ho,hn,true_and]) rfl
   ·simp[hr1];exact qa rfl (by rw[hv];simp[qo,hl',hr1,ho,hn,true_and]) rfl
  simp[hr];by_cases ht:x.text=⟨⟨[]⟩⟩
  case neg=>
   simp[ht];exact qa rfl (by rw[hv];simp[qo,hl',ho,hn,hr,qP ht]) rfl
  simp[ht];rw[ht] at hv;exact qa rfl (by rw[hv];simp[qo,hl',ho,hn,hr,qW rfl]) rfl
theorem qgV(x:Ex)(hx:x.ok)(h4:x.kind=4):∀S,Fn prog 180 [x.v] S (.bool (x.vOwn qb)):=by
 refine Pu.ib func180 ok180 (by simp[c180]) (by simp[V.under]) rfl ?_;have hv:=Ex.vOwn_eq qb x;generalize x.vOwn qb=r at hv ⊢
 ·simp only[h4] at hv;simp at hv;simp[c180,qw,ldS,h4];refine qj (yV _ _) ?_;simp[arL,arH,ldS,h4];refine qj (qJ _ _ _ _) ?_;simp[ldS];refine qj (qJ _ _ _ _) ?_;by_cases hl:0≤x.args.length∧x.args.length≤0
  case neg=>
   rw[qK (a:=(x.args.length:Int)) (lo:=0) (hi:=0) (by omega)];simp;refine qa rfl ?_ rfl;rw[hv];simp only[qo,V.bool.injEq,qrp];have:¬ x.args=[]:=fun hh=>hl (by rw[hh];simp)
   simp[this]
  rw[qN (a:=(x.args.length:Int)) (lo:=0) (hi:=0) (by omega)];have hl':x.args=[]:=qqq (by omega);simp[h4];by_cases ho:x.op=0
  case neg=>
   simp[ho];exact qa rfl (by rw[hv];simp[qo,hl',ho]) rfl
  simp[ho];by_cases hn:x.n=0
  case neg=>
   simp[hn];exact qa rfl (by rw[hv];simp[qo,hl',ho,hn]) rfl
  simp[hn];by_cases hr:x.man=0∧x.exp=0
  case neg=>
   rcases qqA.1 hr with hr1|hr1
   ·simp[hr1];exact qa rfl (by rw[hv];simp[qo,hl',hr1,ho,hn,true_and]) rfl
   ·simp[hr1];exact qa rfl (by rw[hv];simp[qo,hl',hr1,ho,hn,true_and]) rfl
  simp[hr];by_cases ht:x.text=⟨⟨[]⟩⟩
  case neg=>
   simp[ht];exact qa rfl (by rw[hv];simp[qo,hl',ho,hn,hr,qP ht]) rfl
  simp[ht];rw[ht] at hv;exact qa rfl (by rw[hv];simp[qo,hl',ho,hn,hr,qW rfl]) rfl
theorem qgg(x:Ex)(hx:x.ok)(h5:x.kind=5):∀S,Fn prog 180 [x.v] S (.bool (x.vOwn qb)):=by
 refine Pu.ib func180 ok180 (by simp[c180]) (by simp[V.under]) rfl ?_;have hv:=Ex.vOwn_eq qb x;generalize x.vOwn qb=r at hv ⊢
 ·simp only[h5] at hv;simp at hv;simp[c180,qw,ldS,h5];refine qj (yV _ _) ?_;simp[arL,arH,ldS,h5];refine qj (qJ _ _ _ _) ?_;simp[ldS];refine qj (qJ _ _ _ _) ?_;by_cases hl:0≤x.args.length∧x.args.length≤0
  case neg=>
   rw[qK (a:=(x.args.length:Int)) (lo:=0) (hi:=0) (by omega)];simp;refine qa rfl ?_ rfl;rw[hv];simp only[qo,V.bool.injEq,qrp];have:¬ x.args=[]:=fun hh=>hl (by rw[hh];simp)
   simp[this]
  rw[qN (a:=(x.args.length:Int)) (lo:=0) (hi:=0) (by omega)];have hl':x.args=[]:=qqq (by omega);simp[h5];refine qj (qkH _ (Ex.ok_text hx) _) ?_;cases hb:Qy x.text
  case false=>
   simp;exact qa rfl (by rw[hv];simp[qo,hl',hb]) rfl
  simp;by_cases ho:x.op=0
  case neg=>
   simp[ho];exact qa rfl (by rw[hv];simp[qo,hl',hb,ho]) rfl
  simp[ho];by_cases hn:x.n=0
  case neg=>
   simp[hn];exact qa rfl (by rw[hv];simp[qo,hl',hb,ho,hn]) rfl
  simp[hn];by_cases hr:x.man=0∧x.exp=0
  case neg=>
   rcases qqA.1 hr with hr1|hr1
   ·simp[hr1];exact qa rfl (by rw[hv];simp[qo,hl',hr1,hb,ho,hn,true_and]) rfl
   ·simp[hr1];exact qa rfl (by rw[hv];simp[qo,hl',hr1,hb,ho,hn,true_and]) rfl
  simp[hr];exact qa rfl (by rw[hv];simp[qo,hl',hb,ho,hn,hr]) rfl
theorem qeH(x:Ex)(hx:x.ok)(h6:x.kind=6):∀S,Fn prog 180 [x.v] S (.bool (x.vOwn qb)):=by
 refine Pu.ib func180 ok180 (by simp[c180]) (by simp[V.under]) rfl ?_;have hv:=Ex.vOwn_eq qb x;generalize x.vOwn qb=r at hv ⊢
 ·simp only[h6] at hv;simp at hv;simp[c180,qw,ldS,h6];refine qj (yV _ _) ?_;simp[arL,arH,ldS,h6];refine qj (qJ _ _ _ _) ?_;simp[ldS];refine qj (qJ _ _ _ _) ?_;by_cases hl:0≤x.args.length∧x.args.length≤0
  case neg=>
   rw[qK (a:=(x.args.length:Int)) (lo:=0) (hi:=0) (by omega)];simp;refine qa rfl ?_ rfl;rw[hv];simp only[qo,V.bool.injEq,qrp];have:¬ x.args=[]:=fun hh=>hl (by rw[hh];simp)
   simp[this]
  rw[qN (a:=(x.args.length:Int)) (lo:=0) (hi:=0) (by omega)];have hl':x.args=[]:=qqq (by omega);simp[h6];refine qj (jT _ _) ?_;cases hb:qb x.text
  case false=>
   simp;exact qa rfl (by rw[hv];simp[qo,hl',hb]) rfl
  simp;by_cases ho:x.op=0
  case neg=>
   simp[ho];exact qa rfl (by rw[hv];simp[qo,hl',hb,ho]) rfl
  simp[ho];by_cases hn:x.n=0
  case neg=>
   simp[hn];exact qa rfl (by rw[hv];simp[qo,hl',hb,ho,hn]) rfl
  simp[hn];by_cases hr:x.man=0∧x.exp=0
  case neg=>
   rcases qqA.1 hr with hr1|hr1
   ·simp[hr1];exact qa rfl (by rw[hv];simp[qo,hl',hr1,hb,ho,hn,true_and]) rfl
   ·simp[hr1];exact qa rfl (by rw[hv];simp[qo,hl',hr1,hb,ho,hn,true_and]) rfl
  simp[hr];exact qa rfl (by rw[hv];simp[qo,hl',hb,ho,hn,hr]) rfl
theorem qeI(x:Ex)(hx:x.ok)(h7:x.kind=7):∀S,Fn prog 180 [x.v] S (.bool (x.vOwn qb)):=by
 refine Pu.ib func180 ok180 (by simp[c180]) (by simp[V.under]) rfl ?_;have hv:=Ex.vOwn_eq qb x;generalize x.vOwn qb=r at hv ⊢
 ·simp only[h7] at hv;simp at hv;simp[c180,qw,ldS,h7];refine qj (yV _ _) ?_;simp[arL,arH,ldS,h7];refine qj (qJ _ _ _ _) ?_;simp[ldS];refine qj (qJ _ _ _ _) ?_;by_cases hl:1≤x.args.length∧x.args.length≤4
  case neg=>
   rw[qK (a:=(x.args.length:Int)) (lo:=1) (hi:=4) (by omega)];simp;refine qa rfl ?_ rfl;rw[hv];simp only[qo,V.bool.injEq,qrp];have:¬ (1≤x.args.length∧x.args.length≤4):=by omega
   simp[this]
  rw[qN (a:=(x.args.length:Int)) (lo:=1) (hi:=4) (by omega)];have hl':1≤x.args.length∧x.args.length≤4:=by omega
  simp[h7];refine qj (jT _ _) ?_;cases hb:qb x.text
  case false=>
   simp;exact qa rfl (by rw[hv];simp[qo,hl',hb]) rfl
  simp;by_cases ho:x.op=0
  case neg=>
   simp[ho];exact qa rfl (by rw[hv];simp[qo,hl',hb,ho]) rfl
  simp[ho];by_cases hn:x.n=0
  case neg=>
   simp[hn];exact qa rfl (by rw[hv];simp[qo,hl',hb,ho,hn]) rfl
  simp[hn];by_cases hr:x.man=0∧x.exp=0
  case neg=>
   rcases qqA.1 hr with hr1|hr1
   ·simp[hr1];exact qa rfl (by rw[hv];simp[qo,hl',hr1,hb,ho,hn,true_and]) rfl
   ·simp[hr1];exact qa rfl (by rw[hv];simp[qo,hl',hr1,hb,ho,hn,true_and]) rfl
  simp[hr];exact qa rfl (by rw[hv];simp[qo,hl',hb,ho,hn,hr]) rfl
theorem qe7(x:Ex)(hx:x.ok)(h8:x.kind=8):∀S,Fn prog 180 [x.v] S (.bool (x.vOwn qb)):=by
 refine Pu.ib func180 ok180 (by simp[c180]) (by simp[V.under]) rfl ?_;have hv:=Ex.vOwn_eq qb x;generalize x.vOwn qb=r at hv ⊢
 ·simp only[h8] at hv;simp at hv;simp[c180,qw,ldS,h8];refine qj (yV _ _) ?_;simp[arL,arH,ldS,h8];refine qj (qJ _ _ _ _) ?_;simp[ldS];refine qj (qJ _ _ _ _) ?_;by_cases hl:1≤x.args.length∧x.args.length≤8
  case neg=>
   rw[qK (a:=(x.args.length:Int)) (lo:=1) (hi:=8) (by omega)];simp;refine qa rfl ?_ rfl;rw[hv];simp only[qo,V.bool.injEq,qrp];have:¬ (1≤x.args.length∧x.args.length≤8):=by omega
   simp[this]
  rw[qN (a:=(x.args.length:Int)) (lo:=1) (hi:=8) (by omega)];have hl':1≤x.args.length∧x.args.length≤8:=by omega
  simp[h8];refine qj (jT _ _) ?_;cases hb:qb x.text
  case false=>
   simp;exact qa rfl (by rw[hv];simp[qo,hl',hb]) rfl
  simp;by_cases ho:x.op=0
  case neg=>
   simp[ho];exact qa rfl (by rw[hv];simp[qo,hl',hb,ho]) rfl
  simp[ho];by_cases hn:x.n=0
  case neg=>
   simp[hn];exact qa rfl (by rw[hv];simp[qo,hl',hb,ho,hn]) rfl
  simp[hn];by_cases hr:x.man=0∧x.exp=0
  case neg=>
   rcases qqA.1 hr with hr1|hr1
   ·simp[hr1];exact qa rfl (by rw[hv];simp[qo,hl',hr1,hb,ho,hn,true_and]) rfl
   ·simp[hr1];exact qa rfl (by rw[hv];simp[qo,hl',hr1,hb,ho,hn,true_and]) rfl
  simp[hr];exact qa rfl (by rw[hv];simp[qo,hl',hb,ho,hn,hr]) rfl
theorem qgQ(x:Ex)(hx:x.ok)(h9:x.kind=9):∀S,Fn prog 180 [x.v] S (.bool (x.vOwn qb)):=by
 refine Pu.ib func180 ok180 (by simp[c180]) (by simp[V.under]) rfl ?_;have hv:=Ex.vOwn_eq qb x;generalize x.vOwn qb=r at hv ⊢
 ·simp only[h9] at hv;simp at hv;simp[c180,qw,ldS,h9];refine qj (yV _ _) ?_;simp[arL,arH,ldS,h9];refine qj (qJ _ _ _ _) ?_;simp[ldS];refine qj (qJ _ _ _ _) ?_;by_cases hl:1≤x.args.length∧x.args.length≤1
  case neg=>
   rw[qK (a:=(x.args.length:Int)) (lo:=1) (hi:=1) (by omega)];simp;refine qa rfl ?_ rfl;rw[hv];simp only[qo,V.bool.injEq,qrp];have:¬ x.args.length=1:=by omega
   simp[this]
  rw[qN (a:=(x.args.length:Int)) (lo:=1) (hi:=1) (by omega)];have hl':x.args.length=1:=by omega
  simp[h9];by_cases hb1:x.op=1
  case neg=>
   by_cases hb2:x.op=2
   case neg=>
    simp[hb1,hb2];exact qa rfl (by rw[hv];simp[qo,hl',hb1,hb2]) rfl
   simp[hb2];by_cases hn:x.n=0
   case neg=>
    simp[hn];exact qa rfl (by rw[hv];simp[qo,hl',hb2,hn]) rfl
   simp[hn];by_cases hr:x.man=0∧x.exp=0
   case neg=>
    rcases qqA.1 hr with hr1|hr1
    ·simp[hr1];exact qa rfl (by rw[hv];simp[qo,hl',hr1,hb2,hn,true_and]) rfl
    ·simp[hr1];exact qa rfl (by rw[hv];simp[qo,hl',hr1,hb2,hn,true_and]) rfl
   simp[hr];by_cases ht:x.text=⟨⟨[]⟩⟩
   case neg=>
    simp[ht];exact qa rfl (by rw[hv];simp[qo,hl',hb2,hn,hr,qP ht]) rfl
   simp[ht];rw[ht] at hv;exact qa rfl (by rw[hv];simp[qo,hl',hb2,hn,hr,qW rfl]) rfl
  simp[hb1];by_cases hn:x.n=0
  case neg=>
   simp[hn];exact qa rfl (by rw[hv];simp[qo,hl',hb1,hn]) rfl
  simp[hn];by_cases hr:x.man=0∧x.exp=0
  case neg=>
   rcases qqA.1 hr with hr1|hr1
   ·simp[hr1];exact qa rfl (by rw[hv];simp[qo,hl',hr1,hb1,hn,true_and]) rfl
   ·simp[hr1];exact qa rfl (by rw[hv];simp[qo,hl',hr1,hb1,hn,true_and]) rfl
  simp[hr];by_cases ht:x.text=⟨⟨[]⟩⟩
  case neg=>
   simp[ht];exact qa rfl (by rw[hv];simp[qo,hl',hb1,hn,hr,qP ht]) rfl
  simp[ht];rw[ht] at hv;exact qa rfl (by rw[hv];simp[qo,hl',hb1,hn,hr,qW rfl]) rfl
theorem qdp(x:Ex)(hx:x.ok)(h10:x.kind=10):∀S,Fn prog 180 [x.v] S (.bool (x.vOwn qb)):=by
 refine Pu.ib func180 ok180 (by simp[c180]) (by simp[V.under]) rfl ?_;have hv:=Ex.vOwn_eq qb x;generalize x.vOwn qb=r at hv ⊢
 ·simp only[h10] at hv;simp at hv;simp[c180,qw,ldS,h10];refine qj (yV _ _) ?_;simp[arL,arH,ldS,h10];refine qj (qJ _ _ _ _) ?_;simp[ldS];refine qj (qJ _ _ _ _) ?_;by_cases hl:2≤x.args.length∧x.args.length≤2
  case neg=>
   rw[qK (a:=(x.args.length:Int)) (lo:=2) (hi:=2) (by omega)];simp;refine qa rfl ?_ rfl;rw[hv];simp only[qo,V.bool.injEq,qrp];have:¬ x.args.length=2:=by omega
   simp[this]
  rw[qN (a:=(x.args.length:Int)) (lo:=2) (hi:=2) (by omega)];have hl':x.args.length=2:=by omega
  simp[h10];refine qj (qJ _ _ _ _) ?_;by_cases hb:3≤x.op∧x.op≤18
  case neg=>
   rw[qK (by omega)];simp;exact qa rfl (by rw[hv];simp[qo,hl',hb]) rfl
  rw[qN (by omega)];simp;by_cases hn:x.n=0
  case neg=>
   simp[hn];exact qa rfl (by rw[hv];simp[qo,hl',hb,hn]) rfl
  simp[hn];by_cases hr:x.man=0∧x.exp=0
  case neg=>
   rcases qqA.1 hr with hr1|hr1
   ·simp[hr1];exact qa rfl (by rw[hv];simp[qo,hl',hr1,hb,hn,true_and]) rfl
   ·simp[hr1];exact qa rfl (by rw[hv];simp[qo,hl',hr1,hb,hn,true_and]) rfl
  simp[hr];by_cases ht:x.text=⟨⟨[]⟩⟩
  case neg=>
   simp[ht];exact qa rfl (by rw[hv];simp[qo,hl',hb,hn,hr,qP ht]) rfl
  simp[ht];rw[ht] at hv;exact qa rfl (by rw[hv];simp[qo,hl',hb,hn,hr,qW rfl]) rfl
theorem qem(x:Ex)(hx:x.ok)(h11:x.kind=11):∀S,Fn prog 180 [x.v] S (.bool (x.vOwn qb)):=by
 refine Pu.ib func180 ok180 (by simp[c180]) (by simp[V.under]) rfl ?_;have hv:=Ex.vOwn_eq qb x;generalize x.vOwn qb=r at hv ⊢
 ·simp only[h11] at hv;simp at hv;simp[c180,qw,ldS,h11];refine qj (yV _ _) ?_;simp[arL,arH,ldS,h11];refine qj (qJ _ _ _ _) ?_;simp[ldS];refine qj (qJ _ _ _ _) ?_;by_cases hl:3≤x.args.length∧x.args.length≤3
  case neg=>
   rw[qK (a:=(x.args.length:Int)) (lo:=3) (hi:=3) (by omega)];simp;refine qa rfl ?_ rfl;rw[hv];simp only[qo,V.bool.injEq,qrp];have:¬ x.args.length=3:=by omega
   simp[this]
  rw[qN (a:=(x.args.length:Int)) (lo:=3) (hi:=3) (by omega)];have hl':x.args.length=3:=by omega
  simp[h11];by_cases ho:x.op=0
  case neg=>
   simp[ho];exact qa rfl (by rw[hv];simp[qo,hl',ho]) rfl
  simp[ho];by_cases hn:x.n=0
  case neg=>
   simp[hn];exact qa rfl (by rw[hv];simp[qo,hl',ho,hn]) rfl
  simp[hn];by_cases hr:x.man=0∧x.exp=0
  case neg=>
   rcases qqA.1 hr with hr1|hr1
   ·simp[hr1];exact qa rfl (by rw[hv];simp[qo,hl',hr1,ho,hn,true_and]) rfl
   ·simp[hr1];exact qa rfl (by rw[hv];simp[qo,hl',hr1,ho,hn,true_and]) rfl
  simp[hr];by_cases ht:x.text=⟨⟨[]⟩⟩
  case neg=>
   simp[ht];exact qa rfl (by rw[hv];simp[qo,hl',ho,hn,hr,qP ht]) rfl
  simp[ht];rw[ht] at hv;exact qa rfl (by rw[hv];simp[qo,hl',ho,hn,hr,qW rfl]) rfl
theorem qd9(x:Ex)(hx:x.ok)(h1:¬ x.kind=1)(h2:¬ x.kind=2)(h3:¬ x.kind=3)(h4:¬ x.kind=4)(h5:¬ x.kind=5)(h6:¬ x.kind=6)(h7:¬ x.kind=7)(h8:¬ x.kind=8)(h9:¬ x.kind=9)(h10:¬ x.kind=10)(h11:¬ x.kind=11):∀S,Fn prog 180 [x.v] S (.bool (x.vOwn qb)):=by
 refine Pu.ib func180 ok180 (by simp[c180]) (by simp[V.under]) rfl ?_;have hv:=Ex.vOwn_eq qb x;generalize x.vOwn qb=r at hv ⊢;have hv':r=false:=by rw[hv];simp[h1,h2,h3,h4,h5,h6,h7,h8,h9,h10,h11]
 simp[c180,qw,ldS];refine qj (yV _ _) ?_;simp[ldS];refine qj (qJ _ _ _ _) ?_;rw[qK (by omega)];simp;exact qa rfl (by rw[hv'];rfl) rfl
theorem qjP(x:Ex)(hx:x.ok):∀S,Fn prog 180 [x.v] S (.bool (x.vOwn qb)):=by
 by_cases h1:x.kind=1
 ·exact qfB x hx h1
 by_cases h2:x.kind=2
 ·exact qe6 x hx h2
 by_cases h3:x.kind=3
 ·exact qgl x hx h3
 by_cases h4:x.kind=4
 ·exact qgV x hx h4
 by_cases h5:x.kind=5
 ·exact qgg x hx h5
 by_cases h6:x.kind=6
 ·exact qeH x hx h6
 by_cases h7:x.kind=7
 ·exact qeI x hx h7
 by_cases h8:x.kind=8
 ·exact qe7 x hx h8
 by_cases h9:x.kind=9
 ·exact qgQ x hx h9
 by_cases h10:x.kind=10
 ·exact qdp x hx h10
 by_cases h11:x.kind=11
 ·exact qem x hx h11
 exact qd9 x hx h1 h2 h3 h4 h5 h6 h7 h8 h9 h10 h11
end
section
attribute [local simp] Z6 eqV qw ldS stS qc Q3 jI qeX Qs qf ql qh evX
theorem qY(n:Nat):qU 0 0 n=decide (n=0):=by unfold qU;rw[qqy];simp
theorem zp(n:Nat):qU 1 1 n=decide (n=1):=by unfold qU;rw[qqy];simp;omega
theorem zm(n:Nat):qU 1 (-1) n=decide (1≤n):=by unfold qU;rw[qqy];simp;omega
theorem zl(n:Nat):qU 1 2 n=decide (1≤n∧n≤2):=by unfold qU;rw[qqy];simp;omega
theorem zn(n:Nat):qU 0 8 n=decide (n≤8):=by unfold qU;rw[qqy];simp;omega
theorem yc(n:Nat):qU 2 8 n=decide (2≤n∧n≤8):=by unfold qU;rw[qqy];simp;omega
theorem qf6{l:List Sm}(h:0<l.length):Sm.noIf l=decide (l[0].kind≠4∧l[0].kind≠5):=by
 cases l with
 | nil=>simp at h
 | cons x l=>rfl
theorem qeb:qb ⟨⟨[]⟩⟩=false:=rfl
theorem qdO{l:List Sm}(h:0<l.length)(b:Bool)(S:St):iaS S 8 (.sl b (l.map Sm.v)) 0=some (.iptr (Sm.v l[0]) 0):=qhg (i:=0) h b S
theorem Sm.vOwn_1(nm:Bz→Bool)(s:Sm)(h:s.kind=1):s.vOwn nm=(qU 0 0 s.targets.length && qU 0 0 s.exps.length && qU 0 0 s.elems.length && qU 0 0 s.decls.length && qU 0 0 s.body.length && zr s.text && s.labels.all nm && s.targets.all Ex.tgt):=by
 cases s;simp only[Sm.kind] at h;subst h;simp only[Sm.vOwn,Sm.targets,Sm.exps,Sm.elems,Sm.decls,Sm.body,Sm.text,Sm.labels,qY,zp,zm,zl,zn,yc];simp only[reduceIte,Int.reduceEq];ac_rfl
theorem Sm.vOwn_2(nm:Bz→Bool)(s:Sm)(h:s.kind=2):s.vOwn nm=(qU 1 (-1) s.targets.length && qU 1 1 s.exps.length && qU 0 0 s.elems.length && qU 0 0 s.decls.length && qU 0 0 s.body.length && zr s.text && s.labels.all nm && s.targets.all Ex.tgt):=by
 cases s;simp only[Sm.kind] at h;subst h;simp only[Sm.vOwn,Sm.targets,Sm.exps,Sm.elems,Sm.decls,Sm.body,Sm.text,Sm.labels,qY,zp,zm,zl,zn,yc];simp only[reduceIte,Int.reduceEq];ac_rfl
theorem Sm.vOwn_3(nm:Bz→Bool)(s:Sm)(h:s.kind=3):s.vOwn nm=(qU 0 0 s.targets.length && qU 1 1 s.exps.length && qU 0 0 s.elems.length && qU 0 0 s.decls.length && qU 0 0 s.body.length && zr s.text && s.labels.all nm && s.targets.all Ex.tgt):=by
 cases s;simp only[Sm.kind] at h;subst h;simp only[Sm.vOwn,Sm.targets,Sm.exps,Sm.elems,Sm.decls,Sm.body,Sm.text,Sm.labels,qY,zp,zm,zl,zn,yc];simp only[reduceIte,Int.reduceEq];ac_rfl
theorem Sm.vOwn_4(nm:Bz→Bool)(s:Sm)(h:s.kind=4):s.vOwn nm=(qU 0 0 s.targets.length && qU 1 1 s.exps.length && qU 0 0 s.elems.length && qU 0 0 s.decls.length && qU 1 2 s.body.length && zr s.text && s.labels.all nm && s.targets.all Ex.tgt && Sm.noIf s.body):=by
 cases s;simp only[Sm.kind] at h;subst h;simp only[Sm.vOwn,Sm.targets,Sm.exps,Sm.elems,Sm.decls,Sm.body,Sm.text,Sm.labels,qY,zp,zm,zl,zn,yc];simp only[reduceIte,Int.reduceEq];ac_rfl
theorem Sm.vOwn_5(nm:Bz→Bool)(s:Sm)(h:s.kind=5):s.vOwn nm=(qU 1 1 s.targets.length && qU 0 0 s.exps.length && qU 1 (-1) s.elems.length && qU 0 0 s.decls.length && qU 1 1 s.body.length && zr s.text && s.labels.all nm && s.targets.all Ex.tgt):=by
 cases s;simp only[Sm.kind] at h;subst h;simp only[Sm.vOwn,Sm.targets,Sm.exps,Sm.elems,Sm.decls,Sm.body,Sm.text,Sm.labels,qY,zp,zm,zl,zn,yc];simp only[reduceIte,Int.reduceEq];ac_rfl
theorem Sm.vOwn_6(nm:Bz→Bool)(s:Sm)(h:s.kind=6):s.vOwn nm=(qU 0 0 s.targets.length && qU 0 8 s.exps.length && qU 0 0 s.elems.length && qU 0 0 s.decls.length && qU 0 0 s.body.length && nm s.text && s.labels.all nm && s.targets.all Ex.tgt):=by
 cases s;simp only[Sm.kind] at h;subst h;simp only[Sm.vOwn,Sm.targets,Sm.exps,Sm.elems,Sm.decls,Sm.body,Sm.text,Sm.labels,qY,zp,zm,zl,zn,yc];simp only[reduceIte,Int.reduceEq];ac_rfl
theorem Sm.vOwn_7(nm:Bz→Bool)(s:Sm)(h:s.kind=7):s.vOwn nm=(qU 0 0 s.targets.length && qU 0 0 s.exps.length && qU 0 0 s.elems.length && qU 1 (-1) s.decls.length && qU 1 (-1) s.body.length && zr s.text && s.labels.all nm && s.targets.all Ex.tgt):=by
 cases s;simp only[Sm.kind] at h;subst h;simp only[Sm.vOwn,Sm.targets,Sm.exps,Sm.elems,Sm.decls,Sm.body,Sm.text,Sm.labels,qY,zp,zm,zl,zn,yc];simp only[reduceIte,Int.reduceEq];ac_rfl
theorem Sm.vOwn_8(nm:Bz→Bool)(s:Sm)(h:s.kind=8):s.vOwn nm=(qU 0 0 s.targets.length && qU 0 0 s.exps.length && qU 0 0 s.elems.length && qU 0 0 s.decls.length && qU 1 (-1) s.body.length && zr s.text && s.labels.all nm && s.targets.all Ex.tgt):=by
 cases s;simp only[Sm.kind] at h;subst h;simp only[Sm.vOwn,Sm.targets,Sm.exps,Sm.elems,Sm.decls,Sm.body,Sm.text,Sm.labels,qY,zp,zm,zl,zn,yc];simp only[reduceIte,Int.reduceEq];ac_rfl
theorem Sm.vOwn_no(nm:Bz→Bool)(s:Sm)(h:¬ (1≤s.kind∧s.kind≤8)):s.vOwn nm=false:=by
 cases s with
 | mk l k t g e f d b=>
  simp only[Sm.kind] at h;simp only[Sm.vOwn,if_neg (show ¬ k=1 by omega),if_neg (show ¬ k=2 by omega),if_neg (show ¬ k=3 by omega),if_neg (show ¬ k=4 by omega),if_neg (show ¬ k=5 by omega),if_neg (show ¬ k=6 by omega),if_neg (show ¬ k=7 by omega),if_neg (show ¬ k=8 by omega),Bool.and_false]
theorem qeS(s:Sm)(hs:s.ok)(hk:s.kind=1):∀S,Fn prog 183 [s.v] S (.bool (s.vOwn qb)):=by
 refine Pu.ib func183 ok183 (by simp[c183]) (by simp[V.under]) rfl ?_;have hO:=(Sm.ok_iff s).1 hs;rw[Sm.vOwn_1 qb s hk];simp[c183,hk];refine qj (qA _ _ _ _) ?_;cases f0:qU 0 0 s.targets.length
 case false=>
  simp;exact qa rfl (by simp[qo,f0]) rfl
 simp;refine qj (qA _ _ _ _) ?_;cases f1:qU 0 0 s.exps.length
 case false=>
  simp;exact qa rfl (by simp[qo,f0,f1]) rfl
 simp;refine qj (qA _ _ _ _) ?_;cases f2:qU 0 0 s.elems.length
 case false=>
  simp;exact qa rfl (by simp[qo,f0,f1,f2]) rfl
 simp;refine qj (qA _ _ _ _) ?_;cases f3:qU 0 0 s.decls.length
 case false=>
  simp;exact qa rfl (by simp[qo,f0,f1,f2,f3]) rfl
 simp;refine qj (qA _ _ _ _) ?_;cases f4:qU 0 0 s.body.length
 case false=>
  simp;exact qa rfl (by simp[qo,f0,f1,f2,f3,f4]) rfl
 simp;by_cases ht:s.text=⟨⟨[]⟩⟩
 case neg=>
  simp[ht];exact qa rfl (by simp[qo,f0,f1,f2,f3,f4,qP ht]) rfl
 simp[ht];refine qj (yU _ hO.labels.1 _) ?_;cases hl:s.labels.all qb
 case false=>
  simp;exact qa rfl (by simp[qo]) rfl
 simp;refine qj (Q9 _ hO.targets.1 _) ?_;cases hg:s.targets.all Ex.tgt
 case false=>
  simp;exact qa rfl (by simp[qo]) rfl
 simp[hk];exact qa rfl (by simp[qo,f0,f1,f2,f3,f4,qW rfl]) rfl
theorem qfc(s:Sm)(hs:s.ok)(hk:s.kind=2):∀S,Fn prog 183 [s.v] S (.bool (s.vOwn qb)):=by
 refine Pu.ib func183 ok183 (by simp[c183]) (by simp[V.under]) rfl ?_;have hO:=(Sm.ok_iff s).1 hs;rw[Sm.vOwn_2 qb s hk];simp[c183,hk];refine qj (qA _ _ _ _) ?_;cases f0:qU 1 (-1) s.targets.length
 case false=>
  simp;exact qa rfl (by simp[qo,f0]) rfl
 simp;refine qj (qA _ _ _ _) ?_;cases f1:qU 1 1 s.exps.length
 case false=>
  simp;exact qa rfl (by simp[qo,f0,f1]) rfl
 simp;refine qj (qA _ _ _ _) ?_;cases f2:qU 0 0 s.elems.length
 case false=>
  simp;exact qa rfl (by simp[qo,f0,f1,f2]) rfl
 simp;refine qj (qA _ _ _ _) ?_;cases f3:qU 0 0 s.decls.length
 case false=>
  simp;exact qa rfl (by simp[qo,f0,f1,f2,f3]) rfl
 simp;refine qj (qA _ _ _ _) ?_;cases f4:qU 0 0 s.body.length
 case false=>
  simp;exact qa rfl (by simp[qo,f0,f1,f2,f3,f4]) rfl
 simp;by_cases ht:s.text=⟨⟨[]⟩⟩
 case neg=>
  simp[ht];exact qa rfl (by simp[qo,f0,f1,f2,f3,f4,qP ht]) rfl
 simp[ht];refine qj (yU _ hO.labels.1 _) ?_;cases hl:s.labels.all qb
 case false=>
  simp;exact qa rfl (by simp[qo]) rfl
 simp;refine qj (Q9 _ hO.targets.1 _) ?_;cases hg:s.targets.all Ex.tgt
 case false=>
  simp;exact qa rfl (by simp[qo]) rfl
 simp[hk];exact qa rfl (by simp[qo,f0,f1,f2,f3,f4,qW rfl]) rfl
theorem qfo(s:Sm)(hs:s.ok)(hk:s.kind=3):∀S,Fn prog 183 [s.v] S (.bool (s.vOwn qb)):=by
 refine Pu.ib func183 ok183 (by simp[c183]) (by simp[V.under]) rfl ?_;have hO:=(Sm.ok_iff s).1 hs;rw[Sm.vOwn_3 qb s hk];simp[c183,hk];refine qj (qA _ _ _ _) ?_;cases f0:qU 0 0 s.targets.length
 case false=>
  simp;exact qa rfl (by simp[qo,f0]) rfl
 simp;refine qj (qA _ _ _ _) ?_;cases f1:qU 1 1 s.exps.length
 case false=>
  simp;exact qa rfl (by simp[qo,f0,f1]) rfl
 simp;refine qj (qA _ _ _ _) ?_;cases f2:qU 0 0 s.elems.length
 case false=>
  simp;exact qa rfl (by simp[qo,f0,f1,f2]) rfl
 simp;refine qj (qA _ _ _ _) ?_;cases f3:qU 0 0 s.decls.length
 case false=>
  simp;exact qa rfl (by simp[qo,f0,f1,f2,f3]) rfl
 simp;refine qj (qA _ _ _ _) ?_;cases f4:qU 0 0 s.body.length
 case false=>
  simp;exact qa rfl (by simp[qo,f0,f1,f2,f3,f4]) rfl
 simp;by_cases ht:s.text=⟨⟨[]⟩⟩
 case neg=>
  simp[ht];exact qa rfl (by simp[qo,f0,f1,f2,f3,f4,qP ht]) rfl
 simp[ht];refine qj (yU _ hO.labels.1 _) ?_;cases hl:s.labels.all qb
 case false=>
  simp;exact qa rfl (by simp[qo]) rfl
 simp;refine qj (Q9 _ hO.targets.1 _) ?_;cases hg:s.targets.all Ex.tgt
 case false=>
  simp;exact qa rfl (by simp[qo]) rfl
 simp[hk];exact qa rfl (by simp[qo,f0,f1,f2,f3,f4,qW rfl]) rfl
theorem qeD(s:Sm)(hs:s.ok)(hk:s.kind=4):∀S,Fn prog 183 [s.v] S (.bool (s.vOwn qb)):=by
 refine Pu.ib func183 ok183 (by simp[c183]) (by simp[V.under]) rfl ?_;have hO:=(Sm.ok_iff s).1 hs;rw[Sm.vOwn_4 qb s hk];simp[c183,hk];refine qj (qA _ _ _ _) ?_;cases f0:qU 0 0 s.targets.length
 case false=>
  simp;exact qa rfl (by simp[qo,f0]) rfl
 simp;refine qj (qA _ _ _ _) ?_;cases f1:qU 1 1 s.exps.length
 case false=>
  simp;exact qa rfl (by simp[qo,f0,f1]) rfl
 simp;refine qj (qA _ _ _ _) ?_;cases f2:qU 0 0 s.elems.length
 case false=>
  simp;exact qa rfl (by simp[qo,f0,f1,f2]) rfl
 simp;refine qj (qA _ _ _ _) ?_;cases f3:qU 0 0 s.decls.length
 case false=>
  simp;exact qa rfl (by simp[qo,f0,f1,f2,f3]) rfl
 simp;refine qj (qA _ _ _ _) ?_;cases f4:qU 1 2 s.body.length
 case false=>
  simp;exact qa rfl (by simp[qo,f0,f1,f2,f3,f4]) rfl
 simp;by_cases ht:s.text=⟨⟨[]⟩⟩
 case neg=>
  simp[ht];exact qa rfl (by simp[qo,f0,f1,f2,f3,f4,qP ht]) rfl
 simp[ht];refine qj (yU _ hO.labels.1 _) ?_;cases hl:s.labels.all qb
 case false=>
  simp;exact qa rfl (by simp[qo]) rfl
 simp;refine qj (Q9 _ hO.targets.1 _) ?_;cases hg:s.targets.all Ex.tgt
 case false=>
  simp;exact qa rfl (by simp[qo]) rfl
 have hb:0<s.body.length:=by rw[zl] at f4;simp at f4;omega
 have hno:=qf6 hb;rw[hno];by_cases g4:s.body[0].kind=4
 case pos=>
  simp[qdO hb,hk,g4];exact qa rfl (by simp[qo]) rfl
 by_cases g5:s.body[0].kind=5
 case pos=>
  simp[qdO hb,hk,g4,g5];exact qa rfl (by simp[qo]) rfl
 simp[qdO hb,hk,g4,g5];exact qa rfl (by simp[qo,f0,f1,f2,f3,f4,qW rfl]) rfl
theorem qeJ(s:Sm)(hs:s.ok)(hk:s.kind=5):∀S,Fn prog 183 [s.v] S (.bool (s.vOwn qb)):=by
 refine Pu.ib func183 ok183 (by simp[c183]) (by simp[V.under]) rfl ?_;have hO:=(Sm.ok_iff s).1 hs;rw[Sm.vOwn_5 qb s hk];simp[c183,hk];refine qj (qA _ _ _ _) ?_;cases f0:qU 1 1 s.targets.length
 case false=>
  simp;exact qa rfl (by simp[qo,f0]) rfl
 simp;refine qj (qA _ _ _ _) ?_;cases f1:qU 0 0 s.exps.length
 case false=>
  simp;exact qa rfl (by simp[qo,f0,f1]) rfl
 simp;refine qj (qA _ _ _ _) ?_;cases f2:qU 1 (-1) s.elems.length
 case false=>
  simp;exact qa rfl (by simp[qo,f0,f1,f2]) rfl
 simp;refine qj (qA _ _ _ _) ?_;cases f3:qU 0 0 s.decls.length
 case false=>
  simp;exact qa rfl (by simp[qo,f0,f1,f2,f3]) rfl
 simp;refine qj (qA _ _ _ _) ?_;cases f4:qU 1 1 s.body.length
 case false=>
  simp;exact qa rfl (by simp[qo,f0,f1,f2,f3,f4]) rfl
 simp;by_cases ht:s.text=⟨⟨[]⟩⟩
 case neg=>
  simp[ht];exact qa rfl (by simp[qo,f0,f1,f2,f3,f4,qP ht]) rfl
 simp[ht];refine qj (yU _ hO.labels.1 _) ?_;cases hl:s.labels.all qb
 case false=>
  simp;exact qa rfl (by simp[qo]) rfl
 simp;refine qj (Q9 _ hO.targets.1 _) ?_;cases hg:s.targets.all Ex.tgt
 case false=>
  simp;exact qa rfl (by simp[qo]) rfl
 simp[hk];exact qa rfl (by simp[qo,f0,f1,f2,f3,f4,qW rfl]) rfl
theorem qhf(s:Sm)(hs:s.ok)(hk:s.kind=6):∀S,Fn prog 183 [s.v] S (.bool (s.vOwn qb)):=by
 refine Pu.ib func183 ok183 (by simp[c183]) (by simp[V.under]) rfl ?_;have hO:=(Sm.ok_iff s).1 hs;rw[Sm.vOwn_6 qb s hk];simp[c183,hk];refine qj (qA _ _ _ _) ?_;cases f0:qU 0 0 s.targets.length
 case false=>
  simp;exact qa rfl (by simp[qo,f0]) rfl
 simp;refine qj (qA _ _ _ _) ?_;cases f1:qU 0 8 s.exps.length
 case false=>
  simp;exact qa rfl (by simp[qo,f0,f1]) rfl
 simp;refine qj (qA _ _ _ _) ?_;cases f2:qU 0 0 s.elems.length
 case false=>
  simp;exact qa rfl (by simp[qo,f0,f1,f2]) rfl
 simp;refine qj (qA _ _ _ _) ?_;cases f3:qU 0 0 s.decls.length
 case false=>
  simp;exact qa rfl (by simp[qo,f0,f1,f2,f3]) rfl
 simp;refine qj (qA _ _ _ _) ?_;cases f4:qU 0 0 s.body.length
 case false=>
  simp;exact qa rfl (by simp[qo,f0,f1,f2,f3,f4]) rfl
 simp;by_cases ht:s.text=⟨⟨[]⟩⟩
 case pos=>
  simp[ht];exact qa rfl (by simp[qo,f0,f1,f2,f3,f4,qeb]) rfl
 simp[ht];refine qj (jT _ _) ?_;cases hn:qb s.text
 case false=>
  simp;exact qa rfl (by simp[qo,f0,f1,f2,f3,f4,hn]) rfl
 simp;refine qj (yU _ hO.labels.1 _) ?_;cases hl:s.labels.all qb
 case false=>
  simp;exact qa rfl (by simp[qo]) rfl
 simp;refine qj (Q9 _ hO.targets.1 _) ?_;cases hg:s.targets.all Ex.tgt
 case false=>
  simp;exact qa rfl (by simp[qo]) rfl
 simp[hk];exact qa rfl (by simp[qo,f0,f1,f2,f3,f4,hn]) rfl
theorem qhn(s:Sm)(hs:s.ok)(hk:s.kind=7):∀S,Fn prog 183 [s.v] S (.bool (s.vOwn qb)):=by
 refine Pu.ib func183 ok183 (by simp[c183]) (by simp[V.under]) rfl ?_;have hO:=(Sm.ok_iff s).1 hs;rw[Sm.vOwn_7 qb s hk];simp[c183,hk];refine qj (qA _ _ _ _) ?_;cases f0:qU 0 0 s.targets.length
 case false=>
  simp;exact qa rfl (by simp[qo,f0]) rfl
 simp;refine qj (qA _ _ _ _) ?_;cases f1:qU 0 0 s.exps.length
 case false=>
  simp;exact qa rfl (by simp[qo,f0,f1]) rfl
 simp;refine qj (qA _ _ _ _) ?_;cases f2:qU 0 0 s.elems.length
 case false=>
  simp;exact qa rfl (by simp[qo,f0,f1,f2]) rfl
 simp;refine qj (qA _ _ _ _) ?_;cases f3:qU 1 (-1) s.decls.length
 case false=>
  simp;exact qa rfl (by simp[qo,f0,f1,f2,f3]) rfl
 simp;refine qj (qA _ _ _ _) ?_;cases f4:qU 1 (-1) s.body.length
 case false=>
  simp;exact qa rfl (by simp[qo,f0,f1,f2,f3,f4]) rfl
 simp;by_cases ht:s.text=⟨⟨[]⟩⟩
 case neg=>
  simp[ht];exact qa rfl (by simp[qo,f0,f1,f2,f3,f4,qP ht]) rfl
 simp[ht];refine qj (yU _ hO.labels.1 _) ?_;cases hl:s.labels.all qb
 case false=>
  simp;exact qa rfl (by simp[qo]) rfl
 simp;refine qj (Q9 _ hO.targets.1 _) ?_;cases hg:s.targets.all Ex.tgt
 case false=>
  simp;exact qa rfl (by simp[qo]) rfl
 simp[hk];exact qa rfl (by simp[qo,f0,f1,f2,f3,f4,qW rfl]) rfl
theorem qfT(s:Sm)(hs:s.ok)(hk:s.kind=8):∀S,Fn prog 183 [s.v] S (.bool (s.vOwn qb)):=by
 refine Pu.ib func183 ok183 (by simp[c183]) (by simp[V.under]) rfl ?_;have hO:=(Sm.ok_iff s).1 hs;rw[Sm.vOwn_8 qb s hk];simp[c183,hk];refine qj (qA _ _ _ _) ?_;cases f0:qU 0 0 s.targets.length
 case false=>
  simp;exact qa rfl (by simp[qo,f0]) rfl
 simp;refine qj (qA _ _ _ _) ?_;cases f1:qU 0 0 s.exps.length
 case false=>
  simp;exact qa rfl (by simp[qo,f0,f1]) rfl
 simp;refine qj (qA _ _ _ _) ?_;cases f2:qU 0 0 s.elems.length
 case false=>
  simp;exact qa rfl (by simp[qo,f0,f1,f2]) rfl
 simp;refine qj (qA _ _ _ _) ?_;cases f3:qU 0 0 s.decls.length
 case false=>
  simp;exact qa rfl (by simp[qo,f0,f1,f2,f3]) rfl
 simp;refine qj (qA _ _ _ _) ?_;cases f4:qU 1 (-1) s.body.length
 case false=>
  simp;exact qa rfl (by simp[qo,f0,f1,f2,f3,f4]) rfl
 simp;by_cases ht:s.text=⟨⟨[]⟩⟩
 case neg=>
  simp[ht];exact qa rfl (by simp[qo,f0,f1,f2,f3,f4,qP ht]) rfl
 simp[ht];refine qj (yU _ hO.labels.1 _) ?_;cases hl:s.labels.all qb
 case false=>
  simp;exact qa rfl (by simp[qo]) rfl
 simp;refine qj (Q9 _ hO.targets.1 _) ?_;cases hg:s.targets.all Ex.tgt
 case false=>
  simp;exact qa rfl (by simp[qo]) rfl
 simp[hk];exact qa rfl (by simp[qo,f0,f1,f2,f3,f4,qW rfl]) rfl
theorem qdM(s:Sm)(hs:s.ok)(h:¬ (1≤s.kind∧s.kind≤8)):∀S,Fn prog 183 [s.v] S (.bool (s.vOwn qb)):=by
 refine Pu.ib func183 ok183 (by simp[c183]) (by simp[V.under]) rfl ?_;have hO:=(Sm.ok_iff s).1 hs;rw[Sm.vOwn_no qb s h];simp[c183,show ¬ s.kind=1 by omega,show ¬ s.kind=2 by omega,show ¬ s.kind=3 by omega,show ¬ s.kind=4 by omega,show ¬ s.kind=5 by omega,show ¬ s.kind=6 by omega,show ¬ s.kind=7 by omega,show ¬ s.kind=8 by omega];exact qa rfl rfl rfl
theorem qmr(s:Sm)(hs:s.ok):∀S,Fn prog 183 [s.v] S (.bool (s.vOwn qb)):=by
 by_cases h1:s.kind=1
 ·exact qeS s hs h1
 by_cases h2:s.kind=2
 ·exact qfc s hs h2
 by_cases h3:s.kind=3
 ·exact qfo s hs h3
 by_cases h4:s.kind=4
 ·exact qeD s hs h4
 by_cases h5:s.kind=5
 ·exact qeJ s hs h5
 by_cases h6:s.kind=6
 ·exact qhf s hs h6
 by_cases h7:s.kind=7
 ·exact qhn s hs h7
 by_cases h8:s.kind=8
 ·exact qfT s hs h8
 exact qdM s hs (by omega)
theorem De.vOwn_1(nm:Bz→Bool)(d:De)(h:d.kind=1):d.vOwn nm=(qU 1 (-1) d.names.length && qU 0 0 d.exps.length && qU 0 0 d.body.length && qU 0 0 d.formals.length && d.names.all nm && (decide (1≤d.type∧d.type≤3))):=by
 cases d;simp only[De.kind] at h;subst h;simp only[De.vOwn,De.names,De.exps,De.formals,De.body,De.own,De.type,qY,zp,zm,zl,zn,yc];simp only[reduceIte,Int.reduceEq];ac_rfl
theorem De.vOwn_2(nm:Bz→Bool)(d:De)(h:d.kind=2):d.vOwn nm=(qU 1 (-1) d.names.length && qU 2 8 d.exps.length && qU 0 0 d.body.length && qU 0 0 d.formals.length && d.names.all nm && (decide (1≤d.type∧d.type≤3) && decide (d.exps.length % 2=0))):=by
 cases d;simp only[De.kind] at h;subst h;simp only[De.vOwn,De.names,De.exps,De.formals,De.body,De.own,De.type,qY,zp,zm,zl,zn,yc];simp only[reduceIte,Int.reduceEq];ac_rfl
theorem De.vOwn_3(nm:Bz→Bool)(d:De)(h:d.kind=3):d.vOwn nm=(qU 1 1 d.names.length && qU 1 (-1) d.exps.length && qU 0 0 d.body.length && qU 0 0 d.formals.length && d.names.all nm && (!d.own && decide (d.type=0))):=by
 cases d;simp only[De.kind] at h;subst h;simp only[De.vOwn,De.names,De.exps,De.formals,De.body,De.own,De.type,qY,zp,zm,zl,zn,yc];simp only[reduceIte,Int.reduceEq];ac_rfl
theorem De.vOwn_4(nm:Bz→Bool)(d:De)(h:d.kind=4):d.vOwn nm=(qU 1 1 d.names.length && qU 0 0 d.exps.length && qU 1 1 d.body.length && qU 0 8 d.formals.length && d.names.all nm && (!d.own && decide (0≤d.type∧d.type≤3) && zV nm d.formals [])):=by
 cases d;simp only[De.kind] at h;subst h;simp only[De.vOwn,De.names,De.exps,De.formals,De.body,De.own,De.type,qY,zp,zm,zl,zn,yc];simp only[reduceIte,Int.reduceEq];ac_rfl
theorem De.vOwn_no(nm:Bz→Bool)(s:De)(h:¬ (1≤s.kind∧s.kind≤4)):s.vOwn nm=false:=by
 cases s with
 | mk k o t n e f b=>
  simp only[De.kind] at h;simp only[De.vOwn,if_neg (show ¬ k=1 by omega),if_neg (show ¬ k=2 by omega),if_neg (show ¬ k=3 by omega),if_neg (show ¬ k=4 by omega),Bool.and_false]
theorem qor(n:Nat):Int.tmod (n:Int) 2=((n % 2:Nat):Int):=rfl
theorem qfW(d:De)(hs:d.ok)(hk:d.kind=1):∀S,Fn prog 182 [d.v] S (.bool (d.vOwn qb)):=by
 refine Pu.ib func182 ok182 (by simp[c182]) (by simp[V.under]) rfl ?_;have hO:=(De.ok_iff d).1 hs;rw[De.vOwn_1 qb d hk];simp[c182,hk];refine qj (qA _ _ _ _) ?_;cases f0:qU 1 (-1) d.names.length
 case false=>
  simp;exact qa rfl (by simp[qo,f0]) rfl
 simp;refine qj (qA _ _ _ _) ?_;cases f1:qU 0 0 d.exps.length
 case false=>
  simp;exact qa rfl (by simp[qo,f0,f1]) rfl
 simp;refine qj (qA _ _ _ _) ?_;cases f2:qU 0 0 d.body.length
 case false=>
  simp;exact qa rfl (by simp[qo,f0,f1,f2]) rfl
 simp;refine qj (qA _ _ _ _) ?_;cases f3:qU 0 0 d.formals.length
 case false=>
  simp;exact qa rfl (by simp[qo,f0,f1,f2,f3]) rfl
 simp;refine qj (yU _ hO.names.1 _) ?_;cases hl:d.names.all qb
 case false=>
  simp;exact qa rfl (by simp[qo,f0]) rfl
 simp;have hgo:∀o:Bool,o=d.own→True:=fun _ _=>trivial
 cases ho:d.own
 case false=>
  simp[ho];refine qj (qJ _ _ _ _) ?_;by_cases ht:1≤d.type∧d.type≤3
  case neg=>
   rw[qK ht];simp;exact qa rfl (by simp[qo,f0,f1,f2,f3,ht]) rfl
  rw[qN ht];simp[hk];refine qj (qJ _ _ _ _) ?_;rw[qN (show 0≤d.type∧d.type≤3 by omega)];simp[hk];refine qj (YE _ hO.formals.1 _) ?_;have hf:d.formals=[]:=qqq (by rw[qY] at f3;simpa using f3);simp[hf,zV];exact qa rfl (by simp[qo,f0,f1,f2,f3,hf,ht]) rfl
 case true=>
  simp[ho];refine qj (qJ _ _ _ _) ?_;by_cases ht:1≤d.type∧d.type≤3
  case neg=>
   rw[qK ht];simp;exact qa rfl (by simp[qo,f0,f1,f2,f3,ht]) rfl
  rw[qN ht];simp[hk];refine qj (qJ _ _ _ _) ?_;rw[qN (show 0≤d.type∧d.type≤3 by omega)];simp[hk];refine qj (YE _ hO.formals.1 _) ?_;have hf:d.formals=[]:=qqq (by rw[qY] at f3;simpa using f3);simp[hf,zV];exact qa rfl (by simp[qo,f0,f1,f2,f3,hf,ht]) rfl
theorem qgo(d:De)(hs:d.ok)(hk:d.kind=2):∀S,Fn prog 182 [d.v] S (.bool (d.vOwn qb)):=by
 refine Pu.ib func182 ok182 (by simp[c182]) (by simp[V.under]) rfl ?_;have hO:=(De.ok_iff d).1 hs;rw[De.vOwn_2 qb d hk];simp[c182,hk];refine qj (qA _ _ _ _) ?_;cases f0:qU 1 (-1) d.names.length
 case false=>
  simp;exact qa rfl (by simp[qo,f0]) rfl
 simp;refine qj (qA _ _ _ _) ?_;cases f1:qU 2 8 d.exps.length
 case false=>
  simp;exact qa rfl (by simp[qo,f0,f1]) rfl
 simp;refine qj (qA _ _ _ _) ?_;cases f2:qU 0 0 d.body.length
 case false=>
  simp;exact qa rfl (by simp[qo,f0,f1,f2]) rfl
 simp;refine qj (qA _ _ _ _) ?_;cases f3:qU 0 0 d.formals.length
 case false=>
  simp;exact qa rfl (by simp[qo,f0,f1,f2,f3]) rfl
 simp;refine qj (yU _ hO.names.1 _) ?_;cases hl:d.names.all qb
 case false=>
  simp;exact qa rfl (by simp[qo,f0]) rfl
 simp;have hgo:∀o:Bool,o=d.own→True:=fun _ _=>trivial
 cases ho:d.own
 case false=>
  simp[ho];refine qj (qJ _ _ _ _) ?_;by_cases ht:1≤d.type∧d.type≤3
  case neg=>
   rw[qK ht];simp;exact qa rfl (by simp[qo,f0,f1,f2,f3,ht]) rfl
  rw[qN ht];simp[hk];refine qj (qJ _ _ _ _) ?_;rw[qN (show 0≤d.type∧d.type≤3 by omega)];simp[hk];have hmod:=qor d.exps.length;by_cases hm:d.exps.length % 2=0
  case neg=>
   simp[hmod,hm,show ¬ ((d.exps.length:Int) % 2=0) by omega];exact qa rfl (by simp[qo,f0,f1,f2,f3,ht,hm]) rfl
  simp[hmod,hm,show ((d.exps.length:Int) % 2=0) by omega];refine qj (YE _ hO.formals.1 _) ?_;have hf:d.formals=[]:=qqq (by rw[qY] at f3;simpa using f3);simp[hf,zV];exact qa rfl (by simp[qo,f0,f1,f2,f3,hf,ht,hm]) rfl
 case true=>
  simp[ho];refine qj (qJ _ _ _ _) ?_;by_cases ht:1≤d.type∧d.type≤3
  case neg=>
   rw[qK ht];simp;exact qa rfl (by simp[qo,f0,f1,f2,f3,ht]) rfl
  rw[qN ht];simp[hk];refine qj (qJ _ _ _ _) ?_;rw[qN (show 0≤d.type∧d.type≤3 by omega)];simp[hk];have hmod:=qor d.exps.length;by_cases hm:d.exps.length % 2=0
  case neg=>
   simp[hmod,hm,show ¬ ((d.exps.length:Int) % 2=0) by omega];exact qa rfl (by simp[qo,f0,f1,f2,f3,ht,hm]) rfl
  simp[hmod,hm,show ((d.exps.length:Int) % 2=0) by omega];refine qj (YE _ hO.formals.1 _) ?_;have hf:d.formals=[]:=qqq (by rw[qY] at f3;simpa using f3);simp[hf,zV];exact qa rfl (by simp[qo,f0,f1,f2,f3,hf,ht,hm]) rfl
theorem qfG(d:De)(hs:d.ok)(hk:d.kind=3):∀S,Fn prog 182 [d.v] S (.bool (d.vOwn qb)):=by
 refine Pu.ib func182 ok182 (by simp[c182]) (by simp[V.under]) rfl ?_;have hO:=(De.ok_iff d).1 hs;rw[De.vOwn_3 qb d hk];simp[c182,hk];refine qj (qA _ _ _ _) ?_;cases f0:qU 1 1 d.names.length
 case false=>
  simp;exact qa rfl (by simp[qo,f0]) rfl
 simp;refine qj (qA _ _ _ _) ?_;cases f1:qU 1 (-1) d.exps.length
 case false=>
  simp;exact qa rfl (by simp[qo,f0,f1]) rfl
 simp;refine qj (qA _ _ _ _) ?_;cases f2:qU 0 0 d.body.length
 case false=>
  simp;exact qa rfl (by simp[qo,f0,f1,f2]) rfl
 simp;refine qj (qA _ _ _ _) ?_;cases f3:qU 0 0 d.formals.length
 case false=>
  simp;exact qa rfl (by simp[qo,f0,f1,f2,f3]) rfl
 simp;refine qj (yU _ hO.names.1 _) ?_;cases hl:d.names.all qb
 case false=>
  simp;exact qa rfl (by simp[qo,f0]) rfl
 simp;cases ho:d.own
 case true=>
  simp[ho];exact qa rfl (by simp[qo,f0,f1,f2,f3,ho]) rfl
 by_cases ht:d.type=0
 case neg=>
  simp[ho,hk,ht];exact qa rfl (by simp[qo,f0,f1,f2,f3,ho,ht]) rfl
 simp[ho,hk,ht];refine qj (qJ _ _ _ _) ?_;simp[ho,hk,ht];refine qj (YE _ hO.formals.1 _) ?_;have hf:d.formals=[]:=qqq (by rw[qY] at f3;simpa using f3);simp[hf,zV];exact qa rfl (by simp[qo,f0,f1,f2,f3,hf,ho,ht]) rfl
theorem qe8(d:De)(hs:d.ok)(hk:d.kind=4):∀S,Fn prog 182 [d.v] S (.bool (d.vOwn qb)):=by
 refine Pu.ib func182 ok182 (by simp[c182]) (by simp[V.under]) rfl ?_;have hO:=(De.ok_iff d).1 hs;rw[De.vOwn_4 qb d hk];simp[c182,hk];refine qj (qA _ _ _ _) ?_;cases f0:qU 1 1 d.names.length
 case false=>
  simp;exact qa rfl (by simp[qo,f0]) rfl
 simp;refine qj (qA _ _ _ _) ?_;cases f1:qU 0 0 d.exps.length
 case false=>
  simp;exact qa rfl (by simp[qo,f0,f1]) rfl
 simp;refine qj (qA _ _ _ _) ?_;cases f2:qU 1 1 d.body.length
 case false=>
  simp;exact qa rfl (by simp[qo,f0,f1,f2]) rfl
 simp;refine qj (qA _ _ _ _) ?_;cases f3:qU 0 8 d.formals.length
 case false=>
  simp;exact qa rfl (by simp[qo,f0,f1,f2,f3]) rfl
 simp;refine qj (yU _ hO.names.1 _) ?_;cases hl:d.names.all qb
 case false=>
  simp;exact qa rfl (by simp[qo,f0]) rfl
 simp;cases ho:d.own
 case true=>
  simp[ho];exact qa rfl (by simp[qo,f0,f1,f2,f3,ho]) rfl
 simp[ho,hk];refine qj (qJ _ _ _ _) ?_;by_cases ht:0≤d.type∧d.type≤3
 case neg=>
  rw[qK ht];simp;exact qa rfl (by simp[qo,f0,f1,f2,f3,ho,ht]) rfl
 rw[qN ht];simp[hk];refine qj (YE _ hO.formals.1 _) ?_;simp;exact qa rfl (by simp[qo,f0,f1,f2,f3,ho,ht]) rfl
theorem qd8(d:De)(hs:d.ok)(h:¬ (1≤d.kind∧d.kind≤4)):∀S,Fn prog 182 [d.v] S (.bool (d.vOwn qb)):=by
 refine Pu.ib func182 ok182 (by simp[c182]) (by simp[V.under]) rfl ?_;have hO:=(De.ok_iff d).1 hs;rw[De.vOwn_no qb d h];simp[c182,show ¬ d.kind=1 by omega,show ¬ d.kind=2 by omega,show ¬ d.kind=3 by omega,show ¬ d.kind=4 by omega];exact qa rfl rfl rfl
theorem ql7(d:De)(hs:d.ok):∀S,Fn prog 182 [d.v] S (.bool (d.vOwn qb)):=by
 by_cases h1:d.kind=1
 ·exact qfW d hs h1
 by_cases h2:d.kind=2
 ·exact qgo d hs h2
 by_cases h3:d.kind=3
 ·exact qfG d hs h3
 by_cases h4:d.kind=4
 ·exact qe8 d hs h4
 exact qd8 d hs (by omega)
end
structure VJ(p:Pa)(U:St):Prop where
 t2:U[1]?=some (.arr [.bool false] 1 1)
 k:U[2]?=some (.arr [p.v] 25 1)
theorem VJ.push{p:Pa}{U:St}(h:VJ p U)(o:Ob):VJ p (U++[o]):=⟨gp h.t2,gp h.k⟩
theorem VJ.set{p:Pa}{U:St}(h:VJ p U){L:Nat}(o:Ob)(hL:3≤L):VJ p (U.set L o):=⟨gs h.t2 (by omega),gs h.k (by omega)⟩
def VV(p:Pa)(i:Nat):Prop:=∀q,q∈p.kids.take i→q.valid qb=true
def VD(p:Pa)(U:St):Prop:=U[1]?=some (.arr [.bool false] 1 1)∧p.valid qb=false
theorem VD.push{p:Pa}{U:St}(h:VD p U)(o:Ob):VD p (U++[o]):=⟨gp h.1,h.2⟩
theorem Env.keep_get{e:Env}{t:Nat}{v:V}:∀{ts:List Nat},t∈ts→e.get t=some v→(e.keep ts).get t=some v
 | [],h,_=>by simp at h
 | s::ts,h,hv=>by
  simp only[Env.keep];by_cases hs:s=t
  ·subst hs;rw[hv];simp[Env.get]
  ·have h':t∈ts:=by
    rcases qqk.1 h with h| h
    ·exact absurd h.symm hs
    ·exact h
   split
   ·simp only[Env.get,if_neg hs];exact Env.keep_get h' hv
   ·exact Env.keep_get h' hv
noncomputable def qbT:C':=(.seq (.k [.j 29 25 1,.c 30 179 29]
 (.block 1 (.rf (.t 30) [31] (Qt Tryz.f151 0).1 (Qt Tryz.f151 0).2
  (.reg [.o 4 (.new zP),
   .s 25 4 31])
  (.block 2 (.k [.j 32 25 4,.c 33 151 32,.o 34 (.un .not (.t 33))]
   (.d 34 (.k [.n (.sto 1 (.t 2) (.c (.bool false)))] (.ret)) (.skip))))
  35 [31,4,32,33,34,2])))
 (.k [.n (.sto 1 (.t 2) (.c (.bool true)))] (.ret)))
theorem Zy:qbT=(.seq (.k [.j 29 25 1,.c 30 179 29]
 (.block 1 (.rf (.t 30) [31] (Qt Tryz.f151 0).1 (Qt Tryz.f151 0).2
  (.reg [.o 4 (.new zP),
   .s 25 4 31])
  (.block 2 (.k [.j 32 25 4,.c 33 151 32,.o 34 (.un .not (.t 33))]
   (.d 34 (.k [.n (.sto 1 (.t 2) (.c (.bool false)))] (.ret)) (.skip))))
  35 [31,4,32,33,34,2])))
 (.k [.n (.sto 1 (.t 2) (.c (.bool true)))] (.ret))):=rfl
theorem qj4:∀(k:Nat) (p:Pa),p.wt≤k→p.ok→∀S,Fn prog 151 [p.v] S (.bool (p.valid qb)):=by
 intro k
 induction k with
 | zero=>intro p h;exfalso;cases p with
  | st s=>cases s;simp[Pa.wt] at h
  | de s=>cases s;simp[Pa.wt] at h
  | el s=>cases s;simp[Pa.wt] at h
  | ex s=>cases s;simp[Pa.wt] at h
 | succ k ih=>
  intro p hw hp;refine Pu.ib func151 ok151 (by simp[c151]) (by simp) rfl ?_;have hve:=Pa.valid_eq qb p;have range:∀e:Env,p.vOwn qb=true→e.get 1=some (.ptr 0 0 0 1)→e.get 2=some (.ptr 1 0 0 1)→
    WP prog qbT
     (Z4 [.cell 2 none] 0 fun v U=>v=.bool (p.valid qb)∧U=[]) e [.arr [p.v] 25 1,.arr [.bool false] 1 1]:=by
   intro e hown g1 g2;simp only[qbT];simp[g1,ldS];refine qm (qgp p _) ?_;rintro v U ⟨rfl,rfl⟩;simp;have hkl:(p.kids.map fun q=>[q.v]).length=p.kids.length:=by simp
   refine qc8 (k:=202) (fs:=[]) (cs:=[.ptr 2 0 0 1]) (by simp) (qbh p hp 2) rfl rfl rfl (by simp) (fun x=>x=1) (by rintro x rfl;simp)
    (fun i U=>VJ p U∧VV p i) (VD p) (fun _ _=>False) ?_ ?_ ?_ ?_ (fun i U L o o' _ h hl=>⟨⟨gl h.1.t2 (by simp) hl,gl h.1.k (by simp) hl⟩,h.2⟩) (fun U L o o' _ h hl=>⟨gl h.1 (by simp) hl,h.2⟩) (fun id U L o o' _ h hl=>h.elim) ?_ ?_ ?_ ?_ ?_
   ·rintro i U ⟨h,_⟩;exact h.k
   ·rintro i U ⟨h,h1⟩;exact fun o=>⟨h.push o,h1⟩
   ·rintro U h;exact fun o=>h.push o
   ·rintro id U h;exact h.elim
   ·exact ⟨⟨rfl,rfl⟩,fun q hq=>by simp at hq⟩
   ·rintro i av hav U ⟨hj,hv⟩ hk hl;rw[qqh] at hav;obtain ⟨q,hq,rfl⟩:=qp3.1 hav;have hqk:q∈p.kids:=qp6 hq;have hqw:=Pa.kid_lt hqk;generalize hke:Env.keep _ _=ke at hl ⊢;have g2':ke.get 2=some (.ptr 1 0 0 1):=by rw[←hke];exact Env.keep_get (by simp) (by simp[g2])
    clear hke;simp at hl;simp[QD,qw,stS,qc];refine QZ (gp hl) rfl ?_;have lU:=glt hl;have nU:U.length≠3:=by omega
    have vq:((U++[Ob.arr [q.v] 25 1]).set 3 (.loop { st:=.busy,pend:=none,ps:=[31],asg:=(Qt Tryz.f151 0).1,body:=(Qt Tryz.f151 0).2,e:=ke,N:=35 }))[U.length]?=some (.arr [q.v] 25 1):=gs (by simp) nU;have vL:((U++[Ob.arr [q.v] 25 1]).set 3 (.loop { st:=.busy,pend:=none,ps:=[31],asg:=(Qt Tryz.f151 0).1,body:=(Qt Tryz.f151 0).2,e:=ke,N:=35 }))[3]?=some (.loop _):=qpW (by simp;omega);have vj:=(hj.push (Ob.arr [q.v] 25 1)).set (L:=3) (.loop { st:=.busy,pend:=none,ps:=[31],asg:=(Qt Tryz.f151 0).1,body:=(Qt Tryz.f151 0).2,e:=ke,N:=35 }) (by omega);have vk:Kp (fun x=>x=1∨x=3) U ((U++[Ob.arr [q.v] 25 1]).set 3 (.loop { st:=.busy,pend:=none,ps:=[31],asg:=(Qt Tryz.f151 0).1,body:=(Qt Tryz.f151 0).2,e:=ke,N:=35 })):=((Kp.refl _ _).push _).set _ (.inl (.inr rfl));generalize (U++[Ob.arr [q.v] 25 1]).set 3 _=W at vq vL vj vk ⊢;simp[ldS,vq];refine qj (ih q (by omega) (Pa.kid_ok hp hqk) W) ?_
    cases hqv:q.valid qb with
    | true=>
     simp;refine jZ ⟨rfl,rfl⟩ (.inr rfl) vL vk ⟨vj.set _ (by omega),?_⟩;intro r hr;rw[qp9,hq] at hr;rcases qqc.1 hr with hr|hr
     ·exact hv r hr
     ·simp at hr;subst hr;exact hqv
    | false=>
     simp[stS,Qs,vj.t2,g2'];refine qbm (.inr rfl) (gs vL (by omega)) (vk.set _ (.inl (.inl rfl))) ⟨gs (qpW (glt vj.t2)) (by omega),?_⟩
     cases hh:p.valid qb with
     | false=>rfl
     | true=>rw[(Pa.valid_iff.1 hh).2 q hqk] at hqv;cases hqv
   ·rintro U ⟨hj,hv⟩ hk;rw[hkl] at hv;unfold VV at hv;rw[qqo] at hv;simp[stS,Qs,hj.t2,g2];refine qa (vs:=[.bool true]) (by simp[ldS,g2,glt hj.t2]) ?_ rfl;rw[Pa.valid_iff.2 ⟨hown,hv⟩];rfl
   ·rintro U ⟨h1,h2⟩ hk;simp;refine qa (vs:=[.bool false]) (by simp[ldS,g2,h1]) ?_ rfl;rw[h2];rfl
   ·rintro id U h;exact h.elim
  have stop:p.vOwn qb=false→p.valid qb=false:=fun h=>by rw[hve,h];rfl
  cases p with
  | st s=>
   have hown:(Pa.st s).vOwn qb=s.vOwn qb:=rfl;simp only[c151,←Zy];simp[qw,ldS];simp only[Pa.v,Pa.kind,Pa.toS,Pa.toD,Pa.toE,Pa.toX];simp[ldS];refine qj (qmr s hp _) ?_
   cases ho:s.vOwn qb with
   | false=>
    simp[stS,Qs];refine qa rfl ?_ rfl;rw[stop (by rw[hown,ho])];rfl
   | true=>
    simp[hown,ho];exact range _ (hown.trans ho) (by simp) (by simp)
  | de d=>
   have hown:(Pa.de d).vOwn qb=d.vOwn qb:=rfl;simp only[c151,←Zy];simp[qw,ldS];simp only[Pa.v,Pa.kind,Pa.toS,Pa.toD,Pa.toE,Pa.toX];simp[ldS];refine qj (ql7 d hp _) ?_
   cases ho:d.vOwn qb with
   | false=>
    simp[stS,Qs];refine qa rfl ?_ rfl;rw[stop (by rw[hown,ho])];rfl
   | true=>
    simp[hown,ho];exact range _ (hown.trans ho) (by simp) (by simp)
  | el e=>
   have hown:(Pa.el e).vOwn qb=e.vOwn:=rfl;simp only[c151,←Zy];simp[qw,ldS];simp only[Pa.v,Pa.kind,Pa.toS,Pa.toD,Pa.toE,Pa.toX];simp[ldS];refine qj (qlF e _) ?_
   cases ho:e.vOwn with
   | false=>
    simp[stS,Qs];refine qa rfl ?_ rfl;rw[stop (by rw[hown,ho])];rfl
   | true=>
    simp[hown,ho];exact range _ (hown.trans ho) (by simp) (by simp)
  | ex x=>
   have hown:(Pa.ex x).vOwn qb=x.vOwn qb:=rfl;simp only[c151,←Zy];simp[qw,ldS];simp only[Pa.v,Pa.kind,Pa.toS,Pa.toD,Pa.toE,Pa.toX];simp[ldS];refine qj (qjP x hp _) ?_
   cases ho:x.vOwn qb with
   | false=>
    simp[stS,Qs];refine qa rfl ?_ rfl;rw[stop (by rw[hown,ho])];rfl
   | true=>
    simp[hown,ho];exact range _ (hown.trans ho) (by simp) (by simp)
theorem qkK(p:Pa)(hp:p.ok):∀S,Fn prog 100 [p.v] S (.int .i64 (p.err qb)):=by
 refine Pu.ib func100 ok100 (by simp[c100]) (by simp) rfl ?_;simp[c100,qw,ldS];refine qm (qjL p hp _) ?_;rintro v U ⟨⟨z,d,rfl,_⟩,rfl⟩;unfold Pa.err;by_cases hf:p.fits
 ·simp[hf,ldS];refine qj (qj4 _ p (qp0 _) hp _) ?_
  cases hv:p.valid qb with
  | true=>
   simp;exact qa rfl rfl rfl
  | false=>
   simp;exact qa rfl rfl rfl
 ·simp[hf,ldS];exact qa rfl rfl rfl
theorem qi4(s:Sm)(hs:s.ok):∀S,Fn prog 56 [s.v] S (.int .i64 ((Pa.st s).err qb)):=by
 refine Pu.ib func56 ok56 (by simp[c56]) (by simp[V.under]) rfl ?_;simp[c56,qw,ldS];refine qj (qgU s _) ?_;simp;refine qj (qkK (.st s) hs _) ?_;simp;exact qa rfl rfl rfl
def qbn(s:Sm):V:=.agg [.int .i64 1,.sl false (s.labels.map .str),.int .i64 s.kind,.str s.text,.sl false (s.targets.map Ex.v),.sl false (s.exps.map Ex.v),.sl false (s.elems.map El.v),.sl false (s.decls.map De.v),.sl false (s.body.map Sm.v),.int .i64 0,.bool false,.int .i64 0,.sl true [],.sl true [],.sl true [],.sl true [],.int .i64 0,.sl true [],.int .i64 0,.int .i64 0,.int .i64 0,.int .i64 0,.int .i64 0,.str ⟨⟨[]⟩⟩,.sl true []]
def qaS(d:De):V:=.agg [.int .i64 2,.sl true [],.int .i64 0,.str ⟨⟨[]⟩⟩,.sl true [],.sl true [],.sl true [],.sl true [],.sl true [],.int .i64 d.kind,.bool d.own,.int .i64 d.type,.sl false (d.names.map .str),.sl false (d.exps.map Ex.v),.sl false (d.formals.map Fo.v),.sl false (d.body.map Sm.v),.int .i64 0,.sl true [],.int .i64 0,.int .i64 0,.int .i64 0,.int .i64 0,.int .i64 0,.str ⟨⟨[]⟩⟩,.sl true []]
def qbo(e:El):V:=.agg [.int .i64 3,.sl true [],.int .i64 0,.str ⟨⟨[]⟩⟩,.sl true [],.sl true [],.sl true [],.sl true [],.sl true [],.int .i64 0,.bool false,.int .i64 0,.sl true [],.sl true [],.sl true [],.sl true [],.int .i64 e.kind,.sl false (e.exps.map Ex.v),.int .i64 0,.int .i64 0,.int .i64 0,.int .i64 0,.int .i64 0,.str ⟨⟨[]⟩⟩,.sl true []]
def jp(x:Ex):V:=.agg [.int .i64 4,.sl true [],.int .i64 0,.str ⟨⟨[]⟩⟩,.sl true [],.sl true [],.sl true [],.sl true [],.sl true [],.int .i64 0,.bool false,.int .i64 0,.sl true [],.sl true [],.sl true [],.sl true [],.int .i64 0,.sl true [],.int .i64 x.kind,.int .i64 x.op,.int .i64 x.n,.int .i64 x.man,.int .i64 x.exp,.str x.text,.sl false (x.args.map Ex.v)]
def Pa.raw:Pa→V
 | .st s=>qbn s
 | .de d=>qaS d
 | .el e=>qbo e
 | .ex x=>jp x
theorem Pa.raw_weak(p:Pa):p.raw.weak=p.v:=by
 cases p <;> simp only[Pa.raw,qbn,qaS,qbo,jp,V.weak,V.weakL,wEx,wEl,wFo,kx,wDe,wSm] <;> rfl
theorem Qq(p:Pa):fits 25 [p.raw]=true:=by cases p <;> rfl
theorem JJ(s:Sm):∀S,Fn prog 113 [s.v] S (Pa.st s).v:=by
 refine Pu.intro (R:=fun v=>v=(Pa.st s).v) func113 ok113 (by simp[c113]) (by simp[V.under]) (by rintro v rfl;simp) ?_;simp[c113,qw,ldS,stS,zO,qh,ql];refine Qh rfl ?_ ?_
 ·simp only[qo,V.weak,V.weakL,wEx,wEl,wFo,kx,wDe,wSm];rfl
 ·simp[qo,V.weak,V.weakL,V.under,V.underL]
theorem qgz(s:De):∀S,Fn prog 135 [s.v] S (Pa.de s).v:=by
 refine Pu.intro (R:=fun v=>v=(Pa.de s).v) func135 ok135 (by simp[c135]) (by simp[V.under]) (by rintro v rfl;simp) ?_;simp[c135,qw,ldS,stS,zO,qh,ql];refine Qh rfl ?_ ?_
 ·simp only[qo,V.weak,V.weakL,wEx,wEl,wFo,kx,wDe,wSm];rfl
 ·simp[qo,V.weak,V.weakL,V.under,V.underL]
theorem qe0(s:Ex):∀S,Fn prog 141 [s.v] S (Pa.ex s).v:=by
 refine Pu.intro (R:=fun v=>v=(Pa.ex s).v) func141 ok141 (by simp[c141]) (by simp[V.under]) (by rintro v rfl;simp) ?_;simp[c141,qw,ldS,stS,zO,qh,ql];refine Qh rfl ?_ ?_
 ·simp only[qo,V.weak,V.weakL,wEx,wEl,wFo,kx,wDe,wSm];rfl
 ·simp[qo,V.weak,V.weakL,V.under,V.underL]
theorem qgT(p:Pa)(hp:p.ok):∀S,Fn prog 200 [p.v] S (.int .i64 p.own):=by
 refine Pu.ib func200 ok200 (by simp[c200]) (by simp) rfl ?_;have h1:=Pa.own_le hp;unfold B50 at h1
 cases p with
 | st s=>
  simp only[Pa.own] at h1;simp[c200,qw,ldS,Pa.v,Pa.kind,Pa.toS,Pa.own,qy (n:=1+(s.labels.length:Int)) (by omega) (by omega)];exact qa rfl rfl rfl
 | de d=>
  simp only[Pa.own] at h1;simp[c200,qw,ldS,Pa.v,Pa.kind,Pa.toD,Pa.own,qy (n:=1+(d.names.length:Int)) (by omega) (by omega),qy (n:=1+(d.names.length:Int)+d.formals.length) (by omega) (by omega)];exact qa rfl rfl rfl
 | el e=>
  simp[c200,qw,ldS,Pa.v,Pa.kind,Pa.own];exact qa rfl rfl rfl
 | ex x=>
  simp[c200,qw,ldS,Pa.v,Pa.kind,Pa.own];exact qa rfl rfl rfl
theorem qlz(p:Pa)(hp:p.ok):∀S,Fn prog 201 [p.v] S (.int .i64 p.kids.length):=by
 refine Pu.ib func201 ok201 (by simp[c201]) (by simp) rfl ?_;rw[ZA]
 cases p with
 | st s=>
  have o:=(Sm.ok_iff s).1 hp;have o1:=o.targets.1;have o2:=o.exps.1;have o3:=o.elems.1;have o4:=o.decls.1;have o5:=o.body.1;unfold B50 at o1 o2 o3 o4 o5;simp[c201,qw,ldS,stS,qc,Pa.v,Pa.kind,Pa.toS,qy (n:=(s.targets.length:Int)+s.exps.length) (by omega) (by omega),qy (n:=(s.targets.length:Int)+s.exps.length+s.elems.length) (by omega) (by omega),
   qy (n:=(s.targets.length:Int)+s.exps.length+s.elems.length+s.decls.length) (by omega) (by omega),qy (n:=(s.targets.length:Int)+s.exps.length+s.elems.length+s.decls.length+s.body.length) (by omega) (by omega)]
  exact qa rfl (by simp[qo];omega) rfl
 | de d=>
  have o:=(De.ok_iff d).1 hp;have o1:=o.exps.1;have o2:=o.body.1;unfold B50 at o1 o2;simp[c201,qw,ldS,Pa.v,Pa.kind,Pa.toD,qy (n:=(d.exps.length:Int)+d.body.length) (by omega) (by omega)];exact qa rfl rfl rfl
 | el e=>
  simp[c201,qw,ldS,Pa.v,Pa.kind,Pa.toE];exact qa rfl rfl rfl
 | ex x=>
  simp[c201,qw,ldS,Pa.v,Pa.kind,Pa.toX];exact qa rfl rfl rfl
def grV(n:Nat)(xs:List V):V:=match xs with
 | []=>.sl true []
 | _::_=>.arr n 0 xs.length xs.length
def grS(S:St)(xs:List V):St:=match xs with
 | []=>S
 | _::_=>S++[.arr xs 25 1]
theorem qji{n:Nat}{xs:List V}(h:xs≠[]):grV n xs=.arr n 0 xs.length xs.length:=by
 cases xs with
 | nil=>exact absurd rfl h
 | cons=>rfl
theorem qjb{S:St}{xs:List V}(h:xs≠[]):grS S xs=S++[.arr xs 25 1]:=by
 cases xs with
 | nil=>exact absurd rfl h
 | cons=>rfl
theorem qhU{S:St}{xs:List V}{y:V}(hy:fits 25 [y]=true)(hl:xs.length≤1000000):QP (grS S xs) 25 408 (grV S.length xs) (.sl true [y])=some (grV S.length (xs++[y]),grS S (xs++[y])):=by
 rw[qji (xs:=xs++[y]) (by simp),qjb (xs:=xs++[y]) (by simp)]
 cases xs with
 | nil=>
  simp only[grS,grV,QP,elems];rw[if_neg (by simp),if_pos ⟨trivial,hy,rfl,by simp⟩];simp
 | cons x xs=>
  rw[qji (by simp),qjb (by simp)];simp only[QP,elems];have hg:(S++[Ob.arr (x::xs) 25 1])[S.length]?=some (.arr (x::xs) 25 1):=by simp
  rw[hg];simp only;rw[if_pos ⟨trivial,trivial,trivial,trivial,hy,by simp at hl ⊢;omega⟩];simp
theorem qnN{S:St}{xs:List V}{l:Nat}{o:Ob}(h:S[l]?=some o):(grS S xs)[l]?=some o:=by
 cases xs with
 | nil=>exact h
 | cons=>exact gp h
theorem JH(S:St)(xs:List V)(l:List Ex)(hl:xs.length+l.length≤1000000):
  qB prog 228 [grV S.length xs,.sl false (l.map Ex.v)] (grS S xs) (fun r U=>r=grV S.length (xs++l.map jp)∧U=grS S (xs++l.map jp)):=by
 refine qB.ib func228 ok228 ?_;simp only[c228,C'.k];simp;refine qq (fun j e S'=>∃i:Nat,j=l.length - i∧i≤l.length∧S'=grS S (xs++(l.map jp).take i)∧
  e=[(5,.int .i64 i),(0,grV S.length (xs++(l.map jp).take i)),(1,.sl false (l.map Ex.v))]) l.length _ ?_ ⟨0,by simp,by omega,by simp,rfl⟩ ?_
 ·exact Env.so (by simp)
 rintro j e S' ⟨i,rfl,hi,rfl,rfl⟩;by_cases h:i<l.length
 ·have ha:=qhU (S:=S) (xs:=xs++(l.map jp).take i) (y:=jp l[i]) (Qq (.ex l[i])) (by simp;omega)
  have hn:xs++(l.map jp).take i++[jp l[i]]=xs++(l.map jp).take (i+1):=by
   rw[qp9,qqh,qpZ h,qqg,qqx,qp4]
  rw[hn] at ha;have hf:fits 25 [jp l[i]]=true:=Qq (.ex l[i]);generalize hr:jp l[i]=y at ha hf;have hb:ql (.agg [.int .i64 0,.sl true [],.int .i64 0,.str ⟨⟨[]⟩⟩,.sl true [],.sl true [],.sl true [],.sl true [],.sl true [],.int .i64 0,.bool false,.int .i64 0,.sl true [],.sl true [],.sl true [],.sl true [],.int .i64 0,.sl true [],.int .i64 0,.int .i64 0,.int .i64 0,.int .i64 0,.int .i64 0,.str ⟨⟨[]⟩⟩,.sl true []]) [(0,1,.int .i64 4),(18,7,l[i].v)]=some y:=by rw[←hr];simp[ql,qc,jp]
  simp[h,qht,qh,hb,hf,ha,qO (n:=(i:Int)+1)];refine ⟨_,?_,_,?_,i+1,rfl,by omega,rfl,rfl⟩
  ·omega
  ·exact Env.so (by simp)
 ·have:i=l.length:=by omega
  subst this;simp[h];refine qi rfl ⟨?_,?_⟩
  ·simp only[qo];rw[qqt (by simp)]
  ·rw[qqt (by simp)]
theorem qfd(S:St)(xs:List V)(l:List Sm)(hl:xs.length+l.length≤1000000):
  qB prog 229 [grV S.length xs,.sl false (l.map Sm.v)] (grS S xs) (fun r U=>r=grV S.length (xs++l.map qbn)∧U=grS S (xs++l.map qbn)):=by
 refine qB.ib func229 ok229 ?_;simp only[c229,C'.k];simp;refine qq (fun j e S'=>∃i:Nat,j=l.length - i∧i≤l.length∧S'=grS S (xs++(l.map qbn).take i)∧
  e=[(5,.int .i64 i),(0,grV S.length (xs++(l.map qbn).take i)),(1,.sl false (l.map Sm.v))]) l.length _ ?_ ⟨0,by simp,by omega,by simp,rfl⟩ ?_
 ·exact Env.so (by simp)
 rintro j e S' ⟨i,rfl,hi,rfl,rfl⟩;by_cases h:i<l.length
 ·have ha:=qhU (S:=S) (xs:=xs++(l.map qbn).take i) (y:=qbn l[i]) (Qq (.st l[i])) (by simp;omega)
  have hn:xs++(l.map qbn).take i++[qbn l[i]]=xs++(l.map qbn).take (i+1):=by
   rw[qp9,qqh,qpZ h,qqg,qqx,qp4]
  rw[hn] at ha;have hf:fits 25 [qbn l[i]]=true:=Qq (.st l[i]);generalize hr:qbn l[i]=y at ha hf;have hb:ql (.agg [.int .i64 0,.sl true [],.int .i64 0,.str ⟨⟨[]⟩⟩,.sl true [],.sl true [],.sl true [],.sl true [],.sl true [],.int .i64 0,.bool false,.int .i64 0,.sl true [],.sl true [],.sl true [],.sl true [],.int .i64 0,.sl true [],.int .i64 0,.int .i64 0,.int .i64 0,.int .i64 0,.int .i64 0,.str ⟨⟨[]⟩⟩,.sl true []]) [(0,1,.int .i64 1),(1,8,l[i].v)]=some y:=by rw[←hr];simp[ql,qc,qbn]
  simp[h,qhg,qh,hb,hf,ha,qO (n:=(i:Int)+1)];refine ⟨_,?_,_,?_,i+1,rfl,by omega,rfl,rfl⟩
  ·omega
  ·exact Env.so (by simp)
 ·have:i=l.length:=by omega
  subst this;simp[h];refine qi rfl ⟨?_,?_⟩
  ·simp only[qo];rw[qqt (by simp)]
  ·rw[qqt (by simp)]
theorem qpE(S:St)(xs:List V):Gr 25 0 xs (grV S.length xs) (grS S xs):=by
 cases xs with
 | nil=>exact .inl ⟨rfl,rfl⟩
 | cons x xs=>exact .inr ⟨S.length,1,qqB _,rfl,by simp[grS],by simp⟩
theorem qfI(l:List Pa):(l.map Pa.raw).map V.weak=l.map Pa.v:=by
 rw[qrJ];exact qqX fun p _=>Pa.raw_weak p
theorem Yc{rs:List RV}{e:Env}{S:St}{l:List Pa}(h:rvs e (grS S (l.map Pa.raw)) rs=some [grV S.length (l.map Pa.raw)]):
  Z4 rs 0 (fun v U=>v=.sl false (l.map Pa.v)∧U=[]) .ret e (grS S (l.map Pa.raw)):=
 qjK (R:=fun v=>v=.sl false (l.map Pa.v)) h (qpE S _) (fun x hx=>by
  obtain ⟨p,_,rfl⟩:=qql.1 hx;rw[Pa.raw_weak];simp) (by rw[qfI])
theorem qmI(l:List Ex):l.map jp=(l.map Pa.ex).map Pa.raw:=by rw[qrJ];rfl
theorem qoY(l:List Sm):l.map qbn=(l.map Pa.st).map Pa.raw:=by rw[qrJ];rfl
theorem qpR(l:List El):l.map qbo=(l.map Pa.el).map Pa.raw:=by rw[qrJ];rfl
theorem qpQ(l:List De):l.map qaS=(l.map Pa.de).map Pa.raw:=by rw[qrJ];rfl
@[simp] theorem uPa(l:List Pa):V.underL 0 (l.map Pa.v)=true:=qL fun x _=>Pa.v_under x
theorem jk(p:Pa)(hp:p.ok)(hl:p.kids.length≤2000):∀S,Fn prog 193 [p.v] S (.sl false (p.kids.map Pa.v)):=by
 refine Pu.intro (R:=fun v=>v=.sl false (p.kids.map Pa.v)) func193 ok193 (by simp[c193]) (by simp) (by rintro v rfl;simp[V.under]) ?_;rw[ZA] at hl
 cases p with
 | el e=>
  simp only at hl;simp[c193,qw,ldS];simp only[Pa.v,Pa.kind,Pa.toS,Pa.toD,Pa.toE,Pa.toX];simp[ldS];refine qm (JH [.arr [(Pa.el e).v] 25 1] [] e.exps (by simp;omega)) ?_;rintro v U ⟨rfl,rfl⟩;simp;rw[qmI];exact Yc rfl
 | ex x=>
  simp only at hl;simp[c193,qw,ldS];simp only[Pa.v,Pa.kind,Pa.toS,Pa.toD,Pa.toE,Pa.toX];simp[ldS];refine qm (JH [.arr [(Pa.ex x).v] 25 1] [] x.args (by simp;omega)) ?_;rintro v U ⟨rfl,rfl⟩;simp;rw[qmI];exact Yc rfl
 | de d=>
  simp only at hl;simp[c193,qw,ldS];simp only[Pa.v,Pa.kind,Pa.toS,Pa.toD,Pa.toE,Pa.toX];simp[ldS];refine Ym (JH [.arr [(Pa.de d).v] 25 1] [] d.exps (by simp;omega)) ?_;have h0:(grS [Ob.arr [(Pa.de d).v] 25 1] ([]++d.exps.map jp))[0]?=some (.arr [(Pa.de d).v] 25 1):=qnN rfl;simp only[qqn] at h0 ⊢;simp only[Pa.v,Pa.kind,Pa.toS,Pa.toD,Pa.toE,Pa.toX] at h0 ⊢;simp[ldS,h0];refine Ym (qfd _ (d.exps.map jp) d.body (by simp;omega)) ?_;simp[Qd,zA,zK,ldS,h0];rw[qmI,qoY,←qqe];exact Yc rfl
 | st s=>
  simp only at hl;simp[c193,qw,ldS,stS,qc];simp only[Pa.v,Pa.kind,Pa.toS,Pa.toD,Pa.toE,Pa.toX];simp[ldS,stS,qc,qw];obtain ⟨B,hB⟩:∃B:St,B=[.arr [paV 1 s De.z El.z Ex.z] 25 1,.arr [s.v] 8 1]:=⟨_,rfl⟩;have hBl:B.length=2:=by rw[hB];rfl
  have hB1:B[1]?=some (.arr [s.v] 8 1):=by rw[hB];rfl
  have c1:=JH B [] s.targets (by simp;omega);have c2:=JH B (s.targets.map jp) s.exps (by simp;omega);rw[hBl] at c1 c2;simp only[qqn] at c1;have hb1:∀xs,(grS B xs)[1]?=some (.arr [s.v] 8 1):=fun xs=>qnN hB1
  have c1':qB prog 228 [.sl true [],.sl false (s.targets.map Ex.v)] B (fun r U=>r=grV 2 (s.targets.map jp)∧U=grS B (s.targets.map jp)):=c1;simp only[hB] at c1';refine qm c1' ?_;rintro v U ⟨rfl,rfl⟩;simp only[←hB];simp[ldS,hb1];refine qm c2 ?_;rintro v U ⟨rfl,rfl⟩;generalize hxs:s.targets.map jp++s.exps.map jp=xs;have hxl:xs.length=s.targets.length+s.exps.length:=by rw[←hxs];simp
  simp;refine qE (fun e U=>e.get 4=some (grV 2 (xs++s.elems.map qbo))∧e.get 3=some (.ptr 1 0 0 1)∧U=grS B (xs++s.elems.map qbo)) ?_ ?_
  ·refine qq (fun j e S'=>∃i:Nat,j=s.elems.length - i∧i≤s.elems.length∧S'=grS B (xs++(s.elems.map qbo).take i)∧
    e=[(5,.int .i64 i),(4,grV 2 (xs++(s.elems.map qbo).take i)),(3,.ptr 1 0 0 1)]) s.elems.length _ ?_ ⟨0,by simp,by omega,by simp,rfl⟩ ?_
   ·exact Env.so (by simp)
   rintro j e S' ⟨i,rfl,hi,rfl,rfl⟩;by_cases h:i<s.elems.length
   ·have ha:=qhU (S:=B) (xs:=xs++(s.elems.map qbo).take i) (y:=qbo s.elems[i]) (Qq (.el s.elems[i])) (by simp;omega)
    have hn:xs++(s.elems.map qbo).take i++[qbo s.elems[i]]=xs++(s.elems.map qbo).take (i+1):=by
     rw[qp9,qqh,qpZ h,qqg,qqx,qp4]
    rw[hn,hBl] at ha;have hf:fits 25 [qbo s.elems[i]]=true:=Qq (.el s.elems[i]);generalize hr:qbo s.elems[i]=y at ha hf;have hb:ql (.agg [.int .i64 0,.sl true [],.int .i64 0,.str ⟨⟨[]⟩⟩,.sl true [],.sl true [],.sl true [],.sl true [],.sl true [],.int .i64 0,.bool false,.int .i64 0,.sl true [],.sl true [],.sl true [],.sl true [],.int .i64 0,.sl true [],.int .i64 0,.int .i64 0,.int .i64 0,.int .i64 0,.int .i64 0,.str ⟨⟨[]⟩⟩,.sl true []]) [(0,1,.int .i64 3),(16,2,s.elems[i].v)]=some y:=by rw[←hr];simp[ql,qc,qbo]
    simp[h,ldS,hb1,qnk,qh,hb,hf,ha,qO (n:=(i:Int)+1)];refine ⟨_,?_,_,?_,i+1,rfl,by omega,rfl,rfl⟩
    ·omega
    ·exact Env.so (by simp)
   ·have:i=s.elems.length:=by omega
    subst this;simp[ldS,hb1];rw[qqt (by simp)];exact ⟨rfl,rfl⟩
  rintro e U ⟨g4,g3,rfl⟩;generalize hxs2:xs++s.elems.map qbo=ys at *;have hyl:ys.length=s.targets.length+s.exps.length+s.elems.length:=by rw[←hxs2];simp;omega
  simp[g3,g4];refine qE (fun e U=>e.get 4=some (grV 2 (ys++s.decls.map qaS))∧e.get 3=some (.ptr 1 0 0 1)∧U=grS B (ys++s.decls.map qaS)) ?_ ?_
  ·refine qq (fun j e S'=>∃i:Nat,j=s.decls.length - i∧i≤s.decls.length∧S'=grS B (ys++(s.decls.map qaS).take i)∧
    e=[(6,.int .i64 i),(4,grV 2 (ys++(s.decls.map qaS).take i)),(3,.ptr 1 0 0 1)]) s.decls.length _ ?_ ⟨0,by simp,by omega,by simp,rfl⟩ ?_
   ·repeat' first|exact Env.sub_nil _|refine Env.sub_cons (by simp[g3,g4]) ?_
   rintro j e S' ⟨i,rfl,hi,rfl,rfl⟩;by_cases h:i<s.decls.length
   ·have ha:=qhU (S:=B) (xs:=ys++(s.decls.map qaS).take i) (y:=qaS s.decls[i]) (Qq (.de s.decls[i])) (by simp;omega)
    have hn:ys++(s.decls.map qaS).take i++[qaS s.decls[i]]=ys++(s.decls.map qaS).take (i+1):=by
     rw[qp9,qqh,qpZ h,qqg,qqx,qp4]
    rw[hn,hBl] at ha;have hf:fits 25 [qaS s.decls[i]]=true:=Qq (.de s.decls[i]);generalize hr:qaS s.decls[i]=y at ha hf;have hb:ql (.agg [.int .i64 0,.sl true [],.int .i64 0,.str ⟨⟨[]⟩⟩,.sl true [],.sl true [],.sl true [],.sl true [],.sl true [],.int .i64 0,.bool false,.int .i64 0,.sl true [],.sl true [],.sl true [],.sl true [],.int .i64 0,.sl true [],.int .i64 0,.int .i64 0,.int .i64 0,.int .i64 0,.int .i64 0,.str ⟨⟨[]⟩⟩,.sl true []]) [(0,1,.int .i64 2),(9,7,s.decls[i].v)]=some y:=by rw[←hr];simp[ql,qc,qaS]
    simp[h,ldS,hb1,qjS,qh,hb,hf,ha,qO (n:=(i:Int)+1)];refine ⟨_,?_,_,?_,i+1,rfl,by omega,rfl,rfl⟩
    ·omega
    ·exact Env.so (by simp)
   ·have:i=s.decls.length:=by omega
    subst this;simp[ldS,hb1];rw[qqt (by simp)];exact ⟨rfl,rfl⟩
  clear g3 g4;rintro e U ⟨g4,g3,rfl⟩;have c3:=qfd B (ys++s.decls.map qaS) s.body (by simp;omega);rw[hBl] at c3;simp[g3,g4,ldS,hb1];refine qm c3 ?_;rintro v U ⟨rfl,rfl⟩;simp
  have hz:ys++s.decls.map qaS++s.body.map qbn=(Pa.st s).kids.map Pa.raw:=by
   rw[←hxs2,←hxs,qmI,qmI,qpR,qpQ,qoY];simp only[Pa.kids,qqe,qp4]
  rw[←qp4,hz,←hBl];exact Yc (by simp)
theorem qoa{l:List Pa}{i:Nat}(h:i<l.length)(b:Bool)(S:St):iaS S 25 (.sl b (l.map Pa.v)) i=some (.iptr (Pa.v l[i]) 0):=qbV (f:=Pa.v) (fun _=>rfl) h b S
theorem Za:∀l:List Pa,(∀p,p∈l→p.depth≤p.size)→zG l≤qF l
 | [],_=>qp0 _
 | p::l,h=>by
  have h1:=h p (by simp);have h2:=Za l fun q hq=>h q (by simp[hq])
  rw[depths_cons,sizes_cons];omega
theorem kD:∀(k:Nat) (p:Pa),p.wt≤k→p.depth≤p.size:=by
 intro k
 induction k with
 | zero=>intro p h;exfalso;cases p with
  | st s=>cases s;simp[Pa.wt] at h
  | de s=>cases s;simp[Pa.wt] at h
  | el s=>cases s;simp[Pa.wt] at h
  | ex s=>cases s;simp[Pa.wt] at h
 | succ k ih=>
  intro p hw;rw[Pa.depth_eq,Pa.size_eq];have:=Za p.kids fun q hq=>ih q (by have:=Pa.kid_lt hq;omega)
  have:=p.own_pos;omega
def QX(z:Nat)(n:Int):Int:=if (z:Int)≤n then n - z else -1
theorem qkc:∀(k:Nat) (p:Pa),p.wt≤k→p.ok→∀n:Int,0≤n→n≤2000→∀S,Fn prog 174 [p.v,.int .i64 n] S (.int .i64 (QX p.size n)):=by
 intro k
 induction k with
 | zero=>intro p h;exfalso;cases p with
  | st s=>cases s;simp[Pa.wt] at h
  | de s=>cases s;simp[Pa.wt] at h
  | el s=>cases s;simp[Pa.wt] at h
  | ex s=>cases s;simp[Pa.wt] at h
 | succ k ih=>
  intro p hw hp n hn0 hn1;refine Pu.ib func174 ok174 (by simp[c174]) (by simp[V.under]) rfl ?_;have ho:=Pa.own_le hp;have hs:=p.size_eq;have hlen:=qT p.kids;unfold B50 at ho
  have hkl:p.kids.length≤9007199254740992:=by
   rw[ZA]
   cases p with
   | st s=>
    have o:=(Sm.ok_iff s).1 hp;have o1:=o.targets.1;have o2:=o.exps.1;have o3:=o.elems.1;have o4:=o.decls.1;have o5:=o.body.1;unfold B50 at o1 o2 o3 o4 o5;simp only;omega
   | de d=>
    have o:=(De.ok_iff d).1 hp;have o1:=o.exps.1;have o2:=o.body.1;unfold B50 at o1 o2;simp only;omega
   | el e=>have:=hp.1;unfold B50 at this;simp only;omega
   | ex x=>have:=(Ex.ok_args hp).1;unfold B50 at this;simp only;omega
  have w1:IntKind.i64.wrap ((p.own:Int)+p.kids.length)=(p.own:Int)+p.kids.length:=qy (by omega) (by omega);have w2:IntKind.i64.wrap (n - p.own)=n - p.own:=qy (by omega) (by omega);simp[c174,qw,ldS];refine zt (qgT p hp _) ?_;simp[ldS];refine zt (qlz p hp _) ?_;simp[Qd,zA,zK,ldS,w1];by_cases hbig:n<(p.own:Int)+p.kids.length
  ·simp[hbig];refine qa rfl ?_ rfl;unfold QX;rw[if_neg (by omega)];rfl
  simp[hbig,ldS];refine qj (qgT p hp _) ?_;simp[ldS,w2];refine qj (jk p hp (by omega) _) ?_;simp;refine qE (fun e U=>e.get 1=some (.int .i64 (QX p.size n))) ?_ ?_
  ·refine qq (fun j e S'=>∃i:Nat,j=p.kids.length - i∧i≤p.kids.length∧
    e=[(6,.int .i64 i),(5,.sl false (p.kids.map Pa.v)),(1,.int .i64 (QX (qF (p.kids.take i)) (n - p.own)))]) p.kids.length _ ?_ ⟨0,by simp,by omega,rfl⟩ ?_
   ·have hz:QX 0 (n - p.own)=n - p.own:=by unfold QX;rw[if_pos (by omega)];omega
    repeat' first|exact Env.sub_nil _|refine Env.sub_cons (by simp[hz]) ?_
   rintro j e S' ⟨i,rfl,hi,rfl⟩;by_cases h:i<p.kids.length
   ·have hq:p.kids[i]?=some p.kids[i]:=by simp[h]
    have q1:=Ql hq;have q2:=zb hq;by_cases h0:(qF (p.kids.take i):Int)≤n - p.own
    ·have hm:QX (qF (p.kids.take i)) (n - p.own)=n - p.own - qF (p.kids.take i):=by unfold QX;rw[if_pos h0]
     have hk:=Pa.kid_lt (qp5 h);simp[h,hm,show (qF (p.kids.take i):Int)≤n - p.own by omega,qoa];refine qj (ih p.kids[i] (by omega) (Pa.kid_ok hp (qp5 h)) _ (by omega) (by omega) _) ?_;simp[qO (n:=(i:Int)+1)];refine ⟨_,?_,_,?_,i+1,rfl,by omega,rfl⟩
     ·omega
     ·exact Env.sub_cons (k:=6) (v:=.int .i64 (i+1:Nat)) (by simp) (Env.sub_cons (k:=5) (v:=.sl false (p.kids.map Pa.v)) (by simp) (Env.sub_cons (k:=1) (v:=.int .i64 (QX (qF (p.kids.take (i+1))) (n - p.own))) (by
      simp;rw[q1];unfold QX;split <;> split <;> omega) (Env.sub_nil _)))
    ·have hm:QX (qF (p.kids.take i)) (n - p.own)=-1:=by unfold QX;rw[if_neg h0]
     simp[h,hm];unfold QX;rw[if_neg (by omega)]
   ·have:i=p.kids.length:=by omega
    subst this;simp;unfold QX;split <;> split <;> omega
  ·rintro e U g;simp[g];exact qa (vs:=[.int .i64 (QX p.size n)]) (by simp) rfl rfl
theorem qlY:∀(k:Nat) (p:Pa),p.wt≤k→p.ok→p.size≤2000→∀S,Fn prog 188 [p.v] S (.int .i64 p.depth):=by
 intro k
 induction k with
 | zero=>intro p h;exfalso;cases p with
  | st s=>cases s;simp[Pa.wt] at h
  | de s=>cases s;simp[Pa.wt] at h
  | el s=>cases s;simp[Pa.wt] at h
  | ex s=>cases s;simp[Pa.wt] at h
 | succ k ih=>
  intro p hw hp hsz;refine Pu.ib func188 ok188 (by simp[c188]) (by simp) rfl ?_;have hs:=p.size_eq;have hlen:=qT p.kids;have hown:=p.own_pos;have hd:=p.depth_eq;have hds:=kD _ p (qp0 _);simp[c188,qw,ldS];refine qj (jk p hp (by omega) _) ?_;simp;refine qE (fun e U=>e.get 3=some (.int .i64 (zG p.kids))) ?_ ?_
  ·refine qq (fun j e S'=>∃i:Nat,j=p.kids.length - i∧i≤p.kids.length∧
    e=[(5,.int .i64 i),(4,.sl false (p.kids.map Pa.v)),(3,.int .i64 (zG (p.kids.take i)))]) p.kids.length _ ?_ ⟨0,by simp,by omega,rfl⟩ ?_
   ·exact Env.so (by simp)
   rintro j e S' ⟨i,rfl,hi,rfl⟩;by_cases h:i<p.kids.length
   ·have hq:p.kids[i]?=some p.kids[i]:=by simp[h]
    have q1:=yS hq;have q2:=zb hq;have hk:=Pa.kid_lt (qp5 h);simp[h,qoa];refine qj (ih p.kids[i] (by omega) (Pa.kid_ok hp (qp5 h)) (by omega) _) ?_;simp[evX,mmV,qO (n:=(i:Int)+1)];refine ⟨_,?_,_,?_,i+1,rfl,by omega,rfl⟩
    ·omega
    ·exact Env.sub_cons (k:=5) (v:=.int .i64 (i+1:Nat)) (by simp) (Env.sub_cons (k:=4) (v:=.sl false (p.kids.map Pa.v)) (by simp) (Env.sub_cons (k:=3) (v:=.int .i64 (zG (p.kids.take (i+1)))) (by
     simp;rw[q1];split <;> omega) (Env.sub_nil _)))
   ·have:i=p.kids.length:=by omega
    subst this;simp
  ·rintro e U g;simp[g,qy (n:=1+(zG p.kids:Int)) (by omega) (by omega)];exact qa (vs:=[.int .i64 (1+zG p.kids)]) (by simp) (by simp[qo,hd]) rfl
theorem qbu(p:Pa)(hp:p.ok):∀S,Fn prog 159 [p.v] S (.bool (decide p.fits)):=by
 refine Pu.ib func159 ok159 (by simp[c159]) (by simp) rfl ?_;simp[c159,qw,ldS];refine qj (qkc _ p (qp0 _) hp 2000 (by omega) (by omega) _) ?_;by_cases h:p.size≤2000
 ·have hm:QX p.size 2000=2000 - p.size:=by unfold QX;rw[if_pos (by omega)]
  simp[hm,show (p.size:Int)≤2000 by omega,ldS];refine qj (qlY _ p (qp0 _) hp h _) ?_;simp;exact qa rfl (by simp[qo,Pa.fits,h];omega) rfl
 ·have hm:QX p.size 2000=-1:=by unfold QX;rw[if_neg (by omega)]
  simp[hm];exact qa rfl (by simp[qo,Pa.fits,h]) rfl
end Go.Proofs.YtbifpocccfkhhaaGreatDoor
end
