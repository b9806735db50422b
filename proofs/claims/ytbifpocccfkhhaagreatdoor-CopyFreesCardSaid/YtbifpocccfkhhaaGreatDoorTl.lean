/- A part. -/
import Derived.Test.YtbifpocccfkhhaaGreatDoorTk
import Derived.Shelf.SlIter.Nil
import Derived.Shelf.SortM.Plain
import Derived.Shelf.SortM.SortNone
import Derived.Ground.GgzProg
import Derived.Ground.SlgmProg
import Derived.Sort.Walk0
set_option linter.all false
noncomputable section
namespace Go.Proofs.YtbifpocccfkhhaaGreatDoor
open Go Go.Proofs.Tryz
abbrev Ae:=Bz×Ex
def lkL:List Ae→Lk
 | [],_=>none
 | e::es,x=>if e.1=x then some e.2 else lkL es x
def aeT(e:Ae):V×V:=(.str e.1,e.2.v)
theorem YC(x:Bz):∀(t:List Ae) (i:Nat),∃j,zr .str (.str x) (t.map aeT) i=some ((lkL t x).map fun y=>(j,y.v))
 | [],i=>⟨0,rfl⟩
 | e::t,i=>by
  simp only[qpv,aeT,zr,YG,lkL];by_cases h:x=e.1
  ·rw[show (x.data.toList==e.1.data.toList)=true by rw[h];simp,if_pos h.symm];exact ⟨i,rfl⟩
  ·rw[show (x.data.toList==e.1.data.toList)=false by
    rw[beq_eq_false_iff_ne];intro hh;exact h (qqZ (Array.ext' hh)),if_neg (Ne.symm h)]
   exact YC x t (i+1)
def lkE(es:List Ae)(x:Bz):V:=match lkL es x with
 | some y=>y.v
 | none=>zeX
theorem qgc{S:St}{m:Nat}{es:List Ae}{bs:List Nat}{ck:Nat}(x:Bz)(h:S[m]?=some (.map (es.map aeT) bs ck)):
  qbk S .str (.agg [.int .i64 0,.int .i64 0,.int .i64 0,.int .i64 0,.int .i64 0,.str ⟨⟨[]⟩⟩,.sl true []]) true (.map m) (.str x)=some (.tup [lkE es x,.bool (lkL es x).isSome]):=by
 obtain ⟨j,hj⟩:=YC x es 0;unfold qbk lkE;rw[if_pos (by rfl)];simp only[qa4,h,hj];cases lkL es x <;> rfl
structure Sbs(es:List Ae)(cb m cg ct:Nat)(h:Bool)(F D:Np)(U:St):Prop where
 b:U[cb]?=some (.arr [.map m] 1 1)
 mm:∃bs ck,U[m]?=some (.map (es.map aeT) bs ck)
 g:U[cg]?=some (.arr [.bool h] 1 1)
 t:U[ct]?=some (.arr [.fn (.func 148) [] [.ptr cb 0 0 1,.ptr cg 0 0 1]] 1 1)
 hF:∀l,F l↔l=cg
 hD:∀l,D l↔l=cb∨l=m∨l=ct
section
variable {es:List Ae} {cb m cg ct:Nat} {h:Bool} {F D:Np} {U:St}
theorem Sbs.fr{U':St}{M:Np}(k:Sbs es cb m cg ct h F D U)(hk:Kp M U U')(hM:∀l,M l→l<U.length→¬ F l∧¬ D l):Sbs es cb m cg ct h F D U':=by
 obtain ⟨bs,ck,hm⟩:=k.mm;exact ⟨hk.at k.b fun hh=>(hM _ hh (glt k.b)).2 ((k.hD _).2 (.inl rfl)),⟨bs,ck,hk.at hm fun hh=>(hM _ hh (glt hm)).2 ((k.hD _).2 (.inr (.inl rfl)))⟩,hk.at k.g fun hh=>(hM _ hh (glt k.g)).1 ((k.hF _).2 rfl),hk.at k.t fun hh=>(hM _ hh (glt k.t)).2 ((k.hD _).2 (.inr (.inr rfl))),k.hF,k.hD⟩
theorem Sbs.put(k:Sbs es cb m cg ct h F D U)(h':Bool):Sbs es cb m cg ct h' F D (U.set cg (.arr [.bool h'] 1 1)):=by
 obtain ⟨bs,ck,hm⟩:=k.mm;exact ⟨by rw[qpm (jq k.g k.b (by simp))];exact k.b,⟨bs,ck,by rw[qpm (jq k.g hm (by simp))];exact hm⟩,qpl (glt k.g),by rw[qpm (jq k.g k.t (by simp))];exact k.t,k.hF,k.hD⟩
theorem Sbs.lt(k:Sbs es cb m cg ct h F D U){l:Nat}(hl:F l∨D l):l<U.length:=by
 rcases hl with hl|hl
 ·rw[(k.hF l).1 hl];exact glt k.g
 ·rcases (k.hD l).1 hl with rfl|rfl|rfl
  ·exact glt k.b
  ·obtain ⟨_,_,hm⟩:=k.mm;exact glt hm
  ·exact glt k.t
theorem qia{lk:Lk}{sc:Scs}{x:Bz}(h:lk x=none):sbT lk sc x=x∧qbd lk sc x=false:=by
 unfold sbT qbd sbn qgD;cases sc.at x <;> simp[h]
theorem qhG{lk:Lk}{sc:Scs}{x:Bz}{y:Ex}(h:lk x=some y)(hs:sc.at x=none):sbT lk sc x=y.text∧qbd lk sc x=decide (y.kind≠6):=by
 unfold sbT qbd sbn qgD;simp[h,hs]
theorem qmK{lk:Lk}{sc:Scs}{x:Bz}(hs:(sc.at x).isSome=true):sbT lk sc x=x∧qbd lk sc x=false:=by
 unfold sbT qbd
 cases h:sc.at x with
 | none=>rw[h] at hs;cases hs
 | some k=>simp
theorem qf6(k:Sbs es cb m cg ct h F D U){p:Pw}{X:Np}{w:V}{ts:List Sct}(hsc:ScR p X U w ts)(x:Bz):
  qt prog 148 [.str x,w,.ptr cb 0 0 1,.ptr cg 0 0 1] U (fun r U'=>r=.str (sbT (lkL es) (Scx ts) x)∧Sbs es cb m cg ct (h || qbd (lkL es) (Scx ts) x) F D U'∧Kp F U U'):=by
 refine qt.ib func148 ok148 ?_;have hb:=k.b;obtain ⟨bs,ck,hm⟩:=k.mm;have hl:=qgc (es:=es) (bs:=bs) (ck:=ck) x hm;simp[c148,ldS,hb,evX,hl]
 cases hy:lkL es x with
 | none=>
  obtain ⟨e1,e2⟩:=qia (sc:=Scx ts) hy;rw[e1,e2,qqT];have hE:lkE es x=zeX:=by unfold lkE;rw[hy]
  rw[hE];unfold zeX;simp[qM,stS,qi];refine qf (vs:=[.str x]) (by simp[rvs]) ⟨rfl,?_,?_⟩
  ·exact k.fr (M:=fun _=>False) ((Kp.refl _ _).push _) fun _ h=>h.elim
  ·exact (Kp.refl _ _).push _
 | some y=>
  have hE:lkE es x=y.v:=by unfold lkE;rw[hy]
  rw[hE];have hn:V.upd (.agg [.int .i64 0,.int .i64 0,.int .i64 0,.int .i64 0,.int .i64 0,.str ⟨⟨[]⟩⟩,.sl true []]) 0 7 y.v=some y.v:=by rw[qi];simp
  simp[qM,stS,hn];obtain ⟨U1,hU1⟩:∃U1:St,U1=U++[.arr [y.v] 7 1]:=⟨_,rfl⟩;have b0:U1[U.length]?=some (.arr [y.v] 7 1):=by rw[hU1];simp
  have kp1:Kp F U U1:=by rw[hU1];exact (Kp.refl _ _).push _
  have k1:Sbs es cb m cg ct h F D U1:=by rw[hU1];exact k.fr (M:=fun _=>False) ((Kp.refl _ _).push _) fun _ h=>h.elim
  have s1:ScR p X U1 w ts:=by rw[hU1];exact hsc.push _
  rw[←hU1];clear hU1;refine qg (JU s1 x) ?_;have hf:=Jf ts x
  cases hfd:fnd ts x with
  | some q=>
   have hs:((Scx ts).at x).isSome=true:=by rw[hf,hfd];rfl
   obtain ⟨e1,e2⟩:=qmK (lk:=lkL es) hs;rw[e1,e2,qqT];simp[YD,hfd,yl,eqV];exact qf (vs:=[.str x]) (by simp[rvs]) ⟨rfl,k1,kp1⟩
  | none=>
   have hs:(Scx ts).at x=none:=by rw[hf,hfd];rfl
   obtain ⟨e1,e2⟩:=qhG hy hs;rw[e1,e2];have g1:=k1.g;have fin:∀(b':Bool) (e:Env),e.get 6=some (.str y.text)→jR [.t 6] U.length (fun r U'=>r=.str y.text∧Sbs es cb m cg ct b' F D U'∧Kp F U U') .ret e (U1.set cg (.arr [.bool b'] 1 1)):=
    fun b' e he=>qf (vs:=[.str y.text]) (by simp[rvs,he]) ⟨rfl,k1.put b',kp1.set _ (.inl ((k.hF cg).2 rfl))⟩
   have ng:∀o,(U1.set cg o)[U.length]?=some (.arr [y.v] 7 1):=fun o=>by
    rw[qpm (by have:=glt k.g;omega)];exact b0
   cases h with
   | true=>
    simp[YD,hfd,yl,eqV,ldS,g1,stS,zu,ng];refine fin true _ ?_;simp
   | false=>
    simp[YD,hfd,yl,eqV,ldS,g1,b0,stS,zu,ng];exact fin _ _ (by simp)
theorem qiU(hz:∀x y,lkL es x=some y→(Pa.ex y).size≤4000)(k:Sbs es cb m cg ct h F D U){p:Pw}{X:Np}{w:V}{ts:List Sct}(hsc:ScR p X U w ts)(x:Ex)(tg:Bool):
  qt prog 149 [x.v,w,.bool tg,.ptr ct 0 0 1,.ptr cb 0 0 1,.ptr cg 0 0 1] U (fun r U'=>r=(if x.kind=6 then sbX (lkL es) (Scx ts) x else .mk x.kind x.op x.n x.man x.exp (sbT (lkL es) (Scx ts) x.text) x.args).v∧Sbs es cb m cg ct (h || (if x.kind=6 then qe5 (lkL es) (Scx ts) tg x.text else qbd (lkL es) (Scx ts) x.text)) F D U'∧Kp F U U'):=by
 refine qt.ib func149 ok149 ?_;simp[c149,qM];obtain ⟨U1,hU1⟩:∃U1:St,U1=U++[.arr [x.v] 7 1,.arr [.agg [.int .i64 0,.int .i64 0,.int .i64 0,.int .i64 0,.int .i64 0,.str ⟨⟨[]⟩⟩,.sl true []]] 7 1]:=⟨_,rfl⟩;rw[←hU1];have l1:U1.length=U.length+2:=by rw[hU1];simp
 have b0:U1[U.length]?=some (.arr [x.v] 7 1):=by rw[hU1];simp
 have b1:U1[U.length+1]?=some (.arr [.agg [.int .i64 0,.int .i64 0,.int .i64 0,.int .i64 0,.int .i64 0,.str ⟨⟨[]⟩⟩,.sl true []]] 7 1):=by rw[hU1,qpj (by omega)];simp
 have kp1:Kp F U U1:=by rw[hU1];exact (Kp.refl _ _).push _
 have k1:Sbs es cb m cg ct h F D U1:=by rw[hU1];exact k.fr (M:=fun _=>False) ((Kp.refl _ _).push _) fun _ h=>h.elim
 have s1:ScR p X U1 w ts:=by rw[hU1];exact hsc.push _
 clear hU1;have nF:∀j,¬ F (U.length+j):=fun j hf=>by have:=k.lt (.inl hf);omega
 have nD:∀j,¬ D (U.length+j):=fun j hf=>by have:=k.lt (.inr hf);omega
 have hn:∀y:Ex,V.upd (.agg [.int .i64 0,.int .i64 0,.int .i64 0,.int .i64 0,.int .i64 0,.str ⟨⟨[]⟩⟩,.sl true []]) 0 7 y.v=some y.v:=fun y=>by rw[qi];simp
 simp[ldS,b0];by_cases h6:x.kind=6
 case neg=>
  simp only[if_neg h6];have h7:=k1.t;simp[h6,ldS,h7,b0];refine qj (qf6 k1 s1 x.text) ?_;rintro r U2 ⟨rfl,k2,kp2⟩;have c0:=kp2.at b0 (nF 0);have c1:=kp2.at b1 (nF 1);obtain ⟨y,hy⟩:∃y,y=sbT (lkL es) (Scx ts) x.text:=⟨_,rfl⟩;rw[←hy];obtain ⟨z,hz⟩:∃z:Ex,z=.mk x.kind x.op x.n x.man x.exp y x.args:=⟨_,rfl⟩;have hzv:Ob.arr [V.agg [.int .i64 x.kind,.int .i64 x.op,.int .i64 x.n,.int .i64 x.man,.int .i64 x.exp,.str y,.sl false (x.args.map Ex.v)]] 7 1=.arr [z.v] 7 1:=by rw[hz,Ex.v_eq];rfl
  rw[←hz];simp[stS,c0,qc1,qi];rw[hzv];have d0:(U2.set U.length (.arr [z.v] 7 1))[U.length]?=some (.arr [z.v] 7 1):=qpl (glt c0);have d1:(U2.set U.length (.arr [z.v] 7 1))[U.length+1]?=some (.arr [.agg [.int .i64 0,.int .i64 0,.int .i64 0,.int .i64 0,.int .i64 0,.str ⟨⟨[]⟩⟩,.sl true []]] 7 1):=by rw[qpm (by omega)];exact c1
  obtain ⟨U3,hU3⟩:∃U3,U3=U2.set U.length (.arr [z.v] 7 1):=⟨_,rfl⟩;rw[←hU3] at d0 d1 ⊢;simp[ldS,d0,stS,d1,qi];have hw:(U3.set (U.length+1) (.arr [z.v] 7 1))[U.length+1]?=some (.arr [z.v] 7 1):=qpl (glt d1);refine qf (vs:=[z.v]) (by simp[rvs,ldS,hw]) ⟨rfl,?_,?_⟩
  ·refine Sbs.fr (M:=fun l=>l=U.length∨l=U.length+1) k2 ?_ fun l hl _=>?_
   ·rw[hU3];exact ((Kp.refl _ _).set _ (.inl (.inl rfl))).set _ (.inl (.inr rfl))
   ·rcases hl with rfl|rfl
    ·exact ⟨nF 0,nD 0⟩
    ·exact ⟨nF 1,nD 1⟩
  ·rw[hU3];exact ((kp1.trans kp2).set _ (.inr (qpo _))).set _ (.inr (by omega))
 simp only[if_pos h6];have hb:=k1.b;obtain ⟨bs,ck,hm⟩:=k1.mm;have hl:=qgc (es:=es) (bs:=bs) (ck:=ck) x.text hm;simp[h6,ldS,b0,hb,evX,hl,qM];obtain ⟨v,hv⟩:∃v,v=lkE es x.text:=⟨_,rfl⟩
 have ux:V.upd (.agg [.int .i64 0,.int .i64 0,.int .i64 0,.int .i64 0,.int .i64 0,.str ⟨⟨[]⟩⟩,.sl true []]) 0 7 v=some v:=by
  rw[hv];unfold lkE
  cases lkL es x.text with
  | none=>rfl
  | some y=>exact hn y
 rw[←hv];simp[stS,ux];obtain ⟨U2,hU2⟩:∃U2:St,U2=U1++[.arr [v] 7 1]:=⟨_,rfl⟩;have c0:U2[U.length]?=some (.arr [x.v] 7 1):=by rw[hU2];exact gp b0
 have c1:U2[U.length+1]?=some (.arr [.agg [.int .i64 0,.int .i64 0,.int .i64 0,.int .i64 0,.int .i64 0,.str ⟨⟨[]⟩⟩,.sl true []]] 7 1):=by rw[hU2];exact gp b1
 have c2:U2[U1.length]?=some (.arr [v] 7 1):=by rw[hU2,qpj (by omega)];simp
 have kp2:Kp F U U2:=by rw[hU2];exact kp1.push _
 have k2:Sbs es cb m cg ct h F D U2:=by rw[hU2];exact k1.fr (M:=fun _=>False) ((Kp.refl _ _).push _) fun _ h=>h.elim
 have s2:ScR p X U2 w ts:=by rw[hU2];exact s1.push _
 rw[←hU2];clear hU2;have l2:=kp2.len
 have same:∀e:Env,e.get 9=some (.ptr (U.length+1) 0 0 1)→jR [.cell 9 (some 7)] U.length (fun r U'=>r=x.v∧Sbs es cb m cg ct h F D U'∧Kp F U U') .ret e (U2.set (U.length+1) (.arr [x.v] 7 1)):=fun e he=>by
  have hw:(U2.set (U.length+1) (.arr [x.v] 7 1))[U.length+1]?=some (.arr [x.v] 7 1):=qpl (glt c1);refine qf (vs:=[x.v]) (by simp[rvs,he,ldS,hw]) ⟨rfl,?_,kp2.set _ (.inr (by omega))⟩;exact k2.fr (M:=fun l=>l=U.length+1) ((Kp.refl _ _).set _ (.inl rfl)) fun l hl _=>by rw[hl];exact ⟨nF 1,nD 1⟩
 cases hy:lkL es x.text with
 | none=>
  have e1:sbX (lkL es) (Scx ts) x=x:=by unfold sbX;rw[hy];cases (Scx ts).at x.text <;> rfl
  have e2:qe5 (lkL es) (Scx ts) tg x.text=false:=by unfold qe5 qlO;rw[hy];cases (Scx ts).at x.text <;> rfl
  rw[e1,e2,qqT];simp[ldS,c0,stS,c1,qi];refine same _ ?_;simp
 | some y=>
  have hE:v=y.v:=by rw[hv];unfold lkE;rw[hy]
  subst hE;simp[ldS,c0];refine qg (JU s2 x.text) ?_;have hf:=Jf ts x.text
  cases hfd:fnd ts x.text with
  | some q=>
   have hs:(Scx ts).at x.text=some q.1:=by rw[hf,hfd];rfl
   have e1:sbX (lkL es) (Scx ts) x=x:=by unfold sbX;rw[hs]
   have e2:qe5 (lkL es) (Scx ts) tg x.text=false:=by unfold qe5;rw[hs]
   rw[e1,e2,qqT];simp[YD,hfd,yl,eqV,ldS,c0,stS,c1,qi];refine same _ ?_;simp
  | none=>
   have hs:(Scx ts).at x.text=none:=by rw[hf,hfd];rfl
   have e1:sbX (lkL es) (Scx ts) x=y:=by unfold sbX;rw[hs,hy];rfl
   have e2:qe5 (lkL es) (Scx ts) tg x.text=(tg && decide (y.kind≠6) && decide (y.kind≠7)):=by unfold qe5 qlO;rw[hs,hy]
   rw[e1,e2];have g2:=k2.g;have lg:=glt k.g;have d1:∀b',(U2.set cg (.arr [.bool b'] 1 1))[U.length+1]?=some (.arr [.agg [.int .i64 0,.int .i64 0,.int .i64 0,.int .i64 0,.int .i64 0,.str ⟨⟨[]⟩⟩,.sl true []]] 7 1):=fun b'=>by rw[qpm (by omega)];exact c1
   have d2:∀b',(U2.set cg (.arr [.bool b'] 1 1))[U1.length]?=some (.arr [y.v] 7 1):=fun b'=>by rw[qpm (by omega)];exact c2
   have fin:∀(b':Bool) (U4:St),Kp (fun _=>False) (U2.set cg (.arr [.bool b'] 1 1)) U4→U4[U.length+1]?=some (.arr [.agg [.int .i64 0,.int .i64 0,.int .i64 0,.int .i64 0,.int .i64 0,.str ⟨⟨[]⟩⟩,.sl true []]] 7 1)∧∀e:Env,e.get 9=some (.ptr (U.length+1) 0 0 1)→
     jR [.cell 9 (some 7)] U.length (fun r U'=>r=y.v∧Sbs es cb m cg ct b' F D U'∧Kp F U U') .ret e (U4.set (U.length+1) (.arr [y.v] 7 1)):=fun b' U4 kp4=>by
    have k3:=k2.put b';have kp3:Kp F U (U2.set cg (.arr [.bool b'] 1 1)):=kp2.set _ (.inl ((k.hF cg).2 rfl));have e1:=kp4.at (d1 b') id;refine ⟨e1,fun e he=>?_⟩;have hw:(U4.set (U.length+1) (.arr [y.v] 7 1))[U.length+1]?=some (.arr [y.v] 7 1):=qpl (glt e1);refine qf (vs:=[y.v]) (by simp[rvs,he,ldS,hw]) ⟨rfl,?_,(kp3.trans (kp4.mono fun _ _ h=>h.elim)).set _ (.inr (by omega))⟩;exact k3.fr (M:=fun l=>l=U.length+1) ((kp4.mono fun _ _ h=>h.elim).set _ (.inl rfl)) fun l hl _=>by rw[hl];exact ⟨nF 1,nD 1⟩
   cases h with
   | true=>
    simp only[Bool.true_or];simp[YD,hfd,yl,eqV,ldS,g2,stS,zu,d2];refine qj (qcR y (hz _ _ hy) _) ?_;rintro r U4 ⟨rfl,kp4⟩;obtain ⟨f1,f2⟩:=fin _ U4 kp4;simp[stS,f1,hn];exact f2 _ (by simp)
   | false=>
    simp only[Bool.false_or]
    cases tg with
    | false=>
     simp only[Bool.false_and];simp[YD,hfd,yl,eqV,ldS,g2,stS,zu,d2];refine qj (qcR y (hz _ _ hy) _) ?_;rintro r U4 ⟨rfl,kp4⟩;obtain ⟨f1,f2⟩:=fin _ U4 kp4;simp[stS,f1,hn];exact f2 _ (by simp)
    | true=>
     simp only[qq8];by_cases y6:y.kind=6
     ·simp[YD,hfd,yl,eqV,ldS,g2,c2,y6,stS,zu,d2];refine qj (qcR y (hz _ _ hy) _) ?_;rintro r U4 ⟨rfl,kp4⟩;obtain ⟨f1,f2⟩:=fin _ U4 kp4;simp[stS,f1,hn];exact f2 _ (by simp)
     ·simp[YD,hfd,yl,eqV,ldS,g2,c2,y6,stS,zu,d2];refine qj (qcR y (hz _ _ hy) _) ?_;rintro r U4 ⟨rfl,kp4⟩;obtain ⟨f1,f2⟩:=fin _ U4 kp4;simp[stS,f1,hn];exact f2 _ (by simp)
end
def sbC(es:List Ae)(cb m cg ct:Nat):Cb where
 toPw:=sbP (lkL es)
 fe:=.nilfn
 fn:=.fn (.func 149) [] [.ptr ct 0 0 1,.ptr cb 0 0 1,.ptr cg 0 0 1]
 fc:=.fn (.func 148) [] [.ptr cb 0 0 1,.ptr cg 0 0 1]
 I h F D U:=Sbs es cb m cg ct h F D U
 cn _ _:=True
 lim:=100001
theorem qmQ(es:List Ae)(cb m cg ct:Nat)(hz:∀x y,lkL es x=some y→(Pa.ex y).size≤4000):(sbC es cb m cg ct).Ok where
 lim:=qpo _
 lt:=fun k l hl=>Sbs.lt k hl
 fr:=fun k hk hM=>Sbs.fr k hk hM
 lp:=fun {h F D S} k l o ho=>by
  have k:Sbs es cb m cg ct h F D S:=k;refine ⟨fun hf=>?_,fun hf=>?_⟩
  ·rw[(k.hF l).1 hf,k.g] at ho;cases ho
  ·rcases (k.hD l).1 hf with rfl|rfl|rfl
   ·rw[k.b] at ho;cases ho
   ·obtain ⟨_,_,hm⟩:=k.mm;rw[hm] at ho;cases ho
   ·rw[k.t] at ho;cases ho
 ce _ _:=trivial
 cm _ _ _ _:=trivial
 cc _ _ _:=trivial
 real:=fun {h F D S} k h'=>by
  have k:Sbs es cb m cg ct h F D S:=k;exact ⟨F,D,_,k.put h',(Kp.refl _ _).set _ (.inl ((k.hF cg).2 rfl)),grow.refl _ _,grow.refl _ _⟩
 en:=.inl ⟨rfl,fun _ _=>rfl,fun _ _ _=>rfl⟩
 nm:=⟨149,[.ptr ct 0 0 1,.ptr cb 0 0 1,.ptr cg 0 0 1],rfl,fun U x w ts tg w' h F D hsc k=>qt.mono (qiU hz k hsc x tg) fun r U' ⟨a,b,c⟩=>⟨a,F,D,b,c,grow.refl _ _,grow.refl _ _⟩⟩
 cl:=⟨148,[.ptr cb 0 0 1,.ptr cg 0 0 1],rfl,fun U x w ts w' h F D hsc k=>qt.mono (qf6 k hsc x) fun r U' ⟨a,b,c⟩=>⟨a,F,D,b,c,grow.refl _ _,grow.refl _ _⟩⟩
def qoW(es:List Ae)(m:Nat)(S:St)(r:V)(U:St):Prop:=∃w cb cg ct F D,r=.tup [.ptr w 0 0 1,.ptr cg 0 0 1]∧Wk (sbC es cb m cg ct) w 0 false F D U∧S.length≤w∧S.length≤cg∧(∀l,F l↔l=cg)∧Kp (fun _=>False) S U
theorem qm4(es:List Ae)(m:Nat)(bs:List Nat)(ck:Nat)(S:St)(hm:S[m]?=some (.map (es.map aeT) bs ck)):
  qt prog 96 [.map m] S (qoW es m S):=by
 refine qt.ib func96 ok96 ?_;simp[c96,qM,ldS,stS,qY,qF,evX,zu,Yf,qi,zQ];obtain ⟨B,hB⟩:∃B,B=S.length:=⟨_,rfl⟩;rw[←hB];obtain ⟨U,hU⟩:∃U:St,U=S++[.arr [.map m] 1 1,.arr [.bool false] 1 1,.arr [.fn (.func 148) [] [.ptr B 0 0 1,.ptr (B+1) 0 0 1]] 1 1,.arr [.agg [.int .i64 0,.nilfn,.fn (.func 149) [] [.ptr (B+2) 0 0 1,.ptr B 0 0 1,.ptr (B+1) 0 0 1],.fn (.func 148) [] [.ptr B 0 0 1,.ptr (B+1) 0 0 1]]] 4 1]:=⟨_,rfl⟩;rw[←hU];have b0:U[B]?=some (.arr [.map m] 1 1):=by rw[hU,hB];simp
 have b1:U[B+1]?=some (.arr [.bool false] 1 1):=by rw[hU,hB,qpj (by omega)];simp
 have b2:U[B+2]?=some (.arr [.fn (.func 148) [] [.ptr B 0 0 1,.ptr (B+1) 0 0 1]] 1 1):=by rw[hU,hB,qpj (by omega)];simp
 have b3:U[B+3]?=some (.arr [.agg [.int .i64 0,.nilfn,.fn (.func 149) [] [.ptr (B+2) 0 0 1,.ptr B 0 0 1,.ptr (B+1) 0 0 1],.fn (.func 148) [] [.ptr B 0 0 1,.ptr (B+1) 0 0 1]]] 4 1):=by rw[hU,hB,qpj (by omega)];simp
 have bm:U[m]?=some (.map (es.map aeT) bs ck):=by rw[hU,qpk (glt hm)];exact hm
 have kS:Kp (fun _=>False) S U:=by rw[hU];exact (Kp.refl _ _).push _
 have lm:=glt hm;refine qf (vs:=[.ptr (B+3) 0 0 1,.ptr (B+1) 0 0 1]) (by simp[rvs]) ?_;refine ⟨B+3,B,B+1,B+2,(fun l=>l=B+1),(fun l=>l=B∨l=m∨l=B+2),rfl,?_,by omega,by omega,fun _=>Iff.rfl,kS⟩;have k:Sbs es B m (B+1) (B+2) false (fun l=>l=B+1) (fun l=>l=B∨l=m∨l=B+2) U:=⟨b0,⟨bs,ck,bm⟩,b1,b2,fun _=>Iff.rfl,fun _=>Iff.rfl⟩;exact ⟨b3,k,by omega,by omega,trivial⟩
def qgH:List Ex→Int
 | []=>0
 | x::l=>if (Pa.ex x).err qb≠0 then (Pa.ex x).err qb else qgH l
def prE(l:List Bz)(xs:List Ex):Int:=if l.length≠xs.length∨(Jn l fun s=>!qb s)=true then 1 else if ¬ l.Nodup then 6 else qgH xs
def qn8(l:List Bz)(xs:List Ex)(S:St)(r:V)(U:St):Prop:=Kp (fun _=>False) S U∧((prE l xs≠0∧r=.tup [.nilmap,.int .i64 (prE l xs)])∨(prE l xs=0∧∃m bs ck,S.length≤m∧r=.tup [.map m,.int .i64 0]∧(ZB bs ck∧bs.length=(l.zip xs).length)∧U[m]?=some (.map ((l.zip xs).map aeT) bs ck)))
theorem qj8(x:Bz)(S:St):Fn prog 139 [.str x] S (.bool (!qb x)):=by
 refine qt.ib func139 ok139 ?_;simp[c139];refine qg (jf x S) ?_;simp;exact qf rfl ⟨rfl,rfl⟩
theorem kn{x:Bz}:∀{es:List Ae},lkL es x=none↔x∉es.map (·.1)
 | []=>by simp[lkL]
 | e::es=>by
  simp only[lkL,qpv,qpJ,not_or];by_cases h:e.1=x
  ·rw[if_pos h];simp[h.symm]
  ·rw[if_neg h,kn (es:=es)];exact ⟨fun g=>⟨fun hh=>h hh.symm,g⟩,fun g=>g.2⟩
theorem qnj{S:St}{m:Nat}{t:List Ae}{bs:List Nat}{ck:Nat}(x:Bz)(y:Ex)(h:S[m]?=some (.map (t.map aeT) bs ck))(hx:lkL t x=none):
  qap S .str (.map m) (.str x) y.v=some (S.set m (.map ((t++[(x,y)]).map aeT) (bs++[ck]) (ck+1))):=by
 obtain ⟨j,hj⟩:=YC x t 0;unfold qap;rw[if_pos (by rfl)];simp only[h,hj,hx,qpH];rfl
theorem qmL(b b':Bool)(l:List Bz)(xs:List Ex)(hl:l.length≤1000)(hx:xs.length≤1000)(ox:∀x,x∈xs→x.ok)(S:St):
  qt prog 87 [.sl b (l.map .str),.sl b' (xs.map Ex.v)] S (qn8 l xs S):=by
 refine qt.ib func87 ok87 ?_;have bad:∀(e:Int) (U:St) (ev:Env),prE l xs=e→e≠0→Kp (fun _=>False) S U→ev.get 4=some .nilmap→ev.get 5=some (.int .i64 e)→jR [.t 4,.t 5] S.length (qn8 l xs S) .ret ev U:=fun e U ev he h0 hk g4 g5=>
  qf (vs:=[.nilmap,.int .i64 e]) (by simp[rvs,g4,g5]) ⟨hk,.inl ⟨by rw[he];exact h0,by rw[he];rfl⟩⟩
 have hpr:prE l xs=if l.length≠xs.length∨(Jn l fun s=>!qb s)=true then 1 else if ¬ l.Nodup then 6 else qgH xs:=rfl
 simp only[c87,C'.k];refine zc (fun e U=>U=S∧e.get 0=some (.sl b (l.map .str))∧e.get 1=some (.sl b' (xs.map Ex.v))) (by simp[yB]) ?_;rintro e U ⟨rfl,g0,g1⟩;refine zc (fun e U'=>Kp (fun _=>False) U U'∧(l.length=xs.length∧(Jn l fun s=>!qb s)=false)∧e.get 0=some (.sl b (l.map .str))∧e.get 1=some (.sl b' (xs.map Ex.v))) ?_ ?_
 ·simp[g0,g1];by_cases hn:l.length=xs.length
  ·simp[hn,g0];refine qj (qfF b l (by unfold B50;omega) 139 [] (fun s=>!qb s) U fun x _ V _=>qt.mono (qj8 x V) fun v V' ⟨a,c⟩=>⟨a,by rw[c];exact Kp.refl _ _⟩) ?_;rintro v U2 ⟨rfl,hk⟩
   cases hq:Jn l fun s=>!qb s with
   | true=>
    rw[if_pos (.inr hq)] at hpr;simp;refine bad 1 _ _ hpr (by decide) hk ?_ ?_ <;> simp
   | false=>
    simp;exact ⟨hk,by simp[g0],by simp[g1]⟩
  ·rw[if_pos (.inl hn)] at hpr;have hn':¬ (l.length:Int)=xs.length:=by omega
   simp[hn'];refine bad 1 _ _ hpr (by decide) (Kp.refl _ _) ?_ ?_ <;> simp
 clear g0 g1 e;rintro e U' ⟨hk,⟨hn,hq⟩,g0,g1⟩;rw[if_neg (by rw[hq];simp[hn])] at hpr;refine zc (fun e U2=>Kp (fun _=>False) U U2∧(∃m,U.length≤m∧e.get 6=some (.map m)∧U2[m]?=some (.map [] [] 0))∧e.get 0=some (.sl b (l.map .str))∧e.get 1=some (.sl b' (xs.map Ex.v))) ?_ ?_
 ·simp[evX,g0,g1];exact ⟨hk.push _,_,hk.len,rfl,by simp⟩
 clear g0 g1 e;rintro e U2 ⟨hk2,⟨m,hm,g6,bm⟩,g0,g1⟩;refine zc (fun e U3=>Kp (fun _=>False) U U3∧l.Nodup∧(∃bs ck,(ZB bs ck∧bs.length=(l.zip xs).length)∧U3[m]?=some (.map ((l.zip xs).map aeT) bs ck))∧e.get 6=some (.map m)∧e.get 1=some (.sl b' (xs.map Ex.v))) ?_ ?_
 ·simp[g0];refine qO (fun e U3=>Kp (fun _=>False) U U3∧l.Nodup∧(∃bs ck,(ZB bs ck∧bs.length=(l.zip xs).length)∧U3[m]?=some (.map ((l.zip xs).map aeT) bs ck))∧e.get 6=some (.map m)∧e.get 1=some (.sl b' (xs.map Ex.v))) ?_ ?_
  ·refine qw (fun j e X=>∃i:Nat,j=l.length - i∧i≤l.length∧(l.take i).Nodup∧Kp (fun _=>False) U X∧(∃bs ck,(ZB bs ck∧bs.length=i)∧X[m]?=some (.map (((l.zip xs).take i).map aeT) bs ck))∧
    e=[(26,.int .i64 i),(25,.int .i64 l.length),(24,.sl b (l.map .str)),(6,.map m),(1,.sl b' (xs.map Ex.v))]) l.length _ ?_ ⟨0,by simp,by omega,by simp,hk2,⟨[],0,⟨ZB.nil,rfl⟩,by simpa using bm⟩,rfl⟩ ?_
   ·repeat' first|exact Env.sub_nil _|refine Env.sub_cons (by simp[g0,g1,g6]) ?_
   clear g0 g1 g6 e;rintro j e X ⟨i,rfl,hi,nd,kX,⟨bs,ck,hst,mX⟩,rfl⟩;by_cases h:i<l.length
   ·have hlk:=qgc (es:=(l.zip xs).take i) (bs:=bs) (ck:=ck) l[i] mX;have hi2:i<xs.length:=by omega
    have hzip:((l.zip xs).take i).map (·.1)=l.take i:=by
     rw[List.map_take,List.map_fst_zip (by omega)]
    cases hy:lkL ((l.zip xs).take i) l[i] with
    | some y=>
     rw[hy] at hlk
     have hdup:¬ l.Nodup:=fun hd=>by
      have h1:¬ lkL ((l.zip xs).take i) l[i]=none:=by rw[hy];simp
      rw[kn,hzip,Classical.not_not] at h1;have h2:=List.nodup_append.1 ((qqy i l).symm ▸ hd);exact h2.2.2 _ h1 _ (qpp (i:=0) (by rw[qpU];simp[h])) rfl
     rw[if_pos hdup] at hpr;have hE:lkE ((l.zip xs).take i) l[i]=y.v:=by unfold lkE;rw[hy]
     rw[hE] at hlk;have hn:V.upd (.agg [.int .i64 0,.int .i64 0,.int .i64 0,.int .i64 0,.int .i64 0,.str ⟨⟨[]⟩⟩,.sl true []]) 0 7 y.v=some y.v:=by rw[qi];simp
     simp[h,Zx,evX,hlk,qM,stS,hn];refine bad 6 _ _ hpr (by decide) (kX.push _) ?_ ?_ <;> simp
    | none=>
     rw[hy] at hlk;have hE:lkE ((l.zip xs).take i) l[i]=zeX:=by unfold lkE;rw[hy]
     rw[hE] at hlk;unfold zeX at hlk;have hn:V.upd (.agg [.int .i64 0,.int .i64 0,.int .i64 0,.int .i64 0,.int .i64 0,.str ⟨⟨[]⟩⟩,.sl true []]) 0 7 (.agg [.int .i64 0,.int .i64 0,.int .i64 0,.int .i64 0,.int .i64 0,.str ⟨⟨[]⟩⟩,.sl true []])=some (.agg [.int .i64 0,.int .i64 0,.int .i64 0,.int .i64 0,.int .i64 0,.str ⟨⟨[]⟩⟩,.sl true []]):=rfl;have mX2:(X++[.arr [.agg [.int .i64 0,.int .i64 0,.int .i64 0,.int .i64 0,.int .i64 0,.str ⟨⟨[]⟩⟩,.sl true []]] 7 1])[m]?=some (.map (((l.zip xs).take i).map aeT) bs ck):=gp mX;have hmu:=qnj l[i] xs[i] mX2 hy;simp[h,Zx,evX,hlk,qM,stS,hn,qks hi2,ldS,hmu];have kX2:Kp (fun _=>False) U ((X++[Ob.arr [.agg [.int .i64 0,.int .i64 0,.int .i64 0,.int .i64 0,.int .i64 0,.str ⟨⟨[]⟩⟩,.sl true []]] 7 1]).set m (.map (((l.zip xs).take i++[(l[i],xs[i])]).map aeT) (bs++[ck]) (ck+1))):=(kX.push _).set _ (.inr hm)
     have htk:(l.zip xs).take (i+1)=(l.zip xs).take i++[(l[i],xs[i])]:=by
      rw[qpI,qpn (by simp;omega)];simp
     refine ⟨_,?_,_,?_,i+1,rfl,by omega,?_,by simpa[List.map_take] using kX2,⟨bs++[ck],ck+1,⟨hst.1.snoc,by simp[hst.2]⟩,?_⟩,rfl⟩
     ·omega
     ·rw[qz (by omega) (by omega)];exact Env.so (by simp)
     ·rw[qpI,qpn h,qqd];rw[kn,hzip] at hy;refine List.nodup_append.2 ⟨nd,by simp,fun a ha c hc hh=>hy ?_⟩;simp at hc;rw[←hc,←hh];exact ha
     ·rw[qpl (glt mX2),←List.map_take,←List.map_take,htk,qpH];rfl
   ·have hil:i=l.length:=by omega
    rw[qp8 (by omega)] at nd;rw[qp8 (by rw[List.length_zip];omega)] at mX;simp[h];exact ⟨kX,nd,bs,ck,⟨hst.1,by rw[hst.2];omega⟩,mX⟩
  ·rintro e X ⟨a,b,c,d,e⟩;exact ⟨a,b,by simpa using c,d,e⟩
 clear g0 g1 g6 e;rintro e U3 ⟨hk3,nd,⟨bs,ck,hst,m3⟩,g6,g1⟩;rw[if_neg (by simpa using nd)] at hpr;refine zc (fun e U4=>Kp (fun _=>False) U3 U4∧qgH xs=0∧e.get 6=some (.map m)) ?_ ?_
 ·simp[g1];refine qO (fun e U4=>Kp (fun _=>False) U3 U4∧qgH xs=0∧e.get 6=some (.map m)) ?_ ?_
  ·refine qw (fun j e X=>∃i:Nat,j=xs.length - i∧i≤xs.length∧qgH xs=qgH (xs.drop i)∧Kp (fun _=>False) U3 X∧
    e=[(47,.int .i64 i),(46,.int .i64 xs.length),(45,.sl b' (xs.map Ex.v)),(6,.map m)]) xs.length _ ?_ ⟨0,by simp,by omega,by simp,Kp.refl _ _,rfl⟩ ?_
   ·repeat' first|exact Env.sub_nil _|refine Env.sub_cons (by simp[g1,g6]) ?_
   clear g1 g6 e;rintro j e X ⟨i,rfl,hi,hei,kX,rfl⟩;by_cases h:i<xs.length
   ·have hn:V.upd (.agg [.int .i64 0,.int .i64 0,.int .i64 0,.int .i64 0,.int .i64 0,.str ⟨⟨[]⟩⟩,.sl true []]) 0 7 xs[i].v=some xs[i].v:=by rw[qi];simp
    simp[h,qks h,ldS,qM,stS,hn];refine qg (qih xs[i] (ox _ (qpz h)) _) ?_;rw[qqQ h,qgH] at hei;by_cases he:(Pa.ex xs[i]).err qb=0
    ·rw[if_neg (by simpa using he)] at hei;simp[he];refine ⟨_,?_,_,?_,i+1,rfl,by omega,hei,kX.push _,rfl⟩
     ·omega
     ·rw[qz (by omega) (by omega)];exact Env.so (by simp)
    ·rw[if_pos he] at hei;simp[he];refine bad _ _ _ (hpr.trans hei) he (hk3.trans (kX.push _)) ?_ ?_ <;> simp
   ·rw[List.drop_of_length_le (by omega)] at hei;simp[h];exact ⟨kX,hei⟩
  ·rintro e X ⟨a,b,c⟩;simp[a,b,c]
 clear g1 g6 e;rintro e U4 ⟨hk4,he,g6⟩;simp[g6];refine qf (vs:=[.map m,.int .i64 0]) (by simp[rvs]) ⟨hk3.trans hk4,.inr ⟨hpr.trans he,m,bs,ck,hm,rfl,hst,?_⟩⟩;exact hk4.at m3 id
end Go.Proofs.YtbifpocccfkhhaaGreatDoor

namespace Go.Proofs.YtbifpocccfkhhaaGreatDoor
open Go
def Rd(v:V)(l:List Bz)(S:St):Prop:=lenS v=some (.int .i64 l.length)∧∀(i:Nat) (h:i<l.length),∃p,iaS S 1 v i=some p∧ldS S p none=some (.str l[i])
theorem Rd.sl(b:Bool)(l:List Bz)(S:St):Rd (.sl b (l.map .str)) l S:=⟨by simp[lenS],fun i h=>⟨_,Zx h b S,by simp[ldS]⟩⟩
theorem Rd.arr{lo wr:Nat}{l:List Bz}{S:St}(h:S[lo]?=some (.arr (l.map .str) 1 wr))(hw:wr≤l.length):Rd (.arr lo 0 l.length l.length) l S:=
 ⟨rfl,fun i hi=>⟨.ptr lo i 0 l.length,by simp[iaS,h,hw,hi],by simp[ldS,h,hw,hi]⟩⟩
open Go.Proofs.Tryz
theorem ZF(s:Bz)(taken:List Bz)(ht:taken.length≤899):∃n,1≤n∧n≤999∧jL s n∉taken∧∀i,1≤i→i<n→jL s i∈taken:=by
 have h1:¬ ∀i,i<900→jL s (100+i)∈taken:=fun h=>by
  have:=qf0 taken 900 (fun i=>jL s (100+i)) (fun i j hi hj he=>qgT hi hj he) h;omega
 have h2:∃n,1≤n∧n≤999∧jL s n∉taken:=by
  apply Classical.byContradiction;intro hn;exact h1 fun i hi=>Classical.byContradiction fun hc=>hn ⟨100+i,by omega,by omega,hc⟩
 obtain ⟨n,h1,h2,h3⟩:=h2
 induction n using Nat.strongRecOn with
 | ind n ih=>
  by_cases hm:∃m,1≤m∧m<n∧jL s m∉taken
  ·obtain ⟨m,a,b,c⟩:=hm;exact ih m b a (by omega) c
  ·exact ⟨n,h1,h2,h3,fun i hi hl=>Classical.byContradiction fun hc=>hm ⟨i,hi,hl,hc⟩⟩
theorem zd.exists(s:Bz)(taken:List Bz)(ht:taken.length≤899):∃t,zd s taken t:=by
 by_cases hs:s∈taken
 ·obtain ⟨n,h1,_,h2,h3⟩:=ZF s taken ht;exact ⟨_,.inr ⟨hs,n,h1,rfl,h2,h3⟩⟩
 ·exact ⟨s,.inl ⟨hs,rfl⟩⟩
theorem qkX(s:Bz)(g:Nat)(cs:List V)(p:Bz→Bool)(taken:List Bz)(S:St)(hp:∀x,Fn prog g ([.str x]++cs) S (.bool (p x)))(hk:∀x,p x=true↔x∈taken)(hs:s.size≤16)(ht:taken.length≤899):
  qt prog 77 [.str s,.fn (.func g) [] cs] S (fun v U=>(∃t,v=.str t∧zd s taken t)∧U=S):=by
 have nk:∀x,p x=false→x∉taken:=fun x h hh=>by
  rw[(hk x).2 hh] at h;cases h
 refine qt.ib func77 ok77 ?_;simp[c77];refine qg (hp s) ?_
 cases hi:p s with
 | false=>
  simp;exact qf rfl ⟨⟨s,rfl,.inl ⟨nk s hi,rfl⟩⟩,rfl⟩
 | true=>
  obtain ⟨N,hN1,hN2,hN3,hN4⟩:=ZF s taken ht;simp;refine qw (fun k e S'=>∃m:Nat,k=N - m∧1≤m∧m≤N∧S'=S∧e=[(5,.int .i64 m),(4,.str ⟨⟨[]⟩⟩),(0,.str s),(1,.fn (.func g) [] cs)]) (N - 1) _ ?_ ⟨1,rfl,by omega,hN1,rfl,rfl⟩ ?_
  ·exact Env.so (by simp)
  rintro k e S' ⟨m,rfl,hm1,hm2,rfl,rfl⟩;simp;refine qg (qes m (by omega) S') ?_;have hd:=qiA m (by omega);simp[evX,mmV,QW];rw[qm3,qo6 _ _ hd,qnm (by omega)];simp;rw[qgR (by rw[qm3];simp;omega),qkA];simp;refine qg (hp (jL s m)) ?_
  cases hc:p (jL s m) with
  | false=>
   simp;exact qf rfl ⟨⟨jL s m,rfl,.inr ⟨(hk _).1 hi,m,hm1,rfl,nk _ hc,fun i h1 h2=>hN4 i h1 (by omega)⟩⟩,rfl⟩
  | true=>
   have hmN:m≠N:=fun hh=>hN3 (by rw[←hh];exact (hk _).1 hc)
   simp;refine ⟨_,?_,_,?_,m+1,rfl,by omega,by omega,rfl⟩
   ·omega
   ·rw[qz (by omega) (by omega)];exact Env.so (by simp)
end Go.Proofs.YtbifpocccfkhhaaGreatDoor
namespace Go.Proofs
open Go.Shelf
def Tryz.keys137_ren:Go.Shelf.Ren:=⟨fun|7=>137|10=>172|n=>n,fun|23=>89|26=>9|3=>4|28=>168|0=>0|27=>167|33=>35|4=>4|n=>n,fun|n=>n⟩
theorem Tryz.keys137:Go.Proofs.SlLaysZ.n7 Tryz.prog Tryz.keys137_ren:={
 mixed:=by kernel_rfl
 f7:=⟨Tryz.f137.name,by decide,Tryz.func137.trans (congrArg some (by kernel_rfl))⟩
 f10:=⟨Tryz.f172.name,by decide,Tryz.func172.trans (congrArg some (by kernel_rfl))⟩
 t0:=Tryz.underlying0
 a0:=Tryz.isAgg0
 z0:=Tryz.sizeOf0
 v0:=Tryz.zeroValue0
 t4:=Tryz.underlying4
 a4:=Tryz.isAgg4
 z4:=Tryz.sizeOf4
 v4:=Tryz.zeroValue4
 t23:=Tryz.underlying89
 a23:=Tryz.isAgg89
 z23:=Tryz.sizeOf89
 v23:=Tryz.zeroValue89
 t26:=Tryz.underlying9
 a26:=Tryz.isAgg9
 z26:=Tryz.sizeOf9
 v26:=Tryz.zeroValue9
 t27:=Tryz.underlying167
 a27:=Tryz.isAgg167
 z27:=Tryz.sizeOf167
 v27:=Tryz.zeroValue167
 t28:=Tryz.underlying168
 a28:=Tryz.isAgg168
 z28:=Tryz.sizeOf168
 v28:=Tryz.zeroValue168
 t33:=Tryz.underlying35
 a33:=Tryz.isAgg35
 z33:=Tryz.sizeOf35
 v33:=Tryz.zeroValue35 }
def Tryz.sorted136_ren:Go.Shelf.Ren:=⟨fun|6=>136|8=>170|9=>171|11=>197|13=>199|12=>198|23=>247|24=>248|14=>238|15=>239|16=>240|17=>241|18=>242|19=>243|20=>244|21=>245|22=>246|25=>263|26=>264|27=>265|28=>266|29=>267|30=>268|31=>276|n=>n,fun|26=>9|28=>168|24=>22|0=>0|3=>3|37=>213|48=>254|50=>239|4=>4|40=>246|39=>245|45=>251|5=>5|9=>9|51=>266|55=>270|57=>286|58=>219|33=>35|n=>n,fun|n=>n⟩
theorem Tryz.sorted136:Go.Proofs.SlLaysZ.n6 Tryz.prog Tryz.sorted136_ren:={
 mixed:=by kernel_rfl
 f6:=⟨Tryz.f136.name,by decide,Tryz.func136.trans (congrArg some (by kernel_rfl))⟩
 f8:=⟨Tryz.f170.name,by decide,Tryz.func170.trans (congrArg some (by kernel_rfl))⟩
 f11:=⟨Tryz.f197.name,by decide,Tryz.func197.trans (congrArg some (by kernel_rfl))⟩
 t0:=Tryz.underlying0
 a0:=Tryz.isAgg0
 z0:=Tryz.sizeOf0
 v0:=Tryz.zeroValue0
 t24:=Tryz.underlying22
 a24:=Tryz.isAgg22
 z24:=Tryz.sizeOf22
 v24:=Tryz.zeroValue22
 t26:=Tryz.underlying9
 a26:=Tryz.isAgg9
 z26:=Tryz.sizeOf9
 v26:=Tryz.zeroValue9
 t28:=Tryz.underlying168
 a28:=Tryz.isAgg168
 z28:=Tryz.sizeOf168
 v28:=Tryz.zeroValue168
 i26:=by kernel_rfl }
def Tryz.sort171_ren:Go.Shelf.Ren:=⟨fun|6=>171|8=>199|9=>198|19=>247|20=>248|21=>238|22=>239|23=>240|24=>241|25=>242|26=>243|27=>244|28=>245|29=>246|36=>263|31=>264|32=>265|37=>266|38=>267|39=>268|41=>276|n=>n,fun|27=>22|29=>9|3=>3|32=>213|26=>22|0=>0|44=>254|46=>239|4=>4|36=>246|35=>245|41=>251|5=>5|9=>9|53=>266|57=>270|63=>286|64=>219|n=>n,fun|n=>n⟩
theorem Tryz.sort171:Go.Proofs.SlLaysM.n6 Tryz.prog Tryz.sort171_ren:={
 mixed:=by kernel_rfl
 f6:=⟨Tryz.f171.name,by decide,Tryz.func171.trans (congrArg some (by kernel_rfl))⟩
 f8:=Tryz.func199.trans (congrArg some (by kernel_rfl))
 f9:=⟨Tryz.f198.name,by decide,Tryz.func198.trans (congrArg some (by kernel_rfl))⟩
 f19:=Tryz.func247.trans (congrArg some (by kernel_rfl))
 f20:=Tryz.func248.trans (congrArg some (by kernel_rfl))
 f21:=⟨Tryz.f238.name,by decide,Tryz.func238.trans (congrArg some (by kernel_rfl))⟩
 f22:=⟨Tryz.f239.name,by decide,Tryz.func239.trans (congrArg some (by kernel_rfl))⟩
 f23:=⟨Tryz.f240.name,by decide,Tryz.func240.trans (congrArg some (by kernel_rfl))⟩
 f24:=⟨Tryz.f241.name,by decide,Tryz.func241.trans (congrArg some (by kernel_rfl))⟩
 f25:=⟨Tryz.f242.name,by decide,Tryz.func242.trans (congrArg some (by kernel_rfl))⟩
 f26:=⟨Tryz.f243.name,by decide,Tryz.func243.trans (congrArg some (by kernel_rfl))⟩
 f27:=⟨Tryz.f244.name,by decide,Tryz.func244.trans (congrArg some (by kernel_rfl))⟩
 f28:=⟨Tryz.f245.name,by decide,Tryz.func245.trans (congrArg some (by kernel_rfl))⟩
 f29:=⟨Tryz.f246.name,by decide,Tryz.func246.trans (congrArg some (by kernel_rfl))⟩
 f31:=Tryz.func264.trans (congrArg some (by kernel_rfl))
 f32:=Tryz.func265.trans (congrArg some (by kernel_rfl))
 f36:=⟨Tryz.f263.name,by decide,Tryz.func263.trans (congrArg some (by kernel_rfl))⟩
 f37:=⟨Tryz.f266.name,by decide,Tryz.func266.trans (congrArg some (by kernel_rfl))⟩
 f38:=⟨Tryz.f267.name,by decide,Tryz.func267.trans (congrArg some (by kernel_rfl))⟩
 f39:=⟨Tryz.f268.name,by decide,Tryz.func268.trans (congrArg some (by kernel_rfl))⟩
 f41:=⟨Tryz.f276.name,by decide,Tryz.func276.trans (congrArg some (by kernel_rfl))⟩
 t0:=Tryz.underlying0
 a0:=Tryz.isAgg0
 z0:=Tryz.sizeOf0
 v0:=Tryz.zeroValue0
 t3:=Tryz.underlying3
 a3:=Tryz.isAgg3
 z3:=Tryz.sizeOf3
 v3:=Tryz.zeroValue3
 t4:=Tryz.underlying4
 a4:=Tryz.isAgg4
 z4:=Tryz.sizeOf4
 v4:=Tryz.zeroValue4
 t5:=Tryz.underlying5
 a5:=Tryz.isAgg5
 z5:=Tryz.sizeOf5
 v5:=Tryz.zeroValue5
 t9:=Tryz.underlying9
 a9:=Tryz.isAgg9
 z9:=Tryz.sizeOf9
 v9:=Tryz.zeroValue9
 t26:=Tryz.underlying22
 a26:=Tryz.isAgg22
 z26:=Tryz.sizeOf22
 v26:=Tryz.zeroValue22
 t27:=Tryz.underlying22
 a27:=Tryz.isAgg22
 z27:=Tryz.sizeOf22
 v27:=Tryz.zeroValue22
 t29:=Tryz.underlying9
 a29:=Tryz.isAgg9
 z29:=Tryz.sizeOf9
 v29:=Tryz.zeroValue9
 t32:=Tryz.underlying213
 a32:=Tryz.isAgg213
 z32:=Tryz.sizeOf213
 v32:=Tryz.zeroValue213
 t35:=Tryz.underlying245
 a35:=Tryz.isAgg245
 z35:=Tryz.sizeOf245
 v35:=Tryz.zeroValue245
 t36:=Tryz.underlying246
 a36:=Tryz.isAgg246
 z36:=Tryz.sizeOf246
 v36:=Tryz.zeroValue246
 t41:=Tryz.underlying251
 a41:=Tryz.isAgg251
 z41:=Tryz.sizeOf251
 v41:=Tryz.zeroValue251
 t44:=Tryz.underlying254
 a44:=Tryz.isAgg254
 z44:=Tryz.sizeOf254
 v44:=Tryz.zeroValue254
 t46:=Tryz.underlying239
 a46:=Tryz.isAgg239
 z46:=Tryz.sizeOf239
 v46:=Tryz.zeroValue239
 t53:=Tryz.underlying266
 a53:=Tryz.isAgg266
 z53:=Tryz.sizeOf266
 v53:=Tryz.zeroValue266
 t57:=Tryz.underlying270
 a57:=Tryz.isAgg270
 z57:=Tryz.sizeOf270
 v57:=Tryz.zeroValue270
 t63:=Tryz.underlying286
 a63:=Tryz.isAgg286
 z63:=Tryz.sizeOf286
 v63:=Tryz.zeroValue286
 t64:=Tryz.underlying219
 a64:=Tryz.isAgg219
 z64:=Tryz.sizeOf219
 v64:=Tryz.zeroValue219 }
end Go.Proofs
namespace Go.Proofs
open Go.RowKit Go.Maps Go.Sort Go.Shelf
theorem Tryz.sorts136(m:Nat):AnyZ.SortsIn Tryz.prog Tryz.sorted136_ren Fence.wide m:=
 ⟨fun blk off cap ss W hH hblk hsz=>callsIn_wide.2 (AnyM.slices_Sort_string Tryz.sort171 blk off cap ss W hH hblk hsz),
  fun p cap W=>callsIn_wide.2 (AnyM.slices_Sort_string_none Tryz.sort171 p cap W)⟩
theorem Tryz.maps_Keys_137(mb:Option Nat)(W:World):CallsIn Fence.wide 5 Tryz.prog 137 #[.map mb] W fun e w'=>e=.returned (.func (.func 172) #[] #[.pointer (some ⟨W.heap.size,0,none⟩)])∧w'=W.alloc (.cells #[.map mb] 89):=
 AnyZ.keys_in Tryz.keys137 Fence.wide 5 trivial rfl mb W
set_option maxHeartbeats 1000000 in
theorem Tryz.slices_Sorted_keys_136_137{H:Type}(b nn:Nat)(D0:DataW H)(R:Value→Option (DataW H×List MemPlace))(w:World)(hown:w.ownsMap Tryz.prog 9 R b nn D0)(hmax:Maps.size D0≤maxLen)(hbytes:Maps.size D0 * 16≤140737488355328):
  CallsIn Fence.wide 5 Tryz.prog 136 #[.func (.func 172) #[] #[.pointer (some ⟨w.heap.size,0,none⟩)]] (w.alloc (.cells #[.map (some b)] 89)) fun e w'=>∃(v:Value) (ss:List (List UInt8)),e=.returned v∧ss.Perm (strKeys D0)∧
   w'.ownsRow (w.alloc (.cells #[.map (some b)] 89)).heap.size 9 1 v ss.length ((ss.mergeSort (fun x y=>decide (x≤y))).map encStr)∧(v=.slice none 0 0↔ss=[])∧Below (w.alloc (.cells #[.map (some b)] 89)).heap.size (w.alloc (.cells #[.map (some b)] 89)) w':=by
 have hbl:=hown.lt;have hseq:SeqGives Fence.wide 2 Tryz.prog 172 #[.pointer (some ⟨w.heap.size,0,none⟩)] encStr (fun ss=>ss.Perm (strKeys D0)) (Maps.size D0) (w.alloc (.cells #[.map (some b)] 89)):=
  AnyZ.keys_gives (ρ:=Tryz.keys137_ren) { Tryz.keys137 with } Fence.wide _ trivial rfl (by omega) w.heap.size b nn D0 _ (by simp) (by simp) (by
   obtain ⟨es,clock,hb,Ft,hs,hD⟩:=hown;exact ⟨es,clock,(Below.heap_alloc _ _ b hbl).trans hb,Ft,hs,hD⟩)
 exact AnyZ.sorted_in Tryz.sorted136 Fence.wide 5 trivial trivial trivial trivial rfl (by omega) (Tryz.sorts136 _) (enters_of Tryz.func171 (by kernel_rfl) rfl) 172 #[.pointer (some ⟨w.heap.size,0,none⟩)] trivial (enters_of Tryz.func172 (by kernel_rfl) rfl) _ _ hmax hbytes _ hseq
set_option maxHeartbeats 1000000 in
theorem Tryz.sorted86{H:Type}(b nn:Nat)(D0:DataW H)(R:Value→Option (DataW H×List MemPlace))(w:World)(hown:w.ownsMap Tryz.prog 9 R b nn D0)(hmax:Maps.size D0≤maxLen)(hbytes:Maps.size D0 * 16≤140737488355328):
  Calls Tryz.prog 86 #[.map (some b)] w fun e w'=>∃(v:Value) (ss:List (List UInt8)),e=.returned v∧ss.Perm (strKeys D0)∧
   w'.ownsRow w.heap.size 9 1 v ss.length ((ss.mergeSort (fun x y=>decide (x≤y))).map encStr)∧(v=.slice none 0 0↔ss=[])∧Below w.heap.size w w':=by
 refine (callsIn_wide (n:=6)).1 ?_;have hfK:Fence.wide.fn 137:=trivial;have hfS:Fence.wide.fn 136:=trivial;refine callsIn_of_wp Tryz.func86 rfl trivial ?_ rfl;simp only[Tryz.ntmps86,List.size_toArray,List.length_cons,List.length_nil,Nat.reduceAdd,Nat.reduceSub,Array.replicate_succ,Array.replicate_zero,List.push_toArray,List.append_toArray,List.nil_append,List.cons_append];gi_wp2_with (first
  | (gi_at_call 137;refine (Tryz.maps_Keys_137 _ _).mono ?_;rintro e w' ⟨rfl,rfl⟩)
  | (gi_at_call 136;refine (Tryz.slices_Sorted_keys_136_137 b nn D0 R w hown hmax hbytes).mono ?_;rintro e w' ⟨v,ss,rfl,hS,hrow,hnil,hb⟩))
 go_ret;exact ⟨v,ss,rfl,hS,ownsRow_base_a hrow (by simp),hnil,((Below.refl _ w).alloc (Nat.le_refl _) _).trans (hb.mono (by simp))⟩
end Go.Proofs
namespace Go.Proofs.YtbifpocccfkhhaaGreatDoor
open Go Go.Proofs.Tryz
theorem SR.layAt{E:En}{S:St}{w w':World}(h:SR E S w)(hb:∀b,b<w.heap.size→w'.heap[b]?=w.heap[b]?)(hs:w.heap.size≤w'.heap.size)(ho:(w'.output,w'.os)=(w.output,w.os)){g:Nat}{cells:Array Value}{t:TypeId}(hg:w.heap.size≤g)(hc:w'.heap[g]?=some (.cells cells t (0,0))):
  SR (E.lay g cells) S w'∧Ext S.length E S w (E.lay g cells) S w':=by
 have hno:∀o,E.I g o=none:=fun o=>by
  cases hc:E.I g o with
  | none=>rfl
  | some c=>exact absurd (cell?_lt (h.I _ _ _ hc)) (by omega)
 have hle:E.le (E.lay g cells):=⟨fun b o c h1=>by
  by_cases h2:b=g
  ·subst h2;rw[hno] at h1;cases h1
  ·simp[En.lay,h2];exact h1,fun _ _ _ h=>h⟩
 refine ⟨⟨h.gl.old hle.1 (fun b _ _ _ hc _=>hb b (Za hc)),?_,?_,h.dom,?_,?_,h.inj⟩,⟨hs,hle.1,fun _ _ _ _ hx=>hx,fun _ _ hx=>hx,fun b hb=>.inl hb,?_,fun b h1 _=>hb b h1,ho⟩⟩
 ·intro b o c h1;by_cases hb':b=g
  ·subst hb';simp only[En.lay,if_true] at h1;unfold World.cell?;rw[hc];simpa using h1
  ·simp only[En.lay,hb',if_false] at h1;have:=h.I b o c h1;rw[cell?_heap (hb _ (cell?_lt this))];exact this
 ·intro l o hl;by_cases hd:o=.dead
  ·subst hd;trivial
  exact (h.obs l o hl).mono hle (fun _ _ hx=>hx) (fun st' x hx=>hb _ (h.lt _ ⟨l,st',x,⟨o,hl,hd⟩,hx,rfl⟩))
 ·intro b o h1;have h2:=h.lt b h1;simp only[En.lay];rw[if_neg (by omega)];exact h.apart b o h1
 ·intro b h1;have:=h.lt b h1;omega
 ·intro b o c h1;by_cases hb':b=g
  ·exact .inr (.inr (by omega))
  ·simp only[En.lay,hb',if_false] at h1;exact .inl h1
def ZU(ks:List Bz):List Bz:=((ks.map fun k=>k.data.toList).mergeSort fun x y=>decide (x≤y)).map fun l=>⟨l.toArray⟩
theorem yz(ks:List Bz):(ZU ks).length=ks.length:=by unfold ZU;simp
noncomputable abbrev qmY:Value→Option (DataW Unit×List MemPlace):=plainElem prog 4
theorem qiB(m:Nat)(ks:List Bz)(bs:List Nat)(ck:Nat)(S:St)(hm:S[m]?=some (.map (ks.map kv) bs ck))(hst:ZB bs ck)(nd:ks.Nodup)(hl:ks.length≤1000000)(hz:∀k,k∈ks→k.size≤maxLen):
  qt prog 86 [.map m] S (fun r U=>r=.sl false ((ZU ks).map .str)∧U=S):=by
 refine qt.of_calls func86 ok86 fun E w us hs hv=>?_
 obtain ⟨hlen,hv⟩:=hv
 obtain ⟨x,hu,hx⟩:∃x,us=#[.map (some x.b)]∧E.ρ m 0=some x:=by
  match us,hlen with
  | ⟨[u]⟩,_=>
   have:=hv 0 _ u rfl rfl
   cases this with
   | map h=>exact ⟨_,rfl,h⟩
 subst hu;obtain ⟨x',es,h1,h2,h3,h4,h5⟩:=hs.obs m _ hm;rw[hx] at h1;cases h1;have hes:es.size=ks.length:=by rw[←h3,qps]
 have ent:∀(i:Nat) (e:MapEntry),es[i]?=some e→∃k,ks[i]?=some k∧e.key=.string k∧e.val=.bool true:=fun i e he=>by
  have hi:i<ks.length:=by rw[←hes];exact (qpu.1 he).1
  obtain ⟨g1,g2⟩:=h5 i (.str ks[i]) (.bool true) e (by simp[kv,hi]) he;refine ⟨ks[i],qpn hi,?_,?_⟩
  ·generalize e.key=kk at g1;cases g1;rfl
  ·generalize e.val=kk at g2;cases g2;rfl
 have hkeys:es.toList.map (·.key)=ks.map Value.string:=by
  apply qqn;intro i;rw[qpt,qpt,qqo]
  cases he:es[i]? with
  | none=>
   have:ks.length≤i:=by rw[←hes];exact Array.getElem?_eq_none_iff.1 he
   rw[qqS.2 this];rfl
  | some e=>
   obtain ⟨k,hk,hk',_⟩:=ent i e he;rw[hk];simp[hk']
 have hrd:∀(i:Nat) (e:MapEntry),es[i]?=some e→∃k,ks[i]?=some k∧WideElems.rd prog 9 qmY e=some (.string k.data.toList,.lit (.bool true)):=fun i e he=>by
  obtain ⟨k,hk,h6,h7⟩:=ent i e he;refine ⟨k,hk,?_⟩;obtain ⟨key,val,born⟩:=e;simp only at h6 h7;subst h6 h7;exact WideElems.rd_mk (yv:=(.lit (.bool true),[])) (WideMaps.keyOf_string_mk Tryz.underlying9 (hz k (qpp hk))) (plainElem_bool Tryz.underlying4 true)
 have hrg:es.toList.map (WideElems.rg prog 9 qmY)=ks.map fun k=>(.string k.data.toList,.lit (.bool true)):=by
  apply qqn;intro i;rw[qpt,qpt,qqo]
  cases he:es[i]? with
  | none=>
   have:ks.length≤i:=by rw[←hes];exact Array.getElem?_eq_none_iff.1 he
   rw[qqS.2 this];rfl
  | some e=>
   obtain ⟨k,hk,hk'⟩:=hrd i e he;rw[hk];simp[WideElems.rg_of hk']
 obtain ⟨D0,hD⟩:∃D0:DataW Unit,D0=.map ((es.toList.map (WideElems.rg prog 9 qmY)).foldr DataW.insert []):=⟨_,rfl⟩;have hml:(1000000:Nat)≤maxLen:=by decide
 have hown:w.ownsMap prog 9 qmY x.b es.size D0:=⟨es,ck,h2,⟨by omega,⟨fun e he=>?_,?_,?_⟩,fun e he=>?_⟩,qpo _,hD⟩;rotate_left
 ·exact hst.1 _ (by rw[h4];exact qp2 he)
 ·rw[←h4];exact hst.2
 ·rw[hkeys];exact List.Pairwise.map _ (fun a b hab=>by intro hh;exact hab (by injection hh)) nd
 ·obtain ⟨i,hi⟩:=qqz.1 he;rw[qqo] at hi;obtain ⟨k,_,hk⟩:=hrd i e hi;exact ⟨_,hk⟩
 have hsz:Maps.size D0=ks.length:=by
  rw[hD,Maps.size_eq,(WideShapes.sorted_perm _).length_eq,hrg,qps]
 have hsk:(strKeys D0).Perm (ks.map fun k=>k.data.toList):=by
  rw[hD];show (List.map _ _).Perm _;refine ((WideShapes.sorted_perm _).map _).trans ?_;rw[hrg,qqI];exact List.Perm.refl _
 refine Calls.mono (Tryz.sorted86 x.b es.size D0 qmY w hown (by omega) (by omega)) ?_;rintro e w' ⟨v,ss,rfl,hp,hrow,hnil,hb⟩;have hso:ss.mergeSort (fun x y=>decide (x≤y))=(ks.map fun k=>k.data.toList).mergeSort (fun x y=>decide (x≤y)):=mergeSort_of_perm (hp.trans hsk)
 have hmap:(ZU ks).map Value.string=(ss.mergeSort (fun x y=>decide (x≤y))).map encStr:=by
  rw[hso];unfold ZU;rw[qqI];rfl
 have hn:ss.length=ks.length:=by rw[hp.length_eq,hsk.length_eq,qps]
 rw[←hmap] at hrow;obtain ⟨_,⟨rfl,h0⟩|⟨g,cap,cur,rfl,hg,hc,hcap,_,hcs,htake⟩⟩:=hrow
 ·obtain ⟨g1,g2⟩:=hs.grown hb.block hb.size (by rw[hb.output,hb.os]);have:ZU ks=[]:=qqY.1 (by rw[yz];omega);exact ⟨_,_,E,S,rfl,⟨rfl,rfl⟩,by rw[this];exact .slnil _,g1,g2 _,qpo _⟩
 ·obtain ⟨g1,g2⟩:=hs.layAt hb.block hb.size (by rw[hb.output,hb.os]) hg hc;refine ⟨_,_,E.lay g cur,S,rfl,⟨rfl,rfl⟩,?_,g1,g2,qpo _⟩;have hlen':ss.length=((ZU ks).map V.str).length:=by rw[qps,yz,hn]
  have hget:∀(i:Nat) (y:Bz),(ZU ks)[i]?=some y→cur[i]?=some (.string y):=fun i y hy=>by
   have h6:=congrArg (·[i]?) htake;simp only[qpt,hy,qpD,List.getElem?_take] at h6;split at h6
   ·rw[qqo] at h6;exact h6
   ·cases h6
  rw[hlen'];refine .sl (sz:=1) (by rw[←hlen'];exact hcap) (by simp) (fun v hv=>?_) (fun i j hi hj=>?_) (fun i v j c' c h1 h2 h3=>?_)
  ·obtain ⟨k,_,rfl⟩:=qpE.1 hv;rfl
  ·have:j=0:=by omega
   subst this;rw[qps] at hi;simp[En.lay,hget i _ (qpn hi)]
  ·rw[qpt] at h1;obtain ⟨y,hy,rfl⟩:=qpq.1 h1
   have hj:j=0:=by
    have:=(qpi.1 h2).1;simp[V.cells] at this;exact this
   subst hj;simp[V.cells] at h2;subst h2;simp[En.lay,hget i y hy] at h3;subst h3;exact .str y
theorem qeU(h:coP.H)(sc:Scs)(t:Bz):(yd (coP.clH h t sc)).length≤(yd h).length+1:=by
 show (Prod.fst (coU h t sc)).length≤_;unfold coU yd;cases sc.at t <;> simp
mutual
theorem Ex.frn(sc:Scs)(tg:Bool):∀(x:Ex) (h:coP.H),(yd (Ex.hs coP sc tg h x)).length≤(yd h).length+(Pa.ex x).size
 | .mk k o n m e t a,h=>by
  have ha:=Ex.frnl sc false a h;have hz:=Pa.size_eq (.ex (.mk k o n m e t a));simp only[Pa.own,Pa.kids,Ex.args] at hz;have hc:=qeU (Ex.hsl coP sc false h a) sc t;rw[Ex.hs,qiu];split <;> omega
theorem Ex.frnl(sc:Scs)(tg:Bool):∀(l:List Ex) (h:coP.H),(yd (Ex.hsl coP sc tg h l)).length≤(yd h).length+qJ (l.map Pa.ex)
 | [],h=>by simp[Ex.hsl]
 | x::l,h=>by
  have h1:=Ex.frn sc tg x h;have h2:=Ex.frnl sc tg l (Ex.hs coP sc tg h x);rw[Ex.hsl,qpv,sizes_cons];omega
end
theorem El.frnl(sc:Scs):∀(l:List El) (h:coP.H),(yd (El.hsl coP sc h l)).length≤(yd h).length+qJ (l.map Pa.el)
 | [],h=>by simp[El.hsl]
 | x::l,h=>by
  have h1:=Ex.frnl sc false x.exps h;have h2:=El.frnl sc l (Ex.hsl coP sc false h x.exps);have hz:=Pa.size_eq (.el x);simp only[Pa.kids] at hz;show (yd (El.hsl coP sc (Ex.hsl coP sc false h x.exps) l)).length≤_;rw[qpv,sizes_cons];omega
mutual
theorem Sm.frn:∀(s:Sm) (sc:Scs) (n:Nat) (h:coP.H),(yd (Sm.hs coP sc n h s)).length≤(yd h).length+(Pa.st s).size
 | .mk l k t g e el d b,sc,n,h=>by
  have hz:=Sm.size_parts' (.mk l k t g e el d b);simp only[Sm.labels,Sm.targets,Sm.exps,Sm.elems,Sm.decls,Sm.body] at hz;have e1:=Ex.frnl sc true g h;rw[Sm.hs];split
  ·have e2:=De.frnl d (qd (qe d b) n::sc) sc (n+(qd (qe d b) n).length) (enters coP (Ex.hsl coP sc true h g) (qd (qe d b) n));have e3:=Sm.frnl b (qd (qe d b) n::sc) (n+(qd (qe d b) n).length+De.nbl d) (De.hsl coP (qd (qe d b) n::sc) sc (n+(qd (qe d b) n).length) (enters coP (Ex.hsl coP sc true h g) (qd (qe d b) n)) d);rw[zo] at e2;omega
  ·split
   ·have e3:=Sm.frnl b (qd (qk b) n::sc) (n+(qd (qk b) n).length) (enters coP (Ex.hsl coP sc true h g) (qd (qk b) n));rw[zo] at e3;omega
   ·have e2:=Ex.frnl sc false e (Ex.hsl coP sc true h g);have e3:=El.frnl sc el (Ex.hsl coP sc false (Ex.hsl coP sc true h g) e);have e4:=Sm.frn1 b sc n (El.hsl coP sc (Ex.hsl coP sc false (Ex.hsl coP sc true h g) e) el);have hc:=qeU (Sm.hs1 coP sc n (El.hsl coP sc (Ex.hsl coP sc false (Ex.hsl coP sc true h g) e) el) b) sc t;rw[qin];split <;> omega
theorem De.frn:∀(s:De) (own sc:Scs) (n:Nat) (h:coP.H),(yd (De.hs coP own sc n h s)).length≤(yd h).length+(Pa.de s).size
 | .mk k o t ns e fo b,own,sc,n,h=>by
  have hz:=De.size_parts' (.mk k o t ns e fo b);simp only[De.names,De.formals,De.exps,De.body] at hz;rw[De.hs];split
  ·have e1:=Ex.frnl own false e h;have e2:=Sm.frn1 b (qd (fo.map Fo.name) n::own) (n+(qd (fo.map Fo.name) n).length) (enters coP (Ex.hsl coP own false h e) (qd (fo.map Fo.name) n));rw[zo] at e2;omega
  ·have e1:=Ex.frnl (if k=2 then sc else own) false e h;omega
theorem De.frnl:∀(l:List De) (own sc:Scs) (n:Nat) (h:coP.H),(yd (De.hsl coP own sc n h l)).length≤(yd h).length+qJ (l.map Pa.de)
 | [],_,_,_,h=>by simp[De.hsl]
 | x::l,own,sc,n,h=>by
  have h1:=De.frn x own sc n h;have h2:=De.frnl l own sc (n+De.nb x) (De.hs coP own sc n h x);rw[De.hsl,qpv,sizes_cons];omega
theorem Sm.frnl:∀(l:List Sm) (sc:Scs) (n:Nat) (h:coP.H),(yd (Sm.hsl coP sc n h l)).length≤(yd h).length+qJ (l.map Pa.st)
 | [],_,_,h=>by simp[Sm.hsl]
 | x::l,sc,n,h=>by
  have h1:=Sm.frn x sc n h;have h2:=Sm.frnl l sc (n+Sm.nb x) (Sm.hs coP sc n h x);rw[Sm.hsl,qpv,sizes_cons];omega
theorem Sm.frn1:∀(l:List Sm) (sc:Scs) (n:Nat) (h:coP.H),(yd (Sm.hs1 coP sc n h l)).length≤(yd h).length+qJ (l.map Pa.st)
 | [],_,_,h=>by simp[Sm.hs1]
 | x::l,sc,n,h=>by
  have h1:=Sm.frn x (qd x.labels n::sc) (n+(qd x.labels n).length) (enters coP h (qd x.labels n));have h2:=Sm.frn1 l sc (n+(qd x.labels n).length+Sm.nb x) (Sm.hs coP (qd x.labels n::sc) (n+(qd x.labels n).length) (enters coP h (qd x.labels n)) x);rw[zo] at h1;rw[Sm.hs1,qpv,sizes_cons];omega
end
theorem Sm.frees_len(s:Sm):(yd (s.wholeH coP coZ)).length≤(Pa.st s).size:=by
 have:=Sm.frn s [qd s.labels 0] (qd s.labels 0).length (enters coP coZ (qd s.labels 0));rw[zo] at this;have h0:(yd coZ).length=0:=rfl;show (yd (Sm.hs coP [qd s.labels 0] (qd s.labels 0).length (enters coP coZ (qd s.labels 0)) s)).length≤_;omega
theorem Qy:∀{l ks:List Bz},ks.Nodup→(l.foldl Qr ks).Nodup
 | [],ks,h=>h
 | s::l,ks,h=>by
  refine Qy (l:=l) ?_;unfold Qr;split
  ·exact h
  ·rename_i hs;exact List.nodup_append.2 ⟨h,by simp,fun a ha b hb=>by simp at hb;subst hb;rintro rfl;exact hs (zL.2 ha)⟩
theorem Zp:∀{l ks:List Bz},(l.foldl Qr ks).length≤ks.length+l.length
 | [],ks=>by simp
 | s::l,ks=>by
  have:=Zp (l:=l) (ks:=Qr ks s);have h2:(Qr ks s).length≤ks.length+1:=by unfold Qr;split <;> simp
  rw[qq4,qpF];omega
def Sm.frees(s:Sm):List Bz:=ZU ((yd (s.wholeH coP coZ)).foldl Qr [])
theorem qiw(s:Sm)(hs:s.ok)(hsz:(Pa.st s).size≤4000)(hn:Sm.nb1 [s]≤100000)(S:St):
  qt prog 29 [s.v] S (fun r U=>r=.tup [.sl (decide ((Pa.st s).err qb≠0)) ((if (Pa.st s).err qb=0 then s.frees else []).map .str),.int .i64 ((Pa.st s).err qb)]∧Kp (fun _=>False) S U):=by
 refine qt.ib func29 ok29 ?_;obtain ⟨S1,hS1⟩:∃S1:St,S1=S++[.arr [s.v] 8 1]:=⟨_,rfl⟩;have b0:S1[S.length]?=some (.arr [s.v] 8 1):=by rw[hS1];simp
 have kS:Kp (fun _=>False) S S1:=by rw[hS1];exact (Kp.refl _ _).push _
 simp[c29,qM];rw[←hS1];simp[ldS,b0];refine qg (qbZ s hs S1) ?_;by_cases he:(Pa.st s).err qb=0
 ·simp[he,ldS,b0];refine qj (qii s hs hsz hn S1) ?_;rintro r U ⟨m,c4,c5,c6,v,ps,F,D,rfl,k,kU,_⟩;obtain ⟨bs,ck,hst,hm⟩:=k.fm;have hv:=(Pa.valid_iff.1 (ye he).2);simp;refine qj (qiB m _ bs ck U hm hst (Qy List.nodup_nil) ?_ ?_) ?_
  ·have h1:=Zp (l:=yd (s.wholeH coP coZ)) (ks:=[]);have h2:=s.frees_len;simp only[qqj] at h1;exact qpV h1 (by omega)
  ·intro x hx;rw[yy] at hx;have hx:x∈yd (s.wholeH coP coZ):=hx.elim (fun h=>by simp at h) id;rw[Sm.free_occ (f:=yT) (nm:=qb) (fun k=>Qk k) s (ye he).2] at hx;have:=ZG (qqb.1 hx).2;exact qpV this (by decide)
  ·rintro r U2 ⟨rfl,rfl⟩;simp;exact qf rfl ⟨rfl,kS.trans kU⟩
 ·simp[he];exact qf rfl ⟨rfl,kS⟩
theorem Co.at{m c4 c5 c6:Nat}{h:List Bz×List Bz}{v:V}{ps:List Nat}{F D:Np}{U:St}(k:Co m c4 c5 c6 h v ps F D U){i:Nat}(hi:i<h.2.length):
  ∃p l st,iaS U 1 v (i:Int)=some (.ptr l i 0 st)∧ldS U (.ptr l i 0 st) none=some (.ptr p 0 0 1)∧U[p]?=some (plc h.2[i] i h.2[i]):=by
 have hip:i<ps.length:=by rw[k.pn];exact hi
 obtain ⟨_,hp⟩:=k.pl i ps[i] h.2[i] (qpn hip) (qpn hi);rcases k.gr with ⟨h0,_⟩|⟨a,wr,rfl,ha,hw,_,_⟩
 ·rw[h0] at hip;simp at hip
 ·refine ⟨ps[i],a,ps.length,?_,?_,hp⟩
  ·simp only[iaS,ha];rw[if_pos ⟨hw,trivial,by omega,by omega⟩];simp
  ·simp only[ldS,ha];rw[if_pos ⟨hw,hip⟩];simp[hip]
theorem Co.lenS{m c4 c5 c6:Nat}{h:List Bz×List Bz}{v:V}{ps:List Nat}{F D:Np}{U:St}(k:Co m c4 c5 c6 h v ps F D U):lenS v=some (.int .i64 h.2.length):=by
 have:=k.pn;rcases k.gr with ⟨rfl,rfl⟩|⟨a,wr,rfl,_⟩
 ·rw[←this];rfl
 ·rw[←this];rfl
def ki(e:Bz×Int):V×V:=(.str e.1,.int .i64 e.2)
def qdP:List (Bz×Int)→Bz→Int
 | [],_=>0
 | (k,v)::r,s=>if s=k then v else qdP r s
def qhD:List (Bz×Int)→Bz→Int→List (Bz×Int)
 | [],s,n=>[(s,n)]
 | (k,v)::r,s,n=>if s=k then (k,n)::r else (k,v)::qhD r s n
theorem qdb(s:Bz)(n:Int)(x:Bz):∀ms,qdP (qhD ms s n) x=if x=s then n else qdP ms x
 | []=>by simp[qhD,qdP]
 | (k,v)::r=>by
  unfold qhD;by_cases h:s=k
  ·subst h;rw[if_pos rfl,qdP,qdP];split <;> rfl
  ·rw[if_neg h,qdP,qdP,qdb s n x r];by_cases hx:x=k
   ·subst hx;rw[if_pos rfl,if_pos rfl,if_neg (Ne.symm h)]
   ·rw[if_neg hx,if_neg hx]
theorem Yy(s:Bz)(n:Int):∀(ms:List (Bz×Int)) (i:Nat),(zr .str (.str s) (ms.map ki) i=some none∧qdP ms s=0∧qhD ms s n=ms++[(s,n)])∨∃(j:Nat) (v:Int),zr .str (.str s) (ms.map ki) i=some (some (i+j,.int .i64 v))∧qdP ms s=v∧qhD ms s n=ms.set j (s,n)∧j<ms.length
 | [],i=>.inl ⟨rfl,rfl,rfl⟩
 | (k,v)::r,i=>by
  simp only[qpv,ki,zr,YG];by_cases h:s=k
  ·subst h;refine .inr ⟨0,v,?_,?_,?_,by simp⟩
   ·simp
   ·rw[qdP,if_pos rfl]
   ·rw[qhD,if_pos rfl];rfl
  ·have hne:(s.data.toList==k.data.toList)=false:=by
    rw[beq_eq_false_iff_ne];intro hh;exact h (qqZ (Array.ext' hh))
   rw[hne];simp only;rw[qdP,if_neg h,qhD,if_neg h];rcases Yy s n r (i+1) with ⟨h1,h2,h3⟩|⟨j,w,h1,h2,h3,h4⟩
   ·exact .inl ⟨h1,h2,by rw[h3];rfl⟩
   ·refine .inr ⟨j+1,w,?_,h2,by rw[h3];rfl,by simpa using h4⟩;rw[show i+(j+1)=i+1+j by omega];exact h1
def Cm(c:Bz→Int)(l:Nat)(S:St):Prop:=∃ms bs ck,S[l]?=some (.map (ms.map ki) bs ck)∧∀x,qdP ms x=c x
theorem Cm.get{c:Bz→Int}{l:Nat}{S:St}(h:Cm c l S)(s:Bz):qbk S .str (.int .i64 0) false (.map l) (.str s)=some (.int .i64 (c s)):=by
 obtain ⟨ms,bs,ck,h,hc⟩:=h;unfold qbk;rw[if_pos (by rfl)];simp only[qa4,h];rcases Yy s 0 ms 0 with ⟨h1,h2,_⟩|⟨j,v,h1,h2,_⟩
 ·rw[h1,←hc,h2];rfl
 ·rw[h1,←hc,h2];rfl
theorem Cm.put{c:Bz→Int}{l:Nat}{S:St}(h:Cm c l S)(s:Bz)(n:Int):∃es bs ck,qap S .str (.map l) (.str s) (.int .i64 n)=some (S.set l (.map es bs ck))∧∀S':St,S'[l]?=some (.map es bs ck)→Cm (fun x=>if x=s then n else c x) l S':=by
 obtain ⟨ms,bs,ck,h,hc⟩:=h;have fin:∀(bs':List Nat) (ck':Nat) (S':St),S'[l]?=some (.map ((qhD ms s n).map ki) bs' ck')→Cm (fun x=>if x=s then n else c x) l S':=fun bs' ck' S' hS=>⟨_,bs',ck',hS,fun x=>by rw[qdb,hc]⟩
 unfold qap;rw[if_pos (by rfl)];simp only[h];rcases Yy s n ms 0 with ⟨h1,h2,h3⟩|⟨j,v,h1,h2,h3,h4⟩
 ·rw[h1];refine ⟨_,bs++[ck],ck+1,rfl,fun S' hS=>fin (bs++[ck]) (ck+1) S' ?_⟩;rw[h3,qpH];exact hS
 ·rw[h1];refine ⟨_,bs,ck,rfl,fun S' hS=>fin bs ck S' ?_⟩;rw[h3,List.map_set];simpa[ki] using hS
theorem Cm.keep{c:Bz→Int}{l:Nat}{S S':St}(h:Cm c l S)(hk:∀o,S[l]?=some o→S'[l]?=some o):Cm c l S':=by
 obtain ⟨ms,bs,ck,h,hc⟩:=h;exact ⟨ms,bs,ck,hk _ h,hc⟩
open Classical in
def qja(P:Bz→Prop)(x:Bz):Bz:=if h:∃t,P t then Classical.choose h else x
def frs(x:Bz)(all:List Bz):Bz:=qja (fun t=>zd x all t) x
theorem qgu{x:Bz}{all:List Bz}{t:Bz}(h:zd x all t):frs x all=t:=by
 have he:∃t,zd x all t:=⟨t,h⟩;unfold frs qja;rw[dif_pos he];exact (Classical.choose_spec he).unique h
theorem qhR{x:Bz}{a b:List Bz}(h:∀y,y∈a↔y∈b):frs x a=frs x b:=by
 have:(fun t=>zd x a t)=fun t=>zd x b t:=by
  funext t;exact propext ⟨zd.same h,zd.same fun y=>(h y).symm⟩
 unfold frs;rw[this]
theorem zd.size_le{s:Bz}{taken:List Bz}{t:Bz}(h:zd s taken t)(hs:s.size≤16)(ht:taken.length≤899):t.size≤16:=by
 by_cases hm:s∈taken
 ·obtain ⟨n,h1,h2,h3,h4⟩:=ZF s taken ht;rw[h.unique (.inr ⟨hm,n,h1,rfl,h3,h4⟩)];have hd:=qiA n (by omega);unfold jL;simp only[ByteArray.size,List.size_toArray,qpw,qqA];omega
 ·rw[h.unique (.inl ⟨hm,rfl⟩)];exact hs
def yS:List Bz→Bz→Int
 | [],_=>0
 | y::l,x=>(if x=y then 1 else 0)+yS l x
theorem ZX(x:Bz)(m:List Bz):∀l,yS (l++m) x=yS l x+yS m x
 | []=>by simp[yS]
 | y::l=>by rw[qpO,yS,yS,ZX x m l];omega
theorem JF(x:Bz):∀l,0≤yS l x∧yS l x≤l.length
 | []=>by simp[yS]
 | y::l=>by
  have:=JF x l;rw[yS,qpF];split <;> omega
theorem qc3(x:Bz):∀l,0<yS l x↔x∈l
 | []=>by simp[yS]
 | y::l=>by
  have h1:=qc3 x l;have h2:=JF x l;rw[yS,qpJ];by_cases h:x=y
  ·rw[if_pos h];exact ⟨fun _=>.inl h,fun _=>by omega⟩
  ·rw[if_neg h];exact ⟨fun hh=>.inr (h1.1 (by omega)),fun hh=>by have:=h1.2 (hh.resolve_left h);omega⟩
def apN(tk fr done:List Bz)(x:Bz)(rest:List Bz):Bz:=if JQ x tk=true then frs x (fr++(done++x::rest)++tk) else x
def apL(tk fr:List Bz):List Bz→List Bz→List Bz
 | done,[]=>done
 | done,x::rest=>apL tk fr (done++[apN tk fr done x rest]) rest
theorem YI(tk fr:List Bz):∀(rest done:List Bz),(apL tk fr done rest).length=done.length+rest.length
 | [],done=>by simp[apL]
 | x::rest,done=>by rw[apL,YI tk fr rest];simp;omega
def apD(tk fr:List Bz):List Bz→List Bz→Nat→List Bz
 | done,_,0=>done
 | done,[],_+1=>done
 | done,x::rest,i+1=>apD tk fr (done++[apN tk fr done x rest]) rest i
theorem qcu(tk fr:List Bz):∀(rest done:List Bz),apD tk fr done rest rest.length=apL tk fr done rest
 | [],done=>rfl
 | x::rest,done=>by rw[qpF,apD,apL,qcu tk fr rest]
theorem jO(tk fr:List Bz):∀(rest done:List Bz) (i:Nat),i≤rest.length→(apD tk fr done rest i).length=done.length+i
 | _,done,0,_=>by simp[apD]
 | [],done,i+1,h=>by simp at h
 | x::rest,done,i+1,h=>by
  rw[apD,jO tk fr rest _ i (by simpa using h)];simp;omega
theorem qcY(tk fr:List Bz):∀(rest done:List Bz) (i:Nat) (h:i<rest.length),apD tk fr done rest (i+1)=apD tk fr done rest i++[apN tk fr (apD tk fr done rest i) rest[i] (rest.drop (i+1))]
 | [],_,_,h=>by simp at h
 | x::rest,done,0,h=>by simp[apD]
 | x::rest,done,i+1,h=>by
  rw[apD,qcY tk fr rest _ i (by simpa using h)];rfl
def lf(l:List Bz)(k:Nat):Bz:=(l[k]?).getD ⟨⟨[]⟩⟩
theorem qhy{tk fr done rest:List Bz}{x:Bz}(hx:x.size≤16)(hl:(fr++(done++x::rest)++tk).length≤899):(apN tk fr done x rest).size≤16:=by
 unfold apN;split
 ·obtain ⟨t,ht⟩:=zd.exists x _ hl;rw[qgu ht];exact ht.size_le hx hl
 ·exact hx
theorem qb0(tk fr:List Bz):∀(rest done:List Bz),(∀x,x∈done→x.size≤16)→(∀x,x∈rest→x.size≤16)→fr.length+done.length+rest.length+tk.length≤899→∀x,x∈apL tk fr done rest→x.size≤16
 | [],done,h,_,_=>by rw[apL];exact h
 | y::rest,done,h,g,hl=>by
  rw[apL];rw[qpF] at hl;refine qb0 tk fr rest _ (fun x hx=>?_) (fun x hx=>g x (qqc _ hx)) (by simp;omega);rcases qpr.1 hx with hx|hx
  ·exact h x hx
  ·simp at hx;subst hx;exact qhy (g y (by simp)) (by simp;omega)
end Go.Proofs.YtbifpocccfkhhaaGreatDoor

namespace Go.Proofs.YtbifpocccfkhhaaGreatDoor
open Go
theorem qbx:∀(k:Nat) (l:List Bz),l.length≤k→∀x,x∈nms l→x∈l
 | _,[],_,x,h=>by simp[nms,qd,binds] at h
 | 0,_::_,h,_,_=>by simp at h
 | k+1,y::l',h,x,hx=>by
  obtain ⟨l,z,hl⟩:∃l z,y::l'=l++[z]:=⟨(y::l').dropLast,(y::l').getLast (by simp),(List.dropLast_concat_getLast _).symm⟩;rw[hl] at h hx ⊢;have hk:l.length≤k:=by simp at h;exact h
  rw[qb9] at hx;split at hx
  ·exact qpx _ (qbx k l hk x hx)
  ·rcases qpr.1 hx with hx|hx
   ·exact qpx _ (qbx k l hk x hx)
   ·exact qpA _ hx
theorem jm{l:List Bz}{x:Bz}(h:x∈nms l):x∈l:=qbx _ l (qpo _) x h
def Sm.bounds(s:Sm):List Bz:=nms s.labels++s.bn
def qnS(h:coP.H):List Bz:=Prod.snd (α:=List Bz) (β:=List Bz) h
theorem qiz:HInv coP fun l h=>qnS h=l where
 e x h:=by subst h;rfl
 n {l h} x sc tg hq:=by
  show Prod.snd (coU h x.text sc)=l;unfold coU;split <;> exact hq
 c {l h} x sc hq:=by
  show Prod.snd (coU h x sc)=l;unfold coU;split <;> exact hq
theorem Sm.whole_bounds(s:Sm):qnS (s.wholeH coP coZ)=s.bounds:=by
 have h0:qnS coZ=[]:=rfl;have h1:=qiz.enters h0 _ s.labels (qpo _);have h2:=qiz.sm [qd s.labels 0] s h1;rw[qqF,qA] at h2;exact h2
theorem Sm.bounds_len(s:Sm):s.bounds.length=Sm.nb1 [s]:=by
 unfold Sm.bounds;simp only[qpw,qA,Sm.bn_length,Sm.nb1,qri]
open Go.Proofs.Tryz
theorem qgj(b b':Bool)(l m:List Bz)(hl:l.length≤1000000)(hm:m.length≤1000000)(S:St):Fn prog 30 [.sl b (l.map .str),.sl b' (m.map .str)] S (.bool (decide (l=m))):=by
 refine qt.ib func30 ok30 ?_;simp[c30];by_cases hlm:l.length=m.length
 case neg=>
  have hne:l≠m:=fun h=>hlm (by rw[h])
  simp[show ¬ ((l.length:Int)=m.length) by omega,hlm,hne];exact qf rfl ⟨rfl,rfl⟩
 simp[hlm];refine qO (fun e U=>U=S∧l=m) ?_ ?_
 ·refine qw (fun k e S'=>∃i:Nat,k=l.length - i∧i≤l.length∧S'=S∧(∀j,j<i→l[j]?=m[j]?)∧e=[(5,.int .i64 i),(0,.sl b (l.map .str)),(1,.sl b' (m.map .str))]) l.length _ ?_ ⟨0,by simp,by omega,rfl,fun j h=>by omega,rfl⟩ ?_
  ·exact Env.so (by simp)
  rintro k e S' ⟨i,rfl,hi,rfl,hj,rfl⟩;by_cases h:i<l.length
  ·have h':i<m.length:=by omega
   have hm':(i:Int)<m.length:=by omega
   by_cases he:l[i]=m[i]
   ·simp[h,h',hlm,Yc,Qe,QN,Zx,he];rw[ze (n:=(i:Int)+1)];refine ⟨_,?_,_,?_,i+1,rfl,by omega,fun j hji=>?_,rfl⟩
    ·omega
    ·exact Env.so (by simp)
    ·by_cases hk:j<i
     ·exact hj j hk
     ·have:j=i:=by omega
      subst this;rw[qpn h,qpn h',he]
   ·have hne:l≠m:=fun hh=>he (by subst hh;rfl)
    simp[h,h',hlm,Yc,Qe,QN,Zx,he];exact qf rfl ⟨by simp[hne],rfl⟩
  ·simp[h];apply qqn;intro j;by_cases hk:j<i
   ·exact hj j hk
   ·rw[qp5 (by omega),qp5 (by omega)]
 ·rintro e U ⟨rfl,h⟩;simp;exact qf rfl ⟨by simp[h],rfl⟩
def ltB(a b:Bz):Prop:=a.data.toList<b.data.toList
theorem qbJ(a:Bz):¬ ltB a a:=List.lt_irrefl _
theorem qaz{a b c:Bz}(h:ltB a b)(g:ltB b c):ltB a c:=List.lt_trans h g
theorem qmj{a b:Bz}(h:¬ ltB a b)(g:¬ ltB b a):a=b:=by
 have:=List.le_antisymm (List.not_lt.1 g) (List.not_lt.1 h);exact qqZ (Array.ext' this)
theorem qcx:∀{l m:List Bz},l.Pairwise ltB→m.Pairwise ltB→(∀x,x∈l↔x∈m)→l=m
 | [],[],_,_,_=>rfl
 | [],y::m,_,_,h=>absurd ((h y).2 (by simp)) (by simp)
 | x::l,[],_,_,h=>absurd ((h x).1 (by simp)) (by simp)
 | x::l,y::m,hl,hm,h=>by
  have hl':=qrh.1 hl;have hm':=qrh.1 hm
  have hxy:x=y:=by
   by_cases hxy:x=y
   ·exact hxy
   ·have h1:x∈m:=(qpJ.1 ((h x).1 (by simp))).resolve_left hxy;have h2:y∈l:=(qpJ.1 ((h y).2 (by simp))).resolve_left (Ne.symm hxy);exact absurd (qaz (hm'.1 x h1) (hl'.1 y h2)) (qbJ y)
  subst hxy;congr 1;refine qcx hl'.2 hm'.2 fun z=>⟨fun hz=>?_,fun hz=>?_⟩
  ·rcases qpJ.1 ((h z).1 (qqc _ hz)) with rfl|hz'
   ·exact absurd (hl'.1 z hz) (qbJ z)
   ·exact hz'
  ·rcases qpJ.1 ((h z).2 (qqc _ hz)) with rfl|hz'
   ·exact absurd (hm'.1 z hz) (qbJ z)
   ·exact hz'
theorem Zi{ks:List Bz}{x:Bz}:x∈ZU ks↔x∈ks:=by
 unfold ZU;rw[qpE];constructor
 ·rintro ⟨y,hy,rfl⟩;rw[List.mem_mergeSort] at hy;obtain ⟨k,hk,rfl⟩:=qpE.1 hy;simpa using hk
 ·intro hx;exact ⟨x.data.toList,by rw[List.mem_mergeSort];exact qp2 hx,by simp⟩
theorem qdZ{ks:List Bz}(nd:ks.Nodup):(ZU ks).Pairwise ltB:=by
 unfold ZU;rw[List.pairwise_map];have tr:∀a b c:List UInt8,decide (a≤b)=true→decide (b≤c)=true→decide (a≤c)=true:=fun a b c h1 h2=>by simp only[decide_eq_true_eq] at *;exact List.le_trans h1 h2
 have to:∀a b:List UInt8,(decide (a≤b) || decide (b≤a))=true:=fun a b=>by simp only[qrb,decide_eq_true_eq];exact List.le_total a b
 have h1:=List.pairwise_mergeSort tr to (ks.map fun k=>k.data.toList)
 have h2:((ks.map fun k=>k.data.toList).mergeSort fun x y=>decide (x≤y)).Nodup:=by
  refine ((List.mergeSort_perm _ _).nodup_iff).2 ?_;exact List.Pairwise.map _ (fun a b hab hh=>hab (qqZ (Array.ext' hh))) nd
 refine (h1.and h2).imp ?_;rintro a b ⟨h3,h4⟩;show a<b;simp only[decide_eq_true_eq] at h3;by_cases hlt:a<b
 ·exact hlt
 ·exact absurd (List.le_antisymm h3 (List.not_lt.1 hlt)) h4
def YT:List Bz→Bz→List Bz
 | [],x=>[x]
 | y::l,x=>open Classical in if ltB y x then y::YT l x else if y=x then y::l else x::y::l
theorem kr{x z:Bz}:∀{l:List Bz},z∈YT l x↔z∈l∨z=x
 | []=>by simp[YT]
 | y::l=>by
  unfold YT;split
  ·rw[qpJ,kr,qpJ,or_assoc]
  ·split
   ·rename_i h;subst h;simp only[qpJ];exact ⟨.inl,fun h=>h.elim id fun h=>.inl h⟩
   ·simp only[qpJ];constructor
    ·rintro (h|h|h)
     ·exact .inr h
     ·exact .inl (.inl h)
     ·exact .inl (.inr h)
    ·rintro ((h|h)|h)
     ·exact .inr (.inl h)
     ·exact .inr (.inr h)
     ·exact .inl h
theorem qaq{x:Bz}:∀{l:List Bz},l.Pairwise ltB→(YT l x).Pairwise ltB
 | [],_=>by simp[YT]
 | y::l,h=>by
  have h':=qrh.1 h;unfold YT;split
  ·rename_i hyx;refine qrh.2 ⟨fun z hz=>?_,qaq h'.2⟩;rcases kr.1 hz with hz|rfl
   ·exact h'.1 z hz
   ·exact hyx
  ·rename_i hyx;split
   ·exact h
   ·rename_i hne
    have hxy:ltB x y:=by
     by_cases hh:ltB x y
     ·exact hh
     ·exact absurd (qmj hyx hh) hne
    refine qrh.2 ⟨fun z hz=>?_,h⟩;rcases qpJ.1 hz with rfl|hz
    ·exact hxy
    ·exact qaz hxy (h'.1 z hz)
theorem YS{z:Bz}:∀{l out:List Bz},out.Pairwise ltB→(l.foldl YT out).Pairwise ltB∧(z∈l.foldl YT out↔z∈out∨z∈l)
 | [],out,h=>⟨h,by simp⟩
 | x::l,out,h=>by
  obtain ⟨h1,h2⟩:=YS (z:=z) (l:=l) (qaq (x:=x) h);refine ⟨h1,?_⟩;rw[qq4,h2,kr,qpJ,or_assoc]
theorem qbK{l ks:List Bz}(nd:ks.Nodup)(h:∀x,x∈l↔x∈ks):l.foldl YT []=ZU ks:=
 qcx (YS (z:=⟨⟨[]⟩⟩) List.Pairwise.nil).1 (qdZ nd) fun x=>by
  rw[(YS (z:=x) List.Pairwise.nil).2,Zi,h];simp
theorem Gr.appE{sz n0 bytes:Nat}{xs ys:List V}{v x:V}{S:St}(h:Gr sz n0 xs v S)(hx:elems S x=some ys)(hy:fits sz ys=true)(hr:(xs.length+ys.length) * bytes≤2 ^ 47)(hn:n0≤S.length):
  ∃v' S',Z7 S sz bytes v x=some (v',S')∧Gr sz n0 (xs++ys) v' S'∧S.length≤S'.length∧(∀l o,S[l]?=some o→(∀n,v≠.arr l 0 n n)→S'[l]?=some o)∧(∀l n,v'=.arr l 0 n n→(∃m,v=.arr l 0 m m)∨S.length≤l):=by
 rcases h with ⟨rfl,rfl⟩|⟨l,wr,h1,rfl,h3,h4⟩
 ·by_cases he:ys=[]
  ·subst he;refine ⟨.sl true [],S,?_,.inl ⟨rfl,rfl⟩,qpo _,fun _ _ h _=>h,fun l n h=>by cases h⟩;unfold Z7;rw[hx];rfl
  ·have hei:ys.isEmpty=false:=by cases ys with
    | nil=>exact absurd rfl he
    | cons=>rfl
   refine ⟨.arr S.length 0 ys.length ys.length,S++[.arr ys sz ys.length],?_,.inr ⟨S.length,ys.length,hn,by simp,by simp,by simp⟩,by simp,fun l o ho _=>gp ho,fun l n h=>.inr (by injection h;omega)⟩;unfold Z7;rw[hx];have hc:true=true∧fits sz ys=true∧(([]:List V).all fun v=>v.size==sz)=true∧(([]:List V).length+ys.length) * bytes≤2 ^ 47:=⟨rfl,hy,rfl,hr⟩;show (if ys.isEmpty=true then _ else _)=_;rw[if_neg (by rw[hei];simp),if_pos hc];simp
 ·have hc:0=0∧xs.length=xs.length∧xs.length=xs.length∧sz=sz∧fits sz ys=true∧(xs.length+ys.length) * bytes≤2 ^ 47:=⟨rfl,rfl,rfl,rfl,hy,hr⟩;have hlt:l<S.length:=(qpi.1 h3).1;refine ⟨.arr l 0 (xs.length+ys.length) (xs.length+ys.length),S.set l (.arr (xs++ys) sz wr),?_,.inr ⟨l,wr,h1,by simp,by rw[qpl hlt],by simp;omega⟩,by simp,fun k o ho hk=>?_,fun k n h=>.inl ?_⟩
  ·unfold Z7;rw[hx];show (match S[l]? with|_=>_)=_;rw[h3];show (if _ then _ else _)=_;rw[if_pos hc]
  ·rw[qpm]
   ·exact ho
   ·rintro rfl;exact hk _ rfl
  ·injection h with h;subst h;exact ⟨_,rfl⟩
theorem qer{x:Bz}:∀(l:List Bz) (k:Nat),k≤l.length→(∀j y,j<k→l[j]?=some y→ltB y x)→(∀y,l[k]?=some y→¬ ltB y x)→YT l x=if l[k]?=some x then l else l.take k++x::l.drop k
 | [],k,hk,_,_=>by
  have:k=0:=by simpa using hk
  subst this;simp[YT]
 | y::l,0,_,_,h2=>by
  have hy:=h2 y rfl;unfold YT;rw[if_neg hy];by_cases h:y=x
  ·subst h;simp
  ·simp[h]
 | y::l,k+1,hk,h1,h2=>by
  have hy:=h1 0 y (by omega) rfl;have ih:=qer l k (by simpa using hk) (fun j z hj hz=>h1 (j+1) z (by omega) (by simpa using hz)) (fun z hz=>h2 z (by simpa using hz));unfold YT;rw[if_pos hy,ih];simp only[qqq,List.take_succ_cons,List.drop_succ_cons,qpO];split <;> rfl
theorem qh7(l:List Bz):fits 1 (l.map V.str)=true:=by simp[fits]
set_option maxRecDepth 20000
noncomputable def c42:F':=⟨63,[.t 2],.k [.a 2 (.sl true [])] (.k [.a 3 (.sl true [])] (.seq (.k [.G 4 0] (.block 0 (.loop (.seq (.k [.m 7 4,.m 8 0,.L 9 8,.b 10 .lss 7 9] (.d 10 .skip (.exit 0))) (.seq (.block 1 (.k [.G 5 0] (.seq (.block 2 (.loop (.seq (.seq (.draw [.p (.m 13 5) [],.p (.m 14 3) [],.p (.L 15 14) [1],.p (.b 16 .lss 13 15) [0,2,1],.p (.m 17 16) [3,0,2,1],.p (.V 18 17 true 3) [4,3,0,2,1],.p (.V 19 17 true 5) [4,3,0,2,1],.p (.v 20 17 true (.ia 1 (.t 18) (.t 19))) [5,6,4,3,0,2,1],.p (.M 21 17 true 20) [7,5,6,4,3,0,2,1],.p (.V 22 17 true 0) [4,3,0,2,1],.p (.V 23 17 true 4) [4,3,0,2,1],.p (.v 24 17 true (.ia 1 (.t 22) (.t 23))) [9,10,4,3,0,2,1],.p (.M 25 17 true 24) [11,9,10,4,3,0,2,1],.p (.N 26 17 true .lss 21 25) [8,12,7,5,6,11,9,10,4,3,0,2,1],.p (.y 27 17 26) [13,8,12,7,5,6,11,9,10,4,3,0,2,1]] []) (.d 27 .skip (.exit 2))) (.block 3 (.reg [.m 28 5,.u 29 .add 28 1,.m 5 29]))))) (.seq (.seq (.draw [.p (.m 30 5) [],.p (.m 31 3) [],.p (.L 32 31) [1],.p (.b 33 .lss 30 32) [0,2,1],.p (.m 34 33) [3,0,2,1],.p (.V 35 34 true 3) [4,3,0,2,1],.p (.V 36 34 true 5) [4,3,0,2,1],.p (.v 37 34 true (.ia 1 (.t 35) (.t 36))) [5,6,4,3,0,2,1],.p (.M 38 34 true 37) [7,5,6,4,3,0,2,1],.p (.V 39 34 true 0) [4,3,0,2,1],.p (.V 40 34 true 4) [4,3,0,2,1],.p (.v 41 34 true (.ia 1 (.t 39) (.t 40))) [9,10,4,3,0,2,1],.p (.M 42 34 true 41) [11,9,10,4,3,0,2,1],.p (.N 43 34 true .eql 38 42) [8,12,7,5,6,11,9,10,4,3,0,2,1],.p (.y 44 34 43) [13,8,12,7,5,6,11,9,10,4,3,0,2,1]] []) (.d 44 (.exit 1) .skip)) (.k [.a 6 (.sl true [])] (.k [.m 45 6,.m 46 3,.m 47 5,.o 48 (.slc false 1 (.t 46) none (some (.t 47))),.o 49 (.app 1 16 (.t 45) (.t 48)),.m 6 49] (.k [.m 50 6,.m 51 0,.m 52 4,.i 53 1 51 52,.l 54 53,.o 55 (.bsl 1 [(.t 54)]),.o 56 (.app 1 16 (.t 50) (.t 55)),.m 6 56] (.reg [.m 57 6,.m 58 3,.m 59 5,.o 60 (.slc false 1 (.t 58) (some (.t 59)) none),.o 61 (.app 1 16 (.t 57) (.t 60)),.m 3 61])))))))) (.reg [.m 11 4,.u 12 .add 11 1,.m 4 12])))))) (.k [.m 62 3,.m 2 62] .ret)))⟩
theorem ok42:okF f42 c42:=okI
theorem qa1(x y:Bz):js x y=true↔ltB x y:=by
 unfold js ltB;rw[zJ,zJ,Go.Proofs.bytesLess_eq,decide_eq_true_eq]
theorem qcI{x:Bz}:∀{l:List Bz},(YT l x).length≤l.length+1
 | []=>by simp[YT]
 | y::l=>by
  have:=qcI (x:=x) (l:=l);unfold YT;split
  ·simp only[qpF];omega
  ·split <;> simp
def qj7(S:St)(sz:Nat)(d:V)(lo hi:Option Int):Option V:=match d with
 | .sl ..=>zq S sz d lo hi
 | .arr ..=>zq S sz d lo hi
 | _=>none
theorem kM(e:Env)(S:St)(sz:Nat)(x:Opd)(lo hi:Option Opd):evK e S (.slc false sz x lo hi)=(x.ev e).bind fun d=>(QW e lo).bind fun l=>(QW e hi).bind fun h=>(qj7 S sz d l h).map fun r=>(r,S):=by
 simp only[evK]
 cases x.ev e with
 | none=>rfl
 | some d=>cases QW e lo with
  | none=>rfl
  | some l=>cases QW e hi with
   | none=>rfl
   | some h=>cases d <;> rfl
theorem Gr.rd{n0:Nat}{ys:List Bz}{v:V}{S:St}(h:Gr 1 n0 (ys.map .str) v S):Rd v ys S:=by
 rcases h with ⟨h1,rfl⟩|⟨l,wr,h1,rfl,h3,h4⟩
 ·have:ys=[]:=by simpa using h1
  subst this;exact Rd.sl true [] S
 ·rw[qps] at h4 ⊢;exact Rd.arr h3 h4
theorem Gr.ne{sz n0:Nat}{xs:List V}{v:V}{S:St}(h:Gr sz n0 xs v S){l:Nat}(hl:l<n0)(n:Nat):v≠.arr l 0 n n:=by
 rcases h with ⟨_,rfl⟩|⟨l',wr,h1,rfl,_⟩
 ·simp
 ·intro hh;injection hh with hh;omega
theorem Gr.fst{sz n0:Nat}{xs:List V}{v:V}{S:St}(h:Gr sz n0 xs v S){k:Nat}(hk:k≤xs.length):∃a,qj7 S sz v none (some (k:Int))=some a∧elems S a=some (xs.take k):=by
 rcases h with ⟨rfl,rfl⟩|⟨l,wr,h1,rfl,h3,h4⟩
 ·have:k=0:=by simpa using hk
  subst this;exact ⟨.sl true [],rfl,rfl⟩
 ·refine ⟨.arr l 0 k xs.length,?_,?_⟩
  ·simp only[qj7,zq,Option.getD_none,qrf];rw[if_pos ⟨by omega,by omega,by omega⟩];simp
  ·simp only[elems,h3];rw[if_pos ⟨h4,by omega⟩];simp
theorem Gr.snd{sz n0:Nat}{xs:List V}{v:V}{S:St}(h:Gr sz n0 xs v S){k:Nat}(hk:k≤xs.length):∃a,qj7 S sz v (some (k:Int)) none=some a∧elems S a=some (xs.drop k):=by
 rcases h with ⟨rfl,rfl⟩|⟨l,wr,h1,rfl,h3,h4⟩
 ·have:k=0:=by simpa using hk
  subst this;exact ⟨.sl true [],rfl,rfl⟩
 ·simp only[qj7,zq,Option.getD_none,qrf];rw[if_pos ⟨by omega,by omega,by omega⟩];by_cases h0:k=0
  ·subst h0;refine ⟨_,if_pos rfl,?_⟩;simp only[elems,h3];rw[if_pos ⟨h4,by omega⟩];simp
  ·rw[if_neg (by omega)];by_cases hn:k=xs.length
   ·exact ⟨_,if_pos (by omega),by rw[hn,List.drop_length];rfl⟩
   ·rw[if_neg (by omega),h3];simp only[];refine ⟨_,if_pos ⟨h4,trivial⟩,?_⟩;simp only[elems,h3,qq3,qqk];rw[if_pos ⟨h4,by omega⟩,qp8 (by rw[List.length_drop];exact qpo _)]
theorem Gr.put{n0 k:Nat}{xs:List V}{y ov:V}{U:St}(h:Gr 1 n0 xs ov U)(hn:n0≤U.length)(hk:k≤xs.length)(hy:fits 1 [y]=true)(hx:fits 1 xs=true)(hl:xs.length≤1000000)(b:Bool):
  ∃(a v1:V) (U1:St) (v2:V) (U2:St) (c v3:V) (U3:St),qj7 U 1 ov none (some (k:Int))=some a∧Z7 U 1 16 (.sl true []) a=some (v1,U1)∧(∀(l:Nat) (o:Ob),U[l]?=some o→U1[l]?=some o)∧U.length≤U1.length∧Z7 U1 1 16 v1 (.sl b [y])=some (v2,U2)∧
   qj7 U2 1 ov (some (k:Int)) none=some c∧Z7 U2 1 16 v2 c=some (v3,U3)∧Gr 1 n0 (xs.take k++y::xs.drop k) v3 U3∧(∀(l:Nat) (o:Ob),U[l]?=some o→U3[l]?=some o)∧U.length≤U3.length:=by
 have ft:∀z:List V,(∀x,x∈z→x∈xs)→fits 1 z=true:=fun z hz=>by
  unfold fits at hx ⊢;rw[qpG] at hx ⊢;exact fun x h=>hx x (hz x h)
 obtain ⟨a,ha,ea⟩:=h.fst hk;obtain ⟨v1,U1,p1,g1,l1,k1,_⟩:=(Gr.nil 1 U.length U).appE (bytes:=16) ea (ft _ fun x hx=>List.mem_of_mem_take hx) (by simp;omega) (qpo _);rw[qqF] at g1;have k1:∀l o,U[l]?=some o→U1[l]?=some o:=fun l o ho=>k1 l o ho fun n=>by simp
 have e1:elems U1 (.sl b [y])=some [y]:=rfl;obtain ⟨v2,U2,p2,g2,l2,k2,_⟩:=g1.appE (bytes:=16) e1 hy (by simp;omega) l1;have k2:∀l o,U[l]?=some o→U2[l]?=some o:=fun l o ho=>k2 l o (k1 l o ho) fun n=>g1.ne (glt ho) n
 have h2:Gr 1 n0 xs ov U2:=h.keep fun l _ hl=>by
  rw[qpn hl];exact k2 l _ (qpn hl)
 obtain ⟨c,hc,ec⟩:=h2.snd hk;obtain ⟨v3,U3,p3,g3,l3,k3,_⟩:=g2.appE (bytes:=16) ec (ft _ fun x hx=>List.mem_of_mem_drop hx) (by simp;omega) (by omega);refine ⟨a,v1,U1,v2,U2,c,v3,U3,ha,p1,k1,l1,p2,hc,p3,?_,fun l o ho=>k3 l o (k2 l o ho) fun n=>g2.ne (glt ho) n,by omega⟩;have:=g3.less hn;rw[qpB] at this;exact this
def Sd(l:List Bz)(i:Nat):List Bz:=(l.take i).foldl YT []
theorem qj6{l:List Bz}{i:Nat}(h:i<l.length):Sd l (i+1)=YT (Sd l i) l[i]:=by
 unfold Sd;rw[qpI,qpn h,qqd,qpX];rfl
theorem qav:∀{l out:List Bz},(l.foldl YT out).length≤out.length+l.length
 | [],out=>by simp
 | x::l,out=>by
  have h1:=qav (l:=l) (out:=YT out x);have h2:=qcI (x:=x) (l:=out);rw[qq4,qpF];omega
theorem qm8(l:List Bz)(i:Nat):(Sd l i).length≤l.length:=by
 have h1:=qav (l:=l.take i) (out:=[]);have h2:=List.length_take_le i l;unfold Sd;simp only[qqj] at h1;have h3:(l.take i).length≤l.length:=by rw[qqA];omega
 omega
structure Sq(l:List Bz)(S:St)(i:Nat)(ov:V)(U:St):Prop where
 g:Gr 1 S.length ((Sd l i).map .str) ov U
 k:Kp (fun _=>False) S U
theorem qmA(v:V)(l:List Bz)(hl:l.length≤100000)(S:St)(hr:∀U,Kp (fun _=>False) S U→Rd v l U):
    qt prog 42 [v] S (fun r U=>r=.sl false ((l.foldl YT []).map .str)∧Kp (fun _=>False) S U):=by
  refine qt.ib func42 ok42 ?_;simp[c42];refine qO (fun e U=>∃ov,e.get 3=some ov∧Sq l S l.length ov U) ?_ ?_
  · refine qw (fun j e U=>∃(i:Nat) (ov:V),j=l.length - i∧i≤l.length∧Sq l S i ov U∧e=[(4,.int .i64 i),(3,ov),(0,v)]) l.length _ ?_ ⟨0,.sl true [],by simp,by omega,⟨Gr.nil _ _ _,Kp.refl _ _⟩,rfl⟩ ?_
    · exact Env.so (by simp)
    rintro j e U ⟨i,ov,rfl,hi,hq,rfl⟩;obtain ⟨hlen,hrd⟩:=hr U hq.k;have hU:=hq.k.len;by_cases h:i<l.length
    case neg=>
      have:i=l.length:=by omega
      subst this;simp[↓zW,hlen];exact hq
    obtain ⟨p,hp1,hp2⟩:=hrd i h;have hsl:=qm8 l i;obtain ⟨hol,hod⟩:=hq.g.rd;have hnx:=qj6 h;obtain ⟨x,hx⟩:∃x,x=l[i]:=⟨_,rfl⟩;rw[←hx] at hp2 hnx;obtain ⟨d,hd⟩:∃d,d=Sd l i:=⟨_,rfl⟩;rw[←hd] at hnx hsl hol hod;simp[↓zW,hlen,h];refine qO (fun e' U'=>U'=U∧∃k:Nat,k≤d.length∧(∀j y,j<k→d[j]?=some y→ltB y x)∧(∀y,d[k]?=some y→¬ ltB y x)∧e'.get 0=some v∧e'.get 3=some ov∧e'.get 4=some (.int .i64 i)∧e'.get 5=some (.int .i64 k)) ?_ ?_
    · refine qw (fun j e' U'=>∃k:Nat,j=d.length - k∧k≤d.length∧U'=U∧(∀j y,j<k→d[j]?=some y→ltB y x)∧e'=[(5,.int .i64 k),(4,.int .i64 i),(3,ov),(0,v)]) d.length _ ?_ ⟨0,by simp,by omega,rfl,fun j y hj=>by omega,rfl⟩ ?_
      · exact Env.so (by simp)
      rintro j e' U' ⟨k,rfl,hk,rfl,hlt,rfl⟩;by_cases hkl:k<d.length
      · obtain ⟨q,hq1,hq2⟩:=hod k hkl
        cases hs:js d[k] x with
        | true=>
          simp[↓zW,hol,hkl,hq1,hq2,hp1,hp2,hs];refine yg rfl rfl ?_;simp[hs,ze (n:=(k:Int)+1)];refine ⟨_,?_,_,?_,k+1,rfl,by omega,fun j y hj hy=>?_,rfl⟩
          · omega
          · exact Env.so (by simp)
          · by_cases hjk:j=k
            · subst hjk;rw[qpn hkl] at hy;cases hy;exact (qa1 _ _).1 hs
            · exact hlt j y (by omega) hy
        | false=>
          simp[↓zW,hol,hkl,hq1,hq2,hp1,hp2,hs];refine yg rfl rfl ?_;simp[hs];refine ⟨k,hk,hlt,fun y hy=>?_,rfl⟩;rw[qpn hkl] at hy;cases hy;rw[←qa1,hs];simp
      · have:k=d.length:=by omega
        subst this;simp[↓zW,hol];refine yg rfl rfl ?_;simp;exact ⟨d.length,qpo _,hlt,fun y hy=>by simp at hy,rfl⟩
    rintro e' U' ⟨rfl,k,hk,h1,h2,g0,g3,g4,g5⟩;have hat:=qer d k hk h1 h2;by_cases hkx:d[k]?=some x
    · obtain ⟨hkl,hkx'⟩:=qpi.1 hkx;obtain ⟨q,hq1,hq2⟩:=hod k hkl;rw[hkx'] at hq2;rw[if_pos hkx] at hat;simp[↓zW,g0,g3,g4,g5,hol,hkl,hq1,hq2,hp1,hp2];refine yg rfl rfl ?_;simp[g0,g3,g4,g5,ze (n:=(i:Int)+1)];refine ⟨_,?_,_,?_,i+1,rfl,by omega,ov,⟨by rw[hnx,hat,hd];exact hq.g,hq.k⟩,rfl⟩
      · omega
      · repeat' first|exact Env.sub_nil _|refine Env.sub_cons (by simp[g0,g3]) ?_
    · rw[if_neg hkx] at hat;have hg:Gr 1 S.length (d.map .str) ov U':=by rw[hd];exact hq.g
      obtain ⟨a,v1,U1,v2,U2,c,v3,U3,q1,q2,q3,q4,q5,q6,q7,q8,q9,q10⟩:=hg.put (y:=.str x) (b:=true) hU (by rw[qps];exact hk) rfl (qh7 d) (by rw[qps];omega)
      have kU:∀{Y:St},(∀(l:Nat) (o:Ob),U'[l]?=some o→Y[l]?=some o)→U'.length≤Y.length→Kp (fun _=>False) S Y:=fun {Y} hV hl=>⟨by omega,fun m hm hn=>by
        have h1:=hq.k.get m hm hn;have h2:m<U'.length:=by omega
        rw[←h1,qpn h2];exact hV m _ (qpn h2)⟩
      obtain ⟨_,hrd1⟩:=hr U1 (kU q3 q4);obtain ⟨p',hp3,hp4⟩:=hrd1 i h;rw[←hx] at hp4;have hft:fits 1 [V.str x]=true:=rfl;have hq3:Sq l S (i+1) v3 U3:=⟨by rw[hnx,hat];simpa using q8,kU q9 q10⟩;by_cases hkl:k<d.length
      · obtain ⟨q,hq1,hq2⟩:=hod k hkl;have hne:¬ d[k]=x:=fun hh=>hkx (by rw[qpn hkl,hh])
        simp[↓zW,↓kM,g0,g3,g4,g5,hol,hkl,hq1,hq2,hp1,hp2,hne];refine yg rfl rfl ?_;simp[↓zW,↓kM,QW,g0,g3,g4,g5,q1,q2,hp3,hp4,hft,q5,q6,q7,ze (n:=(i:Int)+1)];refine ⟨_,?_,_,?_,i+1,rfl,by omega,v3,hq3,rfl⟩
        · omega
        · repeat' first|exact Env.sub_nil _|refine Env.sub_cons (by simp[g0,g3]) ?_
      · simp[↓zW,↓kM,g0,g3,g4,g5,hol,hkl];refine yg rfl rfl ?_;simp[↓zW,↓kM,QW,g0,g3,g4,g5,q1,q2,hp3,hp4,hft,q5,q6,q7,ze (n:=(i:Int)+1)];refine ⟨_,?_,_,?_,i+1,rfl,by omega,v3,hq3,rfl⟩
        · omega
        · repeat' first|exact Env.sub_nil _|refine Env.sub_cons (by simp[g0,g3]) ?_
  rintro e U ⟨ov,g3,hq⟩;simp[g3];have hsd:Sd l l.length=l.foldl YT []:=by unfold Sd;rw[qp9]
  have hq1:=hq.g;rw[hsd] at hq1
  obtain ⟨U',gh,hk⟩:∃U',zy S.length ov U (.sl false ((l.foldl YT []).map .str)) U'∧Kp (fun _=>False) S U':=by
    rcases hq1 with ⟨h1,rfl⟩|⟨m,wr,h1,rfl,h3,h4⟩
    · rw[h1];exact ⟨U,zy.weak (r:=.sl true []),hq.k⟩
    · have g1:=zy.freeze (n:=S.length) (l:=m) (off:=0) (len:=((l.foldl YT []).map V.str).length) (st:=((l.foldl YT []).map V.str).length) h3 h4 (by omega);simp only[List.drop_zero,qp9] at g1;exact ⟨_,g1,hq.k.set _ (.inr h1)⟩
  exact ⟨_,rfl,_,U',gh,rfl,hk⟩
theorem qkn(x:Bz){p3 p5 p7 t3 t5 m:Nat}{tks fks:List Bz}{b1 b2:List Nat}{c1 c2:Nat}{c:Bz→Int}{S:St}(h3:S[p3]?=some (.arr [.map t3] 1 1))(h3':S[t3]?=some (.map (tks.map kv) b1 c1))(h5:S[p5]?=some (.arr [.map t5] 1 1))(h5':S[t5]?=some (.map (fks.map kv) b2 c2))(h7:S[p7]?=some (.arr [.map m] 1 1))(hc:Cm c m S):
  Fn prog 146 [.str x,.ptr p3 0 0 1,.ptr p5 0 0 1,.ptr p7 0 0 1] S (.bool (JQ x tks || JQ x fks || decide (0<c x))):=by
 refine qt.ib func146 ok146 ?_;have l1:=qfN x h3';have l2:=qfN x h5';have l3:=hc.get x
 cases h1:JQ x tks with
 | true=>
  rw[h1] at l1;simp[c146,ldS,h3,evX,l1,V.part,V.cells];exact qf rfl ⟨rfl,rfl⟩
 | false=>
  rw[h1] at l1
  cases h2:JQ x fks with
  | true=>
   rw[h2] at l2;simp[c146,ldS,h3,h5,evX,l1,l2,V.part,V.cells];exact qf rfl ⟨rfl,rfl⟩
  | false=>
   rw[h2] at l2;simp[c146,ldS,h3,h5,h7,evX,l1,l2,l3,V.part,V.cells];exact qf rfl ⟨by simp[qp],rfl⟩
theorem Rd.flat{v:V}{l:List Bz}{S:St}(h:Rd v l S):v.cells=[v]∧v.flat=true∧v.size=1:=by
 have:=h.1;cases v <;> simp[lenS] at this <;> exact ⟨rfl,rfl,rfl⟩
theorem qk8(p c k:Nat)(x y:Bz)(tv:V)(l:List Bz)(U:St)(hp:U[p]?=some (plc x k y))(hc:U[c]?=some (.arr [tv] 1 1))(hr:Rd tv l U)(hk:k<l.length):
  qt prog 147 [.ptr p 0 0 1,.ptr c 0 0 1] U (fun _ U'=>U'=U.set p (plc x k (lf l k))):=by
 refine qt.ib func147 ok147 ?_;have hlf:lf l k=l[k]:=by unfold lf;rw[qpn hk];rfl
 have hfl:=hr.flat;obtain ⟨q,q1,q2⟩:=hr.2 k hk;rw[hlf];unfold plc at hp ⊢;have e1:ldS U (.ptr p 0 0 1) none=some (.int .i64 k):=by simp[ldS,hp]
 have e2:ldS U (.ptr c 0 0 1) none=some tv:=by simp[ldS,hc,hfl]
 have e3:stS U (.ptr p 0 2 1) 1 (.str l[k])=some (U.set p (.arr [.agg [.int .i64 k,.str x,.str l[k]]] 3 1)):=by simp[stS,hp,qi]
 simp[c147,e1,e2,zQ,q1,q2,e3];refine yg rfl rfl ?_;exact qv rfl rfl
structure Ap(l:List Bz)(c:Nat)(tv:V)(F D:Np)(U:St):Prop where
 f:∀x,¬ F x
 d:∀x,D x↔x=c∨∃n,tv=.arr x 0 n n
 c:U[c]?=some (.arr [tv] 1 1)
 t:(l=[]∧tv=.sl true [])∨∃a wr,tv=.arr a 0 l.length l.length∧U[a]?=some (.arr (l.map .str) 1 wr)∧wr≤l.length
section
variable {l:List Bz} {c:Nat} {tv:V} {F D:Np} {U:St}
theorem Ap.rd(k:Ap l c tv F D U):Rd tv l U:=by
 rcases k.t with ⟨rfl,rfl⟩|⟨a,wr,rfl,h1,h2⟩
 ·exact Rd.sl true [] U
 ·exact Rd.arr h1 h2
theorem Ap.gD(k:Ap l c tv F D U){x:Nat}(h:D x):∃o,U[x]?=some o∧(∀i,o≠.loop i)∧∀y k z,o≠plc y k z:=by
 rcases (k.d x).1 h with rfl|⟨n,hn⟩
 ·refine ⟨_,k.c,by simp,fun y i z hh=>?_⟩;unfold plc at hh;simp at hh
 ·rcases k.t with ⟨_,rfl⟩|⟨a,wr,rfl,h1,h2⟩
  ·cases hn
  ·cases hn;refine ⟨_,h1,by simp,fun y i z hh=>?_⟩;unfold plc at hh;simp at hh
theorem Ap.fr{U':St}{M:Np}(k:Ap l c tv F D U)(hk:Kp M U U')(hM:∀l,M l→l<U.length→¬ F l∧¬ D l):Ap l c tv F D U':=by
 have g:∀{x o},U[x]?=some o→D x→U'[x]?=some o:=fun ho hd=>hk.at ho fun hm=>(hM _ hm (glt ho)).2 hd
 refine ⟨k.f,k.d,g k.c ((k.d _).2 (.inl rfl)),k.t.imp id fun ⟨a,wr,h1,h2,h3⟩=>⟨a,wr,h1,g h2 ((k.d _).2 (.inr ⟨_,h1⟩)),h3⟩⟩
end
def apC(l:List Bz)(c:Nat):Cb where
 toPw:=nuP (lf l)
 fe:=.fn (.func 147) [] [.ptr c 0 0 1]
 fn:=.nilfn
 fc:=.nilfn
 I _ F D U:=∃tv,Ap l c tv F D U
 cn _ _:=True
 lim:=l.length
theorem qmV(l:List Bz)(c:Nat)(hl:l.length≤100001):(apC l c).Ok where
 lim:=hl
 lt:=fun ⟨tv,k⟩ x hx=>by
  rcases hx with hx|hx
  ·exact absurd hx (k.f x)
  ·obtain ⟨o,ho,_⟩:=k.gD hx;exact glt ho
 fr:=fun ⟨tv,k⟩ hk hM=>⟨tv,k.fr hk hM⟩
 lp:=fun ⟨tv,k⟩ x o ho=>⟨k.f x,fun hd=>by
  obtain ⟨o',ho',h1,_⟩:=k.gD hd;rw[ho] at ho';cases ho';exact h1 _ rfl⟩
 ce _ _:=trivial
 cm _ _ _ _:=trivial
 cc _ _ _:=trivial
 real:=fun {h F D S} ⟨tv,k⟩ h'=>⟨F,D,S,⟨tv,k⟩,Kp.refl _ _,grow.refl _ _,grow.refl _ _⟩
 en:=.inr ⟨147,[.ptr c 0 0 1],rfl,fun U p k x h F D hp hF hD hk _ ⟨tv,hI⟩=>by
  refine qt.mono (qk8 p c k x x tv l U hp hI.c hI.rd hk) fun v U' hU=>?_
  subst hU;exact ⟨F,D,⟨tv,hI.fr (M:=fun y=>y=p) ((Kp.refl _ _).set _ (.inl rfl)) fun y hy _=>by rw[hy];exact ⟨hF,hD⟩⟩,qpl (glt hp),(Kp.refl _ _).set _ (.inl (.inl rfl)),grow.refl _ _,fun _ h=>.inl h⟩⟩
 nm:=rfl
 cl:=rfl
structure Az(h:List Bz×List Bz)(m c4 c5 c6:Nat)(v:V)(ps:List Nat)(F D:Np)(q5 q7 mm:Nat)(c:Bz→Int)(U:St):Prop where
 co:Co m c4 c5 c6 h v ps F D U
 x5:U[q5]?=some (.arr [.map m] 1 1)
 x7:U[q7]?=some (.arr [.map mm] 1 1)
 xm:Cm c mm U
 o5:¬ F q5∧¬ D q5
 o7:¬ F q7∧¬ D q7
 om:¬ F mm∧¬ D mm
section
variable {h:List Bz×List Bz} {m c4 c5 c6:Nat} {v:V} {ps:List Nat} {F D:Np} {q5 q7 mm:Nat} {c:Bz→Int} {U:St}
theorem Az.mo(k:Az h m c4 c5 c6 v ps F D q5 q7 mm c U):∃ms bs ck,U[mm]?=some (.map (List.map ki ms) bs ck):=by
 obtain ⟨ms,bs,ck,h,_⟩:=k.xm;exact ⟨ms,bs,ck,h⟩
theorem Az.fr{U':St}{M:Np}(k:Az h m c4 c5 c6 v ps F D q5 q7 mm c U)(hk:Kp M U U')(hM:∀l,M l→l<U.length→¬ F l∧¬ D l∧l≠q5∧l≠q7∧l≠mm):Az h m c4 c5 c6 v ps F D q5 q7 mm c U':=
 ⟨k.co.fr hk fun l hl hh=>⟨(hM l hl hh).1,(hM l hl hh).2.1⟩,hk.at k.x5 fun hh=>(hM _ hh (glt k.x5)).2.2.1 rfl,hk.at k.x7 fun hh=>(hM _ hh (glt k.x7)).2.2.2.1 rfl,k.xm.keep fun o ho=>hk.at ho fun hh=>(hM _ hh (glt ho)).2.2.2.2 rfl,k.o5,k.o7,k.om⟩
theorem Az.put(k:Az h m c4 c5 c6 v ps F D q5 q7 mm c U)(s:Bz)(n:Int):∃o,qap U .str (.map mm) (.str s) (.int .i64 n)=some (U.set mm o)∧Az h m c4 c5 c6 v ps F D q5 q7 mm (fun x=>if x=s then n else c x) (U.set mm o):=by
 obtain ⟨es,bs,ck,h1,h2⟩:=k.xm.put s n;obtain ⟨ms,b0,k0,h3⟩:=k.mo;refine ⟨_,h1,k.co.set _ k.om.1 k.om.2,?_,?_,h2 _ (qpl (glt h3)),k.o5,k.o7,k.om⟩
 ·rw[qpm (jq h3 k.x5 (by simp))];exact k.x5
 ·rw[qpm (jq h3 k.x7 (by simp))];exact k.x7
end
mutual
theorem Sm.bn_nm{nm:Bz→Bool}:∀(s:Sm),(Pa.st s).valid nm=true→∀x,x∈s.bn→nm x=true
 | .mk l k t g e f d b,v,x,hx=>by
  have vd:=Sm.valid_decls v;have vb:=Sm.valid_body v;simp only[Sm.decls,Sm.body] at vd vb
  have lab:x∈qk b→nm x=true:=fun hx=>by
   obtain ⟨y,hy,hx⟩:=qqG.1 hx;exact Sm.valid_labels (vb y hy) x hx
  rw[Sm.bn] at hx;split at hx
  ·rcases qpr.1 hx with hx|hx
   ·rcases qpr.1 hx with hx|hx
    ·rcases qpr.1 (jm hx) with hx|hx
     ·obtain ⟨y,hy,hx⟩:=qqG.1 hx;exact De.valid_names (vd y hy) x hx
     ·exact lab hx
    ·exact De.bnl_nm d vd x hx
   ·exact Sm.bnl_nm b vb x hx
  ·split at hx
   ·rcases qpr.1 hx with hx|hx
    ·exact lab (jm hx)
    ·exact Sm.bnl_nm b vb x hx
   ·exact Sm.bn1_nm b vb x hx
theorem De.bn_nm{nm:Bz→Bool}:∀(s:De),(Pa.de s).valid nm=true→∀x,x∈s.bn→nm x=true
 | .mk k o t ns e fo b,v,x,hx=>by
  have vb:=De.valid_body v;have vf:=De.valid_formals v;simp only[De.body,De.formals] at vb vf;rw[De.bn] at hx;split at hx
  ·rcases qpr.1 hx with hx|hx
   ·obtain ⟨y,hy,rfl⟩:=qpE.1 (jm hx);exact vf y hy
   ·exact Sm.bn1_nm b vb x hx
  ·simp at hx
theorem De.bnl_nm{nm:Bz→Bool}:∀(l:List De),(∀y,y∈l→(Pa.de y).valid nm=true)→∀x,x∈De.bnl l→nm x=true
 | [],_,x,hx=>by simp[De.bnl] at hx
 | y::l,v,x,hx=>by
  rw[De.bnl] at hx;rcases qpr.1 hx with hx|hx
  ·exact De.bn_nm y (v y (by simp)) x hx
  ·exact De.bnl_nm l (fun z hz=>v z (by simp[hz])) x hx
theorem Sm.bnl_nm{nm:Bz→Bool}:∀(l:List Sm),(∀y,y∈l→(Pa.st y).valid nm=true)→∀x,x∈Sm.bnl l→nm x=true
 | [],_,x,hx=>by simp[Sm.bnl] at hx
 | y::l,v,x,hx=>by
  rw[Sm.bnl] at hx;rcases qpr.1 hx with hx|hx
  ·exact Sm.bn_nm y (v y (by simp)) x hx
  ·exact Sm.bnl_nm l (fun z hz=>v z (by simp[hz])) x hx
theorem Sm.bn1_nm{nm:Bz→Bool}:∀(l:List Sm),(∀y,y∈l→(Pa.st y).valid nm=true)→∀x,x∈Sm.bn1 l→nm x=true
 | [],_,x,hx=>by simp[Sm.bn1] at hx
 | y::l,v,x,hx=>by
  rw[Sm.bn1] at hx;rcases qpr.1 hx with hx|hx
  ·rcases qpr.1 hx with hx|hx
   ·exact Sm.valid_labels (v y (by simp)) x (jm hx)
   ·exact Sm.bn_nm y (v y (by simp)) x hx
  ·exact Sm.bn1_nm l (fun z hz=>v z (by simp[hz])) x hx
end
theorem Sm.bounds_nm{nm:Bz→Bool}(s:Sm)(v:(Pa.st s).valid nm=true):∀x,x∈s.bounds→nm x=true:=fun x hx=>(qpr.1 hx).elim (fun h=>Sm.valid_labels v x (jm h)) (Sm.bn_nm s v x)
theorem qhW(s:Sm)(b:Bz):JQ b ((yd (s.wholeH coP coZ)).foldl Qr [])=JQ b s.frees:=by
 rw[qp6,zL,zL];unfold Sm.frees;rw[Zi]
theorem qfB(l:List Bz)(y x:Bz):yS (l++[y]) x=if x=y then yS l y+1 else yS l x:=by
 rw[ZX];simp only[yS];split
 ·rename_i h;rw[h];omega
 ·omega
theorem qfU(a b:List Bz)(y t x:Bz):yS (a++t::b) x=if x=t then (if t=y then yS (a++y::b) y - 1 else yS (a++y::b) t)+1 else if x=y then yS (a++y::b) y - 1 else yS (a++y::b) x:=by
 simp only[ZX,yS];by_cases h1:x=t
 ·subst h1;by_cases h2:x=y
  ·subst h2;simp
  ·simp[h2];omega
 ·by_cases h2:x=y
  ·subst h2;simp[h1];omega
  ·simp[h1,h2]
theorem qoE{v y:V}(hv:v.size=1)(hy:y.cells=[y]∧y.flat=true∧y.size=1):V.upd v 0 1 y=some y:=by
 unfold V.upd;rw[if_pos ⟨hy.2.2,by rw[hy.1];simp[hy.2.1]⟩,if_pos ⟨rfl,hv.symm⟩]
theorem qnu(s:Sm)(hs:s.ok)(va:(Pa.st s).valid qb=true)(hsz:(Pa.st s).size≤4000)(tks:List Bz)(htk:s.frees.length+Sm.nb1 [s]+tks.length≤899)(tk:Nat)(b1:List Nat)(k1:Nat)(S:St)(htS:S[tk]?=some (.map (tks.map kv) b1 k1)):
    qt prog 95 [s.v,.map tk] S (fun r U=>r=(s.whole (lf (apL tks s.frees [] s.bounds))).v∧Kp (fun _=>False) S U):=by
  refine qt.ib func95 ok95 ?_;obtain ⟨S1,hS1⟩:∃S1:St,S1=S++[.arr [s.v] 8 1,.arr [.map tk] 1 1,.arr [smZ] 8 1]:=⟨_,rfl⟩;have p0:S1[S.length]?=some (.arr [s.v] 8 1):=by rw[hS1];simp
  have p1:S1[S.length+1]?=some (.arr [.map tk] 1 1):=by rw[hS1,qpj (by omega)];simp
  have p2:S1[S.length+2]?=some (.arr [smZ] 8 1):=by rw[hS1,qpj (by omega)];simp
  have l1:S1.length=S.length+3:=by rw[hS1];simp
  have kS:Kp (fun _=>False) S S1:=by rw[hS1];exact (Kp.refl _ _).push _
  have pt:S1[tk]?=some (.map (tks.map kv) b1 k1):=kS.at htS id;have d0:ldS S1 (.ptr S.length 0 0 1) (some 8)=some s.v:=by simp[ldS,p0]
  have hN:=s.bounds_len;simp[c95,qM];rw[←hS1];simp[d0];refine qj (qii s hs (by omega) (by omega) S1) ?_;rintro r U ⟨m,c4,c5,c6,v,ps,F,D,rfl,co,kU,far⟩;have hb2:(s.wholeH coP ([],[]):List Bz×List Bz).2=s.bounds:=s.whole_bounds;have hlv:=co.lenS;rw[hb2] at hlv;have hvc:v.cells=[v]∧v.flat=true∧v.size=1:=by rcases co.gr with ⟨_,rfl⟩|⟨a,wr,rfl,_⟩ <;> exact ⟨rfl,rfl,rfl⟩
  have lU:=kU.len;obtain ⟨h,hh⟩:∃h:List Bz×List Bz,h=(s.wholeH coP ([],[]):List Bz×List Bz):=⟨_,rfl⟩;obtain ⟨U2,hU2⟩:∃U2:St,U2=U++[.arr [.map m] 1 1,.map [] [] 0,.arr [.map (U.length+1)] 1 1]:=⟨_,rfl⟩;have out:∀l,U.length≤l→¬ F l∧¬ D l:=fun l hl=>⟨fun hf=>by have:=co.lt (.inl hf);omega,fun hf=>by have:=co.lt (.inr hf);omega⟩
  have az:Az h m c4 c5 c6 v ps F D U.length (U.length+2) (U.length+1) (fun _=>0) U2:=by
    rw[hU2,hh];refine ⟨co.push _,by simp,by rw[qpj (by omega)];simp,⟨[],[],0,by rw[qpj (by omega)];simp,fun _=>rfl⟩,out _ (by omega),out _ (by omega),out _ (by omega)⟩
  have kU2:Kp (fun _=>False) S1 U2:=by rw[hU2];exact kU.push _
  have hbl:s.bounds.length<900:=by omega
  simp[qM,evX,stS,Yn,↓zW,hlv];rw[←hU2];refine qO (fun e X=>Az h m c4 c5 c6 v ps F D U.length (U.length+2) (U.length+1) (yS s.bounds) X∧Kp (fun _=>False) S1 X∧U2.length≤X.length∧e.get 2=some (.ptr S.length 0 0 1)∧e.get 3=some (.ptr (S.length+1) 0 0 1)∧e.get 4=some (.ptr (S.length+2) 0 0 1)∧e.get 5=some (.ptr U.length 0 0 1)∧e.get 6=some v∧e.get 7=some (.ptr (U.length+2) 0 0 1)) ?_ ?_
  · refine qw (fun j e X=>∃i:Nat,j=s.bounds.length - i∧i≤s.bounds.length∧Az h m c4 c5 c6 v ps F D U.length (U.length+2) (U.length+1) (yS (s.bounds.take i)) X∧Kp (fun _=>False) S1 X∧U2.length≤X.length∧
      e=[(23,.int .i64 i),(22,.int .i64 s.bounds.length),(21,v),(7,.ptr (U.length+2) 0 0 1),(6,v),(5,.ptr U.length 0 0 1),(4,.ptr (S.length+2) 0 0 1),(3,.ptr (S.length+1) 0 0 1),(2,.ptr S.length 0 0 1)]) s.bounds.length _ ?_ ⟨0,by simp,by omega,az,kU2,qpo _,rfl⟩ ?_
    · exact Env.so (by simp)
    rintro j e X ⟨i,rfl,hi,az,kX,lX,rfl⟩;by_cases hlt:i<s.bounds.length
    · have hlt':i<h.2.length:=by rw[hh,hb2];exact hlt
      obtain ⟨p,l,st,h1,h2,h3⟩:=az.co.at hlt';have hx:h.2[i]=s.bounds[i]:=by simp only[hh,hb2]
      rw[hx] at h3;obtain ⟨x,hxx⟩:∃x,x=s.bounds[i]:=⟨_,rfl⟩;rw[←hxx] at h3;unfold plc at h3;have h4:ldS X (.ptr p 0 1 1) none=some (.str x):=by simp only[ldS,h3];rfl
      have h7:ldS X (.ptr (U.length+2) 0 0 1) none=some (.map (U.length+1)):=by simp[ldS,az.x7,V.part,V.cells]
      have hg:=az.xm.get x;have hle:=JF x (s.bounds.take i);have htl:(s.bounds.take i).length≤900:=by rw[qqA];omega
      obtain ⟨o,hp,az2⟩:=az.put x (yS (s.bounds.take i) x+1)
      have hc:(fun y=>if y=x then yS (s.bounds.take i) x+1 else yS (s.bounds.take i) y)=yS (s.bounds.take (i+1)):=by
        funext y;rw[qpI,qpn hlt,qqd,←hxx,qfB]
      rw[hc] at az2;have i1:=qz (n:=yS (s.bounds.take i) x+1) (by omega) (by omega);simp[hlt,h1,h2,zQ,h7,h4,evX,hg,i1,hp];refine yg rfl rfl ?_;simp[ze (n:=(i:Int)+1)];refine ⟨_,?_,_,?_,i+1,rfl,by omega,az2,kX.set _ (.inr (by omega)),by simpa using lX,rfl⟩
      · omega
      · exact Env.so (by simp)
    · have:i=s.bounds.length:=by omega
      subst this;rw[qp9] at az;simp;exact ⟨az,kX,lX⟩
  clear az kU2;rintro e X ⟨az,kX,lX,g2,g3,g4,g5,g6,g7⟩;simp[g2,g3,g4,g5,g6,g7,qM,stS,↓zW,hlv];obtain ⟨Q,hQ⟩:∃Q,Q=X.length:=⟨_,rfl⟩;rw[←hQ];obtain ⟨dn,hdn⟩:∃dn:Nat→List Bz,dn=fun i=>apD tks s.frees [] s.bounds i:=⟨_,rfl⟩
  have dn0:dn 0=[]:=by rw[hdn];simp[apD]
  have dnl:∀i,i≤s.bounds.length→(dn i).length=i:=fun i hi=>by rw[hdn];simpa using jO tks s.frees s.bounds [] i hi
  have dns:∀i (hi:i<s.bounds.length),dn (i+1)=dn i++[apN tks s.frees (dn i) s.bounds[i] (s.bounds.drop (i+1))]:=fun i hi=>by rw[hdn];exact qcY tks s.frees s.bounds [] i hi
  have hU2l:U2.length=U.length+3:=by rw[hU2];simp
  have lo:∀l,Q≤l→¬ F l∧¬ D l∧l≠U.length∧l≠U.length+2∧l≠U.length+1:=fun l hl=>⟨fun hf=>by have:=az.co.lt (.inl hf);omega,fun hf=>by have:=az.co.lt (.inr hf);omega,by omega,by omega,by omega⟩
  obtain ⟨Inv,hInv⟩:∃Inv:Nat→V→St→Prop,∀i tv Y,Inv i tv Y↔(Az h m c4 c5 c6 v ps F D U.length (U.length+2) (U.length+1) (yS (dn i++s.bounds.drop i)) Y∧Kp (fun _=>False) S1 Y∧Y[Q]?=some (.arr [tv] 1 1)∧Gr 1 (Q+1) ((dn i).map .str) tv Y):=⟨_,fun _ _ _=>Iff.rfl⟩;have step:∀(i:Nat) (hi:i<s.bounds.length) (Y:St) (tv:V),Az h m c4 c5 c6 v ps F D U.length (U.length+2) (U.length+1) (yS (dn (i+1)++s.bounds.drop (i+1))) Y→Kp (fun _=>False) S1 Y→Y[Q]?=some (.arr [tv] 1 1)→Gr 1 (Q+1) ((dn i).map .str) tv Y→
      ∃tv' Z,Z7 Y 1 16 tv (.sl true [.str (apN tks s.frees (dn i) s.bounds[i] (s.bounds.drop (i+1)))])=some (tv',Z)∧Z[Q]?=some (.arr [tv] 1 1)∧tv'.cells=[tv']∧tv'.flat=true∧tv'.size=1∧Inv (i+1) tv' (Z.set Q (.arr [tv'] 1 1)):=fun i hi Y tv az kY hq hg=>by
    have lY:=glt hq;obtain ⟨tv',Z,h1,h2,h3,h4⟩:=hg.app1 (bytes:=16) (y:=.str (apN tks s.frees (dn i) s.bounds[i] (s.bounds.drop (i+1)))) (b:=true) rfl (by rw[qps,dnl i (by omega)];omega) (by omega);have h5:(dn i).map V.str++[.str (apN tks s.frees (dn i) s.bounds[i] (s.bounds.drop (i+1)))]=(dn (i+1)).map .str:=by rw[dns i hi,qpH];rfl
    rw[h5] at h2;have hf:=h2.rd.flat;have kZ:Kp (fun l=>Q≤l) Y Z:=⟨h3,fun l hl hn=>h4 l (by omega)⟩;refine ⟨tv',Z,h1,?_,hf.1,hf.2.1,hf.2.2,(hInv _ _ _).2 ⟨?_,?_,?_,?_⟩⟩
    · rw[h4 Q (by omega)];exact hq
    · exact az.fr (M:=fun l=>Q≤l) (kZ.set _ (.inl (qpo _))) fun l hl _=>lo l hl
    · have h6:Kp (fun _=>False) S1 Z:=⟨by have:=kY.len;omega,fun l hl hn=>by rw[h4 l (by have:=kX.len;omega)];exact kY.get l hl hn⟩;exact h6.set _ (.inr (by have:=kX.len;omega))
    · exact qpl (by omega)
    · refine h2.keep fun l hl _=>?_
      rw[qpm (by omega)]
  refine qO (fun e Y=>∃tv,Inv s.bounds.length tv Y∧e.get 2=some (.ptr S.length 0 0 1)∧e.get 4=some (.ptr (S.length+2) 0 0 1)∧e.get 10=some (.ptr Q 0 0 1)) ?_ ?_
  · refine qw (fun j e Y=>∃(i:Nat) (tv:V),j=s.bounds.length - i∧i≤s.bounds.length∧Inv i tv Y∧
      e=[(37,.int .i64 i),(36,.int .i64 s.bounds.length),(35,v),(10,.ptr Q 0 0 1),(7,.ptr (U.length+2) 0 0 1),(5,.ptr U.length 0 0 1),(4,.ptr (S.length+2) 0 0 1),(3,.ptr (S.length+1) 0 0 1),(2,.ptr S.length 0 0 1)]) s.bounds.length _ ?_ ⟨0,.sl true [],by simp,by omega,(hInv _ _ _).2 ⟨?_,?_,?_,?_⟩,rfl⟩ ?_
    · repeat' first|exact Env.sub_nil _|refine Env.sub_cons (by simp[g2,g3,g4,g5,g6,g7]) ?_
    · rw[dn0,List.drop_zero,qqF];exact az.fr (M:=fun _=>False) ((Kp.refl _ _).push _) fun _ h=>h.elim
    · exact kX.push _
    · rw[hQ];simp
    · rw[dn0];exact Gr.nil _ _ _
    rintro j e Y ⟨i,tv,rfl,hi,hI,rfl⟩;obtain ⟨az,kY,hq,hg⟩:=(hInv _ _ _).1 hI;by_cases hlt:i<s.bounds.length
    · have hlt':i<h.2.length:=by rw[hh,hb2];exact hlt
      obtain ⟨p,l,st,h1,h2,h3⟩:=az.co.at hlt';have hx:h.2[i]=s.bounds[i]:=by simp only[hh,hb2]
      rw[hx] at h3;have hap:apN tks s.frees (dn i) s.bounds[i] (s.bounds.drop (i+1))=if JQ s.bounds[i] tks=true then frs s.bounds[i] (s.frees++(dn i++s.bounds[i]::s.bounds.drop (i+1))++tks) else s.bounds[i]:=rfl
      have hst:=step i hlt;have hdl:=dnl i hi;have hds:=dns i hlt;have hdr:s.bounds.drop i=s.bounds[i]::s.bounds.drop (i+1):=qqQ hlt;have hxs:s.bounds[i].size≤16:=ZG (s.bounds_nm va _ (qpz hlt));rw[hdr] at az;obtain ⟨rest,hrest⟩:∃rest,rest=s.bounds.drop (i+1):=⟨_,rfl⟩;have hrl:rest.length=s.bounds.length - (i+1):=by rw[hrest,List.length_drop]
      obtain ⟨x,hxx⟩:∃x,x=s.bounds[i]:=⟨_,rfl⟩;rw[←hxx,←hrest] at hap hst hds az;rw[←hxx] at h3 hxs;unfold plc at h3;have h4:ldS Y (.ptr p 0 1 1) none=some (.str x):=by simp only[ldS,h3];rfl
      have e1:=kY.at p1 id;have q3:ldS Y (.ptr (S.length+1) 0 0 1) none=some (.map tk):=by simp[ldS,e1,V.part,V.cells]
      have tkY:=kY.at pt id;have hlk:=qfN x tkY;have htf:=hg.rd.flat;have lq:∀{Z:St},Z[Q]?=some (.arr [tv] 1 1)→ldS Z (.ptr Q 0 0 1) none=some tv:=fun hZ=>by simp[ldS,hZ,htf]
      cases hin:JQ x tks with
      | false=>
        rw[hin] at hap hlk;rw[if_neg (by simp)] at hap;rw[hap] at hst hds;obtain ⟨tv',Z,a1,a2,a3,a4,a5,a6⟩:=hst Y tv (by rw[hds,qpB];exact az) kY hq hg;have sq:stS Z (.ptr Q 0 0 1) 1 tv'=some (Z.set Q (.arr [tv'] 1 1)):=by simp[stS,a2,qoE htf.2.2 ⟨a3,a4,a5⟩]
        have hft:fits 1 [V.str x]=true:=rfl;simp[hlt,h1,h2,zQ,h4,q3,evX,hlk,lq hq,hft,a1,sq,ze (n:=(i:Int)+1)];refine ⟨_,?_,_,?_,i+1,rfl,by omega,⟨tv',a6⟩,rfl⟩
        · omega
        · exact Env.so (by simp)
      | true=>
        rw[hin] at hap hlk;rw[if_pos rfl] at hap;obtain ⟨bs,ck,_,hm⟩:=az.co.fm;obtain ⟨cur,hcur⟩:∃cur,cur=dn i++x::rest:=⟨_,rfl⟩;rw[←hcur] at az hap
        have hcl:cur.length=s.bounds.length:=by
          have h8:=dnl i (by omega);rw[hcur,qpw,qpF];omega
        have hfk:h.1=yd (s.wholeH coP coZ):=by rw[hh];rfl
        obtain ⟨all,hall⟩:∃all,all=s.frees++cur++tks:=⟨_,rfl⟩;rw[←hall] at hap;simp[hlt,h1,h2,zQ,h4,q3,evX,hlk];refine qj (qkX x 146 [.ptr (S.length+1) 0 0 1,.ptr U.length 0 0 1,.ptr (U.length+2) 0 0 1] (fun y=>JQ y tks || JQ y (h.1.foldl Qr []) || decide (0<yS cur y)) all Y (fun y=>qkn y e1 tkY az.x5 hm az.x7 az.xm) (fun y=>?_) hxs ?_) ?_
        · rw[hfk,qhW,hall];simp only[qrb,zL,decide_eq_true_eq,qc3,qpr];constructor
          · rintro ((hh|hh)|hh) <;> simp[hh]
          · rintro ((hh|hh)|hh) <;> simp[hh]
        · rw[hall];simp;omega
        rintro r Y' ⟨⟨t,rfl,hfr⟩,rfl⟩;rw[qgu hfr] at hap;rw[hap] at hst hds;have lm:∀{Z:St} {c:Bz→Int},Az h m c4 c5 c6 v ps F D U.length (U.length+2) (U.length+1) c Z→ldS Z (.ptr (U.length+2) 0 0 1) none=some (.map (U.length+1)):=fun k=>by simp[ldS,k.x7,V.part,V.cells]
        have lm0:=lm az;have hg0:=az.xm.get x;have hc0:=JF x cur;obtain ⟨o1,w1,az1⟩:=az.put x (yS cur x - 1);have lm1:=lm az1;have hg1:=az1.xm.get t;have hc1:=JF t cur;have hc2:-1≤(if t=x then yS cur x - 1 else yS cur t)∧(if t=x then yS cur x - 1 else yS cur t)≤1000:=by split <;> omega
        obtain ⟨o2,w2,az2⟩:=az1.put t ((if t=x then yS cur x - 1 else yS cur t)+1)
        have hcs:(fun y=>if y=t then (if t=x then yS cur x - 1 else yS cur t)+1 else if y=x then yS cur x - 1 else yS cur y)=yS (dn i++t::rest):=by
          funext y;rw[hcur,qfU (dn i) rest x t y]
        rw[hcs] at az2;obtain ⟨Y1,hY1⟩:∃Y1,Y1=Y'.set (U.length+1) o1:=⟨_,rfl⟩;rw[←hY1] at lm1 hg1 w2 az1 az2 w1;obtain ⟨Y2,hY2⟩:∃Y2,Y2=Y1.set (U.length+1) o2:=⟨_,rfl⟩;rw[←hY2] at az2 w2;have kk:∀l,l≠U.length+1→Y2[l]?=Y'[l]?:=fun l hl=>by rw[hY2,qpm (Ne.symm hl),hY1,qpm (Ne.symm hl)]
        have ll:Y2.length=Y'.length:=by rw[hY2,List.length_set,hY1,List.length_set]
        have kY2:Kp (fun _=>False) S1 Y2:=⟨by rw[ll];exact kY.len,fun l hl hn=>by rw[kk l (by omega)];exact kY.get l hl hn⟩;have hq2:Y2[Q]?=some (.arr [tv] 1 1):=by rw[kk Q (by omega)];exact hq
        have hg2:Gr 1 (Q+1) ((dn i).map .str) tv Y2:=hg.keep fun l hl _=>kk l (by omega)
        obtain ⟨tv',Z,a1,a2,a3,a4,a5,a6⟩:=hst Y2 tv (by rw[hds,qpB];exact az2) kY2 hq2 hg2;have sq:stS Z (.ptr Q 0 0 1) 1 tv'=some (Z.set Q (.arr [tv'] 1 1)):=by simp[stS,a2,qoE htf.2.2 ⟨a3,a4,a5⟩]
        have hft:fits 1 [V.str t]=true:=rfl;have i1:=qz (n:=yS cur x - 1) (by omega) (by omega);have i2:=qz (n:=(if t=x then yS cur x - 1 else yS cur t)+1) (by omega) (by omega);simp[zQ,lm0,h4,evX,hg0,i1,w1];refine yg rfl rfl ?_;simp[lm1,evX,hg1,i2,w2,lq hq2,hft,a1,sq,ze (n:=(i:Int)+1)];refine ⟨_,?_,_,?_,i+1,rfl,by omega,⟨tv',a6⟩,rfl⟩
        · omega
        · exact Env.so (by simp)
    · have:i=s.bounds.length:=by omega
      subst this;simp;exact ⟨tv,hI⟩
  rintro e Y ⟨tv,hI,g2,g4,g10⟩;obtain ⟨az,kY,hq,hg⟩:=(hInv _ _ _).1 hI;have hfin:dn s.bounds.length=apL tks s.frees [] s.bounds:=by rw[hdn];exact qcu tks s.frees s.bounds []
  rw[hfin] at hg;obtain ⟨L,hL⟩:∃L,L=apL tks s.frees [] s.bounds:=⟨_,rfl⟩;have hLl:L.length=s.bounds.length:=by rw[hL,YI];simp
  rw[←hL] at hg ⊢;have e0:=kY.at p0 id;have e2:=kY.at p2 id;have lX1:=kX.len;have lQ:=glt hq
  have far2:∀x n,tv=.arr x 0 n n→Q<x∧x<Y.length:=fun x n hx=>by
    rcases hg with ⟨_,rfl⟩|⟨l,wr,h1,rfl,h3,_⟩
    · cases hx
    · cases hx;exact ⟨by omega,glt h3⟩
  have ap:Ap L Q tv (fun _=>False) (fun x=>x=Q∨∃n,tv=.arr x 0 n n) Y:=⟨fun _=>id,fun _=>Iff.rfl,hq,by
    rcases hg with ⟨h1,h2⟩|⟨l,wr,h1,h2,h3,h4⟩
    · exact .inl ⟨by simpa using h1,h2⟩
    · rw[qps] at h2 h4;exact .inr ⟨l,wr,h2,h3,h4⟩⟩
  obtain ⟨Y1,hY1⟩:∃Y1:St,Y1=Y++[.arr [.agg [.int .i64 0,.fn (.func 147) [] [.ptr Q 0 0 1],.nilfn,.nilfn]] 4 1]:=⟨_,rfl⟩;have w1:Y1[Y.length]?=some (.arr [.agg [.int .i64 0,.fn (.func 147) [] [.ptr Q 0 0 1],.nilfn,.nilfn]] 4 1):=by rw[hY1];simp
  have kY1:Kp (fun _=>False) Y Y1:=by rw[hY1];exact (Kp.refl _ _).push _
  have ld1:ldS Y1 (.ptr S.length 0 0 1) (some 8)=some s.v:=by
    have:=kY1.at e0 id;simp[ldS,this]
  have hw:Wk (apC L Q) Y.length 0 () (fun _=>False) (fun x=>x=Q∨∃n,tv=.arr x 0 n n) Y1:=⟨w1,⟨tv,ap.fr kY1 fun _ hf=>hf.elim⟩,id,by rintro (h|⟨n,h⟩);omega;have:=far2 _ _ h;omega,trivial⟩;simp[g2,g4,g10,qF,qY,qi,Yf,qM];rw[←hY1];simp[ld1];refine qj (qco (apC L Q) (qmV L Q (by omega)) Y.length s hs (by omega) () _ _ Y1 hw (by show Sm.nb1 [s]≤L.length;omega)) ?_;rintro r Z ⟨hr,F2,D2,kw,sw⟩;have hr':r=(s.whole (lf L)).v:=by rw[hr];exact congrArg Sm.v (Sm.wholeR_w rfl rfl (fun _ _=>rfl) s va)
  have kZ:Kp (fun _=>False) S1 Z:=⟨by have:=kY.len;have:=kY1.len;have:=sw.k.len;omega,fun l hl hn=>by
    rw[sw.k.get l (by have:=kY.len;have:=kY1.len;omega) (by rintro (hh|hh);have:=kY.len;omega;exact hh),kY1.get l (by have:=kY.len;omega) id];exact kY.get l hl hn⟩
  have f2:=kZ.at p2 id;have hr8:r.size=8∧r.cells.all V.flat=true∧V.part r 0 (some 8)=some r:=by rw[hr'];exact ⟨Sm.v_size _,by simp,JC _⟩
  have hst:stS Z (.ptr (S.length+2) 0 0 1) 8 r=some (Z.set (S.length+2) (.arr [r] 8 1)):=by simp[stS,f2,qi,hr8]
  simp[hst,g4];have hz:(Z.set (S.length+2) (.arr [r] 8 1))[S.length+2]?=some (.arr [r] 8 1):=qpl (glt f2);exact qf (vs:=[r]) (by simp[rvs,g4,ldS,hz,hr8]) ⟨hr',(kS.trans kZ).set _ (.inr (by omega))⟩
end Go.Proofs.YtbifpocccfkhhaaGreatDoor

namespace Go.Proofs.YtbifpocccfkhhaaGreatDoor
open Go Go.Proofs.Tryz
theorem qhv{tk tk' fr fr':List Bz}(h1:∀x,x∈tk↔x∈tk')(h2:∀x,x∈fr↔x∈fr')(done:List Bz)(x:Bz)(rest:List Bz):apN tk fr done x rest=apN tk' fr' done x rest:=by
 have hi:JQ x tk=JQ x tk':=by rw[qp6,zL,zL];exact h1 x
 have hf:frs x (fr++(done++x::rest)++tk)=frs x (fr'++(done++x::rest)++tk'):=qhR fun y=>by
  simp only[qpr,h1,h2]
 unfold apN;rw[hi,hf]
theorem qbR{tk tk' fr fr':List Bz}(h1:∀x,x∈tk↔x∈tk')(h2:∀x,x∈fr↔x∈fr'):∀(rest done:List Bz),apL tk fr done rest=apL tk' fr' done rest
 | [],done=>by simp[apL]
 | x::rest,done=>by rw[apL,apL,qhv h1 h2,qbR h1 h2 rest]
def Sm.aps(s:Sm)(taken:List Bz):List Bz:=apL (taken.foldl Qr []) s.frees [] s.bounds
theorem Sm.aps_length(s:Sm)(taken:List Bz):(s.aps taken).length=Sm.nb1 [s]:=by
 unfold Sm.aps;rw[YI,s.bounds_len];simp
theorem qlo{l:List Bz}(h:∀x,x∈l→x.size≤16)(k:Nat):(lf l k).size≤B50:=by
 unfold lf
 cases hk:l[k]? with
 | none=>exact qp0 _
 | some x=>exact qpV (h x (qpp hk)) (by decide)
def Sm.ap(s:Sm)(taken:List Bz):Sm:=s.whole (lf (s.aps taken))
theorem qiF(x:Sm)(hx:x.ok)(S:St):qt prog 82 [x.v] S (fun r U=>r=.tup [if (Pa.st x).err qb=0 then x.v else smZ,.int .i64 ((Pa.st x).err qb)]∧Kp (fun _=>False) S U):=by
 refine qt.ib func82 ok82 ?_;obtain ⟨S1,hS1⟩:∃S1:St,S1=S++[.arr [x.v] 8 1,.arr [smZ] 8 1]:=⟨_,rfl⟩;have b0:S1[S.length]?=some (.arr [x.v] 8 1):=by rw[hS1];simp
 have b1:S1[S.length+1]?=some (.arr [smZ] 8 1):=by rw[hS1,qpj (by omega)];simp
 have kS:Kp (fun _=>False) S S1:=by rw[hS1];exact (Kp.refl _ _).push _
 have d0:ldS S1 (.ptr S.length 0 0 1) (some 8)=some x.v:=by simp[ldS,b0]
 simp[c82,qM];rw[←hS1];simp[d0];refine qg (qbZ x hx S1) ?_;by_cases h0:(Pa.st x).err qb=0
 ·simp[h0,d0,stS,b1,qi];have hz:(S1.set (S.length+1) (.arr [x.v] 8 1))[S.length+1]?=some (.arr [x.v] 8 1):=qpl (glt b1);exact qf (vs:=[x.v,.int .i64 0]) (by simp[rvs,ldS,hz]) ⟨rfl,kS.set _ (.inr (by omega))⟩
 ·simp[h0,qF,qY,stS,b1,qi];have hz:(S1.set (S.length+1) (.arr [smZ] 8 1))[S.length+1]?=some (.arr [smZ] 8 1):=qpl (glt b1);exact qf (vs:=[smZ,.int .i64 ((Pa.st x).err qb)]) (by simp[rvs,ldS,hz,Qi]) ⟨rfl,kS.set _ (.inr (by omega))⟩
def frO(e:Oc):List Bz:=if e.2.at e.1=none then [e.1] else []
theorem qeT(h:coP.H)(x:Bz)(sc:Scs):yd (coP.clH h x sc)=yd h++frO (x,sc):=by
 show Prod.fst (coU h x sc)=_;unfold coU yd frO
 cases hs:sc.at x with
 | none=>simp[hs]
 | some k=>simp[hs]
theorem qmh:Obs coP (List Bz) yd (fun h e=>h++frO e) where
 nm h:=by cases h
 cl h:=by cases h
 n h x sc tg:=qeT h x.text sc
 c h x sc:=qeT h x sc
 e h k x:=rfl
theorem qaL{α β:Type}(g:α→List β):∀(l:List α) (h:List β),l.foldl (fun h e=>h++g e) h=h++l.flatMap g
 | [],h=>by simp
 | e::l,h=>by rw[qq4,qaL g l,qpR,qpB]
def Sm.evs(s:Sm):List Oc:=s.ev [qd s.labels 0] (qd s.labels 0).length
theorem Sm.fsto_evs{nm:Bz→Bool}(s:Sm)(v:(Pa.st s).valid nm=true):yd (s.wholeH coP coZ)=s.evs.flatMap frO:=by
 have h:=qmh.sm s [qd s.labels 0] (qd s.labels 0).length (enters coP coZ (qd s.labels 0)) v;rw[qaL,zo] at h;exact h
theorem Sm.mem_frees(s:Sm)(x:Bz):x∈s.frees↔x∈yd (s.wholeH coP coZ):=by
 unfold Sm.frees;rw[Zi,yy];simp
theorem Sm.ev_free{nm:Bz→Bool}(s:Sm)(v:(Pa.st s).valid nm=true){e:Oc}(he:e∈s.evs)(hf:e.2.at e.1=none):e.1∈s.frees:=by
 rw[Sm.mem_frees,Sm.fsto_evs s v];refine qqG.2 ⟨e,he,?_⟩;unfold frO;rw[if_pos hf];simp
theorem Sm.frees_nm(s:Sm)(v:(Pa.st s).valid qb=true){x:Bz}(hx:x∈s.frees):qb x=true:=by
 rw[Sm.mem_frees,Sm.free_occ (f:=yT) Qk s v] at hx;exact (qqb.1 hx).2
theorem zd.new{x:Bz}{all:List Bz}{t:Bz}(h:zd x all t):t∉all:=by
 rcases h with ⟨h,rfl⟩|⟨_,n,_,rfl,h,_⟩
 ·exact h
 ·exact h
theorem qnA{tk fr done rest:List Bz}{x:Bz}(hl:fr.length+(done.length+(rest.length+1))+tk.length≤899):
  (apN tk fr done x rest=x∧x∉tk)∨apN tk fr done x rest∉fr++(done++x::rest)++tk:=by
 unfold apN;split
 ·obtain ⟨t,ht⟩:=zd.exists x (fr++(done++x::rest)++tk) (by simp only[qpw,qpF];omega);rw[qgu ht];exact .inr ht.new
 ·rename_i h;exact .inl ⟨rfl,fun hx=>h (zL.2 hx)⟩
structure ApI(tk fr od done rest:List Bz):Prop where
 len:done.length=od.length
 a:∀(j k:Nat) (x:Bz),done[j]?=some x→done[k]?=some x→od[j]?=od[k]?
 b:∀(j:Nat) (x:Bz),done[j]?=some x→x∈rest→od[j]?=some x
 c:∀(j:Nat) (x:Bz),done[j]?=some x→x∈fr→od[j]?=some x
 d:∀x,x∈done→x∉tk
theorem Ju{l:List Bz}{y x:Bz}{j:Nat}(h:(l++[y])[j]?=some x):l[j]?=some x∨(j=l.length∧x=y):=by
 by_cases hj:j<l.length
 ·rw[qpk hj] at h;exact .inl h
 ·rw[qpj (by omega)] at h;have:j - l.length=0:=by have:=(qpi.1 h).1;simp at this;omega
  rw[this] at h;simp at h;exact .inr ⟨by omega,h.symm⟩
theorem qej{tk fr:List Bz}:∀(rest od done:List Bz),ApI tk fr od done rest→fr.length+(done.length+rest.length)+tk.length≤899→ApI tk fr (od++rest) (apL tk fr done rest) []
 | [],od,done,i,_=>by rw[apL,qqu];exact i
 | y::rest,od,done,i,hl=>by
  rw[apL,show od++y::rest=(od++[y])++rest by simp];rw[qpF] at hl;have hn:=qnA (tk:=tk) (fr:=fr) (done:=done) (rest:=rest) (x:=y) (by omega);refine qej rest _ _ ?_ (by simp;omega);obtain ⟨t,ht⟩:∃t,t=apN tk fr done y rest:=⟨_,rfl⟩;rw[←ht] at hn ⊢;have hlen:=i.len;have hod:(od++[y])[od.length]?=some y:=by simp
  have old:∀(j:Nat) (x:Bz),done[j]?=some x→(od++[y])[j]?=od[j]?:=fun j x h=>by
   have:=(qpi.1 h).1;rw[qpk (by omega)]
  have hnew:∀(j:Nat),done[j]?=some t→od[j]?=some y:=fun j h=>by
   rcases hn with ⟨h1,_⟩|h1
   ·rw[h1] at h;exact i.b j y h (by simp)
   ·exact absurd (by have:=qpp h;simp[this]) h1
  refine ⟨by simp[hlen],fun j k x h1 h2=>?_,fun j x h1 h2=>?_,fun j x h1 h2=>?_,fun x h1=>?_⟩
  ·rcases Ju h1 with g1|⟨g1,e1⟩ <;> rcases Ju h2 with g2|⟨g2,e2⟩
   ·rw[old j x g1,old k x g2];exact i.a j k x g1 g2
   ·rw[old j x g1,g2,hlen,hod];exact hnew j (e2 ▸ g1)
   ·rw[old k x g2,g1,hlen,hod];exact (hnew k (e1 ▸ g2)).symm
   ·rw[g1,g2]
  ·rcases Ju h1 with g1|⟨g1,e1⟩
   ·rw[old j x g1];exact i.b j x g1 (by simp[h2])
   ·rw[g1,hlen,hod,e1];rcases hn with ⟨g,_⟩| g
    ·rw[g]
    ·exact absurd (by rw[←e1];simp[h2]) g
  ·rcases Ju h1 with g1|⟨g1,e1⟩
   ·rw[old j x g1];exact i.c j x g1 h2
   ·rw[g1,hlen,hod,e1];rcases hn with ⟨g,_⟩| g
    ·rw[g]
    ·exact absurd (by rw[←e1];simp[h2]) g
  ·rcases qpr.1 h1 with h1|h1
   ·exact i.d x h1
   ·simp at h1;rw[h1];rcases hn with ⟨g,g2⟩| g
    ·rw[g];exact g2
    ·exact fun hh=>g (by simp[hh])
theorem qm2{tk fr l:List Bz}(hl:fr.length+l.length+tk.length≤899):ApI tk fr l (apL tk fr [] l) []:=
 qej l [] [] ⟨rfl,by simp,by simp,by simp,by simp⟩ (by simp;omega)
theorem jK{x:Bz}(h:qb x=true):x≠⟨⟨[]⟩⟩:=fun hx=>by
 rw[hx] at h;simp[qb,ByteArray.size] at h
theorem qeR{l:List Bz}{j:Nat}{x:Bz}(h:lf l j=x)(hx:x≠⟨⟨[]⟩⟩):l[j]?=some x:=by
 unfold lf at h
 cases hg:l[j]? with
 | none=>rw[hg] at h;exact absurd h.symm hx
 | some y=>rw[hg] at h;rw[←h];rfl
theorem qeM{l:List Bz}{j:Nat}{x:Bz}(h:l[j]?=some x):lf l j=x:=by unfold lf;rw[h];rfl
theorem qny(l:List Bz):Agr (lf l) 0 l:=fun i x h=>by rw[qqk];exact qeM h
theorem Sm.aps_ok(s:Sm){taken:List Bz}(hl:s.frees.length+Sm.nb1 [s]+taken.length≤899):ApI (taken.foldl Qr []) s.frees s.bounds (s.aps taken) []:=by
 have h1:=Zp (l:=taken) (ks:=[]);have h2:=s.bounds_len;simp only[qqj] at h1;exact qm2 (by omega)
theorem qlE(n:Nat):dig n≠[]:=by
 by_cases h:n<10
 ·rw[yD h];simp
 ·rw[QJ h];simp
theorem qh6(x:Bz)(n:Nat):jL x n≠⟨⟨[]⟩⟩:=fun h=>by
 have:=congrArg (fun b:Bz=>b.data.toList) h;simp[jL,qlE] at this
theorem qjD{tk fr done rest:List Bz}{x:Bz}(hx:x≠⟨⟨[]⟩⟩):apN tk fr done x rest≠⟨⟨[]⟩⟩:=by
 unfold apN;split
 ·unfold frs qja;split
  ·rename_i h;rcases Classical.choose_spec h with ⟨_,g⟩|⟨_,n,_,g,_⟩
   ·rw[g];exact hx
   ·rw[g];exact qh6 x n
  ·exact hx
 ·exact hx
theorem qfZ{tk fr:List Bz}:∀(rest done:List Bz),(∀x,x∈done→x≠⟨⟨[]⟩⟩)→(∀x,x∈rest→x≠⟨⟨[]⟩⟩)→∀x,x∈apL tk fr done rest→x≠⟨⟨[]⟩⟩
 | [],done,h,_=>by rw[apL];exact h
 | y::rest,done,h,g=>by
  rw[apL];refine qfZ rest _ (fun x hx=>?_) fun x hx=>g x (by simp[hx])
  rcases qpr.1 hx with hx|hx
  ·exact h x hx
  ·simp at hx;rw[hx];exact qjD (g y (by simp))
theorem qmp(l:List Bz):(List.range' 0 l.length).map (lf l)=l:=by
 refine qqn fun i=>?_
 rw[qpt];by_cases h:i<l.length
 ·rw[List.getElem?_range' h,qpn h,qpD,qqk,Nat.one_mul,qeM (qpn h)]
 ·rw[qp5 (by simpa using h),qp5 (by omega)];rfl
set_option linter.unusedSectionVars false
section
variable {s:Sm} {taken:List Bz} (va:(Pa.st s).valid qb=true) (hl:s.frees.length+Sm.nb1 [s]+taken.length≤899)
include va hl
theorem Sm.aps_h1:∀j k,lf (s.aps taken) j=lf (s.aps taken) k→lf s.bounds j=lf s.bounds k:=fun j k h=>by
 have hi:=s.aps_ok (taken:=taken) hl;have hp:∀x,x∈s.aps taken→x≠⟨⟨[]⟩⟩:=qfZ _ _ (by simp) fun x hx=>jK (s.bounds_nm va x hx)
 cases hj:(s.aps taken)[j]? with
 | none=>
  cases hk:(s.aps taken)[k]? with
  | none=>
   have h1:=qqS.1 hj;have h2:=qqS.1 hk;rw[hi.len] at h1 h2;unfold lf;rw[qp5 h1,qp5 h2]
  | some y=>
   rw[qeM hk] at h;unfold lf at h;rw[hj] at h;exact absurd h.symm (hp y (qpp hk))
 | some x=>
  rw[qeM hj] at h;have h2:=hi.a j k x hj (qeR h.symm (hp x (qpp hj)));unfold lf;rw[h2]
theorem Sm.aps_fre:∀e,e∈s.evs→Fre (lf (s.aps taken)) (lf s.bounds) e:=fun e he hf j hj=>by
 have hi:=s.aps_ok (taken:=taken) hl;have hm:=s.ev_free va he hf;exact qeM (hi.c j _ (qeR hj (jK (s.frees_nm va hm))) hm)
theorem Sm.aps_agr:Agr (lf s.bounds) 0 (nms s.labels++s.bn):=qny _
theorem Sm.whole_bs:ScB (lf s.bounds) [qd s.labels 0]:=ScB.cons (sc:=[]) (fun s hs=>by cases hs) (aps_agr va hl).fst
theorem Sm.bn_agr:Agr (lf s.bounds) (qd s.labels 0).length s.bn:=by
 have:=(aps_agr va hl).snd;rwa [qA,qqk] at this
theorem Sm.ap_labels:(s.ap taken).labels=s.labels.map (zK (lf (s.aps taken)) [qd s.labels 0]):=Sm.w_labels _ _ _ _
theorem Sm.ap_bind0:qd (s.ap taken).labels 0=mpE (lf (s.aps taken)) (qd s.labels 0):=by
 rw[ap_labels va hl];exact Qz (aps_h1 va hl) (aps_agr va hl).fst
theorem Sm.ap_alike(g:Nat→Bz):(s.ap taken).whole g=s.whole g:=by
 have h1:=aps_h1 va hl;unfold Sm.whole;rw[ap_bind0 va hl,QB];exact Sm.ww h1 g s [qd s.labels 0] _ (whole_bs va hl) (bn_agr va hl) (zz _ _ _) (aps_fre va hl)
theorem Sm.ap_bounds:(s.ap taken).bounds=s.aps taken:=by
 have h1:=aps_h1 va hl;have hi:=s.aps_ok (taken:=taken) hl;unfold Sm.bounds;rw[qeZ 0,ap_bind0 va hl];have h2:=Sm.bn_w h1 s [qd s.labels 0] (qd s.labels 0).length (bn_agr va hl);rw[show (s.ap taken).bn=_ from h2]
 have h3:(mpE (lf (s.aps taken)) (qd s.labels 0)).map (·.1)=(List.range' 0 (qd s.labels 0).length).map (lf (s.aps taken)):=by
  rw[←qa5];unfold mpE;rw[qqI,qqI];rfl
 have h4:=qqx (s:=0) (m:=(qd s.labels 0).length) (n:=s.nb);rw[qqk] at h4
 have h5:(qd s.labels 0).length+s.nb=(s.aps taken).length:=by
  rw[hi.len,Sm.bounds,qpw,qA,Sm.bn_length]
 rw[h3,←qpH,h4,h5,qmp]
theorem Sm.ap_free:∀x,x∈(s.ap taken).bounds→x∉taken:=fun x hx hm=>by
 rw[ap_bounds va hl] at hx;exact (s.aps_ok (taken:=taken) hl).d x hx (yy.2 (.inr hm))
end
structure Sok(p:Pw):Prop where
 ok:∀g,p.nm=some g→∀(x:Ex) sc tg,x.ok→(g x sc tg).ok
 f:∀k x,x.size≤B50→(p.f k x).size≤B50
 cl:∀c,p.cl=some c→∀x sc,x.size≤B50→(c x sc).size≤B50
structure Shp(p:Pw):Prop extends Sok p where
 le:∀g,p.nm=some g→∀x sc tg,(Pa.ex (g x sc tg)).le (.ex x)
section
variable {p:Pw} (i:Shp p)
include i
end
section
variable {p:Pw} (i:Sok p)
include i
theorem QX(sc:Scs){x:Bz}(hx:x.size≤B50):(ZO p sc x).size≤B50:=by
 unfold ZO
 cases sc.at x with
 | none=>exact hx
 | some k=>exact i.f k x hx
mutual
theorem Ex.wr_ok(sc:Scs)(tg:Bool):∀x:Ex,x.ok→(x.wr p sc tg).ok
 | .mk k o n m e t a,v=>by
  obtain ⟨h1,h2,h3⟩:=v;have h4:∀t':Bz,t'.size≤B50→(Ex.mk k o n m e t' (Ex.wrl p sc false a)).ok:=fun t' ht=>⟨ht,by rw[Ex.wrl_map,qps];exact h2,Ex.wrl_ok sc false a h3⟩
  rw[Ex.wr];unfold Pw.nmE;split
  ·split
   ·exact h4 _ (QX i sc h1)
   ·rename_i g hg;exact i.ok g hg _ _ _ (h4 _ h1)
  ·exact h4 _ h1
theorem Ex.wrl_ok(sc:Scs)(tg:Bool):∀l:List Ex,Ex.okL l→Ex.okL (Ex.wrl p sc tg l)
 | [],_=>trivial
 | x::l,⟨h1,h2⟩=>⟨Ex.wr_ok sc tg x h1,Ex.wrl_ok sc tg l h2⟩
end
theorem El.wr_ok(sc:Scs)(e:El)(v:e.ok):(e.wr p sc).ok:=
 ⟨by unfold El.wr;rw[Ex.wrl_map,qps];exact v.1,Ex.wrl_ok i sc false e.exps v.2⟩
omit i in
theorem Sm.wrl_len(sc:Scs):∀(m:List Sm) (n:Nat),(Sm.wrl p sc n m).length=m.length
 | [],_=>by rw[Sm.wrl]
 | x::m,n=>by simp only[Sm.wrl,qpF,Sm.wrl_len sc m]
omit i in
theorem Sm.wr1_len(sc:Scs):∀(m:List Sm) (n:Nat),(Sm.wr1 p sc n m).length=m.length
 | [],_=>by rw[Sm.wr1]
 | x::m,n=>by simp only[Sm.wr1,qpF,Sm.wr1_len sc m]
omit i in
theorem De.wrl_len(own sc:Scs):∀(m:List De) (n:Nat),(De.wrl p own sc n m).length=m.length
 | [],_=>by rw[De.wrl]
 | x::m,n=>by simp only[De.wrl,qpF,De.wrl_len own sc m]
mutual
theorem Sm.wr_ok:∀(s:Sm) (sc:Scs) (n:Nat),s.ok→(s.wr p sc n).ok
 | .mk l k t gs e hh d b,sc,n,v=>by
  have V:=(Sm.ok_iff _).1 v;have hl:=j8 V.labels fun x hx=>QX i sc (V.labels.2 x hx)
  have hg:gs.length≤B50→(Ex.wrl p sc true gs).length≤B50:=fun h=>by rw[Ex.wrl_map,qps];exact h
  rw[Sm.wr];split
  ·refine (Sm.ok_iff _).2 ⟨hl,V.text,⟨hg V.targets.1,Ex.wrl_ok i sc true gs V.targets.2⟩,V.exps,V.elems,⟨?_,De.wrl_ok d _ _ _ V.decls.2⟩,?_,Sm.wrl_ok b _ _ V.body.2⟩
   ·have:=V.decls.1;simp only[Sm.decls] at this ⊢;rw[De.wrl_len];exact this
   ·have:=V.body.1;simp only[Sm.body] at this ⊢;rw[Sm.wrl_len];exact this
  ·split
   ·refine (Sm.ok_iff _).2 ⟨hl,V.text,⟨hg V.targets.1,Ex.wrl_ok i sc true gs V.targets.2⟩,V.exps,V.elems,V.decls,?_,Sm.wrl_ok b _ _ V.body.2⟩;have:=V.body.1;simp only[Sm.body] at this ⊢;rw[Sm.wrl_len];exact this
   ·refine (Sm.ok_iff _).2 ⟨hl,?_,⟨hg V.targets.1,Ex.wrl_ok i sc true gs V.targets.2⟩,⟨?_,Ex.wrl_ok i sc false e V.exps.2⟩,⟨?_,?_⟩,V.decls,?_,Sm.wr1_ok b _ _ V.body.2⟩
    ·have:=V.text;simp only[Sm.text] at this ⊢;unfold Pw.clE;split
     ·split
      ·exact QX i sc this
      ·rename_i c hc;exact i.cl c hc _ _ this
     ·exact this
    ·have:=V.exps.1;simp only[Sm.exps] at this ⊢;rw[Ex.wrl_map,qps];exact this
    ·have:=V.elems.1;simp only[Sm.elems] at this ⊢;rw[qps];exact this
    ·intro x hx;simp only[Sm.elems] at hx;obtain ⟨y,hy,rfl⟩:=qpE.1 hx;exact El.wr_ok i sc y (V.elems.2 y hy)
    ·have:=V.body.1;simp only[Sm.body] at this ⊢;rw[Sm.wr1_len];exact this
theorem De.wr_ok:∀(s:De) (own sc:Scs) (n:Nat),s.ok→(s.wr p own sc n).ok
 | .mk k o t ns e fo b,own,sc,n,v=>by
  have V:=(De.ok_iff _).1 v;have hl:=j8 V.names fun x hx=>QX i own (V.names.2 x hx)
  have he:∀sc,e.length≤B50→(Ex.wrl p sc false e).length≤B50:=fun sc h=>by rw[Ex.wrl_map,qps];exact h
  rw[De.wr];split
  ·refine (De.ok_iff _).2 ⟨hl,⟨he own V.exps.1,Ex.wrl_ok i own false e V.exps.2⟩,⟨?_,?_⟩,?_,Sm.wr1_ok b _ _ V.body.2⟩
   ·have:=V.formals.1;simp only[De.formals] at this ⊢;rw[qps];exact this
   ·intro x hx;simp only[De.formals] at hx;obtain ⟨y,hy,rfl⟩:=qpE.1 hx;exact QX i _ (V.formals.2 y hy)
   ·have:=V.body.1;simp only[De.body] at this ⊢;rw[Sm.wr1_len];exact this
  ·exact (De.ok_iff _).2 ⟨hl,⟨he _ V.exps.1,Ex.wrl_ok i _ false e V.exps.2⟩,V.formals,V.body⟩
theorem De.wrl_ok:∀(l:List De) (own sc:Scs) (n:Nat),De.okL l→De.okL (De.wrl p own sc n l)
 | [],_,_,_,_=>by rw[De.wrl];exact trivial
 | x::l,own,sc,n,v=>by
  rw[De.okL] at v;rw[De.wrl,De.okL];exact ⟨De.wr_ok x own sc n v.1,De.wrl_ok l own sc _ v.2⟩
theorem Sm.wrl_ok:∀(l:List Sm) (sc:Scs) (n:Nat),Sm.okL l→Sm.okL (Sm.wrl p sc n l)
 | [],_,_,_=>by rw[Sm.wrl];exact trivial
 | x::l,sc,n,v=>by
  rw[Sm.okL] at v;rw[Sm.wrl,Sm.okL];exact ⟨Sm.wr_ok x sc n v.1,Sm.wrl_ok l sc _ v.2⟩
theorem Sm.wr1_ok:∀(l:List Sm) (sc:Scs) (n:Nat),Sm.okL l→Sm.okL (Sm.wr1 p sc n l)
 | [],_,_,_=>by rw[Sm.wr1];exact trivial
 | x::l,sc,n,v=>by
  rw[Sm.okL] at v;rw[Sm.wr1,Sm.okL];exact ⟨Sm.wr_ok x _ _ v.1,Sm.wr1_ok l sc _ v.2⟩
end
theorem Sm.wholeR_ok(s:Sm)(v:s.ok):(s.wholeR p).ok:=Sm.wr_ok i s _ _ v
end
end Go.Proofs.YtbifpocccfkhhaaGreatDoor







namespace Go.Proofs.YtbifpocccfkhhaaGreatDoor
open Go
def r0:Rp:=⟨[],[],[]⟩
section
variable {f:Nat→Bz} {nm:Bz→Bool} (hf:∀k,nm (f k)=false) (r:Rp) (z:Bz)
include hf
omit hf in
theorem qph{a b c:Prop}:(a∨b)∨c↔a∨c∨b:=⟨by rintro ((h|h)|h) <;> simp[h],by rintro (h|h|h) <;> simp[h]⟩
end
end Go.Proofs.YtbifpocccfkhhaaGreatDoor
end
