/- A part. -/
import Derived.Test.YtbifpocccfkhhaaGreatDoorQh
set_option linter.all false
noncomputable section
namespace Go.Proofs.YtbifpocccfkhhaaGreatDoor
open Go Go.Proofs.Tryz
mutual
theorem Ex.v_weak:∀x:Ex,x.v.weak=x.v
 | .mk k o n m e t a=>by simp only[Ex.v,V.weak,V.weakL,Ex.vl_weak a]
theorem Ex.vl_weak:∀l:List Ex,V.weakL (Ex.vl l)=Ex.vl l
 | []=>rfl
 | x::l=>by simp only[Ex.vl,V.weakL,Ex.v_weak x,Ex.vl_weak l]
end
theorem qcP{α:Type}{f:α→V}(h:∀x,(f x).weak=f x)(l:List α):V.weakL (l.map f)=l.map f:=by
 rw[qaI,qvS];exact qvn fun x _=>h x
theorem wEx(l:List Ex):V.weakL (l.map Ex.v)=l.map Ex.v:=qcP Ex.v_weak l
theorem El.v_weak(e:El):e.v.weak=e.v:=by simp only[El.v,V.weak,V.weakL,wEx]
theorem Fo.v_weak(e:Fo):e.v.weak=e.v:=rfl
theorem wEl(l:List El):V.weakL (l.map El.v)=l.map El.v:=qcP El.v_weak l
theorem wFo(l:List Fo):V.weakL (l.map Fo.v)=l.map Fo.v:=qcP Fo.v_weak l
theorem wStr(l:List ByteArray):V.weakL (l.map .str)=l.map .str:=qcP (fun _=>rfl) l
mutual
theorem De.v_weak:∀x:De,x.v.weak=x.v
 | .mk k o t n e f b=>by simp only[De.v,V.weak,V.weakL,wEx,wFo,wStr,Sm.vl_weak b]
theorem Sm.v_weak:∀x:Sm,x.v.weak=x.v
 | .mk l k t g e f d b=>by simp only[Sm.v,V.weak,V.weakL,wEx,wEl,wStr,De.vl_weak d,Sm.vl_weak b]
theorem De.vl_weak:∀l:List De,V.weakL (De.vl l)=De.vl l
 | []=>rfl
 | x::l=>by simp only[De.vl,V.weakL,De.v_weak x,De.vl_weak l]
theorem Sm.vl_weak:∀l:List Sm,V.weakL (Sm.vl l)=Sm.vl l
 | []=>rfl
 | x::l=>by simp only[Sm.vl,V.weakL,Sm.v_weak x,Sm.vl_weak l]
end
theorem wDe(l:List De):V.weakL (l.map De.v)=l.map De.v:=qcP De.v_weak l
theorem wSm(l:List Sm):V.weakL (l.map Sm.v)=l.map Sm.v:=qcP Sm.v_weak l
theorem qjq(k:Int)(s:Sm)(d:De)(e:El)(x:Ex):(paV k s d e x).weak=paV k s d e x:=by
 simp only[paV,Sm.cs,De.cs,El.cs,Ex.cs,qt8,qut,V.weak,V.weakL,wEx,wEl,wFo,wStr,wDe,wSm]
theorem Pa.v_weak(p:Pa):p.v.weak=p.v:=qjq _ _ _ _ _
attribute [simp] Ex.v_weak El.v_weak Fo.v_weak De.v_weak Sm.v_weak wEx wEl wFo wStr wDe wSm qjq Pa.v_weak qhT Pa.v_under
theorem qll(s:Sm):∀S,Fn prog 101 [s.v] S (Pa.st s).v:=by
 refine Pu.intro (R:=fun v=>v=(Pa.st s).v) func101 ok101 (by simp[c101]) (by simp[V.under]) (by rintro v rfl;simp) ?_;simp[c101,boxS,ldS,stS,qbt,qaf,qal];refine qcu rfl ?_ ?_
 ·simp only[retV,V.weak,V.weakL,wEx,wEl,wFo,wStr,wDe,wSm];rfl
 ·simp[retV,V.weak,V.weakL,V.under,V.underL]
theorem qqT(s:Ex):∀S,Fn prog 142 [s.v] S (Pa.ex s).v:=by
 refine Pu.intro (R:=fun v=>v=(Pa.ex s).v) func142 ok142 (by simp[c142]) (by simp[V.under]) (by rintro v rfl;simp) ?_;simp[c142,boxS,ldS,stS,qbt,qaf,qal];refine qcu rfl ?_ ?_
 ·simp only[retV,V.weak,V.weakL,wEx,wEl,wFo,wStr,wDe,wSm];rfl
 ·simp[retV,V.weak,V.weakL,V.under,V.underL]
theorem qpX(s:De):∀S,Fn prog 168 [s.v] S (Pa.de s).v:=by
 refine Pu.intro (R:=fun v=>v=(Pa.de s).v) func168 ok168 (by simp[c168]) (by simp[V.under]) (by rintro v rfl;simp) ?_;simp[c168,boxS,ldS,stS,qbt,qaf,qal];refine qcu rfl ?_ ?_
 ·simp only[retV,V.weak,V.weakL,wEx,wEl,wFo,wStr,wDe,wSm];rfl
 ·simp[retV,V.weak,V.weakL,V.under,V.underL]
theorem qp4(s:El):∀S,Fn prog 205 [s.v] S (Pa.el s).v:=by
 refine Pu.intro (R:=fun v=>v=(Pa.el s).v) func205 ok205 (by simp[c205]) (by simp[V.under]) (by rintro v rfl;simp) ?_;simp[c205,boxS,ldS,stS,qbt,qaf,qal];refine qcu rfl ?_ ?_
 ·simp only[retV,V.weak,V.weakL,wEx,wEl,wFo,wStr,wDe,wSm];rfl
 ·simp[retV,V.weak,V.weakL,V.under,V.underL]
theorem qry(p:Pa)(hp:p.ok):∀S,Fn prog 178 [p.v] S (.int .i64 p.own):=by
 refine Pu.ib func178 ok178 (by simp[c178]) (by simp[V.under]) rfl ?_;have h1:=Pa.own_le hp;unfold B50 at h1
 cases p with
 | st s=>
  simp only[Pa.own] at h1;simp[c178,boxS,ldS,Pa.v,Pa.kind,Pa.toS,Pa.own,qaA (n:=1+(s.labels.length:Int)) (by omega) (by omega)];exact qaa rfl rfl rfl
 | de d=>
  simp only[Pa.own] at h1;simp[c178,boxS,ldS,Pa.v,Pa.kind,Pa.toD,Pa.own,qaA (n:=1+(d.names.length:Int)) (by omega) (by omega),qaA (n:=1+(d.names.length:Int)+d.formals.length) (by omega) (by omega)];exact qaa rfl rfl rfl
 | el e=>
  simp[c178,boxS,ldS,Pa.v,Pa.kind,Pa.own];exact qaa rfl rfl rfl
 | ex x=>
  simp[c178,boxS,ldS,Pa.v,Pa.kind,Pa.own];exact qaa rfl rfl rfl
theorem Pa.v_flat(p:Pa):p.v.cells.all V.flat=true:=rfl
theorem qmh(p:Pa)(S:St):Spec prog 179 [p.v] S (fun v U=>v=.fn (.func 202) [] [.ptr S.length 0 0 1]∧U=S++[.arr [p.v] 25 1]):=by
 refine Spec.ib func179 ok179 ?_;simp[c179,qqX (Pa.v_flat p) (by rw[Pa.v_size];omega),Pa.v_size];exact qaj rfl ⟨rfl,rfl⟩
theorem qfC(l:List Ex)(hl:l.length≤B50)(y:Nat)(S:St)(J:Nat→St→Prop)(D:St→Prop)(M:Nat→Prop)(hM:∀x,M x→x<S.length)(hJ:∀i U o,J i U→J i (U++[o]))(hD:∀U o,D U→D (U++[o]))
  (hy:∀i x,l[i]?=some x→∀U,J i U→Kp M S U→qbJ prog y [(Pa.ex x).v] U (fun v U'=>Kp M U U'∧((v=.bool true∧J (i+1) U')∨(v=.bool false∧D U')))) (h0:J 0 S):
  Spec prog 203 [.sl false (l.map Ex.v),.fn (.func 142) [] [],.yld y] S (fun v U=>Kp M S U∧((v=.bool true∧J l.length U)∨(v=.bool false∧D U))):=by
 unfold B50 at hl;refine Spec.ib func203 ok203 ?_;simp[c203];refine qar (fun j e S'=>∃i:Nat,j=l.length - i∧i≤l.length∧J i S'∧Kp M S S'∧
  e=[(11,.int .i64 i),(10,.int .i64 l.length),(9,.sl false (l.map Ex.v)),(1,.fn (.func 142) [] []),(2,.yld y)]) l.length _ ?_ ⟨0,by simp,by omega,h0,Kp.refl _ _,rfl⟩ ?_
 ·exact Env.so (by simp)
 rintro j e S' ⟨i,rfl,hi,hj,hk,rfl⟩;by_cases h:i<l.length
 ·simp[h,iaEx,boxS,stS,qbt,ldS];refine qai (qqT l[i] _) ?_;simp;refine useY (hy i l[i] (by simp[h]) _ (hJ _ _ _ hj) (hk.push _)) ?_;rintro v U' ⟨hk',⟨rfl,hj'⟩|⟨rfl,hd'⟩⟩
  ·simp[qaL (n:=(i:Int)+1)];refine ⟨_,?_,_,?_,i+1,rfl,by omega,hj',(hk.push _).trans hk',rfl⟩
   ·omega
   ·exact Env.so (by simp)
  ·simp;exact qaj rfl ⟨(hk.push _).trans hk',.inr ⟨rfl,hd'⟩⟩
 ·simp[h];have:i=l.length:=by omega
  subst this;exact qaj rfl ⟨hk,.inl ⟨rfl,hj⟩⟩
theorem qpR(l:List El)(hl:l.length≤B50)(y:Nat)(S:St)(J:Nat→St→Prop)(D:St→Prop)(M:Nat→Prop)(hM:∀x,M x→x<S.length)(hJ:∀i U o,J i U→J i (U++[o]))(hD:∀U o,D U→D (U++[o]))
  (hy:∀i x,l[i]?=some x→∀U,J i U→Kp M S U→qbJ prog y [(Pa.el x).v] U (fun v U'=>Kp M U U'∧((v=.bool true∧J (i+1) U')∨(v=.bool false∧D U')))) (h0:J 0 S):
  Spec prog 204 [.sl false (l.map El.v),.fn (.func 205) [] [],.yld y] S (fun v U=>Kp M S U∧((v=.bool true∧J l.length U)∨(v=.bool false∧D U))):=by
 unfold B50 at hl;refine Spec.ib func204 ok204 ?_;simp[c204];refine qar (fun j e S'=>∃i:Nat,j=l.length - i∧i≤l.length∧J i S'∧Kp M S S'∧
  e=[(11,.int .i64 i),(10,.int .i64 l.length),(9,.sl false (l.map El.v)),(1,.fn (.func 205) [] []),(2,.yld y)]) l.length _ ?_ ⟨0,by simp,by omega,h0,Kp.refl _ _,rfl⟩ ?_
 ·exact Env.so (by simp)
 rintro j e S' ⟨i,rfl,hi,hj,hk,rfl⟩;by_cases h:i<l.length
 ·simp[h,iaEl,boxS,stS,qbt,ldS];refine qai (qp4 l[i] _) ?_;simp;refine useY (hy i l[i] (by simp[h]) _ (hJ _ _ _ hj) (hk.push _)) ?_;rintro v U' ⟨hk',⟨rfl,hj'⟩|⟨rfl,hd'⟩⟩
  ·simp[qaL (n:=(i:Int)+1)];refine ⟨_,?_,_,?_,i+1,rfl,by omega,hj',(hk.push _).trans hk',rfl⟩
   ·omega
   ·exact Env.so (by simp)
  ·simp;exact qaj rfl ⟨(hk.push _).trans hk',.inr ⟨rfl,hd'⟩⟩
 ·simp[h];have:i=l.length:=by omega
  subst this;exact qaj rfl ⟨hk,.inl ⟨rfl,hj⟩⟩
theorem qqB(l:List De)(hl:l.length≤B50)(y:Nat)(S:St)(J:Nat→St→Prop)(D:St→Prop)(M:Nat→Prop)(hM:∀x,M x→x<S.length)(hJ:∀i U o,J i U→J i (U++[o]))(hD:∀U o,D U→D (U++[o]))
  (hy:∀i x,l[i]?=some x→∀U,J i U→Kp M S U→qbJ prog y [(Pa.de x).v] U (fun v U'=>Kp M U U'∧((v=.bool true∧J (i+1) U')∨(v=.bool false∧D U')))) (h0:J 0 S):
  Spec prog 206 [.sl false (l.map De.v),.fn (.func 168) [] [],.yld y] S (fun v U=>Kp M S U∧((v=.bool true∧J l.length U)∨(v=.bool false∧D U))):=by
 unfold B50 at hl;refine Spec.ib func206 ok206 ?_;simp[c206];refine qar (fun j e S'=>∃i:Nat,j=l.length - i∧i≤l.length∧J i S'∧Kp M S S'∧
  e=[(11,.int .i64 i),(10,.int .i64 l.length),(9,.sl false (l.map De.v)),(1,.fn (.func 168) [] []),(2,.yld y)]) l.length _ ?_ ⟨0,by simp,by omega,h0,Kp.refl _ _,rfl⟩ ?_
 ·exact Env.so (by simp)
 rintro j e S' ⟨i,rfl,hi,hj,hk,rfl⟩;by_cases h:i<l.length
 ·simp[h,iaDe,boxS,stS,qbt,ldS];refine qai (qpX l[i] _) ?_;simp;refine useY (hy i l[i] (by simp[h]) _ (hJ _ _ _ hj) (hk.push _)) ?_;rintro v U' ⟨hk',⟨rfl,hj'⟩|⟨rfl,hd'⟩⟩
  ·simp[qaL (n:=(i:Int)+1)];refine ⟨_,?_,_,?_,i+1,rfl,by omega,hj',(hk.push _).trans hk',rfl⟩
   ·omega
   ·exact Env.so (by simp)
  ·simp;exact qaj rfl ⟨(hk.push _).trans hk',.inr ⟨rfl,hd'⟩⟩
 ·simp[h];have:i=l.length:=by omega
  subst this;exact qaj rfl ⟨hk,.inl ⟨rfl,hj⟩⟩
theorem qmP(l:List Sm)(hl:l.length≤B50)(y:Nat)(S:St)(J:Nat→St→Prop)(D:St→Prop)(M:Nat→Prop)(hM:∀x,M x→x<S.length)(hJ:∀i U o,J i U→J i (U++[o]))(hD:∀U o,D U→D (U++[o]))
  (hy:∀i x,l[i]?=some x→∀U,J i U→Kp M S U→qbJ prog y [(Pa.st x).v] U (fun v U'=>Kp M U U'∧((v=.bool true∧J (i+1) U')∨(v=.bool false∧D U')))) (h0:J 0 S):
  Spec prog 207 [.sl false (l.map Sm.v),.fn (.func 101) [] [],.yld y] S (fun v U=>Kp M S U∧((v=.bool true∧J l.length U)∨(v=.bool false∧D U))):=by
 unfold B50 at hl;refine Spec.ib func207 ok207 ?_;simp[c207];refine qar (fun j e S'=>∃i:Nat,j=l.length - i∧i≤l.length∧J i S'∧Kp M S S'∧
  e=[(11,.int .i64 i),(10,.int .i64 l.length),(9,.sl false (l.map Sm.v)),(1,.fn (.func 101) [] []),(2,.yld y)]) l.length _ ?_ ⟨0,by simp,by omega,h0,Kp.refl _ _,rfl⟩ ?_
 ·exact Env.so (by simp)
 rintro j e S' ⟨i,rfl,hi,hj,hk,rfl⟩;by_cases h:i<l.length
 ·simp[h,iaSm,boxS,stS,qbt,ldS];refine qai (qll l[i] _) ?_;simp;refine useY (hy i l[i] (by simp[h]) _ (hJ _ _ _ hj) (hk.push _)) ?_;rintro v U' ⟨hk',⟨rfl,hj'⟩|⟨rfl,hd'⟩⟩
  ·simp[qaL (n:=(i:Int)+1)];refine ⟨_,?_,_,?_,i+1,rfl,by omega,hj',(hk.push _).trans hk',rfl⟩
   ·omega
   ·exact Env.so (by simp)
  ·simp;exact qaj rfl ⟨(hk.push _).trans hk',.inr ⟨rfl,hd'⟩⟩
 ·simp[h];have:i=l.length:=by omega
  subst this;exact qaj rfl ⟨hk,.inl ⟨rfl,hj⟩⟩
theorem qdA(p:Pa):p.kids.length=match p with
 | .st s=>s.targets.length+(s.exps.length+(s.elems.length+(s.decls.length+s.body.length)))
 | .de d=>d.exps.length+d.body.length
 | .el e=>e.exps.length
 | .ex x=>x.args.length:=by cases p <;> simp[Pa.kids]
theorem qhO(p:Pa)(hp:p.ok)(c:Nat):qpl prog 202 [] [.ptr c 0 0 1] (p.kids.map fun q=>[q.v]) (fun U=>U[c]?=some (.arr [p.v] 25 1)):=by
 intro S l J D M hM hcap hJ hD _ _ hy h0;have hc:=hcap _ _ h0;have hyk:∀i q,p.kids[i]?=some q→∀U,J i U→Kp M S U→qbJ prog l [q.v] U (fun v U'=>Kp M U U'∧((v=.bool true∧J (i+1) U')∨(v=.bool false∧D U'))):=fun i q hq=>hy i [q.v] (by simp[hq])
 clear hy;simp only[qt2,qut,qt8];have hlt:c<S.length:=(qtV.1 hc).1;refine Spec.ib func202 ok202 ?_
 cases p with
 | el e=>
  have o:=hp;have hA:=qfC e.exps o.1 l S J D M hM hJ hD (fun i x hx=>hyk i (.ex x) (by simp[Pa.kids,hx])) h0;simp[c202,ldS,hc,Pa.v,Pa.kind,Pa.toE];refine qan hA ?_;rintro v U ⟨hk,⟨rfl,hj⟩|⟨rfl,hd⟩⟩
  ·simp;exact qaE rfl ⟨hk,.inl (by simpa[Pa.kids] using hj)⟩
  ·simp;exact qaE rfl ⟨hk,.inr hd⟩
 | ex e=>
  have o:=Ex.ok_args hp;have hA:=qfC e.args o.1 l S J D M hM hJ hD (fun i x hx=>hyk i (.ex x) (by simp[Pa.kids,hx])) h0;simp[c202,ldS,hc,Pa.v,Pa.kind,Pa.toX];refine qan hA ?_;rintro v U ⟨hk,⟨rfl,hj⟩|⟨rfl,hd⟩⟩
  ·simp;exact qaE rfl ⟨hk,.inl (by simpa[Pa.kids] using hj)⟩
  ·simp;exact qaE rfl ⟨hk,.inr hd⟩
 | de d=>
  have o:=(De.ok_iff d).1 hp;have hA:=qfC d.exps o.exps.1 l S J D M hM hJ hD (fun i x hx=>hyk i (.ex x) (by simp only[Pa.kids];rw[qt0 (by simpa using (qtV.1 hx).1)];simp[hx])) h0;simp[c202,ldS,hc,Pa.v,Pa.kind,Pa.toD];refine qan hA ?_;rintro v U ⟨hk,⟨rfl,hj⟩|⟨rfl,hd⟩⟩
  ·have hc':=hcap _ _ hj;have hB:=qmP d.body o.body.1 l U (fun i=>J (d.exps.length+i)) D M (fun x hx=>quD (hM x hx) hk.len) (fun i U o=>hJ _ U o) hD
    (fun i x hx U' hj' hk'=>hyk (d.exps.length+i) (.st x) (by simp only[Pa.kids];rw[qtW (by simp)];simp[hx]) U' hj' (hk.trans hk')) hj
   simp[ldS,hc',Pa.v,Pa.kind,Pa.toD];refine qan hB ?_;rintro v U' ⟨hk',⟨rfl,hj'⟩|⟨rfl,hd'⟩⟩
   ·simp;exact qaE rfl ⟨hk.trans hk',.inl (by simpa[Pa.kids] using hj')⟩
   ·simp;exact qaE rfl ⟨hk.trans hk',.inr hd'⟩
  ·simp;exact qaE rfl ⟨hk,.inr hd⟩
 | st s=>
  have o:=(Sm.ok_iff s).1 hp
  have g1:∀(i:Nat) x,s.targets[i]?=some x→(Pa.st s).kids[i]?=some (.ex x):=fun i x hx=>by
   simp only[Pa.kids];rw[qt0 (by simpa using (qtV.1 hx).1)];simp[hx]
  have g2:∀(i:Nat) x,s.exps[i]?=some x→(Pa.st s).kids[s.targets.length+i]?=some (.ex x):=fun i x hx=>by
   simp only[Pa.kids];rw[qtW (by simp),qt0 (by simpa using (qtV.1 hx).1)];simp[hx]
  have g3:∀(i:Nat) x,s.elems[i]?=some x→(Pa.st s).kids[s.targets.length+s.exps.length+i]?=some (.el x):=fun i x hx=>by
   simp only[Pa.kids];rw[qtW (by simp;omega),qtW (by simp;omega),qt0 (by have:=(qtV.1 hx).1;simp;omega)];simp[show s.targets.length+s.exps.length+i - s.targets.length - s.exps.length=i by omega,hx]
  have g4:∀(i:Nat) x,s.decls[i]?=some x→(Pa.st s).kids[s.targets.length+s.exps.length+s.elems.length+i]?=some (.de x):=fun i x hx=>by
   simp only[Pa.kids];rw[qtW (by simp;omega),qtW (by simp;omega),qtW (by simp;omega),qt0 (by have:=(qtV.1 hx).1;simp;omega)];simp[show s.targets.length+s.exps.length+s.elems.length+i - s.targets.length - s.exps.length - s.elems.length=i by omega,hx]
  have g5:∀(i:Nat) x,s.body[i]?=some x→(Pa.st s).kids[s.targets.length+s.exps.length+s.elems.length+s.decls.length+i]?=some (.st x):=fun i x hx=>by
   simp only[Pa.kids];rw[qtW (by simp;omega),qtW (by simp;omega),qtW (by simp;omega),qtW (by simp;omega)];simp[show s.targets.length+s.exps.length+s.elems.length+s.decls.length+i - s.targets.length - s.exps.length - s.elems.length - s.decls.length=i by omega,hx]
  have S1k:Kp M S (S++[.arr [s.v] 8 1]):=(Kp.refl _ _).push _;have hA:=qfC s.targets o.targets.1 l (S++[.arr [s.v] 8 1]) J D M (fun x hx=>by have:=hM x hx;simp;omega) hJ hD (fun i x hx U hj hk=>hyk i (.ex x) (g1 i x hx) U hj (S1k.trans hk)) (hJ _ _ _ h0);have hs:(S++[Ob.arr [s.v] 8 1])[S.length]?=some (.arr [s.v] 8 1):=by simp
  have nM:¬ M S.length:=fun h=>by have:=hM _ h;omega
  simp[c202,ldS,hc,Pa.v,Pa.kind,Pa.toS,boxS,stS,qbt];refine qan hA ?_;rintro v U1 ⟨k1,⟨rfl,j1⟩|⟨rfl,hd⟩⟩
  ·have hs1:=k1.at hs nM;have k1':=S1k.trans k1;have hB:=qfC s.exps o.exps.1 l U1 (fun i=>J (s.targets.length+i)) D M (fun x hx=>quD (hM x hx) k1'.len) (fun i U o=>hJ _ U o) hD (fun i x hx U' hj' hk'=>hyk _ (.ex x) (g2 i x hx) U' hj' (k1'.trans hk')) j1;simp[ldS,hs1];refine qan hB ?_;rintro v U2 ⟨k2,⟨rfl,j2⟩|⟨rfl,hd⟩⟩
   ·have hs2:=k2.at hs1 nM;have k2':=k1'.trans k2;have hC:=qpR s.elems o.elems.1 l U2 (fun i=>J (s.targets.length+s.exps.length+i)) D M (fun x hx=>quD (hM x hx) k2'.len) (fun i U o=>hJ _ U o) hD (fun i x hx U' hj' hk'=>hyk _ (.el x) (g3 i x hx) U' hj' (k2'.trans hk')) j2;simp[ldS,hs2];refine qan hC ?_;rintro v U3 ⟨k3,⟨rfl,j3⟩|⟨rfl,hd⟩⟩
    ·have hs3:=k3.at hs2 nM;have k3':=k2'.trans k3;have hE:=qqB s.decls o.decls.1 l U3 (fun i=>J (s.targets.length+s.exps.length+s.elems.length+i)) D M (fun x hx=>quD (hM x hx) k3'.len) (fun i U o=>hJ _ U o) hD (fun i x hx U' hj' hk'=>hyk _ (.de x) (g4 i x hx) U' hj' (k3'.trans hk')) j3;simp[ldS,hs3];refine qan hE ?_;rintro v U4 ⟨k4,⟨rfl,j4⟩|⟨rfl,hd⟩⟩
     ·have hs4:=k4.at hs3 nM;have k4':=k3'.trans k4;have hF:=qmP s.body o.body.1 l U4 (fun i=>J (s.targets.length+s.exps.length+s.elems.length+s.decls.length+i)) D M (fun x hx=>quD (hM x hx) k4'.len) (fun i U o=>hJ _ U o) hD (fun i x hx U' hj' hk'=>hyk _ (.st x) (g5 i x hx) U' hj' (k4'.trans hk')) j4;simp[ldS,hs4];refine qan hF ?_;rintro v U5 ⟨k5,⟨rfl,j5⟩|⟨rfl,hd⟩⟩
      ·simp;refine qaE rfl ⟨k4'.trans k5,.inl ?_⟩;rw[qdA];simpa[quN] using j5
      ·simp;exact qaE rfl ⟨k4'.trans k5,.inr hd⟩
     ·simp;exact qaE rfl ⟨k3'.trans k4,.inr hd⟩
    ·simp;exact qaE rfl ⟨k2'.trans k3,.inr hd⟩
   ·simp;exact qaE rfl ⟨k1'.trans k2,.inr hd⟩
  ·simp;exact qaE rfl ⟨S1k.trans k1,.inr hd⟩
theorem gp{U:St}{x:Nat}{o o':Ob}(h:U[x]?=some o):(U++[o'])[x]?=some o:=by rw[qt0 (qtV.1 h).1];exact h
theorem gs{U:St}{x L:Nat}{o o':Ob}(h:U[x]?=some o)(hx:x≠L):(U.set L o')[x]?=some o:=by rw[qtY (Ne.symm hx)];exact h
theorem glt{U:St}{x:Nat}{o:Ob}(h:U[x]?=some o):x<U.length:=(qtV.1 h).1
@[simp] theorem Pa.v_flatA(p:Pa):(∀x,x∈p.v.cells→x.flat=true)=True:=by
 have:=Pa.v_flat p;rw[quj] at this;exact eq_true this
@[simp] theorem Pa.v_flatB(p:Pa):(p.v.cells.all V.flat)=true:=Pa.v_flat p
@[simp] theorem Pa.v_sz(p:Pa):p.v.size=25:=rfl
@[simp] theorem Pa.v_part(p:Pa):V.part p.v 0 (some 25)=some p.v:=rfl
theorem qng{α:Type}{l:List α}{i:Nat}{x:α}(h:l[i]?=some x):l.set i x=l:=by
 apply qu8;intro j;rw[List.getElem?_set];split
 ·rename_i hij;subst hij;rw[h];have:=(qtV.1 h).1;simp[this]
 ·rfl
theorem Kp.chain{M N:Nat→Prop}{S T U:St}(h:Kp M S T)(g:Kp N T U)(hn:∀l,l<S.length→N l→M l):Kp M S U:=
 ⟨quJ h.len g.len,fun l hl hm=>(g.get l (quD hl h.len) fun hh=>hm (hn l hl hh)).trans (h.get l hl hm)⟩
def qj9(a b c:Nat):V:=.fn (.func 177) [] [.ptr a 0 0 1,.ptr b 0 0 1,.ptr c 0 0 1]
structure MJ(a b c n:Nat)(p:Pa)(at' z d:Int)(U:St):Prop where
 ta:U[a]?=some (.arr [.int .i64 z] 1 1)
 tb:U[b]?=some (.arr [.int .i64 d] 1 1)
 tc:U[c]?=some (.arr [qj9 a b c] 1 1)
 t6:U[n+1]?=some (.arr [.int .i64 at'] 1 1)
 t7:U[n+2]?=some (.arr [.bool false] 1 1)
 k:U[n+3]?=some (.arr [p.v] 25 1)
theorem MJ.push{a b c n:Nat}{p:Pa}{at' z d:Int}{U:St}(h:MJ a b c n p at' z d U)(o:Ob):MJ a b c n p at' z d (U++[o]):=⟨gp h.ta,gp h.tb,gp h.tc,gp h.t6,gp h.t7,gp h.k⟩
theorem MJ.set{a b c n:Nat}{p:Pa}{at' z d:Int}{U:St}(h:MJ a b c n p at' z d U){L:Nat}(o:Ob)(ha:a<n)(hb:b<n)(hc:c<n)(hL:n+4≤L):MJ a b c n p at' z d (U.set L o):=
 ⟨gs h.ta (by omega),gs h.tb (by omega),gs h.tc (by omega),gs h.t6 (by omega),gs h.t7 (by omega),gs h.k (by omega)⟩
structure MD(a b c n:Nat)(U:St):Prop where
 z:∃z:Int,U[a]?=some (.arr [.int .i64 z] 1 1)
 d:∃d:Int,U[b]?=some (.arr [.int .i64 d] 1 1)
 t7:U[n+2]?=some (.arr [.bool false] 1 1)
theorem MD.push{a b c n:Nat}{U:St}(h:MD a b c n U)(o:Ob):MD a b c n (U++[o]):=⟨let ⟨z,hz⟩:=h.z;⟨z,gp hz⟩,let ⟨z,hz⟩:=h.d;⟨z,gp hz⟩,gp h.t7⟩
def mOk(p:Pa)(z at':Int):Prop:=z+p.size≤2000∧at'+p.depth - 1≤60
theorem qcb{l:List Pa}{i:Nat}{q:Pa}(h:l[i]?=some q):qbi (l.take (i+1))=max (qbi (l.take i)) q.depth:=by
 rw[qt9,h,qbP];simp
theorem qct{l:List Pa}{i:Nat}{q:Pa}(h:l[i]?=some q):qaB (l.take (i+1))=qaB (l.take i)+q.size:=by
 rw[qt9,h,qa2];simp
theorem qkB{l:List Pa}{i:Nat}{q:Pa}(h:l[i]?=some q):q.depth≤qbi l:=by
 have:=qcb h;have h2:qbi l=max (qbi (l.take (i+1))) (qbi (l.drop (i+1))):=by rw[←qbP,quF]
 omega
theorem qaW{l:List Pa}{i:Nat}{q:Pa}(h:l[i]?=some q):qaB (l.take i)+q.size≤qaB l:=by
 have:=qct h;have h2:qaB l=qaB (l.take (i+1))+qaB (l.drop (i+1)):=by rw[←qa2,quF]
 omega
def mR(a b:Nat)(p:Pa)(z d at':Int)(S:St)(v:V)(U:St):Prop:=Kp (fun x=>x=a∨x=b) S U∧∃z' d':Int,U[a]?=some (.arr [.int .i64 z'] 1 1)∧U[b]?=some (.arr [.int .i64 d'] 1 1)∧
 ((v=.bool true∧z'=z+p.size∧d'=max d (at'+p.depth - 1)∧mOk p z at')∨(v=.bool false∧¬ mOk p z at'))
theorem qpK:∀(k:Nat) (p:Pa),p.wt≤k→p.ok→∀(at':Int),1≤at'→at'≤61→∀(a b c:Nat),a≠b→a≠c→b≠c→∀(z d:Int),0≤z→z≤2000→0≤d→d≤60→∀S:St,
  S[a]?=some (.arr [.int .i64 z] 1 1)→S[b]?=some (.arr [.int .i64 d] 1 1)→S[c]?=some (.arr [qj9 a b c] 1 1)→
  Spec prog 177 [p.v,.int .i64 at',.ptr a 0 0 1,.ptr b 0 0 1,.ptr c 0 0 1] S (mR a b p z d at' S):=by
 intro k
 induction k with
 | zero=>intro p h;exfalso;cases p with
  | st s=>cases s;simp[Pa.wt] at h
  | de s=>cases s;simp[Pa.wt] at h
  | el s=>cases s;simp[Pa.wt] at h
  | ex s=>cases s;simp[Pa.wt] at h
 | succ k ih=>
  intro p hw hp at' ha0 ha1 a b c hab hac hbc z d hz0 hz1 hd0 hd1 S hA hB hC;have la:=glt hA;have lb:=glt hB;have lc:=glt hC;have ho:=Pa.own_le hp;have ho1:=p.own_pos;unfold B50 at ho;refine Spec.ib func177 ok177 ?_;have e1:IntKind.i64.wrap (z+p.own)=z+p.own:=qaA (by omega) (by omega);simp[c177,boxS];obtain ⟨T,hT⟩:∃T,S++[.arr [p.v] 25 1,.arr [.int .i64 at'] 1 1,.arr [.bool false] 1 1]=T:=⟨_,rfl⟩;have kT:Kp (fun x=>x=a∨x=b) S T:=by rw[←hT];exact (Kp.refl _ _).push _
  have lT:T.length=S.length+3:=by rw[←hT];simp
  have tA:T[a]?=some (.arr [.int .i64 z] 1 1):=by rw[←hT,qt0 la];exact hA
  have tB:T[b]?=some (.arr [.int .i64 d] 1 1):=by rw[←hT,qt0 lb];exact hB
  have tC:T[c]?=some (.arr [qj9 a b c] 1 1):=by rw[←hT,qt0 lc];exact hC
  have t5:T[S.length]?=some (.arr [p.v] 25 1):=by rw[←hT,qtW (by omega)];simp
  have t6:T[S.length+1]?=some (.arr [.int .i64 at'] 1 1):=by rw[←hT,qtW (by omega)];simp
  have t7:T[S.length+2]?=some (.arr [.bool false] 1 1):=by rw[←hT,qtW (by omega)];simp
  rw[hT];clear hT;simp[ldS,tA,t5];refine qba (qry p hp _) ?_;simp[dend,qbj,qbw,ldS,stS,qbt,e1,tA];obtain ⟨T1,hT1⟩:∃T1,List.set T a (.arr [.int .i64 (z+p.own)] 1 1)=T1:=⟨_,rfl⟩;have uA:T1[a]?=some (.arr [.int .i64 (z+p.own)] 1 1):=by rw[←hT1,qtZ (by omega)]
  have uB:T1[b]?=some (.arr [.int .i64 d] 1 1):=by rw[←hT1];exact gs tB hab.symm
  have uC:T1[c]?=some (.arr [qj9 a b c] 1 1):=by rw[←hT1];exact gs tC hac.symm
  have u5:T1[S.length]?=some (.arr [p.v] 25 1):=by rw[←hT1];exact gs t5 (by omega)
  have u6:T1[S.length+1]?=some (.arr [.int .i64 at'] 1 1):=by rw[←hT1];exact gs t6 (by omega)
  have u7:T1[S.length+2]?=some (.arr [.bool false] 1 1):=by rw[←hT1];exact gs t7 (by omega)
  have kU:Kp (fun x=>x=a∨x=b) S T1:=by rw[←hT1];exact kT.set _ (.inl (.inl rfl))
  have lU:T1.length=S.length+3:=by rw[←hT1];simp[lT]
  rw[hT1];clear hT1 tA tB tC t5 t6 t7 kT lT T;have hmx:(if d<at' then at' else d)=max d at':=by omega
  simp[evX,mmV,uB,u6,stS,qbt,ldS,hmx];obtain ⟨T2,hT2⟩:∃T2,List.set T1 b (.arr [.int .i64 (max d at')] 1 1)=T2:=⟨_,rfl⟩;have wA:T2[a]?=some (.arr [.int .i64 (z+p.own)] 1 1):=by rw[←hT2];exact gs uA hab
  have wB:T2[b]?=some (.arr [.int .i64 (max d at')] 1 1):=by rw[←hT2,qtZ (by omega)]
  have wC:T2[c]?=some (.arr [qj9 a b c] 1 1):=by rw[←hT2];exact gs uC hbc.symm
  have w5:T2[S.length]?=some (.arr [p.v] 25 1):=by rw[←hT2];exact gs u5 (by omega)
  have w6:T2[S.length+1]?=some (.arr [.int .i64 at'] 1 1):=by rw[←hT2];exact gs u6 (by omega)
  have w7:T2[S.length+2]?=some (.arr [.bool false] 1 1):=by rw[←hT2];exact gs u7 (by omega)
  have kW:Kp (fun x=>x=a∨x=b) S T2:=by rw[←hT2];exact kU.set _ (.inl (.inr rfl))
  have lW:T2.length=S.length+3:=by rw[←hT2];simp[lU]
  rw[hT2];clear hT2 uA uB uC u5 u6 u7 kU lU T1;have hsz:=p.size_eq;have hdp:=p.depth_eq;by_cases g1:2000<z+p.own
  ·simp[g1,wA,stS,qbt,w7];refine qaj (by simp[ldS,lW];rfl) ⟨kW.set _ (.inr (by omega)),z+p.own,max d at',gs wA (by omega),gs wB (by omega),.inr ⟨rfl,?_⟩⟩;unfold mOk;have:=Pa.own_pos p;omega
  by_cases g2:60<max d at'
  ·simp[g1,g2,wA,wB,stS,qbt,w7,ldS];refine qaj (by simp[ldS,lW];rfl) ⟨kW.set _ (.inr (by omega)),z+p.own,max d at',gs wA (by omega),gs wB (by omega),.inr ⟨rfl,?_⟩⟩;unfold mOk;have:=Pa.depth_pos p;omega
  simp[g1,g2,wA,wB,stS,qbt,w5,ldS];refine qan (qmh p T2) ?_;rintro v U ⟨rfl,rfl⟩;simp;have hkl:(p.kids.map fun q=>[q.v]).length=p.kids.length:=by simp
  refine qjM (k:=202) (fs:=[]) (cs:=[.ptr T2.length 0 0 1]) (by simp) (qhO p hp T2.length) rfl rfl rfl (by simp) (fun x=>x=a∨x=b∨x=S.length+2) ?_
   (fun i U=>MJ a b c S.length p at' (z+p.own+qaB (p.kids.take i)) (max (max d at') (at'+qbi (p.kids.take i))) U∧z+p.own+qaB (p.kids.take i)≤2000∧max (max d at') (at'+qbi (p.kids.take i))≤60)
   (fun U=>MD a b c S.length U∧¬ mOk p z at') (fun _ _=>False) ?_ ?_ ?_ ?_ (fun i U L o o' _ h hl=>⟨⟨gl h.1.ta (by simp) hl,gl h.1.tb (by simp) hl,gl h.1.tc (by simp) hl,gl h.1.t6 (by simp) hl,gl h.1.t7 (by simp) hl,gl h.1.k (by simp) hl⟩,h.2⟩)
   (fun U L o o' _ h hl=>⟨⟨let ⟨z,hz⟩:=h.1.z;⟨z,gl hz (by simp) hl⟩,let ⟨z,hz⟩:=h.1.d;⟨z,gl hz (by simp) hl⟩,gl h.1.t7 (by simp) hl⟩,h.2⟩) (fun id U L o o' _ h hl=>h.elim) ?_ ?_ ?_ ?_ ?_
  ·rintro x (rfl|rfl|rfl) <;> simp <;> omega
  ·rintro i U ⟨h,_⟩;rw[lW];exact h.k
  ·rintro i U ⟨h,h1⟩;exact fun o=>⟨h.push o,h1⟩
  ·rintro U ⟨h,h1⟩;exact fun o=>⟨h.push o,h1⟩
  ·rintro id U h;exact h.elim
  ·refine ⟨⟨gp (gp wA) |> fun h=>by simpa using h,gp (gp wB) |> fun h=>by simpa using h,gp (gp wC),gp (gp w6),gp (gp w7),?_⟩,by simp;omega,by simp;omega⟩;refine gp ?_;rw[←lW,qtW (qt1 _)];simp
  ·rintro i av hav U ⟨hj,hj1,hj2⟩ hk hl;rw[quf] at hav;obtain ⟨q,hq,rfl⟩:=qt4.1 hav;have q1:=qct hq;have q2:=qcb hq;have q3:=qaW hq;have q4:=qkB hq;have hqk:q∈p.kids:=qt6 hq;have hqw:=Pa.kid_lt hqk;have hL:(T2++[Ob.arr [p.v] 25 1]).length=S.length+4:=by simp[lW]
   simp[Env.keep] at hl;simp[qcE,Env.keep,boxS,stS,qbt];refine qcR (gp hl) rfl ?_;have lU:=glt hl;have nU:U.length≠T2.length+1:=by omega
   have vq:((U++[Ob.arr [q.v] 25 1]).set (T2.length+1) (.loop { st:=.busy,pend:=none,ps:=[24],asg:=(rfAt Tryz.f177 0).1,body:=(rfAt Tryz.f177 0).2,e:=[(4,V.ptr c 0 0 1),(6,V.ptr (S.length+1) 0 0 1),(7,V.ptr (S.length+2) 0 0 1)],N:=31 }))[U.length]?=some (.arr [q.v] 25 1):=gs (by simp) nU;have vL:((U++[Ob.arr [q.v] 25 1]).set (T2.length+1) (.loop { st:=.busy,pend:=none,ps:=[24],asg:=(rfAt Tryz.f177 0).1,body:=(rfAt Tryz.f177 0).2,e:=[(4,V.ptr c 0 0 1),(6,V.ptr (S.length+1) 0 0 1),(7,V.ptr (S.length+2) 0 0 1)],N:=31 }))[T2.length+1]?=some (.loop _):=qtZ (by simp;omega);have vj:=(hj.push (Ob.arr [q.v] 25 1)).set (L:=T2.length+1) (.loop { st:=.busy,pend:=none,ps:=[24],asg:=(rfAt Tryz.f177 0).1,body:=(rfAt Tryz.f177 0).2,e:=[(4,V.ptr c 0 0 1),(6,V.ptr (S.length+1) 0 0 1),(7,V.ptr (S.length+2) 0 0 1)],N:=31 }) la lb lc (by omega);have vk:Kp (fun x=>(x=a∨x=b∨x=S.length+2)∨x=T2.length+1) U ((U++[Ob.arr [q.v] 25 1]).set (T2.length+1) (.loop { st:=.busy,pend:=none,ps:=[24],asg:=(rfAt Tryz.f177 0).1,body:=(rfAt Tryz.f177 0).2,e:=[(4,V.ptr c 0 0 1),(6,V.ptr (S.length+1) 0 0 1),(7,V.ptr (S.length+2) 0 0 1)],N:=31 })):=((Kp.refl _ _).push _).set _ (.inl (.inr rfl));generalize (U++[Ob.arr [q.v] 25 1]).set (T2.length+1) _=W at vq vL vj vk ⊢;have lWl:=glt vL;simp[ldS,vj.tc,vq,vj.t6,qj9,qaA (n:=at'+1) (by omega) (by omega)];refine qan (ih q (by omega) (Pa.kid_ok hp hqk) (at'+1) (by omega) (by omega) a b c hab hac hbc _ _ (by omega) hj1 (by omega) hj2 W vj.ta vj.tb vj.tc) ?_;rintro v X ⟨xk,z',d',xa,xb,⟨rfl,rfl,rfl,xo⟩|⟨rfl,xo⟩⟩
   ·simp;have xo':=xo;unfold mOk at xo';refine qgp ⟨rfl,rfl⟩ (.inr rfl) (xk.at vL (by omega)) (vk.trans (xk.mono fun l _ h=>.inl (h.elim .inl fun h=>.inr (.inl h)))) ⟨⟨gs xa (by omega) |>.trans ?_,gs xb (by omega) |>.trans ?_,gs (xk.at vj.tc (by omega)) (by omega),gs (xk.at vj.t6 (by omega)) (by omega),gs (xk.at vj.t7 (by omega)) (by omega),gs (xk.at vj.k (by omega)) (by omega)⟩,?_,?_⟩
    ·rw[q1];congr 4;omega
    ·rw[q2];congr 4;omega
    ·omega
    ·omega
   ·have x7:=xk.at vj.t7 (by omega);simp[stS,qbt,x7];refine qhY (.inr rfl) (gs (xk.at vL (by omega)) (by omega)) ((vk.trans (xk.mono fun l _ h=>.inl (h.elim .inl fun h=>.inr (.inl h)))).set _ (.inl (.inl (.inr (.inr rfl))))) ⟨⟨⟨_,gs (gs xa (by omega)) (by omega)⟩,⟨_,gs (gs xb (by omega)) (by omega)⟩,gs (qtZ (glt x7)) (by omega)⟩,?_⟩;unfold mOk at xo ⊢;omega
  ·rintro U ⟨hj,hj1,hj2⟩ hk;rw[hkl,qun] at hj hj1 hj2;simp[stS,qbt,hj.t7];refine qaj (by simp[ldS,glt hj.t7];rfl) ⟨?_,_,_,gs hj.ta (by omega),gs hj.tb (by omega),.inl ⟨rfl,by omega,by omega,?_⟩⟩
   ·exact (kW.chain hk.ofPush fun l hl h=>by omega).set _ (.inr (by omega))
   ·unfold mOk;omega
  ·rintro U ⟨hj,hj1⟩ hk;obtain ⟨⟨z',hz'⟩,⟨d',hd'⟩,h7⟩:=hj;simp;refine qaj (by simp[ldS,h7];rfl) ⟨?_,z',d',hz',hd',.inr ⟨rfl,hj1⟩⟩;exact kW.chain hk.ofPush fun l hl h=>by omega
  ·rintro id U h;exact h.elim
theorem qqM(p:Pa)(hp:p.ok):∀S,Spec prog 150 [p.v] S (fun v U=>(∃z d:Int,v=.tup [.int .i64 z,.int .i64 d,.bool (decide p.fits)]∧(p.fits→z=p.size∧d=p.depth))∧U=S):=by
 refine Pu.intro (R:=fun v=>∃z d:Int,v=.tup [.int .i64 z,.int .i64 d,.bool (decide p.fits)]∧(p.fits→z=p.size∧d=p.depth)) func150 ok150 (by simp[c150]) (by simp[V.under]) (by rintro v ⟨z,d,rfl,_⟩;rfl) ?_;simp[c150,boxS,stS,qbt,ldS];refine qan (qpK _ p (qt1 _) hp 1 (by omega) (by omega) 1 2 3 (by omega) (by omega) (by omega) 0 0 (by omega) (by omega) (by omega) (by omega) _ rfl rfl rfl) ?_;rintro v U ⟨hk,z,d,ha,hb,h⟩;have hfit:p.fits↔mOk p 0 1:=by unfold Pa.fits mOk;omega
 have key:v=.bool (decide p.fits)∧(p.fits→z=p.size∧d=p.depth):=by
  rcases h with ⟨rfl,h1,h2,h3⟩|⟨rfl,h3⟩
  ·rw[decide_eq_true (hfit.2 h3)];refine ⟨rfl,fun _=>⟨by omega,?_⟩⟩;have:=p.depth_pos;omega
  ·rw[decide_eq_false fun hh=>h3 (hfit.1 hh)];exact ⟨rfl,fun hh=>absurd (hfit.1 hh) h3⟩
 obtain ⟨rfl,hk2⟩:=key;simp[ldS,ha,hb,stS,qbt,qng ha,qng hb,dend,qbj,qbw];refine qaa (vs:=[.int .i64 z,.int .i64 d,.bool (decide p.fits)]) (by simp[ldS,ha,hb]) ⟨z,d,rfl,hk2⟩ rfl
theorem qah(cs:List V)(off n:Nat):V.part (.agg cs) off (some n)=if off=0∧n=cs.length then some (.agg cs) else if off+n≤cs.length then some (.agg ((cs.drop off).take n)) else none:=by
 by_cases h:off=0∧n=cs.length
 ·simp[V.part,h]
 ·have:¬ (off=0∧n=(V.agg cs).size∧(V.agg cs).isAgg=true):=fun hh=>h ⟨hh.1,by simpa using hh.2.1⟩
  simp only[V.part,if_neg this,if_neg h]
@[simp] theorem part_Ex2(x:Ex):V.part x.v 3 (some 2)=some (.agg [.int .i64 x.man,.int .i64 x.exp]):=by rw[Ex.v_eq];rfl
theorem qac(cs:List V)(off n:Nat)(y:V):V.upd (.agg cs) off n y=if y.size=n∧y.cells.all V.flat=true then (if off=0∧n=cs.length then some y else if off+n≤cs.length then some (.agg (cs.take off++y.cells++cs.drop (off+n))) else none) else none:=rfl
theorem qf7(x:Ex)(off n:Nat)(y:V):V.upd x.v off n y=V.upd (.agg [.int .i64 x.kind,.int .i64 x.op,.int .i64 x.n,.int .i64 x.man,.int .i64 x.exp,.str x.text,.sl false (x.args.map Ex.v)]) off n y:=by rw[Ex.v_eq]
theorem qgg(d:De)(off n:Nat)(y:V):V.upd d.v off n y=V.upd (.agg [.int .i64 d.kind,.bool d.own,.int .i64 d.type,.sl false (d.names.map .str),.sl false (d.exps.map Ex.v),.sl false (d.formals.map Fo.v),.sl false (d.body.map Sm.v)]) off n y:=by rw[De.v_eq]
theorem qc3(s:Sm)(off n:Nat)(y:V):V.upd s.v off n y=V.upd (.agg [.sl false (s.labels.map .str),.int .i64 s.kind,.str s.text,.sl false (s.targets.map Ex.v),.sl false (s.exps.map Ex.v),.sl false (s.elems.map El.v),.sl false (s.decls.map De.v),.sl false (s.body.map Sm.v)]) off n y:=by rw[Sm.v_eq]
theorem qpm(f:Fo)(off n:Nat)(y:V):V.upd f.v off n y=V.upd (.agg [.str f.name,.bool f.value,.int .i64 f.spec,.int .i64 f.type]) off n y:=rfl
theorem qml(k:IntKind)(m:Int)(y:V):V.upd (.int k m) 0 1 y=if y.size=1∧y.cells.all V.flat=true then some y else none:=rfl
theorem qbG(b:Bool)(y:V):V.upd (.bool b) 0 1 y=if y.size=1∧y.cells.all V.flat=true then some y else none:=rfl
theorem qhJ(y:V):V.upd .nilfn 0 1 y=if y.size=1∧y.cells.all V.flat=true then some y else none:=rfl
theorem qaG{a lo hi:Int}(h:¬ (lo≤a∧a≤hi)):(decide (lo≤a) && decide (a≤hi))=false:=by
 by_cases h1:lo≤a
 ·have h2:¬ a≤hi:=fun hh=>h ⟨h1,hh⟩
  simp[h1,h2]
 ·simp[h1]
theorem qaJ{a lo hi:Int}(h:lo≤a∧a≤hi):(decide (lo≤a) && decide (a≤hi))=true:=by simp[h.1,h.2]
theorem qaF(n lo hi:Int):∀S,Fn prog 209 [.int .i64 n,.int .i64 lo,.int .i64 hi] S (.bool (decide (lo≤n) && decide (n≤hi))):=by
 refine Pu.ib func209 ok209 (by simp[c209]) (by simp[V.under]) rfl ?_;by_cases h:lo≤n
 ·simp[c209,h];exact qaa rfl rfl rfl
 ·simp[c209,h];exact qaa rfl rfl rfl
def arL(k:Int):Int:=if k=7 then 1 else if k=8 then 1 else if k=9 then 1 else if k=10 then 2 else if k=11 then 3 else 0
def arH(k:Int):Int:=if k=7 then 4 else if k=8 then 8 else if k=9 then 1 else if k=10 then 2 else if k=11 then 3 else 0
theorem qce(k:Int):∀S,Fn prog 208 [.int .i64 k] S (.tup [.int .i64 (arL k),.int .i64 (arH k)]):=by
 refine Pu.ib func208 ok208 (by simp[c208]) (by simp[V.under]) rfl ?_;by_cases h7:k=7
 ·simp[c208,h7];exact qaa rfl rfl rfl
 by_cases h8:k=8
 ·simp[c208,h8];exact qaa rfl rfl rfl
 by_cases h9:k=9
 ·simp[c208,h9];exact qaa rfl rfl rfl
 by_cases h10:k=10
 ·simp[c208,h10];exact qaa rfl rfl rfl
 by_cases h11:k=11
 ·simp[c208,h11];exact qaa rfl rfl rfl
 simp[c208,h7,h8,h9,h10,h11];exact qaa rfl (by simp[retV,arL,arH,h7,h8,h9,h10,h11]) rfl
def fitB(lo hi n:Int):Bool:=decide (lo≤n) && (decide (hi<0) || decide (n≤hi))
theorem qax(lo hi n:Int):∀S,Fn prog 212 [.agg [.int .i64 lo,.int .i64 hi],.int .i64 n] S (.bool (fitB lo hi n)):=by
 refine Pu.intro (R:=fun v=>v=.bool (fitB lo hi n)) func212 ok212 (by simp[c212]) (by simp[V.under,V.underL]) (by rintro v rfl;rfl) ?_;by_cases h:lo≤n
 ·by_cases h2:hi<0
  ·simp[c212,boxS,ldS,h,h2];exact qaa rfl (by simp[retV,fitB,h,h2]) rfl
  ·simp[c212,boxS,ldS,h,h2];exact qaa rfl (by simp[retV,fitB,h,h2]) rfl
 ·simp[c212,boxS,ldS,h];exact qaa rfl (by simp[retV,fitB,h]) rfl
theorem qqy(m:Int)(h:0≤m):IntKind.i64.wrap (-m)≤m∨9223372036854775808≤m:=by
 rw[IntKind.wrap_i64];omega
theorem qtc(m:Int):IntKind.i64.wrap m≤9223372036854775807∧-9223372036854775808≤IntKind.i64.wrap m:=by
 rw[IntKind.wrap_i64];omega
theorem qpp(m:Int):(if m<IntKind.i64.wrap (-m) then IntKind.i64.wrap (-m) else m)=mag m:=by
 unfold mag;have h1:=qtc (-m);by_cases h:m<0
 ·rw[if_pos h];split
  ·rfl
  ·rename_i h2;rw[IntKind.wrap_i64] at *;omega
 ·rw[if_neg h];rcases qqy m (by omega) with h2|h2
  ·rw[if_neg (by omega)]
  ·rw[if_neg (by omega)]
theorem qdf(m e m' e':Int):qbd [.int .i64 m,.int .i64 e] [.int .i64 m',.int .i64 e'] [(0,.i),(1,.i)]=some (decide (m=m'∧e=e')):=by
 by_cases h1:m=m'
 ·by_cases h2:e=e'
  ·have h3:(m==m')=true:=by simpa using h1
   have h4:(e==e')=true:=by simpa using h2
   simp[qbd,qcG,h1,h2]
  ·have h4:(e==e')=false:=by simpa using h2
   simp[qbd,qcG,h1,h4,h2]
 ·have h3:(m==m')=false:=by simpa using h1
  simp[qbd,qcG,h3,h1]
theorem qqd(m e:Int):∀S,Fn prog 210 [.agg [.int .i64 m,.int .i64 e]] S (.bool (rvOk m e)):=by
 refine Pu.intro (R:=fun v=>v=.bool (rvOk m e)) func210 ok210 (by simp[c210]) (by simp[V.under,V.underL]) (by rintro v rfl;rfl) ?_;have hm:=qpp m;by_cases h0:m=0∧e=0
 ·obtain ⟨rfl,rfl⟩:=h0;simp[c210,boxS,ldS,V.part,qal,qaf,evX,qdf];exact qaa rfl rfl rfl
 have hr:rvOk m e=(decide (1≤mag m∧mag m<16777216) && (decide (e=-150) || (decide (8388608≤mag m) && decide (-150<e∧e≤150)))):=by
  unfold rvOk;rw[decide_eq_false h0];rfl
 rw[hr];simp[c210,boxS,ldS,V.part,qal,qaf,evX,qdf,h0,mmV,hm];clear hr hm;generalize mag m=a at *;by_cases g1:a<1
 ·simp[g1,show ¬ 1≤a by omega];exact qaa rfl rfl rfl
 by_cases g2:16777216≤a
 ·simp[g1,g2,show ¬ a<16777216 by omega];exact qaa rfl rfl rfl
 by_cases g3:e=-150
 ·simp[ldS,g1,g2,g3,show 1≤a by omega,show a<16777216 by omega];exact qaa rfl rfl rfl
 by_cases g4:8388608≤a
 ·by_cases g5:-150<e
  ·simp[ldS,g1,g2,g3,g4,g5,show 1≤a by omega,show a<16777216 by omega];exact qaa rfl rfl rfl
  ·simp[ldS,g1,g2,g3,g4,g5,show 1≤a by omega,show a<16777216 by omega];exact qaa rfl rfl rfl
 ·simp[ldS,g1,g2,g3,g4,show 1≤a by omega,show a<16777216 by omega];exact qaa rfl rfl rfl
def no(_:Nat):Prop:=False
def anyQ{α:Type}(l:List α)(q:α→Bool):Bool:=l.any q
theorem qq0(s:ByteArray):∀S,Fn prog 249 [.str s] S (.bool (!qab s)):=by
 refine Pu.ib func249 ok249 (by simp[c249]) (by simp[V.under]) rfl ?_;simp[c249];refine qai (qeN s _) ?_;simp;exact qaa rfl rfl rfl
theorem qqs(x:Ex):∀S,Fn prog 253 [x.v] S (.bool (!x.tgt)):=by
 refine Pu.ib func253 ok253 (by simp[c253]) (by simp[V.under]) rfl ?_;by_cases h6:x.kind=6
 ·simp[c253,boxS,ldS,h6];exact qaa rfl (by simp[retV,Ex.tgt,h6]) rfl
 ·simp[c253,boxS,ldS,h6];exact qaa rfl (by simp[retV,Ex.tgt,h6]) rfl
theorem qrG(b:Bool)(l:List ByteArray)(hl:l.length≤B50)(g:Nat)(cs:List V)(q:ByteArray→Bool)(S:St)(h:∀x,x∈l→∀U,Kp no S U→Spec prog g (.str x::cs) U (fun v U'=>v=.bool (q x)∧Kp no U U')):
  Spec prog 173 [.sl b (l.map V.str),.fn (.func g) [] cs] S (fun v U=>(∃n:Int,v=.int .i64 n∧(0≤n↔anyQ l q=true))∧Kp no S U):=by
 unfold B50 at hl;refine Spec.ib func173 ok173 ?_;simp only[c173,C'.k];simp;refine qar (fun j e S'=>∃i:Nat,j=l.length - i∧i≤l.length∧anyQ (l.take i) q=false∧Kp no S S'∧
  e=[(8,.int .i64 i),(7,.int .i64 l.length),(6,.sl b (l.map V.str)),(0,.sl b (l.map V.str)),(1,.fn (.func g) [] cs)]) l.length _ ?_ ⟨0,by simp,by omega,rfl,Kp.refl _ _,rfl⟩ ?_
 ·exact Env.so (by simp)
 rintro j e S' ⟨i,rfl,hi,hq,hk,rfl⟩;by_cases h1:i<l.length
 ·have h2:=h l[i] (qt7 h1) S' hk;simp[h1,qc4];refine qan h2 ?_;rintro v U' ⟨rfl,hk'⟩
  cases h3:q l[i] with
  | true=>
   simp;refine qaj rfl ⟨⟨i,rfl,?_⟩,hk.trans hk'⟩;exact ⟨fun _=>qvE.2 ⟨l[i],qt7 h1,h3⟩,fun _=>by omega⟩
  | false=>
   simp[qaL (n:=(i:Int)+1)];refine ⟨_,?_,_,?_,i+1,rfl,by omega,?_,hk.trans hk',rfl⟩
   ·omega
   ·exact Env.so (by simp)
   ·unfold anyQ at *;rw[qt9,qtX h1,qvT,hq];simp[h3]
 ·simp[h1];refine qaj rfl ⟨⟨-1,rfl,?_⟩,hk⟩;rw[quu (by omega)] at hq;rw[hq];exact ⟨fun h=>absurd h (by decide),fun h=>by cases h⟩
theorem qp6(b:Bool)(l:List ByteArray)(hl:l.length≤B50)(g:Nat)(cs:List V)(q:ByteArray→Bool)(S:St)(h:∀x,x∈l→∀U,Kp no S U→Spec prog g (.str x::cs) U (fun v U'=>v=.bool (q x)∧Kp no U U')):
  Spec prog 138 [.sl b (l.map V.str),.fn (.func g) [] cs] S (fun v U=>v=.bool (anyQ l q)∧Kp no S U):=by
 refine Spec.ib func138 ok138 ?_;simp only[c138,C'.k];simp;refine qan (qrG b l hl g cs q S h) ?_;rintro v U ⟨⟨n,rfl,hn⟩,hk⟩;simp;refine qaj rfl ⟨?_,hk⟩
 cases ha:anyQ l q with
 | true=>simp[retV,hn.2 ha]
 | false=>
  have:¬ 0≤n:=fun hh=>by rw[hn.1 hh] at ha;cases ha
  simp[retV,this]
theorem qqr(b:Bool)(l:List Fo)(hl:l.length≤B50)(g:Nat)(cs:List V)(q:Fo→Bool)(S:St)(h:∀x,x∈l→∀U,Kp no S U→Spec prog g (Fo.v x::cs) U (fun v U'=>v=.bool (q x)∧Kp no U U')):
  Spec prog 169 [.sl b (l.map Fo.v),.fn (.func g) [] cs] S (fun v U=>(∃n:Int,v=.int .i64 n∧(0≤n↔anyQ l q=true))∧Kp no S U):=by
 unfold B50 at hl;refine Spec.ib func169 ok169 ?_;simp only[c169,C'.k];simp;refine qar (fun j e S'=>∃i:Nat,j=l.length - i∧i≤l.length∧anyQ (l.take i) q=false∧Kp no S S'∧
  e=[(8,.int .i64 i),(7,.int .i64 l.length),(6,.sl b (l.map Fo.v)),(0,.sl b (l.map Fo.v)),(1,.fn (.func g) [] cs)]) l.length _ ?_ ⟨0,by simp,by omega,rfl,Kp.refl _ _,rfl⟩ ?_
 ·exact Env.so (by simp)
 rintro j e S' ⟨i,rfl,hi,hq,hk,rfl⟩;by_cases h1:i<l.length
 ·have h2:=h l[i] (qt7 h1) S' hk;simp[h1,iaFo];refine qan h2 ?_;rintro v U' ⟨rfl,hk'⟩
  cases h3:q l[i] with
  | true=>
   simp;refine qaj rfl ⟨⟨i,rfl,?_⟩,hk.trans hk'⟩;exact ⟨fun _=>qvE.2 ⟨l[i],qt7 h1,h3⟩,fun _=>by omega⟩
  | false=>
   simp[qaL (n:=(i:Int)+1)];refine ⟨_,?_,_,?_,i+1,rfl,by omega,?_,hk.trans hk',rfl⟩
   ·omega
   ·exact Env.so (by simp)
   ·unfold anyQ at *;rw[qt9,qtX h1,qvT,hq];simp[h3]
 ·simp[h1];refine qaj rfl ⟨⟨-1,rfl,?_⟩,hk⟩;rw[quu (by omega)] at hq;rw[hq];exact ⟨fun h=>absurd h (by decide),fun h=>by cases h⟩
theorem qp3(b:Bool)(l:List Fo)(hl:l.length≤B50)(g:Nat)(cs:List V)(q:Fo→Bool)(S:St)(h:∀x,x∈l→∀U,Kp no S U→Spec prog g (Fo.v x::cs) U (fun v U'=>v=.bool (q x)∧Kp no U U')):
  Spec prog 131 [.sl b (l.map Fo.v),.fn (.func g) [] cs] S (fun v U=>v=.bool (anyQ l q)∧Kp no S U):=by
 refine Spec.ib func131 ok131 ?_;simp only[c131,C'.k];simp;refine qan (qqr b l hl g cs q S h) ?_;rintro v U ⟨⟨n,rfl,hn⟩,hk⟩;simp;refine qaj rfl ⟨?_,hk⟩
 cases ha:anyQ l q with
 | true=>simp[retV,hn.2 ha]
 | false=>
  have:¬ 0≤n:=fun hh=>by rw[hn.1 hh] at ha;cases ha
  simp[retV,this]
theorem qpF(b:Bool)(l:List Ex)(hl:l.length≤B50)(g:Nat)(cs:List V)(q:Ex→Bool)(S:St)(h:∀x,x∈l→∀U,Kp no S U→Spec prog g (Ex.v x::cs) U (fun v U'=>v=.bool (q x)∧Kp no U U')):
  Spec prog 269 [.sl b (l.map Ex.v),.fn (.func g) [] cs] S (fun v U=>(∃n:Int,v=.int .i64 n∧(0≤n↔anyQ l q=true))∧Kp no S U):=by
 unfold B50 at hl;refine Spec.ib func269 ok269 ?_;simp only[c269,C'.k];simp;refine qar (fun j e S'=>∃i:Nat,j=l.length - i∧i≤l.length∧anyQ (l.take i) q=false∧Kp no S S'∧
  e=[(8,.int .i64 i),(7,.int .i64 l.length),(6,.sl b (l.map Ex.v)),(0,.sl b (l.map Ex.v)),(1,.fn (.func g) [] cs)]) l.length _ ?_ ⟨0,by simp,by omega,rfl,Kp.refl _ _,rfl⟩ ?_
 ·exact Env.so (by simp)
 rintro j e S' ⟨i,rfl,hi,hq,hk,rfl⟩;by_cases h1:i<l.length
 ·have h2:=h l[i] (qt7 h1) S' hk;simp[h1,iaEx];refine qan h2 ?_;rintro v U' ⟨rfl,hk'⟩
  cases h3:q l[i] with
  | true=>
   simp;refine qaj rfl ⟨⟨i,rfl,?_⟩,hk.trans hk'⟩;exact ⟨fun _=>qvE.2 ⟨l[i],qt7 h1,h3⟩,fun _=>by omega⟩
  | false=>
   simp[qaL (n:=(i:Int)+1)];refine ⟨_,?_,_,?_,i+1,rfl,by omega,?_,hk.trans hk',rfl⟩
   ·omega
   ·exact Env.so (by simp)
   ·unfold anyQ at *;rw[qt9,qtX h1,qvT,hq];simp[h3]
 ·simp[h1];refine qaj rfl ⟨⟨-1,rfl,?_⟩,hk⟩;rw[quu (by omega)] at hq;rw[hq];exact ⟨fun h=>absurd h (by decide),fun h=>by cases h⟩
theorem qpQ(b:Bool)(l:List Ex)(hl:l.length≤B50)(g:Nat)(cs:List V)(q:Ex→Bool)(S:St)(h:∀x,x∈l→∀U,Kp no S U→Spec prog g (Ex.v x::cs) U (fun v U'=>v=.bool (q x)∧Kp no U U')):
  Spec prog 252 [.sl b (l.map Ex.v),.fn (.func g) [] cs] S (fun v U=>v=.bool (anyQ l q)∧Kp no S U):=by
 refine Spec.ib func252 ok252 ?_;simp only[c252,C'.k];simp;refine qan (qpF b l hl g cs q S h) ?_;rintro v U ⟨⟨n,rfl,hn⟩,hk⟩;simp;refine qaj rfl ⟨?_,hk⟩
 cases ha:anyQ l q with
 | true=>simp[retV,hn.2 ha]
 | false=>
  have:¬ 0≤n:=fun hh=>by rw[hn.1 hh] at ha;cases ha
  simp[retV,this]
theorem qm8{α:Type}(l:List α)(q:α→Bool):(!anyQ l fun x=>!q x)=l.all q:=by
 unfold anyQ
 induction l with
 | nil=>rfl
 | cons x l ih=>simp only[List.any_cons,List.all_cons,Bool.not_or,Bool.not_not,ih]
theorem qcf(l:List ByteArray)(hl:l.length≤B50):∀S,Fn prog 213 [.sl false (l.map .str)] S (.bool (l.all qab)):=by
 refine Pu.ib func213 ok213 (by simp[c213]) (by simp[V.under]) rfl ?_;simp only[c213,C'.k];simp;refine qan (qp6 false l hl 249 [] (fun x=>!qab x) _ fun x _ U _=>(qq0 x U).mono fun v U' h=>⟨h.1,by rw[h.2];exact Kp.refl _ _⟩) ?_;rintro v U ⟨rfl,_⟩;simp;refine qaa rfl ?_ rfl;simp only[retV,qm8]
theorem qdo(l:List Ex)(hl:l.length≤B50):∀S,Fn prog 215 [.sl false (l.map Ex.v)] S (.bool (l.all Ex.tgt)):=by
 refine Pu.ib func215 ok215 (by simp[c215]) (by simp[V.under]) rfl ?_;simp only[c215,C'.k];simp;refine qan (qpQ false l hl 253 [] (fun x=>!x.tgt) _ fun x _ U _=>(qqs x U).mono fun v U' h=>⟨h.1,by rw[h.2];exact Kp.refl _ _⟩) ?_;rintro v U ⟨rfl,_⟩;simp;refine qaa rfl ?_ rfl;simp only[retV,qm8]
theorem qrJ(f:Fo):∀S,Fn prog 250 [f.v] S (.bool (f.vOwn qab)):=by
 refine Pu.ib func250 ok250 (by simp[c250]) (by simp[V.under]) rfl ?_;simp[c250,boxS,ldS];refine qai (qeN f.name _) ?_
 cases hn:qab f.name with
 | false=>
  simp;exact qaa rfl (by simp[retV,Fo.vOwn,hn]) rfl
 | true=>
  have hv:f.vOwn qab=(if f.spec=0∨f.spec=3∨f.spec=4∨f.spec=5 then decide (f.type=0) && !f.value
   else if f.spec=1 then decide (1≤f.type∧f.type≤3)
   else if f.spec=2 then decide (0≤f.type∧f.type≤3) && (!f.value || decide (f.type≠0))
   else if f.spec=6 then decide (0≤f.type∧f.type≤3) && !f.value
   else false):=by unfold Fo.vOwn;rw[hn];rfl
  rw[hv];by_cases h0:f.spec=0
  ·by_cases ht:f.type=0
   ·simp[ldS,h0,ht];exact qaa rfl rfl rfl
   ·simp[ldS,h0,ht];exact qaa rfl rfl rfl
  by_cases h3:f.spec=3
  ·by_cases ht:f.type=0
   ·simp[ldS,h3,ht];exact qaa rfl rfl rfl
   ·simp[ldS,h3,ht];exact qaa rfl rfl rfl
  by_cases h4:f.spec=4
  ·by_cases ht:f.type=0
   ·simp[ldS,h4,ht];exact qaa rfl rfl rfl
   ·simp[ldS,h4,ht];exact qaa rfl rfl rfl
  by_cases h5:f.spec=5
  ·by_cases ht:f.type=0
   ·simp[ldS,h5,ht];exact qaa rfl rfl rfl
   ·simp[ldS,h5,ht];exact qaa rfl rfl rfl
  by_cases h1:f.spec=1
  ·simp[ldS,h1];refine qai (qaF _ _ _ _) ?_;simp;exact qaa rfl rfl rfl
  by_cases h2:f.spec=2
  ·simp[ldS,h2];refine qai (qaF _ _ _ _) ?_
   cases hr:decide (0≤f.type) && decide (f.type≤3) with
   | false=>
    simp;exact qaa rfl rfl rfl
   | true=>
    cases hval:f.value with
    | false=>
     simp[ldS,hval];exact qaa rfl rfl rfl
    | true=>
     simp[ldS,hval];exact qaa rfl rfl rfl
  by_cases h6:f.spec=6
  ·simp[ldS,h6];refine qai (qaF _ _ _ _) ?_
   cases hr:decide (0≤f.type) && decide (f.type≤3) with
   | false=>
    simp;exact qaa rfl rfl rfl
   | true=>
    simp[ldS];exact qaa rfl rfl rfl
  simp[ldS,h0,h1,h2,h3,h4,h5,h6];exact qaa rfl rfl rfl
theorem qpy(f g:Fo)(L:Nat)(S:St)(h:S[L]?=some (.arr [f.v] 4 1)):Spec prog 251 [g.v,.ptr L 0 0 1] S (fun v U=>v=.bool (decide (g.name=f.name))∧Kp no S U):=by
 refine Spec.ib func251 ok251 ?_;simp[c251,boxS,ldS,gp h];exact qaj rfl ⟨rfl,(Kp.refl _ _).push _⟩
theorem qb2(nm:ByteArray→Bool):∀(l m:List Fo) (had:List ByteArray),qbE nm (l++m) had=(qbE nm l had && qbE nm m (had++l.map Fo.name))
 | [],m,had=>by simp[qbE]
 | f::l,m,had=>by
  simp only[qt8,qbE,qb2 nm l m,qud,qt5,List.singleton_append,qut,qt8,qui]
theorem qtL{l:List V}{k:Nat}(hk:k≤l.length){sz:Nat}(hs:∀x,x∈l→x.size=sz)(S:St):qbs S sz (.sl false l) none (some (k:Int))=some (.sl false (l.take k)):=by
 simp[qbs,hk];exact hs
def prB(l:List UInt8):Bool:=l.all qc9
theorem qel(l:List Fo)(hl:l.length≤B50):∀S,Fn prog 214 [.sl false (l.map Fo.v)] S (.bool (qbE qab l [])):=by
 refine Pu.ib func214 ok214 (by simp[c214]) (by simp[V.under]) rfl ?_;unfold B50 at hl;simp only[c214,C'.k];simp;refine qar (fun j e S'=>∃i:Nat,j=l.length - i∧i≤l.length∧qbE qab (l.take i) []=true∧
  e=[(7,.int .i64 i),(6,.int .i64 l.length),(5,.sl false (l.map Fo.v)),(0,.sl false (l.map Fo.v))]) l.length _ ?_ ⟨0,by simp,by omega,rfl,rfl⟩ ?_
 ·exact Env.so (by simp)
 rintro j e S' ⟨i,rfl,hi,hq,rfl⟩;by_cases h:i<l.length
 ·have hnext:qbE qab (l.take (i+1)) []=(l[i].vOwn qab && !((l.take i).map Fo.name).any fun x=>decide (x=l[i].name)):=by
   rw[qt9,qtX h,quB,qb2,hq];simp[qbE]
  have hall:qbE qab l []=true→qbE qab (l.take (i+1)) []=true:=fun hh=>by
   rw[←quF (i+1) l,qb2,qt3] at hh;exact hh.1
  simp[h,iaFo,boxS,stS,qbt,ldS];refine qai (qrJ l[i] _) ?_
  cases hv:l[i].vOwn qab with
  | false=>
   simp;refine qaa rfl ?_ rfl;simp only[retV,V.bool.injEq]
   cases hh:qbE qab l [] with
   | false=>rfl
   | true=>rw[hall hh,hv] at hnext;simp at hnext
  | true=>
   rw[hv] at hnext;have hs:=qtL (l:=l.map Fo.v) (k:=i) (by simp;omega) (sz:=4) (fun x hx=>by obtain ⟨y,_,rfl⟩:=qul.1 hx;rfl) (S'++[Ob.arr [l[i].v] 4 1]);simp[qdn,hs];rw[←List.map_take];refine qan (qp3 false (l.take i) (by rw[quW];unfold B50;omega) 251 [.ptr S'.length 0 0 1] (fun g=>decide (g.name=l[i].name)) _ fun x _ U hk=>qpy l[i] x S'.length U (hk.at (by simp) (fun h=>h))) ?_;rintro v U ⟨rfl,hk⟩
   have he:anyQ (l.take i) (fun g=>decide (g.name=l[i].name))=((l.take i).map Fo.name).any fun x=>decide (x=l[i].name):=by
    unfold anyQ;rw[List.any_map];rfl
   rw[he]
   cases hc:((l.take i).map Fo.name).any fun x=>decide (x=l[i].name) with
   | true=>
    rw[hc] at hnext;simp;refine qaa rfl ?_ rfl;simp only[retV,V.bool.injEq]
    cases hh:qbE qab l [] with
    | false=>rfl
    | true=>rw[hall hh] at hnext;simp at hnext
   | false=>
    rw[hc] at hnext;simp[qaL (n:=(i:Int)+1)];refine ⟨_,?_,_,?_,i+1,rfl,by omega,by rw[hnext];rfl,rfl⟩
    ·omega
    ·exact Env.so (by simp)
 ·simp[h];refine qaa rfl ?_ rfl;rw[quu (by omega)] at hq;simp only[retV,hq]
theorem qrP(s:ByteArray)(hs:s.size≤B50):∀S,Fn prog 211 [.str s] S (.bool (qcD s)):=by
 refine Pu.ib func211 ok211 (by simp[c211]) (by simp[V.under]) rfl ?_;unfold B50 at hs;have hp:qcD s=(prB s.data.toList && decide (s.size≤80)):=rfl;generalize hpr:qcD s=pr at hp ⊢;simp only[c211,C'.k];simp;refine qar (fun j e S'=>∃i:Nat,j=s.size - i∧i≤s.size∧prB (s.data.toList.take i)=true∧
  e=[(3,.int .i64 i),(0,.str s)]) s.size _ ?_ ⟨0,by simp,by omega,rfl,rfl⟩ ?_
 ·exact Env.so (by simp)
 rintro j e S' ⟨i,rfl,hi,hq,rfl⟩;by_cases h:i<s.size
 ·have hb:s.data.toList[i]?=some (s.data[i]'h):=by simp[h]
  generalize hx:s.data[i]'h=x at hb;have hi':idxV s i=some (.int .u8 x.toNat):=by rw[←hx];exact idxS h
  have hlt:=x.toNat_lt
  have hno:qc9 x=false→pr=false:=fun hh=>by
   rw[hp,qvs];left
   cases ha:prB s.data.toList with
   | false=>rfl
   | true=>
    unfold prB at ha;rw[quj] at ha;rw[ha x (qt6 hb)] at hh;cases hh
  simp[h,hi',qaA (n:=(x.toNat:Int)) (by omega) (by omega)];refine qai (qaF _ _ _ _) ?_;by_cases h1:(32:Int)≤x.toNat∧(x.toNat:Int)≤126
  ·rw[show (decide ((32:Int)≤x.toNat) && decide ((x.toNat:Int)≤126))=true by simp[h1]];by_cases h2:(x.toNat:Int)=34
   ·simp[hi',h2];refine qaa rfl ?_ rfl;rw[hno (by unfold qc9;simp;omega)];rfl
   ·simp[hi',h2,qaL (n:=(i:Int)+1)];refine ⟨_,?_,_,?_,i+1,rfl,by omega,?_,rfl⟩
    ·omega
    ·exact Env.so (by simp)
    ·unfold prB at *;rw[qt9,List.all_append,hq,hb];simp[qc9];omega
  ·rw[show (decide ((32:Int)≤x.toNat) && decide ((x.toNat:Int)≤126))=false by simp;omega];simp;refine qaa rfl ?_ rfl;rw[hno (by unfold qc9;simp;omega)];rfl
 ·simp[h];have hsz:s.data.toList.length=s.size:=rfl;rw[quu (by omega)] at hq;refine qaa rfl ?_ rfl;rw[hp,hq];simp only[retV,V.bool.injEq,qvN,decide_eq_decide];omega
theorem qpB(e:El):∀S,Fn prog 181 [e.v] S (.bool e.vOwn):=by
 refine Pu.ib func181 ok181 (by simp[c181]) (by simp[V.under]) rfl ?_;unfold El.vOwn;by_cases h1:e.kind=1
 ·simp[c181,boxS,ldS,h1];exact qaa rfl (by simp[retV];omega) rfl
 by_cases h2:e.kind=2
 ·simp[c181,boxS,ldS,h2];exact qaa rfl (by simp[retV];omega) rfl
 by_cases h3:e.kind=3
 ·simp[c181,boxS,ldS,h3];exact qaa rfl (by simp[retV];omega) rfl
 simp[c181,boxS,ldS,h1,h2,h3];exact qaa rfl rfl rfl
section
attribute [local simp] boxS ldS stS qac qf7 qml qbG qah qal qaf evX qdf
theorem Ex.vOwn_eq(nm:ByteArray→Bool)(x:Ex):x.vOwn nm=(
 if x.kind=1 then decide (0≤x.n∧x.n≤2147483647) && decide (x.args.length=0) && decide (x.op=0) && (decide (x.man=0) && decide (x.exp=0)) && qa9 x.text
 else if x.kind=2 then rvOk x.man x.exp && decide (0≤x.man) && decide (x.args.length=0) && decide (x.op=0) && decide (x.n=0) && qa9 x.text
 else if x.kind=3∨x.kind=4 then decide (x.args.length=0) && decide (x.op=0) && decide (x.n=0) && (decide (x.man=0) && decide (x.exp=0)) && qa9 x.text
 else if x.kind=5 then qcD x.text && decide (x.args.length=0) && decide (x.op=0) && decide (x.n=0) && (decide (x.man=0) && decide (x.exp=0))
 else if x.kind=6 then nm x.text && decide (x.args.length=0) && decide (x.op=0) && decide (x.n=0) && (decide (x.man=0) && decide (x.exp=0))
 else if x.kind=7 then nm x.text && decide (1≤x.args.length∧x.args.length≤4) && decide (x.op=0) && decide (x.n=0) && (decide (x.man=0) && decide (x.exp=0))
 else if x.kind=8 then nm x.text && decide (1≤x.args.length∧x.args.length≤8) && decide (x.op=0) && decide (x.n=0) && (decide (x.man=0) && decide (x.exp=0))
 else if x.kind=9 then decide (x.op=1∨x.op=2) && decide (x.args.length=1) && decide (x.n=0) && (decide (x.man=0) && decide (x.exp=0)) && qa9 x.text
 else if x.kind=10 then decide (3≤x.op∧x.op≤18) && decide (x.args.length=2) && decide (x.n=0) && (decide (x.man=0) && decide (x.exp=0)) && qa9 x.text
 else if x.kind=11 then decide (x.args.length=3) && decide (x.op=0) && decide (x.n=0) && (decide (x.man=0) && decide (x.exp=0)) && qa9 x.text
 else false):=by cases x;rfl
theorem qaR{t:ByteArray}(h:t=⟨⟨[]⟩⟩):qa9 t=true:=by subst h;rfl
theorem qaK{t:ByteArray}(h:¬ t=⟨⟨[]⟩⟩):qa9 t=false:=decide_eq_false fun hh=>h (qd1.2 hh)
theorem qlU(x:Ex)(hx:x.ok)(h1:x.kind=1):∀S,Fn prog 180 [x.v] S (.bool (x.vOwn qab)):=by
 refine Pu.ib func180 ok180 (by simp[c180]) (by simp[V.under]) rfl ?_;have hv:=Ex.vOwn_eq qab x;generalize x.vOwn qab=r at hv ⊢
 ·simp only[h1] at hv;simp at hv;simp[c180,boxS,ldS,h1];refine qai (qce _ _) ?_;simp[arL,arH,ldS,h1];refine qai (qaF _ _ _ _) ?_;simp[ldS];refine qai (qaF _ _ _ _) ?_;by_cases hl:0≤x.args.length∧x.args.length≤0
  case neg=>
   rw[qaG (a:=(x.args.length:Int)) (lo:=0) (hi:=0) (by omega)];simp;refine qaa rfl ?_ rfl;rw[hv];simp only[retV,V.bool.injEq,qvq];have:¬ x.args=[]:=fun hh=>hl (by rw[hh];simp)
   simp[this]
  rw[qaJ (a:=(x.args.length:Int)) (lo:=0) (hi:=0) (by omega)];have hl':x.args=[]:=qur (by omega);simp[h1];refine qai (qaF _ _ _ _) ?_;by_cases hb:0≤x.n∧x.n≤2147483647
  case neg=>
   rw[qaG (by omega)];simp;exact qaa rfl (by rw[hv];simp[retV,hl',hb]) rfl
  rw[qaJ (by omega)];simp;by_cases ho:x.op=0
  case neg=>
   simp[ho];exact qaa rfl (by rw[hv];simp[retV,hl',hb,ho]) rfl
  simp[ho];by_cases hr:x.man=0∧x.exp=0
  case neg=>
   rcases quC.1 hr with hr1|hr1
   ·simp[hr1];exact qaa rfl (by rw[hv];simp[retV,hl',hr1,hb,ho,true_and]) rfl
   ·simp[hr1];exact qaa rfl (by rw[hv];simp[retV,hl',hr1,hb,ho,true_and]) rfl
  simp[hr];by_cases ht:x.text=⟨⟨[]⟩⟩
  case neg=>
   simp[ht];exact qaa rfl (by rw[hv];simp[retV,hl',hb,ho,hr,qaK ht]) rfl
  simp[ht];rw[ht] at hv;exact qaa rfl (by rw[hv];simp[retV,hl',hb,ho,hr,qaR rfl]) rfl
theorem qmQ(x:Ex)(hx:x.ok)(h2:x.kind=2):∀S,Fn prog 180 [x.v] S (.bool (x.vOwn qab)):=by
 refine Pu.ib func180 ok180 (by simp[c180]) (by simp[V.under]) rfl ?_;have hv:=Ex.vOwn_eq qab x;generalize x.vOwn qab=r at hv ⊢
 ·simp only[h2] at hv;simp at hv;simp[c180,boxS,ldS,h2];refine qai (qce _ _) ?_;simp[arL,arH,ldS,h2];refine qai (qaF _ _ _ _) ?_;simp[ldS];refine qai (qaF _ _ _ _) ?_;by_cases hl:0≤x.args.length∧x.args.length≤0
  case neg=>
   rw[qaG (a:=(x.args.length:Int)) (lo:=0) (hi:=0) (by omega)];simp;refine qaa rfl ?_ rfl;rw[hv];simp only[retV,V.bool.injEq,qvq];have:¬ x.args=[]:=fun hh=>hl (by rw[hh];simp)
   simp[this]
  rw[qaJ (a:=(x.args.length:Int)) (lo:=0) (hi:=0) (by omega)];have hl':x.args=[]:=qur (by omega);simp[h2];refine qai (qqd _ _ _) ?_;cases hb:rvOk x.man x.exp
  case false=>
   simp;exact qaa rfl (by rw[hv];simp[retV,hl',hb]) rfl
  simp;by_cases hm:0≤x.man
  case neg=>
   simp[hm];exact qaa rfl (by rw[hv];simp[retV,hl',hb,hm]) rfl
  simp[hm];by_cases ho:x.op=0
  case neg=>
   simp[ho];exact qaa rfl (by rw[hv];simp[retV,hl',hb,hm,ho]) rfl
  simp[ho];by_cases hn:x.n=0
  case neg=>
   simp[hn];exact qaa rfl (by rw[hv];simp[retV,hl',hb,hm,ho,hn]) rfl
  simp[hn];by_cases ht:x.text=⟨⟨[]⟩⟩
  case neg=>
   simp[ht];exact qaa rfl (by rw[hv];simp[retV,hl',hb,hm,ho,hn,qaK ht]) rfl
  simp[ht];rw[ht] at hv;exact qaa rfl (by rw[hv];simp[retV,hl',hb,hm,ho,hn,qaR rfl]) rfl
theorem qlR(x:Ex)(hx:x.ok)(h3:x.kind=3):∀S,Fn prog 180 [x.v] S (.bool (x.vOwn qab)):=by
 refine Pu.ib func180 ok180 (by simp[c180]) (by simp[V.under]) rfl ?_;have hv:=Ex.vOwn_eq qab x;generalize x.vOwn qab=r at hv ⊢
 ·simp only[h3] at hv;simp at hv;simp[c180,boxS,ldS,h3];refine qai (qce _ _) ?_;simp[arL,arH,ldS,h3];refine qai (qaF _ _ _ _) ?_;simp[ldS];refine qai (qaF _ _ _ _) ?_;by_cases hl:0≤x.args.length∧x.args.length≤0
  case neg=>
   rw[qaG (a:=(x.args.length:Int)) (lo:=0) (hi:=0) (by omega)];simp;refine qaa rfl ?_ rfl;rw[hv];simp only[retV,V.bool.injEq,qvq];have:¬ x.args=[]:=fun hh=>hl (by rw[hh];simp)
   simp[this]
  rw[qaJ (a:=(x.args.length:Int)) (lo:=0) (hi:=0) (by omega)];have hl':x.args=[]:=qur (by omega);simp[h3];by_cases ho:x.op=0
  case neg=>
   simp[ho];exact qaa rfl (by rw[hv];simp[retV,hl',ho]) rfl
  simp[ho];by_cases hn:x.n=0
  case neg=>
   simp[hn];exact qaa rfl (by rw[hv];simp[retV,hl',ho,hn]) rfl
  simp[hn];by_cases hr:x.man=0∧x.exp=0
  case neg=>
   rcases quC.1 hr with hr1|hr1
   ·simp[hr1];exact qaa rfl (by rw[hv];simp[retV,hl',hr1,ho,hn,true_and]) rfl
   ·simp[hr1];exact qaa rfl (by rw[hv];simp[retV,hl',hr1,ho,hn,true_and]) rfl
  simp[hr];by_cases ht:x.text=⟨⟨[]⟩⟩
  case neg=>
   simp[ht];exact qaa rfl (by rw[hv];simp[retV,hl',ho,hn,hr,qaK ht]) rfl
  simp[ht];rw[ht] at hv;exact qaa rfl (by rw[hv];simp[retV,hl',ho,hn,hr,qaR rfl]) rfl
theorem qlm(x:Ex)(hx:x.ok)(h4:x.kind=4):∀S,Fn prog 180 [x.v] S (.bool (x.vOwn qab)):=by
 refine Pu.ib func180 ok180 (by simp[c180]) (by simp[V.under]) rfl ?_;have hv:=Ex.vOwn_eq qab x;generalize x.vOwn qab=r at hv ⊢
 ·simp only[h4] at hv;simp at hv;simp[c180,boxS,ldS,h4];refine qai (qce _ _) ?_;simp[arL,arH,ldS,h4];refine qai (qaF _ _ _ _) ?_;simp[ldS];refine qai (qaF _ _ _ _) ?_;by_cases hl:0≤x.args.length∧x.args.length≤0
  case neg=>
   rw[qaG (a:=(x.args.length:Int)) (lo:=0) (hi:=0) (by omega)];simp;refine qaa rfl ?_ rfl;rw[hv];simp only[retV,V.bool.injEq,qvq];have:¬ x.args=[]:=fun hh=>hl (by rw[hh];simp)
   simp[this]
  rw[qaJ (a:=(x.args.length:Int)) (lo:=0) (hi:=0) (by omega)];have hl':x.args=[]:=qur (by omega);simp[h4];by_cases ho:x.op=0
  case neg=>
   simp[ho];exact qaa rfl (by rw[hv];simp[retV,hl',ho]) rfl
  simp[ho];by_cases hn:x.n=0
  case neg=>
   simp[hn];exact qaa rfl (by rw[hv];simp[retV,hl',ho,hn]) rfl
  simp[hn];by_cases hr:x.man=0∧x.exp=0
  case neg=>
   rcases quC.1 hr with hr1|hr1
   ·simp[hr1];exact qaa rfl (by rw[hv];simp[retV,hl',hr1,ho,hn,true_and]) rfl
   ·simp[hr1];exact qaa rfl (by rw[hv];simp[retV,hl',hr1,ho,hn,true_and]) rfl
  simp[hr];by_cases ht:x.text=⟨⟨[]⟩⟩
  case neg=>
   simp[ht];exact qaa rfl (by rw[hv];simp[retV,hl',ho,hn,hr,qaK ht]) rfl
  simp[ht];rw[ht] at hv;exact qaa rfl (by rw[hv];simp[retV,hl',ho,hn,hr,qaR rfl]) rfl
theorem qlt(x:Ex)(hx:x.ok)(h5:x.kind=5):∀S,Fn prog 180 [x.v] S (.bool (x.vOwn qab)):=by
 refine Pu.ib func180 ok180 (by simp[c180]) (by simp[V.under]) rfl ?_;have hv:=Ex.vOwn_eq qab x;generalize x.vOwn qab=r at hv ⊢
 ·simp only[h5] at hv;simp at hv;simp[c180,boxS,ldS,h5];refine qai (qce _ _) ?_;simp[arL,arH,ldS,h5];refine qai (qaF _ _ _ _) ?_;simp[ldS];refine qai (qaF _ _ _ _) ?_;by_cases hl:0≤x.args.length∧x.args.length≤0
  case neg=>
   rw[qaG (a:=(x.args.length:Int)) (lo:=0) (hi:=0) (by omega)];simp;refine qaa rfl ?_ rfl;rw[hv];simp only[retV,V.bool.injEq,qvq];have:¬ x.args=[]:=fun hh=>hl (by rw[hh];simp)
   simp[this]
  rw[qaJ (a:=(x.args.length:Int)) (lo:=0) (hi:=0) (by omega)];have hl':x.args=[]:=qur (by omega);simp[h5];refine qai (qrP _ (Ex.ok_text hx) _) ?_;cases hb:qcD x.text
  case false=>
   simp;exact qaa rfl (by rw[hv];simp[retV,hl',hb]) rfl
  simp;by_cases ho:x.op=0
  case neg=>
   simp[ho];exact qaa rfl (by rw[hv];simp[retV,hl',hb,ho]) rfl
  simp[ho];by_cases hn:x.n=0
  case neg=>
   simp[hn];exact qaa rfl (by rw[hv];simp[retV,hl',hb,ho,hn]) rfl
  simp[hn];by_cases hr:x.man=0∧x.exp=0
  case neg=>
   rcases quC.1 hr with hr1|hr1
   ·simp[hr1];exact qaa rfl (by rw[hv];simp[retV,hl',hr1,hb,ho,hn,true_and]) rfl
   ·simp[hr1];exact qaa rfl (by rw[hv];simp[retV,hl',hr1,hb,ho,hn,true_and]) rfl
  simp[hr];exact qaa rfl (by rw[hv];simp[retV,hl',hb,ho,hn,hr]) rfl
theorem qli(x:Ex)(hx:x.ok)(h6:x.kind=6):∀S,Fn prog 180 [x.v] S (.bool (x.vOwn qab)):=by
 refine Pu.ib func180 ok180 (by simp[c180]) (by simp[V.under]) rfl ?_;have hv:=Ex.vOwn_eq qab x;generalize x.vOwn qab=r at hv ⊢
 ·simp only[h6] at hv;simp at hv;simp[c180,boxS,ldS,h6];refine qai (qce _ _) ?_;simp[arL,arH,ldS,h6];refine qai (qaF _ _ _ _) ?_;simp[ldS];refine qai (qaF _ _ _ _) ?_;by_cases hl:0≤x.args.length∧x.args.length≤0
  case neg=>
   rw[qaG (a:=(x.args.length:Int)) (lo:=0) (hi:=0) (by omega)];simp;refine qaa rfl ?_ rfl;rw[hv];simp only[retV,V.bool.injEq,qvq];have:¬ x.args=[]:=fun hh=>hl (by rw[hh];simp)
   simp[this]
  rw[qaJ (a:=(x.args.length:Int)) (lo:=0) (hi:=0) (by omega)];have hl':x.args=[]:=qur (by omega);simp[h6];refine qai (qeN _ _) ?_;cases hb:qab x.text
  case false=>
   simp;exact qaa rfl (by rw[hv];simp[retV,hl',hb]) rfl
  simp;by_cases ho:x.op=0
  case neg=>
   simp[ho];exact qaa rfl (by rw[hv];simp[retV,hl',hb,ho]) rfl
  simp[ho];by_cases hn:x.n=0
  case neg=>
   simp[hn];exact qaa rfl (by rw[hv];simp[retV,hl',hb,ho,hn]) rfl
  simp[hn];by_cases hr:x.man=0∧x.exp=0
  case neg=>
   rcases quC.1 hr with hr1|hr1
   ·simp[hr1];exact qaa rfl (by rw[hv];simp[retV,hl',hr1,hb,ho,hn,true_and]) rfl
   ·simp[hr1];exact qaa rfl (by rw[hv];simp[retV,hl',hr1,hb,ho,hn,true_and]) rfl
  simp[hr];exact qaa rfl (by rw[hv];simp[retV,hl',hb,ho,hn,hr]) rfl
theorem qlx(x:Ex)(hx:x.ok)(h7:x.kind=7):∀S,Fn prog 180 [x.v] S (.bool (x.vOwn qab)):=by
 refine Pu.ib func180 ok180 (by simp[c180]) (by simp[V.under]) rfl ?_;have hv:=Ex.vOwn_eq qab x;generalize x.vOwn qab=r at hv ⊢
 ·simp only[h7] at hv;simp at hv;simp[c180,boxS,ldS,h7];refine qai (qce _ _) ?_;simp[arL,arH,ldS,h7];refine qai (qaF _ _ _ _) ?_;simp[ldS];refine qai (qaF _ _ _ _) ?_;by_cases hl:1≤x.args.length∧x.args.length≤4
  case neg=>
   rw[qaG (a:=(x.args.length:Int)) (lo:=1) (hi:=4) (by omega)];simp;refine qaa rfl ?_ rfl;rw[hv];simp only[retV,V.bool.injEq,qvq];have:¬ (1≤x.args.length∧x.args.length≤4):=by omega
   simp[this]
  rw[qaJ (a:=(x.args.length:Int)) (lo:=1) (hi:=4) (by omega)];have hl':1≤x.args.length∧x.args.length≤4:=by omega
  simp[h7];refine qai (qeN _ _) ?_;cases hb:qab x.text
  case false=>
   simp;exact qaa rfl (by rw[hv];simp[retV,hl',hb]) rfl
  simp;by_cases ho:x.op=0
  case neg=>
   simp[ho];exact qaa rfl (by rw[hv];simp[retV,hl',hb,ho]) rfl
  simp[ho];by_cases hn:x.n=0
  case neg=>
   simp[hn];exact qaa rfl (by rw[hv];simp[retV,hl',hb,ho,hn]) rfl
  simp[hn];by_cases hr:x.man=0∧x.exp=0
  case neg=>
   rcases quC.1 hr with hr1|hr1
   ·simp[hr1];exact qaa rfl (by rw[hv];simp[retV,hl',hr1,hb,ho,hn,true_and]) rfl
   ·simp[hr1];exact qaa rfl (by rw[hv];simp[retV,hl',hr1,hb,ho,hn,true_and]) rfl
  simp[hr];exact qaa rfl (by rw[hv];simp[retV,hl',hb,ho,hn,hr]) rfl
theorem qmS(x:Ex)(hx:x.ok)(h8:x.kind=8):∀S,Fn prog 180 [x.v] S (.bool (x.vOwn qab)):=by
 refine Pu.ib func180 ok180 (by simp[c180]) (by simp[V.under]) rfl ?_;have hv:=Ex.vOwn_eq qab x;generalize x.vOwn qab=r at hv ⊢
 ·simp only[h8] at hv;simp at hv;simp[c180,boxS,ldS,h8];refine qai (qce _ _) ?_;simp[arL,arH,ldS,h8];refine qai (qaF _ _ _ _) ?_;simp[ldS];refine qai (qaF _ _ _ _) ?_;by_cases hl:1≤x.args.length∧x.args.length≤8
  case neg=>
   rw[qaG (a:=(x.args.length:Int)) (lo:=1) (hi:=8) (by omega)];simp;refine qaa rfl ?_ rfl;rw[hv];simp only[retV,V.bool.injEq,qvq];have:¬ (1≤x.args.length∧x.args.length≤8):=by omega
   simp[this]
  rw[qaJ (a:=(x.args.length:Int)) (lo:=1) (hi:=8) (by omega)];have hl':1≤x.args.length∧x.args.length≤8:=by omega
  simp[h8];refine qai (qeN _ _) ?_;cases hb:qab x.text
  case false=>
   simp;exact qaa rfl (by rw[hv];simp[retV,hl',hb]) rfl
  simp;by_cases ho:x.op=0
  case neg=>
   simp[ho];exact qaa rfl (by rw[hv];simp[retV,hl',hb,ho]) rfl
  simp[ho];by_cases hn:x.n=0
  case neg=>
   simp[hn];exact qaa rfl (by rw[hv];simp[retV,hl',hb,ho,hn]) rfl
  simp[hn];by_cases hr:x.man=0∧x.exp=0
  case neg=>
   rcases quC.1 hr with hr1|hr1
   ·simp[hr1];exact qaa rfl (by rw[hv];simp[retV,hl',hr1,hb,ho,hn,true_and]) rfl
   ·simp[hr1];exact qaa rfl (by rw[hv];simp[retV,hl',hr1,hb,ho,hn,true_and]) rfl
  simp[hr];exact qaa rfl (by rw[hv];simp[retV,hl',hb,ho,hn,hr]) rfl
theorem qk8(x:Ex)(hx:x.ok)(h9:x.kind=9):∀S,Fn prog 180 [x.v] S (.bool (x.vOwn qab)):=by
 refine Pu.ib func180 ok180 (by simp[c180]) (by simp[V.under]) rfl ?_;have hv:=Ex.vOwn_eq qab x;generalize x.vOwn qab=r at hv ⊢
 ·simp only[h9] at hv;simp at hv;simp[c180,boxS,ldS,h9];refine qai (qce _ _) ?_;simp[arL,arH,ldS,h9];refine qai (qaF _ _ _ _) ?_;simp[ldS];refine qai (qaF _ _ _ _) ?_;by_cases hl:1≤x.args.length∧x.args.length≤1
  case neg=>
   rw[qaG (a:=(x.args.length:Int)) (lo:=1) (hi:=1) (by omega)];simp;refine qaa rfl ?_ rfl;rw[hv];simp only[retV,V.bool.injEq,qvq];have:¬ x.args.length=1:=by omega
   simp[this]
  rw[qaJ (a:=(x.args.length:Int)) (lo:=1) (hi:=1) (by omega)];have hl':x.args.length=1:=by omega
  simp[h9];by_cases hb1:x.op=1
  case neg=>
   by_cases hb2:x.op=2
   case neg=>
    simp[hb1,hb2];exact qaa rfl (by rw[hv];simp[retV,hl',hb1,hb2]) rfl
   simp[hb2];by_cases hn:x.n=0
   case neg=>
    simp[hn];exact qaa rfl (by rw[hv];simp[retV,hl',hb2,hn]) rfl
   simp[hn];by_cases hr:x.man=0∧x.exp=0
   case neg=>
    rcases quC.1 hr with hr1|hr1
    ·simp[hr1];exact qaa rfl (by rw[hv];simp[retV,hl',hr1,hb2,hn,true_and]) rfl
    ·simp[hr1];exact qaa rfl (by rw[hv];simp[retV,hl',hr1,hb2,hn,true_and]) rfl
   simp[hr];by_cases ht:x.text=⟨⟨[]⟩⟩
   case neg=>
    simp[ht];exact qaa rfl (by rw[hv];simp[retV,hl',hb2,hn,hr,qaK ht]) rfl
   simp[ht];rw[ht] at hv;exact qaa rfl (by rw[hv];simp[retV,hl',hb2,hn,hr,qaR rfl]) rfl
  simp[hb1];by_cases hn:x.n=0
  case neg=>
   simp[hn];exact qaa rfl (by rw[hv];simp[retV,hl',hb1,hn]) rfl
  simp[hn];by_cases hr:x.man=0∧x.exp=0
  case neg=>
   rcases quC.1 hr with hr1|hr1
   ·simp[hr1];exact qaa rfl (by rw[hv];simp[retV,hl',hr1,hb1,hn,true_and]) rfl
   ·simp[hr1];exact qaa rfl (by rw[hv];simp[retV,hl',hr1,hb1,hn,true_and]) rfl
  simp[hr];by_cases ht:x.text=⟨⟨[]⟩⟩
  case neg=>
   simp[ht];exact qaa rfl (by rw[hv];simp[retV,hl',hb1,hn,hr,qaK ht]) rfl
  simp[ht];rw[ht] at hv;exact qaa rfl (by rw[hv];simp[retV,hl',hb1,hn,hr,qaR rfl]) rfl
theorem qjR(x:Ex)(hx:x.ok)(h10:x.kind=10):∀S,Fn prog 180 [x.v] S (.bool (x.vOwn qab)):=by
 refine Pu.ib func180 ok180 (by simp[c180]) (by simp[V.under]) rfl ?_;have hv:=Ex.vOwn_eq qab x;generalize x.vOwn qab=r at hv ⊢
 ·simp only[h10] at hv;simp at hv;simp[c180,boxS,ldS,h10];refine qai (qce _ _) ?_;simp[arL,arH,ldS,h10];refine qai (qaF _ _ _ _) ?_;simp[ldS];refine qai (qaF _ _ _ _) ?_;by_cases hl:2≤x.args.length∧x.args.length≤2
  case neg=>
   rw[qaG (a:=(x.args.length:Int)) (lo:=2) (hi:=2) (by omega)];simp;refine qaa rfl ?_ rfl;rw[hv];simp only[retV,V.bool.injEq,qvq];have:¬ x.args.length=2:=by omega
   simp[this]
  rw[qaJ (a:=(x.args.length:Int)) (lo:=2) (hi:=2) (by omega)];have hl':x.args.length=2:=by omega
  simp[h10];refine qai (qaF _ _ _ _) ?_;by_cases hb:3≤x.op∧x.op≤18
  case neg=>
   rw[qaG (by omega)];simp;exact qaa rfl (by rw[hv];simp[retV,hl',hb]) rfl
  rw[qaJ (by omega)];simp;by_cases hn:x.n=0
  case neg=>
   simp[hn];exact qaa rfl (by rw[hv];simp[retV,hl',hb,hn]) rfl
  simp[hn];by_cases hr:x.man=0∧x.exp=0
  case neg=>
   rcases quC.1 hr with hr1|hr1
   ·simp[hr1];exact qaa rfl (by rw[hv];simp[retV,hl',hr1,hb,hn,true_and]) rfl
   ·simp[hr1];exact qaa rfl (by rw[hv];simp[retV,hl',hr1,hb,hn,true_and]) rfl
  simp[hr];by_cases ht:x.text=⟨⟨[]⟩⟩
  case neg=>
   simp[ht];exact qaa rfl (by rw[hv];simp[retV,hl',hb,hn,hr,qaK ht]) rfl
  simp[ht];rw[ht] at hv;exact qaa rfl (by rw[hv];simp[retV,hl',hb,hn,hr,qaR rfl]) rfl
theorem qkf(x:Ex)(hx:x.ok)(h11:x.kind=11):∀S,Fn prog 180 [x.v] S (.bool (x.vOwn qab)):=by
 refine Pu.ib func180 ok180 (by simp[c180]) (by simp[V.under]) rfl ?_;have hv:=Ex.vOwn_eq qab x;generalize x.vOwn qab=r at hv ⊢
 ·simp only[h11] at hv;simp at hv;simp[c180,boxS,ldS,h11];refine qai (qce _ _) ?_;simp[arL,arH,ldS,h11];refine qai (qaF _ _ _ _) ?_;simp[ldS];refine qai (qaF _ _ _ _) ?_;by_cases hl:3≤x.args.length∧x.args.length≤3
  case neg=>
   rw[qaG (a:=(x.args.length:Int)) (lo:=3) (hi:=3) (by omega)];simp;refine qaa rfl ?_ rfl;rw[hv];simp only[retV,V.bool.injEq,qvq];have:¬ x.args.length=3:=by omega
   simp[this]
  rw[qaJ (a:=(x.args.length:Int)) (lo:=3) (hi:=3) (by omega)];have hl':x.args.length=3:=by omega
  simp[h11];by_cases ho:x.op=0
  case neg=>
   simp[ho];exact qaa rfl (by rw[hv];simp[retV,hl',ho]) rfl
  simp[ho];by_cases hn:x.n=0
  case neg=>
   simp[hn];exact qaa rfl (by rw[hv];simp[retV,hl',ho,hn]) rfl
  simp[hn];by_cases hr:x.man=0∧x.exp=0
  case neg=>
   rcases quC.1 hr with hr1|hr1
   ·simp[hr1];exact qaa rfl (by rw[hv];simp[retV,hl',hr1,ho,hn,true_and]) rfl
   ·simp[hr1];exact qaa rfl (by rw[hv];simp[retV,hl',hr1,ho,hn,true_and]) rfl
  simp[hr];by_cases ht:x.text=⟨⟨[]⟩⟩
  case neg=>
   simp[ht];exact qaa rfl (by rw[hv];simp[retV,hl',ho,hn,hr,qaK ht]) rfl
  simp[ht];rw[ht] at hv;exact qaa rfl (by rw[hv];simp[retV,hl',ho,hn,hr,qaR rfl]) rfl
theorem qkh(x:Ex)(hx:x.ok)(h1:¬ x.kind=1)(h2:¬ x.kind=2)(h3:¬ x.kind=3)(h4:¬ x.kind=4)(h5:¬ x.kind=5)(h6:¬ x.kind=6)(h7:¬ x.kind=7)(h8:¬ x.kind=8)(h9:¬ x.kind=9)(h10:¬ x.kind=10)(h11:¬ x.kind=11):∀S,Fn prog 180 [x.v] S (.bool (x.vOwn qab)):=by
 refine Pu.ib func180 ok180 (by simp[c180]) (by simp[V.under]) rfl ?_;have hv:=Ex.vOwn_eq qab x;generalize x.vOwn qab=r at hv ⊢;have hv':r=false:=by rw[hv];simp[h1,h2,h3,h4,h5,h6,h7,h8,h9,h10,h11]
 simp[c180,boxS,ldS];refine qai (qce _ _) ?_;simp[ldS];refine qai (qaF _ _ _ _) ?_;rw[qaG (by omega)];simp;exact qaa rfl (by rw[hv'];rfl) rfl
theorem qq2(x:Ex)(hx:x.ok):∀S,Fn prog 180 [x.v] S (.bool (x.vOwn qab)):=by
 by_cases h1:x.kind=1
 ·exact qlU x hx h1
 by_cases h2:x.kind=2
 ·exact qmQ x hx h2
 by_cases h3:x.kind=3
 ·exact qlR x hx h3
 by_cases h4:x.kind=4
 ·exact qlm x hx h4
 by_cases h5:x.kind=5
 ·exact qlt x hx h5
 by_cases h6:x.kind=6
 ·exact qli x hx h6
 by_cases h7:x.kind=7
 ·exact qlx x hx h7
 by_cases h8:x.kind=8
 ·exact qmS x hx h8
 by_cases h9:x.kind=9
 ·exact qk8 x hx h9
 by_cases h10:x.kind=10
 ·exact qjR x hx h10
 by_cases h11:x.kind=11
 ·exact qkf x hx h11
 exact qkh x hx h1 h2 h3 h4 h5 h6 h7 h8 h9 h10 h11
end
section
attribute [local simp] eqOk eqV boxS ldS stS qac qc3 qgg qml qbG qah qal qaf evX
theorem qaT(n:Nat):fitB 0 0 n=decide (n=0):=by unfold fitB;rw[quA];simp
theorem qa6(n:Nat):fitB 1 1 n=decide (n=1):=by unfold fitB;rw[quA];simp;omega
theorem qa7(n:Nat):fitB 1 (-1) n=decide (1≤n):=by unfold fitB;rw[quA];simp;omega
theorem qa4(n:Nat):fitB 1 2 n=decide (1≤n∧n≤2):=by unfold fitB;rw[quA];simp;omega
theorem qa8(n:Nat):fitB 0 8 n=decide (n≤8):=by unfold fitB;rw[quA];simp;omega
theorem qbD(n:Nat):fitB 2 8 n=decide (2≤n∧n≤8):=by unfold fitB;rw[quA];simp;omega
theorem qny{l:List Sm}(h:0<l.length):Sm.noIf l=decide (l[0].kind≠4∧l[0].kind≠5):=by
 cases l with
 | nil=>simp at h
 | cons x l=>rfl
theorem qkp:qab ⟨⟨[]⟩⟩=false:=rfl
theorem qj6{l:List Sm}(h:0<l.length)(b:Bool)(S:St):iaS S 8 (.sl b (l.map Sm.v)) 0=some (.iptr (Sm.v l[0]) 0):=iaSm (i:=0) h b S
theorem Sm.vOwn_1(nm:ByteArray→Bool)(s:Sm)(h:s.kind=1):s.vOwn nm=(fitB 0 0 s.targets.length && fitB 0 0 s.exps.length && fitB 0 0 s.elems.length && fitB 0 0 s.decls.length && fitB 0 0 s.body.length && qa9 s.text && s.labels.all nm && s.targets.all Ex.tgt):=by
 cases s;simp only[Sm.kind] at h;subst h;simp only[Sm.vOwn,Sm.targets,Sm.exps,Sm.elems,Sm.decls,Sm.body,Sm.text,Sm.labels,qaT,qa6,qa7,qa4,qa8,qbD];simp only[reduceIte,Int.reduceEq];ac_rfl
theorem Sm.vOwn_2(nm:ByteArray→Bool)(s:Sm)(h:s.kind=2):s.vOwn nm=(fitB 1 (-1) s.targets.length && fitB 1 1 s.exps.length && fitB 0 0 s.elems.length && fitB 0 0 s.decls.length && fitB 0 0 s.body.length && qa9 s.text && s.labels.all nm && s.targets.all Ex.tgt):=by
 cases s;simp only[Sm.kind] at h;subst h;simp only[Sm.vOwn,Sm.targets,Sm.exps,Sm.elems,Sm.decls,Sm.body,Sm.text,Sm.labels,qaT,qa6,qa7,qa4,qa8,qbD];simp only[reduceIte,Int.reduceEq];ac_rfl
theorem Sm.vOwn_3(nm:ByteArray→Bool)(s:Sm)(h:s.kind=3):s.vOwn nm=(fitB 0 0 s.targets.length && fitB 1 1 s.exps.length && fitB 0 0 s.elems.length && fitB 0 0 s.decls.length && fitB 0 0 s.body.length && qa9 s.text && s.labels.all nm && s.targets.all Ex.tgt):=by
 cases s;simp only[Sm.kind] at h;subst h;simp only[Sm.vOwn,Sm.targets,Sm.exps,Sm.elems,Sm.decls,Sm.body,Sm.text,Sm.labels,qaT,qa6,qa7,qa4,qa8,qbD];simp only[reduceIte,Int.reduceEq];ac_rfl
theorem Sm.vOwn_4(nm:ByteArray→Bool)(s:Sm)(h:s.kind=4):s.vOwn nm=(fitB 0 0 s.targets.length && fitB 1 1 s.exps.length && fitB 0 0 s.elems.length && fitB 0 0 s.decls.length && fitB 1 2 s.body.length && qa9 s.text && s.labels.all nm && s.targets.all Ex.tgt && Sm.noIf s.body):=by
 cases s;simp only[Sm.kind] at h;subst h;simp only[Sm.vOwn,Sm.targets,Sm.exps,Sm.elems,Sm.decls,Sm.body,Sm.text,Sm.labels,qaT,qa6,qa7,qa4,qa8,qbD];simp only[reduceIte,Int.reduceEq];ac_rfl
theorem Sm.vOwn_5(nm:ByteArray→Bool)(s:Sm)(h:s.kind=5):s.vOwn nm=(fitB 1 1 s.targets.length && fitB 0 0 s.exps.length && fitB 1 (-1) s.elems.length && fitB 0 0 s.decls.length && fitB 1 1 s.body.length && qa9 s.text && s.labels.all nm && s.targets.all Ex.tgt):=by
 cases s;simp only[Sm.kind] at h;subst h;simp only[Sm.vOwn,Sm.targets,Sm.exps,Sm.elems,Sm.decls,Sm.body,Sm.text,Sm.labels,qaT,qa6,qa7,qa4,qa8,qbD];simp only[reduceIte,Int.reduceEq];ac_rfl
theorem Sm.vOwn_6(nm:ByteArray→Bool)(s:Sm)(h:s.kind=6):s.vOwn nm=(fitB 0 0 s.targets.length && fitB 0 8 s.exps.length && fitB 0 0 s.elems.length && fitB 0 0 s.decls.length && fitB 0 0 s.body.length && nm s.text && s.labels.all nm && s.targets.all Ex.tgt):=by
 cases s;simp only[Sm.kind] at h;subst h;simp only[Sm.vOwn,Sm.targets,Sm.exps,Sm.elems,Sm.decls,Sm.body,Sm.text,Sm.labels,qaT,qa6,qa7,qa4,qa8,qbD];simp only[reduceIte,Int.reduceEq];ac_rfl
theorem Sm.vOwn_7(nm:ByteArray→Bool)(s:Sm)(h:s.kind=7):s.vOwn nm=(fitB 0 0 s.targets.length && fitB 0 0 s.exps.length && fitB 0 0 s.elems.length && fitB 1 (-1) s.decls.length && fitB 1 (-1) s.body.length && qa9 s.text && s.labels.all nm && s.targets.all Ex.tgt):=by
 cases s;simp only[Sm.kind] at h;subst h;simp only[Sm.vOwn,Sm.targets,Sm.exps,Sm.elems,Sm.decls,Sm.body,Sm.text,Sm.labels,qaT,qa6,qa7,qa4,qa8,qbD];simp only[reduceIte,Int.reduceEq];ac_rfl
theorem Sm.vOwn_8(nm:ByteArray→Bool)(s:Sm)(h:s.kind=8):s.vOwn nm=(fitB 0 0 s.targets.length && fitB 0 0 s.exps.length && fitB 0 0 s.elems.length && fitB 0 0 s.decls.length && fitB 1 (-1) s.body.length && qa9 s.text && s.labels.all nm && s.targets.all Ex.tgt):=by
 cases s;simp only[Sm.kind] at h;subst h;simp only[Sm.vOwn,Sm.targets,Sm.exps,Sm.elems,Sm.decls,Sm.body,Sm.text,Sm.labels,qaT,qa6,qa7,qa4,qa8,qbD];simp only[reduceIte,Int.reduceEq];ac_rfl
theorem Sm.vOwn_no(nm:ByteArray→Bool)(s:Sm)(h:¬ (1≤s.kind∧s.kind≤8)):s.vOwn nm=false:=by
 cases s with
 | mk l k t g e f d b=>
  simp only[Sm.kind] at h;simp only[Sm.vOwn,if_neg (show ¬ k=1 by omega),if_neg (show ¬ k=2 by omega),if_neg (show ¬ k=3 by omega),if_neg (show ¬ k=4 by omega),if_neg (show ¬ k=5 by omega),if_neg (show ¬ k=6 by omega),if_neg (show ¬ k=7 by omega),if_neg (show ¬ k=8 by omega),Bool.and_false]
theorem ql4(s:Sm)(hs:s.ok)(hk:s.kind=1):∀S,Fn prog 183 [s.v] S (.bool (s.vOwn qab)):=by
 refine Pu.ib func183 ok183 (by simp[c183]) (by simp[V.under]) rfl ?_;have hO:=(Sm.ok_iff s).1 hs;rw[Sm.vOwn_1 qab s hk];simp[c183,hk];refine qai (qax _ _ _ _) ?_;cases f0:fitB 0 0 s.targets.length
 case false=>
  simp;exact qaa rfl (by simp[retV,f0]) rfl
 simp;refine qai (qax _ _ _ _) ?_;cases f1:fitB 0 0 s.exps.length
 case false=>
  simp;exact qaa rfl (by simp[retV,f0,f1]) rfl
 simp;refine qai (qax _ _ _ _) ?_;cases f2:fitB 0 0 s.elems.length
 case false=>
  simp;exact qaa rfl (by simp[retV,f0,f1,f2]) rfl
 simp;refine qai (qax _ _ _ _) ?_;cases f3:fitB 0 0 s.decls.length
 case false=>
  simp;exact qaa rfl (by simp[retV,f0,f1,f2,f3]) rfl
 simp;refine qai (qax _ _ _ _) ?_;cases f4:fitB 0 0 s.body.length
 case false=>
  simp;exact qaa rfl (by simp[retV,f0,f1,f2,f3,f4]) rfl
 simp;by_cases ht:s.text=⟨⟨[]⟩⟩
 case neg=>
  simp[ht];exact qaa rfl (by simp[retV,f0,f1,f2,f3,f4,qaK ht]) rfl
 simp[ht];refine qai (qcf _ hO.labels.1 _) ?_;cases hl:s.labels.all qab
 case false=>
  simp;exact qaa rfl (by simp[retV]) rfl
 simp;refine qai (qdo _ hO.targets.1 _) ?_;cases hg:s.targets.all Ex.tgt
 case false=>
  simp;exact qaa rfl (by simp[retV]) rfl
 simp[hk];exact qaa rfl (by simp[retV,f0,f1,f2,f3,f4,qaR rfl]) rfl
theorem qnf(s:Sm)(hs:s.ok)(hk:s.kind=2):∀S,Fn prog 183 [s.v] S (.bool (s.vOwn qab)):=by
 refine Pu.ib func183 ok183 (by simp[c183]) (by simp[V.under]) rfl ?_;have hO:=(Sm.ok_iff s).1 hs;rw[Sm.vOwn_2 qab s hk];simp[c183,hk];refine qai (qax _ _ _ _) ?_;cases f0:fitB 1 (-1) s.targets.length
 case false=>
  simp;exact qaa rfl (by simp[retV,f0]) rfl
 simp;refine qai (qax _ _ _ _) ?_;cases f1:fitB 1 1 s.exps.length
 case false=>
  simp;exact qaa rfl (by simp[retV,f0,f1]) rfl
 simp;refine qai (qax _ _ _ _) ?_;cases f2:fitB 0 0 s.elems.length
 case false=>
  simp;exact qaa rfl (by simp[retV,f0,f1,f2]) rfl
 simp;refine qai (qax _ _ _ _) ?_;cases f3:fitB 0 0 s.decls.length
 case false=>
  simp;exact qaa rfl (by simp[retV,f0,f1,f2,f3]) rfl
 simp;refine qai (qax _ _ _ _) ?_;cases f4:fitB 0 0 s.body.length
 case false=>
  simp;exact qaa rfl (by simp[retV,f0,f1,f2,f3,f4]) rfl
 simp;by_cases ht:s.text=⟨⟨[]⟩⟩
 case neg=>
  simp[ht];exact qaa rfl (by simp[retV,f0,f1,f2,f3,f4,qaK ht]) rfl
 simp[ht];refine qai (qcf _ hO.labels.1 _) ?_;cases hl:s.labels.all qab
 case false=>
  simp;exact qaa rfl (by simp[retV]) rfl
 simp;refine qai (qdo _ hO.targets.1 _) ?_;cases hg:s.targets.all Ex.tgt
 case false=>
  simp;exact qaa rfl (by simp[retV]) rfl
 simp[hk];exact qaa rfl (by simp[retV,f0,f1,f2,f3,f4,qaR rfl]) rfl
theorem qk9(s:Sm)(hs:s.ok)(hk:s.kind=3):∀S,Fn prog 183 [s.v] S (.bool (s.vOwn qab)):=by
 refine Pu.ib func183 ok183 (by simp[c183]) (by simp[V.under]) rfl ?_;have hO:=(Sm.ok_iff s).1 hs;rw[Sm.vOwn_3 qab s hk];simp[c183,hk];refine qai (qax _ _ _ _) ?_;cases f0:fitB 0 0 s.targets.length
 case false=>
  simp;exact qaa rfl (by simp[retV,f0]) rfl
 simp;refine qai (qax _ _ _ _) ?_;cases f1:fitB 1 1 s.exps.length
 case false=>
  simp;exact qaa rfl (by simp[retV,f0,f1]) rfl
 simp;refine qai (qax _ _ _ _) ?_;cases f2:fitB 0 0 s.elems.length
 case false=>
  simp;exact qaa rfl (by simp[retV,f0,f1,f2]) rfl
 simp;refine qai (qax _ _ _ _) ?_;cases f3:fitB 0 0 s.decls.length
 case false=>
  simp;exact qaa rfl (by simp[retV,f0,f1,f2,f3]) rfl
 simp;refine qai (qax _ _ _ _) ?_;cases f4:fitB 0 0 s.body.length
 case false=>
  simp;exact qaa rfl (by simp[retV,f0,f1,f2,f3,f4]) rfl
 simp;by_cases ht:s.text=⟨⟨[]⟩⟩
 case neg=>
  simp[ht];exact qaa rfl (by simp[retV,f0,f1,f2,f3,f4,qaK ht]) rfl
 simp[ht];refine qai (qcf _ hO.labels.1 _) ?_;cases hl:s.labels.all qab
 case false=>
  simp;exact qaa rfl (by simp[retV]) rfl
 simp;refine qai (qdo _ hO.targets.1 _) ?_;cases hg:s.targets.all Ex.tgt
 case false=>
  simp;exact qaa rfl (by simp[retV]) rfl
 simp[hk];exact qaa rfl (by simp[retV,f0,f1,f2,f3,f4,qaR rfl]) rfl
theorem qk4(s:Sm)(hs:s.ok)(hk:s.kind=4):∀S,Fn prog 183 [s.v] S (.bool (s.vOwn qab)):=by
 refine Pu.ib func183 ok183 (by simp[c183]) (by simp[V.under]) rfl ?_;have hO:=(Sm.ok_iff s).1 hs;rw[Sm.vOwn_4 qab s hk];simp[c183,hk];refine qai (qax _ _ _ _) ?_;cases f0:fitB 0 0 s.targets.length
 case false=>
  simp;exact qaa rfl (by simp[retV,f0]) rfl
 simp;refine qai (qax _ _ _ _) ?_;cases f1:fitB 1 1 s.exps.length
 case false=>
  simp;exact qaa rfl (by simp[retV,f0,f1]) rfl
 simp;refine qai (qax _ _ _ _) ?_;cases f2:fitB 0 0 s.elems.length
 case false=>
  simp;exact qaa rfl (by simp[retV,f0,f1,f2]) rfl
 simp;refine qai (qax _ _ _ _) ?_;cases f3:fitB 0 0 s.decls.length
 case false=>
  simp;exact qaa rfl (by simp[retV,f0,f1,f2,f3]) rfl
 simp;refine qai (qax _ _ _ _) ?_;cases f4:fitB 1 2 s.body.length
 case false=>
  simp;exact qaa rfl (by simp[retV,f0,f1,f2,f3,f4]) rfl
 simp;by_cases ht:s.text=⟨⟨[]⟩⟩
 case neg=>
  simp[ht];exact qaa rfl (by simp[retV,f0,f1,f2,f3,f4,qaK ht]) rfl
 simp[ht];refine qai (qcf _ hO.labels.1 _) ?_;cases hl:s.labels.all qab
 case false=>
  simp;exact qaa rfl (by simp[retV]) rfl
 simp;refine qai (qdo _ hO.targets.1 _) ?_;cases hg:s.targets.all Ex.tgt
 case false=>
  simp;exact qaa rfl (by simp[retV]) rfl
 have hb:0<s.body.length:=by rw[qa4] at f4;simp at f4;omega
 have hno:=qny hb;rw[hno];by_cases g4:s.body[0].kind=4
 case pos=>
  simp[qj6 hb,hk,g4];exact qaa rfl (by simp[retV]) rfl
 by_cases g5:s.body[0].kind=5
 case pos=>
  simp[qj6 hb,hk,g4,g5];exact qaa rfl (by simp[retV]) rfl
 simp[qj6 hb,hk,g4,g5];exact qaa rfl (by simp[retV,f0,f1,f2,f3,f4,qaR rfl]) rfl
theorem qlH(s:Sm)(hs:s.ok)(hk:s.kind=5):∀S,Fn prog 183 [s.v] S (.bool (s.vOwn qab)):=by
 refine Pu.ib func183 ok183 (by simp[c183]) (by simp[V.under]) rfl ?_;have hO:=(Sm.ok_iff s).1 hs;rw[Sm.vOwn_5 qab s hk];simp[c183,hk];refine qai (qax _ _ _ _) ?_;cases f0:fitB 1 1 s.targets.length
 case false=>
  simp;exact qaa rfl (by simp[retV,f0]) rfl
 simp;refine qai (qax _ _ _ _) ?_;cases f1:fitB 0 0 s.exps.length
 case false=>
  simp;exact qaa rfl (by simp[retV,f0,f1]) rfl
 simp;refine qai (qax _ _ _ _) ?_;cases f2:fitB 1 (-1) s.elems.length
 case false=>
  simp;exact qaa rfl (by simp[retV,f0,f1,f2]) rfl
 simp;refine qai (qax _ _ _ _) ?_;cases f3:fitB 0 0 s.decls.length
 case false=>
  simp;exact qaa rfl (by simp[retV,f0,f1,f2,f3]) rfl
 simp;refine qai (qax _ _ _ _) ?_;cases f4:fitB 1 1 s.body.length
 case false=>
  simp;exact qaa rfl (by simp[retV,f0,f1,f2,f3,f4]) rfl
 simp;by_cases ht:s.text=⟨⟨[]⟩⟩
 case neg=>
  simp[ht];exact qaa rfl (by simp[retV,f0,f1,f2,f3,f4,qaK ht]) rfl
 simp[ht];refine qai (qcf _ hO.labels.1 _) ?_;cases hl:s.labels.all qab
 case false=>
  simp;exact qaa rfl (by simp[retV]) rfl
 simp;refine qai (qdo _ hO.targets.1 _) ?_;cases hg:s.targets.all Ex.tgt
 case false=>
  simp;exact qaa rfl (by simp[retV]) rfl
 simp[hk];exact qaa rfl (by simp[retV,f0,f1,f2,f3,f4,qaR rfl]) rfl
theorem qmI(s:Sm)(hs:s.ok)(hk:s.kind=6):∀S,Fn prog 183 [s.v] S (.bool (s.vOwn qab)):=by
 refine Pu.ib func183 ok183 (by simp[c183]) (by simp[V.under]) rfl ?_;have hO:=(Sm.ok_iff s).1 hs;rw[Sm.vOwn_6 qab s hk];simp[c183,hk];refine qai (qax _ _ _ _) ?_;cases f0:fitB 0 0 s.targets.length
 case false=>
  simp;exact qaa rfl (by simp[retV,f0]) rfl
 simp;refine qai (qax _ _ _ _) ?_;cases f1:fitB 0 8 s.exps.length
 case false=>
  simp;exact qaa rfl (by simp[retV,f0,f1]) rfl
 simp;refine qai (qax _ _ _ _) ?_;cases f2:fitB 0 0 s.elems.length
 case false=>
  simp;exact qaa rfl (by simp[retV,f0,f1,f2]) rfl
 simp;refine qai (qax _ _ _ _) ?_;cases f3:fitB 0 0 s.decls.length
 case false=>
  simp;exact qaa rfl (by simp[retV,f0,f1,f2,f3]) rfl
 simp;refine qai (qax _ _ _ _) ?_;cases f4:fitB 0 0 s.body.length
 case false=>
  simp;exact qaa rfl (by simp[retV,f0,f1,f2,f3,f4]) rfl
 simp;by_cases ht:s.text=⟨⟨[]⟩⟩
 case pos=>
  simp[ht];exact qaa rfl (by simp[retV,f0,f1,f2,f3,f4,qkp]) rfl
 simp[ht];refine qai (qeN _ _) ?_;cases hn:qab s.text
 case false=>
  simp;exact qaa rfl (by simp[retV,f0,f1,f2,f3,f4,hn]) rfl
 simp;refine qai (qcf _ hO.labels.1 _) ?_;cases hl:s.labels.all qab
 case false=>
  simp;exact qaa rfl (by simp[retV]) rfl
 simp;refine qai (qdo _ hO.targets.1 _) ?_;cases hg:s.targets.all Ex.tgt
 case false=>
  simp;exact qaa rfl (by simp[retV]) rfl
 simp[hk];exact qaa rfl (by simp[retV,f0,f1,f2,f3,f4,hn]) rfl
theorem qno(s:Sm)(hs:s.ok)(hk:s.kind=7):∀S,Fn prog 183 [s.v] S (.bool (s.vOwn qab)):=by
 refine Pu.ib func183 ok183 (by simp[c183]) (by simp[V.under]) rfl ?_;have hO:=(Sm.ok_iff s).1 hs;rw[Sm.vOwn_7 qab s hk];simp[c183,hk];refine qai (qax _ _ _ _) ?_;cases f0:fitB 0 0 s.targets.length
 case false=>
  simp;exact qaa rfl (by simp[retV,f0]) rfl
 simp;refine qai (qax _ _ _ _) ?_;cases f1:fitB 0 0 s.exps.length
 case false=>
  simp;exact qaa rfl (by simp[retV,f0,f1]) rfl
 simp;refine qai (qax _ _ _ _) ?_;cases f2:fitB 0 0 s.elems.length
 case false=>
  simp;exact qaa rfl (by simp[retV,f0,f1,f2]) rfl
 simp;refine qai (qax _ _ _ _) ?_;cases f3:fitB 1 (-1) s.decls.length
 case false=>
  simp;exact qaa rfl (by simp[retV,f0,f1,f2,f3]) rfl
 simp;refine qai (qax _ _ _ _) ?_;cases f4:fitB 1 (-1) s.body.length
 case false=>
  simp;exact qaa rfl (by simp[retV,f0,f1,f2,f3,f4]) rfl
 simp;by_cases ht:s.text=⟨⟨[]⟩⟩
 case neg=>
  simp[ht];exact qaa rfl (by simp[retV,f0,f1,f2,f3,f4,qaK ht]) rfl
 simp[ht];refine qai (qcf _ hO.labels.1 _) ?_;cases hl:s.labels.all qab
 case false=>
  simp;exact qaa rfl (by simp[retV]) rfl
 simp;refine qai (qdo _ hO.targets.1 _) ?_;cases hg:s.targets.all Ex.tgt
 case false=>
  simp;exact qaa rfl (by simp[retV]) rfl
 simp[hk];exact qaa rfl (by simp[retV,f0,f1,f2,f3,f4,qaR rfl]) rfl
theorem qmU(s:Sm)(hs:s.ok)(hk:s.kind=8):∀S,Fn prog 183 [s.v] S (.bool (s.vOwn qab)):=by
 refine Pu.ib func183 ok183 (by simp[c183]) (by simp[V.under]) rfl ?_;have hO:=(Sm.ok_iff s).1 hs;rw[Sm.vOwn_8 qab s hk];simp[c183,hk];refine qai (qax _ _ _ _) ?_;cases f0:fitB 0 0 s.targets.length
 case false=>
  simp;exact qaa rfl (by simp[retV,f0]) rfl
 simp;refine qai (qax _ _ _ _) ?_;cases f1:fitB 0 0 s.exps.length
 case false=>
  simp;exact qaa rfl (by simp[retV,f0,f1]) rfl
 simp;refine qai (qax _ _ _ _) ?_;cases f2:fitB 0 0 s.elems.length
 case false=>
  simp;exact qaa rfl (by simp[retV,f0,f1,f2]) rfl
 simp;refine qai (qax _ _ _ _) ?_;cases f3:fitB 0 0 s.decls.length
 case false=>
  simp;exact qaa rfl (by simp[retV,f0,f1,f2,f3]) rfl
 simp;refine qai (qax _ _ _ _) ?_;cases f4:fitB 1 (-1) s.body.length
 case false=>
  simp;exact qaa rfl (by simp[retV,f0,f1,f2,f3,f4]) rfl
 simp;by_cases ht:s.text=⟨⟨[]⟩⟩
 case neg=>
  simp[ht];exact qaa rfl (by simp[retV,f0,f1,f2,f3,f4,qaK ht]) rfl
 simp[ht];refine qai (qcf _ hO.labels.1 _) ?_;cases hl:s.labels.all qab
 case false=>
  simp;exact qaa rfl (by simp[retV]) rfl
 simp;refine qai (qdo _ hO.targets.1 _) ?_;cases hg:s.targets.all Ex.tgt
 case false=>
  simp;exact qaa rfl (by simp[retV]) rfl
 simp[hk];exact qaa rfl (by simp[retV,f0,f1,f2,f3,f4,qaR rfl]) rfl
theorem qj0(s:Sm)(hs:s.ok)(h:¬ (1≤s.kind∧s.kind≤8)):∀S,Fn prog 183 [s.v] S (.bool (s.vOwn qab)):=by
 refine Pu.ib func183 ok183 (by simp[c183]) (by simp[V.under]) rfl ?_;have hO:=(Sm.ok_iff s).1 hs;rw[Sm.vOwn_no qab s h];simp[c183,show ¬ s.kind=1 by omega,show ¬ s.kind=2 by omega,show ¬ s.kind=3 by omega,show ¬ s.kind=4 by omega,show ¬ s.kind=5 by omega,show ¬ s.kind=6 by omega,show ¬ s.kind=7 by omega,show ¬ s.kind=8 by omega];exact qaa rfl rfl rfl
theorem qr9(s:Sm)(hs:s.ok):∀S,Fn prog 183 [s.v] S (.bool (s.vOwn qab)):=by
 by_cases h1:s.kind=1
 ·exact ql4 s hs h1
 by_cases h2:s.kind=2
 ·exact qnf s hs h2
 by_cases h3:s.kind=3
 ·exact qk9 s hs h3
 by_cases h4:s.kind=4
 ·exact qk4 s hs h4
 by_cases h5:s.kind=5
 ·exact qlH s hs h5
 by_cases h6:s.kind=6
 ·exact qmI s hs h6
 by_cases h7:s.kind=7
 ·exact qno s hs h7
 by_cases h8:s.kind=8
 ·exact qmU s hs h8
 exact qj0 s hs (by omega)
theorem De.vOwn_1(nm:ByteArray→Bool)(d:De)(h:d.kind=1):d.vOwn nm=(fitB 1 (-1) d.names.length && fitB 0 0 d.exps.length && fitB 0 0 d.body.length && fitB 0 0 d.formals.length && d.names.all nm && (decide (1≤d.type∧d.type≤3))):=by
 cases d;simp only[De.kind] at h;subst h;simp only[De.vOwn,De.names,De.exps,De.formals,De.body,De.own,De.type,qaT,qa6,qa7,qa4,qa8,qbD];simp only[reduceIte,Int.reduceEq];ac_rfl
theorem De.vOwn_2(nm:ByteArray→Bool)(d:De)(h:d.kind=2):d.vOwn nm=(fitB 1 (-1) d.names.length && fitB 2 8 d.exps.length && fitB 0 0 d.body.length && fitB 0 0 d.formals.length && d.names.all nm && (decide (1≤d.type∧d.type≤3) && decide (d.exps.length % 2=0))):=by
 cases d;simp only[De.kind] at h;subst h;simp only[De.vOwn,De.names,De.exps,De.formals,De.body,De.own,De.type,qaT,qa6,qa7,qa4,qa8,qbD];simp only[reduceIte,Int.reduceEq];ac_rfl
theorem De.vOwn_3(nm:ByteArray→Bool)(d:De)(h:d.kind=3):d.vOwn nm=(fitB 1 1 d.names.length && fitB 1 (-1) d.exps.length && fitB 0 0 d.body.length && fitB 0 0 d.formals.length && d.names.all nm && (!d.own && decide (d.type=0))):=by
 cases d;simp only[De.kind] at h;subst h;simp only[De.vOwn,De.names,De.exps,De.formals,De.body,De.own,De.type,qaT,qa6,qa7,qa4,qa8,qbD];simp only[reduceIte,Int.reduceEq];ac_rfl
theorem De.vOwn_4(nm:ByteArray→Bool)(d:De)(h:d.kind=4):d.vOwn nm=(fitB 1 1 d.names.length && fitB 0 0 d.exps.length && fitB 1 1 d.body.length && fitB 0 8 d.formals.length && d.names.all nm && (!d.own && decide (0≤d.type∧d.type≤3) && qbE nm d.formals [])):=by
 cases d;simp only[De.kind] at h;subst h;simp only[De.vOwn,De.names,De.exps,De.formals,De.body,De.own,De.type,qaT,qa6,qa7,qa4,qa8,qbD];simp only[reduceIte,Int.reduceEq];ac_rfl
theorem De.vOwn_no(nm:ByteArray→Bool)(s:De)(h:¬ (1≤s.kind∧s.kind≤4)):s.vOwn nm=false:=by
 cases s with
 | mk k o t n e f b=>
  simp only[De.kind] at h;simp only[De.vOwn,if_neg (show ¬ k=1 by omega),if_neg (show ¬ k=2 by omega),if_neg (show ¬ k=3 by omega),if_neg (show ¬ k=4 by omega),Bool.and_false]
theorem modI(n:Nat):Int.tmod (n:Int) 2=((n % 2:Nat):Int):=rfl
theorem qmY(d:De)(hs:d.ok)(hk:d.kind=1):∀S,Fn prog 182 [d.v] S (.bool (d.vOwn qab)):=by
 refine Pu.ib func182 ok182 (by simp[c182]) (by simp[V.under]) rfl ?_;have hO:=(De.ok_iff d).1 hs;rw[De.vOwn_1 qab d hk];simp[c182,hk];refine qai (qax _ _ _ _) ?_;cases f0:fitB 1 (-1) d.names.length
 case false=>
  simp;exact qaa rfl (by simp[retV,f0]) rfl
 simp;refine qai (qax _ _ _ _) ?_;cases f1:fitB 0 0 d.exps.length
 case false=>
  simp;exact qaa rfl (by simp[retV,f0,f1]) rfl
 simp;refine qai (qax _ _ _ _) ?_;cases f2:fitB 0 0 d.body.length
 case false=>
  simp;exact qaa rfl (by simp[retV,f0,f1,f2]) rfl
 simp;refine qai (qax _ _ _ _) ?_;cases f3:fitB 0 0 d.formals.length
 case false=>
  simp;exact qaa rfl (by simp[retV,f0,f1,f2,f3]) rfl
 simp;refine qai (qcf _ hO.names.1 _) ?_;cases hl:d.names.all qab
 case false=>
  simp;exact qaa rfl (by simp[retV,f0]) rfl
 simp;have hgo:∀o:Bool,o=d.own→True:=fun _ _=>trivial
 cases ho:d.own
 case false=>
  simp[ho];refine qai (qaF _ _ _ _) ?_;by_cases ht:1≤d.type∧d.type≤3
  case neg=>
   rw[qaG ht];simp;exact qaa rfl (by simp[retV,f0,f1,f2,f3,ht]) rfl
  rw[qaJ ht];simp[hk];refine qai (qaF _ _ _ _) ?_;rw[qaJ (show 0≤d.type∧d.type≤3 by omega)];simp[hk];refine qai (qel _ hO.formals.1 _) ?_;have hf:d.formals=[]:=qur (by rw[qaT] at f3;simpa using f3);simp[hf,qbE];exact qaa rfl (by simp[retV,f0,f1,f2,f3,hf,ht]) rfl
 case true=>
  simp[ho];refine qai (qaF _ _ _ _) ?_;by_cases ht:1≤d.type∧d.type≤3
  case neg=>
   rw[qaG ht];simp;exact qaa rfl (by simp[retV,f0,f1,f2,f3,ht]) rfl
  rw[qaJ ht];simp[hk];refine qai (qaF _ _ _ _) ?_;rw[qaJ (show 0≤d.type∧d.type≤3 by omega)];simp[hk];refine qai (qel _ hO.formals.1 _) ?_;have hf:d.formals=[]:=qur (by rw[qaT] at f3;simpa using f3);simp[hf,qbE];exact qaa rfl (by simp[retV,f0,f1,f2,f3,hf,ht]) rfl
theorem qmf(d:De)(hs:d.ok)(hk:d.kind=2):∀S,Fn prog 182 [d.v] S (.bool (d.vOwn qab)):=by
 refine Pu.ib func182 ok182 (by simp[c182]) (by simp[V.under]) rfl ?_;have hO:=(De.ok_iff d).1 hs;rw[De.vOwn_2 qab d hk];simp[c182,hk];refine qai (qax _ _ _ _) ?_;cases f0:fitB 1 (-1) d.names.length
 case false=>
  simp;exact qaa rfl (by simp[retV,f0]) rfl
 simp;refine qai (qax _ _ _ _) ?_;cases f1:fitB 2 8 d.exps.length
 case false=>
  simp;exact qaa rfl (by simp[retV,f0,f1]) rfl
 simp;refine qai (qax _ _ _ _) ?_;cases f2:fitB 0 0 d.body.length
 case false=>
  simp;exact qaa rfl (by simp[retV,f0,f1,f2]) rfl
 simp;refine qai (qax _ _ _ _) ?_;cases f3:fitB 0 0 d.formals.length
 case false=>
  simp;exact qaa rfl (by simp[retV,f0,f1,f2,f3]) rfl
 simp;refine qai (qcf _ hO.names.1 _) ?_;cases hl:d.names.all qab
 case false=>
  simp;exact qaa rfl (by simp[retV,f0]) rfl
 simp;have hgo:∀o:Bool,o=d.own→True:=fun _ _=>trivial
 cases ho:d.own
 case false=>
  simp[ho];refine qai (qaF _ _ _ _) ?_;by_cases ht:1≤d.type∧d.type≤3
  case neg=>
   rw[qaG ht];simp;exact qaa rfl (by simp[retV,f0,f1,f2,f3,ht]) rfl
  rw[qaJ ht];simp[hk];refine qai (qaF _ _ _ _) ?_;rw[qaJ (show 0≤d.type∧d.type≤3 by omega)];simp[hk];have hmod:=modI d.exps.length;by_cases hm:d.exps.length % 2=0
  case neg=>
   simp[hmod,hm,show ¬ ((d.exps.length:Int) % 2=0) by omega];exact qaa rfl (by simp[retV,f0,f1,f2,f3,ht,hm]) rfl
  simp[hmod,hm,show ((d.exps.length:Int) % 2=0) by omega];refine qai (qel _ hO.formals.1 _) ?_;have hf:d.formals=[]:=qur (by rw[qaT] at f3;simpa using f3);simp[hf,qbE];exact qaa rfl (by simp[retV,f0,f1,f2,f3,hf,ht,hm]) rfl
 case true=>
  simp[ho];refine qai (qaF _ _ _ _) ?_;by_cases ht:1≤d.type∧d.type≤3
  case neg=>
   rw[qaG ht];simp;exact qaa rfl (by simp[retV,f0,f1,f2,f3,ht]) rfl
  rw[qaJ ht];simp[hk];refine qai (qaF _ _ _ _) ?_;rw[qaJ (show 0≤d.type∧d.type≤3 by omega)];simp[hk];have hmod:=modI d.exps.length;by_cases hm:d.exps.length % 2=0
  case neg=>
   simp[hmod,hm,show ¬ ((d.exps.length:Int) % 2=0) by omega];exact qaa rfl (by simp[retV,f0,f1,f2,f3,ht,hm]) rfl
  simp[hmod,hm,show ((d.exps.length:Int) % 2=0) by omega];refine qai (qel _ hO.formals.1 _) ?_;have hf:d.formals=[]:=qur (by rw[qaT] at f3;simpa using f3);simp[hf,qbE];exact qaa rfl (by simp[retV,f0,f1,f2,f3,hf,ht,hm]) rfl
theorem qmd(d:De)(hs:d.ok)(hk:d.kind=3):∀S,Fn prog 182 [d.v] S (.bool (d.vOwn qab)):=by
 refine Pu.ib func182 ok182 (by simp[c182]) (by simp[V.under]) rfl ?_;have hO:=(De.ok_iff d).1 hs;rw[De.vOwn_3 qab d hk];simp[c182,hk];refine qai (qax _ _ _ _) ?_;cases f0:fitB 1 1 d.names.length
 case false=>
  simp;exact qaa rfl (by simp[retV,f0]) rfl
 simp;refine qai (qax _ _ _ _) ?_;cases f1:fitB 1 (-1) d.exps.length
 case false=>
  simp;exact qaa rfl (by simp[retV,f0,f1]) rfl
 simp;refine qai (qax _ _ _ _) ?_;cases f2:fitB 0 0 d.body.length
 case false=>
  simp;exact qaa rfl (by simp[retV,f0,f1,f2]) rfl
 simp;refine qai (qax _ _ _ _) ?_;cases f3:fitB 0 0 d.formals.length
 case false=>
  simp;exact qaa rfl (by simp[retV,f0,f1,f2,f3]) rfl
 simp;refine qai (qcf _ hO.names.1 _) ?_;cases hl:d.names.all qab
 case false=>
  simp;exact qaa rfl (by simp[retV,f0]) rfl
 simp;cases ho:d.own
 case true=>
  simp[ho];exact qaa rfl (by simp[retV,f0,f1,f2,f3,ho]) rfl
 by_cases ht:d.type=0
 case neg=>
  simp[ho,hk,ht];exact qaa rfl (by simp[retV,f0,f1,f2,f3,ho,ht]) rfl
 simp[ho,hk,ht];refine qai (qaF _ _ _ _) ?_;simp[ho,hk,ht];refine qai (qel _ hO.formals.1 _) ?_;have hf:d.formals=[]:=qur (by rw[qaT] at f3;simpa using f3);simp[hf,qbE];exact qaa rfl (by simp[retV,f0,f1,f2,f3,hf,ho,ht]) rfl
theorem qmW(d:De)(hs:d.ok)(hk:d.kind=4):∀S,Fn prog 182 [d.v] S (.bool (d.vOwn qab)):=by
 refine Pu.ib func182 ok182 (by simp[c182]) (by simp[V.under]) rfl ?_;have hO:=(De.ok_iff d).1 hs;rw[De.vOwn_4 qab d hk];simp[c182,hk];refine qai (qax _ _ _ _) ?_;cases f0:fitB 1 1 d.names.length
 case false=>
  simp;exact qaa rfl (by simp[retV,f0]) rfl
 simp;refine qai (qax _ _ _ _) ?_;cases f1:fitB 0 0 d.exps.length
 case false=>
  simp;exact qaa rfl (by simp[retV,f0,f1]) rfl
 simp;refine qai (qax _ _ _ _) ?_;cases f2:fitB 1 1 d.body.length
 case false=>
  simp;exact qaa rfl (by simp[retV,f0,f1,f2]) rfl
 simp;refine qai (qax _ _ _ _) ?_;cases f3:fitB 0 8 d.formals.length
 case false=>
  simp;exact qaa rfl (by simp[retV,f0,f1,f2,f3]) rfl
 simp;refine qai (qcf _ hO.names.1 _) ?_;cases hl:d.names.all qab
 case false=>
  simp;exact qaa rfl (by simp[retV,f0]) rfl
 simp;cases ho:d.own
 case true=>
  simp[ho];exact qaa rfl (by simp[retV,f0,f1,f2,f3,ho]) rfl
 simp[ho,hk];refine qai (qaF _ _ _ _) ?_;by_cases ht:0≤d.type∧d.type≤3
 case neg=>
  rw[qaG ht];simp;exact qaa rfl (by simp[retV,f0,f1,f2,f3,ho,ht]) rfl
 rw[qaJ ht];simp[hk];refine qai (qel _ hO.formals.1 _) ?_;simp;exact qaa rfl (by simp[retV,f0,f1,f2,f3,ho,ht]) rfl
theorem qke(d:De)(hs:d.ok)(h:¬ (1≤d.kind∧d.kind≤4)):∀S,Fn prog 182 [d.v] S (.bool (d.vOwn qab)):=by
 refine Pu.ib func182 ok182 (by simp[c182]) (by simp[V.under]) rfl ?_;have hO:=(De.ok_iff d).1 hs;rw[De.vOwn_no qab d h];simp[c182,show ¬ d.kind=1 by omega,show ¬ d.kind=2 by omega,show ¬ d.kind=3 by omega,show ¬ d.kind=4 by omega];exact qaa rfl rfl rfl
theorem qqH(d:De)(hs:d.ok):∀S,Fn prog 182 [d.v] S (.bool (d.vOwn qab)):=by
 by_cases h1:d.kind=1
 ·exact qmY d hs h1
 by_cases h2:d.kind=2
 ·exact qmf d hs h2
 by_cases h3:d.kind=3
 ·exact qmd d hs h3
 by_cases h4:d.kind=4
 ·exact qmW d hs h4
 exact qke d hs (by omega)
end
structure VJ(p:Pa)(U:St):Prop where
 t2:U[1]?=some (.arr [.bool false] 1 1)
 k:U[2]?=some (.arr [p.v] 25 1)
theorem VJ.push{p:Pa}{U:St}(h:VJ p U)(o:Ob):VJ p (U++[o]):=⟨gp h.t2,gp h.k⟩
theorem VJ.set{p:Pa}{U:St}(h:VJ p U){L:Nat}(o:Ob)(hL:3≤L):VJ p (U.set L o):=⟨gs h.t2 (by omega),gs h.k (by omega)⟩
def VV(p:Pa)(i:Nat):Prop:=∀q,q∈p.kids.take i→q.valid qab=true
def VD(p:Pa)(U:St):Prop:=U[1]?=some (.arr [.bool false] 1 1)∧p.valid qab=false
theorem VD.push{p:Pa}{U:St}(h:VD p U)(o:Ob):VD p (U++[o]):=⟨gp h.1,h.2⟩
theorem Env.keep_get{e:Env}{t:Nat}{v:V}:∀{ts:List Nat},t∈ts→e.get t=some v→(e.keep ts).get t=some v
 | [],h,_=>by simp at h
 | s::ts,h,hv=>by
  simp only[Env.keep];by_cases hs:s=t
  ·subst hs;rw[hv];simp[Env.get]
  ·have h':t∈ts:=by
    rcases qum.1 h with h| h
    ·exact absurd h.symm hs
    ·exact h
   split
   ·simp only[Env.get,if_neg hs];exact Env.keep_get h' hv
   ·exact Env.keep_get h' hv
noncomputable def qh8:C':=(.seq (.k [.j 29 25 1,.c 30 179 29]
 (.block 1 (.rf (.t 30) [31] (rfAt Tryz.f151 0).1 (rfAt Tryz.f151 0).2
  (.reg [.o 4 (.new zP),
   .s 25 4 31])
  (.block 2 (.k [.j 32 25 4,.c 33 151 32,.o 34 (.un .not (.t 33))]
   (.cond (.t 34) (.k [.n (.sto 1 (.t 2) (.c (.bool false)))] (.ret)) (.skip))))
  35 [31,4,32,33,34,2])))
 (.k [.n (.sto 1 (.t 2) (.c (.bool true)))] (.ret)))
theorem qdx:qh8=(.seq (.k [.j 29 25 1,.c 30 179 29]
 (.block 1 (.rf (.t 30) [31] (rfAt Tryz.f151 0).1 (rfAt Tryz.f151 0).2
  (.reg [.o 4 (.new zP),
   .s 25 4 31])
  (.block 2 (.k [.j 32 25 4,.c 33 151 32,.o 34 (.un .not (.t 33))]
   (.cond (.t 34) (.k [.n (.sto 1 (.t 2) (.c (.bool false)))] (.ret)) (.skip))))
  35 [31,4,32,33,34,2])))
 (.k [.n (.sto 1 (.t 2) (.c (.bool true)))] (.ret))):=rfl
theorem qrM:∀(k:Nat) (p:Pa),p.wt≤k→p.ok→∀S,Fn prog 151 [p.v] S (.bool (p.valid qab)):=by
 intro k
 induction k with
 | zero=>intro p h;exfalso;cases p with
  | st s=>cases s;simp[Pa.wt] at h
  | de s=>cases s;simp[Pa.wt] at h
  | el s=>cases s;simp[Pa.wt] at h
  | ex s=>cases s;simp[Pa.wt] at h
 | succ k ih=>
  intro p hw hp;refine Pu.ib func151 ok151 (by simp[c151]) (by simp) rfl ?_;have hve:=Pa.valid_eq qab p;have range:∀e:Env,p.vOwn qab=true→e.get 1=some (.ptr 0 0 0 1)→e.get 2=some (.ptr 1 0 0 1)→
    WP prog qh8
     (endp [.cell 2 none] 0 fun v U=>v=.bool (p.valid qab)∧U=[]) e [.arr [p.v] 25 1,.arr [.bool false] 1 1]:=by
   intro e hown g1 g2;simp only[qh8];simp[g1,ldS];refine qan (qmh p _) ?_;rintro v U ⟨rfl,rfl⟩;simp;have hkl:(p.kids.map fun q=>[q.v]).length=p.kids.length:=by simp
   refine qjM (k:=202) (fs:=[]) (cs:=[.ptr 2 0 0 1]) (by simp) (qhO p hp 2) rfl rfl rfl (by simp) (fun x=>x=1) (by rintro x rfl;simp)
    (fun i U=>VJ p U∧VV p i) (VD p) (fun _ _=>False) ?_ ?_ ?_ ?_ (fun i U L o o' _ h hl=>⟨⟨gl h.1.t2 (by simp) hl,gl h.1.k (by simp) hl⟩,h.2⟩) (fun U L o o' _ h hl=>⟨gl h.1 (by simp) hl,h.2⟩) (fun id U L o o' _ h hl=>h.elim) ?_ ?_ ?_ ?_ ?_
   ·rintro i U ⟨h,_⟩;exact h.k
   ·rintro i U ⟨h,h1⟩;exact fun o=>⟨h.push o,h1⟩
   ·rintro U h;exact fun o=>h.push o
   ·rintro id U h;exact h.elim
   ·exact ⟨⟨rfl,rfl⟩,fun q hq=>by simp at hq⟩
   ·rintro i av hav U ⟨hj,hv⟩ hk hl;rw[quf] at hav;obtain ⟨q,hq,rfl⟩:=qt4.1 hav;have hqk:q∈p.kids:=qt6 hq;have hqw:=Pa.kid_lt hqk;generalize hke:Env.keep _ _=ke at hl ⊢;have g2':ke.get 2=some (.ptr 1 0 0 1):=by rw[←hke];exact Env.keep_get (by simp) (by simp[g2])
    clear hke;simp at hl;simp[qcE,boxS,stS,qac];refine qcR (gp hl) rfl ?_;have lU:=glt hl;have nU:U.length≠3:=by omega
    have vq:((U++[Ob.arr [q.v] 25 1]).set 3 (.loop { st:=.busy,pend:=none,ps:=[31],asg:=(rfAt Tryz.f151 0).1,body:=(rfAt Tryz.f151 0).2,e:=ke,N:=35 }))[U.length]?=some (.arr [q.v] 25 1):=gs (by simp) nU;have vL:((U++[Ob.arr [q.v] 25 1]).set 3 (.loop { st:=.busy,pend:=none,ps:=[31],asg:=(rfAt Tryz.f151 0).1,body:=(rfAt Tryz.f151 0).2,e:=ke,N:=35 }))[3]?=some (.loop _):=qtZ (by simp;omega);have vj:=(hj.push (Ob.arr [q.v] 25 1)).set (L:=3) (.loop { st:=.busy,pend:=none,ps:=[31],asg:=(rfAt Tryz.f151 0).1,body:=(rfAt Tryz.f151 0).2,e:=ke,N:=35 }) (by omega);have vk:Kp (fun x=>x=1∨x=3) U ((U++[Ob.arr [q.v] 25 1]).set 3 (.loop { st:=.busy,pend:=none,ps:=[31],asg:=(rfAt Tryz.f151 0).1,body:=(rfAt Tryz.f151 0).2,e:=ke,N:=35 })):=((Kp.refl _ _).push _).set _ (.inl (.inr rfl));generalize (U++[Ob.arr [q.v] 25 1]).set 3 _=W at vq vL vj vk ⊢;simp[ldS,vq];refine qai (ih q (by omega) (Pa.kid_ok hp hqk) W) ?_
    cases hqv:q.valid qab with
    | true=>
     simp;refine qgp ⟨rfl,rfl⟩ (.inr rfl) vL vk ⟨vj.set _ (by omega),?_⟩;intro r hr;rw[qt9,hq] at hr;rcases qup.1 hr with hr|hr
     ·exact hv r hr
     ·simp at hr;subst hr;exact hqv
    | false=>
     simp[stS,qbG,vj.t2,g2'];refine qhY (.inr rfl) (gs vL (by omega)) (vk.set _ (.inl (.inl rfl))) ⟨gs (qtZ (glt vj.t2)) (by omega),?_⟩
     cases hh:p.valid qab with
     | false=>rfl
     | true=>rw[(Pa.valid_iff.1 hh).2 q hqk] at hqv;cases hqv
   ·rintro U ⟨hj,hv⟩ hk;rw[hkl] at hv;unfold VV at hv;rw[qun] at hv;simp[stS,qbG,hj.t2,g2];refine qaa (vs:=[.bool true]) (by simp[ldS,g2,glt hj.t2]) ?_ rfl;rw[Pa.valid_iff.2 ⟨hown,hv⟩];rfl
   ·rintro U ⟨h1,h2⟩ hk;simp;refine qaa (vs:=[.bool false]) (by simp[ldS,g2,h1]) ?_ rfl;rw[h2];rfl
   ·rintro id U h;exact h.elim
  have stop:p.vOwn qab=false→p.valid qab=false:=fun h=>by rw[hve,h];rfl
  cases p with
  | st s=>
   have hown:(Pa.st s).vOwn qab=s.vOwn qab:=rfl;simp only[c151,←qdx];simp[boxS,ldS];simp only[Pa.v,Pa.kind,Pa.toS,Pa.toD,Pa.toE,Pa.toX];simp[ldS];refine qai (qr9 s hp _) ?_
   cases ho:s.vOwn qab with
   | false=>
    simp[stS,qbG];refine qaa rfl ?_ rfl;rw[stop (by rw[hown,ho])];rfl
   | true=>
    simp[hown,ho];exact range _ (hown.trans ho) (by simp) (by simp)
  | de d=>
   have hown:(Pa.de d).vOwn qab=d.vOwn qab:=rfl;simp only[c151,←qdx];simp[boxS,ldS];simp only[Pa.v,Pa.kind,Pa.toS,Pa.toD,Pa.toE,Pa.toX];simp[ldS];refine qai (qqH d hp _) ?_
   cases ho:d.vOwn qab with
   | false=>
    simp[stS,qbG];refine qaa rfl ?_ rfl;rw[stop (by rw[hown,ho])];rfl
   | true=>
    simp[hown,ho];exact range _ (hown.trans ho) (by simp) (by simp)
  | el e=>
   have hown:(Pa.el e).vOwn qab=e.vOwn:=rfl;simp only[c151,←qdx];simp[boxS,ldS];simp only[Pa.v,Pa.kind,Pa.toS,Pa.toD,Pa.toE,Pa.toX];simp[ldS];refine qai (qpB e _) ?_
   cases ho:e.vOwn with
   | false=>
    simp[stS,qbG];refine qaa rfl ?_ rfl;rw[stop (by rw[hown,ho])];rfl
   | true=>
    simp[hown,ho];exact range _ (hown.trans ho) (by simp) (by simp)
  | ex x=>
   have hown:(Pa.ex x).vOwn qab=x.vOwn qab:=rfl;simp only[c151,←qdx];simp[boxS,ldS];simp only[Pa.v,Pa.kind,Pa.toS,Pa.toD,Pa.toE,Pa.toX];simp[ldS];refine qai (qq2 x hp _) ?_
   cases ho:x.vOwn qab with
   | false=>
    simp[stS,qbG];refine qaa rfl ?_ rfl;rw[stop (by rw[hown,ho])];rfl
   | true=>
    simp[hown,ho];exact range _ (hown.trans ho) (by simp) (by simp)
theorem qr3(p:Pa)(hp:p.ok):∀S,Fn prog 100 [p.v] S (.int .i64 (p.err qab)):=by
 refine Pu.ib func100 ok100 (by simp[c100]) (by simp) rfl ?_;simp[c100,boxS,ldS];refine qan (qqM p hp _) ?_;rintro v U ⟨⟨z,d,rfl,_⟩,rfl⟩;unfold Pa.err;by_cases hf:p.fits
 ·simp[hf,ldS];refine qai (qrM _ p (qt1 _) hp _) ?_
  cases hv:p.valid qab with
  | true=>
   simp;exact qaa rfl rfl rfl
  | false=>
   simp;exact qaa rfl rfl rfl
 ·simp[hf,ldS];exact qaa rfl rfl rfl
theorem qsT(s:Sm)(hs:s.ok):∀S,Fn prog 56 [s.v] S (.int .i64 ((Pa.st s).err qab)):=by
 refine Pu.ib func56 ok56 (by simp[c56]) (by simp[V.under]) rfl ?_;simp[c56,boxS,ldS];refine qai (qll s _) ?_;simp;refine qai (qr3 (.st s) hs _) ?_;simp;exact qaa rfl rfl rfl
end Go.Proofs.YtbifpocccfkhhaaGreatDoor
end
