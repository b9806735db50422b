/- A part. -/
import Derived.Test.YtbifpocccfkhhaaGreatDoorQi
set_option linter.all false
noncomputable section
namespace Go.Proofs.YtbifpocccfkhhaaGreatDoor
open Go Go.Proofs.Tryz
def rawS(s:Sm):V:=.agg [.int .i64 1,.sl false (s.labels.map .str),.int .i64 s.kind,.str s.text,.sl false (s.targets.map Ex.v),.sl false (s.exps.map Ex.v),.sl false (s.elems.map El.v),.sl false (s.decls.map De.v),.sl false (s.body.map Sm.v),.int .i64 0,.bool false,.int .i64 0,.sl true [],.sl true [],.sl true [],.sl true [],.int .i64 0,.sl true [],.int .i64 0,.int .i64 0,.int .i64 0,.int .i64 0,.int .i64 0,.str ⟨⟨[]⟩⟩,.sl true []]
def rawD(d:De):V:=.agg [.int .i64 2,.sl true [],.int .i64 0,.str ⟨⟨[]⟩⟩,.sl true [],.sl true [],.sl true [],.sl true [],.sl true [],.int .i64 d.kind,.bool d.own,.int .i64 d.type,.sl false (d.names.map .str),.sl false (d.exps.map Ex.v),.sl false (d.formals.map Fo.v),.sl false (d.body.map Sm.v),.int .i64 0,.sl true [],.int .i64 0,.int .i64 0,.int .i64 0,.int .i64 0,.int .i64 0,.str ⟨⟨[]⟩⟩,.sl true []]
def rawE(e:El):V:=.agg [.int .i64 3,.sl true [],.int .i64 0,.str ⟨⟨[]⟩⟩,.sl true [],.sl true [],.sl true [],.sl true [],.sl true [],.int .i64 0,.bool false,.int .i64 0,.sl true [],.sl true [],.sl true [],.sl true [],.int .i64 e.kind,.sl false (e.exps.map Ex.v),.int .i64 0,.int .i64 0,.int .i64 0,.int .i64 0,.int .i64 0,.str ⟨⟨[]⟩⟩,.sl true []]
def rawX(x:Ex):V:=.agg [.int .i64 4,.sl true [],.int .i64 0,.str ⟨⟨[]⟩⟩,.sl true [],.sl true [],.sl true [],.sl true [],.sl true [],.int .i64 0,.bool false,.int .i64 0,.sl true [],.sl true [],.sl true [],.sl true [],.int .i64 0,.sl true [],.int .i64 x.kind,.int .i64 x.op,.int .i64 x.n,.int .i64 x.man,.int .i64 x.exp,.str x.text,.sl false (x.args.map Ex.v)]
def Pa.raw:Pa→V
 | .st s=>rawS s
 | .de d=>rawD d
 | .el e=>rawE e
 | .ex x=>rawX x
theorem Pa.raw_weak(p:Pa):p.raw.weak=p.v:=by
 cases p <;> simp only[Pa.raw,rawS,rawD,rawE,rawX,V.weak,V.weakL,wEx,wEl,wFo,wStr,wDe,wSm] <;> rfl
theorem qcy(p:Pa):fits 25 [p.raw]=true:=by cases p <;> rfl
theorem qfH(s:Sm):∀S,Fn prog 113 [s.v] S (Pa.st s).v:=by
 refine Pu.intro (R:=fun v=>v=(Pa.st s).v) func113 ok113 (by simp[c113]) (by simp[V.under]) (by rintro v rfl;simp) ?_;simp[c113,boxS,ldS,stS,qbt,qaf,qal];refine qcu rfl ?_ ?_
 ·simp only[retV,V.weak,V.weakL,wEx,wEl,wFo,wStr,wDe,wSm];rfl
 ·simp[retV,V.weak,V.weakL,V.under,V.underL]
theorem qmK(s:De):∀S,Fn prog 135 [s.v] S (Pa.de s).v:=by
 refine Pu.intro (R:=fun v=>v=(Pa.de s).v) func135 ok135 (by simp[c135]) (by simp[V.under]) (by rintro v rfl;simp) ?_;simp[c135,boxS,ldS,stS,qbt,qaf,qal];refine qcu rfl ?_ ?_
 ·simp only[retV,V.weak,V.weakL,wEx,wEl,wFo,wStr,wDe,wSm];rfl
 ·simp[retV,V.weak,V.weakL,V.under,V.underL]
theorem qmy(s:Ex):∀S,Fn prog 141 [s.v] S (Pa.ex s).v:=by
 refine Pu.intro (R:=fun v=>v=(Pa.ex s).v) func141 ok141 (by simp[c141]) (by simp[V.under]) (by rintro v rfl;simp) ?_;simp[c141,boxS,ldS,stS,qbt,qaf,qal];refine qcu rfl ?_ ?_
 ·simp only[retV,V.weak,V.weakL,wEx,wEl,wFo,wStr,wDe,wSm];rfl
 ·simp[retV,V.weak,V.weakL,V.under,V.underL]
theorem qlj(p:Pa)(hp:p.ok):∀S,Fn prog 200 [p.v] S (.int .i64 p.own):=by
 refine Pu.ib func200 ok200 (by simp[c200]) (by simp) rfl ?_;have h1:=Pa.own_le hp;unfold B50 at h1
 cases p with
 | st s=>
  simp only[Pa.own] at h1;simp[c200,boxS,ldS,Pa.v,Pa.kind,Pa.toS,Pa.own,qaA (n:=1+(s.labels.length:Int)) (by omega) (by omega)];exact qaa rfl rfl rfl
 | de d=>
  simp only[Pa.own] at h1;simp[c200,boxS,ldS,Pa.v,Pa.kind,Pa.toD,Pa.own,qaA (n:=1+(d.names.length:Int)) (by omega) (by omega),qaA (n:=1+(d.names.length:Int)+d.formals.length) (by omega) (by omega)];exact qaa rfl rfl rfl
 | el e=>
  simp[c200,boxS,ldS,Pa.v,Pa.kind,Pa.own];exact qaa rfl rfl rfl
 | ex x=>
  simp[c200,boxS,ldS,Pa.v,Pa.kind,Pa.own];exact qaa rfl rfl rfl
theorem qrZ(p:Pa)(hp:p.ok):∀S,Fn prog 201 [p.v] S (.int .i64 p.kids.length):=by
 refine Pu.ib func201 ok201 (by simp[c201]) (by simp) rfl ?_;rw[qdA]
 cases p with
 | st s=>
  have o:=(Sm.ok_iff s).1 hp;have o1:=o.targets.1;have o2:=o.exps.1;have o3:=o.elems.1;have o4:=o.decls.1;have o5:=o.body.1;unfold B50 at o1 o2 o3 o4 o5;simp[c201,boxS,ldS,stS,qac,Pa.v,Pa.kind,Pa.toS,qaA (n:=(s.targets.length:Int)+s.exps.length) (by omega) (by omega),qaA (n:=(s.targets.length:Int)+s.exps.length+s.elems.length) (by omega) (by omega),
   qaA (n:=(s.targets.length:Int)+s.exps.length+s.elems.length+s.decls.length) (by omega) (by omega),qaA (n:=(s.targets.length:Int)+s.exps.length+s.elems.length+s.decls.length+s.body.length) (by omega) (by omega)]
  exact qaa rfl (by simp[retV];omega) rfl
 | de d=>
  have o:=(De.ok_iff d).1 hp;have o1:=o.exps.1;have o2:=o.body.1;unfold B50 at o1 o2;simp[c201,boxS,ldS,Pa.v,Pa.kind,Pa.toD,qaA (n:=(d.exps.length:Int)+d.body.length) (by omega) (by omega)];exact qaa rfl rfl rfl
 | el e=>
  simp[c201,boxS,ldS,Pa.v,Pa.kind,Pa.toE];exact qaa rfl rfl rfl
 | ex x=>
  simp[c201,boxS,ldS,Pa.v,Pa.kind,Pa.toX];exact qaa rfl rfl rfl
def grV(n:Nat)(xs:List V):V:=match xs with
 | []=>.sl true []
 | _::_=>.arr n 0 xs.length xs.length
def grS(S:St)(xs:List V):St:=match xs with
 | []=>S
 | _::_=>S++[.arr xs 25 1]
theorem qo3{n:Nat}{xs:List V}(h:xs≠[]):grV n xs=.arr n 0 xs.length xs.length:=by
 cases xs with
 | nil=>exact absurd rfl h
 | cons=>rfl
theorem qpc{S:St}{xs:List V}(h:xs≠[]):grS S xs=S++[.arr xs 25 1]:=by
 cases xs with
 | nil=>exact absurd rfl h
 | cons=>rfl
theorem qoW{S:St}{xs:List V}{y:V}(hy:fits 25 [y]=true)(hl:xs.length≤1000000):appS (grS S xs) 25 408 (grV S.length xs) (.sl true [y])=some (grV S.length (xs++[y]),grS S (xs++[y])):=by
 rw[qo3 (xs:=xs++[y]) (by simp),qpc (xs:=xs++[y]) (by simp)]
 cases xs with
 | nil=>
  simp only[grS,grV,appS,elems];rw[if_neg (by simp),if_pos ⟨trivial,hy,rfl,by simp⟩];simp
 | cons x xs=>
  rw[qo3 (by simp),qpc (by simp)];simp only[appS,elems];have hg:(S++[Ob.arr (x::xs) 25 1])[S.length]?=some (.arr (x::xs) 25 1):=by simp
  rw[hg];simp only;rw[if_pos ⟨trivial,trivial,trivial,trivial,hy,by simp at hl ⊢;omega⟩];simp
theorem qsD{S:St}{xs:List V}{l:Nat}{o:Ob}(h:S[l]?=some o):(grS S xs)[l]?=some o:=by
 cases xs with
 | nil=>exact h
 | cons=>exact gp h
theorem qfE(S:St)(xs:List V)(l:List Ex)(hl:xs.length+l.length≤1000000):
  Spec prog 228 [grV S.length xs,.sl false (l.map Ex.v)] (grS S xs) (fun r U=>r=grV S.length (xs++l.map rawX)∧U=grS S (xs++l.map rawX)):=by
 refine Spec.ib func228 ok228 ?_;simp only[c228,C'.k];simp;refine qar (fun j e S'=>∃i:Nat,j=l.length - i∧i≤l.length∧S'=grS S (xs++(l.map rawX).take i)∧
  e=[(5,.int .i64 i),(0,grV S.length (xs++(l.map rawX).take i)),(1,.sl false (l.map Ex.v))]) l.length _ ?_ ⟨0,by simp,by omega,by simp,rfl⟩ ?_
 ·exact Env.so (by simp)
 rintro j e S' ⟨i,rfl,hi,rfl,rfl⟩;by_cases h:i<l.length
 ·have ha:=qoW (S:=S) (xs:=xs++(l.map rawX).take i) (y:=rawX l[i]) (qcy (.ex l[i])) (by simp;omega)
  have hn:xs++(l.map rawX).take i++[rawX l[i]]=xs++(l.map rawX).take (i+1):=by
   rw[qt9,quf,qtX h,que,quB,qt5]
  rw[hn] at ha;have hf:fits 25 [rawX l[i]]=true:=qcy (.ex l[i]);generalize hr:rawX l[i]=y at ha hf;have hb:qal (.agg [.int .i64 0,.sl true [],.int .i64 0,.str ⟨⟨[]⟩⟩,.sl true [],.sl true [],.sl true [],.sl true [],.sl true [],.int .i64 0,.bool false,.int .i64 0,.sl true [],.sl true [],.sl true [],.sl true [],.int .i64 0,.sl true [],.int .i64 0,.int .i64 0,.int .i64 0,.int .i64 0,.int .i64 0,.str ⟨⟨[]⟩⟩,.sl true []]) [(0,1,.int .i64 4),(18,7,l[i].v)]=some y:=by rw[←hr];simp[qal,qac,rawX]
  simp[h,iaEx,qaf,hb,hf,ha,qaL (n:=(i:Int)+1)];refine ⟨_,?_,_,?_,i+1,rfl,by omega,rfl,rfl⟩
  ·omega
  ·exact Env.so (by simp)
 ·have:i=l.length:=by omega
  subst this;simp[h];refine qaj rfl ⟨?_,?_⟩
  ·simp only[retV];rw[quu (by simp)]
  ·rw[quu (by simp)]
theorem qnh(S:St)(xs:List V)(l:List Sm)(hl:xs.length+l.length≤1000000):
  Spec prog 229 [grV S.length xs,.sl false (l.map Sm.v)] (grS S xs) (fun r U=>r=grV S.length (xs++l.map rawS)∧U=grS S (xs++l.map rawS)):=by
 refine Spec.ib func229 ok229 ?_;simp only[c229,C'.k];simp;refine qar (fun j e S'=>∃i:Nat,j=l.length - i∧i≤l.length∧S'=grS S (xs++(l.map rawS).take i)∧
  e=[(5,.int .i64 i),(0,grV S.length (xs++(l.map rawS).take i)),(1,.sl false (l.map Sm.v))]) l.length _ ?_ ⟨0,by simp,by omega,by simp,rfl⟩ ?_
 ·exact Env.so (by simp)
 rintro j e S' ⟨i,rfl,hi,rfl,rfl⟩;by_cases h:i<l.length
 ·have ha:=qoW (S:=S) (xs:=xs++(l.map rawS).take i) (y:=rawS l[i]) (qcy (.st l[i])) (by simp;omega)
  have hn:xs++(l.map rawS).take i++[rawS l[i]]=xs++(l.map rawS).take (i+1):=by
   rw[qt9,quf,qtX h,que,quB,qt5]
  rw[hn] at ha;have hf:fits 25 [rawS l[i]]=true:=qcy (.st l[i]);generalize hr:rawS l[i]=y at ha hf;have hb:qal (.agg [.int .i64 0,.sl true [],.int .i64 0,.str ⟨⟨[]⟩⟩,.sl true [],.sl true [],.sl true [],.sl true [],.sl true [],.int .i64 0,.bool false,.int .i64 0,.sl true [],.sl true [],.sl true [],.sl true [],.int .i64 0,.sl true [],.int .i64 0,.int .i64 0,.int .i64 0,.int .i64 0,.int .i64 0,.str ⟨⟨[]⟩⟩,.sl true []]) [(0,1,.int .i64 1),(1,8,l[i].v)]=some y:=by rw[←hr];simp[qal,qac,rawS]
  simp[h,iaSm,qaf,hb,hf,ha,qaL (n:=(i:Int)+1)];refine ⟨_,?_,_,?_,i+1,rfl,by omega,rfl,rfl⟩
  ·omega
  ·exact Env.so (by simp)
 ·have:i=l.length:=by omega
  subst this;simp[h];refine qaj rfl ⟨?_,?_⟩
  ·simp only[retV];rw[quu (by simp)]
  ·rw[quu (by simp)]
theorem grGr(S:St)(xs:List V):Gr 25 0 xs (grV S.length xs) (grS S xs):=by
 cases xs with
 | nil=>exact .inl ⟨rfl,rfl⟩
 | cons x xs=>exact .inr ⟨S.length,1,quX _,rfl,by simp[grS],by simp⟩
theorem qms(l:List Pa):(l.map Pa.raw).map V.weak=l.map Pa.v:=by
 rw[qvS];exact qvn fun p _=>Pa.raw_weak p
theorem qea{rs:List RV}{e:Env}{S:St}{l:List Pa}(h:rvs e (grS S (l.map Pa.raw)) rs=some [grV S.length (l.map Pa.raw)]):
  endp rs 0 (fun v U=>v=.sl false (l.map Pa.v)∧U=[]) .ret e (grS S (l.map Pa.raw)):=
 qqF (R:=fun v=>v=.sl false (l.map Pa.v)) h (grGr S _) (fun x hx=>by
  obtain ⟨p,_,rfl⟩:=qul.1 hx;rw[Pa.raw_weak];simp) (by rw[qms])
theorem mapX(l:List Ex):l.map rawX=(l.map Pa.ex).map Pa.raw:=by rw[qvS];rfl
theorem mapS(l:List Sm):l.map rawS=(l.map Pa.st).map Pa.raw:=by rw[qvS];rfl
theorem mapE(l:List El):l.map rawE=(l.map Pa.el).map Pa.raw:=by rw[qvS];rfl
theorem mapD(l:List De):l.map rawD=(l.map Pa.de).map Pa.raw:=by rw[qvS];rfl
@[simp] theorem uPa(l:List Pa):V.underL 0 (l.map Pa.v)=true:=qaH fun x _=>Pa.v_under x
theorem qfI(p:Pa)(hp:p.ok)(hl:p.kids.length≤2000):∀S,Fn prog 193 [p.v] S (.sl false (p.kids.map Pa.v)):=by
 refine Pu.intro (R:=fun v=>v=.sl false (p.kids.map Pa.v)) func193 ok193 (by simp[c193]) (by simp) (by rintro v rfl;simp[V.under]) ?_;rw[qdA] at hl
 cases p with
 | el e=>
  simp only at hl;simp[c193,boxS,ldS];simp only[Pa.v,Pa.kind,Pa.toS,Pa.toD,Pa.toE,Pa.toX];simp[ldS];refine qan (qfE [.arr [(Pa.el e).v] 25 1] [] e.exps (by simp;omega)) ?_;rintro v U ⟨rfl,rfl⟩;simp;rw[mapX];exact qea rfl
 | ex x=>
  simp only at hl;simp[c193,boxS,ldS];simp only[Pa.v,Pa.kind,Pa.toS,Pa.toD,Pa.toE,Pa.toX];simp[ldS];refine qan (qfE [.arr [(Pa.ex x).v] 25 1] [] x.args (by simp;omega)) ?_;rintro v U ⟨rfl,rfl⟩;simp;rw[mapX];exact qea rfl
 | de d=>
  simp only at hl;simp[c193,boxS,ldS];simp only[Pa.v,Pa.kind,Pa.toS,Pa.toD,Pa.toE,Pa.toX];simp[ldS];refine qd0 (qfE [.arr [(Pa.de d).v] 25 1] [] d.exps (by simp;omega)) ?_;have h0:(grS [Ob.arr [(Pa.de d).v] 25 1] ([]++d.exps.map rawX))[0]?=some (.arr [(Pa.de d).v] 25 1):=qsD rfl;simp only[qut] at h0 ⊢;simp only[Pa.v,Pa.kind,Pa.toS,Pa.toD,Pa.toE,Pa.toX] at h0 ⊢;simp[ldS,h0];refine qd0 (qnh _ (d.exps.map rawX) d.body (by simp;omega)) ?_;simp[dend,qbj,qbw,ldS,h0];rw[mapX,mapS,←quh];exact qea rfl
 | st s=>
  simp only at hl;simp[c193,boxS,ldS,stS,qac];simp only[Pa.v,Pa.kind,Pa.toS,Pa.toD,Pa.toE,Pa.toX];simp[ldS,stS,qac,boxS];obtain ⟨B,hB⟩:∃B:St,B=[.arr [paV 1 s De.z El.z Ex.z] 25 1,.arr [s.v] 8 1]:=⟨_,rfl⟩;have hBl:B.length=2:=by rw[hB];rfl
  have hB1:B[1]?=some (.arr [s.v] 8 1):=by rw[hB];rfl
  have c1:=qfE B [] s.targets (by simp;omega);have c2:=qfE B (s.targets.map rawX) s.exps (by simp;omega);rw[hBl] at c1 c2;simp only[qut] at c1;have hb1:∀xs,(grS B xs)[1]?=some (.arr [s.v] 8 1):=fun xs=>qsD hB1
  have c1':Spec prog 228 [.sl true [],.sl false (s.targets.map Ex.v)] B (fun r U=>r=grV 2 (s.targets.map rawX)∧U=grS B (s.targets.map rawX)):=c1;simp only[hB] at c1';refine qan c1' ?_;rintro v U ⟨rfl,rfl⟩;simp only[←hB];simp[ldS,hb1];refine qan c2 ?_;rintro v U ⟨rfl,rfl⟩;generalize hxs:s.targets.map rawX++s.exps.map rawX=xs;have hxl:xs.length=s.targets.length+s.exps.length:=by rw[←hxs];simp
  simp;refine qaz (fun e U=>e.get 4=some (grV 2 (xs++s.elems.map rawE))∧e.get 3=some (.ptr 1 0 0 1)∧U=grS B (xs++s.elems.map rawE)) ?_ ?_
  ·refine qar (fun j e S'=>∃i:Nat,j=s.elems.length - i∧i≤s.elems.length∧S'=grS B (xs++(s.elems.map rawE).take i)∧
    e=[(5,.int .i64 i),(4,grV 2 (xs++(s.elems.map rawE).take i)),(3,.ptr 1 0 0 1)]) s.elems.length _ ?_ ⟨0,by simp,by omega,by simp,rfl⟩ ?_
   ·exact Env.so (by simp)
   rintro j e S' ⟨i,rfl,hi,rfl,rfl⟩;by_cases h:i<s.elems.length
   ·have ha:=qoW (S:=B) (xs:=xs++(s.elems.map rawE).take i) (y:=rawE s.elems[i]) (qcy (.el s.elems[i])) (by simp;omega)
    have hn:xs++(s.elems.map rawE).take i++[rawE s.elems[i]]=xs++(s.elems.map rawE).take (i+1):=by
     rw[qt9,quf,qtX h,que,quB,qt5]
    rw[hn,hBl] at ha;have hf:fits 25 [rawE s.elems[i]]=true:=qcy (.el s.elems[i]);generalize hr:rawE s.elems[i]=y at ha hf;have hb:qal (.agg [.int .i64 0,.sl true [],.int .i64 0,.str ⟨⟨[]⟩⟩,.sl true [],.sl true [],.sl true [],.sl true [],.sl true [],.int .i64 0,.bool false,.int .i64 0,.sl true [],.sl true [],.sl true [],.sl true [],.int .i64 0,.sl true [],.int .i64 0,.int .i64 0,.int .i64 0,.int .i64 0,.int .i64 0,.str ⟨⟨[]⟩⟩,.sl true []]) [(0,1,.int .i64 3),(16,2,s.elems[i].v)]=some y:=by rw[←hr];simp[qal,qac,rawE]
    simp[h,ldS,hb1,iaEl,qaf,hb,hf,ha,qaL (n:=(i:Int)+1)];refine ⟨_,?_,_,?_,i+1,rfl,by omega,rfl,rfl⟩
    ·omega
    ·exact Env.so (by simp)
   ·have:i=s.elems.length:=by omega
    subst this;simp[ldS,hb1];rw[quu (by simp)];exact ⟨rfl,rfl⟩
  rintro e U ⟨g4,g3,rfl⟩;generalize hxs2:xs++s.elems.map rawE=ys at *;have hyl:ys.length=s.targets.length+s.exps.length+s.elems.length:=by rw[←hxs2];simp;omega
  simp[g3,g4];refine qaz (fun e U=>e.get 4=some (grV 2 (ys++s.decls.map rawD))∧e.get 3=some (.ptr 1 0 0 1)∧U=grS B (ys++s.decls.map rawD)) ?_ ?_
  ·refine qar (fun j e S'=>∃i:Nat,j=s.decls.length - i∧i≤s.decls.length∧S'=grS B (ys++(s.decls.map rawD).take i)∧
    e=[(6,.int .i64 i),(4,grV 2 (ys++(s.decls.map rawD).take i)),(3,.ptr 1 0 0 1)]) s.decls.length _ ?_ ⟨0,by simp,by omega,by simp,rfl⟩ ?_
   ·repeat' first|exact Env.sub_nil _|refine Env.sub_cons (by simp[g3,g4]) ?_
   rintro j e S' ⟨i,rfl,hi,rfl,rfl⟩;by_cases h:i<s.decls.length
   ·have ha:=qoW (S:=B) (xs:=ys++(s.decls.map rawD).take i) (y:=rawD s.decls[i]) (qcy (.de s.decls[i])) (by simp;omega)
    have hn:ys++(s.decls.map rawD).take i++[rawD s.decls[i]]=ys++(s.decls.map rawD).take (i+1):=by
     rw[qt9,quf,qtX h,que,quB,qt5]
    rw[hn,hBl] at ha;have hf:fits 25 [rawD s.decls[i]]=true:=qcy (.de s.decls[i]);generalize hr:rawD s.decls[i]=y at ha hf;have hb:qal (.agg [.int .i64 0,.sl true [],.int .i64 0,.str ⟨⟨[]⟩⟩,.sl true [],.sl true [],.sl true [],.sl true [],.sl true [],.int .i64 0,.bool false,.int .i64 0,.sl true [],.sl true [],.sl true [],.sl true [],.int .i64 0,.sl true [],.int .i64 0,.int .i64 0,.int .i64 0,.int .i64 0,.int .i64 0,.str ⟨⟨[]⟩⟩,.sl true []]) [(0,1,.int .i64 2),(9,7,s.decls[i].v)]=some y:=by rw[←hr];simp[qal,qac,rawD]
    simp[h,ldS,hb1,iaDe,qaf,hb,hf,ha,qaL (n:=(i:Int)+1)];refine ⟨_,?_,_,?_,i+1,rfl,by omega,rfl,rfl⟩
    ·omega
    ·exact Env.so (by simp)
   ·have:i=s.decls.length:=by omega
    subst this;simp[ldS,hb1];rw[quu (by simp)];exact ⟨rfl,rfl⟩
  clear g3 g4;rintro e U ⟨g4,g3,rfl⟩;have c3:=qnh B (ys++s.decls.map rawD) s.body (by simp;omega);rw[hBl] at c3;simp[g3,g4,ldS,hb1];refine qan c3 ?_;rintro v U ⟨rfl,rfl⟩;simp
  have hz:ys++s.decls.map rawD++s.body.map rawS=(Pa.st s).kids.map Pa.raw:=by
   rw[←hxs2,←hxs,mapX,mapX,mapE,mapD,mapS];simp only[Pa.kids,quh,qt5]
  rw[←qt5,hz,←hBl];exact qea (by simp)
theorem iaPa{l:List Pa}{i:Nat}(h:i<l.length)(b:Bool)(S:St):iaS S 25 (.sl b (l.map Pa.v)) i=some (.iptr (Pa.v l[i]) 0):=qio (f:=Pa.v) (fun _=>rfl) h b S
theorem qc5:∀l:List Pa,(∀p,p∈l→p.depth≤p.size)→qbi l≤qaB l
 | [],_=>qt1 _
 | p::l,h=>by
  have h1:=h p (by simp);have h2:=qc5 l fun q hq=>h q (by simp[hq])
  rw[depths_cons,sizes_cons];omega
theorem qg7:∀(k:Nat) (p:Pa),p.wt≤k→p.depth≤p.size:=by
 intro k
 induction k with
 | zero=>intro p h;exfalso;cases p with
  | st s=>cases s;simp[Pa.wt] at h
  | de s=>cases s;simp[Pa.wt] at h
  | el s=>cases s;simp[Pa.wt] at h
  | ex s=>cases s;simp[Pa.wt] at h
 | succ k ih=>
  intro p hw;rw[Pa.depth_eq,Pa.size_eq];have:=qc5 p.kids fun q hq=>ih q (by have:=Pa.kid_lt hq;omega)
  have:=p.own_pos;omega
def qcQ(z:Nat)(n:Int):Int:=if (z:Int)≤n then n - z else -1
theorem qps:∀(k:Nat) (p:Pa),p.wt≤k→p.ok→∀n:Int,0≤n→n≤2000→∀S,Fn prog 174 [p.v,.int .i64 n] S (.int .i64 (qcQ p.size n)):=by
 intro k
 induction k with
 | zero=>intro p h;exfalso;cases p with
  | st s=>cases s;simp[Pa.wt] at h
  | de s=>cases s;simp[Pa.wt] at h
  | el s=>cases s;simp[Pa.wt] at h
  | ex s=>cases s;simp[Pa.wt] at h
 | succ k ih=>
  intro p hw hp n hn0 hn1;refine Pu.ib func174 ok174 (by simp[c174]) (by simp[V.under]) rfl ?_;have ho:=Pa.own_le hp;have hs:=p.size_eq;have hlen:=qaP p.kids;unfold B50 at ho
  have hkl:p.kids.length≤9007199254740992:=by
   rw[qdA]
   cases p with
   | st s=>
    have o:=(Sm.ok_iff s).1 hp;have o1:=o.targets.1;have o2:=o.exps.1;have o3:=o.elems.1;have o4:=o.decls.1;have o5:=o.body.1;unfold B50 at o1 o2 o3 o4 o5;simp only;omega
   | de d=>
    have o:=(De.ok_iff d).1 hp;have o1:=o.exps.1;have o2:=o.body.1;unfold B50 at o1 o2;simp only;omega
   | el e=>have:=hp.1;unfold B50 at this;simp only;omega
   | ex x=>have:=(Ex.ok_args hp).1;unfold B50 at this;simp only;omega
  have w1:IntKind.i64.wrap ((p.own:Int)+p.kids.length)=(p.own:Int)+p.kids.length:=qaA (by omega) (by omega);have w2:IntKind.i64.wrap (n - p.own)=n - p.own:=qaA (by omega) (by omega);simp[c174,boxS,ldS];refine qba (qlj p hp _) ?_;simp[ldS];refine qba (qrZ p hp _) ?_;simp[dend,qbj,qbw,ldS,w1];by_cases hbig:n<(p.own:Int)+p.kids.length
  ·simp[hbig];refine qaa rfl ?_ rfl;unfold qcQ;rw[if_neg (by omega)];rfl
  simp[hbig,ldS];refine qai (qlj p hp _) ?_;simp[ldS,w2];refine qai (qfI p hp (by omega) _) ?_;simp;refine qaz (fun e U=>e.get 1=some (.int .i64 (qcQ p.size n))) ?_ ?_
  ·refine qar (fun j e S'=>∃i:Nat,j=p.kids.length - i∧i≤p.kids.length∧
    e=[(6,.int .i64 i),(5,.sl false (p.kids.map Pa.v)),(1,.int .i64 (qcQ (qaB (p.kids.take i)) (n - p.own)))]) p.kids.length _ ?_ ⟨0,by simp,by omega,rfl⟩ ?_
   ·have hz:qcQ 0 (n - p.own)=n - p.own:=by unfold qcQ;rw[if_pos (by omega)];omega
    repeat' first|exact Env.sub_nil _|refine Env.sub_cons (by simp[hz]) ?_
   rintro j e S' ⟨i,rfl,hi,rfl⟩;by_cases h:i<p.kids.length
   ·have hq:p.kids[i]?=some p.kids[i]:=by simp[h]
    have q1:=qct hq;have q2:=qaW hq;by_cases h0:(qaB (p.kids.take i):Int)≤n - p.own
    ·have hm:qcQ (qaB (p.kids.take i)) (n - p.own)=n - p.own - qaB (p.kids.take i):=by unfold qcQ;rw[if_pos h0]
     have hk:=Pa.kid_lt (qt7 h);simp[h,hm,show (qaB (p.kids.take i):Int)≤n - p.own by omega,iaPa];refine qai (ih p.kids[i] (by omega) (Pa.kid_ok hp (qt7 h)) _ (by omega) (by omega) _) ?_;simp[qaL (n:=(i:Int)+1)];refine ⟨_,?_,_,?_,i+1,rfl,by omega,rfl⟩
     ·omega
     ·exact Env.sub_cons (k:=6) (v:=.int .i64 (i+1:Nat)) (by simp) (Env.sub_cons (k:=5) (v:=.sl false (p.kids.map Pa.v)) (by simp) (Env.sub_cons (k:=1) (v:=.int .i64 (qcQ (qaB (p.kids.take (i+1))) (n - p.own))) (by
      simp;rw[q1];unfold qcQ;split <;> split <;> omega) (Env.sub_nil _)))
    ·have hm:qcQ (qaB (p.kids.take i)) (n - p.own)=-1:=by unfold qcQ;rw[if_neg h0]
     simp[h,hm];unfold qcQ;rw[if_neg (by omega)]
   ·have:i=p.kids.length:=by omega
    subst this;simp;unfold qcQ;split <;> split <;> omega
  ·rintro e U g;simp[g];exact qaa (vs:=[.int .i64 (qcQ p.size n)]) (by simp) rfl rfl
theorem qqq:∀(k:Nat) (p:Pa),p.wt≤k→p.ok→p.size≤2000→∀S,Fn prog 188 [p.v] S (.int .i64 p.depth):=by
 intro k
 induction k with
 | zero=>intro p h;exfalso;cases p with
  | st s=>cases s;simp[Pa.wt] at h
  | de s=>cases s;simp[Pa.wt] at h
  | el s=>cases s;simp[Pa.wt] at h
  | ex s=>cases s;simp[Pa.wt] at h
 | succ k ih=>
  intro p hw hp hsz;refine Pu.ib func188 ok188 (by simp[c188]) (by simp) rfl ?_;have hs:=p.size_eq;have hlen:=qaP p.kids;have hown:=p.own_pos;have hd:=p.depth_eq;have hds:=qg7 _ p (qt1 _);simp[c188,boxS,ldS];refine qai (qfI p hp (by omega) _) ?_;simp;refine qaz (fun e U=>e.get 3=some (.int .i64 (qbi p.kids))) ?_ ?_
  ·refine qar (fun j e S'=>∃i:Nat,j=p.kids.length - i∧i≤p.kids.length∧
    e=[(5,.int .i64 i),(4,.sl false (p.kids.map Pa.v)),(3,.int .i64 (qbi (p.kids.take i)))]) p.kids.length _ ?_ ⟨0,by simp,by omega,rfl⟩ ?_
   ·exact Env.so (by simp)
   rintro j e S' ⟨i,rfl,hi,rfl⟩;by_cases h:i<p.kids.length
   ·have hq:p.kids[i]?=some p.kids[i]:=by simp[h]
    have q1:=qcb hq;have q2:=qaW hq;have hk:=Pa.kid_lt (qt7 h);simp[h,iaPa];refine qai (ih p.kids[i] (by omega) (Pa.kid_ok hp (qt7 h)) (by omega) _) ?_;simp[evX,mmV,qaL (n:=(i:Int)+1)];refine ⟨_,?_,_,?_,i+1,rfl,by omega,rfl⟩
    ·omega
    ·exact Env.sub_cons (k:=5) (v:=.int .i64 (i+1:Nat)) (by simp) (Env.sub_cons (k:=4) (v:=.sl false (p.kids.map Pa.v)) (by simp) (Env.sub_cons (k:=3) (v:=.int .i64 (qbi (p.kids.take (i+1)))) (by
     simp;rw[q1];split <;> omega) (Env.sub_nil _)))
   ·have:i=p.kids.length:=by omega
    subst this;simp
  ·rintro e U g;simp[g,qaA (n:=1+(qbi p.kids:Int)) (by omega) (by omega)];exact qaa (vs:=[.int .i64 (1+qbi p.kids)]) (by simp) (by simp[retV,hd]) rfl
theorem qih(p:Pa)(hp:p.ok):∀S,Fn prog 159 [p.v] S (.bool (decide p.fits)):=by
 refine Pu.ib func159 ok159 (by simp[c159]) (by simp) rfl ?_;simp[c159,boxS,ldS];refine qai (qps _ p (qt1 _) hp 2000 (by omega) (by omega) _) ?_;by_cases h:p.size≤2000
 ·have hm:qcQ p.size 2000=2000 - p.size:=by unfold qcQ;rw[if_pos (by omega)]
  simp[hm,show (p.size:Int)≤2000 by omega,ldS];refine qai (qqq _ p (qt1 _) hp h _) ?_;simp;exact qaa rfl (by simp[retV,Pa.fits,h];omega) rfl
 ·have hm:qcQ p.size 2000=-1:=by unfold qcQ;rw[if_neg (by omega)]
  simp[hm];exact qaa rfl (by simp[retV,Pa.fits,h]) rfl
theorem qav{P:Program}{a b:C'}{Q:Post}{e:Env}{S:St}(M:Env→St→Prop)(h1:WP P a (qdI M Q) e S)(h2:∀e S,M e S→WP P b Q e S):WP P (.seq a b) Q e S:=by
 rw[qjO];exact qo5 M h1 h2
def qpg(l m:List ByteArray)(i:Nat):Prop:=∀j,j<i→l[j]?=m[j]?
theorem qkv{l m:List ByteArray}(hl:l.length=m.length)(h:qpg l m l.length):l=m:=by
 apply qu8;intro i;by_cases hi:i<l.length
 ·exact h i hi
 ·rw[quU (by omega),quU (by omega)]
theorem qnx(l m:List ByteArray)(hl:l.length≤B50):∀S,Fn prog 233 [.sl false (l.map .str),.sl false (m.map .str)] S (.bool (decide (l=m))):=by
 refine Pu.ib func233 ok233 (by simp[c233]) (by simp[V.under]) rfl ?_;unfold B50 at hl;by_cases hlen:l.length=m.length
 case neg=>
  have hne:¬ l=m:=fun h=>hlen (by rw[h])
  simp only[decide_eq_false hne];simp[c233,show ¬ ((l.length:Int)=m.length) by omega];exact qaa rfl rfl rfl
 generalize hd:decide (l=m)=b;simp only[c233,C'.k];simp[hlen];refine qar (fun j e S'=>∃i:Nat,j=l.length - i∧i≤l.length∧qpg l m i∧
  e=[(5,.int .i64 i),(0,.sl false (l.map .str)),(1,.sl false (m.map .str))]) l.length _ ?_ ⟨0,by simp,by omega,fun j hj=>by omega,rfl⟩ ?_
 ·exact Env.so (by simp)
 rintro j e S' ⟨i,rfl,hi,hq,rfl⟩;by_cases h:i<l.length
 ·have h':i<m.length:=by omega
  by_cases hx:l[i]=m[i]
  ·simp[h,h',qc4,dend,qbj,qbw,hx,qaL (n:=(i:Int)+1)];refine ⟨_,?_,_,?_,i+1,rfl,by omega,?_,rfl⟩
   ·omega
   ·exact Env.so (by simp)
   ·intro j hj;by_cases hji:j=i
    ·subst hji;simp[h,h',hx]
    ·exact hq j (by omega)
  ·simp[h,h',qc4,dend,qbj,qbw,hx];refine qaa rfl ?_ rfl;rw[←hd];have:¬ l=m:=fun hh=>hx (by simp[hh])
   simp[retV,this]
 ·have:i=l.length:=by omega
  subst this;simp;refine qaa rfl ?_ rfl;rw[←hd,decide_eq_true (qkv hlen hq)];rfl
open Classical in
theorem eqFo(f g:Fo):qbd [.str f.name,.bool f.value,.int .i64 f.spec,.int .i64 f.type] [.str g.name,.bool g.value,.int .i64 g.spec,.int .i64 g.type] [(0,.s),(1,.b),(2,.i),(3,.i)]=some (decide (f=g)):=by
 by_cases h1:f.name=g.name
 ·by_cases h2:f.value=g.value
  ·by_cases h3:f.spec=g.spec
   ·by_cases h4:f.type=g.type
    ·have:f=g:=by cases f;cases g;simp at *;exact ⟨h1,h2,h3,h4⟩
     simp[qbd,qcG,this]
    ·have hb:(f.type==g.type)=false:=by simpa using h4
     have:¬ f=g:=fun h=>h4 (by rw[h])
     simp[qbd,qcG,h1,h2,h3,hb,this]
   ·have hb:(f.spec==g.spec)=false:=by simpa using h3
    have:¬ f=g:=fun h=>h3 (by rw[h])
    simp[qbd,qcG,h1,h2,hb,this]
  ·have hb:(f.value==g.value)=false:=by simpa using h2
   have:¬ f=g:=fun h=>h2 (by rw[h])
   simp[qbd,qcG,h1,hb,this]
 ·have hb:(f.name.data.toList==g.name.data.toList)=false:=by
   rw[beq_eq_false_iff_ne];intro hh;exact h1 (qvU (Array.ext' hh))
  have:¬ f=g:=fun h=>h1 (by rw[h])
  simp[qbd,qcG,hb,this]
def EqL1(s t:Sm):Prop:=s.targets.length=t.targets.length∧s.exps.length=t.exps.length∧s.elems.length=t.elems.length∧s.decls.length=t.decls.length∧s.body.length=t.body.length
def EqL2(c d:De)(e f:El)(x y:Ex):Prop:=c.exps.length=d.exps.length∧c.body.length=d.body.length∧e.exps.length=f.exps.length∧x.args.length=y.args.length
def EqS(s t:Sm):Prop:=s.kind=t.kind∧s.text=t.text∧s.labels=t.labels
def EqD(c d:De):Prop:=c.kind=d.kind∧c.own=d.own∧c.type=d.type∧c.names=d.names
def EqX(x y:Ex):Prop:=x.kind=y.kind∧x.op=y.op∧x.n=y.n∧(x.man=y.man∧x.exp=y.exp)∧x.text=y.text
def EqP(k k':Int)(s t:Sm)(c d:De)(e f:El)(x y:Ex):Prop:=(k=k'∧c.formals=d.formals)∧(EqL1 s t∧EqL2 c d e f x y)∧EqS s t∧EqD c d∧e.kind=f.kind∧EqX x y
structure G195(e:Env):Prop where
 g2:e.get 2=some (.ptr 0 0 0 1)
 g3:e.get 3=some (.ptr 1 0 0 1)
 g5:e.get 5=some (.ptr 2 0 0 1)
 g6:e.get 6=some (.ptr 3 0 0 1)
 g7:e.get 7=some (.ptr 4 0 0 1)
 g8:e.get 8=some (.ptr 5 0 0 1)
structure H195(e:Env):Prop where
 g:G195 e
 g10:e.get 10=some (.ptr 6 0 0 1)
 g11:e.get 11=some (.ptr 7 0 0 1)
def qtw(l m:List Fo)(i:Nat):Prop:=∀j,j<i→l[j]?=m[j]?
theorem qmg{l m:List Fo}(hl:l.length=m.length)(h:qtw l m l.length):l=m:=by
 apply qu8;intro i;by_cases hi:i<l.length
 ·exact h i hi
 ·rw[quU (by omega),quU (by omega)]
open Classical in
theorem qgA(k k':Int)(s t:Sm)(c d:De)(e f:El)(x y:Ex)(hs:s.ok)(hc:c.ok):∀S,Fn prog 195 [paV k s c e x,paV k' t d f y] S (.bool (decide (EqP k k' s t c d e f x y))):=by
 refine Pu.ib func195 ok195 (by simp[c195]) (by simp) rfl ?_;have hO:=(Sm.ok_iff s).1 hs;have hP:=(De.ok_iff c).1 hc;have hfl:=hP.formals.1;unfold B50 at hfl;obtain ⟨S6,hS6⟩:∃S6:St,S6=[.arr [paV k s c e x] 25 1,.arr [paV k' t d f y] 25 1,.arr [s.v] 8 1,.arr [t.v] 8 1,.arr [c.v] 7 1,.arr [d.v] 7 1]:=⟨_,rfl⟩;obtain ⟨S8,hS8⟩:∃S8:St,S8=[.arr [paV k s c e x] 25 1,.arr [paV k' t d f y] 25 1,.arr [s.v] 8 1,.arr [t.v] 8 1,.arr [c.v] 7 1,.arr [d.v] 7 1,.arr [x.v] 7 1,.arr [y.v] 7 1]:=⟨_,rfl⟩;have h60:S6[0]?=some (.arr [paV k s c e x] 25 1):=by rw[hS6];rfl
 have h61:S6[1]?=some (.arr [paV k' t d f y] 25 1):=by rw[hS6];rfl
 have h64:S6[4]?=some (.arr [c.v] 7 1):=by rw[hS6];rfl
 have h65:S6[5]?=some (.arr [d.v] 7 1):=by rw[hS6];rfl
 have h80:S8[0]?=some (.arr [paV k s c e x] 25 1):=by rw[hS8];rfl
 have h81:S8[1]?=some (.arr [paV k' t d f y] 25 1):=by rw[hS8];rfl
 have h82:S8[2]?=some (.arr [s.v] 8 1):=by rw[hS8];rfl
 have h83:S8[3]?=some (.arr [t.v] 8 1):=by rw[hS8];rfl
 have h84:S8[4]?=some (.arr [c.v] 7 1):=by rw[hS8];rfl
 have h85:S8[5]?=some (.arr [d.v] 7 1):=by rw[hS8];rfl
 have h86:S8[6]?=some (.arr [x.v] 7 1):=by rw[hS8];rfl
 have h87:S8[7]?=some (.arr [y.v] 7 1):=by rw[hS8];rfl
 have hX:∀z:Ex,z.v=.agg [.int .i64 z.kind,.int .i64 z.op,.int .i64 z.n,.int .i64 z.man,.int .i64 z.exp,.str z.text,.sl false (z.args.map Ex.v)]:=Ex.v_eq;generalize hres:decide (EqP k k' s t c d e f x y)=res;simp only[c195,C'.k];refine qav (fun E U=>E.get 2=some (.ptr 0 0 0 1)∧E.get 3=some (.ptr 1 0 0 1)∧U=[.arr [paV k s c e x] 25 1,.arr [paV k' t d f y] 25 1]) (by simp[boxS,qbr]) ?_;rintro E U ⟨g2,g3,rfl⟩;refine qav (fun E U=>E.get 2=some (.ptr 0 0 0 1)∧E.get 3=some (.ptr 1 0 0 1)∧E.get 5=some (.ptr 2 0 0 1)∧E.get 6=some (.ptr 3 0 0 1)∧U=[.arr [paV k s c e x] 25 1,.arr [paV k' t d f y] 25 1,.arr [s.v] 8 1,.arr [t.v] 8 1]) ?_ ?_
 ·simp[g2,g3,phs,ldS,stS,qac,dend,qbj,qbw]
 clear g2 g3 E;rintro E U ⟨g2,g3,g5,g6,rfl⟩;refine qav (fun E U=>G195 E∧U=S6) ?_ ?_
 ·simp[g2,g3,phs,ldS,stS,qac,dend,qbj,qbw];exact ⟨⟨by simp[g2],by simp[g3],by simp[g5],by simp[g6],by simp,by simp⟩,hS6.symm⟩
 clear g2 g3 g5 g6 E;rintro E U ⟨⟨g2,g3,g5,g6,g7,g8⟩,hU⟩;rw[hU];clear hU U;refine qav (fun E U=>G195 E∧U=S6∧k=k'∧c.formals.length=d.formals.length) ?_ ?_
 ·by_cases hk:k=k'
  case neg=>
   simp[g2,g3,g7,g8,ldS,h60,h61,h64,h65,hk];refine qaa rfl ?_ rfl;rw[←hres,decide_eq_false (fun h=>hk h.1.1)];rfl
  by_cases hf:c.formals.length=d.formals.length
  case neg=>
   simp[g2,g3,g7,g8,ldS,h60,h61,h64,h65,hk,show ¬ ((c.formals.length:Int)=d.formals.length) by omega];refine qaa rfl ?_ rfl;rw[←hres,decide_eq_false (fun h=>hf (by rw[h.1.2]))];rfl
  simp[g2,g3,g7,g8,ldS,h60,h61,h64,h65,hk,hf];exact ⟨by simp[g2],by simp[g3],by simp[g5],by simp[g6],by simp[g7],by simp[g8]⟩
 clear g2 g3 g5 g6 g7 g8 E;rintro E U ⟨⟨g2,g3,g5,g6,g7,g8⟩,hU,hkk,hff⟩;rw[hU];clear hU U;refine qav (fun E U=>G195 E∧U=S6∧c.formals=d.formals) ?_ ?_
 ·simp;refine qaz (fun E U=>G195 E∧U=S6∧c.formals=d.formals) ?_ (fun E U h=>h);refine qar (fun j E U=>∃i:Nat,j=c.formals.length - i∧i≤c.formals.length∧qtw c.formals d.formals i∧U=S6∧
   E=[(9,.int .i64 i),(2,.ptr 0 0 0 1),(3,.ptr 1 0 0 1),(5,.ptr 2 0 0 1),(6,.ptr 3 0 0 1),(7,.ptr 4 0 0 1),(8,.ptr 5 0 0 1)]) c.formals.length _ ?_ ⟨0,by simp,by omega,fun j hj=>by omega,rfl,rfl⟩ ?_
  ·repeat' first|exact Env.sub_nil _|refine Env.sub_cons (by simp[g2,g3,g5,g6,g7,g8]) ?_
  rintro j E' U ⟨i,rfl,hi,hq,hU,rfl⟩;rw[hU];clear hU U;by_cases h:i<c.formals.length
  ·have h':i<d.formals.length:=by omega
   have hef:=eqFo c.formals[i] d.formals[i];by_cases hx:c.formals[i]=d.formals[i]
   ·rw[decide_eq_true hx] at hef;simp[h,h',ldS,h64,h65,iaFo,evX,Fo.v,qah,hef,dend,qbj,qbw,qaL (n:=(i:Int)+1)];refine ⟨_,?_,_,?_,i+1,rfl,by omega,?_,rfl⟩
    ·omega
    ·exact Env.so (by simp)
    ·intro j hj;by_cases hji:j=i
     ·subst hji;simp[h,h',hx]
     ·exact hq j (by omega)
   ·rw[decide_eq_false hx] at hef;simp[h,h',ldS,h64,h65,iaFo,evX,Fo.v,qah,hef,dend,qbj,qbw];refine qaa rfl ?_ rfl;rw[←hres,decide_eq_false (fun hh=>hx (by simp[hh.1.2]))];rfl
  ·have:i=c.formals.length:=by omega
   subst this;simp[h,ldS,h64,h65];exact ⟨⟨by simp,by simp,by simp,by simp,by simp,by simp⟩,qmg hff hq⟩
 clear g2 g3 g5 g6 g7 g8 E;rintro E U ⟨⟨g2,g3,g5,g6,g7,g8⟩,hU,hfo⟩;rw[hU];clear hU U;refine qav (fun E U=>H195 E∧U=S8) ?_ ?_
 ·simp only[hS6];simp[g2,g3,phs,ldS,stS,qac,dend,qbj,qbw];exact ⟨⟨⟨by simp[g2],by simp[g3],by simp[g5],by simp[g6],by simp[g7],by simp[g8]⟩,by simp,by simp⟩,hS8.symm⟩
 clear g2 g3 g5 g6 g7 g8 E;rintro E U ⟨⟨⟨g2,g3,g5,g6,g7,g8⟩,g10,g11⟩,hU⟩;rw[hU];clear hU U;refine qav (fun E U=>H195 E∧E.get 12=some (.bool (decide (EqL1 s t)))∧U=S8) ?_ ?_
 ·generalize hv:decide (EqL1 s t)=v;by_cases a0:s.targets.length=t.targets.length
  case neg=>
   simp[g2,g3,g5,g6,g7,g8,g10,g11,ldS,h80,h81,h82,h83,h84,h85,h86,h87,show ¬ ((s.targets.length:Int)=t.targets.length) by omega];refine ⟨⟨⟨by simp[g2],by simp[g3],by simp[g5],by simp[g6],by simp[g7],by simp[g8]⟩,by simp[g10],by simp[g11]⟩,by rw[←hv,decide_eq_false (fun hh:EqL1 s t=>a0 hh.1)]⟩
  by_cases a1:s.exps.length=t.exps.length
  case neg=>
   simp[g2,g3,g5,g6,g7,g8,g10,g11,ldS,h80,h81,h82,h83,h84,h85,h86,h87,a0,show ¬ ((s.exps.length:Int)=t.exps.length) by omega];refine ⟨⟨⟨by simp[g2],by simp[g3],by simp[g5],by simp[g6],by simp[g7],by simp[g8]⟩,by simp[g10],by simp[g11]⟩,by rw[←hv,decide_eq_false (fun hh:EqL1 s t=>a1 hh.2.1)]⟩
  by_cases a2:s.elems.length=t.elems.length
  case neg=>
   simp[g2,g3,g5,g6,g7,g8,g10,g11,ldS,h80,h81,h82,h83,h84,h85,h86,h87,a0,a1,show ¬ ((s.elems.length:Int)=t.elems.length) by omega];refine ⟨⟨⟨by simp[g2],by simp[g3],by simp[g5],by simp[g6],by simp[g7],by simp[g8]⟩,by simp[g10],by simp[g11]⟩,by rw[←hv,decide_eq_false (fun hh:EqL1 s t=>a2 hh.2.2.1)]⟩
  by_cases a3:s.decls.length=t.decls.length
  case neg=>
   simp[g2,g3,g5,g6,g7,g8,g10,g11,ldS,h80,h81,h82,h83,h84,h85,h86,h87,a0,a1,a2,show ¬ ((s.decls.length:Int)=t.decls.length) by omega];refine ⟨⟨⟨by simp[g2],by simp[g3],by simp[g5],by simp[g6],by simp[g7],by simp[g8]⟩,by simp[g10],by simp[g11]⟩,by rw[←hv,decide_eq_false (fun hh:EqL1 s t=>a3 hh.2.2.2.1)]⟩
  by_cases a4:s.body.length=t.body.length
  case neg=>
   simp[g2,g3,g5,g6,g7,g8,g10,g11,ldS,h80,h81,h82,h83,h84,h85,h86,h87,a0,a1,a2,a3,show ¬ ((s.body.length:Int)=t.body.length) by omega];refine ⟨⟨⟨by simp[g2],by simp[g3],by simp[g5],by simp[g6],by simp[g7],by simp[g8]⟩,by simp[g10],by simp[g11]⟩,by rw[←hv,decide_eq_false (fun hh:EqL1 s t=>a4 hh.2.2.2.2)]⟩
  simp[g2,g3,g5,g6,g7,g8,g10,g11,ldS,h80,h81,h82,h83,h84,h85,h86,h87,a0,a1,a2,a3,a4];refine ⟨⟨⟨by simp[g2],by simp[g3],by simp[g5],by simp[g6],by simp[g7],by simp[g8]⟩,by simp[g10],by simp[g11]⟩,by rw[←hv,decide_eq_true ⟨a0,a1,a2,a3,a4⟩]⟩
 clear g2 g3 g5 g6 g7 g8 g10 g11 E;rintro E U ⟨⟨⟨g2,g3,g5,g6,g7,g8⟩,g10,g11⟩,g12,hU⟩;rw[hU];clear hU U;refine qav (fun E U=>H195 E∧E.get 12=some (.bool (decide (EqL1 s t∧EqL2 c d e f x y)))∧U=S8) ?_ ?_
 ·generalize hv:decide (EqL1 s t∧EqL2 c d e f x y)=v;by_cases b0:EqL1 s t
  case neg=>
   rw[decide_eq_false b0] at g12;simp[g2,g3,g5,g6,g7,g8,g10,g11,ldS,h80,h81,h82,h83,h84,h85,h86,h87,g12];refine ⟨⟨⟨by simp[g2],by simp[g3],by simp[g5],by simp[g6],by simp[g7],by simp[g8]⟩,by simp[g10],by simp[g11]⟩,by rw[←hv,decide_eq_false (fun hh=>b0 hh.1)]⟩
  rw[decide_eq_true b0] at g12;by_cases a0:c.exps.length=d.exps.length
  case neg=>
   simp[g2,g3,g5,g6,g7,g8,g10,g11,ldS,h80,h81,h82,h83,h84,h85,h86,h87,g12,show ¬ ((c.exps.length:Int)=d.exps.length) by omega];refine ⟨⟨⟨by simp[g2],by simp[g3],by simp[g5],by simp[g6],by simp[g7],by simp[g8]⟩,by simp[g10],by simp[g11]⟩,by rw[←hv,decide_eq_false (fun hh:EqL1 s t∧EqL2 c d e f x y=>a0 hh.2.1)]⟩
  by_cases a1:c.body.length=d.body.length
  case neg=>
   simp[g2,g3,g5,g6,g7,g8,g10,g11,ldS,h80,h81,h82,h83,h84,h85,h86,h87,a0,g12,show ¬ ((c.body.length:Int)=d.body.length) by omega];refine ⟨⟨⟨by simp[g2],by simp[g3],by simp[g5],by simp[g6],by simp[g7],by simp[g8]⟩,by simp[g10],by simp[g11]⟩,by rw[←hv,decide_eq_false (fun hh:EqL1 s t∧EqL2 c d e f x y=>a1 hh.2.2.1)]⟩
  by_cases a2:e.exps.length=f.exps.length
  case neg=>
   simp[g2,g3,g5,g6,g7,g8,g10,g11,ldS,h80,h81,h82,h83,h84,h85,h86,h87,a0,a1,g12,show ¬ ((e.exps.length:Int)=f.exps.length) by omega];refine ⟨⟨⟨by simp[g2],by simp[g3],by simp[g5],by simp[g6],by simp[g7],by simp[g8]⟩,by simp[g10],by simp[g11]⟩,by rw[←hv,decide_eq_false (fun hh:EqL1 s t∧EqL2 c d e f x y=>a2 hh.2.2.2.1)]⟩
  by_cases a3:x.args.length=y.args.length
  case neg=>
   simp[g2,g3,g5,g6,g7,g8,g10,g11,ldS,h80,h81,h82,h83,h84,h85,h86,h87,a0,a1,a2,g12,show ¬ ((x.args.length:Int)=y.args.length) by omega];refine ⟨⟨⟨by simp[g2],by simp[g3],by simp[g5],by simp[g6],by simp[g7],by simp[g8]⟩,by simp[g10],by simp[g11]⟩,by rw[←hv,decide_eq_false (fun hh:EqL1 s t∧EqL2 c d e f x y=>a3 hh.2.2.2.2)]⟩
  simp[g2,g3,g5,g6,g7,g8,g10,g11,ldS,h80,h81,h82,h83,h84,h85,h86,h87,a0,a1,a2,a3,g12];refine ⟨⟨⟨by simp[g2],by simp[g3],by simp[g5],by simp[g6],by simp[g7],by simp[g8]⟩,by simp[g10],by simp[g11]⟩,by rw[←hv,decide_eq_true ⟨b0,a0,a1,a2,a3⟩]⟩
 clear g2 g3 g5 g6 g7 g8 g10 g11 g12 E;rintro E U ⟨⟨⟨g2,g3,g5,g6,g7,g8⟩,g10,g11⟩,g12,hU⟩;rw[hU];clear hU U;refine qav (fun E U=>H195 E∧E.get 12=some (.bool (decide (EqL1 s t∧EqL2 c d e f x y)))∧E.get 13=some (.bool (decide (EqS s t)))∧U=S8) ?_ ?_
 ·generalize hv:decide (EqS s t)=v;generalize decide (EqL1 s t∧EqL2 c d e f x y)=v12 at *;by_cases a0:s.kind=t.kind
  case neg=>
   simp[g2,g3,g5,g6,g7,g8,g10,g11,ldS,h80,h81,h82,h83,h84,h85,h86,h87,a0];refine ⟨⟨⟨by simp[g2],by simp[g3],by simp[g5],by simp[g6],by simp[g7],by simp[g8]⟩,by simp[g10],by simp[g11]⟩,by simp[g12],by rw[←hv,decide_eq_false (fun hh:EqS s t=>a0 hh.1)]⟩
  by_cases a1:s.text=t.text
  case neg=>
   simp[g2,g3,g5,g6,g7,g8,g10,g11,ldS,h80,h81,h82,h83,h84,h85,h86,h87,a0,a1];refine ⟨⟨⟨by simp[g2],by simp[g3],by simp[g5],by simp[g6],by simp[g7],by simp[g8]⟩,by simp[g10],by simp[g11]⟩,by simp[g12],by rw[←hv,decide_eq_false (fun hh:EqS s t=>a1 hh.2.1)]⟩
  simp[g2,g3,g5,g6,g7,g8,g10,g11,ldS,h80,h81,h82,h83,h84,h85,h86,h87,a0,a1];refine qai (qnx s.labels t.labels hO.labels.1 _) ?_;by_cases a2:s.labels=t.labels
  case neg=>
   simp[a2];refine ⟨⟨⟨by simp[g2],by simp[g3],by simp[g5],by simp[g6],by simp[g7],by simp[g8]⟩,by simp[g10],by simp[g11]⟩,by simp[g12],by rw[←hv,decide_eq_false (fun hh:EqS s t=>a2 hh.2.2)]⟩
  simp[g2,g3,g5,g6,g7,g8,g10,g11,ldS,h80,h81,h82,h83,h84,h85,h86,h87,a0,a1,a2];refine ⟨⟨⟨by simp[g2],by simp[g3],by simp[g5],by simp[g6],by simp[g7],by simp[g8]⟩,by simp[g10],by simp[g11]⟩,by simp[g12],by rw[←hv,decide_eq_true ⟨a0,a1,a2⟩]⟩
 clear g2 g3 g5 g6 g7 g8 g10 g11 g12 E;rintro E U ⟨⟨⟨g2,g3,g5,g6,g7,g8⟩,g10,g11⟩,g12,g13,hU⟩;rw[hU];clear hU U;refine qav (fun E U=>H195 E∧E.get 12=some (.bool (decide (EqL1 s t∧EqL2 c d e f x y)))∧E.get 13=some (.bool (decide (EqS s t)))∧E.get 14=some (.bool (decide (EqD c d)))∧U=S8) ?_ ?_
 ·generalize hv:decide (EqD c d)=v;generalize decide (EqL1 s t∧EqL2 c d e f x y)=v12 at *;generalize decide (EqS s t)=v13 at *;by_cases a0:c.kind=d.kind
  case neg=>
   simp[g2,g3,g5,g6,g7,g8,g10,g11,ldS,h80,h81,h82,h83,h84,h85,h86,h87,eqOk,eqV,a0];refine ⟨⟨⟨by simp[g2],by simp[g3],by simp[g5],by simp[g6],by simp[g7],by simp[g8]⟩,by simp[g10],by simp[g11]⟩,by simp[g12],by simp[g13],by rw[←hv,decide_eq_false (fun hh:EqD c d=>a0 hh.1)]⟩
  by_cases a1:c.own=d.own
  case neg=>
   simp[g2,g3,g5,g6,g7,g8,g10,g11,ldS,h80,h81,h82,h83,h84,h85,h86,h87,a0,eqOk,eqV,eqOk,eqV,show (c.own==d.own)=false by simpa using a1];refine ⟨⟨⟨by simp[g2],by simp[g3],by simp[g5],by simp[g6],by simp[g7],by simp[g8]⟩,by simp[g10],by simp[g11]⟩,by simp[g12],by simp[g13],by rw[←hv,decide_eq_false (fun hh:EqD c d=>a1 hh.2.1)]⟩
  by_cases a2:c.type=d.type
  case neg=>
   simp[g2,g3,g5,g6,g7,g8,g10,g11,ldS,h80,h81,h82,h83,h84,h85,h86,h87,a0,a1,eqOk,eqV,eqOk,eqV,a2];refine ⟨⟨⟨by simp[g2],by simp[g3],by simp[g5],by simp[g6],by simp[g7],by simp[g8]⟩,by simp[g10],by simp[g11]⟩,by simp[g12],by simp[g13],by rw[←hv,decide_eq_false (fun hh:EqD c d=>a2 hh.2.2.1)]⟩
  simp[g2,g3,g5,g6,g7,g8,g10,g11,ldS,h80,h81,h82,h83,h84,h85,h86,h87,a0,a1,a2,eqOk,eqV];refine qai (qnx c.names d.names hP.names.1 _) ?_;by_cases a3:c.names=d.names
  case neg=>
   simp[a3];refine ⟨⟨⟨by simp[g2],by simp[g3],by simp[g5],by simp[g6],by simp[g7],by simp[g8]⟩,by simp[g10],by simp[g11]⟩,by simp[g12],by simp[g13],by rw[←hv,decide_eq_false (fun hh:EqD c d=>a3 hh.2.2.2)]⟩
  simp[g2,g3,g5,g6,g7,g8,g10,g11,ldS,h80,h81,h82,h83,h84,h85,h86,h87,a0,a1,a2,a3,eqOk,eqV];refine ⟨⟨⟨by simp[g2],by simp[g3],by simp[g5],by simp[g6],by simp[g7],by simp[g8]⟩,by simp[g10],by simp[g11]⟩,by simp[g12],by simp[g13],by rw[←hv,decide_eq_true ⟨a0,a1,a2,a3⟩]⟩
 clear g2 g3 g5 g6 g7 g8 g10 g11 g12 g13 E;rintro E U ⟨⟨⟨g2,g3,g5,g6,g7,g8⟩,g10,g11⟩,g12,g13,g14,hU⟩;rw[hU];clear hU U;refine qav (fun E U=>H195 E∧E.get 12=some (.bool (decide (EqL1 s t∧EqL2 c d e f x y)))∧E.get 13=some (.bool (decide (EqS s t)))∧E.get 14=some (.bool (decide (EqD c d)))∧E.get 15=some (.bool (decide (EqX x y)))∧U=S8) ?_ ?_
 ·generalize hv:decide (EqX x y)=v;generalize decide (EqL1 s t∧EqL2 c d e f x y)=v12 at *;generalize decide (EqS s t)=v13 at *;generalize decide (EqD c d)=v14 at *;by_cases a0:x.kind=y.kind
  case neg=>
   simp[g2,g3,g5,g6,g7,g8,g10,g11,ldS,h80,h81,h82,h83,h84,h85,h86,h87,evX,qdf,a0];refine ⟨⟨⟨by simp[g2],by simp[g3],by simp[g5],by simp[g6],by simp[g7],by simp[g8]⟩,by simp[g10],by simp[g11]⟩,by simp[g12],by simp[g13],by simp[g14],by rw[←hv,decide_eq_false (fun hh:EqX x y=>a0 hh.1)]⟩
  by_cases a1:x.op=y.op
  case neg=>
   simp[g2,g3,g5,g6,g7,g8,g10,g11,ldS,h80,h81,h82,h83,h84,h85,h86,h87,a0,evX,qdf,a1];refine ⟨⟨⟨by simp[g2],by simp[g3],by simp[g5],by simp[g6],by simp[g7],by simp[g8]⟩,by simp[g10],by simp[g11]⟩,by simp[g12],by simp[g13],by simp[g14],by rw[←hv,decide_eq_false (fun hh:EqX x y=>a1 hh.2.1)]⟩
  by_cases a2:x.n=y.n
  case neg=>
   simp[g2,g3,g5,g6,g7,g8,g10,g11,ldS,h80,h81,h82,h83,h84,h85,h86,h87,a0,a1,evX,qdf,a2];refine ⟨⟨⟨by simp[g2],by simp[g3],by simp[g5],by simp[g6],by simp[g7],by simp[g8]⟩,by simp[g10],by simp[g11]⟩,by simp[g12],by simp[g13],by simp[g14],by rw[←hv,decide_eq_false (fun hh:EqX x y=>a2 hh.2.2.1)]⟩
  by_cases a3:x.man=y.man∧x.exp=y.exp
  case neg=>
   simp[g2,g3,g5,g6,g7,g8,g10,g11,ldS,h80,h81,h82,h83,h84,h85,h86,h87,a0,a1,a2,evX,qdf,evX,qdf,a3];refine ⟨⟨⟨by simp[g2],by simp[g3],by simp[g5],by simp[g6],by simp[g7],by simp[g8]⟩,by simp[g10],by simp[g11]⟩,by simp[g12],by simp[g13],by simp[g14],by rw[←hv,decide_eq_false (fun hh:EqX x y=>a3 hh.2.2.2.1)]⟩
  by_cases a4:x.text=y.text
  case neg=>
   simp[g2,g3,g5,g6,g7,g8,g10,g11,ldS,h80,h81,h82,h83,h84,h85,h86,h87,a0,a1,a2,a3,evX,qdf,evX,qdf,a4];refine ⟨⟨⟨by simp[g2],by simp[g3],by simp[g5],by simp[g6],by simp[g7],by simp[g8]⟩,by simp[g10],by simp[g11]⟩,by simp[g12],by simp[g13],by simp[g14],by rw[←hv,decide_eq_false (fun hh:EqX x y=>a4 hh.2.2.2.2)]⟩
  simp[g2,g3,g5,g6,g7,g8,g10,g11,ldS,h80,h81,h82,h83,h84,h85,h86,h87,a0,a1,a2,a3,a4,evX,qdf];refine ⟨⟨⟨by simp[g2],by simp[g3],by simp[g5],by simp[g6],by simp[g7],by simp[g8]⟩,by simp[g10],by simp[g11]⟩,by simp[g12],by simp[g13],by simp[g14],by rw[←hv,decide_eq_true ⟨a0,a1,a2,a3,a4⟩]⟩
 clear g2 g3 g5 g6 g7 g8 g10 g11 g12 g13 g14 E;rintro E U ⟨⟨⟨g2,g3,g5,g6,g7,g8⟩,g10,g11⟩,g12,g13,g14,g15,hU⟩;rw[hU];clear hU U
 have hfin:res=(decide (EqL1 s t∧EqL2 c d e f x y) && decide (EqS s t) && decide (EqD c d) && decide (e.kind=f.kind) && decide (EqX x y)):=by
  rw[←hres,quA];rw[decide_eq_true_eq,qt3,qt3,qt3,qt3,decide_eq_true_eq,decide_eq_true_eq,decide_eq_true_eq,decide_eq_true_eq,decide_eq_true_eq];unfold EqP;constructor
  ·rintro ⟨_,h2,h3,h4,h5,h6⟩;exact ⟨⟨⟨⟨h2,h3⟩,h4⟩,h5⟩,h6⟩
  ·rintro ⟨⟨⟨⟨h2,h3⟩,h4⟩,h5⟩,h6⟩;exact ⟨⟨hkk,hfo⟩,h2,h3,h4,h5,h6⟩
 generalize decide (EqL1 s t∧EqL2 c d e f x y)=v12 at *;generalize decide (EqS s t)=v13 at *;generalize decide (EqD c d)=v14 at *;generalize decide (EqX x y)=v15 at *
 cases v12 with
 | false=>simp[g12];exact qaa rfl (by rw[hfin];rfl) rfl
 | true=>
  cases v13 with
  | false=>simp[g12,g13];exact qaa rfl (by rw[hfin];rfl) rfl
  | true=>
   cases v14 with
   | false=>simp[g12,g13,g14];exact qaa rfl (by rw[hfin];rfl) rfl
   | true=>
    by_cases he:e.kind=f.kind
    ·simp[g2,g3,ldS,h80,h81,g12,g13,g14,g15,he];exact qaa rfl (by rw[hfin];simp[retV,he]) rfl
    ·simp[g2,g3,ldS,h80,h81,g12,g13,g14,g15,he];exact qaa rfl (by rw[hfin];simp[retV,he]) rfl
theorem qqY(m e:Int):∀S,Fn prog 226 [.agg [.int .i64 m,.int .i64 e]] S (.bool (rvOk m e)):=by
 refine Pu.intro (R:=fun v=>v=.bool (rvOk m e)) func226 ok226 (by simp[c226]) (by simp[V.under,V.underL]) (by rintro v rfl;rfl) ?_;have hr:rvOk m e=(decide (m=0∧e=0) || (decide (1≤mag m∧mag m<16777216) && (decide (e=-150) || (decide (8388608≤mag m) && decide (-150<e∧e≤150))))):=rfl;generalize hres:rvOk m e=r at hr ⊢
 have fin:∀a:Int,mag m=a→¬ a=0→r=(decide (1≤a∧a<16777216) && (decide (e=-150) || (decide (8388608≤a) && decide (-150<e∧e≤150)))):=fun a ha h0=>by
  have hm:¬ (m=0∧e=0):=fun h=>h0 (by rw[←ha,h.1];rfl)
  rw[hr,decide_eq_false hm,ha];rfl
 have key:∀(E:Env) (S:St) (a:Int),mag m=a→E.get 3=some (.int .i64 a)→E.get 1=some (.ptr 0 0 0 1)→S=[.arr [.agg [.int .i64 m,.int .i64 e]] 2 1]→
   WP prog (match c226.body with|.seq _ (.seq _ (.seq _ b))=>b|x=>x) (endp [.t 2] 0 fun v U=>v=.bool r∧U=[]) E S:=by
  rintro E S a ha g3 g1 rfl;by_cases h0:a=0
  ·have hr0:r=decide (m=0∧e=0):=by
    rw[hr,ha,h0];simp
   by_cases hm:m=0
   ·simp[c226,g3,g1,h0,ldS,hm];exact qaa rfl (by rw[hr0];simp[retV,hm]) rfl
   ·simp[c226,g3,g1,h0,ldS,hm];exact qaa rfl (by rw[hr0];simp[retV,hm]) rfl
  have hf:=fin a ha h0;by_cases h1:a<0
  ·simp[c226,g3,g1,h0,h1,ldS];exact qaa rfl (by rw[hf];simp[retV];omega) rfl
  by_cases h2:16777216≤a
  ·simp[c226,g3,g1,h0,h1,h2,ldS];exact qaa rfl (by rw[hf];simp[retV];omega) rfl
  by_cases h3:e< -150
  ·simp[c226,g3,g1,h0,h1,h2,h3,ldS];exact qaa rfl (by rw[hf];simp[retV];omega) rfl
  by_cases h4:150<e
  ·simp[c226,g3,g1,h0,h1,h2,h3,h4,ldS];exact qaa rfl (by rw[hf];simp[retV];omega) rfl
  by_cases h5:8388608≤a
  ·simp[c226,g3,g1,h0,h1,h2,h3,h4,h5,ldS];exact qaa rfl (by rw[hf];simp[retV];omega) rfl
  ·simp[c226,g3,g1,h0,h1,h2,h3,h4,h5,ldS];refine qaa rfl ?_ rfl;rw[hf];simp only[retV,V.bool.injEq];rw[quA];simp;omega
 by_cases hm:m<0
 ·have ha:mag m=IntKind.i64.wrap (-m):=by unfold mag;rw[if_pos hm]
  have k:=fun E S=>key E S _ ha
  simp only[c226,C'.k] at k ⊢;refine qav (fun E S=>E.get 1=some (.ptr 0 0 0 1)∧S=[.arr [.agg [.int .i64 m,.int .i64 e]] 2 1]) (by simp[boxS,qbr]) ?_;rintro E S ⟨g1,rfl⟩;refine qav (fun E S=>E.get 1=some (.ptr 0 0 0 1)∧E.get 3=some (.int .i64 m)∧S=[.arr [.agg [.int .i64 m,.int .i64 e]] 2 1]) (by simp[g1,ldS]) ?_;rintro E S ⟨g1,g3,rfl⟩;refine qav (fun E S=>E.get 1=some (.ptr 0 0 0 1)∧E.get 3=some (.int .i64 (IntKind.i64.wrap (-m)))∧S=[.arr [.agg [.int .i64 m,.int .i64 e]] 2 1]) (by simp[g1,g3,hm]) ?_;rintro E S ⟨g1,g3,rfl⟩;exact k E _ g3 g1 rfl
 ·have ha:mag m=m:=by unfold mag;rw[if_neg hm]
  have k:=fun E S=>key E S _ ha
  simp only[c226,C'.k] at k ⊢;refine qav (fun E S=>E.get 1=some (.ptr 0 0 0 1)∧S=[.arr [.agg [.int .i64 m,.int .i64 e]] 2 1]) (by simp[boxS,qbr]) ?_;rintro E S ⟨g1,rfl⟩;refine qav (fun E S=>E.get 1=some (.ptr 0 0 0 1)∧E.get 3=some (.int .i64 m)∧S=[.arr [.agg [.int .i64 m,.int .i64 e]] 2 1]) (by simp[g1,ldS]) ?_;rintro E S ⟨g1,g3,rfl⟩;refine qav (fun E S=>E.get 1=some (.ptr 0 0 0 1)∧E.get 3=some (.int .i64 m)∧S=[.arr [.agg [.int .i64 m,.int .i64 e]] 2 1]) (by simp[g1,g3,hm]) ?_;rintro E S ⟨g1,g3,rfl⟩;exact k E _ g3 g1 rfl
theorem qq7(s:ByteArray)(hs:s.size≤B50):∀S,Fn prog 227 [.str s] S (.bool (qcD s)):=by
 refine Pu.ib func227 ok227 (by simp[c227]) (by simp[V.under]) rfl ?_;unfold B50 at hs;have hp:qcD s=(prB s.data.toList && decide (s.size≤80)):=rfl;generalize hpr:qcD s=pr at hp ⊢;simp only[c227,C'.k];simp;refine qar (fun j e S'=>∃i:Nat,j=s.size - i∧i≤s.size∧prB (s.data.toList.take i)=true∧
  e=[(3,.int .i64 i),(0,.str s)]) s.size _ ?_ ⟨0,by simp,by omega,rfl,rfl⟩ ?_
 ·exact Env.so (by simp)
 rintro j e S' ⟨i,rfl,hi,hq,rfl⟩;by_cases h:i<s.size
 ·have hb:s.data.toList[i]?=some (s.data[i]'h):=by simp[h]
  generalize hx:s.data[i]'h=x at hb;have hi':idxV s i=some (.int .u8 x.toNat):=by rw[←hx];exact idxS h
  have hlt:=x.toNat_lt
  have hno:qc9 x=false→pr=false:=fun hh=>by
   rw[hp,qvs];left
   cases ha:prB s.data.toList with
   | false=>rfl
   | true=>
    unfold prB at ha;rw[quj] at ha;rw[ha x (qt6 hb)] at hh;cases hh
  by_cases h1:(x.toNat:Int)<32
  ·simp[h,hi',h1];refine qaa rfl ?_ rfl;rw[hno (by unfold qc9;simp;omega)];rfl
  by_cases h2:(126:Int)<x.toNat
  ·simp[h,hi',h1,h2];refine qaa rfl ?_ rfl;rw[hno (by unfold qc9;simp;omega)];rfl
  by_cases h3:(x.toNat:Int)=34
  ·simp[h,hi',h3];refine qaa rfl ?_ rfl;rw[hno (by unfold qc9;simp;omega)];rfl
  simp[h,hi',h1,h2,h3,qaL (n:=(i:Int)+1)];refine ⟨_,?_,_,?_,i+1,rfl,by omega,?_,rfl⟩
  ·omega
  ·exact Env.so (by simp)
  ·unfold prB at *;rw[qt9,List.all_append,hq,hb];simp[qc9];omega
 ·simp[h];have hsz:s.data.toList.length=s.size:=rfl;rw[quu (by omega)] at hq;refine qaa rfl ?_ rfl;rw[hp,hq];simp only[retV,V.bool.injEq,qvN,decide_eq_decide];omega
theorem qqV(x:Ex):∀S,Fn prog 257 [x.v] S (.bool x.tgt):=by
 refine Pu.ib func257 ok257 (by simp[c257]) (by simp[V.under]) rfl ?_;by_cases h6:x.kind=6
 ·simp[c257,boxS,ldS,h6];exact qaa rfl (by simp[retV,Ex.tgt,h6]) rfl
 ·simp[c257,boxS,ldS,h6];exact qaa rfl (by simp[retV,Ex.tgt,h6]) rfl
theorem qey(n lo hi:Int):∀S,Fn prog 224 [.int .i64 n,.int .i64 lo,.int .i64 hi] S (.bool (decide (lo≤n) && decide (n≤hi))):=by
 refine Pu.ib func224 ok224 (by simp[c224]) (by simp[V.under]) rfl ?_;by_cases h:lo≤n
 ·simp[c224,h];exact qaa rfl rfl rfl
 ·simp[c224,h];exact qaa rfl rfl rfl
def allQ{α:Type}(l:List α)(q:α→Bool):Bool:=l.all q
theorem qmq(l:List Ex)(hl:l.length≤B50):∀S,Fn prog 222 [.sl false (l.map Ex.v)] S (.bool (allQ l Ex.tgt && decide (0<l.length))):=by
 refine Pu.ib func222 ok222 (by simp[c222]) (by simp[V.under]) rfl ?_;unfold B50 at hl;simp only[c222,C'.k];simp;refine qar (fun j e S'=>∃i:Nat,j=l.length - i∧i≤l.length∧allQ (l.take i) Ex.tgt=true∧
  e=[(3,.int .i64 i),(0,.sl false (l.map Ex.v))]) l.length _ ?_ ⟨0,by simp,by omega,rfl,rfl⟩ ?_
 ·exact Env.so (by simp)
 rintro j e S' ⟨i,rfl,hi,hq,rfl⟩;by_cases h:i<l.length
 ·simp[h,iaEx];refine qai (qqV l[i] _) ?_
  cases hx:Ex.tgt l[i] with
  | false=>
   simp;refine qaa rfl ?_ rfl
   have:allQ l Ex.tgt=false:=by
    cases ha:allQ l Ex.tgt with
    | false=>rfl
    | true=>
     unfold allQ at ha;rw[quj] at ha;rw[ha _ (qt7 h)] at hx;cases hx
   rw[this];rfl
  | true=>
   simp[qaL (n:=(i:Int)+1)];refine ⟨_,?_,_,?_,i+1,rfl,by omega,?_,rfl⟩
   ·omega
   ·exact Env.so (by simp)
   ·unfold allQ at *;rw[qt9,qtX h,List.all_append,hq];simp[hx]
 ·simp[h];rw[quu (by omega)] at hq;refine qaa rfl ?_ rfl;rw[hq];simp[retV]
theorem qlW(l:List ByteArray)(hl:l.length≤B50):∀S,Fn prog 223 [.sl false (l.map V.str)] S (.bool (allQ l qab)):=by
 refine Pu.ib func223 ok223 (by simp[c223]) (by simp[V.under]) rfl ?_;unfold B50 at hl;simp only[c223,C'.k];simp;refine qar (fun j e S'=>∃i:Nat,j=l.length - i∧i≤l.length∧allQ (l.take i) qab=true∧
  e=[(3,.int .i64 i),(0,.sl false (l.map V.str))]) l.length _ ?_ ⟨0,by simp,by omega,rfl,rfl⟩ ?_
 ·exact Env.so (by simp)
 rintro j e S' ⟨i,rfl,hi,hq,rfl⟩;by_cases h:i<l.length
 ·simp[h,qc4];refine qai (qch l[i] _) ?_
  cases hx:qab l[i] with
  | false=>
   simp;refine qaa rfl ?_ rfl
   have:allQ l qab=false:=by
    cases ha:allQ l qab with
    | false=>rfl
    | true=>
     unfold allQ at ha;rw[quj] at ha;rw[ha _ (qt7 h)] at hx;cases hx
   rw[this];rfl
  | true=>
   simp[qaL (n:=(i:Int)+1)];refine ⟨_,?_,_,?_,i+1,rfl,by omega,?_,rfl⟩
   ·omega
   ·exact Env.so (by simp)
   ·unfold allQ at *;rw[qt9,qtX h,List.all_append,hq];simp[hx]
 ·simp[h];rw[quu (by omega)] at hq;refine qaa rfl ?_ rfl;rw[hq];rfl
theorem qrd(f:Fo):∀S,Fn prog 258 [f.v] S (.bool (f.vOwn qab)):=by
 refine Pu.ib func258 ok258 (by simp[c258]) (by simp[V.under]) rfl ?_;have hv:f.vOwn qab=((if f.spec=0∨f.spec=3∨f.spec=4∨f.spec=5 then decide (f.type=0) && !f.value
   else if f.spec=1 then decide (1≤f.type∧f.type≤3)
   else if f.spec=2 then decide (0≤f.type∧f.type≤3) && (!f.value || decide (f.type≠0))
   else if f.spec=6 then decide (0≤f.type∧f.type≤3) && !f.value
   else false) && qab f.name):=by unfold Fo.vOwn;rw[quk]
 generalize f.vOwn qab=r at hv ⊢;by_cases h0:f.spec=0
 ·simp only[h0] at hv;by_cases ht:f.type=0
  case neg=>
   cases hval:f.value
   case false=>
    simp[c258,boxS,ldS,h0,ht,hval];exact qaa rfl (by rw[hv];simp[retV,ht]) rfl
   simp[c258,boxS,ldS,h0,ht,hval];exact qaa rfl (by rw[hv];simp[retV,ht]) rfl
  cases hval:f.value
  case true=>
   simp[c258,boxS,ldS,h0,ht,hval];exact qaa rfl (by rw[hv];simp[retV,hval]) rfl
  simp[c258,boxS,ldS,h0,ht,hval];refine qai (qch f.name _) ?_;cases hn:qab f.name
  case false=>
   simp;exact qaa rfl (by rw[hv];simp[retV,hn]) rfl
  simp;exact qaa rfl (by rw[hv];simp[retV,hn,ht,hval]) rfl
 by_cases h3:f.spec=3
 ·simp only[h3] at hv;by_cases ht:f.type=0
  case neg=>
   cases hval:f.value
   case false=>
    simp[c258,boxS,ldS,h3,ht,hval];exact qaa rfl (by rw[hv];simp[retV,ht]) rfl
   simp[c258,boxS,ldS,h3,ht,hval];exact qaa rfl (by rw[hv];simp[retV,ht]) rfl
  cases hval:f.value
  case true=>
   simp[c258,boxS,ldS,h3,ht,hval];exact qaa rfl (by rw[hv];simp[retV,hval]) rfl
  simp[c258,boxS,ldS,h3,ht,hval];refine qai (qch f.name _) ?_;cases hn:qab f.name
  case false=>
   simp;exact qaa rfl (by rw[hv];simp[retV,hn]) rfl
  simp;exact qaa rfl (by rw[hv];simp[retV,hn,ht,hval]) rfl
 by_cases h4:f.spec=4
 ·simp only[h4] at hv;by_cases ht:f.type=0
  case neg=>
   cases hval:f.value
   case false=>
    simp[c258,boxS,ldS,h4,ht,hval];exact qaa rfl (by rw[hv];simp[retV,ht]) rfl
   simp[c258,boxS,ldS,h4,ht,hval];exact qaa rfl (by rw[hv];simp[retV,ht]) rfl
  cases hval:f.value
  case true=>
   simp[c258,boxS,ldS,h4,ht,hval];exact qaa rfl (by rw[hv];simp[retV,hval]) rfl
  simp[c258,boxS,ldS,h4,ht,hval];refine qai (qch f.name _) ?_;cases hn:qab f.name
  case false=>
   simp;exact qaa rfl (by rw[hv];simp[retV,hn]) rfl
  simp;exact qaa rfl (by rw[hv];simp[retV,hn,ht,hval]) rfl
 by_cases h5:f.spec=5
 ·simp only[h5] at hv;by_cases ht:f.type=0
  case neg=>
   cases hval:f.value
   case false=>
    simp[c258,boxS,ldS,h5,ht,hval];exact qaa rfl (by rw[hv];simp[retV,ht]) rfl
   simp[c258,boxS,ldS,h5,ht,hval];exact qaa rfl (by rw[hv];simp[retV,ht]) rfl
  cases hval:f.value
  case true=>
   simp[c258,boxS,ldS,h5,ht,hval];exact qaa rfl (by rw[hv];simp[retV,hval]) rfl
  simp[c258,boxS,ldS,h5,ht,hval];refine qai (qch f.name _) ?_;cases hn:qab f.name
  case false=>
   simp;exact qaa rfl (by rw[hv];simp[retV,hn]) rfl
  simp;exact qaa rfl (by rw[hv];simp[retV,hn,ht,hval]) rfl
 by_cases h1:f.spec=1
 ·simp only[h1] at hv;simp[c258,boxS,ldS,h1];refine qai (qey _ _ _ _) ?_;by_cases ht:1≤f.type∧f.type≤3
  case neg=>
   rw[qaG ht];cases hval:f.value
   case false=>
    simp[ldS,hval];exact qaa rfl (by rw[hv];simp[retV,ht]) rfl
   simp[ldS,hval];exact qaa rfl (by rw[hv];simp[retV,ht]) rfl
  rw[qaJ ht];cases hval:f.value
  case false=>
   simp[ldS,hval];refine qai (qch f.name _) ?_;cases hn:qab f.name
   case false=>
    simp;exact qaa rfl (by rw[hv];simp[retV,hn]) rfl
   simp;exact qaa rfl (by rw[hv];simp[retV,hn,ht]) rfl
  simp[ldS,hval,h1,show ¬ f.type=0 by omega];refine qai (qch f.name _) ?_;cases hn:qab f.name
  case false=>
   simp;exact qaa rfl (by rw[hv];simp[retV,hn]) rfl
  simp;exact qaa rfl (by rw[hv];simp[retV,hn,ht]) rfl
 by_cases h2:f.spec=2
 ·simp only[h2] at hv;simp[c258,boxS,ldS,h2];refine qai (qey _ _ _ _) ?_;by_cases ht:0≤f.type∧f.type≤3
  case neg=>
   rw[qaG ht];cases hval:f.value
   case false=>
    simp[ldS,hval];exact qaa rfl (by rw[hv];simp[retV,ht]) rfl
   simp[ldS,hval];exact qaa rfl (by rw[hv];simp[retV,ht]) rfl
  rw[qaJ ht];cases hval:f.value
  case false=>
   simp[ldS,hval];refine qai (qch f.name _) ?_;cases hn:qab f.name
   case false=>
    simp;exact qaa rfl (by rw[hv];simp[retV,hn]) rfl
   simp;exact qaa rfl (by rw[hv];simp[retV,hn,ht,hval]) rfl
  by_cases ht0:f.type=0
  case pos=>
   simp[ldS,hval,h2,ht0];exact qaa rfl (by rw[hv];simp[retV,hval,ht0]) rfl
  simp[ldS,hval,h2,ht0];refine qai (qch f.name _) ?_;cases hn:qab f.name
  case false=>
   simp;exact qaa rfl (by rw[hv];simp[retV,hn]) rfl
  simp;exact qaa rfl (by rw[hv];simp[retV,hn,ht,hval,ht0]) rfl
 by_cases h6:f.spec=6
 ·simp only[h6] at hv;simp[c258,boxS,ldS,h6];refine qai (qey _ _ _ _) ?_;by_cases ht:0≤f.type∧f.type≤3
  case neg=>
   rw[qaG ht];cases hval:f.value
   case false=>
    simp[ldS,hval];exact qaa rfl (by rw[hv];simp[retV,ht]) rfl
   simp[ldS,hval];exact qaa rfl (by rw[hv];simp[retV,ht]) rfl
  rw[qaJ ht];cases hval:f.value
  case false=>
   simp[ldS,hval];refine qai (qch f.name _) ?_;cases hn:qab f.name
   case false=>
    simp;exact qaa rfl (by rw[hv];simp[retV,hn]) rfl
   simp;exact qaa rfl (by rw[hv];simp[retV,hn,ht,hval]) rfl
  simp[ldS,hval,h6];exact qaa rfl (by rw[hv];simp[retV,hval]) rfl
 have hv':r=false:=by rw[hv];simp[h0,h1,h2,h3,h4,h5,h6]
 cases hval:f.value
 case false=>
  simp[c258,boxS,ldS,hval,h0,h1,h2,h3,h4,h5,h6];exact qaa rfl (by rw[hv'];rfl) rfl
 simp[c258,boxS,ldS,hval,h0,h1,h2,h3,h4,h5,h6];exact qaa rfl (by rw[hv'];rfl) rfl
def qtg(l:List Fo)(i k:Nat):Prop:=∀(j:Nat) (x y:Fo),j<k→l[j]?=some x→l[i]?=some y→¬ x.name=y.name
theorem qrR(l:List Fo)(hl:l.length≤B50):∀S,Fn prog 225 [.sl false (l.map Fo.v)] S (.bool (qbE qab l [] && decide (l.length≤8))):=by
 refine Pu.ib func225 ok225 (by simp[c225]) (by simp[V.under]) rfl ?_;unfold B50 at hl;generalize hr:(qbE qab l [] && decide (l.length≤8))=r;have hno:qbE qab l []=false→r=false:=fun h=>by rw[←hr,h];rfl
 simp only[c225,C'.k];simp;refine qaz (fun e S=>qbE qab l []=true∧e.get 0=some (.sl false (l.map Fo.v))) ?_ ?_;rotate_left
 ·rintro e S ⟨h1,g0⟩;simp[g0];refine qaa rfl ?_ rfl;rw[←hr,h1];simp only[retV,V.bool.injEq,qvN,decide_eq_decide];omega
 refine qar (fun j e S'=>∃i:Nat,j=l.length - i∧i≤l.length∧qbE qab (l.take i) []=true∧
  e=[(3,.int .i64 i),(0,.sl false (l.map Fo.v))]) l.length _ ?_ ⟨0,by simp,by omega,rfl,rfl⟩ ?_
 ·exact Env.so (by simp)
 rintro j e S' ⟨i,rfl,hi,hq,rfl⟩;by_cases h:i<l.length
 case neg=>
  rw[quu (by omega)] at hq;simp[h,hq]
 have hnext:qbE qab (l.take (i+1)) []=(l[i].vOwn qab && !((l.take i).map Fo.name).any fun x=>decide (x=l[i].name)):=by
  rw[qt9,qtX h,quB,qb2,hq];simp[qbE]
 have hall:qbE qab l []=true→qbE qab (l.take (i+1)) []=true:=fun hh=>by
  rw[←quF (i+1) l,qb2,qt3] at hh;exact hh.1
 simp[h];refine qaz (fun e S=>qtg l i i∧e.get 3=some (.int .i64 i)∧e.get 0=some (.sl false (l.map Fo.v))) ?_ ?_
 ·refine qar (fun j e S'=>∃k:Nat,j=i - k∧k≤i∧qtg l i k∧
   e=[(4,.int .i64 k),(3,.int .i64 i),(0,.sl false (l.map Fo.v))]) i _ ?_ ⟨0,by simp,by omega,fun j x y hj=>by omega,rfl⟩ ?_
  ·exact Env.so (by simp)
  rintro j e S' ⟨k,rfl,hk,hd,rfl⟩;by_cases g:k<i
  case neg=>
   have:k=i:=by omega
   subst this;simp[hd]
  have gl:k<l.length:=by omega
  by_cases hx:l[k].name=l[i].name
  ·simp[g,gl,h,iaFo,hx,dend,qbj,qbw];refine qaa rfl ?_ rfl;rw[hno]
   ·rfl
   ·cases hh:qbE qab l [] with
    | false=>rfl
    | true=>
     have h2:=hall hh;rw[hnext,qt3,Bool.not_eq_true'] at h2
     have:(((l.take i).map Fo.name).any fun x=>decide (x=l[i].name))=true:=by
      rw[qvE];refine ⟨l[k].name,qul.2 ⟨l[k],?_,rfl⟩,by simp[hx]⟩;exact List.mem_iff_getElem?.2 ⟨k,by rw[qvP,if_pos g];simp⟩
     rw[this] at h2;cases h2.2
  ·simp[g,gl,h,iaFo,hx,dend,qbj,qbw,qaL (n:=(k:Int)+1)];refine ⟨_,?_,_,?_,k+1,rfl,by omega,?_,rfl⟩
   ·omega
   ·exact Env.so (by simp)
   ·intro j x y hj h1 h2;by_cases hjk:j=k
    ·subst hjk;rw[qtX gl] at h1;cases h1;rw[qtX h] at h2;cases h2;exact hx
    ·exact hd j x y (by omega) h1 h2
 rintro e U ⟨hd,g3,g0⟩
 have hany:(((l.take i).map Fo.name).any fun x=>decide (x=l[i].name))=false:=by
  cases hh:(((l.take i).map Fo.name).any fun x=>decide (x=l[i].name)) with
  | false=>rfl
  | true=>
   rw[qvE] at hh;obtain ⟨x,h1,h2⟩:=hh;obtain ⟨f,h3,rfl⟩:=qul.1 h1;obtain ⟨j,hj⟩:=List.mem_iff_getElem?.1 h3;rw[qvP] at hj;split at hj
   ·exact absurd (by simpa using h2) (hd j f l[i] (by assumption) hj (by simp[h]))
   ·cases hj
 rw[hany] at hnext;simp[g3,g0,h,iaFo];refine qai (qrd l[i] _) ?_
 cases hv:l[i].vOwn qab with
 | false=>
  rw[hv] at hnext;simp;refine qaa rfl ?_ rfl;rw[hno]
  ·rfl
  ·cases hh:qbE qab l [] with
   | false=>rfl
   | true=>rw[hall hh] at hnext;cases hnext
 | true=>
  rw[hv] at hnext;simp[g3,qaL (n:=(i:Int)+1)];refine ⟨_,?_,_,?_,i+1,rfl,by omega,hnext,rfl⟩
  ·omega
  ·repeat' first|exact Env.sub_nil _|refine Env.sub_cons (by simp[g0]) ?_
noncomputable def qis:C':=(.k [.f 148 6 1,
 .l 149 148,
 .f 150 6 3,
 .s 1 150 149]
 (.seq (.draw [.p (.m 151 5) [],
 .p (.m 152 151) [0],
 .p (.v 153 152 true (.ld (some 7) (.t 1))) [1,0],
 .q (.v 154 152 true (.call (.f 141) [(.t 153)])) true false [2,1,0] 0 0,
 .q (.v 155 152 true (.ld (some 7) (.t 3))) false true [1,0] 0 1,
 .q (.v 156 152 true (.call (.f 141) [(.t 155)])) true false [4,3,2,1,0] 1 1,
 .q (.v 157 152 true (.call (.f 195) [(.t 154),(.t 156)])) true false [5,4,3,2,1,0] 2 2,
 .q (.y 158 152 157) false false [6,5,4,3,2,1,0] 3 3,
 .q (.m 2 158) false false [7,6,5,4,3,2,1,0] 3 3] [])
 (.ret)))
theorem qbc:qis=(.k [.f 148 6 1,
 .l 149 148,
 .f 150 6 3,
 .s 1 150 149]
 (.seq (.draw [.p (.m 151 5) [],
 .p (.m 152 151) [0],
 .p (.v 153 152 true (.ld (some 7) (.t 1))) [1,0],
 .q (.v 154 152 true (.call (.f 141) [(.t 153)])) true false [2,1,0] 0 0,
 .q (.v 155 152 true (.ld (some 7) (.t 3))) false true [1,0] 0 1,
 .q (.v 156 152 true (.call (.f 141) [(.t 155)])) true false [4,3,2,1,0] 1 1,
 .q (.v 157 152 true (.call (.f 195) [(.t 154),(.t 156)])) true false [5,4,3,2,1,0] 2 2,
 .q (.y 158 152 157) false false [6,5,4,3,2,1,0] 3 3,
 .q (.m 2 158) false false [7,6,5,4,3,2,1,0] 3 3] [])
 (.ret))):=rfl
theorem qap(t:ByteArray):decide (t=⟨⟨[]⟩⟩)=qa9 t:=by
 unfold qa9;rw[decide_eq_decide];exact qd1
open Classical in
theorem qtJ(x y:Ex):EqP 4 4 Sm.z Sm.z De.z De.z El.z El.z x y↔EqX x y∧x.args.length=y.args.length:=by
 unfold EqP EqL1 EqL2 EqS EqD;simp;exact And.comm
theorem Ex.z_ok:Sm.z.ok:=by simp[Sm.z,Sm.ok,okS,Ex.okL,De.okL,Sm.okL];decide
theorem De.z_ok:De.z.ok:=by simp[De.z,De.ok,okS,Ex.okL,Sm.okL]
open Classical in
theorem qaq(x:Ex)(ok:Bool)(o n m e:Int)(t:ByteArray)(r:Bool)(E:Env)(S:St)(g1:E.get 1=some (.ptr 0 0 0 1))(g3:E.get 3=some (.ptr 1 0 0 1))(g5:E.get 5=some (.bool ok))
  (hS:S=[.arr [x.v] 7 1,.arr [.agg [.int .i64 x.kind,.int .i64 o,.int .i64 n,.int .i64 m,.int .i64 e,.str t,.sl true []]] 7 1])
  (hr:r=(ok && (decide (x.op=o) && decide (x.n=n) && (decide (x.man=m) && decide (x.exp=e)) && decide (x.text=t)))):WP prog qis (endp [.t 2] 0 fun v U=>v=.bool r∧U=[]) E S:=by
 subst hS;have hy:(Ex.mk x.kind o n m e t x.args).v=.agg [.int .i64 x.kind,.int .i64 o,.int .i64 n,.int .i64 m,.int .i64 e,.str t,.sl false (x.args.map Ex.v)]:=Ex.v_eq _;generalize hyy:Ex.mk x.kind o n m e t x.args=y at hy;simp only[qis]
 cases ok with
 | false=>
  simp[g1,g3,g5,ldS,stS,qac,dend,qbj,qbw];exact qaa rfl (by rw[hr];rfl) rfl
 | true=>
  simp[g1,g3,g5,ldS,stS,qac,qah];refine qba (qmy x _) ?_;simp[g3,ldS,qah];have h2:=qmy y [.arr [x.v] 7 1,.arr [.agg [.int .i64 x.kind,.int .i64 o,.int .i64 n,.int .i64 m,.int .i64 e,.str t,.sl false (x.args.map Ex.v)]] 7 1];rw[hy] at h2;refine qba h2 ?_;simp;refine qba (qgA 4 4 Sm.z Sm.z De.z De.z El.z El.z x y Ex.z_ok De.z_ok _) ?_;simp[dend,qbj,qbw,g3,ldS,qah];refine qaa rfl ?_ rfl;rw[hr];simp only[retV,V.bool.injEq,qvN];rw[quA,decide_eq_true_eq,qtJ,←hyy];rw[qt3,qt3,qt3,qt3,decide_eq_true_eq,decide_eq_true_eq,decide_eq_true_eq,decide_eq_true_eq,decide_eq_true_eq];unfold EqX;constructor
  ·rintro ⟨⟨_,h2,h3,h4,h5⟩,_⟩;exact ⟨⟨⟨h2,h3⟩,h4⟩,h5⟩
  ·rintro ⟨⟨⟨h2,h3⟩,h4⟩,h5⟩;exact ⟨⟨rfl,h2,h3,h4,h5⟩,rfl⟩
theorem qkY(x:Ex)(hx:x.ok)(hk:x.kind=1):∀S,Fn prog 192 [x.v] S (.bool (x.vOwn qab)):=by
 refine Pu.ib func192 ok192 (by simp[c192]) (by simp[V.under]) rfl ?_;have hv:=Ex.vOwn_eq qab x;have hle:x.args.length≤B50:=(Ex.ok_args hx).1;unfold B50 at hle;generalize x.vOwn qab=r at hv ⊢;simp only[c192,←qbc];simp only[hk] at hv;simp at hv;by_cases c1:0≤x.n
 case neg=>
  simp[boxS,ldS,stS,qac,qah,qal,qaf,hk,c1];exact qaq x false 0 x.n 0 0 ⟨⟨[]⟩⟩ r _ _ (by simp) (by simp) (by simp) (by simp[hk]) (by rw[hv];simp[qap,c1])
 by_cases c2:x.n≤2147483647
 case neg=>
  simp[boxS,ldS,stS,qac,qah,qal,qaf,hk,c1,c2];exact qaq x false 0 x.n 0 0 ⟨⟨[]⟩⟩ r _ _ (by simp) (by simp) (by simp) (by simp[hk]) (by rw[hv];simp[qap,c1,c2])
 by_cases hl:x.args=[]
 case neg=>
  simp[boxS,ldS,stS,qac,qah,qal,qaf,hk,c1,c2,hl];exact qaq x false 0 x.n 0 0 ⟨⟨[]⟩⟩ r _ _ (by simp) (by simp) (by simp) (by simp[hk]) (by rw[hv];simp[qap,c1,c2,hl])
 simp[boxS,ldS,stS,qac,qah,qal,qaf,hk,c1,c2,hl];exact qaq x true 0 x.n 0 0 ⟨⟨[]⟩⟩ r _ _ (by simp) (by simp) (by simp) (by simp[hk]) (by rw[hv];simp[qap,c1,c2,hl])
theorem qlp(x:Ex)(hx:x.ok)(hk:x.kind=2):∀S,Fn prog 192 [x.v] S (.bool (x.vOwn qab)):=by
 refine Pu.ib func192 ok192 (by simp[c192]) (by simp[V.under]) rfl ?_;have hv:=Ex.vOwn_eq qab x;have hle:x.args.length≤B50:=(Ex.ok_args hx).1;unfold B50 at hle;generalize x.vOwn qab=r at hv ⊢;simp only[c192,←qbc];simp only[hk] at hv;simp at hv;simp[boxS,ldS,stS,qac,qah,qal,qaf,hk];refine qai (qqY _ _ _) ?_;cases hc:rvOk x.man x.exp
 case false=>
  simp[boxS,ldS,stS,qac,qah,qal,qaf];exact qaq x false 0 0 x.man x.exp ⟨⟨[]⟩⟩ r _ _ (by simp) (by simp) (by simp) (by simp[hk]) (by rw[hv];simp[qap,hc])
 by_cases c1:0≤x.man
 case neg=>
  simp[boxS,ldS,stS,qac,qah,qal,qaf,c1];exact qaq x false 0 0 x.man x.exp ⟨⟨[]⟩⟩ r _ _ (by simp) (by simp) (by simp) (by simp[hk]) (by rw[hv];simp[qap,hc,c1])
 by_cases hl:x.args=[]
 case neg=>
  simp[boxS,ldS,stS,qac,qah,qal,qaf,c1,hl];exact qaq x false 0 0 x.man x.exp ⟨⟨[]⟩⟩ r _ _ (by simp) (by simp) (by simp) (by simp[hk]) (by rw[hv];simp[qap,hc,c1,hl])
 simp[boxS,ldS,stS,qac,qah,qal,qaf,c1,hl];exact qaq x true 0 0 x.man x.exp ⟨⟨[]⟩⟩ r _ _ (by simp) (by simp) (by simp) (by simp[hk]) (by rw[hv];simp[qap,hc,c1,hl])
theorem qlG(x:Ex)(hx:x.ok)(hk:x.kind=3):∀S,Fn prog 192 [x.v] S (.bool (x.vOwn qab)):=by
 refine Pu.ib func192 ok192 (by simp[c192]) (by simp[V.under]) rfl ?_;have hv:=Ex.vOwn_eq qab x;have hle:x.args.length≤B50:=(Ex.ok_args hx).1;unfold B50 at hle;generalize x.vOwn qab=r at hv ⊢;simp only[c192,←qbc];simp only[hk] at hv;simp at hv;by_cases hl:x.args=[]
 case neg=>
  simp[boxS,ldS,stS,qac,qah,qal,qaf,hk,hl];exact qaq x false 0 0 0 0 ⟨⟨[]⟩⟩ r _ _ (by simp) (by simp) (by simp) (by simp[hk]) (by rw[hv];simp[qap,hl])
 simp[boxS,ldS,stS,qac,qah,qal,qaf,hk,hl];exact qaq x true 0 0 0 0 ⟨⟨[]⟩⟩ r _ _ (by simp) (by simp) (by simp) (by simp[hk]) (by rw[hv];simp[qap,hl])
theorem qlP(x:Ex)(hx:x.ok)(hk:x.kind=4):∀S,Fn prog 192 [x.v] S (.bool (x.vOwn qab)):=by
 refine Pu.ib func192 ok192 (by simp[c192]) (by simp[V.under]) rfl ?_;have hv:=Ex.vOwn_eq qab x;have hle:x.args.length≤B50:=(Ex.ok_args hx).1;unfold B50 at hle;generalize x.vOwn qab=r at hv ⊢;simp only[c192,←qbc];simp only[hk] at hv;simp at hv;by_cases hl:x.args=[]
 case neg=>
  simp[boxS,ldS,stS,qac,qah,qal,qaf,hk,hl];exact qaq x false 0 0 0 0 ⟨⟨[]⟩⟩ r _ _ (by simp) (by simp) (by simp) (by simp[hk]) (by rw[hv];simp[qap,hl])
 simp[boxS,ldS,stS,qac,qah,qal,qaf,hk,hl];exact qaq x true 0 0 0 0 ⟨⟨[]⟩⟩ r _ _ (by simp) (by simp) (by simp) (by simp[hk]) (by rw[hv];simp[qap,hl])
theorem qm3(x:Ex)(hx:x.ok)(hk:x.kind=5):∀S,Fn prog 192 [x.v] S (.bool (x.vOwn qab)):=by
 refine Pu.ib func192 ok192 (by simp[c192]) (by simp[V.under]) rfl ?_;have hv:=Ex.vOwn_eq qab x;have hle:x.args.length≤B50:=(Ex.ok_args hx).1;unfold B50 at hle;generalize x.vOwn qab=r at hv ⊢;simp only[c192,←qbc];simp only[hk] at hv;simp at hv;simp[boxS,ldS,stS,qac,qah,qal,qaf,hk];refine qai (qq7 _ (Ex.ok_text hx) _) ?_;cases hc:qcD x.text
 case false=>
  simp[boxS,ldS,stS,qac,qah,qal,qaf];exact qaq x false 0 0 0 0 x.text r _ _ (by simp) (by simp) (by simp) (by simp[hk]) (by rw[hv];simp[qap,hc])
 by_cases hl:x.args=[]
 case neg=>
  simp[boxS,ldS,stS,qac,qah,qal,qaf,hl];exact qaq x false 0 0 0 0 x.text r _ _ (by simp) (by simp) (by simp) (by simp[hk]) (by rw[hv];simp[qap,hc,hl])
 simp[boxS,ldS,stS,qac,qah,qal,qaf,hl];exact qaq x true 0 0 0 0 x.text r _ _ (by simp) (by simp) (by simp) (by simp[hk]) (by rw[hv];simp[qap,hc,hl])
theorem qmp(x:Ex)(hx:x.ok)(hk:x.kind=6):∀S,Fn prog 192 [x.v] S (.bool (x.vOwn qab)):=by
 refine Pu.ib func192 ok192 (by simp[c192]) (by simp[V.under]) rfl ?_;have hv:=Ex.vOwn_eq qab x;have hle:x.args.length≤B50:=(Ex.ok_args hx).1;unfold B50 at hle;generalize x.vOwn qab=r at hv ⊢;simp only[c192,←qbc];simp only[hk] at hv;simp at hv;simp[boxS,ldS,stS,qac,qah,qal,qaf,hk];refine qai (qch _ _) ?_;cases hc:qab x.text
 case false=>
  simp[boxS,ldS,stS,qac,qah,qal,qaf];exact qaq x false 0 0 0 0 x.text r _ _ (by simp) (by simp) (by simp) (by simp[hk]) (by rw[hv];simp[qap,hc])
 by_cases hl:x.args=[]
 case neg=>
  simp[boxS,ldS,stS,qac,qah,qal,qaf,hl];exact qaq x false 0 0 0 0 x.text r _ _ (by simp) (by simp) (by simp) (by simp[hk]) (by rw[hv];simp[qap,hc,hl])
 simp[boxS,ldS,stS,qac,qah,qal,qaf,hl];exact qaq x true 0 0 0 0 x.text r _ _ (by simp) (by simp) (by simp) (by simp[hk]) (by rw[hv];simp[qap,hc,hl])
theorem qlL(x:Ex)(hx:x.ok)(hk:x.kind=7):∀S,Fn prog 192 [x.v] S (.bool (x.vOwn qab)):=by
 refine Pu.ib func192 ok192 (by simp[c192]) (by simp[V.under]) rfl ?_;have hv:=Ex.vOwn_eq qab x;have hle:x.args.length≤B50:=(Ex.ok_args hx).1;unfold B50 at hle;generalize x.vOwn qab=r at hv ⊢;simp only[c192,←qbc];simp only[hk] at hv;simp at hv;simp[boxS,ldS,stS,qac,qah,qal,qaf,hk];refine qai (qch _ _) ?_;cases hc:qab x.text
 case false=>
  simp[boxS,ldS,stS,qac,qah,qal,qaf];exact qaq x false 0 0 0 0 x.text r _ _ (by simp) (by simp) (by simp) (by simp[hk]) (by rw[hv];simp[qap,hc])
 by_cases hl1:1≤x.args.length
 case neg=>
  simp[boxS,ldS,stS,qac,qah,qal,qaf,show ¬ ((1:Int)≤x.args.length) by omega];exact qaq x false 0 0 0 0 x.text r _ _ (by simp) (by simp) (by simp) (by simp[hk]) (by rw[hv];simp[qap,hc,hl1])
 by_cases hl2:x.args.length≤4
 case neg=>
  simp[boxS,ldS,stS,qac,qah,qal,qaf,show (1:Int)≤x.args.length by omega,show ¬ ((x.args.length:Int)≤4) by omega];exact qaq x false 0 0 0 0 x.text r _ _ (by simp) (by simp) (by simp) (by simp[hk]) (by rw[hv];simp[qap,hc,hl1,hl2])
 simp[boxS,ldS,stS,qac,qah,qal,qaf,show (1:Int)≤x.args.length by omega,show (x.args.length:Int)≤4 by omega];exact qaq x true 0 0 0 0 x.text r _ _ (by simp) (by simp) (by simp) (by simp[hk]) (by rw[hv];simp[qap,hc,hl1,hl2])
theorem qld(x:Ex)(hx:x.ok)(hk:x.kind=8):∀S,Fn prog 192 [x.v] S (.bool (x.vOwn qab)):=by
 refine Pu.ib func192 ok192 (by simp[c192]) (by simp[V.under]) rfl ?_;have hv:=Ex.vOwn_eq qab x;have hle:x.args.length≤B50:=(Ex.ok_args hx).1;unfold B50 at hle;generalize x.vOwn qab=r at hv ⊢;simp only[c192,←qbc];simp only[hk] at hv;simp at hv;simp[boxS,ldS,stS,qac,qah,qal,qaf,hk];refine qai (qch _ _) ?_;cases hc:qab x.text
 case false=>
  simp[boxS,ldS,stS,qac,qah,qal,qaf];exact qaq x false 0 0 0 0 x.text r _ _ (by simp) (by simp) (by simp) (by simp[hk]) (by rw[hv];simp[qap,hc])
 by_cases hl1:1≤x.args.length
 case neg=>
  simp[boxS,ldS,stS,qac,qah,qal,qaf,show ¬ ((1:Int)≤x.args.length) by omega];exact qaq x false 0 0 0 0 x.text r _ _ (by simp) (by simp) (by simp) (by simp[hk]) (by rw[hv];simp[qap,hc,hl1])
 by_cases hl2:x.args.length≤8
 case neg=>
  simp[boxS,ldS,stS,qac,qah,qal,qaf,show (1:Int)≤x.args.length by omega,show ¬ ((x.args.length:Int)≤8) by omega];exact qaq x false 0 0 0 0 x.text r _ _ (by simp) (by simp) (by simp) (by simp[hk]) (by rw[hv];simp[qap,hc,hl1,hl2])
 simp[boxS,ldS,stS,qac,qah,qal,qaf,show (1:Int)≤x.args.length by omega,show (x.args.length:Int)≤8 by omega];exact qaq x true 0 0 0 0 x.text r _ _ (by simp) (by simp) (by simp) (by simp[hk]) (by rw[hv];simp[qap,hc,hl1,hl2])
theorem qlO(x:Ex)(hx:x.ok)(hk:x.kind=9):∀S,Fn prog 192 [x.v] S (.bool (x.vOwn qab)):=by
 refine Pu.ib func192 ok192 (by simp[c192]) (by simp[V.under]) rfl ?_;have hv:=Ex.vOwn_eq qab x;have hle:x.args.length≤B50:=(Ex.ok_args hx).1;unfold B50 at hle;generalize x.vOwn qab=r at hv ⊢;simp only[c192,←qbc];simp only[hk] at hv;simp at hv;by_cases hl:x.args.length=1
 case pos=>
  by_cases c1:x.op=1
  case pos=>
   simp[boxS,ldS,stS,qac,qah,qal,qaf,hk,c1,show (x.args.length:Int)=1 by omega];exact qaq x true 1 0 0 0 ⟨⟨[]⟩⟩ r _ _ (by simp) (by simp) (by simp) (by simp[hk]) (by rw[hv];simp[qap,c1,hl])
  by_cases c2:x.op=2
  case pos=>
   simp[boxS,ldS,stS,qac,qah,qal,qaf,hk,c2,show (x.args.length:Int)=1 by omega];exact qaq x true 2 0 0 0 ⟨⟨[]⟩⟩ r _ _ (by simp) (by simp) (by simp) (by simp[hk]) (by rw[hv];simp[qap,c2,hl])
  simp[boxS,ldS,stS,qac,qah,qal,qaf,hk,c1,c2];exact qaq x false x.op 0 0 0 ⟨⟨[]⟩⟩ r _ _ (by simp) (by simp) (by simp) (by simp[hk]) (by rw[hv];simp[qap,c1,c2])
 case neg=>
  by_cases c1:x.op=1
  case pos=>
   simp[boxS,ldS,stS,qac,qah,qal,qaf,hk,c1,show ¬ ((x.args.length:Int)=1) by omega];exact qaq x false 1 0 0 0 ⟨⟨[]⟩⟩ r _ _ (by simp) (by simp) (by simp) (by simp[hk]) (by rw[hv];simp[qap,c1,hl])
  by_cases c2:x.op=2
  case pos=>
   simp[boxS,ldS,stS,qac,qah,qal,qaf,hk,c2,show ¬ ((x.args.length:Int)=1) by omega];exact qaq x false 2 0 0 0 ⟨⟨[]⟩⟩ r _ _ (by simp) (by simp) (by simp) (by simp[hk]) (by rw[hv];simp[qap,c2,hl])
  simp[boxS,ldS,stS,qac,qah,qal,qaf,hk,c1,c2];exact qaq x false x.op 0 0 0 ⟨⟨[]⟩⟩ r _ _ (by simp) (by simp) (by simp) (by simp[hk]) (by rw[hv];simp[qap,c1,c2])
theorem qkl(x:Ex)(hx:x.ok)(hk:x.kind=10):∀S,Fn prog 192 [x.v] S (.bool (x.vOwn qab)):=by
 refine Pu.ib func192 ok192 (by simp[c192]) (by simp[V.under]) rfl ?_;have hv:=Ex.vOwn_eq qab x;have hle:x.args.length≤B50:=(Ex.ok_args hx).1;unfold B50 at hle;generalize x.vOwn qab=r at hv ⊢;simp only[c192,←qbc];simp only[hk] at hv;simp at hv;by_cases c1:3≤x.op
 case neg=>
  simp[boxS,ldS,stS,qac,qah,qal,qaf,hk,c1];exact qaq x false x.op 0 0 0 ⟨⟨[]⟩⟩ r _ _ (by simp) (by simp) (by simp) (by simp[hk]) (by rw[hv];simp[qap,c1])
 by_cases c2:x.op≤18
 case neg=>
  simp[boxS,ldS,stS,qac,qah,qal,qaf,hk,c1,c2];exact qaq x false x.op 0 0 0 ⟨⟨[]⟩⟩ r _ _ (by simp) (by simp) (by simp) (by simp[hk]) (by rw[hv];simp[qap,c1,c2])
 by_cases hl:x.args.length=2
 case neg=>
  simp[boxS,ldS,stS,qac,qah,qal,qaf,hk,c1,c2,show ¬ ((x.args.length:Int)=2) by omega];exact qaq x false x.op 0 0 0 ⟨⟨[]⟩⟩ r _ _ (by simp) (by simp) (by simp) (by simp[hk]) (by rw[hv];simp[qap,c1,c2,hl])
 simp[boxS,ldS,stS,qac,qah,qal,qaf,hk,c1,c2,show (x.args.length:Int)=2 by omega];exact qaq x true x.op 0 0 0 ⟨⟨[]⟩⟩ r _ _ (by simp) (by simp) (by simp) (by simp[hk]) (by rw[hv];simp[qap,c1,c2,hl])
theorem qki(x:Ex)(hx:x.ok)(hk:x.kind=11):∀S,Fn prog 192 [x.v] S (.bool (x.vOwn qab)):=by
 refine Pu.ib func192 ok192 (by simp[c192]) (by simp[V.under]) rfl ?_;have hv:=Ex.vOwn_eq qab x;have hle:x.args.length≤B50:=(Ex.ok_args hx).1;unfold B50 at hle;generalize x.vOwn qab=r at hv ⊢;simp only[c192,←qbc];simp only[hk] at hv;simp at hv;by_cases hl:x.args.length=3
 case neg=>
  simp[boxS,ldS,stS,qac,qah,qal,qaf,hk,show ¬ ((x.args.length:Int)=3) by omega];exact qaq x false 0 0 0 0 ⟨⟨[]⟩⟩ r _ _ (by simp) (by simp) (by simp) (by simp[hk]) (by rw[hv];simp[qap,hl])
 simp[boxS,ldS,stS,qac,qah,qal,qaf,hk,show (x.args.length:Int)=3 by omega];exact qaq x true 0 0 0 0 ⟨⟨[]⟩⟩ r _ _ (by simp) (by simp) (by simp) (by simp[hk]) (by rw[hv];simp[qap,hl])
theorem qj3(x:Ex)(hx:x.ok)(h1:¬ x.kind=1)(h2:¬ x.kind=2)(h3:¬ x.kind=3)(h4:¬ x.kind=4)(h5:¬ x.kind=5)(h6:¬ x.kind=6)(h7:¬ x.kind=7)(h8:¬ x.kind=8)(h9:¬ x.kind=9)(h10:¬ x.kind=10)(h11:¬ x.kind=11):∀S,Fn prog 192 [x.v] S (.bool (x.vOwn qab)):=by
 refine Pu.ib func192 ok192 (by simp[c192]) (by simp[V.under]) rfl ?_;have hv:=Ex.vOwn_eq qab x;have hle:x.args.length≤B50:=(Ex.ok_args hx).1;unfold B50 at hle;generalize x.vOwn qab=r at hv ⊢;simp only[c192,←qbc];have hv':r=false:=by rw[hv];simp[h1,h2,h3,h4,h5,h6,h7,h8,h9,h10,h11]
 simp[boxS,ldS,stS,qac,qah,qal,qaf,h1,h2,h3,h4,h5,h6,h7,h8,h9,h10,h11];exact qaq x false 0 0 0 0 ⟨⟨[]⟩⟩ r _ _ (by simp) (by simp) (by simp) (by simp) (by rw[hv'];rfl)
theorem qp5(x:Ex)(hx:x.ok):∀S,Fn prog 192 [x.v] S (.bool (x.vOwn qab)):=by
 by_cases h1:x.kind=1
 ·exact qkY x hx h1
 by_cases h2:x.kind=2
 ·exact qlp x hx h2
 by_cases h3:x.kind=3
 ·exact qlG x hx h3
 by_cases h4:x.kind=4
 ·exact qlP x hx h4
 by_cases h5:x.kind=5
 ·exact qm3 x hx h5
 by_cases h6:x.kind=6
 ·exact qmp x hx h6
 by_cases h7:x.kind=7
 ·exact qlL x hx h7
 by_cases h8:x.kind=8
 ·exact qld x hx h8
 by_cases h9:x.kind=9
 ·exact qlO x hx h9
 by_cases h10:x.kind=10
 ·exact qkl x hx h10
 by_cases h11:x.kind=11
 ·exact qki x hx h11
 exact qj3 x hx h1 h2 h3 h4 h5 h6 h7 h8 h9 h10 h11
end Go.Proofs.YtbifpocccfkhhaaGreatDoor
end
