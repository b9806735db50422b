/- CopyRenames: for all statements and two texts, in every laid world, the law returns true (its tied card). Conditions: none. -/
import Derived.Test.YtbifpocccfkhhaaGreatDoorQo
set_option linter.all false
noncomputable section
namespace Go.Proofs.YtbifpocccfkhhaaGreatDoor
open Go Go.Proofs.Tryz
def leE(s:Sm)(a b:ByteArray):Int:=if (Pa.st s).err qab≠0 then (Pa.st s).err qab else if qab a=true∧qab b=true then rnE s a b else 1
def leV(s:Sm)(a b:ByteArray):V:=if leE s a b=0 then (s.wholeQ (rnR a b)).v else smZ
theorem qn0(s:Sm)(b:ByteArray):isIn b ((fsto (s.wholeH coP coZ)).foldl insK [])=isIn b s.frees:=by
 rw[quA,qbA,qbA];unfold Sm.frees;rw[qhB]
theorem qsI(s:Sm)(hs:s.ok)(hsz:(Pa.st s).size≤4000)(hn:Sm.nb1 [s]≤4000)(a b:ByteArray)(S:St):
  Spec prog 19 [s.v,.str a,.str b] S (fun r U=>r=.tup [leV s a b,.int .i64 (leE s a b)]∧Kp (fun _=>False) S U):=by
 refine Spec.ib func19 ok19 ?_;obtain ⟨S1,hS1⟩:∃S1:St,S1=S++[.arr [s.v] 8 1,.arr [.str a] 1 1,.arr [.str b] 1 1,.arr [smZ] 8 1]:=⟨_,rfl⟩;have b0:S1[S.length]?=some (.arr [s.v] 8 1):=by rw[hS1];simp
 have ba:S1[S.length+1]?=some (.arr [.str a] 1 1):=by rw[hS1,qtW (by omega)];simp
 have bb:S1[S.length+2]?=some (.arr [.str b] 1 1):=by rw[hS1,qtW (by omega)];simp
 have b1:S1[S.length+3]?=some (.arr [smZ] 8 1):=by rw[hS1,qtW (by omega)];simp
 have l1:S1.length=S.length+4:=by rw[hS1];simp
 have kS:Kp (fun _=>False) S S1:=by rw[hS1];exact (Kp.refl _ _).push _
 have d0:ldS S1 (.ptr S.length 0 0 1) (some 8)=some s.v:=by simp[ldS,b0]
 have da:ldS S1 (.ptr (S.length+1) 0 0 1) none=some (.str a):=by simp[ldS,ba]
 have db:ldS S1 (.ptr (S.length+2) 0 0 1) none=some (.str b):=by simp[ldS,bb]
 have fin:∀(Y:St) (y:V) (e:Int) (ev:Env),Kp (fun _=>False) S1 Y→leV s a b=y→leE s a b=e→ev.get 6=some (.ptr (S.length+3) 0 0 1)→ev.get 7=some (.int .i64 e)→y.size=8→V.part y 0 (some 8)=some y→
   endp [.cell 6 (some 8),.t 7] S.length (fun r U=>r=.tup [leV s a b,.int .i64 (leE s a b)]∧Kp (fun _=>False) S U) .ret ev (Y.set (S.length+3) (.arr [y] 8 1)):=fun Y y e ev kY hy he g6 g7 hz hp=>by
  have h1:=kY.at b1 id;have h2:(Y.set (S.length+3) (.arr [y] 8 1))[S.length+3]?=some (.arr [y] 8 1):=qtZ (glt h1);exact qaj (vs:=[y,.int .i64 e]) (by simp[rvs,g6,g7,ldS,h2,hp]) ⟨by rw[hy,he];rfl,(kS.trans kY).set _ (.inr (by omega))⟩
 have he:leE s a b=if (Pa.st s).err qab≠0 then (Pa.st s).err qab else if qab a=true∧qab b=true then rnE s a b else 1:=rfl
 have hz:leE s a b≠0→leV s a b=smZ:=fun h=>if_neg h
 simp only[c19,C'.k];refine qav (fun e U=>U=S1∧e.get 3=some (.ptr S.length 0 0 1)∧e.get 4=some (.ptr (S.length+1) 0 0 1)∧e.get 5=some (.ptr (S.length+2) 0 0 1)∧e.get 6=some (.ptr (S.length+3) 0 0 1)∧e.get 7=some (.int .i64 0)) (by rw[hS1];simp[boxS,qbr]) ?_;rintro e U ⟨rfl,g3,g4,g5,g6,g7⟩;refine qav (fun e U'=>U'=U∧(Pa.st s).err qab=0∧e.get 3=some (.ptr S.length 0 0 1)∧e.get 4=some (.ptr (S.length+1) 0 0 1)∧e.get 5=some (.ptr (S.length+2) 0 0 1)∧e.get 6=some (.ptr (S.length+3) 0 0 1)∧e.get 7=some (.int .i64 0)) ?_ ?_
 ·simp[g3,d0];refine qai (qsT s hs U) ?_;by_cases h0:(Pa.st s).err qab=0
  ·simp[h0,g3,g4,g5,g6,g7]
  ·rw[if_pos h0] at he;simp[h0,qaf,qal,stS,b1,qac,g6,g7];refine fin _ smZ _ _ (Kp.refl _ _) (hz (by rw[he];exact h0)) he ?_ ?_ rfl rfl
   ·simp[g6]
   ·simp
 clear g3 g4 g5 g6 g7 e;rintro e U' ⟨rfl,h0,g3,g4,g5,g6,g7⟩;rw[if_neg (by rw[h0];simp)] at he;refine qav (fun e U=>U=U'∧(qab a=true∧qab b=true)∧e.get 3=some (.ptr S.length 0 0 1)∧e.get 4=some (.ptr (S.length+1) 0 0 1)∧e.get 5=some (.ptr (S.length+2) 0 0 1)∧e.get 6=some (.ptr (S.length+3) 0 0 1)∧e.get 7=some (.int .i64 0)) ?_ ?_
 ·simp[g4,da];refine qai (qeN a U') ?_
  cases ha:qab a with
  | false=>
   rw[if_neg (by rw[ha];simp)] at he;simp[qaf,qal,stS,b1,qac,g6,g7];refine fin _ smZ 1 _ (Kp.refl _ _) (hz (by rw[he];simp)) he ?_ ?_ rfl rfl
   ·simp[g6]
   ·simp
  | true=>
   simp[g5,db];refine qai (qeN b U') ?_
   cases hb:qab b with
   | false=>
    rw[if_neg (by rw[hb];simp)] at he;simp[qaf,qal,stS,b1,qac,g6,g7];refine fin _ smZ 1 _ (Kp.refl _ _) (hz (by rw[he];simp)) he ?_ ?_ rfl rfl
    ·simp[g6]
    ·simp
   | true=>simp[g3,g4,g5,g6,g7]
 clear g3 g4 g5 g6 g7 e;rintro e U ⟨rfl,hab,g3,g4,g5,g6,g7⟩;rw[if_pos hab] at he;refine qav (fun e U'=>Kp (fun _=>False) U U'∧(∃m bs ck,e.get 9=some (.map m)∧U'[m]?=some (.map (((fsto (s.wholeH coP coZ)).foldl insK []).map kv) bs ck))∧e.get 3=some (.ptr S.length 0 0 1)∧e.get 4=some (.ptr (S.length+1) 0 0 1)∧e.get 5=some (.ptr (S.length+2) 0 0 1)∧e.get 6=some (.ptr (S.length+3) 0 0 1)∧e.get 7=some (.int .i64 0)) ?_ ?_
 ·simp[g3,d0];refine qan (qsq s hs hsz (by omega) U) ?_;rintro r U2 ⟨m,c4,c5,c6,v,ps,F,D,rfl,k,kU,_⟩;obtain ⟨bs,ck,hst,hm⟩:=k.fm;simp[g3,g4,g5,g6,g7];exact ⟨kU,bs,ck,hm⟩
 clear g3 g4 g5 g6 g7 e;rintro e U2 ⟨k2,⟨m,bs,ck,g9,hm⟩,g3,g4,g5,g6,g7⟩;have ea:=k2.at ba id;have eb:=k2.at bb id;have e1:=k2.at b1 id;have da2:ldS U2 (.ptr (S.length+1) 0 0 1) none=some (.str a):=by simp[ldS,ea]
 have db2:ldS U2 (.ptr (S.length+2) 0 0 1) none=some (.str b):=by simp[ldS,eb]
 have hre:rnE s a b=if a≠b∧isIn b s.frees=true then 6 else if (rnSt s a b).caught=true then 10 else 0:=rfl
 refine qav (fun e U'=>U'=U2∧¬ (a≠b∧isIn b s.frees=true)∧e.get 3=some (.ptr S.length 0 0 1)∧e.get 4=some (.ptr (S.length+1) 0 0 1)∧e.get 5=some (.ptr (S.length+2) 0 0 1)∧e.get 6=some (.ptr (S.length+3) 0 0 1)∧e.get 7=some (.int .i64 0)) ?_ ?_
 ·have hlk:=qs9 b hm;rw[qn0] at hlk;by_cases hq:a=b
  ·subst hq;simp[g3,g4,g5,g6,g7,da2,db2]
  ·cases hi:isIn b s.frees with
   | true=>
    rw[if_pos ⟨hq,hi⟩] at hre;rw[hre] at he;rw[hi] at hlk;simp[g4,g5,g9,da2,db2,hq,evX,hlk,qaf,qal,stS,e1,qac,g6,g7];refine fin _ smZ 6 _ k2 (hz (by rw[he];simp)) he ?_ ?_ rfl rfl
    ·simp[g6]
    ·simp
   | false=>
    rw[hi] at hlk;simp[g3,g4,g5,g6,g7,g9,da2,db2,hq,evX,hlk]
 clear g3 g4 g5 g6 g7 g9 e;rintro e U3 ⟨rfl,hq,g3,g4,g5,g6,g7⟩;rw[if_neg hq] at hre;rw[hre] at he;obtain ⟨B,hB⟩:∃B,B=U3.length:=⟨_,rfl⟩;have lB:S.length+4≤B:=by have:=k2.len;omega
 obtain ⟨U4,hU4⟩:∃U4:St,U4=U3++[.arr [.bool false] 1 1,.arr [.fn (.func 59) [] [.ptr (S.length+1) 0 0 1,.ptr B 0 0 1,.ptr (S.length+2) 0 0 1]] 1 1,.arr [.agg [.int .i64 0,.nilfn,.fn (.func 61) [] [.ptr (B+1) 0 0 1],.fn (.func 59) [] [.ptr (S.length+1) 0 0 1,.ptr B 0 0 1,.ptr (S.length+2) 0 0 1]]] 4 1]:=⟨_,rfl⟩;have kU4:Kp (fun _=>False) U3 U4:=by rw[hU4];exact (Kp.refl _ _).push _
 have w0:U4[B]?=some (.arr [.bool false] 1 1):=by rw[hU4,hB,qtW (by omega)];simp
 have w1:U4[B+1]?=some (.arr [.fn (.func 59) [] [.ptr (S.length+1) 0 0 1,.ptr B 0 0 1,.ptr (S.length+2) 0 0 1]] 1 1):=by rw[hU4,hB,qtW (by omega)];simp
 have w2:U4[B+2]?=some (.arr [.agg [.int .i64 0,.nilfn,.fn (.func 61) [] [.ptr (B+1) 0 0 1],.fn (.func 59) [] [.ptr (S.length+1) 0 0 1,.ptr B 0 0 1,.ptr (S.length+2) 0 0 1]]] 4 1):=by rw[hU4,hB,qtW (by omega)];simp
 have f0:=(k2.trans kU4).at b0 id;have fa:=(k2.trans kU4).at ba id;have fb:=(k2.trans kU4).at bb id;have hrs:Rs a b (S.length+1) (S.length+2) B (B+1) false (fun l=>l=B) (fun l=>l=S.length+1∨l=S.length+2∨l=B+1) U4:=⟨fa,fb,w0,w1,fun _=>Iff.rfl,fun _=>Iff.rfl⟩;have hw:Wk (rnC a b (S.length+1) (S.length+2) B (B+1)) (B+2) 0 false (fun l=>l=B) (fun l=>l=S.length+1∨l=S.length+2∨l=B+1) U4:=⟨w2,hrs,by omega,by omega,trivial⟩;have ld4:ldS U4 (.ptr S.length 0 0 1) (some 8)=some s.v:=by simp[ldS,f0]
 simp[g3,g4,g5,g6,g7,boxS,stS,ldS,qbG,qhJ,qaf,qal,qac];rw[←hB,←hU4];simp[f0];clear hU4;refine qan (qpa (rnC a b (S.length+1) (S.length+2) B (B+1)) (qsw a b _ _ _ _) (B+2) s hs hsz false _ _ U4 hw (quJ hn (by show 4000≤100001;omega))) ?_;rintro r Y ⟨hr,F2,D2,kw,sw⟩;have hr':r=(s.wholeQ (rnR a b)).v:=by rw[hr];exact congrArg Sm.v (Sm.whole_rn a b s (qdz h0).2)
 have kk:Rs a b (S.length+1) (S.length+2) B (B+1) (rnb a b (s.wholeH (rnP a b) false)) F2 D2 Y:=kw.st;have hca:rnb a b (s.wholeH (rnP a b) false)=(rnSt s a b).caught:=Sm.caught_rn a b s (qdz h0).2 _ _ _ st0 ((qpd a b).enters _ _);rw[hca] at kk
 have kY:Kp (fun _=>False) U3 Y:=⟨quJ kU4.len sw.k.len,fun l hl hn=>by
  rw[sw.k.get l (by have:=kU4.len;omega) (by rintro (hh|hh) <;> omega)];exact kU4.get l hl hn⟩
 have kY':=(k2.trans kY).push [.arr [r] 8 1];have hr8:r.size=8∧r.cells.all V.flat=true∧V.part r 0 (some 8)=some r:=by rw[hr'];exact ⟨Sm.v_size _,by simp,qgD _⟩
 have hst:stS (Y++[.arr [smZ] 8 1]) (.ptr Y.length 0 0 1) 8 r=some (Y++[.arr [r] 8 1]):=by simp[stS,qac,hr8]
 simp only[smZ] at hst
 have hc:∀o,ldS (Y++[o]) (.ptr B 0 0 1) none=some (.bool (rnSt s a b).caught):=fun o=>by
  have h:(Y++[o])[B]?=_:=gp kk.g;simp[ldS,h]
 have hld:ldS (Y++[.arr [r] 8 1]) (.ptr Y.length 0 0 1) (some 8)=some r:=by simp[ldS,hr8]
 have c1:=kY'.at b1 id;simp[boxS,hst,hc]
 cases hcg:(rnSt s a b).caught with
 | true=>
  rw[hcg,if_pos rfl] at he;simp[qaf,qal,stS,c1,qac,g6,g7];refine fin _ smZ 10 _ kY' (hz (by rw[he];simp)) he ?_ ?_ rfl rfl
  ·simp[g6]
  ·simp
 | false=>
  rw[hcg,if_neg (by simp)] at he;have hv:leV s a b=r:=by unfold leV;rw[he,if_pos rfl,hr']
  simp[hld,stS,c1,qac,hr8,g6,g7];refine fin _ r 0 _ kY' hv he ?_ ?_ hr8.1 hr8.2.2
  ·simp[g6]
  ·simp
theorem qsZ(a b:ByteArray)(hb:b.size≤B50):Shp (rnP a b) where
 le g hg x sc tg:=by cases hg;exact Pa.le_of' (qt1 _) (qca _)
 ok g hg x sc tg hx:=by
  cases hg
  cases x with
  | mk k o n m e t l=>
   obtain ⟨h1,h2,h3⟩:=hx;refine ⟨?_,h2,h3⟩;show (rnT a b sc t).size≤B50;unfold rnT;split
   ·exact hb
   ·exact h1
 f _ _ hx:=hx
 cl c hc x sc hx:=by
  cases hc;show (rnT a b sc x).size≤B50;unfold rnT;split
  ·exact hb
  ·exact hx
open Classical in
theorem qtQ(s:Sm)(a b:ByteArray)(os:s.ok):Fn prog 3 [s.v,.str a,.str b] [] (.bool true):=by
 refine Spec.ib func3 ok3 ?_;obtain ⟨S1,hS1⟩:∃S1:St,S1=[.arr [s.v] 8 1]:=⟨_,rfl⟩;have b0:S1[0]?=some (.arr [s.v] 8 1):=by rw[hS1];rfl
 have d0:ldS S1 (.ptr 0 0 0 1) (some 8)=some s.v:=by simp[ldS,b0]
 have ld:∀{U:St},Kp (fun _=>False) S1 U→ldS U (.ptr 0 0 0 1) (some 8)=some s.v:=fun k=>by
  have c0:=k.at b0 id;simp[ldS,c0]
 simp[c3,boxS];rw[←hS1];simp[d0];refine qai (qta s os S1) ?_
 cases la:s.light with
 | false=>
  simp;refine qai (qhn S1) ?_;simp;exact qaa rfl rfl rfl
 | true=>
 have zs:=qf1 la;have ns:=qsA la;simp[d0];refine qan (qsI s os (by omega) (by omega) a b S1) ?_;rintro r U1 ⟨rfl,k1⟩;have hL:leV s a b=if leE s a b=0 then (s.wholeQ (rnR a b)).v else smZ:=rfl
 have hle:leE s a b=if (Pa.st s).err qab≠0 then (Pa.st s).err qab else if qab a=true∧qab b=true then rnE s a b else 1:=rfl
 obtain ⟨y,hy⟩:∃y,y=leV s a b:=⟨_,rfl⟩
 have y8:y.size=8∧y.cells.all V.flat=true∧V.part y 0 (some 8)=some y:=by
  rw[hy,hL];split
  ·exact ⟨Sm.v_size _,by simp,qgD _⟩
  ·exact ⟨rfl,rfl,rfl⟩
 rw[←hy];have hst:stS (U1++[.arr [smZ] 8 1]) (.ptr U1.length 0 0 1) 8 y=some (U1++[.arr [y] 8 1]):=by simp[stS,qac,y8]
 simp only[smZ] at hst;have k2:=k1.push [.arr [y] 8 1];have p0:=ld k2;simp[boxS,hst,p0];obtain ⟨U2,hU2⟩:∃U2,U2=U1++[.arr [y] 8 1]:=⟨_,rfl⟩;have by2:U2[U1.length]?=some (.arr [y] 8 1):=by rw[hU2];simp
 rw[←hU2] at k2 p0 ⊢;refine qai (qsb s os U2) ?_;simp;refine qai (qch a U2) ?_;simp;refine qai (qch b U2) ?_;by_cases es:(Pa.st s).err qab=0
 case neg=>
  rw[if_pos es] at hle;simp[es,hle];refine qai (qhn U2) ?_;simp;exact qaa rfl rfl rfl
 rw[if_neg (by rw[es];simp)] at hle;by_cases hab:qab a=true∧qab b=true
 case neg=>
  rw[if_neg hab] at hle
  have:qab a=false∨(qab a=true∧qab b=false):=by
   cases ha:qab a with
   | false=>exact .inl rfl
   | true=>cases hb:qab b with
    | false=>exact .inr ⟨rfl,rfl⟩
    | true=>exact absurd ⟨ha,hb⟩ hab
  rcases this with ha|⟨ha,hb⟩
  ·simp[es,ha,hle];refine qai (qhn U2) ?_;simp;exact qaa rfl rfl rfl
  ·simp[es,ha,hb,hle];refine qai (qhn U2) ?_;simp;exact qaa rfl rfl rfl
 rw[if_pos hab] at hle;simp[es,hab.1,hab.2,p0];refine qan (qsc s (by omega) (by omega) (qdz es).2 a b U2) ?_;rintro r U3 ⟨rfl,k3⟩;have hV:rnV s a b=y:=by rw[hy,hL,hle];rfl
 rw[hV];have hst3:stS (U3++[.arr [smZ] 8 1]) (.ptr U3.length 0 0 1) 8 y=some (U3++[.arr [y] 8 1]):=by simp[stS,qac,y8]
 simp only[smZ] at hst3;have by3:(U3++[Ob.arr [y] 8 1])[U1.length]?=some (.arr [y] 8 1):=gp (k3.at by2 id);have by4:(U3++[Ob.arr [y] 8 1])[U3.length]?=some (.arr [y] 8 1):=by simp
 have l3:ldS (U3++[Ob.arr [y] 8 1]) (.ptr U1.length 0 0 1) (some 8)=some y:=by simp[ldS,by3,y8]
 have l4:ldS (U3++[Ob.arr [y] 8 1]) (.ptr U3.length 0 0 1) (some 8)=some y:=by simp[ldS,by4,y8]
 simp[boxS,hst3];obtain ⟨U4,hU4⟩:∃U4,U4=U3++[Ob.arr [y] 8 1]:=⟨_,rfl⟩;rw[←hU4] at l3 l4 ⊢;refine qai (qhn U4) ?_;rw[hle];by_cases h0:rnE s a b=0
 case neg=>
  simp[h0];exact qaa rfl rfl rfl
 have hyv:y=(s.wholeR (rnP a b)).v:=by
  rw[hy,hL,hle,if_pos h0,Sm.whole_rn a b s (qdz es).2]
 have sh:=qsZ a b (quJ (qiz hab.2) (by decide));simp[h0,l3,l4];rw[hyv];refine qai (qty (s.wholeR (rnP a b)) (s.wholeR (rnP a b)) (Sm.wholeR_ok sh s os) (Sm.wholeR_ok sh s os) (Sm.wholeR_fits sh s (qdz es).1) (Sm.wholeR_fits sh s (qdz es).1) U4) ?_;simp;exact qaa rfl rfl rfl
end Go.Proofs.YtbifpocccfkhhaaGreatDoor
namespace Go.Proofs.YtbifpocccfkhhaaGreatDoor.copyRenames
open Go Go.ChangeShapes Go.WideShapes Go.ChangeAt Go.RowKit
set_option maxRecDepth 100000
theorem own:ownKnob Tryz.prog.godebug=none:=by kernel_rfl
theorem contract(H:Type)(enc:TypeId×Value→H)(W:World)(base:Nat)(args:Array Value)(ds gs:List (DataW H))(before:List MemPlace)
  (hval:∀(j:Nat) t v,Tryz.f3.params[j]?=some t→args[j]?=some v→Value.okWide Tryz.prog W .any base t v)
  (hW:DataW.Whole enc Tryz.prog Tryz.f3.params.toList Rows.copyRenamesSpec.vars false W args.toList ds gs before)
  (hwt:(DataW.weightsEach Tryz.prog (Tryz.f3.params.toList++(OpenSpec.ofChange Rows.copyRenamesSpec).bare.plain.varTypes Tryz.prog) (ds++gs)).all (·≤reachBytes)=true) (hL:laidMetH Tryz.prog Rows.copyRenamesRow.laid W):
  Calls Tryz.prog 3 args W fun e W'=>∃v,e=.returned v∧Rows.copyRenamesSpec.post enc Tryz.prog Tryz.f3 false true false false W args v W':=by
 have hW':=hW;obtain ⟨p,q,hA0,hV,rfl,hfz,hnd⟩:=hW;have hA:DataW.TrodAll enc Tryz.prog W 0 (fun _=>true) true Tryz.f3.params.toList args.toList ds p:=hA0;rw[Tryz.params3] at hA hval hwt;obtain ⟨v0,vs0,d0,ds0,p0,q0,hv0,hd0,h0,hA0⟩:=trodAll_cons hA;obtain ⟨v1,vs1,d1,ds1,p1,q1,hv1,hd1,h1,hA1⟩:=trodAll_cons hA0;obtain ⟨v2,vs2,d2,ds2,p2,q2,hv2,hd2,h2,hA2⟩:=trodAll_cons hA1;obtain ⟨hve,hde⟩:=trodAll_nil hA2;have hds:ds=[d0,d1,d2]:=by rw[hd0,hd1,hd2,hde]
 have hargs:args=#[v0,v1,v2]:=by
  apply qvO.1;rw[hv0,hv1,hv2,hve]
 subst hds hargs;obtain ⟨rfl,rfl⟩:=trodVars_none hV;rw[qu4] at hwt;obtain ⟨a0,o0,r0⟩:=stmt_in (hval 0 28 v0 rfl rfl) h0 (fitw_of hwt (i:=0) rfl rfl);obtain ⟨a1,o1,r1⟩:=text_in (hval 1 9 v1 rfl rfl) h1 (fitw_of hwt (i:=1) rfl rfl);obtain ⟨a2,o2,r2⟩:=text_in (hval 2 9 v2 rfl rfl) h2 (fitw_of hwt (i:=2) rfl rfl);refine law_of (qtQ a0 a1 a2 o0) (SR.start hL) ⟨rfl,fun i v u hv hu=>?_⟩ (by kernel_rfl) rfl rfl hW' rfl
 match i,hv,hu with
 | 0,hv,hu=>cases hv;cases hu;exact r0
 | 1,hv,hu=>cases hv;cases hu;exact r1
 | 2,hv,hu=>cases hv;cases hu;exact r2
noncomputable def laidWorld(os:Os):World:=
 let N:=(World.settled Tryz.prog os).heap.size
 let w0:=World.holding Tryz.prog os ⟨#[.cells (#[9,13,1,32,133,101,160,5760,5600,8192,8202,1,8232,8233,1,8239,8287,48,12288,12288,1].map fun (z:Nat)=>Value.int .u16 (z:Int)) 279,.cells #[.slice (some ⟨N,0,none⟩) 7 7,.slice none 0 0,.int .i64 2] 276],#[],[]⟩
 let put (h:Array Obj) (g:Nat) (cs:Array Value):Array Obj:=h.modify g fun
  | .cells _ t frozen=>.cells cs t frozen
  | o=>o
 let h1:=put w0.heap 0 (Lib.asciiSpaceTab.map fun z=>Value.int .u8 z).toArray
 let h2:=put h1 1 #[.pointer (some ⟨N+1,0,none⟩)]
 let h3:=put h2 2 (Lib.pow10Tab.map fun z=>Value.int .u64 z).toArray
 let h4:=put h3 3 (#[0,1,28,2,29,14,24,3,30,22,20,15,25,17,4,8,31,27,13,23,21,19,16,7,26,12,18,6,11,5,10,9].map fun (z:Nat)=>Value.int .u8 (z:Int))
 let h5:=put h4 4 (#[0,1,56,2,57,49,28,3,61,58,42,50,38,29,17,4,62,47,59,36,45,43,51,22,53,39,33,30,24,18,12,5,63,55,48,27,60,41,37,16,46,35,44,21,52,32,23,11,54,26,40,15,34,20,31,10,25,14,19,9,13,8,7,6].map fun (z:Nat)=>Value.int .u8 (z:Int))
 { w0 with heap:=h5 }
def wArgs:Array Value:=#[.agg #[.slice none 0 0,.int .i64 0,.string ⟨#[]⟩,.slice none 0 0,.slice none 0 0,.slice none 0 0,.slice none 0 0,.slice none 0 0],.string ⟨#[]⟩,.string ⟨#[]⟩]
theorem laid_met(os:Os):laidMet Tryz.prog Rows.copyRenamesRow.laid ((laidWorld os).forCall (fun _ _=>0) ⟨#[],wArgs,[]⟩).memory:=
 laidMet_of_run' 10 (by kernel_rfl) (by kernel_rfl)
theorem reads(os:Os){H:Type}(enc:TypeId×Value→H):∃places,DataW.whole enc Tryz.prog ((laidWorld os).forCall (fun _ _=>0) ⟨#[],wArgs,[]⟩).memory Tryz.f3.params.toList Rows.copyRenamesSpec.vars false wArgs.toList 8=some ([.agg [.nil,.lit (.int .i64 0),.lit (.string []),.nil,.nil,.nil,.nil,.nil],.lit (.string []),.lit (.string [])],[],places):=
 ⟨[],by kernel_rfl⟩
theorem lifted(os:Os)(started:os.Started)(H:Type)(enc:TypeId×Value→H)(F:Stop.Interp):
  ReturnsInHanded {} Tryz.checked os 3 .any ((OpenSpec.ofChange Rows.copyRenamesSpec).preRow enc Tryz.prog Tryz.f3 Rows.copyRenamesRow.domain false Rows.copyRenamesRow.laid) (((OpenSpec.ofChange Rows.copyRenamesSpec).at F).post enc Tryz.prog Tryz.f3 false true false false):=by
 obtain ⟨places,hx⟩:=reads os enc;refine returnsInHanded_of_row (C:=Tryz.checked) (s:=OpenSpec.ofChange Rows.copyRenamesSpec) own started (by kernel_rfl) Tryz.func3
  (witness_row_atRef (enc:=enc) (C:=Tryz.checked) false (laidWorld os) wArgs rfl (by kernel_rfl) (by kernel_rfl) (by kernel_rfl)
   (OpenSpec.preRow_of_cond 8 hx (by kernel_rfl) (fun k hk=>by cases hk) (by kernel_rfl) (laid_met os))) ?_
 intro W base args ds gs before hval hW _ _ hwt hL _ _;exact contract H enc W base args ds gs before hval hW hwt hL
theorem andT{a b:Bool}(ha:a=true)(hb:b=true):(a && b)=true:=by rw[ha,hb];rfl
theorem fact1:Rows.copyRenamesRow.wf (OpenSpec.ofChange (OpenSpec.ofChange Rows.copyRenamesSpec).bare)=true:=by kernel_rfl
theorem fact2:laidOutB Tryz.prog=true:=by kernel_rfl
theorem fact3:mapsRowed Tryz.prog=true:=by kernel_rfl
theorem fact4:Tryz.f3.params.all (Tryz.prog.readableRec ·)=true:=by kernel_rfl
theorem fact5:namedTie Tryz.prog Rows.copyRenamesRow.named (OpenSpec.ofChange Rows.copyRenamesSpec).bare.vars=true:=by kernel_rfl
theorem fact6:(Rows.copyRenamesRow.stops==[])=true:=by kernel_rfl
theorem fact7:(Tryz.prog.stops==[])=true:=by kernel_rfl
theorem fact8:(Rows.copyRenamesRow.knobs==[])=true:=by kernel_rfl
theorem fact9:(Tryz.prog.stopKnobs==[])=true:=by kernel_rfl
theorem fact10:(Rows.copyRenamesRow.inPlace==Tryz.prog.inPlace 3)=true:=by kernel_rfl
theorem fact11:(Rows.copyRenamesRow.unfollowed==Tryz.prog.unfollowed 3)=true:=by kernel_rfl
theorem fact12:(Rows.copyRenamesRow.recurses==Tryz.prog.recurses 3)=true:=by kernel_rfl
theorem fact13:(Rows.copyRenamesRow.named==Tryz.prog.varsNamed 3)=true:=by kernel_rfl
theorem fact14:(Rows.copyRenamesRow.maps==(Tryz.f3.params.toList++(OpenSpec.ofChange Rows.copyRenamesSpec).bare.plain.varTypes Tryz.prog).any (Tryz.prog.mapsRec ·))=true:=by kernel_rfl
theorem fact15:(Rows.copyRenamesRow.ifaces==(Tryz.f3.params.toList++(OpenSpec.ofChange Rows.copyRenamesSpec).bare.plain.varTypes Tryz.prog).any (Tryz.prog.ifacesRec ·))=true:=by kernel_rfl
theorem fact16:(Rows.copyRenamesRow.mapsOut==Tryz.prog.mapsAmong Tryz.f3.resultTypes.toList)=true:=by kernel_rfl
theorem fact17:(Rows.copyRenamesRow.loops==(Tryz.f3.params.toList++(OpenSpec.ofChange Rows.copyRenamesSpec).bare.plain.varTypes Tryz.prog).any (Tryz.prog.loopsFrom ·))=true:=by kernel_rfl
theorem fact18:(Rows.copyRenamesRow.wideKeys==((Tryz.f3.params.toList++(OpenSpec.ofChange Rows.copyRenamesSpec).bare.plain.varTypes Tryz.prog)++Tryz.f3.resultTypes.toList).any (Tryz.prog.wideKeysFrom ·))=true:=by kernel_rfl
theorem fact19:(OpenSpec.ofChange Rows.copyRenamesSpec).bare.vars.all (Tryz.prog.varReadable ·)=true:=by kernel_rfl
theorem fact20:Tryz.f3.resultTypes.all (fun t=>Tryz.prog.readableRec t && decide (t<Tryz.prog.types.size))=true:=by kernel_rfl
theorem fact21:(Rows.copyRenamesRow.ifacesOut==Tryz.f3.resultTypes.toList.any (Tryz.prog.ifacesRec ·))=true:=by kernel_rfl
theorem fact22:(Rows.copyRenamesRow.loopsOut==Tryz.f3.resultTypes.toList.any (Tryz.prog.loopsFrom ·))=true:=by kernel_rfl
theorem fact23:(Rows.copyRenamesRow.plainKeys==Tryz.prog.plainKeys)=true:=by kernel_rfl
theorem fact24:Rows.copyRenamesRow.shortTexts.isNone=true:=by kernel_rfl
theorem fact25:Tryz.prog.stopsHeard=true:=by kernel_rfl
theorem fact26:Tryz.prog.mayEnter=true:=by kernel_rfl
theorem fact27:(Rows.copyRenamesRow.lifted==Tryz.prog.liftsFinal)=true:=by kernel_rfl
theorem fact28:(Tryz.prog.make==some Rows.copyRenamesRow.make)=true:=by kernel_rfl
theorem fact29:(Rows.copyRenamesRow.kinds==(if Rows.copyRenamesRow.domain.isEmpty then [] else Tryz.f3.params.toList.map fun t=>match Tryz.prog.underlying t with|some (.int k)=>some k|_=>none))=true:=by kernel_rfl
theorem fact30:(Rows.copyRenamesRow.pinned==Rows.copyRenamesRow.pinnedBy)=true:=by kernel_rfl
theorem fact31:(Rows.copyRenamesRow.veiled==((Tryz.f3.params.toList++(OpenSpec.ofChange Rows.copyRenamesSpec).bare.plain.varTypes Tryz.prog)++Tryz.f3.resultTypes.toList).any (Tryz.prog.veiledRec ·))=true:=by kernel_rfl
theorem fact32:Rows.copyRenamesRow.veiledFits Tryz.prog Tryz.f3.params.toList ((Tryz.f3.params.toList++(OpenSpec.ofChange Rows.copyRenamesSpec).bare.plain.varTypes Tryz.prog)++Tryz.f3.resultTypes.toList)=true:=by kernel_rfl
theorem facts:joinedFacts Tryz.pinned.checked.prog 3 Tryz.f3 (OpenSpec.ofChange Rows.copyRenamesSpec).bare Rows.copyRenamesRow=true:=(andT (andT (andT (andT (andT (andT (andT (andT (andT (andT (andT (andT (andT (andT (andT (andT (andT (andT (andT (andT (andT (andT (andT (andT (andT (andT (andT (andT (andT (andT (andT fact1 fact2) fact3) fact4) fact5) fact6) fact7) fact8) fact9) fact10) fact11) fact12) fact13) fact14) fact15) fact16) fact17) fact18) fact19) fact20) fact21) fact22) fact23) fact24) fact25) fact26) fact27) fact28) fact29) fact30) fact31) fact32)
theorem name3:Tryz.pinned.checked.prog.funcNamed Rows.copyRenamesRow.func=some 3:=by kernel_rfl
theorem inst3:Tryz.f3.isInstance Tryz.pinned.checked.prog Rows.copyRenamesRow.origin Rows.copyRenamesRow.targs:=of_decide_eq_true (by kernel_rfl)
theorem wrap3:Tryz.f3.isWrapper Tryz.pinned.checked.prog Rows.copyRenamesRow.wrapper Rows.copyRenamesRow.mainSum:=by unfold Func.isWrapper;first|(rw[if_pos (by decide+kernel)];kernel_rfl)|(rw[if_neg (by decide+kernel)];exact ⟨rfl,rfl⟩)
theorem said:Rows.CopyRenamesSaid:=
 OpenClaim.holds_of_cond 3 Tryz.f3 rfl rfl rfl rfl rfl rfl rfl ⟨rfl,rfl,rfl,rfl,rfl⟩ rfl rfl rfl rfl rfl name3 Tryz.func3 facts inst3 wrap3
  (fun os started H enc _ F=>by rw[OpenClaim.pre_eq_preRow];exact lifted os started H enc F)
theorem looksT:false=Tryz.pinned.checked.prog.looks []:=by kernel_rfl
theorem stand9:Tryz.prog.wantsStandIn 9=false:=by kernel_rfl
theorem stand28:Tryz.prog.wantsStandIn 28=false:=by kernel_rfl
theorem named3 : Tryz.prog.funcNamed "manorboy/manorboylaw09.CopyRenames" = some 3 := by kernel_rfl
theorem plain (f : FuncId) (fn : Func) (hf : Tryz.pinned.checked.prog.funcNamed "manorboy/manorboylaw09.CopyRenames" = some f) (hfn : Tryz.pinned.checked.prog.funcs[f]? = some fn) :
  false=Tryz.pinned.checked.prog.looks []∧∀(j:Nat) t,fn.params[j]?=some t→Tryz.pinned.checked.prog.wantsStandIn t=false:=by
 obtain rfl:f=3:=Option.some.inj (named3.symm.trans hf) |>.symm;obtain rfl:fn=Tryz.f3:=(Option.some.inj (Tryz.func3.symm.trans hfn)).symm;refine ⟨looksT,fun j t ht=>?_⟩;rw[Tryz.params3] at ht;have:=Array.mem_of_getElem? ht;simp at this;rcases this with rfl|rfl
 ·exact stand9
 ·exact stand28
theorem wfText:Rows.copyRenamesRow.wfByText (OpenSpec.ofChange Rows.copyRenamesSpec)=true:=by kernel_rfl
theorem mainT:Tryz.pinned.checked.prog.mainIs=some (Rows.copyRenamesCard.stood.harness.1,Rows.copyRenamesCard.stood.harness.2.toList):=by kernel_rfl
theorem goesT:false=Rows.copyRenamesRow.goesBy Tryz.pinned.checked.prog:=by kernel_rfl
theorem card:Rows.CopyRenamesCardSaid:=
 Claim7.holds_tied_plain_at .later [] _ _ _ _ said (fun _ h=>by cases h) wfText (fun _ h=>by cases h) copyRenames_row_tie rfl ⟨rfl,rfl⟩ mainT rfl plain goesT
end Go.Proofs.YtbifpocccfkhhaaGreatDoor.copyRenames
namespace Go.Proofs.YtbifpocccfkhhaaGreatDoor
theorem copyRenames_holds:Rows.CopyRenamesCardSaid:=copyRenames.card
end Go.Proofs.YtbifpocccfkhhaaGreatDoor
end
