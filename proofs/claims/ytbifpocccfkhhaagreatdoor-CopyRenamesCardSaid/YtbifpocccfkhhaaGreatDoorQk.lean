/- A part. -/
import Derived.Test.YtbifpocccfkhhaaGreatDoorQj
set_option linter.all false
noncomputable section
namespace Go.Proofs.YtbifpocccfkhhaaGreatDoor
open Go Go.Proofs.Tryz
noncomputable def qiG:C':=(.seq (.draw [.p (.m 146 6) [],
 .p (.m 147 146) [0],
 .p (.v 148 147 true (.fa 0 (.t 1))) [1,0],
 .p (.v 149 147 true (.ld none (.t 148))) [2,1,0],
 .q (.v 150 147 true (.call (.f 223) [(.t 149)])) true false [3,2,1,0] 0 0,
 .q (.y 151 147 150) false false [4,3,2,1,0] 1 1,
 .q (.m 152 151) false false [5,4,3,2,1,0] 1 1,
 .q (.v 153 152 true (.ld (some 8) (.t 1))) false false [6,5,4,3,2,1,0] 1 1,
 .q (.v 154 152 true (.call (.f 113) [(.t 153)])) true false [7,6,5,4,3,2,1,0] 1 1,
 .q (.v 155 152 true (.ld (some 8) (.t 3))) false true [6,5,4,3,2,1,0] 1 2,
 .q (.v 156 152 true (.call (.f 113) [(.t 155)])) true false [9,8,7,6,5,4,3,2,1,0] 2 2,
 .q (.v 157 152 true (.call (.f 195) [(.t 154),(.t 156)])) true false [10,9,8,7,6,5,4,3,2,1,0] 3 3,
 .q (.y 158 152 157) false false [11,10,9,8,7,6,5,4,3,2,1,0] 4 4,
 .q (.m 2 158) false false [12,11,10,9,8,7,6,5,4,3,2,1,0] 4 4] [])
 (.ret))
theorem qbB:qiG=(.seq (.draw [.p (.m 146 6) [],
 .p (.m 147 146) [0],
 .p (.v 148 147 true (.fa 0 (.t 1))) [1,0],
 .p (.v 149 147 true (.ld none (.t 148))) [2,1,0],
 .q (.v 150 147 true (.call (.f 223) [(.t 149)])) true false [3,2,1,0] 0 0,
 .q (.y 151 147 150) false false [4,3,2,1,0] 1 1,
 .q (.m 152 151) false false [5,4,3,2,1,0] 1 1,
 .q (.v 153 152 true (.ld (some 8) (.t 1))) false false [6,5,4,3,2,1,0] 1 1,
 .q (.v 154 152 true (.call (.f 113) [(.t 153)])) true false [7,6,5,4,3,2,1,0] 1 1,
 .q (.v 155 152 true (.ld (some 8) (.t 3))) false true [6,5,4,3,2,1,0] 1 2,
 .q (.v 156 152 true (.call (.f 113) [(.t 155)])) true false [9,8,7,6,5,4,3,2,1,0] 2 2,
 .q (.v 157 152 true (.call (.f 195) [(.t 154),(.t 156)])) true false [10,9,8,7,6,5,4,3,2,1,0] 3 3,
 .q (.y 158 152 157) false false [11,10,9,8,7,6,5,4,3,2,1,0] 4 4,
 .q (.m 2 158) false false [12,11,10,9,8,7,6,5,4,3,2,1,0] 4 4] [])
 (.ret)):=rfl
noncomputable def qiv:C':=(.seq (.draw [.p (.m 110 5) [],
 .p (.m 111 110) [0],
 .p (.v 112 111 true (.fa 3 (.t 1))) [1,0],
 .p (.v 113 111 true (.ld none (.t 112))) [2,1,0],
 .q (.v 114 111 true (.call (.f 223) [(.t 113)])) true false [3,2,1,0] 0 0,
 .q (.y 115 111 114) false false [4,3,2,1,0] 1 1,
 .q (.m 116 115) false false [5,4,3,2,1,0] 1 1,
 .q (.v 117 116 true (.ld (some 7) (.t 1))) false false [6,5,4,3,2,1,0] 1 1,
 .q (.v 118 116 true (.call (.f 135) [(.t 117)])) true false [7,6,5,4,3,2,1,0] 1 1,
 .q (.v 119 116 true (.ld (some 7) (.t 3))) false true [6,5,4,3,2,1,0] 1 2,
 .q (.v 120 116 true (.call (.f 135) [(.t 119)])) true false [9,8,7,6,5,4,3,2,1,0] 2 2,
 .q (.v 121 116 true (.call (.f 195) [(.t 118),(.t 120)])) true false [10,9,8,7,6,5,4,3,2,1,0] 3 3,
 .q (.y 122 116 121) false false [11,10,9,8,7,6,5,4,3,2,1,0] 4 4,
 .q (.m 2 122) false false [12,11,10,9,8,7,6,5,4,3,2,1,0] 4 4] [])
 (.ret))
theorem qcH:qiv=(.seq (.draw [.p (.m 110 5) [],
 .p (.m 111 110) [0],
 .p (.v 112 111 true (.fa 3 (.t 1))) [1,0],
 .p (.v 113 111 true (.ld none (.t 112))) [2,1,0],
 .q (.v 114 111 true (.call (.f 223) [(.t 113)])) true false [3,2,1,0] 0 0,
 .q (.y 115 111 114) false false [4,3,2,1,0] 1 1,
 .q (.m 116 115) false false [5,4,3,2,1,0] 1 1,
 .q (.v 117 116 true (.ld (some 7) (.t 1))) false false [6,5,4,3,2,1,0] 1 1,
 .q (.v 118 116 true (.call (.f 135) [(.t 117)])) true false [7,6,5,4,3,2,1,0] 1 1,
 .q (.v 119 116 true (.ld (some 7) (.t 3))) false true [6,5,4,3,2,1,0] 1 2,
 .q (.v 120 116 true (.call (.f 135) [(.t 119)])) true false [9,8,7,6,5,4,3,2,1,0] 2 2,
 .q (.v 121 116 true (.call (.f 195) [(.t 118),(.t 120)])) true false [10,9,8,7,6,5,4,3,2,1,0] 3 3,
 .q (.y 122 116 121) false false [11,10,9,8,7,6,5,4,3,2,1,0] 4 4,
 .q (.m 2 122) false false [12,11,10,9,8,7,6,5,4,3,2,1,0] 4 4] [])
 (.ret)):=rfl
open Classical in
theorem qtS(s t:Sm):EqP 1 1 s t De.z De.z El.z El.z Ex.z Ex.z↔EqL1 s t∧EqS s t:=by
 unfold EqP EqL2 EqD EqX;simp
open Classical in
theorem qtI(c d:De):EqP 2 2 Sm.z Sm.z c d El.z El.z Ex.z Ex.z↔c.formals=d.formals∧(c.exps.length=d.exps.length∧c.body.length=d.body.length)∧EqD c d:=by
 unfold EqP EqL1 EqL2 EqS EqX;simp
theorem qbz{α:Type}{l:List α}(q:α→Bool)(h:l.length=0):l.all q=true:=by
 rw[qur h];rfl
open Classical in
theorem qaC(s:Sm)(hs:s.ok)(ok:Bool)(t:ByteArray)(b3 b4 b5 b6 b7:Bool)(g e:List Ex)(f:List El)(d:List De)(b:List Sm)(r:Bool)(E:Env)(S:St)
  (g1:E.get 1=some (.ptr 0 0 0 1)) (g3:E.get 3=some (.ptr 1 0 0 1)) (g6:E.get 6=some (.bool ok))
  (hS:S=[.arr [s.v] 8 1,.arr [.agg [.sl false (s.labels.map .str),.int .i64 s.kind,.str t,.sl b3 (g.map Ex.v),.sl b4 (e.map Ex.v),.sl b5 (f.map El.v),.sl b6 (d.map De.v),.sl b7 (b.map Sm.v)]] 8 1])
  (hr:r=(ok && (s.labels.all qab && (decide (s.targets.length=g.length) && decide (s.exps.length=e.length) && decide (s.elems.length=f.length) && decide (s.decls.length=d.length) && decide (s.body.length=b.length) && decide (s.text=t))))):
  WP prog qiG (endp [.t 2] 0 fun v U=>v=.bool r∧U=[]) E S:=by
 subst hS;have hO:=(Sm.ok_iff s).1 hs
 have hy:V.weakL [V.agg [.sl false (s.labels.map .str),.int .i64 s.kind,.str t,.sl b3 (g.map Ex.v),.sl b4 (e.map Ex.v),.sl b5 (f.map El.v),.sl b6 (d.map De.v),.sl b7 (b.map Sm.v)]]=[(Sm.mk s.labels s.kind t g e f d b).v]:=by
  simp only[V.weakL,V.weak,wEx,wEl,wDe,wSm,wStr];rw[Sm.v_eq];rfl
 have h113:=fun S=>Spec.weakA (args:=[V.agg [.sl false (s.labels.map .str),.int .i64 s.kind,.str t,.sl b3 (g.map Ex.v),.sl b4 (e.map Ex.v),.sl b5 (f.map El.v),.sl b6 (d.map De.v),.sl b7 (b.map Sm.v)]]) (by rw[hy];exact qfH (Sm.mk s.labels s.kind t g e f d b) S)
 generalize hyy:Sm.mk s.labels s.kind t g e f d b=y at hy h113;simp only[qiG]
 cases ok with
 | false=>
  simp[g1,g3,g6,ldS,dend,qbj,qbw];exact qaa rfl (by rw[hr];rfl) rfl
 | true=>
  simp[g1,g3,g6,ldS];refine qba (qlW s.labels hO.labels.1 _) ?_
  cases hn:allQ s.labels qab with
  | false=>
   unfold allQ at hn;simp[g1,g3,g6,ldS,dend,qbj,qbw];exact qaa rfl (by rw[hr,hn];rfl) rfl
  | true=>
   unfold allQ at hn;simp[g1,ldS];refine qba (qfH s _) ?_;simp[g3,ldS,qah];refine qba (h113 _) ?_;simp;refine qba (qgA 1 1 s y De.z De.z El.z El.z Ex.z Ex.z hs De.z_ok _) ?_;simp[dend,qbj,qbw,g3,ldS,qah];refine qaa rfl ?_ rfl;rw[hr,hn];simp only[retV,V.bool.injEq,qvN];rw[quA,decide_eq_true_eq,qtS,←hyy];rw[qt3,qt3,qt3,qt3,qt3,decide_eq_true_eq,decide_eq_true_eq,decide_eq_true_eq,decide_eq_true_eq,decide_eq_true_eq,decide_eq_true_eq];unfold EqL1 EqS;constructor
   ·rintro ⟨⟨h1,h2,h3,h4,h5⟩,_,h6,_⟩;exact ⟨⟨⟨⟨⟨h1,h2⟩,h3⟩,h4⟩,h5⟩,h6⟩
   ·rintro ⟨⟨⟨⟨⟨h1,h2⟩,h3⟩,h4⟩,h5⟩,h6⟩;exact ⟨⟨h1,h2,h3,h4,h5⟩,rfl,h6,rfl⟩
open Classical in
theorem qaN(c:De)(hs:c.ok)(ok:Bool)(o:Bool)(t:Int)(b4 b5 b6:Bool)(e:List Ex)(f:List Fo)(b:List Sm)(r:Bool)(E:Env)(S:St)
  (g1:E.get 1=some (.ptr 0 0 0 1)) (g3:E.get 3=some (.ptr 1 0 0 1)) (g5:E.get 5=some (.bool ok))
  (hS:S=[.arr [c.v] 7 1,.arr [.agg [.int .i64 c.kind,.bool o,.int .i64 t,.sl false (c.names.map .str),.sl b4 (e.map Ex.v),.sl b5 (f.map Fo.v),.sl b6 (b.map Sm.v)]] 7 1])
  (hr:r=(ok && (c.names.all qab && (decide (c.formals=f) && decide (c.exps.length=e.length) && decide (c.body.length=b.length) && decide (c.own=o) && decide (c.type=t))))):
  WP prog qiv (endp [.t 2] 0 fun v U=>v=.bool r∧U=[]) E S:=by
 subst hS;have hO:=(De.ok_iff c).1 hs
 have hy:V.weakL [V.agg [.int .i64 c.kind,.bool o,.int .i64 t,.sl false (c.names.map .str),.sl b4 (e.map Ex.v),.sl b5 (f.map Fo.v),.sl b6 (b.map Sm.v)]]=[(De.mk c.kind o t c.names e f b).v]:=by
  simp only[V.weakL,V.weak,wEx,wFo,wSm,wStr];rw[De.v_eq];rfl
 have h135:=fun S=>Spec.weakA (args:=[V.agg [.int .i64 c.kind,.bool o,.int .i64 t,.sl false (c.names.map .str),.sl b4 (e.map Ex.v),.sl b5 (f.map Fo.v),.sl b6 (b.map Sm.v)]]) (by rw[hy];exact qmK (De.mk c.kind o t c.names e f b) S)
 generalize hyy:De.mk c.kind o t c.names e f b=y at hy h135;simp only[qiv]
 cases ok with
 | false=>
  simp[g1,g3,g5,ldS,dend,qbj,qbw];exact qaa rfl (by rw[hr];rfl) rfl
 | true=>
  simp[g1,g3,g5,ldS];refine qba (qlW c.names hO.names.1 _) ?_
  cases hn:allQ c.names qab with
  | false=>
   unfold allQ at hn;simp[g1,g3,g5,ldS,dend,qbj,qbw];exact qaa rfl (by rw[hr,hn];rfl) rfl
  | true=>
   unfold allQ at hn;simp[g1,ldS];refine qba (qmK c _) ?_;simp[g3,ldS,qah];refine qba (h135 _) ?_;simp;refine qba (qgA 2 2 Sm.z Sm.z c y El.z El.z Ex.z Ex.z Ex.z_ok hs _) ?_;simp[dend,qbj,qbw,g3,ldS,qah];refine qaa rfl ?_ rfl;rw[hr,hn];simp only[retV,V.bool.injEq,qvN];rw[quA,decide_eq_true_eq,qtI,←hyy];rw[qt3,qt3,qt3,qt3,decide_eq_true_eq,decide_eq_true_eq,decide_eq_true_eq,decide_eq_true_eq,decide_eq_true_eq];unfold EqD;constructor
   ·rintro ⟨h1,⟨h2,h3⟩,_,h4,h5,_⟩;exact ⟨⟨⟨⟨h1,h2⟩,h3⟩,h4⟩,h5⟩
   ·rintro ⟨⟨⟨⟨h1,h2⟩,h3⟩,h4⟩,h5⟩;exact ⟨h1,⟨h2,h3⟩,rfl,h4,h5,rfl⟩
theorem qrH(e:El):∀S,Fn prog 191 [e.v] S (.bool e.vOwn):=by
 refine Pu.ib func191 ok191 (by simp[c191]) (by simp[V.under]) rfl ?_;unfold El.vOwn;by_cases h1:e.kind=1
 ·by_cases hl:(e.exps.length:Int)=1
  ·simp[c191,boxS,ldS,h1,hl];exact qaa rfl (by simp[retV];omega) rfl
  ·simp[c191,boxS,ldS,h1,hl];exact qaa rfl (by simp[retV];omega) rfl
 by_cases h2:e.kind=2
 ·by_cases hl:(e.exps.length:Int)=3
  ·simp[c191,boxS,ldS,h2,hl];exact qaa rfl (by simp[retV];omega) rfl
  ·simp[c191,boxS,ldS,h2,hl];exact qaa rfl (by simp[retV];omega) rfl
 by_cases h3:e.kind=3
 ·simp[c191,boxS,ldS,h3];exact qaa rfl (by simp[retV];omega) rfl
 simp[c191,boxS,ldS,h1,h2,h3];exact qaa rfl rfl rfl
theorem qmt(s:Sm)(hs:s.ok)(hk:s.kind=1):∀S,Fn prog 189 [s.v] S (.bool (s.vOwn qab)):=by
 refine Pu.ib func189 ok189 (by simp[c189]) (by simp[V.under]) rfl ?_;have hO:=(Sm.ok_iff s).1 hs;have hv:=Sm.vOwn_1 qab s hk;simp only[qaT,qa6,qa7,qa4,qa8] at hv;have hnt:=qap s.text;generalize s.vOwn qab=r at hv ⊢;simp only[c189,←qbB];simp[boxS,ldS,stS,qac,qah,qal,qaf,hk]
 exact qaC s hs true ⟨⟨[]⟩⟩ true true true true true [] [] [] [] [] r _ _ (by simp) (by simp) (by simp) (by simp[hk]) (by
  rw[hv];by_cases ht0:s.targets.length=0
  ·rw[qbz Ex.tgt ht0];simp[hnt,true_and] <;> simp only[qui,quk,qua]
  ·simp[hnt,show ¬ s.targets=[] from fun h=>ht0 (by rw[h];rfl),true_and])
theorem qmi(s:Sm)(hs:s.ok)(hk:s.kind=2):∀S,Fn prog 189 [s.v] S (.bool (s.vOwn qab)):=by
 refine Pu.ib func189 ok189 (by simp[c189]) (by simp[V.under]) rfl ?_;have hO:=(Sm.ok_iff s).1 hs;have hv:=Sm.vOwn_2 qab s hk;simp only[qaT,qa6,qa7,qa4,qa8] at hv;have hnt:=qap s.text;generalize s.vOwn qab=r at hv ⊢;simp only[c189,←qbB];simp[boxS,ldS,stS,qac,qah,qal,qaf,hk];refine qai (qmq s.targets hO.targets.1 _) ?_;cases d1:allQ s.targets Ex.tgt && decide (0<s.targets.length)
 case false=>
  simp[boxS,ldS,stS,qac,qah,qal,qaf]
  exact qaC s hs false ⟨⟨[]⟩⟩ false false true true true s.targets s.exps [] [] [] r _ _ (by simp) (by simp) (by simp) (by simp[hk]) (by
   rw[hv];rw[qvs] at d1;rcases d1 with d1|d1
   ·unfold allQ at d1;simp[d1]
   ·have:s.targets.length=0:=by have:=of_decide_eq_false d1;omega
    simp[this])
 rw[qt3,decide_eq_true_eq] at d1;obtain ⟨da,db⟩:=d1;unfold allQ at da;by_cases d2:s.exps.length=1
 case neg=>
  simp[boxS,ldS,stS,qac,qah,qal,qaf,show ¬ ((s.exps.length:Int)=1) by omega]
  exact qaC s hs false ⟨⟨[]⟩⟩ false false true true true s.targets s.exps [] [] [] r _ _ (by simp) (by simp) (by simp) (by simp[hk]) (by
   rw[hv];simp[hnt,da,db,show ¬ s.targets=[] from fun h=>by rw[h] at db;simp at db,show 1≤s.targets.length from db,d2,not_false_eq_true,true_and] <;> simp only[qui,quk,qua];)
 simp[boxS,ldS,stS,qac,qah,qal,qaf,show (s.exps.length:Int)=1 by omega]
 exact qaC s hs true ⟨⟨[]⟩⟩ false false true true true s.targets s.exps [] [] [] r _ _ (by simp) (by simp) (by simp) (by simp[hk]) (by
  rw[hv];simp[hnt,da,db,show ¬ s.targets=[] from fun h=>by rw[h] at db;simp at db,show 1≤s.targets.length from db,d2,true_and] <;> simp only[qui,quk,qua];)
theorem qnv(s:Sm)(hs:s.ok)(hk:s.kind=3):∀S,Fn prog 189 [s.v] S (.bool (s.vOwn qab)):=by
 refine Pu.ib func189 ok189 (by simp[c189]) (by simp[V.under]) rfl ?_;have hO:=(Sm.ok_iff s).1 hs;have hv:=Sm.vOwn_3 qab s hk;simp only[qaT,qa6,qa7,qa4,qa8] at hv;have hnt:=qap s.text;generalize s.vOwn qab=r at hv ⊢;simp only[c189,←qbB];by_cases d1:s.exps.length=1
 case neg=>
  simp[boxS,ldS,stS,qac,qah,qal,qaf,hk,show ¬ ((s.exps.length:Int)=1) by omega]
  exact qaC s hs false ⟨⟨[]⟩⟩ true false true true true [] s.exps [] [] [] r _ _ (by simp) (by simp) (by simp) (by simp[hk]) (by
   rw[hv];by_cases ht0:s.targets.length=0
   ·rw[qbz Ex.tgt ht0];simp[hnt,d1,not_false_eq_true,true_and] <;> simp only[qui,quk,qua]
   ·simp[hnt,show ¬ s.targets=[] from fun h=>ht0 (by rw[h];rfl),d1,not_false_eq_true,true_and])
 simp[boxS,ldS,stS,qac,qah,qal,qaf,hk,show (s.exps.length:Int)=1 by omega]
 exact qaC s hs true ⟨⟨[]⟩⟩ true false true true true [] s.exps [] [] [] r _ _ (by simp) (by simp) (by simp) (by simp[hk]) (by
  rw[hv];by_cases ht0:s.targets.length=0
  ·rw[qbz Ex.tgt ht0];simp[hnt,d1,true_and] <;> simp only[qui,quk,qua]
  ·simp[hnt,show ¬ s.targets=[] from fun h=>ht0 (by rw[h];rfl),d1,true_and])
theorem qkZ(s:Sm)(hs:s.ok)(hk:s.kind=4):∀S,Fn prog 189 [s.v] S (.bool (s.vOwn qab)):=by
 refine Pu.ib func189 ok189 (by simp[c189]) (by simp[V.under]) rfl ?_;have hO:=(Sm.ok_iff s).1 hs;have hv:=Sm.vOwn_4 qab s hk;simp only[qaT,qa6,qa7,qa4,qa8] at hv;have hnt:=qap s.text;generalize s.vOwn qab=r at hv ⊢;simp only[c189,←qbB];by_cases d1:s.exps.length=1
 case neg=>
  simp[boxS,ldS,stS,qac,qah,qal,qaf,hk,show ¬ ((s.exps.length:Int)=1) by omega]
  exact qaC s hs false ⟨⟨[]⟩⟩ true false true true false [] s.exps [] [] s.body r _ _ (by simp) (by simp) (by simp) (by simp[hk]) (by
   rw[hv];by_cases ht0:s.targets.length=0
   ·rw[qbz Ex.tgt ht0];simp[hnt,d1,not_false_eq_true,true_and] <;> simp only[qui,quk,qua]
   ·simp[hnt,show ¬ s.targets=[] from fun h=>ht0 (by rw[h];rfl),d1,not_false_eq_true,true_and])
 by_cases d2:1≤s.body.length
 case neg=>
  simp[boxS,ldS,stS,qac,qah,qal,qaf,hk,show (s.exps.length:Int)=1 by omega,show ¬ ((1:Int)≤(s.body.length:Int)) by omega]
  exact qaC s hs false ⟨⟨[]⟩⟩ true false true true false [] s.exps [] [] s.body r _ _ (by simp) (by simp) (by simp) (by simp[hk]) (by
   rw[hv];by_cases ht0:s.targets.length=0
   ·rw[qbz Ex.tgt ht0];simp[hnt,d1,d2,not_false_eq_true,true_and] <;> simp only[qui,quk,qua]
   ·simp[hnt,show ¬ s.targets=[] from fun h=>ht0 (by rw[h];rfl),d1,d2,not_false_eq_true,true_and])
 by_cases d3:s.body.length≤2
 case neg=>
  simp[boxS,ldS,stS,qac,qah,qal,qaf,hk,show (s.exps.length:Int)=1 by omega,show (1:Int)≤(s.body.length:Int) by omega,show ¬ ((s.body.length:Int)≤2) by omega]
  exact qaC s hs false ⟨⟨[]⟩⟩ true false true true false [] s.exps [] [] s.body r _ _ (by simp) (by simp) (by simp) (by simp[hk]) (by
   rw[hv];by_cases ht0:s.targets.length=0
   ·rw[qbz Ex.tgt ht0];simp[hnt,d1,d2,d3,not_false_eq_true,true_and] <;> simp only[qui,quk,qua]
   ·simp[hnt,show ¬ s.targets=[] from fun h=>ht0 (by rw[h];rfl),d1,d2,d3,not_false_eq_true,true_and])
 have hb0:0<s.body.length:=by omega
 have hno:=qny hb0;by_cases d4:s.body[0].kind=4
 case pos=>
  simp[boxS,ldS,stS,qac,qah,qal,qaf,hk,show (s.exps.length:Int)=1 by omega,show (1:Int)≤(s.body.length:Int) by omega,show (s.body.length:Int)≤2 by omega,qj6 hb0,d4]
  exact qaC s hs false ⟨⟨[]⟩⟩ true false true true false [] s.exps [] [] s.body r _ _ (by simp) (by simp) (by simp) (by simp[hk]) (by
   rw[hv];by_cases ht0:s.targets.length=0
   ·rw[qbz Ex.tgt ht0];simp[hnt,d1,d2,d3,hno,d4,true_and] <;> simp only[qui,quk,qua]
   ·simp[hnt,show ¬ s.targets=[] from fun h=>ht0 (by rw[h];rfl),d1,d2,d3,hno,d4,true_and])
 by_cases d5:s.body[0].kind=5
 case pos=>
  simp[boxS,ldS,stS,qac,qah,qal,qaf,hk,show (s.exps.length:Int)=1 by omega,show (1:Int)≤(s.body.length:Int) by omega,show (s.body.length:Int)≤2 by omega,qj6 hb0,d4,d5]
  exact qaC s hs false ⟨⟨[]⟩⟩ true false true true false [] s.exps [] [] s.body r _ _ (by simp) (by simp) (by simp) (by simp[hk]) (by
   rw[hv];by_cases ht0:s.targets.length=0
   ·rw[qbz Ex.tgt ht0];simp[hnt,d1,d2,d3,d4,hno,hno,d5,true_and] <;> simp only[qui,quk,qua]
   ·simp[hnt,show ¬ s.targets=[] from fun h=>ht0 (by rw[h];rfl),d1,d2,d3,d4,hno,hno,d5,true_and])
 simp[boxS,ldS,stS,qac,qah,qal,qaf,hk,show (s.exps.length:Int)=1 by omega,show (1:Int)≤(s.body.length:Int) by omega,show (s.body.length:Int)≤2 by omega,qj6 hb0,d4,d5]
 exact qaC s hs true ⟨⟨[]⟩⟩ true false true true false [] s.exps [] [] s.body r _ _ (by simp) (by simp) (by simp) (by simp[hk]) (by
  rw[hv];by_cases ht0:s.targets.length=0
  ·rw[qbz Ex.tgt ht0];simp[hnt,d1,d2,d3,d4,hno,d5,true_and] <;> simp only[qui,quk,qua]
  ·simp[hnt,show ¬ s.targets=[] from fun h=>ht0 (by rw[h];rfl),d1,d2,d3,d4,hno,d5,true_and])
theorem qmu(s:Sm)(hs:s.ok)(hk:s.kind=5):∀S,Fn prog 189 [s.v] S (.bool (s.vOwn qab)):=by
 refine Pu.ib func189 ok189 (by simp[c189]) (by simp[V.under]) rfl ?_;have hO:=(Sm.ok_iff s).1 hs;have hv:=Sm.vOwn_5 qab s hk;simp only[qaT,qa6,qa7,qa4,qa8] at hv;have hnt:=qap s.text;generalize s.vOwn qab=r at hv ⊢;simp only[c189,←qbB];simp[boxS,ldS,stS,qac,qah,qal,qaf,hk];refine qai (qmq s.targets hO.targets.1 _) ?_;cases d1:allQ s.targets Ex.tgt && decide (0<s.targets.length)
 case false=>
  simp[boxS,ldS,stS,qac,qah,qal,qaf]
  exact qaC s hs false ⟨⟨[]⟩⟩ false true false true false s.targets [] s.elems [] s.body r _ _ (by simp) (by simp) (by simp) (by simp[hk]) (by
   rw[hv];rw[qvs] at d1;rcases d1 with d1|d1
   ·unfold allQ at d1;simp[d1]
   ·have:s.targets.length=0:=by have:=of_decide_eq_false d1;omega
    simp[this])
 rw[qt3,decide_eq_true_eq] at d1;obtain ⟨da,db⟩:=d1;unfold allQ at da;by_cases d2:s.targets.length=1
 case neg=>
  simp[boxS,ldS,stS,qac,qah,qal,qaf,show ¬ ((s.targets.length:Int)=1) by omega]
  exact qaC s hs false ⟨⟨[]⟩⟩ false true false true false s.targets [] s.elems [] s.body r _ _ (by simp) (by simp) (by simp) (by simp[hk]) (by
   rw[hv];simp[hnt,da,db,show ¬ s.targets=[] from fun h=>by rw[h] at db;simp at db,show 1≤s.targets.length from db,d2,not_false_eq_true,true_and] <;> simp only[qui,quk,qua];)
 by_cases d3:1≤s.elems.length
 case neg=>
  simp[boxS,ldS,stS,qac,qah,qal,qaf,show (s.targets.length:Int)=1 by omega,show ¬ ((1:Int)≤(s.elems.length:Int)) by omega]
  exact qaC s hs false ⟨⟨[]⟩⟩ false true false true false s.targets [] s.elems [] s.body r _ _ (by simp) (by simp) (by simp) (by simp[hk]) (by
   rw[hv];simp[hnt,da,db,show ¬ s.targets=[] from fun h=>by rw[h] at db;simp at db,show 1≤s.targets.length from db,d2,d3,not_false_eq_true,true_and] <;> simp only[qui,quk,qua];)
 by_cases d4:s.body.length=1
 case neg=>
  simp[boxS,ldS,stS,qac,qah,qal,qaf,show (s.targets.length:Int)=1 by omega,show (1:Int)≤(s.elems.length:Int) by omega,show ¬ ((s.body.length:Int)=1) by omega]
  exact qaC s hs false ⟨⟨[]⟩⟩ false true false true false s.targets [] s.elems [] s.body r _ _ (by simp) (by simp) (by simp) (by simp[hk]) (by
   rw[hv];simp[hnt,da,db,show ¬ s.targets=[] from fun h=>by rw[h] at db;simp at db,show 1≤s.targets.length from db,d2,d3,d4,not_false_eq_true,true_and] <;> simp only[qui,quk,qua];)
 simp[boxS,ldS,stS,qac,qah,qal,qaf,show (s.targets.length:Int)=1 by omega,show (1:Int)≤(s.elems.length:Int) by omega,show (s.body.length:Int)=1 by omega]
 exact qaC s hs true ⟨⟨[]⟩⟩ false true false true false s.targets [] s.elems [] s.body r _ _ (by simp) (by simp) (by simp) (by simp[hk]) (by
  rw[hv];simp[hnt,da,db,show ¬ s.targets=[] from fun h=>by rw[h] at db;simp at db,show 1≤s.targets.length from db,d2,d3,d4,true_and] <;> simp only[qui,quk,qua];)
theorem ql5(s:Sm)(hs:s.ok)(hk:s.kind=6):∀S,Fn prog 189 [s.v] S (.bool (s.vOwn qab)):=by
 refine Pu.ib func189 ok189 (by simp[c189]) (by simp[V.under]) rfl ?_;have hO:=(Sm.ok_iff s).1 hs;have hv:=Sm.vOwn_6 qab s hk;simp only[qaT,qa6,qa7,qa4,qa8] at hv;have hnt:=qap s.text;generalize s.vOwn qab=r at hv ⊢;simp only[c189,←qbB];simp[boxS,ldS,stS,qac,qah,qal,qaf,hk];refine qai (qch s.text _) ?_;cases d1:qab s.text
 case false=>
  simp[boxS,ldS,stS,qac,qah,qal,qaf]
  exact qaC s hs false s.text true false true true true [] s.exps [] [] [] r _ _ (by simp) (by simp) (by simp) (by simp[hk]) (by
   rw[hv];by_cases ht0:s.targets.length=0
   ·rw[qbz Ex.tgt ht0];simp[hnt,d1,true_and] <;> simp only[qui,quk,qua]
   ·simp[hnt,show ¬ s.targets=[] from fun h=>ht0 (by rw[h];rfl),d1,true_and])
 by_cases d2:s.exps.length≤8
 case neg=>
  simp[boxS,ldS,stS,qac,qah,qal,qaf,show ¬ ((s.exps.length:Int)≤8) by omega]
  exact qaC s hs false s.text true false true true true [] s.exps [] [] [] r _ _ (by simp) (by simp) (by simp) (by simp[hk]) (by
   rw[hv];by_cases ht0:s.targets.length=0
   ·rw[qbz Ex.tgt ht0];simp[hnt,d1,d2,not_false_eq_true,true_and] <;> simp only[qui,quk,qua]
   ·simp[hnt,show ¬ s.targets=[] from fun h=>ht0 (by rw[h];rfl),d1,d2,not_false_eq_true,true_and])
 simp[boxS,ldS,stS,qac,qah,qal,qaf,show (s.exps.length:Int)≤8 by omega]
 exact qaC s hs true s.text true false true true true [] s.exps [] [] [] r _ _ (by simp) (by simp) (by simp) (by simp[hk]) (by
  rw[hv];by_cases ht0:s.targets.length=0
  ·rw[qbz Ex.tgt ht0];simp[hnt,d1,d2,true_and] <;> simp only[qui,quk,qua]
  ·simp[hnt,show ¬ s.targets=[] from fun h=>ht0 (by rw[h];rfl),d1,d2,true_and])
theorem qk6(s:Sm)(hs:s.ok)(hk:s.kind=7):∀S,Fn prog 189 [s.v] S (.bool (s.vOwn qab)):=by
 refine Pu.ib func189 ok189 (by simp[c189]) (by simp[V.under]) rfl ?_;have hO:=(Sm.ok_iff s).1 hs;have hv:=Sm.vOwn_7 qab s hk;simp only[qaT,qa6,qa7,qa4,qa8] at hv;have hnt:=qap s.text;generalize s.vOwn qab=r at hv ⊢;simp only[c189,←qbB];by_cases d1:1≤s.decls.length
 case neg=>
  simp[boxS,ldS,stS,qac,qah,qal,qaf,hk,show ¬ ((1:Int)≤(s.decls.length:Int)) by omega]
  exact qaC s hs false ⟨⟨[]⟩⟩ true true true false false [] [] [] s.decls s.body r _ _ (by simp) (by simp) (by simp) (by simp[hk]) (by
   rw[hv];by_cases ht0:s.targets.length=0
   ·rw[qbz Ex.tgt ht0];simp[hnt,d1,not_false_eq_true,true_and] <;> simp only[qui,quk,qua]
   ·simp[hnt,show ¬ s.targets=[] from fun h=>ht0 (by rw[h];rfl),d1,not_false_eq_true,true_and])
 by_cases d2:1≤s.body.length
 case neg=>
  simp[boxS,ldS,stS,qac,qah,qal,qaf,hk,show (1:Int)≤(s.decls.length:Int) by omega,show ¬ ((1:Int)≤(s.body.length:Int)) by omega]
  exact qaC s hs false ⟨⟨[]⟩⟩ true true true false false [] [] [] s.decls s.body r _ _ (by simp) (by simp) (by simp) (by simp[hk]) (by
   rw[hv];by_cases ht0:s.targets.length=0
   ·rw[qbz Ex.tgt ht0];simp[hnt,d1,d2,not_false_eq_true,true_and] <;> simp only[qui,quk,qua]
   ·simp[hnt,show ¬ s.targets=[] from fun h=>ht0 (by rw[h];rfl),d1,d2,not_false_eq_true,true_and])
 simp[boxS,ldS,stS,qac,qah,qal,qaf,hk,show (1:Int)≤(s.decls.length:Int) by omega,show (1:Int)≤(s.body.length:Int) by omega]
 exact qaC s hs true ⟨⟨[]⟩⟩ true true true false false [] [] [] s.decls s.body r _ _ (by simp) (by simp) (by simp) (by simp[hk]) (by
  rw[hv];by_cases ht0:s.targets.length=0
  ·rw[qbz Ex.tgt ht0];simp[hnt,d1,d2,true_and] <;> simp only[qui,quk,qua]
  ·simp[hnt,show ¬ s.targets=[] from fun h=>ht0 (by rw[h];rfl),d1,d2,true_and])
theorem qlV(s:Sm)(hs:s.ok)(hk:s.kind=8):∀S,Fn prog 189 [s.v] S (.bool (s.vOwn qab)):=by
 refine Pu.ib func189 ok189 (by simp[c189]) (by simp[V.under]) rfl ?_;have hO:=(Sm.ok_iff s).1 hs;have hv:=Sm.vOwn_8 qab s hk;simp only[qaT,qa6,qa7,qa4,qa8] at hv;have hnt:=qap s.text;generalize s.vOwn qab=r at hv ⊢;simp only[c189,←qbB];by_cases d1:1≤s.body.length
 case neg=>
  simp[boxS,ldS,stS,qac,qah,qal,qaf,hk,show ¬ ((1:Int)≤(s.body.length:Int)) by omega]
  exact qaC s hs false ⟨⟨[]⟩⟩ true true true true false [] [] [] [] s.body r _ _ (by simp) (by simp) (by simp) (by simp[hk]) (by
   rw[hv];by_cases ht0:s.targets.length=0
   ·rw[qbz Ex.tgt ht0];simp[hnt,d1,not_false_eq_true,true_and] <;> simp only[qui,quk,qua]
   ·simp[hnt,show ¬ s.targets=[] from fun h=>ht0 (by rw[h];rfl),d1,not_false_eq_true,true_and])
 simp[boxS,ldS,stS,qac,qah,qal,qaf,hk,show (1:Int)≤(s.body.length:Int) by omega]
 exact qaC s hs true ⟨⟨[]⟩⟩ true true true true false [] [] [] [] s.body r _ _ (by simp) (by simp) (by simp) (by simp[hk]) (by
  rw[hv];by_cases ht0:s.targets.length=0
  ·rw[qbz Ex.tgt ht0];simp[hnt,d1,true_and] <;> simp only[qui,quk,qua]
  ·simp[hnt,show ¬ s.targets=[] from fun h=>ht0 (by rw[h];rfl),d1,true_and])
theorem qj5(s:Sm)(hs:s.ok)(h:¬ (1≤s.kind∧s.kind≤8)):∀S,Fn prog 189 [s.v] S (.bool (s.vOwn qab)):=by
 refine Pu.ib func189 ok189 (by simp[c189]) (by simp[V.under]) rfl ?_;have hO:=(Sm.ok_iff s).1 hs;have hv:=Sm.vOwn_no qab s h;have hnt:=qap s.text;generalize s.vOwn qab=r at hv ⊢;simp only[c189,←qbB];simp[boxS,ldS,stS,qac,qah,qal,qaf,show ¬ s.kind=1 by omega,show ¬ s.kind=2 by omega,show ¬ s.kind=3 by omega,show ¬ s.kind=4 by omega,show ¬ s.kind=5 by omega,show ¬ s.kind=6 by omega,show ¬ s.kind=7 by omega,show ¬ s.kind=8 by omega];exact qaC s hs false ⟨⟨[]⟩⟩ true true true true true [] [] [] [] [] r _ _ (by simp) (by simp) (by simp) (by simp) (by rw[hv];rfl)
theorem qr0(s:Sm)(hs:s.ok):∀S,Fn prog 189 [s.v] S (.bool (s.vOwn qab)):=by
 by_cases h1:s.kind=1
 ·exact qmt s hs h1
 by_cases h2:s.kind=2
 ·exact qmi s hs h2
 by_cases h3:s.kind=3
 ·exact qnv s hs h3
 by_cases h4:s.kind=4
 ·exact qkZ s hs h4
 by_cases h5:s.kind=5
 ·exact qmu s hs h5
 by_cases h6:s.kind=6
 ·exact ql5 s hs h6
 by_cases h7:s.kind=7
 ·exact qk6 s hs h7
 by_cases h8:s.kind=8
 ·exact qlV s hs h8
 exact qj5 s hs (by omega)
theorem qnp(d:De)(hs:d.ok)(hk:d.kind=1):∀S,Fn prog 190 [d.v] S (.bool (d.vOwn qab)):=by
 refine Pu.ib func190 ok190 (by simp[c190]) (by simp[V.under]) rfl ?_;have hO:=(De.ok_iff d).1 hs;have hv:=De.vOwn_1 qab d hk;simp only[qaT,qa6,qa7,qa4,qa8,qbD] at hv;generalize d.vOwn qab=r at hv ⊢;simp only[c190,←qcH];simp[boxS,ldS,stS,qac,qah,qal,qaf,hk];refine qai (qey _ _ _ _) ?_;by_cases d1:1≤d.type∧d.type≤3
 case neg=>
  rw[qaG d1];simp[boxS,ldS,stS,qac,qah,qal,qaf]
  exact qaN d hs false d.own d.type true true true [] [] [] r _ _ (by simp) (by simp) (by simp) (by simp[hk]) (by
   rw[hv];simp[d1,true_and] <;> simp only[qui,quk,qua])
 rw[qaJ d1];by_cases d2:1≤d.names.length
 case neg=>
  simp[boxS,ldS,stS,qac,qah,qal,qaf,show ¬ ((1:Int)≤(d.names.length:Int)) by omega]
  exact qaN d hs false d.own d.type true true true [] [] [] r _ _ (by simp) (by simp) (by simp) (by simp[hk]) (by
   rw[hv];simp[d1,d2,not_false_eq_true,true_and] <;> simp only[qui,quk,qua])
 simp[boxS,ldS,stS,qac,qah,qal,qaf,show (1:Int)≤(d.names.length:Int) by omega]
 exact qaN d hs true d.own d.type true true true [] [] [] r _ _ (by simp) (by simp) (by simp) (by simp[hk]) (by
  rw[hv];simp[d1,d2,true_and] <;> simp only[qui,quk,qua])
theorem qlY(d:De)(hs:d.ok)(hk:d.kind=2):∀S,Fn prog 190 [d.v] S (.bool (d.vOwn qab)):=by
 refine Pu.ib func190 ok190 (by simp[c190]) (by simp[V.under]) rfl ?_;have hO:=(De.ok_iff d).1 hs;have hv:=De.vOwn_2 qab d hk;simp only[qaT,qa6,qa7,qa4,qa8,qbD] at hv;generalize d.vOwn qab=r at hv ⊢;simp only[c190,←qcH];simp[boxS,ldS,stS,qac,qah,qal,qaf,hk];refine qai (qey _ _ _ _) ?_;by_cases d1:1≤d.type∧d.type≤3
 case neg=>
  rw[qaG d1];simp[boxS,ldS,stS,qac,qah,qal,qaf]
  exact qaN d hs false d.own d.type false true true d.exps [] [] r _ _ (by simp) (by simp) (by simp) (by simp[hk]) (by
   rw[hv];simp[d1,true_and] <;> simp only[qui,quk,qua])
 rw[qaJ d1];by_cases d2:1≤d.names.length
 case neg=>
  simp[boxS,ldS,stS,qac,qah,qal,qaf,show ¬ ((1:Int)≤(d.names.length:Int)) by omega]
  exact qaN d hs false d.own d.type false true true d.exps [] [] r _ _ (by simp) (by simp) (by simp) (by simp[hk]) (by
   rw[hv];simp[d1,d2,not_false_eq_true,true_and] <;> simp only[qui,quk,qua])
 by_cases d3:2≤d.exps.length
 case neg=>
  simp[boxS,ldS,stS,qac,qah,qal,qaf,show (1:Int)≤(d.names.length:Int) by omega,show ¬ ((2:Int)≤(d.exps.length:Int)) by omega]
  exact qaN d hs false d.own d.type false true true d.exps [] [] r _ _ (by simp) (by simp) (by simp) (by simp[hk]) (by
   rw[hv];simp[d1,d2,d3,not_false_eq_true,true_and] <;> simp only[qui,quk,qua])
 have hmod:=modI d.exps.length;by_cases d4:d.exps.length % 2=0
 case neg=>
  simp[boxS,ldS,stS,qac,qah,qal,qaf,hmod,show (1:Int)≤(d.names.length:Int) by omega,show (2:Int)≤(d.exps.length:Int) by omega,show ¬ ((d.exps.length:Int) % 2=0) by omega]
  exact qaN d hs false d.own d.type false true true d.exps [] [] r _ _ (by simp) (by simp) (by simp) (by simp[hk]) (by
   rw[hv];simp[d1,d2,d3,d4,true_and] <;> simp only[qui,quk,qua])
 by_cases d5:d.exps.length≤8
 case neg=>
  simp[boxS,ldS,stS,qac,qah,qal,qaf,show (1:Int)≤(d.names.length:Int) by omega,show (2:Int)≤(d.exps.length:Int) by omega,hmod,show (d.exps.length:Int) % 2=0 by omega,show ¬ ((d.exps.length:Int)≤8) by omega]
  exact qaN d hs false d.own d.type false true true d.exps [] [] r _ _ (by simp) (by simp) (by simp) (by simp[hk]) (by
   rw[hv];simp[d1,d2,d3,d4,d5,not_false_eq_true,true_and] <;> simp only[qui,quk,qua])
 simp[boxS,ldS,stS,qac,qah,qal,qaf,show (1:Int)≤(d.names.length:Int) by omega,show (2:Int)≤(d.exps.length:Int) by omega,hmod,show (d.exps.length:Int) % 2=0 by omega,show (d.exps.length:Int)≤8 by omega]
 exact qaN d hs true d.own d.type false true true d.exps [] [] r _ _ (by simp) (by simp) (by simp) (by simp[hk]) (by
  rw[hv];simp[d1,d2,d3,d4,d5,true_and] <;> simp only[qui,quk,qua])
theorem qm4(d:De)(hs:d.ok)(hk:d.kind=3):∀S,Fn prog 190 [d.v] S (.bool (d.vOwn qab)):=by
 refine Pu.ib func190 ok190 (by simp[c190]) (by simp[V.under]) rfl ?_;have hO:=(De.ok_iff d).1 hs;have hv:=De.vOwn_3 qab d hk;simp only[qaT,qa6,qa7,qa4,qa8,qbD] at hv;generalize d.vOwn qab=r at hv ⊢;simp only[c190,←qcH];by_cases d1:d.names.length=1
 case neg=>
  simp[boxS,ldS,stS,qac,qah,qal,qaf,hk,show ¬ ((d.names.length:Int)=1) by omega]
  exact qaN d hs false false 0 false true true d.exps [] [] r _ _ (by simp) (by simp) (by simp) (by simp[hk]) (by
   rw[hv];simp[d1,not_false_eq_true,true_and] <;> simp only[qui,quk,qua])
 by_cases d2:1≤d.exps.length
 case neg=>
  simp[boxS,ldS,stS,qac,qah,qal,qaf,hk,show (d.names.length:Int)=1 by omega,show ¬ ((1:Int)≤(d.exps.length:Int)) by omega]
  exact qaN d hs false false 0 false true true d.exps [] [] r _ _ (by simp) (by simp) (by simp) (by simp[hk]) (by
   rw[hv];simp[d1,d2,not_false_eq_true,true_and] <;> simp only[qui,quk,qua])
 simp[boxS,ldS,stS,qac,qah,qal,qaf,hk,show (d.names.length:Int)=1 by omega,show (1:Int)≤(d.exps.length:Int) by omega]
 exact qaN d hs true false 0 false true true d.exps [] [] r _ _ (by simp) (by simp) (by simp) (by simp[hk]) (by
  rw[hv];simp[d1,d2,true_and] <;> simp only[qui,quk,qua])
theorem qlw(d:De)(hs:d.ok)(hk:d.kind=4):∀S,Fn prog 190 [d.v] S (.bool (d.vOwn qab)):=by
 refine Pu.ib func190 ok190 (by simp[c190]) (by simp[V.under]) rfl ?_;have hO:=(De.ok_iff d).1 hs;have hv:=De.vOwn_4 qab d hk;simp only[qaT,qa6,qa7,qa4,qa8,qbD] at hv;generalize d.vOwn qab=r at hv ⊢;simp only[c190,←qcH];simp[boxS,ldS,stS,qac,qah,qal,qaf,hk];refine qai (qey _ _ _ _) ?_;by_cases d1:0≤d.type∧d.type≤3
 case neg=>
  rw[qaG d1];simp[boxS,ldS,stS,qac,qah,qal,qaf]
  exact qaN d hs false false d.type true false false [] d.formals d.body r _ _ (by simp) (by simp) (by simp) (by simp[hk]) (by
   rw[hv];simp[d1,true_and] <;> simp only[qui,quk,qua])
 rw[qaJ d1];by_cases d2:d.names.length=1
 case neg=>
  simp[boxS,ldS,stS,qac,qah,qal,qaf,show ¬ ((d.names.length:Int)=1) by omega]
  exact qaN d hs false false d.type true false false [] d.formals d.body r _ _ (by simp) (by simp) (by simp) (by simp[hk]) (by
   rw[hv];simp[d1,d2,not_false_eq_true,true_and] <;> simp only[qui,quk,qua])
 simp[boxS,ldS,stS,qac,qah,qal,qaf,show (d.names.length:Int)=1 by omega];refine qai (qrR d.formals hO.formals.1 _) ?_;cases d3:(qbE qab d.formals [] && decide (d.formals.length≤8))
 case false=>
  simp[boxS,ldS,stS,qac,qah,qal,qaf];rw[qvs] at d3;rcases d3 with d3|d3
  ·skip
   exact qaN d hs false false d.type true false false [] d.formals d.body r _ _ (by simp) (by simp) (by simp) (by simp[hk]) (by
    rw[hv];simp[d1,d2,d3,true_and] <;> simp only[qui,quk,qua])
  ·have hf8:¬ d.formals.length≤8:=of_decide_eq_false d3
   exact qaN d hs false false d.type true false false [] d.formals d.body r _ _ (by simp) (by simp) (by simp) (by simp[hk]) (by
    rw[hv];simp[d1,d2,hf8,true_and] <;> simp only[qui,quk,qua])
 rw[qt3,decide_eq_true_eq] at d3;obtain ⟨da,db⟩:=d3;by_cases d4:d.body.length=1
 case neg=>
  simp[boxS,ldS,stS,qac,qah,qal,qaf,show ¬ ((d.body.length:Int)=1) by omega]
  exact qaN d hs false false d.type true false false [] d.formals d.body r _ _ (by simp) (by simp) (by simp) (by simp[hk]) (by
   rw[hv];simp[d1,d2,da,db,d4,not_false_eq_true,true_and] <;> simp only[qui,quk,qua])
 simp[boxS,ldS,stS,qac,qah,qal,qaf,show (d.body.length:Int)=1 by omega]
 exact qaN d hs true false d.type true false false [] d.formals d.body r _ _ (by simp) (by simp) (by simp) (by simp[hk]) (by
  rw[hv];simp[d1,d2,da,db,d4,true_and] <;> simp only[qui,quk,qua])
theorem qkR(d:De)(hs:d.ok)(h:¬ (1≤d.kind∧d.kind≤4)):∀S,Fn prog 190 [d.v] S (.bool (d.vOwn qab)):=by
 refine Pu.ib func190 ok190 (by simp[c190]) (by simp[V.under]) rfl ?_;have hO:=(De.ok_iff d).1 hs;have hv:=De.vOwn_no qab d h;generalize d.vOwn qab=r at hv ⊢;simp only[c190,←qcH];simp[boxS,ldS,stS,qac,qah,qal,qaf,show ¬ d.kind=1 by omega,show ¬ d.kind=2 by omega,show ¬ d.kind=3 by omega,show ¬ d.kind=4 by omega];exact qaN d hs false false 0 true true true [] [] [] r _ _ (by simp) (by simp) (by simp) (by simp) (by rw[hv];rfl)
theorem qrV(d:De)(hs:d.ok):∀S,Fn prog 190 [d.v] S (.bool (d.vOwn qab)):=by
 by_cases h1:d.kind=1
 ·exact qnp d hs h1
 by_cases h2:d.kind=2
 ·exact qlY d hs h2
 by_cases h3:d.kind=3
 ·exact qm4 d hs h3
 by_cases h4:d.kind=4
 ·exact qlw d hs h4
 exact qkR d hs (by omega)
theorem qpW:∀(k:Nat) (p:Pa),p.wt≤k→p.ok→p.size≤2000→∀S,Fn prog 160 [p.v] S (.bool (p.valid qab)):=by
 intro k
 induction k with
 | zero=>intro p h;exfalso;cases p with
  | st s=>cases s;simp[Pa.wt] at h
  | de s=>cases s;simp[Pa.wt] at h
  | el s=>cases s;simp[Pa.wt] at h
  | ex s=>cases s;simp[Pa.wt] at h
 | succ k ih=>
  intro p hw hp hsz;refine Pu.ib func160 ok160 (by simp[c160]) (by simp) rfl ?_;have hs:=p.size_eq;have hlen:=qaP p.kids;have hown:=p.own_pos;have hve:=Pa.valid_eq qab p;generalize hr:p.valid qab=r at hve ⊢;have rest:∀(E:Env) (S:St),E.get 3=some (.bool (p.vOwn qab))→E.get 1=some (.ptr 0 0 0 1)→S[0]?=some (.arr [p.v] 25 1)→
    WP prog (match c160.body with|.seq _ (.seq _ (.seq _ b))=>b|x=>x) (endp [.t 2] 0 fun v U=>v=.bool r∧U=[]) E S:=by
   intro E S g3 g1 h0;simp[c160,g1,ldS,h0];refine qai (qfI p hp (by omega) _) ?_;simp;refine qaz (fun e U=>e.get 3=some (.bool r)) ?_ ?_;rotate_left
   ·rintro e U g;simp[g];exact qaa (vs:=[.bool r]) (by simp) rfl rfl
   refine qar (fun j e S'=>∃i:Nat,j=p.kids.length - i∧i≤p.kids.length∧
    e=[(5,.int .i64 i),(4,.sl false (p.kids.map Pa.v)),(3,.bool (p.vOwn qab && allQ (p.kids.take i) (Pa.valid qab)))]) p.kids.length _ ?_ ⟨0,by simp,by omega,rfl⟩ ?_
   ·have hz:allQ [] (Pa.valid qab)=true:=rfl
    repeat' first|exact Env.sub_nil _|refine Env.sub_cons (by simp[g3,hz]) ?_
   rintro j e S' ⟨i,rfl,hi,rfl⟩
   have hrest:p.vOwn qab=true→allQ (p.kids.take i) (Pa.valid qab)=false→r=false:=fun _ h=>by
    rw[hve];unfold allQ at h
    cases ha:p.kids.all (Pa.valid qab) with
    | false=>simp
    | true=>
     rw[quj] at ha;have:(p.kids.take i).all (Pa.valid qab)=true:=quj.2 fun q hq=>ha q (qvI hq)
     rw[this] at h;cases h
   by_cases h:i<p.kids.length
   ·cases ho:p.vOwn qab with
    | false=>
     simp[h];rw[hve,ho];rfl
    | true=>
     cases hq:allQ (p.kids.take i) (Pa.valid qab) with
     | false=>
      simp[h];rw[hrest ho hq]
     | true=>
      have hk:=Pa.kid_lt (qt7 h);have q2:=qaW (l:=p.kids) (i:=i) (q:=p.kids[i]) (by simp[h]);simp[h,iaPa];refine qai (ih p.kids[i] (by omega) (Pa.kid_ok hp (qt7 h)) (by omega) _) ?_;simp[qaL (n:=(i:Int)+1)];refine ⟨_,?_,_,?_,i+1,rfl,by omega,rfl⟩
      ·omega
      ·have ha:allQ (p.kids.take (i+1)) (Pa.valid qab)=p.kids[i].valid qab:=by
        unfold allQ at *;rw[qt9,qtX h,List.all_append,hq];simp
       exact Env.sub_cons (k:=5) (v:=.int .i64 (i+1:Nat)) (by simp) (Env.sub_cons (k:=4) (v:=.sl false (p.kids.map Pa.v)) (by simp) (Env.sub_cons (k:=3) (v:=.bool (true && allQ (p.kids.take (i+1)) (Pa.valid qab))) (by simp[ha]) (Env.sub_nil _)))
   ·have:i=p.kids.length:=by omega
    subst this;simp;rw[hve];unfold allQ;rfl
  cases p with
  | st s=>
   have hown':(Pa.st s).vOwn qab=s.vOwn qab:=rfl;simp only[c160,C'.k] at rest ⊢;refine qav (fun E U=>E.get 1=some (.ptr 0 0 0 1)∧U=[.arr [(Pa.st s).v] 25 1]) (by simp[boxS,qbr]) ?_;rintro E U ⟨g1,rfl⟩;refine qav (fun E U=>E.get 1=some (.ptr 0 0 0 1)∧E.get 3=some (.bool false)∧U=[.arr [(Pa.st s).v] 25 1]) (by simp[g1]) ?_;rintro E U ⟨g1,g3,rfl⟩;refine qav (fun E U=>E.get 1=some (.ptr 0 0 0 1)∧E.get 3=some (.bool ((Pa.st s).vOwn qab))∧U=[.arr [(Pa.st s).v] 25 1]) ?_ ?_
   ·simp only[Pa.v,Pa.kind,Pa.toS,Pa.toD,Pa.toE,Pa.toX];simp[g1,ldS];refine qai (qr0 s hp _) ?_;simp[g1,hown']
   rintro E U ⟨g1,g3,rfl⟩;exact rest E _ g3 g1 rfl
  | de d=>
   have hown':(Pa.de d).vOwn qab=d.vOwn qab:=rfl;simp only[c160,C'.k] at rest ⊢;refine qav (fun E U=>E.get 1=some (.ptr 0 0 0 1)∧U=[.arr [(Pa.de d).v] 25 1]) (by simp[boxS,qbr]) ?_;rintro E U ⟨g1,rfl⟩;refine qav (fun E U=>E.get 1=some (.ptr 0 0 0 1)∧E.get 3=some (.bool false)∧U=[.arr [(Pa.de d).v] 25 1]) (by simp[g1]) ?_;rintro E U ⟨g1,g3,rfl⟩;refine qav (fun E U=>E.get 1=some (.ptr 0 0 0 1)∧E.get 3=some (.bool ((Pa.de d).vOwn qab))∧U=[.arr [(Pa.de d).v] 25 1]) ?_ ?_
   ·simp only[Pa.v,Pa.kind,Pa.toS,Pa.toD,Pa.toE,Pa.toX];simp[g1,ldS];refine qai (qrV d hp _) ?_;simp[g1,hown']
   rintro E U ⟨g1,g3,rfl⟩;exact rest E _ g3 g1 rfl
  | el e=>
   have hown':(Pa.el e).vOwn qab=e.vOwn:=rfl;simp only[c160,C'.k] at rest ⊢;refine qav (fun E U=>E.get 1=some (.ptr 0 0 0 1)∧U=[.arr [(Pa.el e).v] 25 1]) (by simp[boxS,qbr]) ?_;rintro E U ⟨g1,rfl⟩;refine qav (fun E U=>E.get 1=some (.ptr 0 0 0 1)∧E.get 3=some (.bool false)∧U=[.arr [(Pa.el e).v] 25 1]) (by simp[g1]) ?_;rintro E U ⟨g1,g3,rfl⟩;refine qav (fun E U=>E.get 1=some (.ptr 0 0 0 1)∧E.get 3=some (.bool ((Pa.el e).vOwn qab))∧U=[.arr [(Pa.el e).v] 25 1]) ?_ ?_
   ·simp only[Pa.v,Pa.kind,Pa.toS,Pa.toD,Pa.toE,Pa.toX];simp[g1,ldS];refine qai (qrH e _) ?_;simp[g1,hown']
   rintro E U ⟨g1,g3,rfl⟩;exact rest E _ g3 g1 rfl
  | ex x=>
   have hown':(Pa.ex x).vOwn qab=x.vOwn qab:=rfl;simp only[c160,C'.k] at rest ⊢;refine qav (fun E U=>E.get 1=some (.ptr 0 0 0 1)∧U=[.arr [(Pa.ex x).v] 25 1]) (by simp[boxS,qbr]) ?_;rintro E U ⟨g1,rfl⟩;refine qav (fun E U=>E.get 1=some (.ptr 0 0 0 1)∧E.get 3=some (.bool false)∧U=[.arr [(Pa.ex x).v] 25 1]) (by simp[g1]) ?_;rintro E U ⟨g1,g3,rfl⟩;refine qav (fun E U=>E.get 1=some (.ptr 0 0 0 1)∧E.get 3=some (.bool ((Pa.ex x).vOwn qab))∧U=[.arr [(Pa.ex x).v] 25 1]) ?_ ?_
   ·simp only[Pa.v,Pa.kind,Pa.toS,Pa.toD,Pa.toE,Pa.toX];simp[g1,ldS];refine qai (qp5 x hp _) ?_;simp[g1,hown']
   rintro E U ⟨g1,g3,rfl⟩;exact rest E _ g3 g1 rfl
theorem qqi(p:Pa)(hp:p.ok):∀S,Fn prog 112 [p.v] S (.int .i64 (p.err qab)):=by
 refine Pu.ib func112 ok112 (by simp[c112]) (by simp) rfl ?_;simp[c112,boxS,ldS];refine qai (qih p hp _) ?_;unfold Pa.err;by_cases hf:p.fits
 ·simp[hf,ldS];refine qai (qpW _ p (qt1 _) hp hf.1 _) ?_
  cases hv:p.valid qab with
  | true=>
   simp;exact qaa rfl rfl rfl
  | false=>
   simp;exact qaa rfl rfl rfl
 ·simp[hf,ldS];exact qaa rfl rfl rfl
theorem qsS(s:Sm)(hs:s.ok):∀S,Fn prog 63 [s.v] S (.int .i64 ((Pa.st s).err qab)):=by
 refine Pu.ib func63 ok63 (by simp[c63]) (by simp[V.under]) rfl ?_;simp[c63,boxS,ldS];refine qai (qfH s _) ?_;simp;refine qai (qqi (.st s) hs _) ?_;simp;exact qaa rfl rfl rfl
theorem qsb(s:Sm)(hs:s.ok):∀S,Fn prog 20 [s.v] S (.int .i64 ((Pa.st s).err qab)):=by
 refine Pu.ib func20 ok20 (by simp[c20]) (by simp[V.under]) rfl ?_;simp[c20,boxS,ldS];refine qai (qsS s hs _) ?_;simp;exact qaa rfl rfl rfl
def Pa.eqOwn(a b:Pa):Prop:=EqP a.kind b.kind a.toS b.toS a.toD b.toD a.toE b.toE a.toX b.toX
theorem Pa.eqOwn_refl(a:Pa):a.eqOwn a:=⟨⟨rfl,rfl⟩,⟨⟨rfl,rfl,rfl,rfl,rfl⟩,rfl,rfl,rfl,rfl⟩,⟨rfl,rfl,rfl⟩,⟨rfl,rfl,rfl,rfl⟩,rfl,rfl,rfl,rfl,⟨rfl,rfl⟩,rfl⟩
theorem Pa.eqOwn_kids{a b:Pa}(h:a.eqOwn b):a.kids.length=b.kids.length:=by
 obtain ⟨⟨hk,_⟩,⟨⟨h1,h2,h3,h4,h5⟩,h6,h7,h8,h9⟩,_⟩:=h;rw[qdA,qdA];cases a <;> cases b <;> simp only[Pa.kind,Pa.toS,Pa.toD,Pa.toE,Pa.toX] at * <;> omega
theorem qb1{α β:Type}{f:α→β}(hf:∀x y,f x=f y→x=y):∀{l m:List α},l.map f=m.map f→l=m
 | [],[],_=>rfl
 | [],_::_,h=>by simp at h
 | _::_,[],h=>by simp at h
 | x::l,y::m,h=>by
  simp only[qud,List.cons.injEq] at h;rw[hf x y h.1,qb1 hf h.2]
theorem Pa.eq_of{a b:Pa}(h:a.eqOwn b)(hk:a.kids=b.kids):a=b:=by
 obtain ⟨⟨hk0,hf⟩,⟨⟨h1,h2,h3,h4,h5⟩,h6,h7,h8,h9⟩,⟨s1,s2,s3⟩,⟨d1,d2,d3,d4⟩,e1,x1,x2,x3,⟨x4,x5⟩,x6⟩:=h;have iX:∀x y,Pa.ex x=Pa.ex y→x=y:=fun x y h=>by cases h;rfl
 have iS:∀x y,Pa.st x=Pa.st y→x=y:=fun x y h=>by cases h;rfl
 have iE:∀x y,Pa.el x=Pa.el y→x=y:=fun x y h=>by cases h;rfl
 have iD:∀x y,Pa.de x=Pa.de y→x=y:=fun x y h=>by cases h;rfl
 cases a with
 | st s=>
  cases b with
  | st t=>
   simp only[Pa.kids,Pa.toS] at *;obtain ⟨k1,hk⟩:=List.append_inj hk (by simp[h1]);obtain ⟨k2,hk⟩:=List.append_inj hk (by simp[h2]);obtain ⟨k3,hk⟩:=List.append_inj hk (by simp[h3]);obtain ⟨k4,k5⟩:=List.append_inj hk (by simp[h4]);have k1:=qb1 iX k1;have k2:=qb1 iX k2;have k3:=qb1 iE k3;have k4:=qb1 iD k4;have k5:=qb1 iS k5;cases s;cases t;simp only[Sm.labels,Sm.kind,Sm.text,Sm.targets,Sm.exps,Sm.elems,Sm.decls,Sm.body] at *;subst k1 k2 k3 k4 k5 s1 s2 s3;rfl
  | _=>simp[Pa.kind] at hk0
 | de s=>
  cases b with
  | de t=>
   simp only[Pa.kids,Pa.toD] at *;obtain ⟨k1,k2⟩:=List.append_inj hk (by simp[h6]);have k1:=qb1 iX k1;have k2:=qb1 iS k2;cases s;cases t;simp only[De.names,De.kind,De.own,De.type,De.exps,De.formals,De.body] at *;subst k1 k2 d1 d2 d3 d4 hf;rfl
  | _=>simp[Pa.kind] at hk0
 | el s=>
  cases b with
  | el t=>
   simp only[Pa.kids,Pa.toE] at *;have k1:=qb1 iX hk;cases s;cases t;simp only at *;subst k1 e1;rfl
  | _=>simp[Pa.kind] at hk0
 | ex s=>
  cases b with
  | ex t=>
   simp only[Pa.kids,Pa.toX] at *;have k1:=qb1 iX hk;cases s;cases t;simp only[Ex.kind,Ex.op,Ex.n,Ex.man,Ex.exp,Ex.text,Ex.args] at *;subst k1 x1 x2 x3 x4 x5 x6;rfl
  | _=>simp[Pa.kind] at hk0
theorem Pa.toS_ok{p:Pa}(h:p.ok):p.toS.ok:=by cases p <;> first|exact h|exact Ex.z_ok
theorem Pa.toD_ok{p:Pa}(h:p.ok):p.toD.ok:=by cases p <;> first|exact h|exact De.z_ok
theorem qoz{l m:List Pa}(hl:l.length=m.length)(h:∀j,j<l.length→l[j]?=m[j]?):l=m:=by
 apply qu8;intro i;by_cases hi:i<l.length
 ·exact h i hi
 ·rw[quU (by omega),quU (by omega)]
def qsh(l m:List Pa)(i:Nat):Prop:=∀j,j<i→l[j]?=m[j]?
open Classical in
theorem qqc:∀(k:Nat) (a b:Pa),a.wt≤k→a.ok→b.ok→a.size≤2000→b.size≤2000→∀S,Fn prog 164 [a.v,b.v] S (.bool (decide (a=b))):=by
 intro k
 induction k with
 | zero=>intro p q h;exfalso;cases p with
  | st s=>cases s;simp[Pa.wt] at h
  | de s=>cases s;simp[Pa.wt] at h
  | el s=>cases s;simp[Pa.wt] at h
  | ex s=>cases s;simp[Pa.wt] at h
 | succ k ih=>
  intro a b hw ha hb hsa hsb;refine Pu.ib func164 ok164 (by simp[c164]) (by simp) rfl ?_;have la:=a.size_eq;have lb:=b.size_eq;have la':=qaP a.kids;have lb':=qaP b.kids;have oa:=a.own_pos;have ob:=b.own_pos;generalize hr:decide (a=b)=r;simp[c164,boxS,ldS];refine qai (qgA a.kind b.kind a.toS b.toS a.toD b.toD a.toE b.toE a.toX b.toX (Pa.toS_ok ha) (Pa.toD_ok ha) _) ?_;change qj1 prog _ _ _ _ (.bool (decide (a.eqOwn b))) _;by_cases he:a.eqOwn b
  case neg=>
   rw[decide_eq_false he];simp;refine qaa rfl ?_ rfl;rw[←hr,decide_eq_false (fun h=>he (by rw[h];exact Pa.eqOwn_refl b))];rfl
  rw[decide_eq_true he];have hkl:=Pa.eqOwn_kids he;simp[ldS];refine qai (qfI a ha (by omega) _) ?_;simp[ldS];refine qai (qfI b hb (by omega) _) ?_;simp;refine qar (fun j e S'=>∃i:Nat,j=a.kids.length - i∧i≤a.kids.length∧qsh a.kids b.kids i∧
   e=[(7,.int .i64 i),(5,.sl false (a.kids.map Pa.v)),(6,.sl false (b.kids.map Pa.v))]) a.kids.length _ ?_ ⟨0,by simp,by omega,fun j hj=>by omega,rfl⟩ ?_
  ·exact Env.so (by simp)
  rintro j e S' ⟨i,rfl,hi,hq,rfl⟩;by_cases h:i<a.kids.length
  ·have h':i<b.kids.length:=by omega
   have hk:=Pa.kid_lt (qt7 h);have q1:=qaW (l:=a.kids) (i:=i) (q:=a.kids[i]) (by simp[h]);have q2:=qaW (l:=b.kids) (i:=i) (q:=b.kids[i]) (by simp[h']);simp[h,h',iaPa];refine qba (ih a.kids[i] b.kids[i] (by omega) (Pa.kid_ok ha (qt7 h)) (Pa.kid_ok hb (qt7 h')) (by omega) (by omega) _) ?_;by_cases hx:a.kids[i]=b.kids[i]
   ·rw[decide_eq_true hx];simp[dend,qbj,qbw,qaL (n:=(i:Int)+1)];refine ⟨_,?_,_,?_,i+1,rfl,by omega,?_,rfl⟩
    ·omega
    ·exact Env.so (by simp)
    ·intro j hj;by_cases hji:j=i
     ·subst hji;simp[h,h',hx]
     ·exact hq j (by omega)
   ·rw[decide_eq_false hx];simp[dend,qbj,qbw];refine qaa rfl ?_ rfl;rw[←hr,decide_eq_false (fun hh=>hx (by subst hh;rfl))];rfl
  ·have:i=a.kids.length:=by omega
   subst this;simp;refine qaa rfl ?_ rfl;rw[←hr,decide_eq_true (Pa.eq_of he (qoz hkl hq))];rfl
open Classical in
theorem qpx(a b:Pa)(ha:a.ok)(hb:b.ok)(fa:a.fits)(fb:b.fits):∀S,Fn prog 118 [a.v,b.v] S (.bool (decide (a=b))):=by
 refine Pu.ib func118 ok118 (by simp[c118]) (by simp) rfl ?_;simp[c118,boxS,ldS];refine qai (qih a ha _) ?_;simp[fa,ldS];refine qai (qih b hb _) ?_;simp[fb,ldS];refine qai (qqc _ a b (qt1 _) ha hb fa.1 fb.1 _) ?_;simp;exact qaa rfl rfl rfl
open Classical in
theorem qs7(a b:Sm)(ha:a.ok)(hb:b.ok)(fa:(Pa.st a).fits)(fb:(Pa.st b).fits):∀S,Fn prog 68 [a.v,b.v] S (.bool (decide (a=b))):=by
 refine Pu.ib func68 ok68 (by simp[c68]) (by simp[V.under]) rfl ?_;simp[c68,boxS,ldS];refine qba (qfH a _) ?_;simp[ldS];refine qba (qfH b _) ?_;simp;refine qba (qpx (.st a) (.st b) ha hb fa fb _) ?_;simp[dend,qbj,qbw,ldS];exact qaa rfl (by simp[retV]) rfl
open Classical in
theorem qty(a b:Sm)(ha:a.ok)(hb:b.ok)(fa:(Pa.st a).fits)(fb:(Pa.st b).fits):∀S,Fn prog 23 [a.v,b.v] S (.bool (decide (a=b))):=by
 refine Pu.ib func23 ok23 (by simp[c23]) (by simp[V.under]) rfl ?_;simp[c23,boxS,ldS];refine qai (qs7 a b ha hb fa fb _) ?_;simp;exact qaa rfl rfl rfl
set_option maxRecDepth 20000
def c256:F':=⟨47,[.cell 6 (some 7)],.k [.o 4 (.box (.t 1)),.o 6 (.new zD)] (.k [.m 10 0,.m 11 2,.j 12 7 4,.c 13 272 12,.x 14 157 10 11 13,.m 7 14] (.k [.f 15 5 4,.l 16 15,.c 17 273 16,.m 8 17] (.seq (.k [.m 18 8,.o 19 (.len false (.t 18)),.a 20 (.int .i64 0)] (.block 0 (.loop (.k [.b 21 .lss 20 19] (.seq (.cond (.t 21) .skip (.exit 0)) (.seq (.block 1 (.k [.m 22 20,.m 9 22] (.reg [.m 23 8,.m 24 9,.m 25 7,.m 26 8,.m 27 9,.i 28 4 26 27,.f 29 0 28,.l 30 29,.w 31 60 25 30,.h 32 31,.f 33 2 32,.l 34 33,.i 35 4 23 24,.f 36 0 35,.s 1 36 34]))) (.reg [.u 37 .add 20 1,.m 20 37]))))))) (.k [.m 38 8,.f 39 5 4,.s 1 39 38] (.k [.m 40 0,.f 41 6 4,.l 42 41,.m 43 7,.x 44 111 40 42 43,.f 45 6 4,.s 1 45 44] (.k [.j 46 7 4,.s 7 6 46] .ret))))))⟩
theorem ok256:okF Tryz.f256 c256:=okI
def c272:F':=⟨4,[.t 2],.k [.o 1 (.box (.t 0)),.a 2 .nilfn] (.k [.o 3 (.mkf 277 [] [(.t 1)]),.m 2 3] .ret)⟩
theorem ok272:okF Tryz.f272 c272:=okI
def c273:F':=⟨8,[.t 2],.k [.a 2 (.sl true [])] (.seq (.k [.m 3 0,.o 4 (.ex (.eqn false (.t 3)))] (.cond (.t 4) (.k [.a 2 (.sl true [])] .ret) .skip)) (.k [.o 5 (.bsl 4 []),.m 6 0,.o 7 (.app 4 40 (.t 5) (.t 6)),.m 2 7] .ret))⟩
theorem ok273:okF Tryz.f273 c273:=okI
def c277:F':=⟨18,[],.k [.f 5 5 1,.l 6 5,.o 7 (.len false (.t 6)),.a 8 (.int .i64 0)] (.block 0 (.loop (.k [.b 9 .lss 8 7] (.seq (.cond (.t 9) .skip (.exit 0)) (.seq (.block 1 (.k [.i 10 4 6 8,.j 11 4 10,.o 4 (.new zF),.s 4 4 11] (.k [.m 12 0,.f 13 0 4,.l 14 13,.o 15 (.call (.t 12) [(.t 14)]),.o 16 (.un .not (.t 15))] (.cond (.t 16) .ret .skip)))) (.reg [.u 17 .add 8 1,.m 8 17]))))))⟩
theorem ok277:okF Tryz.f277 c277:=okI
end Go.Proofs.YtbifpocccfkhhaaGreatDoor

namespace Go.Proofs.YtbifpocccfkhhaaGreatDoor
open Go
structure Pw where
 H:Type
 f:Nat→ByteArray→ByteArray
 nm:Option (Ex→Scs→Bool→Ex)
 cl:Option (ByteArray→Scs→ByteArray)
 ent:H→Nat→ByteArray→H
 nmH:H→Ex→Scs→Bool→H
 clH:H→ByteArray→Scs→H
def retp(p:Pw)(sc:Scs)(x:ByteArray):ByteArray:=match sc.at x with
 | some k=>p.f k x
 | none=>x
def enters(p:Pw)(h:p.H)(s:Sco):p.H:=s.foldl (fun h e=>p.ent h e.2 e.1) h
def Pw.nmE(p:Pw)(sc:Scs)(tg:Bool)(x:Ex):Ex:=if Ex.named x.kind then match p.nm with
  | none=>.mk x.kind x.op x.n x.man x.exp (retp p sc x.text) x.args
  | some g=>g x sc tg
 else x
def Pw.nmS(p:Pw)(sc:Scs)(tg:Bool)(h:p.H)(x:Ex):p.H:=if Ex.named x.kind then match p.nm with
  | none=>h
  | some _=>p.nmH h x sc tg
 else h
mutual
def Ex.wr(p:Pw)(sc:Scs)(tg:Bool):Ex→Ex
 | .mk k o n m e t a=>p.nmE sc tg (.mk k o n m e t (Ex.wrl p sc false a))
def Ex.wrl(p:Pw)(sc:Scs)(tg:Bool):List Ex→List Ex
 | []=>[]
 | x::l=>Ex.wr p sc tg x::Ex.wrl p sc tg l
end
theorem Ex.wrl_map(p:Pw)(sc:Scs)(tg:Bool):∀l,Ex.wrl p sc tg l=l.map (Ex.wr p sc tg)
 | []=>rfl
 | x::l=>by rw[Ex.wrl,Ex.wrl_map p sc tg l];rfl
mutual
def Ex.hs(p:Pw)(sc:Scs)(tg:Bool)(h:p.H):Ex→p.H
 | .mk k o n m e t a=>p.nmS sc tg (Ex.hsl p sc false h a) (.mk k o n m e t (Ex.wrl p sc false a))
def Ex.hsl(p:Pw)(sc:Scs)(tg:Bool)(h:p.H):List Ex→p.H
 | []=>h
 | x::l=>Ex.hsl p sc tg (Ex.hs p sc tg h x) l
end
theorem Ex.hsl_append(p:Pw)(sc:Scs)(tg:Bool):∀(l m:List Ex) (h:p.H),Ex.hsl p sc tg h (l++m)=Ex.hsl p sc tg (Ex.hsl p sc tg h l) m
 | [],m,h=>rfl
 | x::l,m,h=>by simp only[qt8,Ex.hsl];exact Ex.hsl_append p sc tg l m _
def El.wr(p:Pw)(sc:Scs)(e:El):El:=⟨e.kind,Ex.wrl p sc false e.exps⟩
def El.hsl(p:Pw)(sc:Scs)(h:p.H)(l:List El):p.H:=l.foldl (fun h e=>Ex.hsl p sc false h e.exps) h
def Fo.wr(p:Pw)(sc:Scs)(x:Fo):Fo:=⟨retp p sc x.name,x.value,x.spec,x.type⟩
def Pw.clE(p:Pw)(sc:Scs)(k:Int)(t:ByteArray):ByteArray:=if k=6 then match p.cl with
  | none=>retp p sc t
  | some c=>c t sc
 else t
def Pw.clS(p:Pw)(sc:Scs)(k:Int)(h:p.H)(t:ByteArray):p.H:=if k=6 then match p.cl with
  | none=>h
  | some _=>p.clH h t sc
 else h
mutual
def Sm.wr(p:Pw)(sc:Scs)(n:Nat):Sm→Sm
 | .mk l k t g e h d b=>
  if k=7 then
   .mk (l.map (retp p sc)) k t (Ex.wrl p sc true g) e h (De.wrl p (qad (qag d b) n::sc) sc (n+(qad (qag d b) n).length) d) (Sm.wrl p (qad (qag d b) n::sc) (n+(qad (qag d b) n).length+De.nbl d) b)
  else if k=8 then
   .mk (l.map (retp p sc)) k t (Ex.wrl p sc true g) e h d (Sm.wrl p (qad (qak b) n::sc) (n+(qad (qak b) n).length) b)
  else .mk (l.map (retp p sc)) k (p.clE sc k t) (Ex.wrl p sc true g) (Ex.wrl p sc false e) (h.map (El.wr p sc)) d (Sm.wr1 p sc n b)
def De.wr(p:Pw)(own sc:Scs)(n:Nat):De→De
 | .mk k o t nm e fo b=>
  if k=4 then .mk k o t (nm.map (retp p own)) (Ex.wrl p own false e) (fo.map (Fo.wr p (qad (fo.map Fo.name) n::own))) (Sm.wr1 p (qad (fo.map Fo.name) n::own) (n+(qad (fo.map Fo.name) n).length) b)
  else .mk k o t (nm.map (retp p own)) (Ex.wrl p (if k=2 then sc else own) false e) fo b
def De.wrl(p:Pw)(own sc:Scs)(n:Nat):List De→List De
 | []=>[]
 | x::l=>De.wr p own sc n x::De.wrl p own sc (n+De.nb x) l
def Sm.wrl(p:Pw)(sc:Scs)(n:Nat):List Sm→List Sm
 | []=>[]
 | x::l=>Sm.wr p sc n x::Sm.wrl p sc (n+Sm.nb x) l
def Sm.wr1(p:Pw)(sc:Scs)(n:Nat):List Sm→List Sm
 | []=>[]
 | x::l=>Sm.wr p (qad x.labels n::sc) (n+(qad x.labels n).length) x::Sm.wr1 p sc (n+(qad x.labels n).length+Sm.nb x) l
end
mutual
def Sm.hs(p:Pw)(sc:Scs)(n:Nat)(h:p.H):Sm→p.H
 | .mk _ k t g e el d b=>
  if k=7 then
   Sm.hsl p (qad (qag d b) n::sc) (n+(qad (qag d b) n).length+De.nbl d) (De.hsl p (qad (qag d b) n::sc) sc (n+(qad (qag d b) n).length) (enters p (Ex.hsl p sc true h g) (qad (qag d b) n)) d) b
  else if k=8 then
   Sm.hsl p (qad (qak b) n::sc) (n+(qad (qak b) n).length) (enters p (Ex.hsl p sc true h g) (qad (qak b) n)) b
  else p.clS sc k (Sm.hs1 p sc n (El.hsl p sc (Ex.hsl p sc false (Ex.hsl p sc true h g) e) el) b) t
def De.hs(p:Pw)(own sc:Scs)(n:Nat)(h:p.H):De→p.H
 | .mk k _ _ _ e fo b=>
  if k=4 then Sm.hs1 p (qad (fo.map Fo.name) n::own) (n+(qad (fo.map Fo.name) n).length) (enters p (Ex.hsl p own false h e) (qad (fo.map Fo.name) n)) b
  else Ex.hsl p (if k=2 then sc else own) false h e
def De.hsl(p:Pw)(own sc:Scs)(n:Nat)(h:p.H):List De→p.H
 | []=>h
 | x::l=>De.hsl p own sc (n+De.nb x) (De.hs p own sc n h x) l
def Sm.hsl(p:Pw)(sc:Scs)(n:Nat)(h:p.H):List Sm→p.H
 | []=>h
 | x::l=>Sm.hsl p sc (n+Sm.nb x) (Sm.hs p sc n h x) l
def Sm.hs1(p:Pw)(sc:Scs)(n:Nat)(h:p.H):List Sm→p.H
 | []=>h
 | x::l=>Sm.hs1 p sc (n+(qad x.labels n).length+Sm.nb x) (Sm.hs p (qad x.labels n::sc) (n+(qad x.labels n).length) (enters p h (qad x.labels n)) x) l
end
def Sm.wholeR(p:Pw)(s:Sm):Sm:=s.wr p [qad s.labels 0] (qad s.labels 0).length
def Sm.wholeH(p:Pw)(h:p.H)(s:Sm):p.H:=s.hs p [qad s.labels 0] (qad s.labels 0).length (enters p h (qad s.labels 0))
theorem Sm.nbl_append:∀(l m:List Sm),Sm.nbl (l++m)=Sm.nbl l+Sm.nbl m
 | [],m=>by simp[Sm.nbl]
 | x::l,m=>by simp only[qt8,Sm.nbl,Sm.nbl_append l m];omega
theorem De.nbl_append:∀(l m:List De),De.nbl (l++m)=De.nbl l+De.nbl m
 | [],m=>by simp[De.nbl]
 | x::l,m=>by simp only[qt8,De.nbl,De.nbl_append l m];omega
theorem Sm.nb1_append:∀(l m:List Sm),Sm.nb1 (l++m)=Sm.nb1 l+Sm.nb1 m
 | [],m=>by simp[Sm.nb1]
 | x::l,m=>by simp only[qt8,Sm.nb1,Sm.nb1_append l m];omega
theorem Sm.wrl_append(p:Pw)(sc:Scs):∀(l m:List Sm) (n:Nat),Sm.wrl p sc n (l++m)=Sm.wrl p sc n l++Sm.wrl p sc (n+Sm.nbl l) m
 | [],m,n=>by simp[Sm.wrl,Sm.nbl]
 | x::l,m,n=>by simp only[qt8,Sm.wrl,Sm.nbl,Sm.wrl_append p sc l m,quN]
theorem De.wrl_append(p:Pw)(own sc:Scs):∀(l m:List De) (n:Nat),De.wrl p own sc n (l++m)=De.wrl p own sc n l++De.wrl p own sc (n+De.nbl l) m
 | [],m,n=>by simp[De.wrl,De.nbl]
 | x::l,m,n=>by simp only[qt8,De.wrl,De.nbl,De.wrl_append p own sc l m,quN]
theorem Sm.hsl_append(p:Pw)(sc:Scs):∀(l m:List Sm) (n:Nat) (h:p.H),Sm.hsl p sc n h (l++m)=Sm.hsl p sc (n+Sm.nbl l) (Sm.hsl p sc n h l) m
 | [],m,n,h=>by simp[Sm.hsl,Sm.nbl]
 | x::l,m,n,h=>by simp only[qt8,Sm.hsl,Sm.nbl,Sm.hsl_append p sc l m,quN]
theorem De.hsl_append(p:Pw)(own sc:Scs):∀(l m:List De) (n:Nat) (h:p.H),De.hsl p own sc n h (l++m)=De.hsl p own sc (n+De.nbl l) (De.hsl p own sc n h l) m
 | [],m,n,h=>by simp[De.hsl,De.nbl]
 | x::l,m,n,h=>by simp only[qt8,De.hsl,De.nbl,De.hsl_append p own sc l m,quN]
theorem qcZ(m:Nat):∀(l:List ByteArray) (s s':Sco) (n n':Nat),s.map (·.1)=s'.map (·.1)→(binds l s n).map (·.1)=(binds l s' n').map (·.1)
 | [],s,s',n,n',h=>h
 | x::l,s,s',n,n',h=>by
  have at_eq:∀(s s':Sco),s.map (·.1)=s'.map (·.1)→(s.at x).isSome=(s'.at x).isSome:=by
   intro s
   induction s with
   | nil=>intro s' h;cases s' with
    | nil=>rfl
    | cons e s'=>simp at h
   | cons e s ih=>
    intro s' h
    cases s' with
    | nil=>simp at h
    | cons e' s'=>
     simp only[qud,List.cons.injEq] at h;have:=ih s' h.2;simp only[Sco.at,List.find?_cons,h.1] at this ⊢;by_cases hx:e'.1=x
     ·simp[hx]
     ·simp only[decide_eq_false hx];exact this
  simp only[binds];rw[at_eq s s' h];split
  ·exact qcZ m l s s' n n' h
  ·exact qcZ m l _ _ _ _ (by simp[h])
theorem qa3(l:List ByteArray)(n n':Nat):(qad l n).length=(qad l n').length:=by
 have:=congrArg List.length (qcZ 0 l [] [] n n' rfl);rw[qt2,qt2] at this;exact this
structure Kg(F:Nat→Prop)(S:St)(F':Nat→Prop)(U:St):Prop where
 k:Kp F S U
 g:∀l,F' l→F l∨S.length≤l
theorem Kg.refl(F:Nat→Prop)(S:St):Kg F S F S:=⟨Kp.refl _ _,fun _ h=>.inl h⟩
theorem Kg.trans{F G H:Nat→Prop}{S T U:St}(h:Kg F S G T)(g:Kg G T H U):Kg F S H U:=
 ⟨⟨quJ h.k.len g.k.len,fun l hl hn=>by
  rw[g.k.get l (quD hl h.k.len) fun hh=>(h.g l hh).elim hn (by omega)];exact h.k.get l hl hn⟩,fun l hh=>(g.g l hh).elim (h.g l) fun hl=>.inr (quJ h.k.len hl)⟩
theorem Kg.push{F G:Nat→Prop}{S U:St}(h:Kg F S G U)(os:List Ob):Kg F S G (U++os):=⟨h.k.push os,h.g⟩
theorem Kg.set{F G:Nat→Prop}{S U:St}(h:Kg F S G U){l:Nat}(o:Ob)(hl:F l∨S.length≤l):Kg F S G (U.set l o):=⟨h.k.set o hl,h.g⟩
theorem Kg.off{F G:Nat→Prop}{S U:St}(h:Kg F S G U){l:Nat}(hl:l<S.length)(hf:¬ F l):¬ G l:=fun hg=>(h.g l hg).elim hf (by omega)
theorem Kg.with{F G:Nat→Prop}{S U:St}(h:Kg F S G U)(L:Nat)(hl:L<S.length):Kg (fun x=>F x∨x=L) S (fun x=>G x∨x=L) U:=⟨h.k.mono fun _ _ h=>.inl h,fun l hh=>hh.elim (fun a=>(h.g l a).imp .inl id) fun e=>.inl (.inr e)⟩
def RG(F0:Nat→Prop)(U0:St)(L:Nat)(i0:LI)(J1 Dr:(Nat→Prop)→St→Prop)(De:Nat→(Nat→Prop)→St→Prop):V→St→Prop:=fun v U=>∃F,Kg (fun x=>F0 x∨x=L) U0 (fun x=>F x∨x=L) U∧
 ((v=.bool true∧J1 F U∧U[L]?=some (.loop i0))∨(v=.bool false∧Dr F U∧U[L]?=some (.loop { i0 with st:=.done,pend:=some .ret }))∨
  ∃id,v=.bool false∧De id F U∧U[L]?=some (.loop { i0 with st:=.done,pend:=some (.exit id) }))
theorem qgW{F0 F:Nat→Prop}{U0:St}{L:Nat}{i0:LI}{J1 Dr:(Nat→Prop)→St→Prop}{De:Nat→(Nat→Prop)→St→Prop}{e:Env}{U:St}(hi:i0.st=.ready∧i0.pend=none)(h:U[L]?=some (.loop { i0 with st:=.busy }))(k:Kg (fun x=>F0 x∨x=L) U0 (fun x=>F x∨x=L) U)(g:J1 F (U.set L (.loop i0))):qeR L (RG F0 U0 L i0 J1 Dr De) .normal e U:=by
 have hlt:=(qtV.1 h).1;have:({ i0 with st:=.ready,pend:=none }:LI)=i0:=by cases i0;simp only at hi;simp[hi.1,hi.2]
 refine ⟨_,h,F,k.set _ (.inl (.inr rfl)),.inl ⟨rfl,?_,?_⟩⟩
 ·simp only[this];exact g
 ·simp only[this];rw[qtZ hlt]
theorem qsl{F0 F:Nat→Prop}{U0:St}{L:Nat}{i0:LI}{J1 Dr:(Nat→Prop)→St→Prop}{De:Nat→(Nat→Prop)→St→Prop}{e:Env}{U:St}(h:U[L]?=some (.loop { i0 with st:=.busy }))(k:Kg (fun x=>F0 x∨x=L) U0 (fun x=>F x∨x=L) U)(g:Dr F (U.set L (.loop { i0 with st:=.done,pend:=some .ret }))):qeR L (RG F0 U0 L i0 J1 Dr De) .ret e U:=by
 have hlt:=(qtV.1 h).1;exact ⟨_,h,F,k.set _ (.inl (.inr rfl)),.inr (.inl ⟨rfl,g,by rw[qtZ hlt]⟩)⟩
def qhM(P:Program)(k:Nat)(fs cs:List V)(xs:List (List V))(cap:St→Prop):Prop:=
 ∀(S:St) (l:Nat) (J:Nat→(Nat→Prop)→St→Prop) (D:(Nat→Prop)→St→Prop) (F0:Nat→Prop),(∀i F U,J i F U→∀x,F x→x<U.length)→(∀i F U,J i F U→cap U)→(∀i F U o,J i F U→J i F (U++[o]))→(∀F U o,D F U→D F (U++[o]))→
  (∀i F U L o o',S.length≤L→J i F U→U[L]?=some (.loop o)→J i F (U.set L (.loop o')))→(∀F U L o o',S.length≤L→D F U→U[L]?=some (.loop o)→D F (U.set L (.loop o')))→
  (∀(i:Nat) (a:List V),xs[i]?=some a→∀F U,J i F U→Kg F0 S F U→qbJ P l a U (fun v U'=>∃F',Kg F U F' U'∧((v=.bool true∧J (i+1) F' U')∨(v=.bool false∧D F' U'))))→J 0 F0 S→
  Spec P k (fs++[.yld l]++cs) S (fun _ U=>∃F,Kg F0 S F U∧(J xs.length F U∨D F U))
theorem Kg.unloop{F G:Nat→Prop}{S U:St}{o o':Ob}(h:Kg (fun x=>F x∨x=S.length) (S++[o]) (fun x=>G x∨x=S.length) U):Kg F S G (U.set S.length o'):=
 ⟨h.k.unloop,fun l hl=>(h.g l (.inl hl)).elim (fun a=>a.imp id (by omega)) fun a=>.inr (by simp at a;omega)⟩
theorem qhe{P:Program}{g:Opd}{ps:List Nat}{asg body:Code}{ca cb:C'}{N:Nat}{ts:List Nat}{Q:Post}{e:Env}{S:St}{k:Nat}{fs cs:List V}{xs:List (List V)}{cap:St→Prop}
  (hg:g.ev e=some (.fn (.func k) fs cs)) (hy:qhM P k fs cs xs cap) (na:ca.noRf=true) (nb:cb.noRf=true) (hps:ps.all (fun p=>decide (p<N))=true) (hlen:∀a,a∈xs→a.length=ps.length)
  (F0:Nat→Prop) (J:Nat→(Nat→Prop)→St→Prop) (Dr:(Nat→Prop)→St→Prop) (De:Nat→(Nat→Prop)→St→Prop) (hB:∀i F U,J i F U→∀x,F x→x<U.length) (hcap:∀i F U,J i F U→cap U)
  (hJ:∀i F U,J i F U→∀o,J i F (U++[o])) (hDr:∀F U,Dr F U→∀o,Dr F (U++[o])) (hDe:∀id F U,De id F U→∀o,De id F (U++[o]))
  (hJl:∀i F U L o o',S.length≤L→J i F U→U[L]?=some (.loop o)→J i F (U.set L (.loop o'))) (hDl:∀F U L o o',S.length≤L→Dr F U→U[L]?=some (.loop o)→Dr F (U.set L (.loop o'))) (hDel:∀id F U L o o',S.length≤L→De id F U→U[L]?=some (.loop o)→De id F (U.set L (.loop o')))
  (h0:J 0 F0 (S++[.loop ⟨.ready,none,ps,asg,body,e.keep ts,N⟩]))
  (hr:∀(i:Nat) (a:List V),xs[i]?=some a→∀F U,J i F U→Kg (fun x=>F0 x∨x=S.length) (S++[.loop ⟨.ready,none,ps,asg,body,e.keep ts,N⟩]) (fun x=>F x∨x=S.length) U→U[S.length]?=some (.loop ⟨.ready,none,ps,asg,body,e.keep ts,N⟩)→
   WP P ca (qhz P S.length cb (RG F U S.length ⟨.ready,none,ps,asg,body,e.keep ts,N⟩ (J (i+1)) Dr De)) (qcE ps a (e.keep ts)) U)
  (hn:∀F U,J xs.length F U→Kg F0 S F U→Q .normal e U) (hret:∀F U,Dr F U→Kg F0 S F U→Q .ret e U) (hexit:∀id F U,De id F U→Kg F0 S F U→Q (.exit id) e U):
  WP P (.rf g ps asg body ca cb N ts) Q e S:=by
 intro hca hcb;rw[hg];refine ⟨_,hy (S++[.loop ⟨.ready,none,ps,asg,body,e.keep ts,N⟩]) S.length (fun i G U=>∃F,G=(fun x=>F x∨x=S.length)∧J i F U∧U[S.length]?=some (.loop ⟨.ready,none,ps,asg,body,e.keep ts,N⟩))
  (fun G U=>∃F,G=(fun x=>F x∨x=S.length)∧((Dr F U∧U[S.length]?=some (.loop ⟨.done,some .ret,ps,asg,body,e.keep ts,N⟩))∨∃id,De id F U∧U[S.length]?=some (.loop ⟨.done,some (.exit id),ps,asg,body,e.keep ts,N⟩)))
  (fun x=>F0 x∨x=S.length) ?_ (fun i G U ⟨F,_,h,_⟩=>hcap i F U h) (fun i G U o ⟨F,h1,h2,h3⟩=>⟨F,h1,hJ i F U h2 o,?_⟩) ?_ ?_ ?_ ?_ ⟨F0,rfl,h0,by simp⟩,?_⟩
 ·rintro i G U ⟨F,rfl,h,h3⟩ x (hx|rfl)
  ·exact hB i F U h x hx
  ·exact (qtV.1 h3).1
 ·rw[qt0 (qtV.1 h3).1];exact h3
 ·rintro G U o ⟨F,rfl,⟨h1,h2⟩|⟨id,h1,h2⟩⟩
  ·exact ⟨F,rfl,.inl ⟨hDr F U h1 o,by rw[qt0 (qtV.1 h2).1];exact h2⟩⟩
  ·exact ⟨F,rfl,.inr ⟨id,hDe id F U h1 o,by rw[qt0 (qtV.1 h2).1];exact h2⟩⟩
 ·rintro i G U L o o' hL ⟨F,rfl,h1,h2⟩ h3;simp at hL;exact ⟨F,rfl,hJl i F U L o o' (by omega) h1 h3,by rw[qtY (by omega)];exact h2⟩
 ·rintro G U L o o' hL ⟨F,rfl,⟨h1,h2⟩|⟨id,h1,h2⟩⟩ h3
  ·simp at hL;exact ⟨F,rfl,.inl ⟨hDl F U L o o' (by omega) h1 h3,by rw[qtY (by omega)];exact h2⟩⟩
  ·simp at hL;exact ⟨F,rfl,.inr ⟨id,hDel id F U L o o' (by omega) h1 h3,by rw[qtY (by omega)];exact h2⟩⟩
 ·rintro i a ha G U ⟨F,rfl,hj,hl⟩ hk;refine qbJ.mono' (qbJ.intro hl hca hcb rfl na nb ?_ hps (hr i a ha F U hj hk hl)) ?_
  ·exact hlen _ (qt6 ha)
  ·rintro v U' ⟨F',hk',⟨rfl,h1,h2⟩|⟨rfl,h1,h2⟩|⟨id,rfl,h1,h2⟩⟩
   ·exact ⟨_,hk',.inl ⟨rfl,F',rfl,h1,h2⟩⟩
   ·exact ⟨_,hk',.inr ⟨rfl,F',rfl,.inl ⟨h1,h2⟩⟩⟩
   ·exact ⟨_,hk',.inr ⟨rfl,F',rfl,.inr ⟨id,h1,h2⟩⟩⟩
 ·rintro r U ⟨G,hk,⟨F,rfl,h1,h2⟩|⟨F,rfl,⟨h1,h2⟩|⟨id,h1,h2⟩⟩⟩
  ·exact ⟨_,h2,by simp,hn F _ (hJl _ F U _ _ _ (qt1 _) h1 h2) hk.unloop⟩
  ·exact ⟨_,h2,by simp,hret F _ (hDl F U _ _ _ (qt1 _) h1 h2) hk.unloop⟩
  ·exact ⟨_,h2,by simp,hexit id F _ (hDel id F U _ _ _ (qt1 _) h1 h2) hk.unloop⟩
open Go.Proofs.Tryz
abbrev Sct:=List (ByteArray×Nat×Nat)
def Sct.sco(t:Sct):Sco:=t.map fun e=>(e.1,e.2.1)
def entT(e:ByteArray×Nat×Nat):V×V:=(.str e.1,.ptr e.2.2 0 0 1)
def plc(x:ByteArray)(k:Nat)(y:ByteArray):Ob:=.arr [.agg [.int .i64 k,.str x,.str y]] 3 1
def ScR(p:Pw)(X:Nat→Prop)(S:St):V→List Sct→Prop
 | v,[]=>v=.nilp
 | v,t::r=>∃l lo lm v' bs ck,v=.ptr l 0 0 1∧(¬ X l∧¬ X lo∧¬ X lm)∧S[l]?=some (.arr [.agg [.ptr lo 0 0 1,.map lm]] 2 1)∧S[lo]?=some (.arr [.agg [v']] 1 1)∧S[lm]?=some (.map (t.map entT) bs ck)∧
  (∀e,e∈t→¬ X e.2.2∧S[e.2.2]?=some (plc e.1 e.2.1 (p.f e.2.1 e.1)))∧ScR p X S v' r
def Scx(ts:List Sct):Scs:=ts.map Sct.sco
def qdO:Sct→ByteArray→Option (Nat×Nat)
 | [],_=>none
 | e::t,x=>if e.1=x then some e.2 else qdO t x
def fnd:List Sct→ByteArray→Option (Nat×Nat)
 | [],_=>none
 | t::r,x=>match qdO t x with
  | some p=>some p
  | none=>fnd r x
def fndV(ts:List Sct)(x:ByteArray):V:=match fnd ts x with
 | some p=>.ptr p.2 0 0 1
 | none=>.nilp
theorem qgK:∀(t:Sct) (x:ByteArray),Sco.at t.sco x=(qdO t x).map (·.1)
 | [],_=>rfl
 | e::t,x=>by
  have ih:=qgK t x;simp only[Sco.at,Sct.sco,qud,List.find?_cons,qdO] at *;by_cases h:e.1=x
  ·simp[h]
  ·simp only[decide_eq_false h,if_neg h];exact ih
theorem qeM:∀(ts:List Sct) (x:ByteArray),(Scx ts).at x=(fnd ts x).map (·.1)
 | [],_=>rfl
 | t::r,x=>by
  have ih:=qeM r x;simp only[Scx,qud,Scs.at,fnd] at *;rw[qgK]
  cases qdO t x with
  | none=>exact ih
  | some p=>rfl
theorem qhr:∀{t:Sct} {x:ByteArray} {p:Nat×Nat},qdO t x=some p→(x,p.1,p.2)∈t
 | e::t,x,p,h=>by
  simp only[qdO] at h;split at h
  ·rename_i hx;cases h;subst hx;simp
  ·exact qvj _ (qhr h)
theorem ScR.fnd_get{p:Pw}{X:Nat→Prop}{S:St}:∀{ts:List Sct} {v:V} {x:ByteArray} {q:Nat×Nat},ScR p X S v ts→fnd ts x=some q→S[q.2]?=some (plc x q.1 (p.f q.1 x))
 | t::r,v,x,q,⟨l,lo,lm,v',bs,ck,_,_,_,_,_,h5,h6⟩,hf=>by
  simp only[fnd] at hf;split at hf
  ·rename_i q hq;cases hf;exact (h5 _ (qhr hq)).2
  ·exact ScR.fnd_get h6 hf
theorem qdL(x:ByteArray):∀(t:Sct) (i:Nat),∃j,qbQ .str (.str x) (t.map entT) i=some ((qdO t x).map fun p=>(j,.ptr p.2 0 0 1))
 | [],i=>⟨0,rfl⟩
 | e::t,i=>by
  simp only[qud,entT,qbQ,qfS,qdO];by_cases h:x=e.1
  ·rw[show (x.data.toList==e.1.data.toList)=true by rw[h];simp,if_pos h.symm];exact ⟨i,rfl⟩
  ·rw[show (x.data.toList==e.1.data.toList)=false by
    rw[beq_eq_false_iff_ne];intro hh;exact h (qvU (Array.ext' hh)),if_neg (Ne.symm h)]
   exact qdL x t (i+1)
theorem qmC{S:St}{lm:Nat}{t:Sct}{bs:List Nat}{ck:Nat}(x:ByteArray)(h:S[lm]?=some (.map (t.map entT) bs ck)):
  lkpV S .str .nilp true (.map lm) (.str x)=some (.tup [(match qdO t x with|some p=>.ptr p.2 0 0 1|none=>.nilp),.bool (qdO t x).isSome]):=by
 obtain ⟨j,hj⟩:=qdL x t 0;unfold lkpV;rw[if_pos (by rfl)];simp only[qkq,h,hj];cases qdO t x <;> rfl
theorem qfK{p:Pw}{X:Nat→Prop}{S:St}{ts:List Sct}{v:V}(h:ScR p X S v ts)(x:ByteArray):Fn prog 60 [v,.str x] S (fndV ts x):=by
 refine Spec.ib func60 ok60 ?_;generalize hr:fndV ts x=r;simp only[c60,C'.k];simp only[qiK,qjO,qnt,qeS,qiO];refine qar (fun j e S'=>∃(ts':List Sct) (v':V),j=ts'.length∧ScR p X S v' ts'∧fndV ts' x=r∧S'=S∧e=[(0,v'),(1,.str x)]) ts.length _ ?_ ⟨ts,v,rfl,h,hr,rfl,rfl⟩ ?_
 ·exact Env.so (by simp)
 rintro j e S' ⟨ts',v',rfl,h',hr',rfl,rfl⟩
 cases ts' with
 | nil=>
  have h':v'=.nilp:=h';subst h';have:r=.nilp:=by rw[←hr'];rfl
  subst this;simp[eqOk,eqV,qfu];exact qaj rfl ⟨rfl,rfl⟩
 | cons t r'=>
  obtain ⟨l,lo,lm,v'',bs,ck,rfl,_,h2,h3,h4,h5,h6⟩:=h';have hl:=qmC x h4;simp[eqOk,eqV,qbb,ldS,h2,evX,hl]
  cases hk:qdO t x with
  | some p=>
   have:r=.ptr p.2 0 0 1:=by rw[←hr'];simp[fndV,fnd,hk]
   subst this;simp[qfu];exact qaj rfl ⟨rfl,rfl⟩
  | none=>
   simp[eqOk,eqV,qbb,ldS,h2,h3];refine ⟨_,?_,_,?_,r',rfl,v'',h6,?_,rfl⟩
   ·simp
   ·exact Env.so (by simp)
   ·rw[←hr'];simp[fndV,fnd,hk]
theorem ScR.mono{p:Pw}{X X':Nat→Prop}{S U:St}(hk:Kp X S U)(hX:∀l,X' l→X l∨S.length≤l):∀{ts:List Sct} {v:V},ScR p X S v ts→ScR p X' U v ts
 | [],_,h=>h
 | t::r,v,⟨l,lo,lm,v',bs,ck,h1,⟨x1,x2,x3⟩,h2,h3,h4,h5,h6⟩=>by
  have no:∀{l:Nat} {o:Ob},S[l]?=some o→¬ X l→¬ X' l:=fun ho hn hx=>(hX _ hx).elim hn fun hh=>by have:=(qtV.1 ho).1;omega
  exact ⟨l,lo,lm,v',bs,ck,h1,⟨no h2 x1,no h3 x2,no h4 x3⟩,hk.at h2 x1,hk.at h3 x2,hk.at h4 x3,fun e he=>⟨no (h5 e he).2 (h5 e he).1,hk.at (h5 e he).2 (h5 e he).1⟩,ScR.mono hk hX h6⟩
theorem ScR.sub{p:Pw}{X X':Nat→Prop}{S:St}{v:V}{ts:List Sct}(h:ScR p X S v ts)(hX:∀l,X' l→X l):ScR p X' S v ts:=h.mono (Kp.refl _ _) fun l hl=>.inl (hX l hl)
theorem ScR.more{p:Pw}{X X':Nat→Prop}{S:St}{v:V}{ts:List Sct}(h:ScR p X S v ts)(hX:∀l,X' l→X l∨S.length≤l):ScR p X' S v ts:=h.mono (Kp.refl _ _) hX
structure Cb extends Pw where
 fe:V
 fn:V
 fc:V
 I:H→(Nat→Prop)→(Nat→Prop)→St→Prop
 cn:H→Nat→Prop
 lim:Nat
def wkr(c:Cb)(n:Nat):Ob:=.arr [.agg [.int .i64 n,c.fe,c.fn,c.fc]] 4 1
def grow(S:St)(F F':Nat→Prop):Prop:=∀l,F' l→F l∨S.length≤l
theorem grow.refl(S:St)(F:Nat→Prop):grow S F F:=fun _ h=>.inl h
theorem grow.trans{S T:St}{F G K:Nat→Prop}(h:grow S F G)(g:grow T G K)(hl:S.length≤T.length):grow S F K:=fun l hk=>(g l hk).elim (h l) fun hh=>.inr (by omega)
structure Wk(c:Cb)(w n:Nat)(h:c.H)(F D:Nat→Prop)(S:St):Prop where
 tw:S[w]?=some (wkr c n)
 st:c.I h F D S
 nF:¬ F w
 nD:¬ D w
 cn:c.cn h n
structure Stp(w:Nat)(F D:Nat→Prop)(S:St)(F' D':Nat→Prop)(U:St):Prop where
 k:Kp (fun l=>l=w∨F l) S U
 gF:grow S F F'
 gD:grow S D D'
theorem Stp.refl(w:Nat)(F D:Nat→Prop)(S:St):Stp w F D S F D S:=⟨Kp.refl _ _,grow.refl _ _,grow.refl _ _⟩
theorem Stp.trans{w:Nat}{F D F1 D1 F2 D2:Nat→Prop}{S T U:St}(h:Stp w F D S F1 D1 T)(g:Stp w F1 D1 T F2 D2 U):Stp w F D S F2 D2 U:=
 ⟨⟨quJ h.k.len g.k.len,fun l hl hn=>by
  rw[g.k.get l (quD hl h.k.len) fun hh=>hn (hh.elim .inl fun hh=>(h.gF l hh).elim .inr fun hh=>by omega)];exact h.k.get l hl hn⟩,h.gF.trans g.gF h.k.len,h.gD.trans g.gD h.k.len⟩
structure Cb.Ok(c:Cb):Prop where
 lim:c.lim≤100001
 lt:∀{h F D S},c.I h F D S→∀l,F l∨D l→l<S.length
 fr:∀{h F D S U M},c.I h F D S→Kp M S U→(∀l,M l→l<S.length→¬ F l∧¬ D l)→c.I h F D U
 lp:∀{h F D S},c.I h F D S→∀l o,S[l]?=some (.loop o)→¬ F l∧¬ D l
 ce:∀{h n} x,c.cn h n→c.cn (c.ent h n x) (n+1)
 cm:∀{h n} x sc tg,c.cn h n→c.cn (c.nmH h x sc tg) n
 cc:∀{h n} x sc,c.cn h n→c.cn (c.clH h x sc) n
 real:∀{h F D S},c.I h F D S→∀h',∃F' D' U,c.I h' F' D' U∧Kp F S U∧grow S F F'∧grow S D D'
 en:(c.fe=.nilfn∧(∀k x,c.f k x=x)∧∀h k x,c.ent h k x=h)∨∃g cs,c.fe=.fn (.func g) [] cs∧∀(U:St) (p k:Nat) (x:ByteArray) (h:c.H) (F D:Nat→Prop),U[p]?=some (plc x k x)→¬ F p→¬ D p→k<c.lim→c.cn h k→c.I h F D U→
  Spec prog g ([.ptr p 0 0 1]++cs) U (fun _ U'=>∃F' D',c.I (c.ent h k x) F' D' U'∧U'[p]?=some (plc x k (c.f k x))∧Kp (fun l=>l=p∨F l) U U'∧grow U F F'∧∀l,D' l→D l∨l=p∨U.length≤l)
 nm:match c.nm with
  | none=>c.fn=.nilfn
  | some g=>∃k cs,c.fn=.fn (.func k) [] cs∧∀(U:St) (x:Ex) (v:V) (ts:List Sct) (tg:Bool) (w:Nat) (h:c.H) (F D:Nat→Prop),ScR c.toPw (fun l=>l=w∨F l) U v ts→c.I h F D U→
   Spec prog k ([x.v,v,.bool tg]++cs) U (fun r U'=>r=(g x (Scx ts) tg).v∧∃F' D',c.I (c.nmH h x (Scx ts) tg) F' D' U'∧Kp F U U'∧grow U F F'∧grow U D D')
 cl:match c.cl with
  | none=>c.fc=.nilfn
  | some g=>∃k cs,c.fc=.fn (.func k) [] cs∧∀(U:St) (x:ByteArray) (v:V) (ts:List Sct) (w:Nat) (h:c.H) (F D:Nat→Prop),ScR c.toPw (fun l=>l=w∨F l) U v ts→c.I h F D U→
   Spec prog k ([.str x,v]++cs) U (fun r U'=>r=.str (g x (Scx ts))∧∃F' D',c.I (c.clH h x (Scx ts)) F' D' U'∧Kp F U U'∧grow U F F'∧grow U D D')
theorem Wk.push{c:Cb}(ok:c.Ok){w n:Nat}{h:c.H}{F D:Nat→Prop}{S:St}(k:Wk c w n h F D S)(os:List Ob):Wk c w n h F D (S++os):=
 ⟨by rw[qt0 (qtV.1 k.tw).1];exact k.tw,ok.fr (M:=fun _=>False) k.st ((Kp.refl _ _).push _) (fun _ h=>h.elim),k.nF,k.nD,k.cn⟩
theorem Wk.set{c:Cb}(ok:c.Ok){w n:Nat}{h:c.H}{F D:Nat→Prop}{S:St}(k:Wk c w n h F D S){l:Nat}(o:Ob)(hw:l≠w)(hF:¬ F l)(hD:¬ D l):Wk c w n h F D (S.set l o):=
 ⟨by rw[qtY hw];exact k.tw,ok.fr (M:=fun x=>x=l) k.st ((Kp.refl _ _).set _ (.inl rfl)) (fun x hx _=>by rw[hx];exact ⟨hF,hD⟩),k.nF,k.nD,k.cn⟩
theorem Wk.out{c:Cb}(ok:c.Ok){w n:Nat}{h:c.H}{F D:Nat→Prop}{S:St}(k:Wk c w n h F D S){l:Nat}(hl:S.length≤l):l≠w∧¬ F l∧¬ D l:=
 ⟨by rintro rfl;have:=(qtV.1 k.tw).1;omega,fun hf=>by have:=ok.lt k.st l (.inl hf);omega,fun hf=>by have:=ok.lt k.st l (.inr hf);omega⟩
def Off(w:Nat)(F D:Nat→Prop)(l:Nat):Prop:=l≠w∧¬ F l∧¬ D l
theorem Off.next{w:Nat}{F D F' D':Nat→Prop}{S U:St}{l:Nat}(h:Off w F D l)(hl:l<S.length)(s:Stp w F D S F' D' U):Off w F' D' l:=
 ⟨h.1,fun hf=>(s.gF l hf).elim h.2.1 (by omega),fun hf=>(s.gD l hf).elim h.2.2 (by omega)⟩
theorem Stp.at{w:Nat}{F D F' D':Nat→Prop}{S U:St}{l:Nat}{o:Ob}(s:Stp w F D S F' D' U)(h:Off w F D l)(ho:S[l]?=some o):U[l]?=some o:=s.k.at ho fun hh=>hh.elim h.1 h.2.1
theorem Stp.push{w:Nat}{F D F' D':Nat→Prop}{S U:St}(s:Stp w F D S F' D' U)(os:List Ob):Stp w F D S F' D' (U++os):=⟨s.k.push os,s.gF,s.gD⟩
theorem Stp.set{w:Nat}{F D F' D':Nat→Prop}{S U:St}(s:Stp w F D S F' D' U){l:Nat}(o:Ob)(hl:S.length≤l):Stp w F D S F' D' (U.set l o):=⟨s.k.set o (.inr hl),s.gF,s.gD⟩
theorem Stp.ofPush{w:Nat}{F D F' D':Nat→Prop}{S U:St}{os:List Ob}(s:Stp w F D (S++os) F' D' U):Stp w F D S F' D' U:=
 ⟨s.k.ofPush,fun l h=>(s.gF l h).imp id fun hh=>by simp at hh;omega,fun l h=>(s.gD l h).imp id fun hh=>by simp at hh;omega⟩
theorem ScR.step{p:Pw}{w:Nat}{F D F' D':Nat→Prop}{S U:St}{v:V}{ts:List Sct}(h:ScR p (fun l=>l=w∨F l) S v ts)(s:Stp w F D S F' D' U):ScR p (fun l=>l=w∨F' l) U v ts:=
 h.mono s.k fun l hh=>hh.elim (fun e=>.inl (.inl e)) fun e=>(s.gF l e).imp .inr id
theorem ScR.push{p:Pw}{X:Nat→Prop}{S:St}{v:V}{ts:List Sct}(h:ScR p X S v ts)(os:List Ob):ScR p X (S++os) v ts:=h.mono ((Kp.refl _ _).push _) fun _ hh=>.inl hh
def strA(l:List ByteArray):List (List V):=l.map fun x=>[.str x]
theorem qgw{l:List ByteArray}{i:Nat}{x:ByteArray}(h:l[i]?=some x):(strA l)[i]?=some [.str x]:=by simp[strA,h]
theorem qdV(l:List ByteArray):(strA l).length=l.length:=by simp[strA]
theorem qkI{α β:Type}(g:α→List β){l:List α}{i:Nat}(h:i<l.length):l.flatMap g=(l.take i).flatMap g++(g l[i]++(l.drop (i+1)).flatMap g):=by
 have h1:l=l.take i++(l[i]::l.drop (i+1)):=by rw[←qvp h,quF]
 conv=>lhs;rw[h1]
 rw[List.flatMap_append,quT]
theorem qiJ{α β:Type}(g:α→List β){l:List α}{i j:Nat}{y:β}(h:i<l.length)(hj:(g l[i])[j]?=some y):(l.flatMap g)[((l.take i).flatMap g).length+j]?=some y:=by
 rw[qkI g h,qtW (by omega),qvi,qt0 (qtV.1 hj).1,hj]
theorem qjn{α β:Type}(g:α→List β){l:List α}{i:Nat}(h:i<l.length):((l.take (i+1)).flatMap g).length=((l.take i).flatMap g).length+(g l[i]).length:=by
 rw[qt9,qtX h,quB,List.flatMap_append,qub];simp
def qcr(d:List De):List ByteArray:=d.flatMap De.names
theorem qcN(d:List De)(b:List Sm):qag d b=qcr d++qak b:=rfl
theorem qh4(l:List Sm)(b:Bool)(S:St):Spec prog 158 [.sl b (l.map Sm.v)] S (fun v U=>v=.fn (.func 187) [] [.ptr S.length 0 0 1]∧U=S++[.arr [.sl false (l.map Sm.v)] 1 1]):=by
 refine Spec.weakA ?_;simp only[V.weakL,V.weak,wSm];refine Spec.ib func158 ok158 ?_;simp[c158,boxS];exact qaj rfl ⟨rfl,rfl⟩
theorem qrh(s:Sm)(S:St):Spec prog 219 [s.v] S (fun v U=>v=.fn (.func 255) [] [.ptr S.length 0 0 1]∧U=S++[.arr [s.v] 8 1]):=by
 refine Spec.ib func219 ok219 ?_;simp[c219,boxS];exact qaj rfl ⟨rfl,rfl⟩
theorem qrW(d:De)(S:St):Spec prog 272 [d.v] S (fun v U=>v=.fn (.func 277) [] [.ptr S.length 0 0 1]∧U=S++[.arr [d.v] 7 1]):=by
 refine Spec.ib func272 ok272 ?_;simp[c272,boxS];exact qaj rfl ⟨rfl,rfl⟩
theorem qlq(d:De)(hl:d.formals.length≤B50)(c:Nat):qhM prog 277 [] [.ptr c 0 0 1] (strA (d.formals.map Fo.name)) (fun U=>U[c]?=some (.arr [d.v] 7 1)):=by
 intro S l J D F0 hB hcap hJ hD _ _ hy h0;have hc:=hcap _ _ _ h0;unfold B50 at hl;rw[qdV,qt2];refine Spec.ib func277 ok277 ?_;simp[c277,ldS,hc];refine qar (fun j e S'=>∃i:Nat,j=d.formals.length - i∧i≤d.formals.length∧∃F,J i F S'∧Kg F0 S F S'∧
  e=[(8,.int .i64 i),(7,.int .i64 d.formals.length),(6,.sl false (d.formals.map Fo.v)),(0,.yld l)]) d.formals.length _ ?_ ⟨0,by simp,by omega,F0,h0,Kg.refl _ _,rfl⟩ ?_
 ·exact Env.so (by simp)
 rintro j e S' ⟨i,rfl,hi,F,hj,hk,rfl⟩;by_cases h:i<d.formals.length
 ·simp[h,iaFo,boxS,stS,qac,ldS];refine useY (hy i _ (qgw (x:=d.formals[i].name) (by simp[h])) F _ (hJ _ _ _ _ hj) (hk.push _)) ?_;rintro v U' ⟨F',hk',⟨rfl,hj'⟩|⟨rfl,hd'⟩⟩
  ·simp[qaL (n:=(i:Int)+1)];refine ⟨_,?_,_,?_,i+1,rfl,by omega,F',hj',(hk.push _).trans hk',rfl⟩
   ·omega
   ·exact Env.so (by simp)
  ·simp;exact qaj rfl ⟨F',(hk.push _).trans hk',.inr hd'⟩
 ·simp[h];have:i=d.formals.length:=by omega
  subst this;exact qaE rfl ⟨F,hk,.inl hj⟩
theorem qfv(l:List Sm)(hl:l.length≤B50)(hok:Sm.okL l)(c:Nat):qhM prog 187 [] [.ptr c 0 0 1] (strA (qak l)) (fun U=>U[c]?=some (.arr [.sl false (l.map Sm.v)] 1 1)):=by
 intro S y J D F0 hB hcap hJ hD _ _ hy h0;have hc:=hcap _ _ _ h0;unfold B50 at hl;rw[qdV];refine Spec.ib func187 ok187 ?_;simp[c187,ldS,hc];refine qar (fun j e S'=>∃i:Nat,j=l.length - i∧i≤l.length∧∃F,J (qak (l.take i)).length F S'∧Kg F0 S F S'∧
  e=[(9,.int .i64 i),(8,.int .i64 l.length),(7,.sl false (l.map Sm.v)),(0,.yld y)]) l.length _ ?_ ⟨0,by simp,by omega,F0,h0,Kg.refl _ _,rfl⟩ ?_
 ·exact Env.so (by simp)
 rintro j e S' ⟨i,rfl,hi,F,hj,hk,rfl⟩;by_cases h:i<l.length
 case neg=>
  simp[h];have:i=l.length:=by omega
  subst this;rw[qun] at hj;exact qaE rfl ⟨F,hk,.inl hj⟩
 have hll:=((Sm.ok_iff _).1 (Sm.okL_mem hok _ (qt7 h))).labels.1;unfold B50 at hll;simp[h,iaSm,boxS,stS,qac,ldS];refine qaz (fun e U=>∃F,J (qak (l.take (i+1))).length F U∧Kg F0 S F U∧e.get 9=some (.int .i64 i)∧e.get 8=some (.int .i64 l.length)∧e.get 7=some (.sl false (l.map Sm.v))∧e.get 0=some (.yld y)) ?_ ?_
 ·refine qar (fun j e U=>∃k:Nat,j=l[i].labels.length - k∧k≤l[i].labels.length∧∃F,J ((qak (l.take i)).length+k) F U∧Kg F0 S F U∧
   e=[(16,.int .i64 k),(15,.int .i64 l[i].labels.length),(14,.sl false (l[i].labels.map .str)),(9,.int .i64 i),(8,.int .i64 l.length),(7,.sl false (l.map Sm.v)),(0,.yld y)]) l[i].labels.length _ ?_ ⟨0,by simp,by omega,F,hJ _ _ _ _ hj,hk.push _,rfl⟩ ?_
  ·exact Env.so (by simp)
  rintro j e U ⟨k,rfl,hki,F,hj,hk,rfl⟩;by_cases g:k<l[i].labels.length
  ·simp[g,qc4];refine useY (hy _ _ (qgw (qiJ Sm.labels h (y:=l[i].labels[k]) (by simp[g]))) F _ hj hk) ?_;rintro v U' ⟨F',hk',⟨rfl,hj'⟩|⟨rfl,hd'⟩⟩
   ·simp[qaL (n:=(k:Int)+1)];refine ⟨_,?_,_,?_,k+1,rfl,by omega,F',hj',hk.trans hk',rfl⟩
    ·omega
    ·exact Env.so (by simp)
   ·simp;exact qaj rfl ⟨F',hk.trans hk',.inr hd'⟩
  ·have:k=l[i].labels.length:=by omega
   subst this;simp;refine ⟨F,?_,hk⟩;have:=qjn Sm.labels h;unfold qak at *;rw[this];exact hj
 rintro e U ⟨F,hj,hk,g9,g8,g7,g0⟩;simp[g9,qaL (n:=(i:Int)+1)];refine ⟨_,?_,_,?_,i+1,rfl,by omega,F,hj,hk,rfl⟩
 ·omega
 ·repeat' first|exact Env.sub_nil _|refine Env.sub_cons (by simp[g8,g7,g0]) ?_
theorem qnj(s:Sm)(hds:s.decls.length≤B50∧De.okL s.decls)(hbs:s.body.length≤B50∧Sm.okL s.body)(c:Nat):qhM prog 255 [] [.ptr c 0 0 1] (strA (qag s.decls s.body)) (fun U=>U[c]?=some (.arr [s.v] 8 1)):=by
 intro S y J D F0 hB hcap hJ hD hJl hDl hy h0;have hc:=hcap _ _ _ h0;have hdl:=hds.1;unfold B50 at hdl;rw[qdV];have nM:¬ F0 S.length:=fun h=>by have:=hB _ _ _ h0 _ h;omega
 have hyd:∀(i:Nat) (x:ByteArray),(qcr s.decls)[i]?=some x→∀F U,J i F U→Kg F0 S F U→qbJ prog y [.str x] U (fun v U'=>∃F',Kg F U F' U'∧((v=.bool true∧J (i+1) F' U')∨(v=.bool false∧D F' U'))):=fun i x hx=>
  hy i _ (qgw (by rw[qcN,qt0 (qtV.1 hx).1];exact hx))
 have hyl:∀(i:Nat) (a:List V),(strA (qak s.body))[i]?=some a→∀F U,J ((qcr s.decls).length+i) F U→Kg F0 S F U→qbJ prog y a U (fun v U'=>∃F',Kg F U F' U'∧((v=.bool true∧J ((qcr s.decls).length+i+1) F' U')∨(v=.bool false∧D F' U'))):=fun i a ha=>
  hy _ a (by
   unfold strA at ha ⊢;rw[quf] at ha;obtain ⟨x,hx,rfl⟩:=qt4.1 ha;rw[qcN,quh];rw[qtW (by simp),qt2,qvi];simp[hx])
 refine Spec.ib func255 ok255 ?_;have hc1:(S++[Ob.arr [.yld y] 1 1])[c]?=some (.arr [s.v] 8 1):=gp hc;have hy1:(S++[Ob.arr [.yld y] 1 1])[S.length]?=some (.arr [.yld y] 1 1):=by simp
 have hk1:Kg F0 S F0 (S++[Ob.arr [.yld y] 1 1]):=(Kg.refl _ _).push _;have hj1:=hJ _ _ _ (Ob.arr [.yld y] 1 1) h0;simp[c255,boxS,V.cells,V.flat,V.size];generalize S++[Ob.arr [.yld y] 1 1]=S1 at hc1 hy1 hk1 hj1 ⊢;simp[ldS,hc1];refine qaz (fun e U=>∃F,J (qcr s.decls).length F U∧Kg F0 S F U∧¬ F S.length∧U[S.length]?=some (.arr [.yld y] 1 1)∧e.get 1=some (.ptr c 0 0 1)∧e.get 2=some (.ptr S.length 0 0 1)) ?_ ?_
 ·refine qar (fun j e U=>∃i:Nat,j=s.decls.length - i∧i≤s.decls.length∧∃F,J (qcr (s.decls.take i)).length F U∧Kg F0 S F U∧¬ F S.length∧U[S.length]?=some (.arr [.yld y] 1 1)∧
   e=[(11,.int .i64 i),(10,.int .i64 s.decls.length),(9,.sl false (s.decls.map De.v)),(1,.ptr c 0 0 1),(2,.ptr S.length 0 0 1)]) s.decls.length _ ?_ ⟨0,by simp,by omega,F0,hj1,hk1,nM,hy1,rfl⟩ ?_
  ·exact Env.so (by simp)
  rintro j e U ⟨i,rfl,hi,F,hj,hk,nF,hyy,rfl⟩;by_cases h:i<s.decls.length
  case neg=>
   have:i=s.decls.length:=by omega
   subst this;rw[qun] at hj;simp;exact ⟨F,hj,hk,nF,hyy⟩
  have hll:=((De.ok_iff _).1 (De.okL_mem hds.2 _ (qt7 h))).names.1;unfold B50 at hll;simp[h,iaDe,boxS,stS,qac,ldS];refine qaz (fun e U=>∃F,J (qcr (s.decls.take (i+1))).length F U∧Kg F0 S F U∧¬ F S.length∧U[S.length]?=some (.arr [.yld y] 1 1)∧e.get 11=some (.int .i64 i)∧e.get 10=some (.int .i64 s.decls.length)∧e.get 9=some (.sl false (s.decls.map De.v))∧e.get 1=some (.ptr c 0 0 1)∧e.get 2=some (.ptr S.length 0 0 1)) ?_ ?_
  ·refine qar (fun j e U=>∃k:Nat,j=s.decls[i].names.length - k∧k≤s.decls[i].names.length∧∃F,J ((qcr (s.decls.take i)).length+k) F U∧Kg F0 S F U∧¬ F S.length∧U[S.length]?=some (.arr [.yld y] 1 1)∧
    e=[(18,.int .i64 k),(17,.int .i64 s.decls[i].names.length),(16,.sl false (s.decls[i].names.map .str)),(11,.int .i64 i),(10,.int .i64 s.decls.length),(9,.sl false (s.decls.map De.v)),(1,.ptr c 0 0 1),(2,.ptr S.length 0 0 1)]) s.decls[i].names.length _ ?_ ⟨0,by simp,by omega,F,hJ _ _ _ _ hj,hk.push _,nF,gp hyy,rfl⟩ ?_
   ·exact Env.so (by simp)
   rintro j e U ⟨k,rfl,hki,F,hj,hk,nF,hyy,rfl⟩;by_cases g:k<s.decls[i].names.length
   ·simp[g,qc4,ldS,hyy];refine useY (hyd _ _ (qiJ De.names h (y:=s.decls[i].names[k]) (by simp[g])) F _ hj hk) ?_;rintro v U' ⟨F',hk',⟨rfl,hj'⟩|⟨rfl,hd'⟩⟩
    ·simp[qaL (n:=(k:Int)+1)];refine ⟨_,?_,_,?_,k+1,rfl,by omega,F',hj',hk.trans hk',hk'.off (glt hyy) nF,hk'.k.at hyy nF,rfl⟩
     ·omega
     ·exact Env.so (by simp)
    ·simp;exact qaj rfl ⟨F',hk.trans hk',.inr hd'⟩
   ·have:k=s.decls[i].names.length:=by omega
    subst this;simp;refine ⟨F,?_,hk,nF,hyy⟩;have:=qjn De.names h;unfold qcr at *;rw[this];exact hj
  rintro e U ⟨F,hj,hk,nF,hyy,g11,g10,g9,g1,g2⟩;simp[g11,qaL (n:=(i:Int)+1)];refine ⟨_,?_,_,?_,i+1,rfl,by omega,F,hj,hk,nF,hyy,rfl⟩
  ·omega
  ·repeat' first|exact Env.sub_nil _|refine Env.sub_cons (by simp[g10,g9,g1,g2]) ?_
 rintro e U ⟨F,hj,hk,nF,hyy,g1,g2⟩;have hcU:=hcap _ _ _ hj;have hBU:=hB _ _ _ hj;simp[g1,ldS,hcU];refine qan (qh4 s.body false U) ?_;rintro v U2 ⟨rfl,rfl⟩;simp;have hlen:(qag s.decls s.body).length=(qcr s.decls).length+(qak s.body).length:=by rw[qcN,qub]
 have hUl:=hk.k.len;have hylt:=glt hyy;refine qhe (k:=187) (fs:=[]) (cs:=[.ptr U.length 0 0 1]) (by simp) (qfv s.body hbs.1 hbs.2 U.length) rfl rfl rfl (by intro a ha;obtain ⟨x,_,rfl⟩:=qul.1 ha;rfl) F
  (fun i F V=>J ((qcr s.decls).length+i) F V∧V[U.length]?=some (.arr [.sl false (s.body.map Sm.v)] 1 1)∧V[S.length]?=some (.arr [.yld y] 1 1)∧Kg F0 S F V∧¬ F S.length∧¬ F U.length∧¬ F (U.length+1)) (fun F V=>D F V∧Kg F0 S F V) (fun _ _ _=>False) ?_ ?_ ?_ ?_ ?_ ?_ ?_ ?_ ?_ ?_ ?_ ?_ ?_
 ·rintro i F V ⟨h,_⟩;exact hB _ _ _ h
 ·rintro i F V ⟨_,h,_⟩;exact h
 ·rintro i F V ⟨a,b,c,d,n⟩ o;exact ⟨hJ _ _ _ _ a,gp b,gp c,d.push _,n⟩
 ·rintro F V ⟨a,d⟩ o;exact ⟨hD _ _ _ a,d.push _⟩
 ·rintro id F V h;exact h.elim
 ·rintro i F V L o o' hL ⟨a,b,c,d,n⟩ hl;simp at hL;exact ⟨hJl _ _ _ _ _ _ (by omega) a hl,gl b (by simp) hl,gl c (by simp) hl,d.set _ (.inr (by omega)),n⟩
 ·rintro F V L o o' hL ⟨a,d⟩ hl;simp at hL;exact ⟨hDl _ _ _ _ _ (by omega) a hl,d.set _ (.inr (by omega))⟩
 ·rintro id F V L o o' hL h;exact h.elim
 ·exact ⟨hJ _ _ _ _ (hJ _ _ _ _ hj),by simp,gp (gp hyy),(hk.push _).push _,nF,fun h=>by have:=hBU _ h;omega,fun h=>by have:=hBU _ h;omega⟩
 ·rintro i av hav F V ⟨hjv,h1,h2,h3,nS,nU,nL⟩ hkk hl;have hav':=hav;unfold strA at hav';rw[quf] at hav';obtain ⟨x,hx,rfl⟩:=qt4.1 hav';generalize hke:Env.keep _ _=ke at hl ⊢;have k2:ke.get 2=some (.ptr S.length 0 0 1):=by rw[←hke];exact Env.keep_get (by simp) (by simp[g2])
  clear hke;simp at hl;simp[qcE];refine qcR hl rfl ?_;have lV:=glt hl;have hjw:=hJl _ _ _ _ _ { st:=.busy,pend:=none,ps:=[31],asg:=(rfAt Tryz.f255 0).1,body:=(rfAt Tryz.f255 0).2,e:=ke,N:=36 } (by omega) hjv hl;have hyw:=gl (i':={ st:=.busy,pend:=none,ps:=[31],asg:=(rfAt Tryz.f255 0).1,body:=(rfAt Tryz.f255 0).2,e:=ke,N:=36 }) h2 (by simp) hl;have hcw:=gl (i':={ st:=.busy,pend:=none,ps:=[31],asg:=(rfAt Tryz.f255 0).1,body:=(rfAt Tryz.f255 0).2,e:=ke,N:=36 }) h1 (by simp) hl;have hLw:(V.set (U.length+1) (.loop { st:=.busy,pend:=none,ps:=[31],asg:=(rfAt Tryz.f255 0).1,body:=(rfAt Tryz.f255 0).2,e:=ke,N:=36 }))[U.length+1]?=some (.loop _):=qtZ lV;have hkw:Kg (fun x=>F x∨x=U.length+1) V (fun x=>F x∨x=U.length+1) (V.set (U.length+1) (.loop { st:=.busy,pend:=none,ps:=[31],asg:=(rfAt Tryz.f255 0).1,body:=(rfAt Tryz.f255 0).2,e:=ke,N:=36 })):=(Kg.refl _ _).set _ (.inl (.inr rfl));have h3w:Kg F0 S F (V.set (U.length+1) (.loop { st:=.busy,pend:=none,ps:=[31],asg:=(rfAt Tryz.f255 0).1,body:=(rfAt Tryz.f255 0).2,e:=ke,N:=36 })):=h3.set _ (.inr (by omega));generalize V.set (U.length+1) _=W at hjw hyw hcw hLw hkw h3w ⊢;simp[k2,ldS,hyw];refine useY (hyl i _ hav F W hjw h3w) ?_;rintro v X ⟨F',xk,⟨rfl,xj⟩|⟨rfl,xd⟩⟩
  ·simp;have hLX:=xk.k.at hLw nL;exact qgW ⟨rfl,rfl⟩ hLX (hkw.trans (xk.with _ (glt hLw))) ⟨hJl _ _ _ _ _ _ (by omega) xj hLX,gl (xk.k.at hcw nU) (by simp) hLX,gl (xk.k.at hyw nS) (by simp) hLX,(h3w.trans xk).set _ (.inr (by omega)),xk.off (glt hyw) nS,xk.off (glt hcw) nU,xk.off (glt hLw) nL⟩
  ·simp;have hLX:=xk.k.at hLw nL;exact qsl hLX (hkw.trans (xk.with _ (glt hLw))) ⟨hDl _ _ _ _ _ (by omega) xd hLX,(h3w.trans xk).set _ (.inr (by omega))⟩
 ·rintro F V ⟨hjv,_,_,h3,_⟩ _;rw[qdV] at hjv;simp;refine qaE rfl ⟨F,h3,.inl ?_⟩;rw[hlen];exact hjv
 ·rintro F V ⟨hd,h3⟩ _;exact qaj rfl ⟨F,h3,.inr hd⟩
 ·rintro id F V h;exact h.elim
theorem qed(x:ByteArray):∀(l:List ByteArray) (s:Sco) (n:Nat),binds (l++[x]) s n=(if ((binds l s n).at x).isSome then binds l s n else binds l s n++[(x,n+((binds l s n).length - s.length))])∧s.length≤(binds l s n).length
 | [],s,n=>by simp only[qut,binds];exact ⟨by simp,qt1 _⟩
 | y::l,s,n=>by
  simp only[qt8,binds];split
  ·exact qed x l s n
  ·obtain ⟨h1,h2⟩:=qed x l (s++[(y,n)]) (n+1);simp only[qub,quy,qve] at h2;refine ⟨?_,by omega⟩;rw[h1];split
   ·rfl
   ·rw[show n+1+((binds l (s++[(y,n)]) (n+1)).length - (s++[(y,n)]).length)=n+((binds l (s++[(y,n)]) (n+1)).length - s.length) by simp;omega]
theorem qbU(x:ByteArray)(l:List ByteArray)(n:Nat):qad (l++[x]) n=if ((qad l n).at x).isSome then qad l n else qad l n++[(x,n+(qad l n).length)]:=by
 have:=(qed x l [] n).1;unfold qad;rw[this];simp only[qve,Nat.sub_zero]
theorem qfA(n:Nat):∀(l:List ByteArray) (s:Sco) (m:Nat),(binds l s m).length≤s.length+l.length
 | [],s,m=>by simp[binds]
 | x::l,s,m=>by
  simp only[binds];split
  ·have:=qfA n l s m;simp only[quy];omega
  ·have:=qfA n l (s++[(x,m)]) (m+1);simp only[qub,quy,qve] at *;omega
theorem qk5(l:List ByteArray)(n:Nat):(qad l n).length≤l.length:=by
 have:=qfA 0 l [] n;simp only[qve,quZ] at this;exact this
theorem qdu(names:List ByteArray)(n:Nat):∀(k i:Nat),i+k=names.length→(qad (names.take i) n).length≤(qad names n).length
 | 0,i,h=>by rw[quu (by omega)];exact qt1 _
 | k+1,i,h=>by
  have h1:=qdu names n k (i+1) (by omega);have hlt:i<names.length:=by omega
  have hs:=qbU names[i] (names.take i) n;rw[show names.take i++[names[i]]=names.take (i+1) by rw[qt9,qtX hlt];rfl] at hs
  have:(qad (names.take i) n).length≤(qad (names.take (i+1)) n).length:=by
   rw[hs];split
   ·exact qt1 _
   ·simp only[qub];omega
  omega
theorem qnZ(y:V):V.upd .nilp 0 1 y=if y.size=1∧y.cells.all V.flat=true then some y else none:=rfl
theorem qqN{S:St}{lm:Nat}{t:Sct}{bs:List Nat}{ck:Nat}(x:ByteArray)(v:V)(h:S[lm]?=some (.map (t.map entT) bs ck))(hx:qdO t x=none):
  mupS S .str (.map lm) (.str x) v=some (S.set lm (.map (t.map entT++[(.str x,v)]) (bs++[ck]) (ck+1))):=by
 obtain ⟨j,hj⟩:=qdL x t 0;unfold mupS;rw[if_pos (by rfl)];simp only[h,hj,hx];rfl
def qf8(n:Nat):List Nat:=List.range n
structure BJ(c:Cb)(w ci n B:Nat)(v:V)(co:Ob)(h:c.H)(F D:Nat→Prop)(t:Sct)(U:St):Prop where
 wk:Wk c w (n+t.length) (enters c.toPw h t.sco) F D U
 tc:U[ci]?=some co
 t0:U[B]?=some (.arr [.ptr w 0 0 1] 1 1)
 t1:U[B+1]?=some (.arr [.agg [v]] 1 1)
 t2:U[B+2]?=some (.map (t.map entT) (qf8 t.length) t.length)
 t3:U[B+3]?=some (.arr [.agg [.ptr (B+1) 0 0 1,.map (B+2)]] 2 1)
 t4:U[B+4]?=some (.arr [.ptr (B+3) 0 0 1] 1 1)
 off:∀j,j<5→Off w F D (B+j)
 offc:Off w F D ci
 pl:∀e,e∈t→¬ F e.2.2∧U[e.2.2]?=some (plc e.1 e.2.1 (c.f e.2.1 e.1))
 ge:∀e,e∈t→B+6≤e.2.2
section
variable {c:Cb} (ok:c.Ok) {w ci n B:Nat} {v:V} {co:Ob} {h:c.H} {F D:Nat→Prop} {t:Sct} {U:St}
include ok
theorem BJ.push(b:BJ c w ci n B v co h F D t U)(o:Ob):BJ c w ci n B v co h F D t (U++[o]):=
 ⟨b.wk.push ok _,gp b.tc,gp b.t0,gp b.t1,gp b.t2,gp b.t3,gp b.t4,b.off,b.offc,fun e he=>⟨(b.pl e he).1,gp (b.pl e he).2⟩,b.ge⟩
theorem Wk.loop{n:Nat}{h:c.H}(k:Wk c w n h F D U){L:Nat}{i:LI}(o:Ob)(hL:U[L]?=some (.loop i)):Wk c w n h F D (U.set L o):=
 k.set ok o (by rintro rfl;have:=k.tw;rw[hL] at this;cases this) (ok.lp k.st L i hL).1 (ok.lp k.st L i hL).2
theorem BJ.loop(b:BJ c w ci n B v co h F D t U)(hco:∀i,co≠.loop i){L:Nat}{i i':LI}(hL:U[L]?=some (.loop i)):BJ c w ci n B v co h F D t (U.set L (.loop i')):=
 ⟨b.wk.loop ok _ hL,gl b.tc hco hL,gl b.t0 (by simp) hL,gl b.t1 (by simp) hL,gl b.t2 (by simp) hL,gl b.t3 (by simp) hL,gl b.t4 (by simp) hL,b.off,b.offc,fun e he=>⟨(b.pl e he).1,gl (b.pl e he).2 (by simp[plc]) hL⟩,b.ge⟩
def qcn(c:Cb)(w n B:Nat)(x:ByteArray)(t:Sct)(W:St):St:=
 ((W++[plc x (n+t.length) x]).set w (wkr c (n+t.length+1))).set (B+2) (.map (t.map entT++[(.str x,.ptr W.length 0 0 1)]) (qf8 t.length++[t.length]) (t.length+1))
omit ok in
theorem qe1(x:ByteArray)(W:St):Kp (fun l=>l=w∨l=B+2) W (qcn c w n B x t W):=by
 unfold qcn;exact (((Kp.refl _ _).push _).set _ (.inl (.inl rfl))).set _ (.inl (.inr rfl))
omit ok in
theorem qhj(x:ByteArray)(W:St):(qcn c w n B x t W).length=W.length+1:=by unfold qcn;simp
omit ok in
theorem qr6(x:ByteArray){W:St}(hw:w<W.length)(hB:B+2<W.length):(qcn c w n B x t W)[W.length]?=some (plc x (n+t.length) x):=by
 unfold qcn;rw[qtY (by omega),qtY (by omega)];simp
theorem BJ.ready(b:BJ c w ci n B v co h F D t U)(x:ByteArray):c.I (enters c.toPw h t.sco) F D (qcn c w n B x t U):=
 ok.fr b.wk.st (qe1 x U) fun l hl _=>by
  rcases hl with rfl|rfl
  ·exact ⟨b.wk.nF,b.wk.nD⟩
  ·exact ⟨(b.off 2 (by omega)).2.1,(b.off 2 (by omega)).2.2⟩
theorem BJ.step(b:BJ c w ci n B v co h F D t U)(x:ByteArray)(hw:w<B)(hc:ci<B)(hB:B+6≤U.length){F' D':Nat→Prop}{X:St}(hX:c.I (c.ent (enters c.toPw h t.sco) (n+t.length) x) F' D' X)
  (hp:X[U.length]?=some (plc x (n+t.length) (c.f (n+t.length) x))) (hk:Kp (fun l=>l=U.length∨F l) (qcn c w n B x t U) X) (gF:grow (qcn c w n B x t U) F F') (gD:∀l,D' l→D l∨l=U.length∨(qcn c w n B x t U).length≤l):
  BJ c w ci n B v co h F' D' (t++[(x,n+t.length,U.length)]) X∧(∀{F0 D0:Nat→Prop} {S:St},S.length≤B→Stp w F0 D0 S F D U→Stp w F0 D0 S F' D' X):=by
 have hl:=qhj (c:=c) (w:=w) (n:=n) (B:=B) (t:=t) x U;have lt:∀l,F l∨D l→l<U.length:=ok.lt b.wk.st;have hs:=b.push ok (plc x (n+t.length) x)
 have get:∀(l:Nat) (o:Ob),U[l]?=some o→l≠w→l≠B+2→¬ F l→X[l]?=some o:=fun l o ho h1 h2 h3=>by
  have hlt:=(qtV.1 ho).1;exact hk.at ((qe1 x U).at ho (by rintro (rfl|rfl) <;> contradiction)) (by rintro (rfl|hf);omega;exact h3 hf)
 have nF:∀l,l<U.length→¬ F l→¬ F' l:=fun l h1 h2 h3=>(gF l h3).elim h2 (by omega)
 have nD:∀l,l<U.length→¬ D l→¬ D' l:=fun l h1 h2 h3=>(gD l h3).elim h2 (by omega)
 have offN:∀l,l<U.length→Off w F D l→Off w F' D' l:=fun l h1 h2=>⟨h2.1,nF l h1 h2.2.1,nD l h1 h2.2.2⟩
 have hsl:t.sco.length=t.length:=qt2 _;have hsco:Sct.sco (t++[(x,n+t.length,U.length)])=t.sco++[(x,n+t.length)]:=quh;refine ⟨⟨⟨?_,?_,nF w (by omega) b.wk.nF,nD w (by omega) b.wk.nD,?_⟩,get _ _ b.tc b.offc.1 (by omega) b.offc.2.1,get _ _ b.t0 (by omega) (by omega) (b.off 0 (by omega)).2.1,get _ _ b.t1 (by omega) (by omega) (b.off 1 (by omega)).2.1,?_,get _ _ b.t3 (by omega) (by omega) (b.off 3 (by omega)).2.1,get _ _ b.t4 (by omega) (by omega) (b.off 4 (by omega)).2.1,fun j hj=>offN _ (by omega) (b.off j hj),offN _ (by omega) b.offc,?_,?_⟩,fun {F0 D0 S} hS s=>⟨⟨?_,fun l hl hn=>?_⟩,fun l hf=>(gF l hf).elim (s.gF l) (by have:=s.k.len;omega),fun l hf=>(gD l hf).elim (s.gD l) (by have:=s.k.len;omega)⟩⟩
 ·have:(qcn c w n B x t U)[w]?=some (wkr c (n+t.length+1)):=by
   unfold qcn;rw[qtY (by omega),qtZ (by simp;omega)]
  rw[hk.at this (by rintro (rfl|hf);omega;exact b.wk.nF hf)];simp[quN]
 ·rw[hsco];unfold enters;rw[quL];exact hX
 ·rw[hsco];unfold enters;rw[quL,qub,←quN];exact ok.ce x b.wk.cn
 ·have:(qcn c w n B x t U)[B+2]?=some (.map (t.map entT++[(.str x,.ptr U.length 0 0 1)]) (qf8 t.length++[t.length]) (t.length+1)):=by
   unfold qcn;rw[qtZ (by simp;omega)]
  rw[hk.at this (by rintro (hh|hf);omega;exact (b.off 2 (by omega)).2.1 hf)];simp[qf8,List.range_succ,entT]
 ·intro e he;rcases qup.1 he with he|he
  ·have h1:=b.ge e he;have h2:=glt (b.pl e he).2;exact ⟨nF _ h2 (b.pl e he).1,get _ _ (b.pl e he).2 (by omega) (by omega) (b.pl e he).1⟩
  ·simp at he;subst he;refine ⟨fun hf=>(gF _ hf).elim (fun hh=>?_) (fun hh=>?_),hp⟩
   ·have:=lt _ (.inl hh);simp at this
   ·simp only at hh;omega
 ·intro e he;rcases qup.1 he with he|he
  ·exact b.ge e he
  ·simp at he;subst he;exact hB
 ·have:=s.k.len;have:=hk.len;omega
 ·have h1:=s.k.len;have h2:¬ F l:=fun hf=>hn (.inr ((s.gF l hf).resolve_right (by omega)))
  rw[hk.get l (by omega) (by rintro (rfl|hf);omega;exact h2 hf),(qe1 x U).get l (by omega) (by rintro (rfl|rfl);exact hn (.inl rfl);omega)];exact s.k.get l hl hn
end
def qtB(c:Cb)(w n:Nat)(h:c.H)(F D Y:Nat→Prop)(ts:List Sct)(s:Sco)(S:St)(r:V)(U:St):Prop:=
 ∃(t:Sct) (F' D':Nat→Prop),t.sco=s∧Wk c w (n+t.length) (enters c.toPw h s) F' D' U∧Stp w F D S F' D' U∧ScR c.toPw (fun l=>l=w∨F' l∨Y l) U r (t::ts)
def BInv(c:Cb)(w ci n:Nat)(v:V)(co:Ob)(h:c.H)(F D:Nat→Prop)(names:List ByteArray)(S:St)(i:Nat)(G:Nat→Prop)(U:St):Prop:=
 ∃(t:Sct) (F' D':Nat→Prop),G=(fun x=>x=w∨x=S.length+2∨F' x)∧t.sco=qad (names.take i) n∧BJ c w ci n S.length v co h F' D' t U∧Stp w F D S F' D' U
theorem qgt(c:Cb)(ok:c.Ok)(w n:Nat)(h:c.H)(F D:Nat→Prop)(v:V)(ts:List Sct)(names:List ByteArray)(g:Nat)(cs:List V)(ci:Nat)(co:Ob)(hy:qhM prog g [] cs (strA names) (fun U=>U[ci]?=some co))(hco:∀i,co≠.loop i)(S:St)
  (hk:Wk c w n h F D S) (Y:Nat→Prop) (hY:∀l,Y l→l<S.length) (hsc:ScR c.toPw (fun l=>l=w∨F l∨Y l) S v ts) (hc:S[ci]?=some co) (hoc:Off w F D ci) (hn:n+(qad names n).length≤c.lim):
  Spec prog 157 [.ptr w 0 0 1,v,.fn (.func g) [] cs] S (fun r U=>qtB c w n h F D Y ts (qad names n) S r U):=by
 refine Spec.ib func157 ok157 ?_;have lw:=glt hk.tw;have lc:=glt hc
 obtain ⟨hvc,hvf⟩:v.cells=[v]∧v.flat=true:=by
  cases ts with
  | nil=>have h':v=.nilp:=hsc;subst h';exact ⟨rfl,rfl⟩
  | cons t r=>obtain ⟨l,_,_,_,_,_,rfl,_⟩:=hsc;exact ⟨rfl,rfl⟩
 have hvs:v.size=1:=by show v.cells.length=1;rw[hvc];rfl
 simp[c157,boxS,ldS,stS,qac,qnZ,qal,qaf,evX,hvc,hvf,hvs];obtain ⟨B1,hB1⟩:∃B1:St,S++[.arr [.ptr w 0 0 1] 1 1,.arr [.agg [v]] 1 1,.map [] [] 0,.arr [.agg [.ptr (S.length+1) 0 0 1,.map (S.length+2)]] 2 1,.arr [.ptr (S.length+3) 0 0 1] 1 1]=B1:=⟨_,rfl⟩
 have hb:∀(j:Nat) (o:Ob),[Ob.arr [.ptr w 0 0 1] 1 1,.arr [.agg [v]] 1 1,.map [] [] 0,.arr [.agg [.ptr (S.length+1) 0 0 1,.map (S.length+2)]] 2 1,.arr [.ptr (S.length+3) 0 0 1] 1 1][j]?=some o→B1[S.length+j]?=some o:=fun j o h=>by
  rw[←hB1,qtW (by omega),qvi];exact h
 have lB:B1.length=S.length+5:=by rw[←hB1];simp
 have kB:Stp w F D S F D B1:=by rw[←hB1];exact (Stp.refl _ _ _ _).push _
 have bj0:BJ c w ci n S.length v co h F D [] B1:=⟨by rw[←hB1];exact hk.push ok _,by rw[←hB1,qt0 lc];exact hc,hb 0 _ rfl,hb 1 _ rfl,hb 2 _ rfl,hb 3 _ rfl,hb 4 _ rfl,fun j _=>hk.out ok (by omega),hoc,fun e he=>by simp at he,fun e he=>by simp at he⟩;rw[hB1];clear hb hB1;refine qhe (k:=g) (fs:=[]) (cs:=cs) (by simp) hy rfl rfl rfl (by intro a ha;obtain ⟨x,_,rfl⟩:=qul.1 ha;rfl) (fun x=>x=w∨x=S.length+2∨F x)
  (BInv c w ci n v co h F D names S) (fun _ _=>False) (fun _ _ _=>False) ?_ ?_ ?_ ?_ ?_ ?_ ?_ ?_ ?_ ?_ ?_ ?_ ?_
 ·rintro i G U ⟨t,F',D',rfl,_,h,_⟩ x (rfl|rfl|hx)
  ·exact glt h.wk.tw
  ·exact glt h.t2
  ·exact ok.lt h.wk.st x (.inl hx)
 ·rintro i G U ⟨t,F',D',_,_,h,_⟩;exact h.tc
 ·rintro i G U ⟨t,F',D',h0,h1,h,hk⟩ o;exact ⟨t,F',D',h0,h1,h.push ok o,hk.push _⟩
 ·rintro G U h;exact h.elim
 ·rintro id G U h;exact h.elim
 ·rintro i G U L o o' hL ⟨t,F',D',h0,h1,h,hk⟩ hl;exact ⟨t,F',D',h0,h1,h.loop ok hco hl,hk.set _ (by omega)⟩
 ·rintro G U L o o' hL h;exact h.elim
 ·rintro id G U L o o' hL h;exact h.elim
 ·exact ⟨[],F,D,rfl,rfl,bj0.push ok _,kB.push _⟩
 ·rintro i av hav G U ⟨t,F1,D1,rfl,ht,hj,hkS⟩ hk1 hl;unfold strA at hav;rw[quf] at hav;obtain ⟨x,hx,rfl⟩:=qt4.1 hav;have hnext:=qbU x (names.take i) n;have hte:names.take i++[x]=names.take (i+1):=by rw[qt9,hx];rfl
  rw[hte,←ht,qgK] at hnext;have hsl:t.sco.length=t.length:=qt2 _
  have htl:t.length≤(qad names n).length:=by
   have h1:=qdu names n (names.length - i) i (by have:=(qtV.1 hx).1;omega);rw[←ht,hsl] at h1;exact h1
  generalize hke:Env.keep _ _=ke at hl ⊢;have k3:ke.get 3=some (.ptr S.length 0 0 1):=by rw[←hke];exact Env.keep_get (by simp) (by simp)
  have k7:ke.get 7=some (.ptr (S.length+4) 0 0 1):=by rw[←hke];exact Env.keep_get (by simp) (by simp)
  clear hke;simp[qcE];refine qcR hl rfl ?_;have lV:=glt hl;obtain ⟨li,hli⟩:∃li:LI,li={ st:=.busy,pend:=none,ps:=[19],asg:=(rfAt Tryz.f157 0).fst,body:=(rfAt Tryz.f157 0).snd,e:=ke,N:=63 }:=⟨_,rfl⟩;show WP _ _ _ _ (U.set B1.length (.loop { st:=.busy,pend:=none,ps:=[19],asg:=(rfAt Tryz.f157 0).fst,body:=(rfAt Tryz.f157 0).snd,e:=ke,N:=63 }));rw[←hli];have hjw:=hj.loop ok hco hl (i':=li);have hLw:(U.set B1.length (.loop li))[B1.length]?=some (.loop li):=qtZ lV;have hLo:=hj.wk.loop ok (o:=.loop li) hl;have hoL:Off w F1 D1 B1.length:=⟨by omega,(ok.lp hj.wk.st _ _ hl).1,(ok.lp hj.wk.st _ _ hl).2⟩;have h3w:Stp w F D S F1 D1 (U.set B1.length (.loop li)):=hkS.set _ (by omega);have lW:(U.set B1.length (.loop li)).length=U.length:=by simp
  have hkw:Kg (fun x=>(x=w∨x=S.length+2∨F1 x)∨x=B1.length) U (fun x=>(x=w∨x=S.length+2∨F1 x)∨x=B1.length) (U.set B1.length (.loop li)):=(Kg.refl _ _).set _ (.inl (.inr rfl));generalize U.set B1.length (.loop li)=W at hjw hLw h3w lW hkw ⊢;clear hLo;have hlk:=qmC x hjw.t2;simp[k3,k7,qbb,ldS,hjw.t4,hjw.t3,evX,hlk]
  cases hlo:qdO t x with
  | some p=>
   rw[hlo] at hnext;simp only[que,Option.isSome_some,if_true] at hnext;simp;subst hli;exact qgW ⟨rfl,rfl⟩ hLw hkw ⟨t,F1,D1,rfl,hnext.symm,hjw.loop ok hco hLw,h3w.set _ (by omega)⟩
  | none=>
   rw[hlo] at hnext;simp only[Option.map_none,Option.isSome_none,quw,if_false,hsl] at hnext;have hw0:=hjw.wk.tw;unfold wkr at hw0;simp[k3,k7,qbb,ldS,hjw.t0,hw0,stS,qal,qaf,evX,qac,boxS];have hs1:=hjw.push ok (plc x (n+t.length) x);have hme:=qqN x (.ptr W.length 0 0 1) (lm:=S.length+2) (S:=(W++[plc x (n+t.length) x]).set w (wkr c (n+t.length+1))) (by rw[qtY (by omega)];exact hs1.t2) hlo;have hs1w:=hs1.wk.tw;have p0:=hs1.t0;have p4:=hs1.t4;have p3:=hs1.t3;have hbs:qcn c w n S.length x t W=((W++[plc x (n+t.length) x]).set w (wkr c (n+t.length+1))).set (S.length+2) (.map (t.map entT++[(.str x,.ptr W.length 0 0 1)]) (qf8 t.length++[t.length]) (t.length+1)):=rfl;unfold wkr plc at hs1w hme hbs;unfold plc at p0 p3 p4;push_cast at hs1w hme hbs p0 p3 p4;generalize hW1:W++[Ob.arr [.agg [.int .i64 ((n:Int)+(t.length:Int)),.str x,.str x]] 3 1]=W1 at hs1w hme hbs p0 p3 p4 ⊢;have lW1:W1.length=W.length+1:=by rw[←hW1];simp
   have hL:=ok.lim
   have htl1:t.length+1≤(qad names n).length:=by
    have h1:=qdu names n (names.length - (i+1)) (i+1) (by have:=(qtV.1 hx).1;omega);rw[hnext,qub,hsl] at h1;exact h1
   have i1:=qaA (n:=(n:Int)+(t.length:Int)+1) (by omega) (by omega);obtain ⟨wo,hwo⟩:∃wo,wo=Ob.arr [V.agg [V.int IntKind.i64 (↑n+↑t.length+1),c.fe,c.fn,c.fc]] 4 1:=⟨_,rfl⟩;have e0:(W1.set w wo)[S.length]?=some (.arr [.ptr w 0 0 1] 1 1):=by rw[qtY (by omega)];exact p0
   have e3:(W1.set w wo)[S.length+3]?=some (.arr [.agg [.ptr (S.length+1) 0 0 1,.map (S.length+2)]] 2 1):=by rw[qtY (by omega)];exact p3
   have e4:(W1.set w wo)[S.length+4]?=some (.arr [.ptr (S.length+3) 0 0 1] 1 1):=by rw[qtY (by omega)];exact p4
   have ew:(W1.set w wo)[w]?=some wo:=qtZ (by omega);simp[k3,k7,qbb,ldS,p0,hs1w,stS,qac,i1];rw[←hwo] at hme hbs ⊢;generalize W1.set w wo=W2 at e0 e3 e4 ew hme hbs ⊢;subst hwo;simp[k3,k7,qbb,ldS,e4,e3,evX,hme];rw[←hbs];have hbl:=qhj (c:=c) (w:=w) (n:=n) (B:=S.length) (t:=t) x W;have kb:=qe1 (c:=c) (w:=w) (n:=n) (B:=S.length) (t:=t) x W;have g0:(qcn c w n S.length x t W)[S.length]?=some (.arr [.ptr w 0 0 1] 1 1):=by rw[hbs,qtY (by omega)];exact e0
   have gw:(qcn c w n S.length x t W)[w]?=some (Ob.arr [V.agg [V.int IntKind.i64 (↑n+↑t.length+1),c.fe,c.fn,c.fc]] 4 1):=by rw[hbs,qtY (by omega)];exact ew
   have gL:(qcn c w n S.length x t W)[B1.length]?=some (.loop li):=kb.at hLw (by omega);have gp':=qr6 (c:=c) (w:=w) (n:=n) (B:=S.length) (t:=t) x (W:=W) (by omega) (by omega);have gI:=hjw.ready ok x;have kk:Kp (fun x=>(x=w∨x=S.length+2∨F1 x)∨x=B1.length) U (qcn c w n S.length x t W):=hkw.k.trans (kb.mono fun l _ h=>.inl (h.imp id .inl));clear hbs hme e3 e4;have z0:=e0;clear e0;have fin:∀(F2 D2:Nat→Prop) (X:St),c.I (c.ent (enters c.toPw h t.sco) (n+t.length) x) F2 D2 X→X[W.length]?=some (plc x (n+t.length) (c.f (n+t.length) x))→Kp (fun l=>l=W.length∨F1 l) (qcn c w n S.length x t W) X→grow (qcn c w n S.length x t W) F1 F2→(∀l,D2 l→D1 l∨l=W.length∨(qcn c w n S.length x t W).length≤l)→
     ∃(t':Sct) (F' D':Nat→Prop),X[B1.length]?=some (.loop li)∧Kg (fun x=>(x=w∨x=S.length+2∨F1 x)∨x=B1.length) U (fun x=>(x=w∨x=S.length+2∨F' x)∨x=B1.length) X∧t'.sco=qad (names.take (i+1)) n∧BJ c w ci n S.length v co h F' D' t' X∧Stp w F D S F' D' X:=fun F2 D2 X hX hp hkX gF gD=>by
    obtain ⟨q1,q2⟩:=hjw.step ok x lw lc (by omega) hX hp hkX gF gD;refine ⟨_,F2,D2,hkX.at gL (by rintro (hh|hh);omega;exact hoL.2.1 hh),⟨⟨quJ kk.len hkX.len,fun l hl hn=>?_⟩,fun l hl=>?_⟩,by rw[hnext];exact quh,q1,q2 (qt1 _) h3w⟩
    ·rw[hkX.get l (by omega) (by
      rintro (hh|hh)
      ·omega
      ·exact hn (.inl (.inr (.inr hh))))]
     exact kk.get l hl hn
    ·rcases hl with (hl|hl|hl)|hl
     ·exact .inl (.inl (.inl hl))
     ·exact .inl (.inl (.inr (.inl hl)))
     ·exact (gF l hl).imp (fun a=>.inl (.inr (.inr a))) fun a=>by omega
     ·exact .inl (.inr hl)
   generalize qcn c w n S.length x t W=W3 at g0 gw gL gp' gI kk fin hbl ⊢;rcases ok.en with ⟨e0,e1,e2⟩|⟨ge,ces,e0,hfs⟩
   ·simp[k3,k7,qbb,ldS,g0,gw,z0,ew,e0,eqOk,eqV];obtain ⟨t',F',D',f1,f2,f3,f4,f5⟩:=fin F1 D1 W3 (by rw[e2];exact gI) (by rw[e1];exact gp') (Kp.refl _ _) (grow.refl _ _) (fun l hl=>.inl hl);subst hli;exact qgW ⟨rfl,rfl⟩ f1 f2 ⟨t',F',D',rfl,f3,f4.loop ok hco f1,f5.set _ (by omega)⟩
   ·simp[k3,k7,qbb,ldS,g0,gw,z0,ew,e0,eqOk,eqV];refine qan (hfs W3 W.length (n+t.length) x _ F1 D1 gp' (fun hf=>by have:=ok.lt hjw.wk.st _ (.inl hf);omega) (fun hf=>by have:=ok.lt hjw.wk.st _ (.inr hf);omega) (by omega) hjw.wk.cn gI) ?_;rintro r X ⟨F2,D2,hX,hp,hkX,gF,gD⟩;simp;obtain ⟨t',F',D',f1,f2,f3,f4,f5⟩:=fin F2 D2 X hX hp hkX gF gD;subst hli;exact qgW ⟨rfl,rfl⟩ f1 f2 ⟨t',F',D',rfl,f3,f4.loop ok hco f1,f5.set _ (by omega)⟩
 ·rintro G U ⟨t,F',D',rfl,ht,hj,hkS⟩ hk;rw[qdV,qun] at ht;simp[ldS,hj.t4];refine qaj rfl ⟨t,F',D',ht,by rw[←ht];exact hj.wk,hkS,S.length+3,S.length+1,S.length+2,v,_,_,rfl,⟨?_,?_,?_⟩,hj.t3,hj.t1,hj.t2,fun e he=>⟨?_,(hj.pl e he).2⟩,hsc.mono (hkS.k.mono fun l _ hh=>hh.imp id .inl) fun l hh=>?_⟩
  ·rintro (hh|hh|hh)
   ·omega
   ·exact (hj.off 3 (by omega)).2.1 hh
   ·have:=hY _ hh;omega
  ·rintro (hh|hh|hh)
   ·omega
   ·exact (hj.off 1 (by omega)).2.1 hh
   ·have:=hY _ hh;omega
  ·rintro (hh|hh|hh)
   ·omega
   ·exact (hj.off 2 (by omega)).2.1 hh
   ·have:=hY _ hh;omega
  ·have:=hj.ge e he;rintro (hh|hh|hh)
   ·omega
   ·exact (hj.pl e he).1 hh
   ·have:=hY _ hh;omega
  ·rcases hh with hh|hh|hh
   ·exact .inl (.inl hh)
   ·exact (hkS.gF l hh).imp (fun a=>.inr (.inl a)) id
   ·exact .inl (.inr (.inr hh))
 ·rintro G U h;exact h.elim
 ·rintro id G U h;exact h.elim
end Go.Proofs.YtbifpocccfkhhaaGreatDoor
end
