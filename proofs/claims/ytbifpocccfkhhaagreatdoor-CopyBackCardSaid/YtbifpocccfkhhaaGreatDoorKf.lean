/- A part. -/
import Derived.Test.YtbifpocccfkhhaaGreatDoorKe
import Derived.KernelRfl
set_option linter.all false
noncomputable section
namespace Go.Proofs.YtbifpocccfkhhaaGreatDoor
open Go Go.Proofs.Tryz
set_option maxRecDepth 20000
abbrev okF(f:Func)(c:F'):Prop:=ZW prog f=some c
theorem okI{f:Func}{c:F'}(h:ZW prog f=some c:=by kernel_rfl):okF f c:=h
noncomputable def cmp(f:Func):F':=(ZW prog f).getD ⟨0,[],.skip⟩
noncomputable def c19:F':=⟨55,[.cell 6 (some 8),.t 7],.k [.B 3 0,.B 4 1,.B 5 2,.o 6 (.new zS),.G 7 0] (.seq (.k [.j 15 8 3,.c 16 56 15,.m 8 16] (.k [.m 17 8,.u 18 .neq 17 0] (.d 18 (.k [.o 19 (.build zS []),.m 20 8,.s 8 6 19,.m 7 20] .ret) .skip))) (.seq (.k [.l 21 4,.c 22 57 21,.o 23 (.un .not (.t 22)),.m 24 23,.M 25 24 false 5,.v 26 24 false (.call (.f 57) [(.t 25)]),.v 27 24 false (.un .not (.t 26)),.z 28 24 27] (.d 28 (.k [.o 29 (.build zS []),.s 8 6 29,.G 7 1] .ret) .skip)) (.k [.j 31 8 3,.c 32 58 31,.m 30 32,.e 33 0 30,.e 34 1 30,.m 9 33,.m 10 34] (.seq (.k [.l 35 4,.l 36 5,.b 37 .neq 35 36,.m 38 37,.V 39 38 true 9,.M 40 38 true 5,.v 41 38 true (.ex (.lkp .str (.bool false) false (.t 39) (.t 40))),.y 42 38 41] (.d 42 (.k [.o 43 (.build zS []),.s 8 6 43,.G 7 6] .ret) .skip)) (.k [.o 11 (.new (.bool false)),.n (.sto 1 (.t 11) (.c (.bool false)))] (.k [.o 44 (.mkf 59 [] [(.t 4),(.t 11),(.t 5)]),.o 12 (.new .nilfn),.s 1 12 44] (.k [.o 45 (.mkf 61 [] [(.t 12)]),.l 46 12,.o 47 (.build (.agg [(.int .i64 0),.nilfn,.nilfn,.nilfn]) [(2,2,1,(.t 45)),(3,3,1,(.t 46))]),.B 48 47,.m 13 48] (.k [.m 49 13,.j 50 8 3,.w 51 62 49 50,.o 14 (.new zS),.s 8 14 51] (.seq (.k [.l 52 11] (.d 52 (.k [.o 53 (.build zS []),.s 8 6 53,.G 7 10] .ret) .skip)) (.k [.j 54 8 14,.s 8 6 54,.G 7 0] .ret))))))))))⟩
theorem ok19:okF f19 c19:=okI
noncomputable def c23:F':=⟨8,[.t 4],.k [.B 2 0,.B 3 1,.F 4] (.k [.j 5 8 2,.j 6 8 3,.w 7 68 5 6,.m 4 7] .ret)⟩
theorem ok23:okF f23 c23:=okI
noncomputable def c24:F':=⟨28,[.t 4,.t 5],.k [.B 2 0,.B 3 1,.F 4,.G 5 0] (.seq (.k [.j 9 8 2,.j 10 8 3,.o 11 (.build (.agg [(.sl true []),(.int .i64 0),(.str ⟨⟨[]⟩⟩),(.sl true []),(.sl true []),(.sl true []),(.sl true []),(.sl true []),(.sl true []),(.int .i64 0),(.str ⟨⟨[]⟩⟩),(.sl true []),(.sl true []),(.sl true []),(.sl true []),(.sl true [])]) [(0,0,8,(.t 9)),(1,8,8,(.t 10))]),.G 12 0] (.block 0 (.loop (.k [.u 13 .lss 12 2] (.seq (.d 13 .skip (.exit 0)) (.seq (.block 1 (.k [.o 14 (.ex (.ixa 2 8 (some 8) (.t 11) (.t 12))),.o 7 (.new zS),.s 8 7 14] (.k [.j 15 8 7,.c 16 56 15,.m 8 16] (.k [.m 17 8,.u 18 .neq 17 0] (.d 18 (.k [.m 19 8,.F 4,.m 5 19] .ret) .skip))))) (.reg [.u 20 .add 12 1,.m 12 20]))))))) (.seq (.draw [.p (.j 21 8 2) [],.q (.c 22 70 21) true false [0] 0 0,.q (.o 23 (.bsl 8 [(.t 22)])) false false [1,0] 1 2,.q (.j 24 8 3) false true [] 0 1,.q (.c 25 70 24) true false [3,1,0] 1 1,.q (.o 26 (.bsl 8 [(.t 25)])) false false [4,3,1,0] 2 2,.q (.w 27 69 23 26) true false [2,5,4,3,1,0] 2 2,.q (.m 4 27) false false [6,2,5,4,3,1,0] 3 3,.q (.G 5 0) false false [7,6,2,5,4,3,1,0] 3 3] []) .ret))⟩
theorem ok24:okF f24 c24:=okI
noncomputable def c29:F':=⟨19,[.t 2,.t 3],.k [.B 1 0,.a 2 (.sl true []),.G 3 0] (.seq (.k [.j 7 8 1,.c 8 56 7,.m 4 8] (.k [.m 9 4,.u 10 .neq 9 0] (.d 10 (.k [.m 11 4,.a 2 (.sl true []),.m 3 11] .ret) .skip))) (.k [.j 13 8 1,.c 14 58 13,.m 12 14,.e 15 0 12,.e 16 1 12,.m 5 15,.m 6 16] (.k [.m 17 5,.c 18 86 17,.m 2 18,.G 3 0] .ret)))⟩
theorem ok29:okF f29 c29:=okI
noncomputable def c31:F':=⟨20,[.t 2,.t 3],.k [.B 1 0,.a 2 (.sl true []),.G 3 0] (.seq (.k [.j 7 8 1,.c 8 56 7,.m 4 8] (.k [.m 9 4,.u 10 .neq 9 0] (.d 10 (.k [.m 11 4,.a 2 (.sl true []),.m 3 11] .ret) .skip))) (.k [.j 13 8 1,.c 14 58 13,.m 12 14,.e 15 0 12,.e 16 1 12,.m 5 15,.m 6 16] (.k [.m 17 6,.c 18 75 17,.c 19 86 18,.m 2 19,.G 3 0] .ret)))⟩
theorem ok31:okF f31 c31:=okI
noncomputable def c32:F':=⟨33,[.cell 6 (some 8),.t 7],.k [.B 3 0,.o 6 (.new zS),.G 7 0] (.seq (.k [.j 11 8 3,.c 12 56 11,.m 8 12] (.k [.m 13 8,.u 14 .neq 13 0] (.d 14 (.k [.o 15 (.build zS []),.m 16 8,.s 8 6 15,.m 7 16] .ret) .skip))) (.k [.m 18 1,.m 19 2,.w 20 87 18 19,.m 17 20,.e 21 0 17,.e 22 1 17,.m 9 21,.m 10 22] (.seq (.k [.m 23 10,.u 24 .neq 23 0] (.d 24 (.k [.o 25 (.build zS []),.m 26 10,.s 8 6 25,.m 7 26] .ret) .skip)) (.k [.j 27 8 3,.m 28 1,.m 29 9,.x 30 81 27 28 29,.e 31 0 30,.e 32 1 30,.s 8 6 31,.m 7 32] .ret))))⟩
theorem ok32:okF f32 c32:=okI
noncomputable def c33:F':=⟨5,[.cell 2 (some 7)],.k [.o 2 (.new zX)] (.k [.m 3 0,.o 4 (.build zX [(0,0,1,(.c (.int .i64 6))),(4,5,1,(.t 3))]),.s 7 2 4] .ret)⟩
theorem ok33:okF f33 c33:=okI
noncomputable def c56:F':=⟨6,[.t 2],.k [.B 1 0,.G 2 0] (.k [.j 3 8 1,.c 4 101 3,.c 5 100 4,.m 2 5] .ret)⟩
theorem ok56:okF f56 c56:=okI
noncomputable def c57:F':=⟨24,[.t 2],.k [.F 2] (.seq (.k [.m 3 0,.o 4 (.bin .eql (.t 3) (.c (.str ⟨⟨[]⟩⟩))),.m 5 4,.V 6 5 false 0,.v 7 5 false (.len true (.t 6)),.v 8 5 false (.bin .gtr (.t 7) (.c (.int .i64 16))),.z 9 5 8,.m 10 9,.V 11 10 false 0,.v 12 10 false (.idx (.t 11) (.c z0)),.v 13 10 false (.call (.f 102) [(.t 12)]),.v 14 10 false (.un .not (.t 13)),.z 15 10 14,.m 16 15,.V 17 16 false 0,.v 18 16 false (.call (.f 103) [(.t 17)]),.z 19 16 18] (.d 19 (.k [.F 2] .ret) .skip)) (.k [.m 20 0,.o 21 (.ex (.ctb (.t 20))),.o 22 (.call (.f 104) [(.t 21),(.f 105)]),.o 23 (.un .not (.t 22)),.m 2 23] .ret))⟩
theorem ok57:okF f57 c57:=okI
noncomputable def c58:F':=⟨20,[.t 2,.t 3],.k [.B 1 0,.a 2 .nilmap,.a 3 (.sl true [])] (.k [.o 8 (.ex (.mkm)),.o 4 (.new .nilmap),.s 1 4 8] (.k [.o 5 (.new (.sl true []))] (.k [.o 9 (.mkf 107 [] [(.t 4)]),.o 6 (.new .nilfn),.s 1 6 9] (.k [.o 10 (.mkf 108 [] [(.t 5)]),.o 11 (.mkf 109 [] [(.t 6)]),.o 12 (.mkf 110 [] [(.t 6)]),.o 13 (.build (.agg [(.int .i64 0),.nilfn,.nilfn,.nilfn]) [(1,1,1,(.t 10)),(2,2,1,(.t 11)),(3,3,1,(.t 12))]),.B 14 13,.m 7 14] (.k [.m 15 7,.j 16 8 1,.w 17 62 15 16] (.seq (.draw [.p (.l 18 4) [],.p (.l 19 5) [],.p (.m 2 18) [0],.p (.m 3 19) [1,2,0]] []) .ret))))))⟩
theorem ok58:okF f58 c58:=okI
noncomputable def c59:F':=⟨26,[.t 7],.k [.a 7 (.str ⟨⟨[]⟩⟩)] (.seq (.k [.m 8 0,.l 9 2,.b 10 .neq 8 9,.m 11 10,.V 12 11 false 1,.V 13 11 false 0,.v 14 11 false (.call (.f 60) [(.t 12),(.t 13)]),.v 15 11 false (.eq .ptr true (.t 14) (.c .nilp)),.z 16 11 15] (.d 16 (.k [.m 17 0,.m 7 17] .ret) .skip)) (.k [.l 18 3,.m 19 18,.V 20 19 false 1,.M 21 19 false 4,.v 22 19 false (.call (.f 60) [(.t 20),(.t 21)]),.v 23 19 false (.eq .ptr true (.t 22) (.c .nilp)),.z 24 19 23,.s 1 3 24] (.k [.l 25 4,.m 7 25] .ret)))⟩
theorem ok59:okF f59 c59:=okI
noncomputable def c60:F':=⟨32,[.t 4],.k [.a 4 .nilp] (.scope (.seq .skip (.seq (.block 0 (.loop (.seq (.k [.m 7 0,.o 8 (.eq .ptr true (.t 7) (.c .nilp))] (.d 8 .skip (.exit 0))) (.block 1 (.seq (.k [.m 10 0,.h 11 10,.f 12 1 11,.l 13 12,.m 14 1,.o 15 (.ex (.lkp .str .nilp true (.t 13) (.t 14))),.m 9 15,.e 16 0 9,.e 17 1 9,.m 5 16,.m 6 17] (.k [.m 18 6] (.d 18 (.k [.m 19 5,.m 4 19] .ret) .skip))) (.seq (.k [.m 20 0,.h 21 20,.f 22 0 21,.l 23 22,.o 24 (.eq .ptr false (.t 23) (.c .nilp))] (.d 24 (.exit 0) .skip)) (.reg [.m 25 0,.h 26 25,.f 27 0 26,.l 28 27,.h 29 28,.f 30 0 29,.l 31 30,.m 0 31]))))))) (.k [.a 4 .nilp] .ret))))⟩
theorem ok60:okF f60 c60:=okI
noncomputable def c61:F':=⟨15,[.cell 7 (some 7)],.k [.B 4 0,.o 7 (.new zX)] (.k [.l 8 3,.f 9 5 4,.l 10 9,.m 11 1,.o 12 (.call (.t 8) [(.t 10),(.t 11)]),.f 13 5 4,.s 1 13 12] (.k [.j 14 7 4,.s 7 7 14] .ret))⟩
theorem ok61:okF f61 c61:=okI
noncomputable def c62:F':=⟨11,[.cell 4 (some 8)],.k [.B 3 1,.o 4 (.new zS)] (.k [.m 5 0,.j 6 8 3,.o 7 (.bsl 8 [(.t 6)]),.o 8 (.call (.f 111) [(.t 5),(.t 7),(.c .nilp)]),.o 9 (.ia 8 (.t 8) (.c z0)),.j 10 8 9,.s 8 4 10] .ret)⟩
theorem ok62:okF f62 c62:=okI
noncomputable def c68:F':=⟨10,[.t 4],.k [.B 2 0,.B 3 1,.F 4] (.seq (.draw [.p (.j 5 8 2) [],.q (.c 6 113 5) true false [0] 0 0,.q (.j 7 8 3) false true [] 0 1,.q (.c 8 113 7) true false [2,1,0] 1 1,.q (.w 9 118 6 8) true false [3,2,1,0] 2 2,.q (.m 4 9) false false [4,3,2,1,0] 3 3] []) .ret)⟩
theorem ok68:okF f68 c68:=okI
noncomputable def c69:F':=⟨8,[.t 4],.k [.F 4] (.k [.m 5 0,.m 6 1,.o 7 (.call (.f 119) [(.t 5),(.t 6),(.f 120)]),.m 4 7] .ret)⟩
theorem ok69:okF f69 c69:=okI
noncomputable def c70:F':=⟨9,[.cell 2 (some 8)],.k [.B 1 0,.o 2 (.new zS)] (.k [.o 4 (.build (.agg [(.int .i64 0),.nilfn,.nilfn,.nilfn]) [(1,1,1,(.f 128))]),.B 5 4,.m 3 5] (.k [.m 6 3,.j 7 8 1,.w 8 62 6 7,.s 8 2 8] .ret))⟩
theorem ok70:okF f70 c70:=okI
noncomputable def c74:F':=⟨13,[.t 2],.k [.a 2 .nilmap] (.k [.o 5 (.ex (.mkm)),.o 3 (.new .nilmap),.s 1 3 5] (.k [.o 6 (.mkf 133 [] [(.t 3)]),.o 7 (.build (.agg [(.int .i64 0),.nilfn,.nilfn,.nilfn]) [(2,2,1,(.t 6))]),.B 8 7,.m 4 8] (.k [.m 9 4,.m 10 0,.o 11 (.call (.f 134) [(.t 9),(.t 10),(.c .nilp),(.c (.bool false))])] (.k [.l 12 3,.m 2 12] .ret))))⟩
theorem ok74:okF f74 c74:=okI
noncomputable def c75:F':=⟨22,[.t 2],.k [.a 2 .nilmap] (.k [.o 6 (.ex (.mkm)),.m 3 6] (.seq (.k [.m 7 0,.L 8 7,.G 9 0] (.block 0 (.loop (.k [.b 10 .lss 9 8] (.seq (.d 10 .skip (.exit 0)) (.seq (.block 1 (.k [.i 11 1 7 9,.l 12 11,.m 5 12] (.reg [.m 13 3,.m 14 5,.h 15 14,.f 16 1 15,.l 17 16,.o 18 (.bsl 1 [(.t 17)]),.w 19 79 13 18]))) (.reg [.u 20 .add 9 1,.m 9 20]))))))) (.k [.m 21 3,.m 2 21] .ret)))⟩
theorem ok75:okF f75 c75:=okI
noncomputable def c77:F':=⟨32,[.t 4],.k [.a 4 (.str ⟨⟨[]⟩⟩)] (.seq (.k [.m 8 1,.m 9 0,.o 10 (.call (.t 8) [(.t 9)]),.o 11 (.un .not (.t 10))] (.d 11 (.k [.m 12 0,.m 4 12] .ret) .skip)) (.k [.G 5 1] (.block 0 (.loop (.seq (.block 1 (.k [.m 15 5,.c 16 129 15,.m 6 16] (.k [.m 17 0,.m 18 0,.o 19 (.len true (.t 18)),.m 20 6,.o 21 (.len true (.t 20)),.o 22 (.bin .sub (.c (.int .i64 16)) (.t 21)),.o 23 (.ex (.mm false (.t 19) (.t 22))),.o 24 (.slc true 0 (.t 17) none (some (.t 23))),.m 25 6,.b 26 .add 24 25,.m 7 26] (.k [.m 27 1,.m 28 7,.o 29 (.call (.t 27) [(.t 28)]),.o 30 (.un .not (.t 29))] (.d 30 (.k [.m 31 7,.m 4 31] .ret) .skip))))) (.reg [.m 13 5,.u 14 .add 13 1,.m 5 14]))))))⟩
theorem ok77:okF f77 c77:=okI
noncomputable def c79:F':=⟨15,[],.k [.m 6 1,.L 7 6,.G 8 0] (.block 0 (.loop (.k [.b 9 .lss 8 7] (.seq (.d 9 .skip (.exit 0)) (.seq (.block 1 (.k [.i 10 1 6 8,.l 11 10,.m 5 11] (.reg [.m 12 0,.m 13 5,.n (.ex (.mup .str (.t 12) (.t 13) (.c (.bool true))))]))) (.reg [.u 14 .add 8 1,.m 8 14]))))))⟩
theorem ok79:okF f79 c79:=okI
noncomputable def c80:F':=⟨9,[.cell 2 (some 7)],.k [.B 1 0,.o 2 (.new zX)] (.k [.o 4 (.build (.agg [(.int .i64 0),.nilfn,.nilfn,.nilfn]) []),.B 5 4,.m 3 5] (.k [.m 6 3,.j 7 7 1,.o 8 (.call (.f 97) [(.t 6),(.t 7),(.c .nilp),(.c (.bool false))]),.s 7 2 8] .ret))⟩
theorem ok80:okF f80 c80:=okI
noncomputable def c81:F':=⟨66,[.cell 6 (some 8),.t 7],.k [.B 3 0,.o 6 (.new zS),.G 7 0] (.k [.o 17 (.ex (.mkm)),.m 8 17] (.k [.m 18 8,.m 19 1,.w 20 79 18 19] (.seq (.k [.m 21 2,.o 22 (.ex (.rng (.t 21)))] (.block 0 (.loop (.k [.o 23 (.ex (.nxt (.t 22))),.e 24 0 23] (.seq (.d 24 .skip (.exit 0)) (.block 1 (.k [.o 25 (.ex (.ent (.t 22))),.e 26 1 25,.o 10 (.new zX),.s 7 10 26] (.k [.j 27 7 10,.o 28 (.bsl 7 [(.t 27)]),.c 29 74 28,.o 30 (.ex (.rng (.t 29)))] (.block 2 (.loop (.k [.o 31 (.ex (.nxt (.t 30))),.e 32 0 31] (.seq (.d 32 .skip (.exit 2)) (.block 3 (.k [.o 33 (.ex (.ent (.t 30))),.e 34 0 33,.m 11 34] (.reg [.m 35 8,.m 36 11,.o 37 (.bsl 1 [(.t 36)]),.w 38 79 35 37]))))))))))))))) (.k [.j 40 8 3,.m 41 8,.w 42 95 40 41,.c 43 82 42,.m 39 43,.e 44 0 39,.e 45 1 39,.o 12 (.new zS),.s 8 12 44,.m 13 45] (.seq (.k [.m 46 13,.u 47 .neq 46 0] (.d 47 (.k [.o 48 (.build zS []),.m 49 13,.s 8 6 48,.m 7 49] .ret) .skip)) (.k [.m 51 2,.c 52 96 51,.m 50 52,.e 53 0 50,.e 54 1 50,.m 14 53,.m 15 54] (.k [.m 55 14,.j 56 8 12,.w 57 62 55 56,.o 16 (.new zS),.s 8 16 57] (.seq (.k [.m 58 15,.h 59 58,.l 60 59] (.d 60 (.k [.o 61 (.build zS []),.s 8 6 61,.G 7 10] .ret) .skip)) (.k [.j 62 8 16,.c 63 82 62,.e 64 0 63,.e 65 1 63,.s 8 6 64,.m 7 65] .ret)))))))))⟩
theorem ok81:okF f81 c81:=okI
noncomputable def c82:F':=⟨12,[.cell 2 (some 8),.t 3],.k [.B 1 0,.o 2 (.new zS),.G 3 0] (.seq (.k [.j 5 8 1,.c 6 56 5,.m 4 6] (.k [.m 7 4,.u 8 .neq 7 0] (.d 8 (.k [.o 9 (.build zS []),.m 10 4,.s 8 2 9,.m 3 10] .ret) .skip))) (.k [.j 11 8 1,.s 8 2 11,.G 3 0] .ret))⟩
theorem ok82:okF f82 c82:=okI
noncomputable def c86:F':=cmp f86
theorem ok86:okF f86 c86:=okI
noncomputable def c87:F':=⟨58,[.t 4,.t 5],.k [.a 4 .nilmap,.G 5 0] (.seq (.k [.m 14 0,.L 15 14,.m 16 1,.L 17 16,.b 18 .neq 15 17,.m 19 18,.V 20 19 false 0,.v 21 19 false (.call (.f 138) [(.t 20),(.f 139)]),.z 22 19 21] (.d 22 (.k [.a 4 .nilmap,.G 5 1] .ret) .skip)) (.k [.o 23 (.ex (.mkm)),.m 6 23] (.seq (.k [.m 24 0,.L 25 24,.G 26 0] (.block 0 (.loop (.k [.b 27 .lss 26 25] (.seq (.d 27 .skip (.exit 0)) (.seq (.block 1 (.k [.m 28 26,.i 29 1 24 26,.l 30 29,.m 7 28,.m 8 30] (.seq (.k [.m 32 6,.m 33 8,.o 34 (.ex (.lkp .str zX true (.t 32) (.t 33))),.m 31 34,.e 35 0 31,.e 36 1 31,.o 9 (.new zX),.s 7 9 35,.m 10 36] (.k [.m 37 10] (.d 37 (.k [.a 4 .nilmap,.G 5 6] .ret) .skip))) (.reg [.m 38 6,.m 39 8,.m 40 1,.m 41 7,.i 42 7 40 41,.j 43 7 42,.n (.ex (.mup .str (.t 38) (.t 39) (.t 43)))])))) (.reg [.u 44 .add 26 1,.m 26 44]))))))) (.seq (.k [.m 45 1,.L 46 45,.G 47 0] (.block 2 (.loop (.k [.b 48 .lss 47 46] (.seq (.d 48 .skip (.exit 2)) (.seq (.block 3 (.k [.i 49 7 45 47,.j 50 7 49,.o 12 (.new zX),.s 7 12 50] (.k [.j 51 7 12,.c 52 90 51,.m 13 52] (.k [.m 53 13,.u 54 .neq 53 0] (.d 54 (.k [.m 55 13,.a 4 .nilmap,.m 5 55] .ret) .skip))))) (.reg [.u 56 .add 47 1,.m 47 56]))))))) (.k [.m 57 6,.m 4 57,.G 5 0] .ret)))))⟩
theorem ok87:okF f87 c87:=okI
noncomputable def c90:F':=⟨6,[.t 2],.k [.B 1 0,.G 2 0] (.k [.j 3 7 1,.c 4 142 3,.c 5 100 4,.m 2 5] .ret)⟩
theorem ok90:okF f90 c90:=okI
noncomputable def c95:F':=⟨73,[.cell 4 (some 8)],.k [.B 2 0,.B 3 1,.o 4 (.new zS)] (.k [.j 16 8 2,.c 17 58 16,.m 15 17,.e 18 0 15,.e 19 1 15,.o 5 (.new .nilmap),.s 1 5 18,.m 6 19] (.k [.o 20 (.ex (.mkm)),.o 7 (.new .nilmap),.s 1 7 20] (.seq (.k [.m 21 6,.L 22 21,.G 23 0] (.block 0 (.loop (.k [.b 24 .lss 23 22] (.seq (.d 24 .skip (.exit 0)) (.seq (.block 1 (.k [.i 25 1 21 23,.l 26 25,.m 9 26] (.draw [.p (.l 27 7) [],.p (.m 28 9) [],.p (.h 29 28) [1],.p (.f 30 1 29) [2,1],.p (.l 31 30) [3,2,1],.p (.o 32 (.ex (.lkp .str (.int .i64 0) false (.t 27) (.t 31)))) [0,4,3,2,1],.p (.u 33 .add 32 1) [5,0,4,3,2,1],.q (.n (.ex (.mup .str (.t 27) (.t 31) (.t 33)))) true false [6,5,0,4,3,2,1] 0 0] []))) (.reg [.u 34 .add 23 1,.m 23 34]))))))) (.k [.o 10 (.new (.sl true []))] (.seq (.k [.m 35 6,.L 36 35,.G 37 0] (.block 2 (.loop (.k [.b 38 .lss 37 36] (.seq (.d 38 .skip (.exit 2)) (.seq (.block 3 (.k [.i 39 1 35 37,.l 40 39,.m 12 40] (.k [.m 41 12,.h 42 41,.f 43 1 42,.l 44 43,.m 13 44] (.seq (.k [.l 45 3,.m 46 13,.o 47 (.ex (.lkp .str (.bool false) false (.t 45) (.t 46)))] (.d 47 (.k [.m 48 13,.o 49 (.mkf 146 [] [(.t 3),(.t 5),(.t 7)]),.w 50 77 48 49,.m 13 50] (.seq (.draw [.p (.l 51 7) [],.p (.m 52 12) [],.p (.h 53 52) [1],.p (.f 54 1 53) [2,1],.p (.l 55 54) [3,2,1],.p (.o 56 (.ex (.lkp .str (.int .i64 0) false (.t 51) (.t 55)))) [0,4,3,2,1],.p (.u 57 .sub 56 1) [5,0,4,3,2,1],.q (.n (.ex (.mup .str (.t 51) (.t 55) (.t 57)))) true false [6,5,0,4,3,2,1] 0 0] []) (.reg [.l 58 7,.m 59 13,.o 60 (.ex (.lkp .str (.int .i64 0) false (.t 58) (.t 59))),.u 61 .add 60 1,.n (.ex (.mup .str (.t 58) (.t 59) (.t 61)))]))) .skip)) (.reg [.l 62 10,.m 63 13,.o 64 (.bsl 1 [(.t 63)]),.o 65 (.app 1 16 (.t 62) (.t 64)),.s 1 10 65]))))) (.reg [.u 66 .add 37 1,.m 37 66]))))))) (.k [.o 67 (.mkf 147 [] [(.t 10)]),.o 68 (.build (.agg [(.int .i64 0),.nilfn,.nilfn,.nilfn]) [(1,1,1,(.t 67))]),.B 69 68,.m 14 69] (.k [.m 70 14,.j 71 8 2,.w 72 62 70 71,.s 8 4 72] .ret)))))))⟩
theorem ok95:okF f95 c95:=okI
noncomputable def c96:F':=⟨16,[.t 2,.t 3],.k [.B 1 0,.a 2 .nilp,.a 3 .nilp] (.k [.o 4 (.new (.bool false)),.n (.sto 1 (.t 4) (.c (.bool false)))] (.k [.o 7 (.mkf 148 [] [(.t 1),(.t 4)]),.o 5 (.new .nilfn),.s 1 5 7] (.k [.l 8 5,.o 9 (.build (.agg [(.int .i64 0),.nilfn,.nilfn,.nilfn]) [(3,3,1,(.t 8))]),.B 10 9,.m 6 10] (.k [.m 11 6,.o 12 (.mkf 149 [] [(.t 5),(.t 1),(.t 4)]),.h 13 11,.f 14 2 13,.s 1 14 12] (.k [.m 15 6,.m 2 15,.m 3 4] .ret)))))⟩
theorem ok96:okF f96 c96:=okI
noncomputable def c97:F':=⟨47,[.cell 8 (some 7)],.k [.B 5 1,.o 8 (.new zX)] (.k [.m 10 0,.f 11 6 5,.l 12 11,.m 13 2,.o 14 (.call (.f 134) [(.t 10),(.t 12),(.t 13),(.c (.bool false))]),.f 15 6 5,.s 1 15 14] (.seq (.k [.f 16 0 5,.l 17 16] (.block 0 (.seq (.k [.u 19 .eql 17 6,.m 18 19] (.d 18 .skip (.k [.u 20 .eql 17 7,.m 18 20] (.d 18 .skip (.reg [.u 21 .eql 17 8,.m 18 21]))))) (.d 18 (.seq (.k [.m 22 0,.h 23 22,.f 24 2 23,.l 25 24,.o 26 (.eq .func true (.t 25) (.c .nilfn))] (.d 26 (.seq (.draw [.p (.m 27 0) [],.p (.h 28 27) [0],.p (.f 29 2 28) [1,0],.p (.l 30 29) [2,1,0],.p (.j 31 7 5) [],.p (.m 32 2) [],.p (.m 33 3) [],.q (.o 34 (.call (.t 30) [(.t 31),(.t 32),(.t 33)])) true false [3,4,5,6,2,1,0] 0 0,.q (.s 7 8 34) true false [7,3,4,5,6,2,1,0] 1 1] []) .ret) .skip)) (.k [.m 35 2,.f 36 5 5,.l 37 36,.w 38 60 35 37,.m 9 38] (.k [.m 39 9,.o 40 (.eq .ptr true (.t 39) (.c .nilp))] (.d 40 (.reg [.m 41 9,.h 42 41,.f 43 2 42,.l 44 43,.f 45 5 5,.s 1 45 44]) .skip)))) .skip)))) (.k [.j 46 7 5,.s 7 8 46] .ret)))⟩
theorem ok97:okF f97 c97:=okI
noncomputable def c100:F':=⟨17,[.t 2],.k [.B 1 0,.G 2 0] (.seq (.k [.j 7 25 1,.c 8 150 7,.m 6 8,.e 9 0 6,.e 10 1 6,.e 11 2 6,.m 3 9,.m 4 10,.m 5 11] (.k [.m 12 5,.o 13 (.un .not (.t 12))] (.d 13 (.k [.G 2 2] .ret) .skip))) (.seq (.k [.j 14 25 1,.c 15 151 14,.o 16 (.un .not (.t 15))] (.d 16 (.k [.G 2 1] .ret) .skip)) (.k [.G 2 0] .ret)))⟩
theorem ok100:okF f100 c100:=okI
noncomputable def c101:F':=⟨5,[.cell 2 (some 25)],.k [.B 1 0,.o 2 (.new zP)] (.k [.j 3 8 1,.o 4 (.build zP [(0,0,1,(.c (.int .i64 1))),(1,1,8,(.t 3))]),.s 25 2 4] .ret)⟩
theorem ok101:okF f101 c101:=okI
noncomputable def c102:F':=⟨9,[.t 2],.k [.F 2] (.k [.m 3 0,.o 4 (.bin .geq (.t 3) (.c (.int .u8 97))),.m 5 4,.V 6 5 true 0,.v 7 5 true (.bin .leq (.t 6) (.c (.int .u8 122))),.y 8 5 7,.m 2 8] .ret)⟩
theorem ok102:okF f102 c102:=okI
noncomputable def c103:F':=⟨6,[.t 2],.k [.F 2] (.k [.o 3 (.call (.f 153) []),.m 4 0,.w 5 152 3 4,.m 2 5] .ret)⟩
theorem ok103:okF f103 c103:=okI
noncomputable def c104:F':=⟨9,[.t 4],.k [.F 4] (.k [.m 5 0,.m 6 1,.w 7 154 5 6,.u 8 .geq 7 0,.m 4 8] .ret)⟩
theorem ok104:okF f104 c104:=okI
noncomputable def c105:F':=⟨6,[.t 2],.k [.F 2] (.k [.m 3 0,.c 4 106 3,.o 5 (.un .not (.t 4)),.m 2 5] .ret)⟩
theorem ok105:okF f105 c105:=okI
noncomputable def c106:F':=⟨9,[.t 2],.k [.F 2] (.k [.m 3 0,.c 4 102 3,.m 5 4,.V 6 5 false 0,.v 7 5 false (.call (.f 155) [(.t 6)]),.z 8 5 7,.m 2 8] .ret)⟩
theorem ok106:okF f106 c106:=okI
noncomputable def c107:F':=⟨13,[],.k [.m 5 1,.m 6 0,.w 7 60 5 6,.o 8 (.eq .ptr false (.t 7) (.c .nilp))] (.d 8 (.reg [.l 9 2,.m 10 0,.o 11 (.bsl 1 [(.t 10)]),.w 12 79 9 11]) .skip)⟩
theorem ok107:okF f107 c107:=okI
noncomputable def c108:F':=⟨7,[],.reg [.l 3 1,.m 4 0,.o 5 (.bsl 1 [(.t 4)]),.o 6 (.app 1 8 (.t 3) (.t 5)),.s 1 1 6]⟩
theorem ok108:okF f108 c108:=okI
noncomputable def c109:F':=⟨14,[.cell 7 (some 7)],.k [.B 4 0,.o 7 (.new zX)] (.k [.l 8 3,.f 9 5 4,.l 10 9,.m 11 1,.o 12 (.call (.t 8) [(.t 10),(.t 11)])] (.k [.j 13 7 4,.s 7 7 13] .ret))⟩
theorem ok109:okF f109 c109:=okI
noncomputable def c111:F':=⟨31,[.t 6],.k [.a 6 (.sl true [])] (.k [.a 7 (.sl true [])] (.seq (.k [.m 11 1,.L 12 11,.G 13 0] (.block 0 (.loop (.k [.b 14 .lss 13 12] (.seq (.d 14 .skip (.exit 0)) (.seq (.block 1 (.k [.i 15 8 11 13,.j 16 8 15,.o 9 (.new zS),.s 8 9 16] (.k [.j 17 8 9,.o 18 (.bsl 8 [(.t 17)]),.m 10 18] (.reg [.m 19 7,.m 20 0,.m 21 10,.m 22 0,.m 23 2,.m 24 10,.c 25 158 24,.x 26 157 22 23 25,.x 27 156 20 21 26,.o 28 (.app 8 168 (.t 19) (.t 27)),.m 7 28])))) (.reg [.u 29 .add 13 1,.m 13 29]))))))) (.k [.m 30 7,.m 6 30] .ret)))⟩
theorem ok111:okF f111 c111:=okI
noncomputable def c113:F':=⟨5,[.cell 2 (some 25)],.k [.B 1 0,.o 2 (.new zP)] (.k [.j 3 8 1,.o 4 (.build zP [(0,0,1,(.c (.int .i64 1))),(1,1,8,(.t 3))]),.s 25 2 4] .ret)⟩
theorem ok113:okF f113 c113:=okI
noncomputable def c118:F':=⟨16,[.t 4],.k [.B 2 0,.B 3 1,.F 4] (.k [.j 5 25 2,.c 6 159 5,.m 7 6,.v 8 7 true (.ld (some 25) (.t 3)),.v 9 7 true (.call (.f 159) [(.t 8)]),.y 10 7 9,.m 11 10,.v 12 11 true (.ld (some 25) (.t 2)),.v 13 11 true (.ld (some 25) (.t 3)),.v 14 11 true (.call (.f 164) [(.t 12),(.t 13)]),.y 15 11 14,.m 4 15] .ret)⟩
theorem ok118:okF f118 c118:=okI
noncomputable def c119:F':=⟨32,[.t 6],.k [.F 6] (.seq (.k [.m 10 0,.L 11 10,.m 12 1,.L 13 12,.b 14 .neq 11 13] (.d 14 (.k [.F 6] .ret) .skip)) (.seq (.k [.m 15 0,.L 16 15,.G 17 0] (.block 0 (.loop (.k [.b 18 .lss 17 16] (.seq (.d 18 .skip (.exit 0)) (.seq (.block 1 (.k [.m 19 17,.i 20 8 15 17,.j 21 8 20,.o 8 (.new zS),.m 7 19,.s 8 8 21] (.k [.m 22 1,.m 23 7,.i 24 8 22 23,.j 25 8 24,.o 9 (.new zS),.s 8 9 25] (.k [.m 26 2,.j 27 8 8,.j 28 8 9,.o 29 (.call (.t 26) [(.t 27),(.t 28)]),.o 30 (.un .not (.t 29))] (.d 30 (.k [.F 6] .ret) .skip))))) (.reg [.u 31 .add 17 1,.m 17 31]))))))) (.k [.T 6] .ret)))⟩
theorem ok119:okF f119 c119:=okI
noncomputable def c120:F':=⟨63,[.t 4],.k [.B 2 0,.B 3 1,.F 4] (.k [.f 7 5 2,.l 8 7,.f 9 5 3,.l 10 9,.o 11 (.call (.f 121) [(.t 8),(.t 10),(.f 122)]),.m 5 11] (.k [.f 12 6 2,.l 13 12,.f 14 6 3,.l 15 14,.o 16 (.call (.f 124) [(.t 13),(.t 15),(.f 125)]),.m 6 16] (.k [.m 17 5,.m 18 17,.V 19 18 true 6,.y 20 18 19,.m 21 20,.v 22 21 true (.fa 0 (.t 2)),.M 23 21 true 22,.v 24 21 true (.fa 0 (.t 3)),.M 25 21 true 24,.v 26 21 true (.call (.f 126) [(.t 23),(.t 25)]),.y 27 21 26,.m 28 27,.v 29 28 true (.fa 1 (.t 2)),.M 30 28 true 29,.v 31 28 true (.fa 1 (.t 3)),.M 32 28 true 31,.N 33 28 true .eql 30 32,.y 34 28 33,.m 35 34,.v 36 35 true (.fa 2 (.t 2)),.M 37 35 true 36,.v 38 35 true (.fa 2 (.t 3)),.M 39 35 true 38,.N 40 35 true .eql 37 39,.y 41 35 40,.m 42 41,.v 43 42 true (.fa 3 (.t 2)),.M 44 42 true 43,.v 45 42 true (.fa 3 (.t 3)),.M 46 42 true 45,.v 47 42 true (.call (.f 123) [(.t 44),(.t 46)]),.y 48 42 47,.m 49 48,.v 50 49 true (.fa 4 (.t 2)),.M 51 49 true 50,.v 52 49 true (.fa 4 (.t 3)),.M 53 49 true 52,.v 54 49 true (.call (.f 123) [(.t 51),(.t 53)]),.y 55 49 54,.m 56 55,.v 57 56 true (.fa 7 (.t 2)),.M 58 56 true 57,.v 59 56 true (.fa 7 (.t 3)),.M 60 56 true 59,.v 61 56 true (.call (.f 69) [(.t 58),(.t 60)]),.y 62 56 61,.m 4 62] .ret)))⟩
theorem ok120:okF f120 c120:=okI
noncomputable def c121:F':=⟨32,[.t 6],.k [.F 6] (.seq (.k [.m 10 0,.L 11 10,.m 12 1,.L 13 12,.b 14 .neq 11 13] (.d 14 (.k [.F 6] .ret) .skip)) (.seq (.k [.m 15 0,.L 16 15,.G 17 0] (.block 0 (.loop (.k [.b 18 .lss 17 16] (.seq (.d 18 .skip (.exit 0)) (.seq (.block 1 (.k [.m 19 17,.i 20 2 15 17,.j 21 2 20,.o 8 (.new zE),.m 7 19,.s 2 8 21] (.k [.m 22 1,.m 23 7,.i 24 2 22 23,.j 25 2 24,.o 9 (.new zE),.s 2 9 25] (.k [.m 26 2,.j 27 2 8,.j 28 2 9,.o 29 (.call (.t 26) [(.t 27),(.t 28)]),.o 30 (.un .not (.t 29))] (.d 30 (.k [.F 6] .ret) .skip))))) (.reg [.u 31 .add 17 1,.m 17 31]))))))) (.k [.T 6] .ret)))⟩
theorem ok121:okF f121 c121:=okI
noncomputable def c123:F':=⟨8,[.t 4],.k [.F 4] (.k [.m 5 0,.m 6 1,.o 7 (.call (.f 165) [(.t 5),(.t 6),(.f 166)]),.m 4 7] .ret)⟩
theorem ok123:okF f123 c123:=okI
noncomputable def c124:F':=⟨32,[.t 6],.k [.F 6] (.seq (.k [.m 10 0,.L 11 10,.m 12 1,.L 13 12,.b 14 .neq 11 13] (.d 14 (.k [.F 6] .ret) .skip)) (.seq (.k [.m 15 0,.L 16 15,.G 17 0] (.block 0 (.loop (.k [.b 18 .lss 17 16] (.seq (.d 18 .skip (.exit 0)) (.seq (.block 1 (.k [.m 19 17,.i 20 7 15 17,.j 21 7 20,.o 8 (.new zD),.m 7 19,.s 7 8 21] (.k [.m 22 1,.m 23 7,.i 24 7 22 23,.j 25 7 24,.o 9 (.new zD),.s 7 9 25] (.k [.m 26 2,.j 27 7 8,.j 28 7 9,.o 29 (.call (.t 26) [(.t 27),(.t 28)]),.o 30 (.un .not (.t 29))] (.d 30 (.k [.F 6] .ret) .skip))))) (.reg [.u 31 .add 17 1,.m 17 31]))))))) (.k [.T 6] .ret)))⟩
theorem ok124:okF f124 c124:=okI
noncomputable def c125:F':=⟨52,[.t 4],.k [.B 2 0,.B 3 1,.F 4] (.k [.f 5 0 2,.l 6 5,.f 7 0 3,.l 8 7,.b 9 .eql 6 8,.m 10 9,.v 11 10 true (.fa 1 (.t 2)),.M 12 10 true 11,.v 13 10 true (.fa 1 (.t 3)),.M 14 10 true 13,.v 15 10 true (.eq .bool false (.t 12) (.t 14)),.y 16 10 15,.m 17 16,.v 18 17 true (.fa 2 (.t 2)),.M 19 17 true 18,.v 20 17 true (.fa 2 (.t 3)),.M 21 17 true 20,.N 22 17 true .eql 19 21,.y 23 17 22,.m 24 23,.v 25 24 true (.fa 3 (.t 2)),.M 26 24 true 25,.v 27 24 true (.fa 3 (.t 3)),.M 28 24 true 27,.v 29 24 true (.call (.f 126) [(.t 26),(.t 28)]),.y 30 24 29,.m 31 30,.v 32 31 true (.fa 4 (.t 2)),.M 33 31 true 32,.v 34 31 true (.fa 4 (.t 3)),.M 35 31 true 34,.v 36 31 true (.call (.f 123) [(.t 33),(.t 35)]),.y 37 31 36,.m 38 37,.v 39 38 true (.fa 5 (.t 2)),.M 40 38 true 39,.v 41 38 true (.fa 5 (.t 3)),.M 42 38 true 41,.v 43 38 true (.call (.f 127) [(.t 40),(.t 42)]),.y 44 38 43,.m 45 44,.v 46 45 true (.fa 6 (.t 2)),.M 47 45 true 46,.v 48 45 true (.fa 6 (.t 3)),.M 49 45 true 48,.v 50 45 true (.call (.f 69) [(.t 47),(.t 49)]),.y 51 45 50,.m 4 51] .ret)⟩
theorem ok125:okF f125 c125:=okI
noncomputable def c126:F':=⟨26,[.t 4],.k [.F 4] (.seq (.k [.m 6 0,.L 7 6,.m 8 1,.L 9 8,.b 10 .neq 7 9] (.d 10 (.k [.F 4] .ret) .skip)) (.seq (.k [.m 11 0,.L 12 11,.G 13 0] (.block 0 (.loop (.k [.b 14 .lss 13 12] (.seq (.d 14 .skip (.exit 0)) (.seq (.block 1 (.k [.m 15 13,.m 5 15] (.seq (.draw [.p (.m 16 0) [],.p (.m 17 5) [],.p (.i 18 1 16 17) [0,1],.p (.l 19 18) [2,0,1],.p (.m 20 1) [],.p (.m 21 5) [],.p (.i 22 1 20 21) [4,5],.p (.l 23 22) [6,4,5],.p (.b 24 .neq 19 23) [3,7,2,0,1,6,4,5]] []) (.d 24 (.k [.F 4] .ret) .skip)))) (.reg [.u 25 .add 13 1,.m 13 25]))))))) (.k [.T 4] .ret)))⟩
theorem ok126:okF f126 c126:=okI
noncomputable def c127:F':=⟨26,[.t 4],.k [.F 4] (.seq (.k [.m 6 0,.L 7 6,.m 8 1,.L 9 8,.b 10 .neq 7 9] (.d 10 (.k [.F 4] .ret) .skip)) (.seq (.k [.m 11 0,.L 12 11,.G 13 0] (.block 0 (.loop (.k [.b 14 .lss 13 12] (.seq (.d 14 .skip (.exit 0)) (.seq (.block 1 (.k [.m 15 13,.m 5 15] (.seq (.draw [.p (.m 16 0) [],.p (.m 17 5) [],.p (.i 18 4 16 17) [0,1],.p (.j 19 4 18) [2,0,1],.p (.m 20 1) [],.p (.m 21 5) [],.p (.i 22 4 20 21) [4,5],.p (.j 23 4 22) [6,4,5],.p (.o 24 (.ex (.eqs true 4 [(0,.s),(1,.b),(2,.i),(3,.i)] (.t 19) (.t 23)))) [3,7,2,0,1,6,4,5]] []) (.d 24 (.k [.F 4] .ret) .skip)))) (.reg [.u 25 .add 13 1,.m 13 25]))))))) (.k [.T 4] .ret)))⟩
theorem ok127:okF f127 c127:=okI
noncomputable def c128:F':=⟨11,[],.reg [.m 2 0,.m 3 0,.h 4 3,.f 5 0 4,.l 6 5,.c 7 129 6,.o 8 (.bin .add (.c (.str ⟨⟨[35]⟩⟩)) (.t 7)),.h 9 2,.f 10 2 9,.s 1 10 8]⟩
theorem ok128:okF f128 c128:=okI
noncomputable def c129:F':=cmp f129
theorem ok129:okF f129 c129:=okI
noncomputable def c131:F':=⟨9,[.t 4],.k [.F 4] (.k [.m 5 0,.m 6 1,.w 7 169 5 6,.u 8 .geq 7 0,.m 4 8] .ret)⟩
theorem ok131:okF f131 c131:=okI
noncomputable def c133:F':=⟨14,[.cell 7 (some 7)],.k [.B 4 0,.o 7 (.new zX)] (.k [.l 8 3,.f 9 5 4,.l 10 9,.o 11 (.bsl 1 [(.t 10)]),.w 12 79 8 11] (.k [.j 13 7 4,.s 7 7 13] .ret))⟩
theorem ok133:okF f133 c133:=okI
noncomputable def c134:F':=⟨28,[.t 8],.k [.a 8 (.sl true [])] (.k [.a 9 (.sl true [])] (.seq (.k [.m 12 1,.L 13 12,.G 14 0] (.block 0 (.loop (.k [.b 15 .lss 14 13] (.seq (.d 15 .skip (.exit 0)) (.seq (.block 1 (.k [.i 16 7 12 14,.j 17 7 16,.o 11 (.new zX),.s 7 11 17] (.reg [.m 18 9,.m 19 0,.j 20 7 11,.m 21 2,.m 22 3,.o 23 (.call (.f 97) [(.t 19),(.t 20),(.t 21),(.t 22)]),.o 24 (.bsl 7 [(.t 23)]),.o 25 (.app 7 80 (.t 18) (.t 24)),.m 9 25]))) (.reg [.u 26 .add 14 1,.m 14 26]))))))) (.k [.m 27 9,.m 8 27] .ret)))⟩
theorem ok134:okF f134 c134:=okI
noncomputable def c138:F':=⟨9,[.t 4],.k [.F 4] (.k [.m 5 0,.m 6 1,.w 7 173 5 6,.u 8 .geq 7 0,.m 4 8] .ret)⟩
theorem ok138:okF f138 c138:=okI
noncomputable def c139:F':=⟨6,[.t 2],.k [.F 2] (.k [.m 3 0,.c 4 57 3,.o 5 (.un .not (.t 4)),.m 2 5] .ret)⟩
theorem ok139:okF f139 c139:=okI
noncomputable def c142:F':=⟨5,[.cell 2 (some 25)],.k [.B 1 0,.o 2 (.new zP)] (.k [.j 3 7 1,.o 4 (.build zP [(0,0,1,(.c (.int .i64 4))),(4,18,7,(.t 3))]),.s 25 2 4] .ret)⟩
theorem ok142:okF f142 c142:=okI
noncomputable def c146:F':=⟨20,[.t 5],.k [.F 5] (.k [.l 6 1,.m 7 0,.o 8 (.ex (.lkp .str (.bool false) false (.t 6) (.t 7))),.m 9 8,.M 10 9 false 2,.V 11 9 false 0,.v 12 9 false (.ex (.lkp .str (.bool false) false (.t 10) (.t 11))),.z 13 9 12,.m 14 13,.M 15 14 false 3,.V 16 14 false 0,.v 17 14 false (.ex (.lkp .str (.int .i64 0) false (.t 15) (.t 16))),.v 18 14 false (.bin .gtr (.t 17) (.c z0)),.z 19 14 18,.m 5 19] .ret)⟩
theorem ok146:okF f146 c146:=okI
noncomputable def c147:F':=⟨13,[],.draw [.p (.m 3 0) [],.p (.l 4 1) [],.p (.m 5 0) [],.p (.h 6 5) [2],.p (.f 7 0 6) [3,2],.p (.l 8 7) [4,3,2],.p (.i 9 1 4 8) [1,5,4,3,2],.p (.l 10 9) [6,1,5,4,3,2],.p (.h 11 3) [0,7,6,1,5,4,3,2],.p (.f 12 2 11) [8,0,7,6,1,5,4,3,2],.q (.s 1 12 10) true false [9,8,0,7,6,1,5,4,3,2] 0 0] []⟩
theorem ok147:okF f147 c147:=okI
noncomputable def c149:F':=⟨55,[.cell 9 (some 7)],.k [.B 6 0,.o 9 (.new zX)] (.seq (.k [.f 12 0 6,.l 13 12,.u 14 .neq 13 6] (.d 14 (.k [.l 15 3,.f 16 5 6,.l 17 16,.m 18 1,.o 19 (.call (.t 15) [(.t 17),(.t 18)]),.f 20 5 6,.s 1 20 19] (.k [.j 21 7 6,.s 7 9 21] .ret)) .skip)) (.k [.l 23 4,.f 24 5 6,.l 25 24,.o 26 (.ex (.lkp .str zX true (.t 23) (.t 25))),.m 22 26,.e 27 0 22,.e 28 1 22,.o 10 (.new zX),.s 7 10 27,.m 11 28] (.seq (.k [.m 29 11,.o 30 (.un .not (.t 29)),.m 31 30,.V 32 31 false 1,.v 33 31 false (.fa 5 (.t 6)),.M 34 31 false 33,.v 35 31 false (.call (.f 60) [(.t 32),(.t 34)]),.v 36 31 false (.eq .ptr true (.t 35) (.c .nilp)),.z 37 31 36] (.d 37 (.k [.j 38 7 6,.s 7 9 38] .ret) .skip)) (.k [.l 39 5,.m 40 39,.V 41 40 false 2,.V 42 40 false 41,.v 43 42 true (.fa 0 (.t 10)),.M 44 42 true 43,.v 45 42 true (.bin .neq (.t 44) (.c (.int .i64 6))),.v 46 40 false (.pick (.t 42) (.t 45) (.c (.bool false))),.V 47 40 false 46,.v 48 47 true (.fa 0 (.t 10)),.M 49 47 true 48,.v 50 47 true (.bin .neq (.t 49) (.c (.int .i64 7))),.v 51 40 false (.pick (.t 47) (.t 50) (.c (.bool false))),.z 52 40 51,.s 1 5 52] (.k [.j 53 7 10,.c 54 80 53,.s 7 9 54] .ret)))))⟩
theorem ok149:okF f149 c149:=okI
noncomputable def c150:F':=⟨13,[.cell 2 none,.cell 3 none,.t 4],.k [.B 1 0,.o 2 (.new (.int .i64 0)),.o 3 (.new (.int .i64 0)),.F 4] (.k [.o 5 (.new .nilfn)] (.k [.o 6 (.mkf 177 [] [(.t 2),(.t 3),(.t 5)]),.s 1 5 6] (.k [.l 7 5,.j 8 25 1,.o 9 (.call (.t 7) [(.t 8),(.c (.int .i64 1))]),.m 4 9] (.seq (.draw [.p (.l 10 2) [],.q (.l 11 3) false true [] 0 1,.q (.m 12 4) false false [] 0 2,.q (.s 1 2 10) true false [0] 0 0,.q (.s 1 3 11) true false [1,3,0] 1 1,.q (.m 4 12) false false [2,4,1,3,0] 2 2] []) .ret))))⟩
theorem ok150:okF f150 c150:=okI
noncomputable def c151:F':=⟨35,[.cell 2 none],.k [.B 1 0,.o 2 (.new (.bool false))] (.k [.F 3] (.seq (.k [.f 5 0 1,.l 6 5] (.block 0 (.k [.u 8 .eql 6 4,.m 7 8] (.d 7 (.reg [.f 9 18 1,.j 10 7 9,.c 11 180 10,.m 3 11]) (.k [.u 13 .eql 6 3,.m 12 13] (.d 12 (.reg [.f 14 16 1,.j 15 2 14,.c 16 181 15,.m 3 16]) (.k [.u 18 .eql 6 2,.m 17 18] (.d 17 (.reg [.f 19 9 1,.j 20 7 19,.c 21 182 20,.m 3 21]) (.k [.u 23 .eql 6 1,.m 22 23] (.d 22 (.reg [.f 24 1 1,.j 25 8 24,.c 26 183 25,.m 3 26]) .skip)))))))))) (.seq (.k [.m 27 3,.o 28 (.un .not (.t 27))] (.d 28 (.k [.n (.sto 1 (.t 2) (.c (.bool false)))] .ret) .skip)) (.seq (.k [.j 29 25 1,.c 30 179 29] (.block 1 (.rf (.t 30) [31] (QB f151 0).1 (QB f151 0).2 (.reg [.o 4 (.new zP),.s 25 4 31]) (.block 2 (.k [.j 32 25 4,.c 33 151 32,.o 34 (.un .not (.t 33))] (.d 34 (.k [.n (.sto 1 (.t 2) (.c (.bool false)))] .ret) .skip)))
 35 [31,4,32,33,34,2]))) (.k [.n (.sto 1 (.t 2) (.c (.bool true)))] .ret)))))⟩
theorem ok151:okF f151 c151:=okI
noncomputable def c152:F':=⟨9,[.t 4],.k [.F 4] (.k [.m 5 0,.m 6 1,.w 7 184 5 6,.u 8 .geq 7 0,.m 4 8] .ret)⟩
theorem ok152:okF f152 c152:=okI
noncomputable def c154:F':=⟨19,[.t 4],.k [.G 4 0] (.seq (.k [.m 6 0,.L 7 6,.G 8 0] (.block 0 (.loop (.k [.b 9 .lss 8 7] (.seq (.d 9 .skip (.exit 0)) (.seq (.block 1 (.k [.m 10 8,.m 5 10] (.k [.m 11 1,.m 12 0,.m 13 5,.i 14 1 12 13,.l 15 14,.o 16 (.call (.t 11) [(.t 15)])] (.d 16 (.k [.m 17 5,.m 4 17] .ret) .skip)))) (.reg [.u 18 .add 8 1,.m 8 18]))))))) (.k [.G 4 (-1)] .ret))⟩
theorem ok154:okF f154 c154:=okI
noncomputable def c155:F':=⟨9,[.t 2],.k [.F 2] (.k [.m 3 0,.o 4 (.bin .geq (.t 3) (.c (.int .u8 48))),.m 5 4,.V 6 5 true 0,.v 7 5 true (.bin .leq (.t 6) (.c (.int .u8 57))),.y 8 5 7,.m 2 8] .ret)⟩
theorem ok155:okF f155 c155:=okI
noncomputable def c156:F':=⟨25,[.t 6],.k [.a 6 (.sl true [])] (.k [.a 7 (.sl true [])] (.seq (.k [.m 10 1,.L 11 10,.G 12 0] (.block 0 (.loop (.k [.b 13 .lss 12 11] (.seq (.d 13 .skip (.exit 0)) (.seq (.block 1 (.k [.i 14 8 10 12,.j 15 8 14,.o 9 (.new zS),.s 8 9 15] (.reg [.m 16 7,.m 17 0,.j 18 8 9,.m 19 2,.x 20 186 17 18 19,.o 21 (.bsl 8 [(.t 20)]),.o 22 (.app 8 168 (.t 16) (.t 21)),.m 7 22]))) (.reg [.u 23 .add 12 1,.m 12 23]))))))) (.k [.m 24 7,.m 6 24] .ret)))⟩
theorem ok156:okF f156 c156:=okI
noncomputable def c157:F':=⟨63,[.t 6],.k [.B 3 0,.a 6 .nilp] (.k [.m 12 1,.o 13 (.ex (.wrap 1 (.t 12))),.B 14 13,.o 15 (.ex (.mkm)),.o 16 (.build (.agg [.nilp,.nilmap]) [(0,0,1,(.t 14)),(1,1,1,(.t 15))]),.B 17 16,.o 7 (.new .nilp),.s 1 7 17] (.seq (.k [.m 18 2] (.block 0 (.rf (.t 18) [19] (QB f157 0).1 (QB f157 0).2 (.reg [.m 8 19]) (.block 1 (.seq (.k [.l 21 7,.h 22 21,.f 23 1 22,.l 24 23,.m 25 8,.o 26 (.ex (.lkp .str .nilp true (.t 24) (.t 25))),.m 20 26,.e 27 0 20,.e 28 1 20,.m 9 27,.m 10 28] (.k [.m 29 10] (.d 29 (.exit 1) .skip))) (.k [.l 30 3,.h 31 30,.f 32 0 31,.l 33 32,.m 34 8,.m 35 8,.o 36 (.build (.agg [(.int .i64 0),(.str ⟨⟨[]⟩⟩),(.str ⟨⟨[]⟩⟩)]) [(0,0,1,(.t 33)),(1,1,1,(.t 34)),(2,2,1,(.t 35))]),.B 37 36,.m 11 37] (.k [.l 38 3,.h 39 38,.f 40 0 39,.l 41 40,.u 42 .add 41 1,.h 43 38,.f 44 0 43,.s 1 44 42] (.k [.l 45 7,.h 46 45,.f 47 1 46,.l 48 47,.m 49 8,.m 50 11,.n (.ex (.mup .str (.t 48) (.t 49) (.t 50)))] (.k [.l 51 3,.h 52 51,.f 53 1 52,.l 54 53,.o 55 (.eq .func true (.t 54) (.c .nilfn))] (.d 55 (.reg [.l 56 3,.h 57 56,.f 58 1 57,.l 59 58,.m 60 11,.o 61 (.call (.t 59) [(.t 60)])]) .skip)))))))
 63 [19,21,22,23,24,25,26,20,27,28,10,29,30,31,32,33,34,35,36,37,39,40,41,38,43,44,42,7,45,46,47,8,48,49,50,51,52,53,54,55,3,56,57,58,11,59,60]))) (.k [.l 62 7,.m 6 62] .ret)))⟩
theorem ok157:okF f157 c157:=okI
noncomputable def c158:F':=⟨4,[.t 2],.k [.B 1 0,.a 2 .nilfn] (.k [.o 3 (.mkf 187 [] [(.t 1)]),.m 2 3] .ret)⟩
theorem ok158:okF f158 c158:=okI
noncomputable def c159:F':=⟨11,[.t 2],.k [.B 1 0,.F 2] (.k [.j 3 25 1,.o 4 (.call (.f 174) [(.t 3),(.c (.int .i64 2000))]),.u 5 .geq 4 0,.m 6 5,.v 7 6 true (.ld (some 25) (.t 1)),.v 8 6 true (.call (.f 188) [(.t 7)]),.v 9 6 true (.bin .leq (.t 8) (.c (.int .i64 60))),.y 10 6 9,.m 2 10] .ret)⟩
theorem ok159:okF f159 c159:=okI
noncomputable def c164:F':=⟨32,[.t 4],.k [.B 2 0,.B 3 1,.F 4] (.seq (.k [.j 8 25 2,.j 9 25 3,.w 10 195 8 9,.o 11 (.un .not (.t 10))] (.d 11 (.k [.F 4] .ret) .skip)) (.k [.j 12 25 2,.c 13 193 12,.m 5 13] (.k [.j 14 25 3,.c 15 193 14,.m 6 15] (.seq (.k [.G 7 0] (.block 0 (.loop (.seq (.k [.m 16 7,.m 17 5,.L 18 17,.b 19 .lss 16 18] (.d 19 .skip (.exit 0))) (.seq (.block 1 (.seq (.draw [.p (.m 22 5) [],.p (.m 23 7) [],.p (.i 24 25 22 23) [0,1],.p (.j 25 25 24) [2,0,1],.p (.m 26 6) [],.p (.m 27 7) [],.p (.i 28 25 26 27) [4,5],.p (.j 29 25 28) [6,4,5],.q (.w 30 164 25 29) true false [3,7,2,0,1,6,4,5] 0 0,.q (.o 31 (.un .not (.t 30))) false false [8,3,7,2,0,1,6,4,5] 1 1] []) (.d 31 (.k [.F 4] .ret) .skip))) (.reg [.m 20 7,.u 21 .add 20 1,.m 7 21])))))) (.k [.T 4] .ret)))))⟩
theorem ok164:okF f164 c164:=okI
noncomputable def c165:F':=⟨32,[.t 6],.k [.F 6] (.seq (.k [.m 10 0,.L 11 10,.m 12 1,.L 13 12,.b 14 .neq 11 13] (.d 14 (.k [.F 6] .ret) .skip)) (.seq (.k [.m 15 0,.L 16 15,.G 17 0] (.block 0 (.loop (.k [.b 18 .lss 17 16] (.seq (.d 18 .skip (.exit 0)) (.seq (.block 1 (.k [.m 19 17,.i 20 7 15 17,.j 21 7 20,.o 8 (.new zX),.m 7 19,.s 7 8 21] (.k [.m 22 1,.m 23 7,.i 24 7 22 23,.j 25 7 24,.o 9 (.new zX),.s 7 9 25] (.k [.m 26 2,.j 27 7 8,.j 28 7 9,.o 29 (.call (.t 26) [(.t 27),(.t 28)]),.o 30 (.un .not (.t 29))] (.d 30 (.k [.F 6] .ret) .skip))))) (.reg [.u 31 .add 17 1,.m 17 31]))))))) (.k [.T 6] .ret)))⟩
theorem ok165:okF f165 c165:=okI
noncomputable def c166:F':=⟨45,[.t 4],.k [.B 2 0,.B 3 1,.F 4] (.k [.f 5 0 2,.l 6 5,.f 7 0 3,.l 8 7,.b 9 .eql 6 8,.m 10 9,.v 11 10 true (.fa 1 (.t 2)),.M 12 10 true 11,.v 13 10 true (.fa 1 (.t 3)),.M 14 10 true 13,.N 15 10 true .eql 12 14,.y 16 10 15,.m 17 16,.v 18 17 true (.fa 2 (.t 2)),.M 19 17 true 18,.v 20 17 true (.fa 2 (.t 3)),.M 21 17 true 20,.N 22 17 true .eql 19 21,.y 23 17 22,.m 24 23,.v 25 24 true (.fa 3 (.t 2)),.v 26 24 true (.ld (some 2) (.t 25)),.v 27 24 true (.fa 3 (.t 3)),.v 28 24 true (.ld (some 2) (.t 27)),.v 29 24 true (.ex (.eqs false 2 [(0,.i),(1,.i)] (.t 26) (.t 28))),.y 30 24 29,.m 31 30,.v 32 31 true (.fa 5 (.t 2)),.M 33 31 true 32,.v 34 31 true (.fa 5 (.t 3)),.M 35 31 true 34,.N 36 31 true .eql 33 35,.y 37 31 36,.m 38 37,.v 39 38 true (.fa 6 (.t 2)),.M 40 38 true 39,.v 41 38 true (.fa 6 (.t 3)),.M 42 38 true 41,.v 43 38 true (.call (.f 123) [(.t 40),(.t 42)]),.y 44 38 43,.m 4 44] .ret)⟩
theorem ok166:okF f166 c166:=okI
noncomputable def c168:F':=⟨5,[.cell 2 (some 25)],.k [.B 1 0,.o 2 (.new zP)] (.k [.j 3 7 1,.o 4 (.build zP [(0,0,1,(.c (.int .i64 2))),(2,9,7,(.t 3))]),.s 25 2 4] .ret)⟩
theorem ok168:okF f168 c168:=okI
noncomputable def c169:F':=⟨19,[.t 4],.k [.G 4 0] (.seq (.k [.m 6 0,.L 7 6,.G 8 0] (.block 0 (.loop (.k [.b 9 .lss 8 7] (.seq (.d 9 .skip (.exit 0)) (.seq (.block 1 (.k [.m 10 8,.m 5 10] (.k [.m 11 1,.m 12 0,.m 13 5,.i 14 4 12 13,.j 15 4 14,.o 16 (.call (.t 11) [(.t 15)])] (.d 16 (.k [.m 17 5,.m 4 17] .ret) .skip)))) (.reg [.u 18 .add 8 1,.m 8 18]))))))) (.k [.G 4 (-1)] .ret))⟩
theorem ok169:okF f169 c169:=okI
noncomputable def c173:F':=⟨19,[.t 4],.k [.G 4 0] (.seq (.k [.m 6 0,.L 7 6,.G 8 0] (.block 0 (.loop (.k [.b 9 .lss 8 7] (.seq (.d 9 .skip (.exit 0)) (.seq (.block 1 (.k [.m 10 8,.m 5 10] (.k [.m 11 1,.m 12 0,.m 13 5,.i 14 1 12 13,.l 15 14,.o 16 (.call (.t 11) [(.t 15)])] (.d 16 (.k [.m 17 5,.m 4 17] .ret) .skip)))) (.reg [.u 18 .add 8 1,.m 8 18]))))))) (.k [.G 4 (-1)] .ret))⟩
theorem ok173:okF f173 c173:=okI
noncomputable def c174:F':=⟨37,[.t 4],.k [.B 2 0,.G 4 0] (.seq (.seq (.draw [.p (.j 7 25 2) [],.q (.c 8 200 7) true false [0] 0 0,.q (.j 9 25 2) false true [] 0 1,.q (.c 10 201 9) true false [2,1,0] 1 1,.q (.b 11 .add 8 10) false false [3,2,1,0] 2 2,.q (.m 12 1) false false [] 0 2,.q (.b 13 .gtr 11 12) false false [4,5,3,2,1,0] 2 2] []) (.d 13 (.k [.G 4 (-1)] .ret) .skip)) (.k [.m 14 1,.j 15 25 2,.c 16 200 15,.b 17 .sub 14 16,.m 1 17] (.k [.j 18 25 2,.c 19 193 18,.m 5 19] (.seq (.k [.G 6 0] (.block 0 (.loop (.seq (.k [.m 20 6,.m 21 5,.L 22 21,.b 23 .lss 20 22,.m 24 23,.V 25 24 true 1,.v 26 24 true (.bin .geq (.t 25) (.c z0)),.y 27 24 26] (.d 27 .skip (.exit 0))) (.seq (.block 1 (.reg [.m 30 5,.m 31 6,.i 32 25 30 31,.j 33 25 32,.m 34 1,.w 35 174 33 34,.m 1 35])) (.reg [.m 28 6,.u 29 .add 28 1,.m 6 29])))))) (.k [.m 36 1,.m 4 36] .ret)))))⟩
theorem ok174:okF f174 c174:=okI
noncomputable def c177:F':=⟨31,[.cell 7 none],.k [.B 5 0,.B 6 1,.o 7 (.new (.bool false))] (.seq (.draw [.q (.l 9 2) false true [] 0 1,.p (.j 10 25 5) [],.q (.c 11 178 10) true false [1] 0 0,.q (.b 12 .add 9 11) false false [0,2,1] 1 1,.q (.s 1 2 12) true false [3,0,2,1] 1 1] []) (.k [.l 13 3,.l 14 6,.o 15 (.ex (.mm true (.t 13) (.t 14))),.s 1 3 15] (.seq (.k [.l 16 2,.u 17 .gtr 16 2000,.m 18 17,.M 19 18 false 3,.v 20 18 false (.bin .gtr (.t 19) (.c (.int .i64 60))),.z 21 18 20] (.d 21 (.k [.n (.sto 1 (.t 7) (.c (.bool false)))] .ret) .skip)) (.seq (.k [.j 22 25 5,.c 23 179 22] (.block 0 (.rf (.t 23) [24] (QB f177 0).1 (QB f177 0).2 (.reg [.o 8 (.new zP),.s 25 8 24]) (.block 1 (.k [.l 25 4,.j 26 25 8,.l 27 6,.u 28 .add 27 1,.o 29 (.call (.t 25) [(.t 26),(.t 28)]),.o 30 (.un .not (.t 29))] (.d 30 (.k [.n (.sto 1 (.t 7) (.c (.bool false)))] .ret) .skip)))
 31 [24,4,8,6,27,25,26,28,29,30,7]))) (.k [.n (.sto 1 (.t 7) (.c (.bool true)))] .ret)))))⟩
theorem ok177:okF f177 c177:=okI
noncomputable def c178:F':=⟨24,[.t 2],.k [.B 1 0,.G 2 0] (.seq (.k [.f 3 0 1,.l 4 3] (.block 0 (.k [.u 6 .eql 4 1,.m 5 6] (.d 5 (.k [.f 7 1 1,.f 8 0 7,.l 9 8,.L 10 9,.o 11 (.bin .add (.c (.int .i64 1)) (.t 10)),.m 2 11] .ret) (.k [.u 13 .eql 4 2,.m 12 13] (.d 12 (.k [.f 14 9 1,.f 15 3 14,.l 16 15,.L 17 16,.o 18 (.bin .add (.c (.int .i64 1)) (.t 17)),.f 19 9 1,.f 20 5 19,.l 21 20,.L 22 21,.b 23 .add 18 22,.m 2 23] .ret) .skip)))))) (.k [.G 2 1] .ret))⟩
theorem ok178:okF f178 c178:=okI
noncomputable def c179:F':=⟨4,[.t 2],.k [.B 1 0,.a 2 .nilfn] (.k [.o 3 (.mkf 202 [] [(.t 1)]),.m 2 3] .ret)⟩
theorem ok179:okF f179 c179:=okI
noncomputable def c180:F':=⟨103,[.t 2],.k [.B 1 0,.F 2] (.k [.f 8 0 1,.l 9 8,.c 10 208 9,.m 7 10,.e 11 0 7,.e 12 1 7,.m 3 11,.m 4 12] (.seq (.k [.f 13 0 1,.l 14 13,.o 15 (.call (.f 209) [(.t 14),(.c (.int .i64 1)),(.c (.int .i64 11))]),.o 16 (.un .not (.t 15)),.m 17 16,.v 18 17 false (.fa 6 (.t 1)),.M 19 17 false 18,.v 20 17 false (.len false (.t 19)),.V 21 17 false 3,.V 22 17 false 4,.v 23 17 false (.call (.f 209) [(.t 20),(.t 21),(.t 22)]),.v 24 17 false (.un .not (.t 23)),.z 25 17 24] (.d 25 (.k [.F 2] .ret) .skip)) (.k [.j 26 7 1,.o 5 (.new zX),.s 7 5 26] (.k [.f 27 0 5,.n (.sto 1 (.t 27) (.c z0)),.f 28 6 5,.n (.sto 1 (.t 28) (.c sN))] (.k [.T 6] (.seq (.k [.f 29 0 1,.l 30 29] (.block 0 (.k [.u 32 .eql 30 1,.m 31 32] (.d 31 (.k [.f 33 2 1,.l 34 33,.o 35 (.call (.f 209) [(.t 34),(.c z0),(.c (.int .i64 2147483647))]),.m 6 35] (.reg [.f 36 2 5,.n (.sto 1 (.t 36) (.c z0))])) (.k [.u 38 .eql 30 2,.m 37 38] (.d 37 (.k [.f 39 3 1,.j 40 2 39,.c 41 210 40,.m 42 41,.v 43 42 true (.fa 3 (.t 1)),.v 44 42 true (.fa 0 (.t 43)),.M 45 42 true 44,.v 46 42 true (.bin .geq (.t 45) (.c z0)),.y 47 42 46,.m 6 47] (.reg [.o 48 (.build (.agg [(.int .i64 0),(.int .i64 0)]) []),.f 49 3 5,.s 2 49 48])) (.k [.u 51 .eql 30 5,.m 50 51] (.d 50 (.k [.f 52 5 1,.l 53 52,.c 54 211 53,.m 6 54] (.reg [.f 55 5 5,.n (.sto 1 (.t 55) (.c (.str ⟨⟨[]⟩⟩)))])) (.seq (.k [.u 57 .eql 30 6,.m 56 57] (.d 56 .skip (.k [.u 58 .eql 30 7,.m 56 58] (.d 56 .skip (.reg [.u 59 .eql 30 8,.m 56 59]))))) (.d 56 (.k [.f 60 5 1,.l 61 60,.c 62 57 61,.m 6 62] (.reg [.f 63 5 5,.n (.sto 1 (.t 63) (.c (.str ⟨⟨[]⟩⟩)))])) (.k [.u 65 .eql 30 9,.m 64 65] (.d 64 (.k [.f 66 1 1,.l 67 66,.u 68 .eql 67 1,.m 69 68,.v 70 69 false (.fa 1 (.t 1)),.M 71 69 false 70,.v 72 69 false (.bin .eql (.t 71) (.c (.int .i64 2))),.z 73 69 72,.m 6 73] (.reg [.f 74 1 5,.n (.sto 1 (.t 74) (.c z0))])) (.k [.u 76 .eql 30 10,.m 75 76] (.d 75 (.k [.f 77 1 1,.l 78 77,.o 79 (.call (.f 209) [(.t 78),(.c (.int .i64 3)),(.c (.int .i64 18))]),.m 6 79] (.reg [.f 80 1 5,.n (.sto 1 (.t 80) (.c z0))])) .skip)))))))))))))) (.k [.m 81 6,.m 82 81,.v 83 82 true (.fa 1 (.t 5)),.M 84 82 true 83,.v 85 82 true (.bin .eql (.t 84) (.c z0)),.y 86 82 85,.m 87 86,.v 88 87 true (.fa 2 (.t 5)),.M 89 87 true 88,.v 90 87 true (.bin .eql (.t 89) (.c z0)),.y 91 87 90,.m 92 91,.v 93 92 true (.fa 3 (.t 5)),.v 94 92 true (.ld (some 2) (.t 93)),.v 95 92 true (.build (.agg [(.int .i64 0),(.int .i64 0)]) []),.v 96 92 true (.ex (.eqs false 2 [(0,.i),(1,.i)] (.t 94) (.t 95))),.y 97 92 96,.m 98 97,.v 99 98 true (.fa 5 (.t 5)),.M 100 98 true 99,.v 101 98 true (.bin .eql (.t 100) (.c (.str ⟨⟨[]⟩⟩))),.y 102 98 101,.m 2 102] .ret)))))))⟩
theorem ok180:okF f180 c180:=okI
noncomputable def c182:F':=⟨109,[.t 2],.k [.B 1 0,.F 2] (.k [.o 9 (.build (.agg [(.int .i64 0),(.int .i64 0)]) [(0,0,1,(.c (.int .i64 1))),(1,1,1,(.c (.int .i64 1)))]),.o 10 (.build (.agg [(.int .i64 0),(.int .i64 0)]) []),.o 11 (.build (.agg [(.int .i64 0),(.int .i64 0)]) []),.o 12 (.build (.agg [(.int .i64 0),(.int .i64 0)]) []),.o 3 (.new (.agg [(.int .i64 0),(.int .i64 0)])),.o 4 (.new (.agg [(.int .i64 0),(.int .i64 0)])),.o 5 (.new (.agg [(.int .i64 0),(.int .i64 0)])),.o 6 (.new (.agg [(.int .i64 0),(.int .i64 0)])),.s 2 3 9,.s 2 4 10,.s 2 5 11,.s 2 6 12] (.k [.F 7,.F 8] (.seq (.k [.f 13 0 1,.l 14 13] (.block 0 (.k [.u 16 .eql 14 1,.m 15 16] (.d 15 (.reg [.o 17 (.build (.agg [(.int .i64 0),(.int .i64 0)]) [(0,0,1,(.c (.int .i64 1))),(1,1,1,(.c (.int .i64 (-1))))]),.s 2 3 17,.T 7,.T 8]) (.k [.u 19 .eql 14 2,.m 18 19] (.d 18 (.reg [.o 20 (.build (.agg [(.int .i64 0),(.int .i64 0)]) [(0,0,1,(.c (.int .i64 1))),(1,1,1,(.c (.int .i64 (-1))))]),.o 21 (.build (.agg [(.int .i64 0),(.int .i64 0)]) [(0,0,1,(.c (.int .i64 2))),(1,1,1,(.c (.int .i64 8)))]),.s 2 3 20,.s 2 4 21,.T 7,.T 8]) (.k [.u 23 .eql 14 3,.m 22 23] (.d 22 (.reg [.o 24 (.build (.agg [(.int .i64 0),(.int .i64 0)]) [(0,0,1,(.c (.int .i64 1))),(1,1,1,(.c (.int .i64 (-1))))]),.s 2 4 24]) (.k [.u 26 .eql 14 4,.m 25 26] (.d 25 (.reg [.o 27 (.build (.agg [(.int .i64 0),(.int .i64 0)]) [(0,0,1,(.c (.int .i64 1))),(1,1,1,(.c (.int .i64 1)))]),.o 28 (.build (.agg [(.int .i64 0),(.int .i64 0)]) [(0,0,1,(.c z0)),(1,1,1,(.c (.int .i64 8)))]),.s 2 5 27,.s 2 6 28]) (.k [.F 2] .ret))))))))))) (.seq (.k [.j 29 2 3,.f 30 3 1,.l 31 30,.L 32 31,.w 33 212 29 32,.o 34 (.un .not (.t 33)),.m 35 34,.v 36 35 false (.ld (some 2) (.t 4)),.v 37 35 false (.fa 4 (.t 1)),.M 38 35 false 37,.v 39 35 false (.len false (.t 38)),.v 40 35 false (.call (.f 212) [(.t 36),(.t 39)]),.v 41 35 false (.un .not (.t 40)),.z 42 35 41,.m 43 42,.v 44 43 false (.ld (some 2) (.t 5)),.v 45 43 false (.fa 6 (.t 1)),.M 46 43 false 45,.v 47 43 false (.len false (.t 46)),.v 48 43 false (.call (.f 212) [(.t 44),(.t 47)]),.v 49 43 false (.un .not (.t 48)),.z 50 43 49,.m 51 50,.v 52 51 false (.ld (some 2) (.t 6)),.v 53 51 false (.fa 5 (.t 1)),.M 54 51 false 53,.v 55 51 false (.len false (.t 54)),.v 56 51 false (.call (.f 212) [(.t 52),(.t 55)]),.v 57 51 false (.un .not (.t 56)),.z 58 51 57,.m 59 58,.v 60 59 false (.fa 3 (.t 1)),.M 61 59 false 60,.v 62 59 false (.call (.f 213) [(.t 61)]),.v 63 59 false (.un .not (.t 62)),.z 64 59 63] (.d 64 (.k [.F 2] .ret) .skip)) (.seq (.k [.f 65 1 1,.l 66 65,.m 67 66,.V 68 67 true 8,.v 69 67 true (.un .not (.t 68)),.y 70 67 69,.m 71 70,.V 72 71 false 7,.V 73 71 false 72,.v 74 73 true (.fa 2 (.t 1)),.M 75 73 true 74,.v 76 73 true (.call (.f 209) [(.t 75),(.c (.int .i64 1)),(.c (.int .i64 3))]),.v 77 73 true (.un .not (.t 76)),.v 78 71 false (.pick (.t 73) (.t 77) (.c (.bool false))),.z 79 71 78,.m 80 79,.v 81 80 false (.fa 0 (.t 1)),.M 82 80 false 81,.v 83 80 false (.bin .eql (.t 82) (.c (.int .i64 3))),.V 84 80 false 83,.v 85 84 true (.fa 2 (.t 1)),.M 86 84 true 85,.v 87 84 true (.bin .neq (.t 86) (.c z0)),.v 88 80 false (.pick (.t 84) (.t 87) (.c (.bool false))),.z 89 80 88,.m 90 89,.v 91 90 false (.fa 2 (.t 1)),.M 92 90 false 91,.v 93 90 false (.call (.f 209) [(.t 92),(.c z0),(.c (.int .i64 3))]),.v 94 90 false (.un .not (.t 93)),.z 95 90 94] (.d 95 (.k [.F 2] .ret) .skip)) (.seq (.k [.f 96 0 1,.l 97 96,.u 98 .eql 97 2,.m 99 98,.v 100 99 true (.fa 4 (.t 1)),.M 101 99 true 100,.v 102 99 true (.len false (.t 101)),.v 103 99 true (.bin .rem (.t 102) (.c (.int .i64 2))),.v 104 99 true (.bin .neq (.t 103) (.c z0)),.y 105 99 104] (.d 105 (.k [.F 2] .ret) .skip)) (.k [.f 106 5 1,.l 107 106,.c 108 214 107,.m 2 108] .ret)))))))⟩
theorem ok182:okF f182 c182:=okI
noncomputable def c183:F':=⟨122,[.t 2],.k [.B 1 0,.F 2] (.k [.o 3 (.new (.agg [(.int .i64 0),(.int .i64 0)])),.o 4 (.new (.agg [(.int .i64 0),(.int .i64 0)])),.o 5 (.new (.agg [(.int .i64 0),(.int .i64 0)])),.o 6 (.new (.agg [(.int .i64 0),(.int .i64 0)])),.o 7 (.new (.agg [(.int .i64 0),(.int .i64 0)]))] (.k [.F 8] (.seq (.k [.f 9 1 1,.l 10 9] (.block 0 (.k [.u 12 .eql 10 1,.m 11 12] (.d 11 .skip (.k [.u 14 .eql 10 2,.m 13 14] (.d 13 (.reg [.o 15 (.build (.agg [(.int .i64 0),(.int .i64 0)]) [(0,0,1,(.c (.int .i64 1))),(1,1,1,(.c (.int .i64 (-1))))]),.o 16 (.build (.agg [(.int .i64 0),(.int .i64 0)]) [(0,0,1,(.c (.int .i64 1))),(1,1,1,(.c (.int .i64 1)))]),.s 2 3 15,.s 2 4 16]) (.k [.u 18 .eql 10 3,.m 17 18] (.d 17 (.reg [.o 19 (.build (.agg [(.int .i64 0),(.int .i64 0)]) [(0,0,1,(.c (.int .i64 1))),(1,1,1,(.c (.int .i64 1)))]),.s 2 4 19]) (.k [.u 21 .eql 10 4,.m 20 21] (.d 20 (.reg [.o 22 (.build (.agg [(.int .i64 0),(.int .i64 0)]) [(0,0,1,(.c (.int .i64 1))),(1,1,1,(.c (.int .i64 1)))]),.o 23 (.build (.agg [(.int .i64 0),(.int .i64 0)]) [(0,0,1,(.c (.int .i64 1))),(1,1,1,(.c (.int .i64 2)))]),.s 2 4 22,.s 2 7 23]) (.k [.u 25 .eql 10 5,.m 24 25] (.d 24 (.reg [.o 26 (.build (.agg [(.int .i64 0),(.int .i64 0)]) [(0,0,1,(.c (.int .i64 1))),(1,1,1,(.c (.int .i64 1)))]),.o 27 (.build (.agg [(.int .i64 0),(.int .i64 0)]) [(0,0,1,(.c (.int .i64 1))),(1,1,1,(.c (.int .i64 (-1))))]),.o 28 (.build (.agg [(.int .i64 0),(.int .i64 0)]) [(0,0,1,(.c (.int .i64 1))),(1,1,1,(.c (.int .i64 1)))]),.s 2 3 26,.s 2 5 27,.s 2 7 28]) (.k [.u 30 .eql 10 6,.m 29 30] (.d 29 (.reg [.o 31 (.build (.agg [(.int .i64 0),(.int .i64 0)]) [(0,0,1,(.c z0)),(1,1,1,(.c (.int .i64 8)))]),.T 8,.s 2 4 31]) (.k [.u 33 .eql 10 7,.m 32 33] (.d 32 (.reg [.o 34 (.build (.agg [(.int .i64 0),(.int .i64 0)]) [(0,0,1,(.c (.int .i64 1))),(1,1,1,(.c (.int .i64 (-1))))]),.o 35 (.build (.agg [(.int .i64 0),(.int .i64 0)]) [(0,0,1,(.c (.int .i64 1))),(1,1,1,(.c (.int .i64 (-1))))]),.s 2 6 34,.s 2 7 35]) (.k [.u 37 .eql 10 8,.m 36 37] (.d 36 (.reg [.o 38 (.build (.agg [(.int .i64 0),(.int .i64 0)]) [(0,0,1,(.c (.int .i64 1))),(1,1,1,(.c (.int .i64 (-1))))]),.s 2 7 38]) (.k [.F 2] .ret))))))))))))))))))) (.seq (.k [.j 39 2 3,.f 40 3 1,.l 41 40,.L 42 41,.w 43 212 39 42,.o 44 (.un .not (.t 43)),.m 45 44,.v 46 45 false (.ld (some 2) (.t 4)),.v 47 45 false (.fa 4 (.t 1)),.M 48 45 false 47,.v 49 45 false (.len false (.t 48)),.v 50 45 false (.call (.f 212) [(.t 46),(.t 49)]),.v 51 45 false (.un .not (.t 50)),.z 52 45 51,.m 53 52,.v 54 53 false (.ld (some 2) (.t 5)),.v 55 53 false (.fa 5 (.t 1)),.M 56 53 false 55,.v 57 53 false (.len false (.t 56)),.v 58 53 false (.call (.f 212) [(.t 54),(.t 57)]),.v 59 53 false (.un .not (.t 58)),.z 60 53 59,.m 61 60,.v 62 61 false (.ld (some 2) (.t 6)),.v 63 61 false (.fa 6 (.t 1)),.M 64 61 false 63,.v 65 61 false (.len false (.t 64)),.v 66 61 false (.call (.f 212) [(.t 62),(.t 65)]),.v 67 61 false (.un .not (.t 66)),.z 68 61 67,.m 69 68,.v 70 69 false (.ld (some 2) (.t 7)),.v 71 69 false (.fa 7 (.t 1)),.M 72 69 false 71,.v 73 69 false (.len false (.t 72)),.v 74 69 false (.call (.f 212) [(.t 70),(.t 73)]),.v 75 69 false (.un .not (.t 74)),.z 76 69 75] (.d 76 (.k [.F 2] .ret) .skip)) (.seq (.k [.m 77 8,.f 78 2 1,.l 79 78,.o 80 (.bin .neq (.t 79) (.c (.str ⟨⟨[]⟩⟩))),.o 81 (.eq .bool true (.t 77) (.t 80)),.m 82 81,.V 83 82 false 8,.V 84 82 false 83,.v 85 84 true (.fa 2 (.t 1)),.M 86 84 true 85,.v 87 84 true (.call (.f 57) [(.t 86)]),.v 88 84 true (.un .not (.t 87)),.v 89 82 false (.pick (.t 84) (.t 88) (.c (.bool false))),.z 90 82 89,.m 91 90,.v 92 91 false (.fa 0 (.t 1)),.M 93 91 false 92,.v 94 91 false (.call (.f 213) [(.t 93)]),.v 95 91 false (.un .not (.t 94)),.z 96 91 95,.m 97 96,.v 98 97 false (.fa 3 (.t 1)),.M 99 97 false 98,.v 100 97 false (.call (.f 215) [(.t 99)]),.v 101 97 false (.un .not (.t 100)),.z 102 97 101] (.d 102 (.k [.F 2] .ret) .skip)) (.k [.f 103 1 1,.l 104 103,.u 105 .neq 104 4,.m 106 105,.v 107 106 false (.fa 7 (.t 1)),.M 108 106 false 107,.v 109 106 false (.ia 8 (.t 108) (.c z0)),.v 110 106 false (.fa 1 (.t 109)),.M 111 106 false 110,.v 112 106 false (.bin .neq (.t 111) (.c (.int .i64 4))),.V 113 106 false 112,.v 114 113 true (.fa 7 (.t 1)),.M 115 113 true 114,.v 116 113 true (.ia 8 (.t 115) (.c z0)),.v 117 113 true (.fa 1 (.t 116)),.M 118 113 true 117,.v 119 113 true (.bin .neq (.t 118) (.c (.int .i64 5))),.v 120 106 false (.pick (.t 113) (.t 119) (.c (.bool false))),.z 121 106 120,.m 2 121] .ret))))))⟩
theorem ok183:okF f183 c183:=okI
noncomputable def c184:F':=⟨19,[.t 4],.k [.G 4 0] (.seq (.k [.m 6 0,.L 7 6,.G 8 0] (.block 0 (.loop (.k [.b 9 .lss 8 7] (.seq (.d 9 .skip (.exit 0)) (.seq (.block 1 (.k [.m 10 8,.m 5 10] (.k [.m 11 1,.m 12 0,.m 13 5,.i 14 1 12 13,.l 15 14,.b 16 .eql 11 15] (.d 16 (.k [.m 17 5,.m 4 17] .ret) .skip)))) (.reg [.u 18 .add 8 1,.m 8 18]))))))) (.k [.G 4 (-1)] .ret))⟩
theorem ok184:okF f184 c184:=okI
noncomputable def c186:F':=⟨102,[.cell 6 (some 8)],.k [.B 4 1,.o 6 (.new zS)] (.k [.f 9 0 4,.l 10 9,.m 11 2,.w 12 218 10 11,.f 13 0 4,.s 1 13 12] (.k [.m 14 0,.f 15 3 4,.l 16 15,.m 17 2,.o 18 (.call (.f 134) [(.t 14),(.t 16),(.t 17),(.c (.bool true))]),.f 19 3 4,.s 1 19 18] (.seq (.k [.f 20 1 4,.l 21 20] (.block 0 (.k [.u 41 .eql 21 7,.m 40 41] (.d 40 (.k [.m 42 0,.m 43 2,.j 44 8 4,.c 45 219 44,.x 46 157 42 43 45,.m 7 46] (.k [.m 47 0,.f 48 6 4,.l 49 48,.m 50 7,.m 51 2,.o 52 (.call (.f 220) [(.t 47),(.t 49),(.t 50),(.t 51)]),.f 53 6 4,.s 1 53 52] (.reg [.m 54 0,.f 55 7 4,.l 56 55,.m 57 7,.x 58 156 54 56 57,.f 59 7 4,.s 1 59 58]))) (.k [.u 61 .eql 21 8,.m 60 61] (.d 60 (.draw [.q (.m 62 0) false false [] 0 2,.q (.f 63 7 4) false false [] 0 2,.q (.l 64 63) false true [1] 0 2,.q (.m 65 0) false false [] 0 1,.q (.m 66 2) false false [] 0 1,.p (.f 67 7 4) [],.p (.l 68 67) [5],.q (.c 69 158 68) true false [6,5] 0 0,.q (.x 70 157 65 66 69) true false [3,4,7,6,5] 1 1,.q (.x 71 156 62 64 70) true false [0,2,8,1,3,4,7,6,5] 2 2,.q (.f 72 7 4) false false [9,0,2,8,1,3,4,7,6,5] 3 3,.q (.s 1 72 71) true false [10,9,0,2,8,1,3,4,7,6,5] 3 3] []) (.k [.m 22 0,.f 23 4 4,.l 24 23,.m 25 2,.o 26 (.call (.f 134) [(.t 22),(.t 24),(.t 25),(.c (.bool false))]),.f 27 4 4,.s 1 27 26] (.k [.m 28 0,.f 29 5 4,.l 30 29,.m 31 2,.x 32 221 28 30 31,.f 33 5 4,.s 1 33 32] (.reg [.m 34 0,.f 35 7 4,.l 36 35,.m 37 2,.x 38 111 34 36 37,.f 39 7 4,.s 1 39 38]))))))))) (.seq (.k [.f 73 1 4,.l 74 73,.u 75 .eql 74 6] (.d 75 (.k [.m 76 0,.h 77 76,.f 78 3 77,.l 79 78,.o 80 (.eq .func true (.t 79) (.c .nilfn))] (.d 80 (.draw [.p (.m 81 0) [],.p (.h 82 81) [0],.p (.f 83 3 82) [1,0],.p (.l 84 83) [2,1,0],.p (.f 85 2 4) [],.p (.l 86 85) [4],.p (.m 87 2) [],.q (.o 88 (.call (.t 84) [(.t 86),(.t 87)])) true false [3,5,6,2,1,0,4] 0 0,.q (.f 89 2 4) false false [7,3,5,6,2,1,0,4] 1 1,.q (.s 1 89 88) true false [8,7,3,5,6,2,1,0,4] 1 1] []) (.k [.m 90 2,.f 91 2 4,.l 92 91,.w 93 60 90 92,.m 8 93] (.k [.m 94 8,.o 95 (.eq .ptr true (.t 94) (.c .nilp))] (.d 95 (.reg [.m 96 8,.h 97 96,.f 98 2 97,.l 99 98,.f 100 2 4,.s 1 100 99]) .skip))))) .skip)) (.k [.j 101 8 4,.s 8 6 101] .ret)))))⟩
theorem ok186:okF f186 c186:=okI
noncomputable def c187:F':=⟨26,[],.k [.l 7 1,.L 8 7,.G 9 0] (.block 0 (.loop (.k [.b 10 .lss 9 8] (.seq (.d 10 .skip (.exit 0)) (.seq (.block 1 (.k [.i 11 8 7 9,.j 12 8 11,.o 4 (.new zS),.s 8 4 12] (.k [.f 13 0 4,.l 14 13,.L 15 14,.G 16 0] (.block 2 (.loop (.k [.b 17 .lss 16 15] (.seq (.d 17 .skip (.exit 2)) (.seq (.block 3 (.k [.i 18 1 14 16,.l 19 18,.m 6 19] (.k [.m 20 0,.m 21 6,.o 22 (.call (.t 20) [(.t 21)]),.o 23 (.un .not (.t 22))] (.d 23 .ret .skip)))) (.reg [.u 24 .add 16 1,.m 16 24]))))))))) (.reg [.u 25 .add 9 1,.m 9 25]))))))⟩
theorem ok187:okF f187 c187:=okI
noncomputable def c188:F':=⟨23,[.t 2],.k [.B 1 0,.G 2 0] (.k [.G 3 0] (.k [.j 6 25 1,.c 7 193 6,.m 4 7] (.seq (.k [.G 5 0] (.block 0 (.loop (.seq (.k [.m 8 5,.m 9 4,.L 10 9,.b 11 .lss 8 10] (.d 11 .skip (.exit 0))) (.seq (.block 1 (.reg [.m 14 3,.m 15 4,.m 16 5,.i 17 25 15 16,.j 18 25 17,.c 19 188 18,.o 20 (.ex (.mm true (.t 14) (.t 19))),.m 3 20])) (.reg [.m 12 5,.u 13 .add 12 1,.m 5 13])))))) (.k [.m 21 3,.o 22 (.bin .add (.c (.int .i64 1)) (.t 21)),.m 2 22] .ret))))⟩
theorem ok188:okF f188 c188:=okI
noncomputable def c193:F':=⟨78,[.t 2],.k [.B 1 0,.a 2 (.sl true [])] (.seq (.k [.f 7 0 1,.l 8 7] (.block 0 (.k [.u 10 .eql 8 1,.m 9 10] (.d 9 (.k [.f 11 1 1,.j 12 8 11,.o 3 (.new zS),.s 8 3 12] (.k [.f 13 3 3,.l 14 13,.o 15 (.call (.f 228) [(.c sN),(.t 14)]),.m 4 15] (.k [.m 16 4,.f 17 4 3,.l 18 17,.w 19 228 16 18,.m 4 19] (.seq (.k [.G 5 0] (.block 1 (.loop (.seq (.k [.m 20 5,.f 21 5 3,.l 22 21,.L 23 22,.b 24 .lss 20 23] (.d 24 .skip (.exit 1))) (.seq (.block 2 (.reg [.m 27 4,.f 28 5 3,.l 29 28,.m 30 5,.i 31 2 29 30,.j 32 2 31,.o 33 (.build zP [(0,0,1,(.c (.int .i64 3))),(3,16,2,(.t 32))]),.o 34 (.bsl 25 [(.t 33)]),.o 35 (.app 25 408 (.t 27) (.t 34)),.m 4 35])) (.reg [.m 25 5,.u 26 .add 25 1,.m 5 26])))))) (.seq (.k [.G 6 0] (.block 3 (.loop (.seq (.k [.m 36 6,.f 37 6 3,.l 38 37,.L 39 38,.b 40 .lss 36 39] (.d 40 .skip (.exit 3))) (.seq (.block 4 (.reg [.m 43 4,.f 44 6 3,.l 45 44,.m 46 6,.i 47 7 45 46,.j 48 7 47,.o 49 (.build zP [(0,0,1,(.c (.int .i64 2))),(2,9,7,(.t 48))]),.o 50 (.bsl 25 [(.t 49)]),.o 51 (.app 25 408 (.t 43) (.t 50)),.m 4 51])) (.reg [.m 41 6,.u 42 .add 41 1,.m 6 42])))))) (.k [.m 52 4,.f 53 7 3,.l 54 53,.w 55 229 52 54,.m 2 55] .ret)))))) (.k [.u 57 .eql 8 2,.m 56 57] (.d 56 (.seq (.draw [.p (.f 58 9 1) [],.p (.f 59 4 58) [0],.p (.l 60 59) [1,0],.q (.o 61 (.call (.f 228) [(.c sN),(.t 60)])) true false [2,1,0] 0 0,.q (.f 62 9 1) false false [] 0 1,.q (.f 63 6 62) false false [4] 0 1,.q (.l 64 63) false true [5,4] 0 1,.q (.w 65 229 61 64) true false [6,3,5,4,2,1,0] 1 1,.q (.m 2 65) false false [7,6,3,5,4,2,1,0] 2 2] []) .ret) (.k [.u 67 .eql 8 3,.m 66 67] (.d 66 (.k [.f 68 16 1,.f 69 1 68,.l 70 69,.o 71 (.call (.f 228) [(.c sN),(.t 70)]),.m 2 71] .ret) (.k [.u 73 .eql 8 4,.m 72 73] (.d 72 (.k [.f 74 18 1,.f 75 6 74,.l 76 75,.o 77 (.call (.f 228) [(.c sN),(.t 76)]),.m 2 77] .ret) .skip)))))))))) (.k [.a 2 (.sl true [])] .ret))⟩
theorem ok193:okF f193 c193:=okI
noncomputable def c195:F':=⟨239,[.t 4],.k [.B 2 0,.B 3 1,.F 4] (.seq (.draw [.p (.f 16 1 2) [],.p (.j 17 8 16) [0],.q (.f 18 1 3) false false [] 0 1,.q (.j 19 8 18) false true [2] 0 1,⟨.o 5 (.new zS),false,(some 0),true,[],0,0⟩,⟨.o 6 (.new zS),false,(some 1),true,[],0,0⟩,.q (.s 8 5 17) true false [1,4,5,0] 0 0,.q (.s 8 6 19) true false [3,6,2,1,4,5,0] 1 1] [zS,zS]) (.seq (.draw [.p (.f 20 9 2) [],.p (.j 21 7 20) [0],.q (.f 22 9 3) false false [] 0 1,.q (.j 23 7 22) false true [2] 0 1,⟨.o 7 (.new zD),false,(some 0),true,[],0,0⟩,⟨.o 8 (.new zD),false,(some 1),true,[],0,0⟩,.q (.s 7 7 21) true false [1,4,5,0] 0 0,.q (.s 7 8 23) true false [3,6,2,1,4,5,0] 1 1] [zD,zD]) (.seq (.k [.f 24 0 2,.l 25 24,.f 26 0 3,.l 27 26,.b 28 .neq 25 27,.m 29 28,.v 30 29 false (.fa 5 (.t 7)),.M 31 29 false 30,.v 32 29 false (.len false (.t 31)),.v 33 29 false (.fa 5 (.t 8)),.M 34 29 false 33,.v 35 29 false (.len false (.t 34)),.N 36 29 false .neq 32 35,.z 37 29 36] (.d 37 (.k [.F 4] .ret) .skip)) (.seq (.k [.G 9 0] (.block 0 (.loop (.seq (.k [.m 38 9,.f 39 5 7,.l 40 39,.L 41 40,.b 42 .lss 38 41] (.d 42 .skip (.exit 0))) (.seq (.block 1 (.seq (.draw [.p (.f 45 5 7) [],.p (.l 46 45) [0],.p (.m 47 9) [],.p (.i 48 4 46 47) [1,2,0],.p (.j 49 4 48) [3,1,2,0],.p (.f 50 5 8) [],.p (.l 51 50) [5],.p (.m 52 9) [],.p (.i 53 4 51 52) [6,7,5],.p (.j 54 4 53) [8,6,7,5],.p (.o 55 (.ex (.eqs true 4 [(0,.s),(1,.b),(2,.i),(3,.i)] (.t 49) (.t 54)))) [4,9,3,1,2,0,8,6,7,5]] []) (.d 55 (.k [.F 4] .ret) .skip))) (.reg [.m 43 9,.u 44 .add 43 1,.m 9 44])))))) (.seq (.draw [.p (.f 56 18 2) [],.p (.j 57 7 56) [0],.q (.f 58 18 3) false false [] 0 1,.q (.j 59 7 58) false true [2] 0 1,⟨.o 10 (.new zX),false,(some 0),true,[],0,0⟩,⟨.o 11 (.new zX),false,(some 1),true,[],0,0⟩,.q (.s 7 10 57) true false [1,4,5,0] 0 0,.q (.s 7 11 59) true false [3,6,2,1,4,5,0] 1 1] [zX,zX]) (.k [.f 60 3 5,.l 61 60,.L 62 61,.f 63 3 6,.l 64 63,.L 65 64,.b 66 .eql 62 65,.m 67 66,.v 68 67 true (.fa 4 (.t 5)),.M 69 67 true 68,.v 70 67 true (.len false (.t 69)),.v 71 67 true (.fa 4 (.t 6)),.M 72 67 true 71,.v 73 67 true (.len false (.t 72)),.N 74 67 true .eql 70 73,.y 75 67 74,.m 76 75,.v 77 76 true (.fa 5 (.t 5)),.M 78 76 true 77,.v 79 76 true (.len false (.t 78)),.v 80 76 true (.fa 5 (.t 6)),.M 81 76 true 80,.v 82 76 true (.len false (.t 81)),.N 83 76 true .eql 79 82,.y 84 76 83,.m 85 84,.v 86 85 true (.fa 6 (.t 5)),.M 87 85 true 86,.v 88 85 true (.len false (.t 87)),.v 89 85 true (.fa 6 (.t 6)),.M 90 85 true 89,.v 91 85 true (.len false (.t 90)),.N 92 85 true .eql 88 91,.y 93 85 92,.m 94 93,.v 95 94 true (.fa 7 (.t 5)),.M 96 94 true 95,.v 97 94 true (.len false (.t 96)),.v 98 94 true (.fa 7 (.t 6)),.M 99 94 true 98,.v 100 94 true (.len false (.t 99)),.N 101 94 true .eql 97 100,.y 102 94 101,.m 12 102] (.k [.m 103 12,.m 104 103,.v 105 104 true (.fa 4 (.t 7)),.M 106 104 true 105,.v 107 104 true (.len false (.t 106)),.v 108 104 true (.fa 4 (.t 8)),.M 109 104 true 108,.v 110 104 true (.len false (.t 109)),.N 111 104 true .eql 107 110,.y 112 104 111,.m 113 112,.v 114 113 true (.fa 6 (.t 7)),.M 115 113 true 114,.v 116 113 true (.len false (.t 115)),.v 117 113 true (.fa 6 (.t 8)),.M 118 113 true 117,.v 119 113 true (.len false (.t 118)),.N 120 113 true .eql 116 119,.y 121 113 120,.m 122 121,.v 123 122 true (.fa 16 (.t 2)),.v 124 122 true (.fa 1 (.t 123)),.M 125 122 true 124,.v 126 122 true (.len false (.t 125)),.v 127 122 true (.fa 16 (.t 3)),.v 128 122 true (.fa 1 (.t 127)),.M 129 122 true 128,.v 130 122 true (.len false (.t 129)),.N 131 122 true .eql 126 130,.y 132 122 131,.m 133 132,.v 134 133 true (.fa 6 (.t 10)),.M 135 133 true 134,.v 136 133 true (.len false (.t 135)),.v 137 133 true (.fa 6 (.t 11)),.M 138 133 true 137,.v 139 133 true (.len false (.t 138)),.N 140 133 true .eql 136 139,.y 141 133 140,.m 12 141] (.k [.f 142 1 5,.l 143 142,.f 144 1 6,.l 145 144,.b 146 .eql 143 145,.m 147 146,.v 148 147 true (.fa 2 (.t 5)),.M 149 147 true 148,.v 150 147 true (.fa 2 (.t 6)),.M 151 147 true 150,.N 152 147 true .eql 149 151,.y 153 147 152,.m 154 153,.v 155 154 true (.fa 0 (.t 5)),.M 156 154 true 155,.v 157 154 true (.fa 0 (.t 6)),.M 158 154 true 157,.v 159 154 true (.call (.f 233) [(.t 156),(.t 158)]),.y 160 154 159,.m 13 160] (.k [.f 161 0 7,.l 162 161,.f 163 0 8,.l 164 163,.b 165 .eql 162 164,.m 166 165,.v 167 166 true (.fa 1 (.t 7)),.M 168 166 true 167,.v 169 166 true (.fa 1 (.t 8)),.M 170 166 true 169,.v 171 166 true (.eq .bool false (.t 168) (.t 170)),.y 172 166 171,.m 173 172,.v 174 173 true (.fa 2 (.t 7)),.M 175 173 true 174,.v 176 173 true (.fa 2 (.t 8)),.M 177 173 true 176,.N 178 173 true .eql 175 177,.y 179 173 178,.m 180 179,.v 181 180 true (.fa 3 (.t 7)),.M 182 180 true 181,.v 183 180 true (.fa 3 (.t 8)),.M 184 180 true 183,.v 185 180 true (.call (.f 233) [(.t 182),(.t 184)]),.y 186 180 185,.m 14 186] (.k [.f 187 0 10,.l 188 187,.f 189 0 11,.l 190 189,.b 191 .eql 188 190,.m 192 191,.v 193 192 true (.fa 1 (.t 10)),.M 194 192 true 193,.v 195 192 true (.fa 1 (.t 11)),.M 196 192 true 195,.N 197 192 true .eql 194 196,.y 198 192 197,.m 199 198,.v 200 199 true (.fa 2 (.t 10)),.M 201 199 true 200,.v 202 199 true (.fa 2 (.t 11)),.M 203 199 true 202,.N 204 199 true .eql 201 203,.y 205 199 204,.m 206 205,.v 207 206 true (.fa 3 (.t 10)),.v 208 206 true (.ld (some 2) (.t 207)),.v 209 206 true (.fa 3 (.t 11)),.v 210 206 true (.ld (some 2) (.t 209)),.v 211 206 true (.ex (.eqs false 2 [(0,.i),(1,.i)] (.t 208) (.t 210))),.y 212 206 211,.m 213 212,.v 214 213 true (.fa 5 (.t 10)),.M 215 213 true 214,.v 216 213 true (.fa 5 (.t 11)),.M 217 213 true 216,.N 218 213 true .eql 215 217,.y 219 213 218,.m 15 219] (.k [.m 220 12,.m 221 220,.V 222 221 true 13,.y 223 221 222,.m 224 223,.V 225 224 true 14,.y 226 224 225,.m 227 226,.v 228 227 true (.fa 16 (.t 2)),.v 229 227 true (.fa 0 (.t 228)),.M 230 227 true 229,.v 231 227 true (.fa 16 (.t 3)),.v 232 227 true (.fa 0 (.t 231)),.M 233 227 true 232,.N 234 227 true .eql 230 233,.y 235 227 234,.m 236 235,.V 237 236 true 15,.y 238 236 237,.m 4 238] .ret)))))))))))⟩
theorem ok195:okF f195 c195:=okI
set_option maxRecDepth 20000
noncomputable def c200:F':=⟨24,[.t 2],.k [.B 1 0,.G 2 0] (.seq (.k [.f 3 0 1,.l 4 3] (.block 0 (.k [.u 6 .eql 4 1,.m 5 6] (.d 5 (.k [.f 7 1 1,.f 8 0 7,.l 9 8,.L 10 9,.o 11 (.bin .add (.c (.int .i64 1)) (.t 10)),.m 2 11] .ret) (.k [.u 13 .eql 4 2,.m 12 13] (.d 12 (.k [.f 14 9 1,.f 15 3 14,.l 16 15,.L 17 16,.o 18 (.bin .add (.c (.int .i64 1)) (.t 17)),.f 19 9 1,.f 20 5 19,.l 21 20,.L 22 21,.b 23 .add 18 22,.m 2 23] .ret) .skip)))))) (.k [.G 2 1] .ret))⟩
theorem ok200:okF f200 c200:=okI
noncomputable def c201:F':=⟨50,[.t 2],.k [.B 1 0,.G 2 0] (.seq (.k [.f 4 0 1,.l 5 4] (.block 0 (.k [.u 7 .eql 5 1,.m 6 7] (.d 6 (.k [.f 8 1 1,.j 9 8 8,.o 3 (.new zS),.s 8 3 9] (.k [.f 10 3 3,.l 11 10,.L 12 11,.f 13 4 3,.l 14 13,.L 15 14,.b 16 .add 12 15,.f 17 5 3,.l 18 17,.L 19 18,.b 20 .add 16 19,.f 21 6 3,.l 22 21,.L 23 22,.b 24 .add 20 23,.f 25 7 3,.l 26 25,.L 27 26,.b 28 .add 24 27,.m 2 28] .ret)) (.k [.u 30 .eql 5 2,.m 29 30] (.d 29 (.k [.f 31 9 1,.f 32 4 31,.l 33 32,.L 34 33,.f 35 9 1,.f 36 6 35,.l 37 36,.L 38 37,.b 39 .add 34 38,.m 2 39] .ret) (.k [.u 41 .eql 5 3,.m 40 41] (.d 40 (.k [.f 42 16 1,.f 43 1 42,.l 44 43,.L 45 44,.m 2 45] .ret) .skip)))))))) (.k [.f 46 18 1,.f 47 6 46,.l 48 47,.L 49 48,.m 2 49] .ret))⟩
theorem ok201:okF f201 c201:=okI
noncomputable def c202:F':=⟨66,[],.k [.f 4 0 1,.l 5 4] (.block 0 (.k [.u 7 .eql 5 1,.m 6 7] (.d 6 (.k [.f 8 1 1,.j 9 8 8,.o 3 (.new zS),.s 8 3 9] (.reg [.f 10 3 3,.l 11 10,.m 12 0,.o 13 (.call (.f 203) [(.t 11),(.f 142),(.t 12)]),.m 14 13,.v 15 14 true (.fa 4 (.t 3)),.M 16 14 true 15,.V 17 14 true 0,.v 18 14 true (.call (.f 203) [(.t 16),(.f 142),(.t 17)]),.y 19 14 18,.m 20 19,.v 21 20 true (.fa 5 (.t 3)),.M 22 20 true 21,.V 23 20 true 0,.v 24 20 true (.call (.f 204) [(.t 22),(.f 205),(.t 23)]),.y 25 20 24,.m 26 25,.v 27 26 true (.fa 6 (.t 3)),.M 28 26 true 27,.V 29 26 true 0,.v 30 26 true (.call (.f 206) [(.t 28),(.f 168),(.t 29)]),.y 31 26 30,.m 32 31,.v 33 32 true (.fa 7 (.t 3)),.M 34 32 true 33,.V 35 32 true 0,.v 36 32 true (.call (.f 207) [(.t 34),(.f 101),(.t 35)]),.y 37 32 36])) (.k [.u 39 .eql 5 2,.m 38 39] (.d 38 (.reg [.f 40 9 1,.f 41 4 40,.l 42 41,.m 43 0,.o 44 (.call (.f 203) [(.t 42),(.f 142),(.t 43)]),.m 45 44,.v 46 45 true (.fa 9 (.t 1)),.v 47 45 true (.fa 6 (.t 46)),.M 48 45 true 47,.V 49 45 true 0,.v 50 45 true (.call (.f 207) [(.t 48),(.f 101),(.t 49)]),.y 51 45 50]) (.k [.u 53 .eql 5 3,.m 52 53] (.d 52 (.reg [.f 54 16 1,.f 55 1 54,.l 56 55,.m 57 0,.o 58 (.call (.f 203) [(.t 56),(.f 142),(.t 57)])]) (.k [.u 60 .eql 5 4,.m 59 60] (.d 59 (.reg [.f 61 18 1,.f 62 6 61,.l 63 62,.m 64 0,.o 65 (.call (.f 203) [(.t 63),(.f 142),(.t 64)])]) .skip)))))))))⟩
theorem ok202:okF f202 c202:=okI
noncomputable def c203:F':=⟨22,[.t 6],.k [.F 6] (.seq (.k [.m 9 0,.L 10 9,.G 11 0] (.block 0 (.loop (.k [.b 12 .lss 11 10] (.seq (.d 12 .skip (.exit 0)) (.seq (.block 1 (.k [.i 13 7 9 11,.j 14 7 13,.o 8 (.new zX),.s 7 8 14] (.k [.m 15 2,.m 16 1,.j 17 7 8,.o 18 (.call (.t 16) [(.t 17)]),.o 19 (.call (.t 15) [(.t 18)]),.o 20 (.un .not (.t 19))] (.d 20 (.k [.F 6] .ret) .skip)))) (.reg [.u 21 .add 11 1,.m 11 21]))))))) (.k [.T 6] .ret))⟩
theorem ok203:okF f203 c203:=okI
noncomputable def c204:F':=⟨22,[.t 6],.k [.F 6] (.seq (.k [.m 9 0,.L 10 9,.G 11 0] (.block 0 (.loop (.k [.b 12 .lss 11 10] (.seq (.d 12 .skip (.exit 0)) (.seq (.block 1 (.k [.i 13 2 9 11,.j 14 2 13,.o 8 (.new zE),.s 2 8 14] (.k [.m 15 2,.m 16 1,.j 17 2 8,.o 18 (.call (.t 16) [(.t 17)]),.o 19 (.call (.t 15) [(.t 18)]),.o 20 (.un .not (.t 19))] (.d 20 (.k [.F 6] .ret) .skip)))) (.reg [.u 21 .add 11 1,.m 11 21]))))))) (.k [.T 6] .ret))⟩
theorem ok204:okF f204 c204:=okI
noncomputable def c206:F':=⟨22,[.t 6],.k [.F 6] (.seq (.k [.m 9 0,.L 10 9,.G 11 0] (.block 0 (.loop (.k [.b 12 .lss 11 10] (.seq (.d 12 .skip (.exit 0)) (.seq (.block 1 (.k [.i 13 7 9 11,.j 14 7 13,.o 8 (.new zD),.s 7 8 14] (.k [.m 15 2,.m 16 1,.j 17 7 8,.o 18 (.call (.t 16) [(.t 17)]),.o 19 (.call (.t 15) [(.t 18)]),.o 20 (.un .not (.t 19))] (.d 20 (.k [.F 6] .ret) .skip)))) (.reg [.u 21 .add 11 1,.m 11 21]))))))) (.k [.T 6] .ret))⟩
theorem ok206:okF f206 c206:=okI
noncomputable def c207:F':=⟨22,[.t 6],.k [.F 6] (.seq (.k [.m 9 0,.L 10 9,.G 11 0] (.block 0 (.loop (.k [.b 12 .lss 11 10] (.seq (.d 12 .skip (.exit 0)) (.seq (.block 1 (.k [.i 13 8 9 11,.j 14 8 13,.o 8 (.new zS),.s 8 8 14] (.k [.m 15 2,.m 16 1,.j 17 8 8,.o 18 (.call (.t 16) [(.t 17)]),.o 19 (.call (.t 15) [(.t 18)]),.o 20 (.un .not (.t 19))] (.d 20 (.k [.F 6] .ret) .skip)))) (.reg [.u 21 .add 11 1,.m 11 21]))))))) (.k [.T 6] .ret))⟩
theorem ok207:okF f207 c207:=okI
noncomputable def c208:F':=⟨15,[.t 2,.t 3],.k [.G 2 0,.G 3 0] (.seq (.k [.m 4 0] (.block 0 (.k [.u 6 .eql 4 7,.m 5 6] (.d 5 (.k [.G 2 1,.G 3 4] .ret) (.k [.u 8 .eql 4 8,.m 7 8] (.d 7 (.k [.G 2 1,.G 3 8] .ret) (.k [.u 10 .eql 4 9,.m 9 10] (.d 9 (.k [.G 2 1,.G 3 1] .ret) (.k [.u 12 .eql 4 10,.m 11 12] (.d 11 (.k [.G 2 2,.G 3 2] .ret) (.k [.u 14 .eql 4 11,.m 13 14] (.d 13 (.k [.G 2 3,.G 3 3] .ret) .skip)))))))))))) (.k [.G 2 0,.G 3 0] .ret))⟩
theorem ok208:okF f208 c208:=okI
noncomputable def c209:F':=⟨15,[.t 6],.k [.F 6] (.k [.m 7 1,.m 8 0,.b 9 .leq 7 8,.m 10 9,.V 11 10 true 0,.V 12 10 true 2,.N 13 10 true .leq 11 12,.y 14 10 13,.m 6 14] .ret)⟩
theorem ok209:okF f209 c209:=okI
noncomputable def c212:F':=⟨20,[.t 4],.k [.B 2 0,.F 4] (.k [.m 5 1,.f 6 0 2,.l 7 6,.b 8 .geq 5 7,.m 9 8,.v 10 9 true (.fa 1 (.t 2)),.M 11 9 true 10,.v 12 9 true (.bin .lss (.t 11) (.c z0)),.V 13 9 true 12,.V 14 13 false 1,.v 15 13 false (.fa 1 (.t 2)),.M 16 13 false 15,.N 17 13 false .leq 14 16,.v 18 9 true (.pick (.t 13) (.c (.bool true)) (.t 17)),.y 19 9 18,.m 4 19] .ret)⟩
theorem ok212:okF f212 c212:=okI
noncomputable def c213:F':=⟨6,[.t 2],.k [.F 2] (.k [.m 3 0,.o 4 (.call (.f 138) [(.t 3),(.f 249)]),.o 5 (.un .not (.t 4)),.m 2 5] .ret)⟩
theorem ok213:okF f213 c213:=okI
noncomputable def c214:F':=⟨23,[.t 2],.k [.F 2] (.seq (.k [.m 5 0,.L 6 5,.G 7 0] (.block 0 (.loop (.k [.b 8 .lss 7 6] (.seq (.d 8 .skip (.exit 0)) (.seq (.block 1 (.k [.m 9 7,.i 10 4 5 7,.j 11 4 10,.o 4 (.new zF),.m 3 9,.s 4 4 11] (.k [.j 12 4 4,.c 13 250 12,.o 14 (.un .not (.t 13)),.m 15 14,.V 16 15 false 0,.V 17 15 false 3,.v 18 15 false (.slc false 4 (.t 16) none (some (.t 17))),.v 19 15 false (.mkf 251 [] [(.t 4)]),.v 20 15 false (.call (.f 131) [(.t 18),(.t 19)]),.z 21 15 20] (.d 21 (.k [.F 2] .ret) .skip)))) (.reg [.u 22 .add 7 1,.m 7 22]))))))) (.k [.T 2] .ret))⟩
theorem ok214:okF f214 c214:=okI
noncomputable def c215:F':=⟨6,[.t 2],.k [.F 2] (.k [.m 3 0,.o 4 (.call (.f 252) [(.t 3),(.f 253)]),.o 5 (.un .not (.t 4)),.m 2 5] .ret)⟩
theorem ok215:okF f215 c215:=okI
noncomputable def c218:F':=⟨25,[.t 4],.k [.a 4 (.sl true [])] (.k [.a 5 (.sl true [])] (.seq (.k [.m 8 0,.L 9 8,.G 10 0] (.block 0 (.loop (.k [.b 11 .lss 10 9] (.seq (.d 11 .skip (.exit 0)) (.seq (.block 1 (.k [.i 12 1 8 10,.l 13 12,.m 7 13] (.reg [.m 14 5,.m 15 1,.m 16 7,.w 17 60 15 16,.h 18 17,.f 19 2 18,.l 20 19,.o 21 (.bsl 1 [(.t 20)]),.o 22 (.app 1 16 (.t 14) (.t 21)),.m 5 22]))) (.reg [.u 23 .add 10 1,.m 10 23]))))))) (.k [.m 24 5,.m 4 24] .ret)))⟩
theorem ok218:okF f218 c218:=okI
noncomputable def c219:F':=⟨4,[.t 2],.k [.B 1 0,.a 2 .nilfn] (.k [.o 3 (.mkf 255 [] [(.t 1)]),.m 2 3] .ret)⟩
theorem ok219:okF f219 c219:=okI
noncomputable def c220:F':=⟨51,[.t 8],.k [.a 8 (.sl true [])] (.k [.a 9 (.sl true [])] (.seq (.k [.m 12 1,.L 13 12,.G 14 0] (.block 0 (.loop (.k [.b 15 .lss 14 13] (.seq (.d 15 .skip (.exit 0)) (.seq (.block 1 (.k [.i 16 7 12 14,.j 17 7 16,.o 11 (.new zD),.s 7 11 17] (.k [.f 18 3 11,.l 19 18,.m 20 2,.w 21 218 19 20,.f 22 3 11,.s 1 22 21] (.seq (.k [.f 23 0 11,.l 24 23,.u 25 .eql 24 2] (.d 25 (.reg [.m 26 0,.f 27 4 11,.l 28 27,.m 29 3,.o 30 (.call (.f 134) [(.t 26),(.t 28),(.t 29),(.c (.bool false))]),.f 31 4 11,.s 1 31 30]) (.reg [.m 32 0,.f 33 4 11,.l 34 33,.m 35 2,.o 36 (.call (.f 134) [(.t 32),(.t 34),(.t 35),(.c (.bool false))]),.f 37 4 11,.s 1 37 36]))) (.seq (.k [.f 38 0 11,.l 39 38,.u 40 .eql 39 4] (.d 40 (.reg [.m 41 0,.j 42 7 11,.m 43 2,.x 44 256 41 42 43,.s 7 11 44]) .skip)) (.reg [.m 45 9,.j 46 7 11,.o 47 (.bsl 7 [(.t 46)]),.o 48 (.app 7 120 (.t 45) (.t 47)),.m 9 48])))))) (.reg [.u 49 .add 14 1,.m 14 49]))))))) (.k [.m 50 9,.m 8 50] .ret)))⟩
theorem ok220:okF f220 c220:=okI
noncomputable def c221:F':=⟨29,[.t 6],.k [.a 6 (.sl true [])] (.k [.a 7 (.sl true [])] (.seq (.k [.m 10 1,.L 11 10,.G 12 0] (.block 0 (.loop (.k [.b 13 .lss 12 11] (.seq (.d 13 .skip (.exit 0)) (.seq (.block 1 (.k [.i 14 2 10 12,.j 15 2 14,.o 9 (.new zE),.s 2 9 15] (.draw [.q (.m 16 7) false false [] 0 1,.q (.f 17 0 9) false false [] 0 1,.q (.l 18 17) false true [1] 0 1,.p (.m 19 0) [],.p (.f 20 1 9) [],.p (.l 21 20) [4],.p (.m 22 2) [],.q (.o 23 (.call (.f 134) [(.t 19),(.t 21),(.t 22),(.c (.bool false))])) true false [3,5,6,4] 0 0,.q (.o 24 (.build zE [(0,0,1,(.t 18)),(1,1,1,(.t 23))])) false false [2,7,1,3,5,6,4] 1 1,.q (.o 25 (.bsl 2 [(.t 24)])) false false [8,2,7,1,3,5,6,4] 1 1,.q (.o 26 (.app 2 32 (.t 16) (.t 25))) true false [0,9,8,2,7,1,3,5,6,4] 1 1,.q (.m 7 26) false false [10,0,9,8,2,7,1,3,5,6,4] 2 2] []))) (.reg [.u 27 .add 12 1,.m 12 27]))))))) (.k [.m 28 7,.m 6 28] .ret)))⟩
theorem ok221:okF f221 c221:=okI
noncomputable def c228:F':=⟨21,[.t 4],.k [.a 4 (.sl true [])] (.seq (.k [.G 5 0] (.block 0 (.loop (.seq (.k [.m 6 5,.m 7 1,.L 8 7,.b 9 .lss 6 8] (.d 9 .skip (.exit 0))) (.seq (.block 1 (.reg [.m 12 0,.m 13 1,.m 14 5,.i 15 7 13 14,.j 16 7 15,.o 17 (.build zP [(0,0,1,(.c (.int .i64 4))),(4,18,7,(.t 16))]),.o 18 (.bsl 25 [(.t 17)]),.o 19 (.app 25 408 (.t 12) (.t 18)),.m 0 19])) (.reg [.m 10 5,.u 11 .add 10 1,.m 5 11])))))) (.k [.m 20 0,.m 4 20] .ret))⟩
theorem ok228:okF f228 c228:=okI
noncomputable def c229:F':=⟨21,[.t 4],.k [.a 4 (.sl true [])] (.seq (.k [.G 5 0] (.block 0 (.loop (.seq (.k [.m 6 5,.m 7 1,.L 8 7,.b 9 .lss 6 8] (.d 9 .skip (.exit 0))) (.seq (.block 1 (.reg [.m 12 0,.m 13 1,.m 14 5,.i 15 8 13 14,.j 16 8 15,.o 17 (.build zP [(0,0,1,(.c (.int .i64 1))),(1,1,8,(.t 16))]),.o 18 (.bsl 25 [(.t 17)]),.o 19 (.app 25 408 (.t 12) (.t 18)),.m 0 19])) (.reg [.m 10 5,.u 11 .add 10 1,.m 5 11])))))) (.k [.m 20 0,.m 4 20] .ret))⟩
theorem ok229:okF f229 c229:=okI
noncomputable def c233:F':=⟨26,[.t 4],.k [.F 4] (.seq (.k [.m 6 0,.L 7 6,.m 8 1,.L 9 8,.b 10 .neq 7 9] (.d 10 (.k [.F 4] .ret) .skip)) (.seq (.k [.G 5 0] (.block 0 (.loop (.seq (.k [.m 11 5,.m 12 0,.L 13 12,.b 14 .lss 11 13] (.d 14 .skip (.exit 0))) (.seq (.block 1 (.seq (.draw [.p (.m 17 0) [],.p (.m 18 5) [],.p (.i 19 1 17 18) [0,1],.p (.l 20 19) [2,0,1],.p (.m 21 1) [],.p (.m 22 5) [],.p (.i 23 1 21 22) [4,5],.p (.l 24 23) [6,4,5],.p (.b 25 .neq 20 24) [3,7,2,0,1,6,4,5]] []) (.d 25 (.k [.F 4] .ret) .skip))) (.reg [.m 15 5,.u 16 .add 15 1,.m 5 16])))))) (.k [.T 4] .ret)))⟩
theorem ok233:okF f233 c233:=okI
noncomputable def c249:F':=⟨6,[.t 2],.k [.F 2] (.k [.m 3 0,.c 4 57 3,.o 5 (.un .not (.t 4)),.m 2 5] .ret)⟩
theorem ok249:okF f249 c249:=okI
noncomputable def c250:F':=⟨52,[.t 2],.k [.B 1 0,.F 2] (.seq (.k [.f 3 0 1,.l 4 3,.c 5 57 4,.o 6 (.un .not (.t 5))] (.d 6 (.k [.F 2] .ret) .skip)) (.seq (.k [.f 7 2 1,.l 8 7] (.block 0 (.seq (.k [.u 10 .eql 8 0,.m 9 10] (.d 9 .skip (.k [.u 11 .eql 8 3,.m 9 11] (.d 9 .skip (.k [.u 12 .eql 8 4,.m 9 12] (.d 9 .skip (.reg [.u 13 .eql 8 5,.m 9 13]))))))) (.d 9 (.k [.f 14 3 1,.l 15 14,.u 16 .eql 15 0,.m 17 16,.v 18 17 true (.fa 1 (.t 1)),.M 19 17 true 18,.v 20 17 true (.un .not (.t 19)),.y 21 17 20,.m 2 21] .ret) (.k [.u 23 .eql 8 1,.m 22 23] (.d 22 (.k [.f 24 3 1,.l 25 24,.o 26 (.call (.f 209) [(.t 25),(.c (.int .i64 1)),(.c (.int .i64 3))]),.m 2 26] .ret) (.k [.u 28 .eql 8 2,.m 27 28] (.d 27 (.k [.f 29 3 1,.l 30 29,.o 31 (.call (.f 209) [(.t 30),(.c z0),(.c (.int .i64 3))]),.m 32 31,.v 33 32 true (.fa 1 (.t 1)),.M 34 32 true 33,.v 35 32 true (.un .not (.t 34)),.V 36 32 true 35,.v 37 36 false (.fa 3 (.t 1)),.M 38 36 false 37,.v 39 36 false (.bin .neq (.t 38) (.c z0)),.v 40 32 true (.pick (.t 36) (.c (.bool true)) (.t 39)),.y 41 32 40,.m 2 41] .ret) (.k [.u 43 .eql 8 6,.m 42 43] (.d 42 (.k [.f 44 3 1,.l 45 44,.o 46 (.call (.f 209) [(.t 45),(.c z0),(.c (.int .i64 3))]),.m 47 46,.v 48 47 true (.fa 1 (.t 1)),.M 49 47 true 48,.v 50 47 true (.un .not (.t 49)),.y 51 47 50,.m 2 51] .ret) .skip)))))))))) (.k [.F 2] .ret)))⟩
theorem ok250:okF f250 c250:=okI
noncomputable def c251:F':=⟨9,[.t 3],.k [.B 2 0,.F 3] (.k [.f 4 0 2,.l 5 4,.f 6 0 1,.l 7 6,.b 8 .eql 5 7,.m 3 8] .ret)⟩
theorem ok251:okF f251 c251:=okI
noncomputable def c252:F':=⟨9,[.t 4],.k [.F 4] (.k [.m 5 0,.m 6 1,.w 7 269 5 6,.u 8 .geq 7 0,.m 4 8] .ret)⟩
theorem ok252:okF f252 c252:=okI
noncomputable def c253:F':=⟨11,[.t 2],.k [.B 1 0,.F 2] (.k [.f 3 0 1,.l 4 3,.u 5 .neq 4 6,.m 6 5,.v 7 6 true (.fa 0 (.t 1)),.M 8 6 true 7,.v 9 6 true (.bin .neq (.t 8) (.c (.int .i64 7))),.y 10 6 9,.m 2 10] .ret)⟩
theorem ok253:okF f253 c253:=okI
noncomputable def c255:F':=⟨36,[],.k [.B 2 0] (.seq (.k [.f 8 6 1,.l 9 8,.L 10 9,.G 11 0] (.block 0 (.loop (.k [.b 12 .lss 11 10] (.seq (.d 12 .skip (.exit 0)) (.seq (.block 1 (.k [.i 13 7 9 11,.j 14 7 13,.o 4 (.new zD),.s 7 4 14] (.k [.f 15 3 4,.l 16 15,.L 17 16,.G 18 0] (.block 2 (.loop (.k [.b 19 .lss 18 17] (.seq (.d 19 .skip (.exit 2)) (.seq (.block 3 (.k [.i 20 1 16 18,.l 21 20,.m 6 21] (.k [.l 22 2,.m 23 6,.o 24 (.call (.t 22) [(.t 23)]),.o 25 (.un .not (.t 24))] (.d 25 .ret .skip)))) (.reg [.u 26 .add 18 1,.m 18 26]))))))))) (.reg [.u 27 .add 11 1,.m 11 27]))))))) (.k [.f 28 7 1,.l 29 28,.c 30 158 29] (.block 4 (.rf (.t 30) [31] (QB f255 0).1 (QB f255 0).2 (.reg [.m 7 31]) (.block 5 (.k [.l 32 2,.m 33 7,.o 34 (.call (.t 32) [(.t 33)]),.o 35 (.un .not (.t 34))] (.d 35 .ret .skip)))
 36 [31,2,7,32,33,34,35]))))⟩
theorem ok255:okF f255 c255:=okI
noncomputable def c269:F':=⟨19,[.t 4],.k [.G 4 0] (.seq (.k [.m 6 0,.L 7 6,.G 8 0] (.block 0 (.loop (.k [.b 9 .lss 8 7] (.seq (.d 9 .skip (.exit 0)) (.seq (.block 1 (.k [.m 10 8,.m 5 10] (.k [.m 11 1,.m 12 0,.m 13 5,.i 14 7 12 13,.j 15 7 14,.o 16 (.call (.t 11) [(.t 15)])] (.d 16 (.k [.m 17 5,.m 4 17] .ret) .skip)))) (.reg [.u 18 .add 8 1,.m 8 18]))))))) (.k [.G 4 (-1)] .ret))⟩
theorem ok269:okF f269 c269:=okI
set_option maxRecDepth 20000
def qqO(k:Nat)(f':F'):Prop:=∃f,prog.funcs[k]?=some f∧ZW prog f=some f'
noncomputable def qpY(k:Nat):Option F':=(prog.funcs[k]?).bind (ZW prog)
theorem qkm(k:Nat)(f':F')(h:qpY k=some f'):qqO k f':=qrK.1 h
noncomputable def TT(l:List Pr):Tb:=⟨qpY,fun k args=>Pr.find k args l⟩
theorem zL{l:List Pr}(h:∀p,p∈l→p.ok prog):(TT l).Ok prog:=⟨qkm,fun _ _ _ hf=>Pr.find_spec h hf⟩
theorem qC{p:Pr}{l:List Pr}(h:p.ok prog)(g:∀q,q∈l→q.ok prog):∀q,q∈p::l→q.ok prog:=fun q hq=>by
 rcases qrl.1 hq with rfl|hq
 ·exact h
 ·exact g q hq
theorem SR.grown{E:En}{S:St}{w w':World}(h:SR E S w)(hb:∀b,b<w.heap.size→w'.heap[b]?=w.heap[b]?)(hs:w.heap.size≤w'.heap.size)(ho:(w'.output,w'.os)=(w.output,w.os)):SR E S w'∧∀n,Ext n E S w E S w':=by
 refine ⟨⟨h.gl.old (fun _ _ _ h=>h) (fun b _ _ _ hc _=>hb b (Zp hc)),fun b o' c hc=>?_,fun l ob hl=>?_,h.dom,h.apart,fun b hb'=>?_,h.inj⟩,fun n=>⟨hs,fun _ _ _ h=>h,fun _ _ _ _ h=>h,fun _ _ h=>h,fun _ h=>.inl h,fun _ _ _ h=>.inl h,fun b hb' _=>hb b hb',ho⟩⟩
 ·have:=h.I b o' c hc;rw[cell?_heap (hb b (cell?_lt this))];exact this
 ·by_cases hd:ob=.dead
  ·subst hd;trivial
  exact (h.obs l ob hl).mono (En.le_refl E) (fun _ _ hx=>hx) (fun st x hx=>hb _ (h.lt _ ⟨l,st,x,⟨ob,hl,hd⟩,hx,rfl⟩))
 ·have:=h.lt b hb';omega
theorem SR.tab {E : En} {S : St} {w : World} (h : SR E S w) : Lib.TabIs prog w "internal/strconv.uint64pow10" .u64 Lib.pow10Tab := by
 obtain ⟨t,fz,hh⟩:=h.gl.2 2 _ (by simp only[qdU,if_pos];rfl);unfold Lib.TabIs World.var?
 rw [show prog.globalNamed "internal/strconv.uint64pow10" = some 2 by decide +kernel]
 simp only[qrh,hh];simp[Lib.pow10Tab,qr2,Function.comp]
theorem qt.of_calls{P:Program}{f:FuncId}{fn:Func}{f':F'}{args:List V}{S:St}{R:V→St→Prop}(hf:P.funcs[f]?=some fn)(hc:ZW P fn=some f')
  (h:∀(E:En) (w:World) (us:Array Value),SR E S w→VRs E args us→Calls P f us w fun e w'=>∃u r E' S',e=.returned u∧R r S'∧VR E' r u∧SR E' S' w'∧Ext S.length E S w E' S' w'∧S.length≤S'.length):qt P f args S R:=by
 refine ⟨fun xs w=>?_,fun E w us n hs hv=>callsIn_wide.2 (h E w us hs hv)⟩;unfold ZW at hc;split at hc
 ·rename_i c rs hb hrs;split at hc
  ·cases hc
  ·rename_i hname;simp[callFunc,program,Sem.run,Result.andThen,hf,hname,hb]
 ·cases hc
theorem qfb(n:Nat)(hn:n≤9223372036854775807)(S:St):qt prog 129 [.int .i64 n] S (fun r U=>r=.str ⟨(dig n).toArray⟩∧U=S):=by
 refine qt.of_calls func129 ok129 fun E w us hs hv=>?_
 obtain ⟨hl,hv⟩:=hv
 have hu:us=#[.int .i64 n]:=by
  match us,hl with
  | ⟨[u]⟩,_=>
   have:=hv 0 _ u rfl rfl;cases this;rfl
 subst hu;refine Calls.mono (Tryz.strconv_Itoa n (by omega) (by omega) w hs.tab) ?_;rintro e w' ⟨rfl,k,os,rfl⟩;obtain ⟨g1,g2⟩:=hs.grown (w':=Sort.grow (w.drewN k) os) (fun b hb=>by simp[Sort.grow,World.drewN,Array.getElem?_append,hb]) (by simp[Sort.grow,World.drewN]) rfl;refine ⟨_,_,E,S,rfl,⟨rfl,rfl⟩,?_,g1,g2 _,qqY _⟩;rw[show Lib.itoa (n:Int)=dig n by unfold Lib.itoa dig;simp];exact VR.str _
theorem qf{rs:List RV}{n:Nat}{R:V→St→Prop}{e:Env}{S:St}{vs:List V}(h:rvs e S rs=some vs)(g:R (qo vs) S):JQ rs n R .ret e S:=⟨vs,h,_,_,zp.refl _ _ _,g⟩
theorem qA{rs:List RV}{n:Nat}{R:V→St→Prop}{e:Env}{S:St}{vs:List V}(h:rvs e S rs=some vs)(g:R (qo vs) S):JQ rs n R .normal e S:=⟨vs,h,_,_,zp.refl _ _ _,g⟩
abbrev Fn(P:Program)(k:Nat)(args:List V)(S:St)(r:V):Prop:=qt P k args S (fun v U=>v=r∧U=S)
def qhO(P:Program)(k:Nat)(args:List V)(S:St)(Φ:V→St→Prop):Prop:=∃R,qt P k args S R∧∀v S',R v S'→Φ v S'
def qph(P:Program)(l:Nat)(args:List V)(S:St)(Φ:V→St→Prop):Prop:=∃R,ye P l args S R∧∀v S',R v S'→Φ v S'
def qea(P:Program)(os:List O')(Q:Env→St→Prop)(e:Env)(d:Option Nat)(v:V)(S:St):Prop:=yK P os Q (e.put d v) S
def qp8(r:Option (V×St))(P:Program)(d:Option Nat)(k:K)(os:List O')(Q:Env→St→Prop)(e:Env)(S:St):Prop:=match r with
 | some (r,S')=>yK P os Q (e.put d r) S'
 | none=>(ndK e k≠[]∧∀v,v∈ndK e k→yK P os Q (e.put d v) S)∨(ndS e S k≠[]∧∀q,q∈ndS e S k→yK P os Q (e.put d q.1) q.2)
def wgd(g:Option Bool)(P:Program)(d:Option Nat)(k:K)(os:List O')(Q:Env→St→Prop)(e:Env)(S:St):Prop:=match g with
 | none=>False
 | some false=>yK P os Q (e.put d (.tup [])) S
 | some true=>yK P (⟨d,none,k⟩::os) Q e S
def qo9(c:Option V)(P:Program)(a b:C')(Q:yD)(e:Env)(S:St):Prop:=match c with
 | some (.bool true)=>WP P a Q e S
 | some (.bool false)=>WP P b Q e S
 | _=>False
def qpm(f:Option V)(vs:Option (List V))(P:Program)(d:Option Nat)(os:List O')(Q:Env→St→Prop)(e:Env)(S:St):Prop:=match f,vs with
 | some (.fn (.func k) fs cs),some vs=>qhO P k (fs++vs++cs) S (qea P os Q e d)
 | some (.yld l),some vs=>qph P l vs S (qea P os Q e d)
 | _,_=>False
theorem qiz{P:Program}{os:List O'}{Q:Env→St→Prop}{e:Env}{d:Option Nat}{v:V}{S:St}:qea P os Q e d v S=yK P os Q (e.put d v) S:=(rfl)
theorem qeT{P:Program}{d:Option Nat}{k:K}{os:List O'}{Q:Env→St→Prop}{e:Env}{r:V}{S S':St}:qp8 (some (r,S')) P d k os Q e S=yK P os Q (e.put d r) S':=(rfl)
theorem qf4{P:Program}{d:Option Nat}{k:K}{os:List O'}{Q:Env→St→Prop}{e:Env}{S:St}:wgd (some false) P d k os Q e S=yK P os Q (e.put d (.tup [])) S:=(rfl)
theorem qiV{P:Program}{d:Option Nat}{k:K}{os:List O'}{Q:Env→St→Prop}{e:Env}{S:St}:wgd (some true) P d k os Q e S=yK P (⟨d,none,k⟩::os) Q e S:=(rfl)
theorem qe8{P:Program}{a b:C'}{Q:yD}{e:Env}{S:St}:qo9 (some (.bool true)) P a b Q e S=WP P a Q e S:=(rfl)
theorem qd1{P:Program}{a b:C'}{Q:yD}{e:Env}{S:St}:qo9 (some (.bool false)) P a b Q e S=WP P b Q e S:=(rfl)
theorem ql6{P:Program}{k:Nat}{fs cs vs:List V}{d:Option Nat}{os:List O'}{Q:Env→St→Prop}{e:Env}{S:St}:qpm (some (.fn (.func k) fs cs)) (some vs) P d os Q e S=qhO P k (fs++vs++cs) S (qea P os Q e d):=(rfl)
theorem qi3{P:Program}{l:Nat}{vs:List V}{d:Option Nat}{os:List O'}{Q:Env→St→Prop}{e:Env}{S:St}:qpm (some (.yld l)) (some vs) P d os Q e S=qph P l vs S (qea P os Q e d):=(rfl)
theorem qic{P:Program}{Q:Env→St→Prop}{e:Env}{S:St}:yK P [] Q e S=Q e S:=(rfl)
theorem qd5{P:Program}{d:Option Nat}{g:Nat×Bool}{k:K}{os:List O'}{Q:Env→St→Prop}{e:Env}{S:St}:yK P (⟨d,some g,k⟩::os) Q e S=wgd (qU e (some g)) P d k os Q e S:=by
 unfold wgd
 cases h:qU e (some g) with
 | none=>simp only[yK,h]
 | some b=>cases b <;> simp only[yK,h] <;> rfl
theorem qgr{P:Program}{d:Option Nat}{f:Opd}{args:List Opd}{os:List O'}{Q:Env→St→Prop}{e:Env}{S:St}:yK P (⟨d,none,.call f args⟩::os) Q e S=qpm (f.ev e) (evs e args) P d os Q e S:=(rfl)
theorem kn{P:Program}{d:Option Nat}{k:K}{os:List O'}{Q:Env→St→Prop}{e:Env}{S:St}(h:∀f args,k≠.call f args):yK P (⟨d,none,k⟩::os) Q e S=qp8 (evK e S k) P d k os Q e S:=by
 cases k <;> first|rfl|exact absurd rfl (h _ _)
theorem qg{P:Program}{k:Nat}{args:List V}{S:St}{r:V}{Φ:V→St→Prop}(h:Fn P k args S r)(g:Φ r S):qhO P k args S Φ:=
 ⟨_,h,fun _ _ hh=>by obtain ⟨rfl,rfl⟩:=hh;exact g⟩
theorem qi{P:Program}{k:Nat}{args:List V}{S:St}{R:V→St→Prop}{Φ:V→St→Prop}(h:qt P k args S R)(g:∀v U,R v U→Φ v U):qhO P k args S Φ:=⟨_,h,g⟩
theorem qgP{P:Program}{Q:yD}{e:Env}{S:St}:WP P .skip Q e S=Q .normal e S:=(rfl)
theorem qjJ{P:Program}{ops:List O'}{Q:yD}{e:Env}{S:St}:WP P (.reg ops) Q e S=yK P ops (Q .normal) e S:=(rfl)
theorem qc7{P:Program}{a b:C'}{Q:yD}{e:Env}{S:St}:WP P (.seq a b) Q e S=WP P a (Zi (WP P b Q) Q) e S:=(rfl)
theorem qk3{P:Program}{c:Opd}{a b:C'}{Q:yD}{e:Env}{S:St}:WP P (.cond c a b) Q e S=qo9 (c.ev e) P a b Q e S:=by
 unfold qo9;simp only[WP]
 cases c.ev e with
 | none=>rfl
 | some v=>cases v <;> first|rfl|(rename_i b;cases b <;> simp)
theorem qcQ{P:Program}{id:Nat}{c:C'}{Q:yD}{e:Env}{S:St}:WP P (.block id c) Q e S=WP P c (Zh id Q) e S:=(rfl)
theorem qc8{P:Program}{c:C'}{Q:yD}{e:Env}{S:St}:WP P (.scope c) Q e S=WP P c (jG Q) e S:=(rfl)
theorem qkn{P:Program}{id:Nat}{Q:yD}{e:Env}{S:St}:WP P (.exit id) Q e S=Q (.exit id) e S:=(rfl)
theorem qnO{P:Program}{Q:yD}{e:Env}{S:St}:WP P .ret Q e S=Q .ret e S:=(rfl)
theorem qw{P:Program}{c:C'}{Q:yD}{e:Env}{S:St}(I:Nat→Env→St→Prop)(n0:Nat)(e0:Env)(hs:Env.sub e0 e)(h0:I n0 e0 S)
 (h:∀n e S,I n e S→WP P c (Zi (fun e S=>∃n',n'<n∧∃e',Env.sub e' e∧I n' e' S) Q) e S):WP P (.loop c) Q e S:=⟨I,n0,⟨e0,hs,h0⟩,h⟩
theorem Jr{N:Env→St→Prop}{Q:yD}{e:Env}{S:St}:Zi N Q .normal e S=N e S:=(rfl)
theorem Env.sub_nil(e:Env):Env.sub [] e:=fun t v h=>by simp[Env.get] at h
theorem Env.sub_cons{e e':Env}{k:Nat}{v:V}(h:e.get k=some v)(g:Env.sub e' e):Env.sub ((k,v)::e') e:=fun t u hu=>by
 simp only[Env.get] at hu;split at hu
 ·rename_i hk;subst hk;cases hu;exact h
 ·exact g _ _ hu
@[simp] def Env.sa:Env→Env→Prop
 | [],_=>True
 | (k,v)::r,e=>e.get k=some v∧Env.sa r e
theorem Env.so:∀{a e:Env},Env.sa a e→Env.sub a e
 | [],e,_=>Env.sub_nil e
 | (k,v)::r,e,h=>Env.sub_cons h.1 (Env.so h.2)
theorem qu{n:Int}(h0:-9223372036854775808≤n)(h1:n≤9223372036854775807):IntKind.i64.wrap n=n:=by rw[IntKind.wrap_i64];omega
theorem zk{n:Int}(h0:-9223372036854775808≤n:=by omega)(h1:n≤9223372036854775807:=by omega):IntKind.i64.wrap n=n:=qu h0 h1
theorem qbd(a b:Bz):qae a b=decide (a=b):=by
 unfold qae;by_cases h:a=b
 ·subst h;simp
 ·have:¬ a.toList=b.toList:=fun hh=>h (by
   rw[yE,yE] at hh;exact qsQ (Array.ext' hh))
  simp[h,this]
theorem ZO{l:List Bz}{i:Nat}(h:i<l.length)(b:Bool)(S:St):iaS S 1 (.sl b (l.map .str)) i=some (.iptr (.str l[i]) 0):=by simp[iaS,h,V.size,V.cells]
theorem qpy(s:Bz)(S:St):ldS S (.iptr (.str s) 0) none=some (.str s):=rfl
theorem qib(a b:Bz):qcp .eql a b=some (.bool (decide (a=b))):=by simp[qcp,qbd]
theorem qh3(a b:Bz):qcp .neq a b=some (.bool (!decide (a=b))):=by simp[qcp,qbd]
theorem qqx{s:Bz}{i:Nat}(h:i<s.size):qhw s i=some (.int .u8 (s.data[i]'h).toNat):=by
 have h1:(s[(i:Int).toNat]?:Option UInt8)=some s[i]:=getElem?_pos s i h;unfold qhw;rw[h1];simp[ByteArray.getElem_eq_getElem_data]
theorem qpx{s:Bz}(h:0<s.size):qhw s 0=some (.int .u8 (s.data[0]'h).toNat):=by
 have:=qqx h;simpa using this
attribute [simp] qgP qjJ qc7 qk3 qcQ qc8 qkn qnO qiz qeT qf4 qiV qe8 qd1 ql6 qi3 qic qd5 qgr kn Jr Zi Zh
 qU evK evs Opd.ev Env.get Env.put yo qjy qlu unV rvs qo qpy qib qh3
set_option maxRecDepth 20000
noncomputable def c34:F':=⟨18,[.t 4],.k [.F 4] (.seq (.k [.G 5 0] (.block 0 (.loop (.seq (.k [.m 6 5,.m 7 0,.L 8 7,.b 9 .lss 6 8] (.d 9 .skip (.exit 0))) (.seq (.block 1 (.k [.m 12 0,.m 13 5,.i 14 1 12 13,.l 15 14,.m 16 1,.b 17 .eql 15 16] (.d 17 (.k [.T 4] .ret) .skip))) (.reg [.m 10 5,.u 11 .add 10 1,.m 5 11])))))) (.k [.F 4] .ret))⟩
theorem ok34:okF f34 c34:=okI
def isL(c:Int):Bool:=decide (97≤c) && decide (c≤122)
def isD(c:Int):Bool:=decide (48≤c) && decide (c≤57)
theorem qha(c:Int)(S:St):Fn prog 102 [.int .u8 c] S (.bool (isL c)):=by
 refine qt.ib func102 ok102 ?_;unfold isL;by_cases h1:97≤c <;> by_cases h2:c≤122 <;> simp[c102,h1,h2] <;> exact qf rfl (by simp)
theorem qlr(c:Int)(S:St):Fn prog 155 [.int .u8 c] S (.bool (isD c)):=by
 refine qt.ib func155 ok155 ?_;unfold isD;by_cases h1:48≤c <;> by_cases h2:c≤57 <;> simp[c155,h1,h2] <;> exact qf rfl (by simp)
theorem qmc(c:Int)(S:St):Fn prog 106 [.int .u8 c] S (.bool (isL c || isD c)):=by
 refine qt.ib func106 ok106 ?_;simp[c106];refine qg (qha c S) ?_;cases isL c <;> simp
 ·refine qg (qlr c S) ?_
  try simp
  exact qf rfl (by simp)
 ·exact qf rfl (by simp)
theorem qml(c:Int)(S:St):Fn prog 105 [.int .u8 c] S (.bool (!(isL c || isD c))):=by
 refine qt.ib func105 ok105 ?_;simp[c105];refine qg (qmc c S) ?_
 try simp
 exact qf rfl (by simp)
def qnw:List V:=[(.str ⟨⟨[98,101,103,105,110]⟩⟩),(.str ⟨⟨[101,110,100]⟩⟩),(.str ⟨⟨[105,102]⟩⟩),(.str ⟨⟨[116,104,101,110]⟩⟩),(.str ⟨⟨[101,108,115,101]⟩⟩),(.str ⟨⟨[102,111,114]⟩⟩),(.str ⟨⟨[100,111]⟩⟩),(.str ⟨⟨[115,116,101,112]⟩⟩),(.str ⟨⟨[117,110,116,105,108]⟩⟩),(.str ⟨⟨[119,104,105,108,101]⟩⟩),(.str ⟨⟨[103,111,116,111]⟩⟩),(.str ⟨⟨[111,119,110]⟩⟩),(.str ⟨⟨[105,110,116,101,103,101,114]⟩⟩),(.str ⟨⟨[114,101,97,108]⟩⟩),(.str ⟨⟨[98,111,111,108,101,97,110]⟩⟩),(.str ⟨⟨[97,114,114,97,121]⟩⟩),(.str ⟨⟨[115,119,105,116,99,104]⟩⟩),(.str ⟨⟨[112,114,111,99,101,100,117,114,101]⟩⟩),(.str ⟨⟨[118,97,108,117,101]⟩⟩),(.str ⟨⟨[108,97,98,101,108]⟩⟩),(.str ⟨⟨[115,116,114,105,110,103]⟩⟩),(.str ⟨⟨[116,114,117,101]⟩⟩),(.str ⟨⟨[102,97,108,115,101]⟩⟩),(.str ⟨⟨[99,111,109,109,101,110,116]⟩⟩),(.str ⟨⟨[110,111,116]⟩⟩),(.str ⟨⟨[97,110,100]⟩⟩),(.str ⟨⟨[111,114]⟩⟩),(.str ⟨⟨[105,109,112]⟩⟩),(.str ⟨⟨[101,113,118]⟩⟩)]
def qpd:V→Bz
 | .str s=>s
 | _=>⟨#[]⟩
def wds:List Bz:=qnw.map qpd
theorem qmr:wds.map V.str=qnw:=rfl
theorem qlR:wds.length=29:=rfl
theorem qmB(b:Bool)(l:List Bz)(s:Bz)(S:St)(hl:l.length≤1000000):qt prog 184 [.sl b (l.map .str),.str s] S (fun v U=>(∃i:Int,v=.int .i64 i∧(0≤i↔s∈l))∧U=S):=by
 refine qt.ib func184 ok184 ?_;simp[c184];refine qw (fun n e S'=>∃i:Nat,n=l.length - i∧i≤l.length∧(∀j,(h:j<l.length)→j<i→l[j]≠s)∧S'=S∧
  e=[(8,.int .i64 i),(7,.int .i64 l.length),(4,.int .i64 0),(0,.sl b (l.map .str)),(1,.str s)]) l.length _ ?_ ⟨0,by simp,by omega,by omega,rfl,rfl⟩ ?_
 ·exact Env.so (by simp)
 rintro n e S' ⟨i,rfl,hi,hno,rfl,rfl⟩;by_cases h:i<l.length
 ·by_cases he:s=l[i]
  ·simp[h,ZO,he];exact qf rfl ⟨⟨i,rfl,by simp⟩,rfl⟩
  ·simp[h,ZO,he,zk (n:=(i:Int)+1)];refine ⟨_,?_,_,?_,i+1,rfl,by omega,fun j hj hji=>?_,rfl⟩
   ·omega
   ·exact Env.so (by simp)
   ·by_cases hj':j=i
    ·subst hj';exact fun hh=>he hh.symm
    ·exact hno j hj (by omega)
 ·simp[h];refine qf rfl ⟨⟨-1,rfl,?_⟩,rfl⟩;simp;intro hs;obtain ⟨j,hj,rfl⟩:=qsO hs;exact hno j hj (by omega) rfl
set_option maxRecDepth 20000
def Y26:V:=(.agg [(.int .i64 1),z0,(.int .i64 1),z0,z0,(.str ⟨⟨[]⟩⟩),sN])
def Y25:V:=(.agg [(.int .i64 1),z0,(.int .i64 2),z0,z0,(.str ⟨⟨[]⟩⟩),sN])
def Y24:V:=(.agg [(.int .i64 6),z0,z0,z0,z0,(.str ⟨⟨[97]⟩⟩),sN])
def Y23:V:=(.agg [(.int .i64 6),z0,z0,z0,z0,(.str ⟨⟨[107]⟩⟩),sN])
def Y22:V:=(.agg [(.int .i64 6),z0,z0,z0,z0,(.str ⟨⟨[105]⟩⟩),sN])
def Y21:V:=(.agg [(.int .i64 6),z0,z0,z0,z0,(.str ⟨⟨[108]⟩⟩),sN])
def Y20:V:=(.agg [(.int .i64 1),(.bool false),(.int .i64 1),(.sl true [(.str ⟨⟨[98]⟩⟩)]),sN,sN,sN])
def Y19:V:=(.sl true [(.agg [(.int .i64 1),(.bool false),(.int .i64 1),(.sl true [(.str ⟨⟨[120]⟩⟩)]),sN,sN,sN])])
def Y18:V:=(.sl true [(.agg [(.int .i64 1),(.bool false),(.int .i64 1),(.sl true [(.str ⟨⟨[120,49]⟩⟩)]),sN,sN,sN])])
def Y17:V:=(.sl false [(.agg [(.int .i64 1),(.bool false),(.int .i64 1),(.sl false [(.str ⟨⟨[120,49]⟩⟩)]),sN,sN,sN])])
def Y16:V:=(.agg [(.int .i64 6),z0,z0,z0,z0,(.str ⟨⟨[116]⟩⟩),sN])
def Y15:V:=(.agg [sN,(.int .i64 3),(.str ⟨⟨[]⟩⟩),sN,(.sl true [Y21]),sN,sN,sN])
def Y14:V:=(.agg [sN,z0,(.str ⟨⟨[]⟩⟩),sN,sN,sN,sN,sN])
def Y13:V:=(.agg [(.int .i64 6),z0,z0,z0,z0,(.str ⟨⟨[122]⟩⟩),sN])
def Y12:V:=(.agg [(.int .i64 6),z0,z0,z0,z0,(.str ⟨⟨[121]⟩⟩),sN])
def Y11:V:=(.agg [(.int .i64 6),z0,z0,z0,z0,(.str ⟨⟨[98]⟩⟩),sN])
def Y9:V:=(.agg [(.int .i64 7),z0,z0,z0,z0,(.str ⟨⟨[113]⟩⟩),(.sl true [Y22])])
def Y8:V:=(.agg [(.int .i64 10),(.int .i64 3),z0,z0,z0,(.str ⟨⟨[]⟩⟩),(.sl true [Y23,Y26])])
def Y4:V:=(.agg [(.int .i64 6),z0,z0,z0,z0,(.str ⟨⟨[120,49]⟩⟩),sN])
def Y3:V:=(.agg [(.int .i64 6),z0,z0,z0,z0,(.str ⟨⟨[120]⟩⟩),sN])
def Y2:V:=(.agg [(.int .i64 4),(.bool false),z0,(.sl true [(.str ⟨⟨[112]⟩⟩)]),sN,(.sl true [(.agg [(.str ⟨⟨[97]⟩⟩),(.bool false),z0,z0]),(.agg [(.str ⟨⟨[98]⟩⟩),(.bool true),(.int .i64 1),(.int .i64 1)])]),(.sl true [(.agg [sN,(.int .i64 7),(.str ⟨⟨[]⟩⟩),sN,sN,sN,Y19,(.sl true [(.agg [sN,(.int .i64 2),(.str ⟨⟨[]⟩⟩),(.sl true [Y3]),(.sl true [Y11]),sN,sN,sN]),(.agg [sN,(.int .i64 2),(.str ⟨⟨[]⟩⟩),(.sl true [Y24]),(.sl true [(.agg [(.int .i64 10),(.int .i64 3),z0,z0,z0,(.str ⟨⟨[]⟩⟩),(.sl true [Y24,Y3])])]),sN,sN,sN])])])])])
def Y1:V:=(.agg [sN,(.int .i64 7),(.str ⟨⟨[]⟩⟩),sN,sN,sN,(.sl true [(.agg [(.int .i64 1),(.bool false),(.int .i64 1),(.sl true [(.str ⟨⟨[116]⟩⟩)]),sN,sN,sN])]),(.sl true [(.agg [sN,(.int .i64 2),(.str ⟨⟨[]⟩⟩),(.sl true [Y16]),(.sl true [Y12]),sN,sN,sN]),(.agg [(.sl true [(.str ⟨⟨[109]⟩⟩)]),(.int .i64 8),(.str ⟨⟨[]⟩⟩),sN,sN,sN,sN,(.sl true [(.agg [sN,(.int .i64 2),(.str ⟨⟨[]⟩⟩),(.sl true [Y16]),(.sl true [(.agg [(.int .i64 10),(.int .i64 3),z0,z0,z0,(.str ⟨⟨[]⟩⟩),(.sl true [Y16,Y13])])]),sN,sN,sN]),(.agg [sN,(.int .i64 3),(.str ⟨⟨[]⟩⟩),sN,(.sl true [(.agg [(.int .i64 6),z0,z0,z0,z0,(.str ⟨⟨[109]⟩⟩),sN])]),sN,sN,sN])])])])])
def Y0:V:=(.agg [sN,(.int .i64 7),(.str ⟨⟨[]⟩⟩),sN,sN,sN,Y19,(.sl true [(.agg [sN,(.int .i64 2),(.str ⟨⟨[]⟩⟩),(.sl true [Y3]),(.sl true [Y12]),sN,sN,sN]),(.agg [(.sl true [(.str ⟨⟨[108]⟩⟩)]),(.int .i64 8),(.str ⟨⟨[]⟩⟩),sN,sN,sN,sN,(.sl true [(.agg [sN,(.int .i64 2),(.str ⟨⟨[]⟩⟩),(.sl true [Y3]),(.sl true [(.agg [(.int .i64 10),(.int .i64 3),z0,z0,z0,(.str ⟨⟨[]⟩⟩),(.sl true [Y3,Y13])])]),sN,sN,sN]),Y15])])])])
def Y10:V:=(.agg [(.int .i64 10),(.int .i64 5),z0,z0,z0,(.str ⟨⟨[]⟩⟩),(.sl true [Y3,Y25])])
def Y7:V:=(.agg [sN,(.int .i64 7),(.str ⟨⟨[]⟩⟩),sN,sN,sN,Y18,(.sl true [(.agg [sN,(.int .i64 2),(.str ⟨⟨[]⟩⟩),(.sl true [Y4]),(.sl true [Y10]),sN,sN,sN]),(.agg [(.sl true [(.str ⟨⟨[108]⟩⟩)]),(.int .i64 8),(.str ⟨⟨[]⟩⟩),sN,sN,sN,sN,(.sl true [(.agg [sN,(.int .i64 2),(.str ⟨⟨[]⟩⟩),(.sl true [Y4]),(.sl true [(.agg [(.int .i64 10),(.int .i64 3),z0,z0,z0,(.str ⟨⟨[]⟩⟩),(.sl true [Y4,Y9])])]),sN,sN,sN]),Y15])])])])
def Y6:V:=(.agg [sN,(.int .i64 7),(.str ⟨⟨[]⟩⟩),sN,sN,sN,Y17,(.sl false [(.agg [sN,(.int .i64 2),(.str ⟨⟨[]⟩⟩),(.sl false [Y4]),(.sl false [(.agg [(.int .i64 10),(.int .i64 5),z0,z0,z0,(.str ⟨⟨[]⟩⟩),(.sl false [Y3,Y25])])]),sN,sN,sN]),(.agg [(.sl false [(.str ⟨⟨[108]⟩⟩)]),(.int .i64 8),(.str ⟨⟨[]⟩⟩),sN,sN,sN,sN,(.sl false [(.agg [sN,(.int .i64 2),(.str ⟨⟨[]⟩⟩),(.sl false [Y4]),(.sl false [(.agg [(.int .i64 10),(.int .i64 3),z0,z0,z0,(.str ⟨⟨[]⟩⟩),(.sl false [Y4,(.agg [(.int .i64 7),z0,z0,z0,z0,(.str ⟨⟨[113]⟩⟩),(.sl false [Y22])])])])]),sN,sN,sN]),(.agg [sN,(.int .i64 3),(.str ⟨⟨[]⟩⟩),sN,(.sl false [Y21]),sN,sN,sN])])])])])
def Y5:V:=(.agg [sN,(.int .i64 7),(.str ⟨⟨[]⟩⟩),sN,sN,sN,(.sl false [Y20]),(.sl false [(.agg [sN,(.int .i64 2),(.str ⟨⟨[]⟩⟩),(.sl true [Y11]),(.sl true [(.agg [(.int .i64 10),(.int .i64 3),z0,z0,z0,(.str ⟨⟨[]⟩⟩),(.sl false [Y23,Y26])])]),sN,sN,sN]),(.agg [sN,(.int .i64 7),(.str ⟨⟨[]⟩⟩),sN,sN,sN,Y17,(.sl false [(.agg [sN,(.int .i64 2),(.str ⟨⟨[]⟩⟩),(.sl false [Y4]),(.sl false [Y11]),sN,sN,sN]),(.agg [sN,(.int .i64 2),(.str ⟨⟨[]⟩⟩),(.sl false [Y3]),(.sl false [(.agg [(.int .i64 10),(.int .i64 3),z0,z0,z0,(.str ⟨⟨[]⟩⟩),(.sl false [Y3,Y4])])]),sN,sN,sN])])])])])
def qpQ:List Pr:=[]
theorem qgF:∀p,p∈qpQ→p.ok prog:=fun p hp=>by cases hp
def pr1:Pr:=⟨53,[(.str ⟨⟨[120]⟩⟩),(.str ⟨⟨[108]⟩⟩),Y12,Y13],Y0⟩
theorem qn4:pr1.ok prog:=Pr.run (zL qgF) 200 (by decide+kernel)
def qqr:List Pr:=pr1::qpQ
theorem qe6:∀p,p∈qqr→p.ok prog:=qC qn4 qgF
def pr2:Pr:=⟨153,[],(.sl false [(.str ⟨⟨[98,101,103,105,110]⟩⟩),(.str ⟨⟨[101,110,100]⟩⟩),(.str ⟨⟨[105,102]⟩⟩),(.str ⟨⟨[116,104,101,110]⟩⟩),(.str ⟨⟨[101,108,115,101]⟩⟩),(.str ⟨⟨[102,111,114]⟩⟩),(.str ⟨⟨[100,111]⟩⟩),(.str ⟨⟨[115,116,101,112]⟩⟩),(.str ⟨⟨[117,110,116,105,108]⟩⟩),(.str ⟨⟨[119,104,105,108,101]⟩⟩),(.str ⟨⟨[103,111,116,111]⟩⟩),(.str ⟨⟨[111,119,110]⟩⟩),(.str ⟨⟨[105,110,116,101,103,101,114]⟩⟩),(.str ⟨⟨[114,101,97,108]⟩⟩),(.str ⟨⟨[98,111,111,108,101,97,110]⟩⟩),(.str ⟨⟨[97,114,114,97,121]⟩⟩),(.str ⟨⟨[115,119,105,116,99,104]⟩⟩),(.str ⟨⟨[112,114,111,99,101,100,117,114,101]⟩⟩),(.str ⟨⟨[118,97,108,117,101]⟩⟩),(.str ⟨⟨[108,97,98,101,108]⟩⟩),(.str ⟨⟨[115,116,114,105,110,103]⟩⟩),(.str ⟨⟨[116,114,117,101]⟩⟩),(.str ⟨⟨[102,97,108,115,101]⟩⟩),(.str ⟨⟨[99,111,109,109,101,110,116]⟩⟩),(.str ⟨⟨[110,111,116]⟩⟩),(.str ⟨⟨[97,110,100]⟩⟩),(.str ⟨⟨[111,114]⟩⟩),(.str ⟨⟨[105,109,112]⟩⟩),(.str ⟨⟨[101,113,118]⟩⟩)])⟩
theorem qji:pr2.ok prog:=Pr.run (zL qe6) 200 (by decide+kernel)
def qpV:List Pr:=pr2::qqr
theorem qf0:∀p,p∈qpV→p.ok prog:=qC qji qe6
def pr3:Pr:=⟨57,[(.str ⟨⟨[120]⟩⟩)],(.bool true)⟩
theorem qnN:pr3.ok prog:=Pr.run (zL qf0) 200 (by decide+kernel)
def qpU:List Pr:=pr3::qpV
theorem qgg:∀p,p∈qpU→p.ok prog:=qC qnN qf0
def pr4:Pr:=⟨57,[(.str ⟨⟨[121]⟩⟩)],(.bool true)⟩
theorem qnW:pr4.ok prog:=Pr.run (zL qgg) 200 (by decide+kernel)
def qqc:List Pr:=pr4::qpU
theorem qgC:∀p,p∈qqc→p.ok prog:=qC qnW qgg
def pr5:Pr:=⟨57,[(.str ⟨⟨[108]⟩⟩)],(.bool true)⟩
theorem qnn:pr5.ok prog:=Pr.run (zL qgC) 200 (by decide+kernel)
def qp2:List Pr:=pr5::qqc
theorem qg8:∀p,p∈qp2→p.ok prog:=qC qnn qgC
def pr6:Pr:=⟨57,[(.str ⟨⟨[122]⟩⟩)],(.bool true)⟩
theorem qoS:pr6.ok prog:=Pr.run (zL qg8) 200 (by decide+kernel)
def qqj:List Pr:=pr6::qp2
theorem qfg:∀p,p∈qqj→p.ok prog:=qC qoS qg8
def Q9(s:Bz)(l:List Bz):Bool:=l.any fun x=>decide (x=s)
theorem zo{s:Bz}{l:List Bz}:Q9 s l=true↔s∈l:=by simp[Q9]
theorem Yp{s:Bz}{l:List Bz}:Q9 s l=false↔s∉l:=by rw[←zo];simp
theorem qlL(b:Bool)(l:List Bz)(s:Bz)(S:St)(hl:l.length≤1000000):Fn prog 152 [.sl b (l.map .str),.str s] S (.bool (Q9 s l)):=by
 refine qt.ib func152 ok152 ?_;simp[c152];refine qi (qmB b l s S hl) ?_;rintro v S' ⟨⟨i,rfl,hi⟩,rfl⟩;simp;exact qf rfl ⟨by simp only[qo,V.bool.injEq];rw[qrz,zo,←hi];simp,rfl⟩
theorem qmu(S:St):Fn prog 153 [] S (.sl false (wds.map .str)):=by
 rw[qmr];exact qji S
theorem qlJ(s:Bz)(S:St):Fn prog 103 [.str s] S (.bool (Q9 s wds)):=by
 refine qt.ib func103 ok103 ?_;simp[c103];refine qg (qmu S) ?_;refine qg (qlL false wds s S (by rw[qlR];omega)) ?_;exact qf rfl ⟨rfl,rfl⟩
theorem qdm(b:Bool)(l:List Bz)(s:Bz)(S:St)(hl:l.length≤1000000):Fn prog 34 [.sl b (l.map .str),.str s] S (.bool (Q9 s l)):=by
 refine qt.ib func34 ok34 ?_;simp[c34];refine qw (fun n e S'=>∃i:Nat,n=l.length - i∧i≤l.length∧(∀j,(h:j<l.length)→j<i→l[j]≠s)∧S'=S∧
  e=[(5,.int .i64 i),(4,.bool false),(0,.sl b (l.map .str)),(1,.str s)]) l.length _ ?_ ⟨0,by simp,by omega,by omega,rfl,rfl⟩ ?_
 ·exact Env.so (by simp)
 rintro n e S' ⟨i,rfl,hi,hno,rfl,rfl⟩;by_cases h:i<l.length
 ·by_cases he:l[i]=s
  ·simp[h,ZO,he];exact qf rfl ⟨by rw[zo.2 (by rw[←he];exact qra h)];rfl,rfl⟩
  ·simp[h,ZO,he,zk (n:=(i:Int)+1)];refine ⟨_,?_,_,?_,i+1,rfl,by omega,fun j hj hji=>?_,rfl⟩
   ·omega
   ·exact Env.so (by simp)
   ·by_cases hj':j=i
    ·subst hj';exact he
    ·exact hno j hj (by omega)
 ·simp[h];refine qf rfl ⟨?_,rfl⟩;rw[Yp.2]
  ·rfl
  intro hs;obtain ⟨j,hj,rfl⟩:=qsO hs;exact hno j hj (by omega) rfl
def Jq(b:UInt8):Bool:=isL b.toNat || isD b.toNat
def qbD(l:List UInt8):Bool:=l.all Jq
theorem qbs{l:List UInt8}:qbD l=true↔∀i,(h:i<l.length)→Jq l[i]=true:=by
 unfold qbD;rw[qri];exact ⟨fun hh i h=>hh _ (qra h),fun hh x hx=>by obtain ⟨i,h,rfl⟩:=qsO hx;exact hh i h⟩
def qbw(b:UInt8):V:=.int .u8 b.toNat
theorem qno{l:List UInt8}{i:Nat}(h:i<l.length)(b:Bool)(S:St):iaS S 1 (.sl b (l.map qbw)) i=some (.iptr (qbw l[i]) 0):=by simp[iaS,h,V.size,V.cells,qbw]
theorem qoC(s:UInt8)(S:St):ldS S (.iptr (qbw s) 0) none=some (qbw s):=rfl
theorem qkl(b:Bool)(l:List UInt8)(S:St)(hl:l.length≤1000000):qt prog 154 [.sl b (l.map qbw),.fn (.func 105) [] []] S (fun v U=>(∃i:Int,v=.int .i64 i∧(0≤i↔qbD l=false))∧U=S):=by
 refine qt.ib func154 ok154 ?_;simp[c154];refine qw (fun n e S'=>∃i:Nat,n=l.length - i∧i≤l.length∧(∀j,(h:j<l.length)→j<i→Jq l[j]=true)∧S'=S∧
  e=[(8,.int .i64 i),(7,.int .i64 l.length),(4,.int .i64 0),(0,.sl b (l.map qbw)),(1,.fn (.func 105) [] [])]) l.length _ ?_ ⟨0,by simp,by omega,by omega,rfl,rfl⟩ ?_
 ·exact Env.so (by simp)
 rintro n e S' ⟨i,rfl,hi,hno,rfl,rfl⟩;by_cases h:i<l.length
 ·simp[h,qno,qoC];refine qg (qml _ S') ?_;by_cases he:Jq l[i]=true
  ·rw[show (isL l[i].toNat || isD l[i].toNat)=true from he];simp[zk (n:=(i:Int)+1)];refine ⟨_,?_,_,?_,i+1,rfl,by omega,fun j hj hji=>?_,rfl⟩
   ·omega
   ·exact Env.so (by simp)
   ·by_cases hj':j=i
    ·subst hj';exact he
    ·exact hno j hj (by omega)
  ·have he':Jq l[i]=false:=by simpa using he
   rw[show (isL l[i].toNat || isD l[i].toNat)=false from he'];simp;refine qf rfl ⟨⟨i,rfl,?_⟩,rfl⟩;rw[←qsz,qbs];exact ⟨fun _ hh=>he (hh i h),fun _=>by omega⟩
 ·simp[h];refine qf rfl ⟨⟨-1,rfl,?_⟩,rfl⟩;rw[←qsz,qbs];exact ⟨fun hh=>by omega,fun hh=>absurd (fun j hj=>hno j hj (by omega)) hh⟩
theorem qlX(b:Bool)(l:List UInt8)(S:St)(hl:l.length≤1000000):Fn prog 104 [.sl b (l.map qbw),.fn (.func 105) [] []] S (.bool (!qbD l)):=by
 refine qt.ib func104 ok104 ?_;simp[c104];refine qi (qkl b l S hl) ?_;rintro v S' ⟨⟨i,rfl,hi⟩,rfl⟩;simp;refine qf rfl ⟨?_,rfl⟩;simp only[qo,hi];cases qbD l <;> simp
def qiH:List UInt8→Bool
 | []=>false
 | c::_=>isL c.toNat
def qb(s:Bz):Bool:=decide (1≤s.size) && decide (s.size≤16) && qiH s.data.toList && !Q9 s wds && qbD s.data.toList
theorem jF{s:Bz}:s=⟨⟨[]⟩⟩↔s.size=0:=by
 constructor
 ·rintro rfl;rfl
 ·intro h;refine qsQ ?_;exact Array.eq_empty_of_size_eq_zero h
theorem qgc{s:Bz}(h1:0<s.size)(h2:s.size≤16):qb s=(isL (s.data[0]'h1).toNat && !Q9 s wds && qbD s.data.toList):=by
 unfold qb;rw[decide_eq_true (show 1≤s.size from h1),decide_eq_true h2];have h1':0<s.data.toList.length:=by simpa using h1
 have:∀(l:List UInt8) (h:0<l.length),qiH l=isL (l[0]).toNat:=fun l h=>by
  cases l with
  | nil=>cases h
  | cons c cs=>rfl
 rw[this _ h1',Array.getElem_toList];rfl
theorem Yw(s:Bz)(S:St):Fn prog 57 [.str s] S (.bool (qb s)):=by
 refine qt.ib func57 ok57 ?_;by_cases h0:s.size=0
 ·have h0':=jF.2 h0;simp[c57,h0'];exact qf rfl ⟨rfl,rfl⟩
 have h0':¬ s=⟨⟨[]⟩⟩:=fun hh=>h0 (jF.1 hh)
 by_cases h1:(16:Int)<s.size
 ·simp[c57,h0',h1];refine qf rfl ⟨?_,rfl⟩;simp[qb];omega
 have hi:=qpx (s:=s) (by omega);simp[c57,h0',h1,hi];refine qg (qha _ S) ?_;have hn:=qgc (s:=s) (by omega) (by omega)
 cases hL:isL (s.data[0]'(Nat.pos_of_ne_zero h0)).toNat with
 | false=>
  simp;refine qf rfl ⟨?_,rfl⟩;rw[hn,hL];rfl
 | true=>
  simp;refine qg (qlJ s S) ?_
  cases hW:Q9 s wds with
  | true=>
   simp;refine qf rfl ⟨?_,rfl⟩;rw[hn,hL,hW];rfl
  | false=>
   simp[evX,qpn];refine qg (qlX false s.data.toList S (by rw[qr0];have:s.data.size=s.size:=rfl;omega)) ?_;simp;refine qf rfl ⟨?_,rfl⟩;rw[hn,hL,hW];simp
theorem qhI{a b:Bz}(h:a.size+b.size≤1000000):qcp .add a b=some (.str (a++b)):=by
 simp only[qcp];rw[if_pos];rw[show IntKind.i64.max=9223372036854775807 by rfl];omega
theorem qjF(n:Nat)(h:n<1000):(dig n).length≤4:=(qhj (by omega)).2
def zg(s:Bz)(taken:List Bz)(t:Bz):Prop:=
 (s∉taken∧t=s)∨(s∈taken∧∃n,1≤n∧t=YB s n∧YB s n∉taken∧∀i,1≤i→i<n→YB s i∈taken)
theorem zg.unique{s:Bz}{taken:List Bz}{t u:Bz}(h:zg s taken t)(g:zg s taken u):t=u:=by
 rcases h with ⟨h1,rfl⟩|⟨h1,n,hn,rfl,hf,ha⟩ <;> rcases g with ⟨g1,rfl⟩|⟨g1,m,hm,rfl,gf,gb⟩
 ·rfl
 ·exact absurd g1 h1
 ·exact absurd h1 g1
 ·have h2:¬ n<m:=fun hlt=>hf (gb n hn hlt)
  have h3:¬ m<n:=fun hlt=>gf (ha m hm hlt)
  rw[show n=m by omega]
theorem qoO{s:Bz}{k:Nat}(hk:k≤s.size)(S:St):zU S 0 (.str s) none (some (k:Int))=some (.str (s.extract 0 k)):=by
 simp[zU,hk]
theorem qlS(s:Bz)(n:Nat):s.extract 0 (min s.size (16 - (dig n).length))++(⟨(dig n).toArray⟩:Bz)=YB s n:=by
 apply qsQ;apply Array.ext';simp[YB]
theorem qou(m:Nat):(⟨(dig m).toArray⟩:Bz).size=(dig m).length:=by simp[ByteArray.size]
theorem qqG(a d:Nat)(hd:d≤4):(if IntKind.i64.wrap (16 - (d:Int))<(a:Int) then IntKind.i64.wrap (16 - (d:Int)) else (a:Int))=((min a (16 - d):Nat):Int):=by
 rw[qu (by omega) (by omega)];split <;> omega
def kv(s:Bz):V×V:=(.str s,.bool true)
theorem YM(s:Bz):∀(ks:List Bz) (i:Nat),(s∉ks∧zG .str (.str s) (ks.map kv) i=some none)∨(s∈ks∧∃j:Nat,ks[j]?=some s∧zG .str (.str s) (ks.map kv) i=some (some (i+j,.bool true)))
 | [],i=>.inl ⟨by simp,rfl⟩
 | k::ks,i=>by
  simp only[qq8,kv,zG,YU];by_cases h:s=k
  ·subst h;refine .inr ⟨by simp,0,rfl,?_⟩;simp
  ·have hne:(s.data.toList==k.data.toList)=false:=by
    rw[beq_eq_false_iff_ne];intro hh;exact h (qsQ (Array.ext' hh))
   rw[hne];simp only;rcases YM s ks (i+1) with ⟨h1,h2⟩|⟨h1,j,h2,h3⟩
   ·exact .inl ⟨by simp[h,h1],h2⟩
   ·refine .inr ⟨by simp[h1],j+1,by simpa using h2,?_⟩;rw[show i+(j+1)=i+1+j by omega];exact h3
def yR(ks:List Bz)(s:Bz):List Bz:=if Q9 s ks=true then ks else ks++[s]
theorem qiU{ks:List Bz}{s x:Bz}:x∈yR ks s↔x∈ks∨x=s:=by
 unfold yR;split
 ·exact ⟨.inl,fun hh=>hh.elim id fun hh=>by rw[hh];exact zo.1 (by assumption)⟩
 ·simp
theorem Qf{x:Bz}:∀{l ks:List Bz},x∈l.foldl yR ks↔x∈ks∨x∈l
 | [],ks=>by simp
 | s::l,ks=>by rw[qsD,Qf,qiU,qrl,or_assoc]
def Za(bs:List Nat)(ck:Nat):Prop:=(∀b,b∈bs→b<ck)∧bs.Nodup
theorem Za.nil:Za [] 0:=⟨by simp,List.nodup_nil⟩
theorem Za.snoc{bs:List Nat}{ck:Nat}(h:Za bs ck):Za (bs++[ck]) (ck+1):=⟨fun b hb=>by
 rcases qq0.1 hb with hb|hb
 ·have:=h.1 b hb;omega
 ·simp at hb;omega,List.nodup_append.2 ⟨h.2,by simp,fun a ha b hb=>by simp at hb;subst hb;have:=h.1 a ha;omega⟩⟩
theorem qkS{S:St}{l:Nat}{ks:List Bz}{bs:List Nat}{ck:Nat}(s:Bz)(h:S[l]?=some (.map (ks.map kv) bs ck)):
  ∃(bs':List Nat) (ck':Nat),qaV S .str (.map l) (.str s) (.bool true)=some (S.set l (.map ((yR ks s).map kv) bs' ck'))∧(Za bs ck→Za bs' ck')∧(bs.length=ks.length→bs'.length=(yR ks s).length):=by
 unfold qaV;rw[if_pos (by rfl)];simp only[h];unfold yR;rcases YM s ks 0 with ⟨h1,h2⟩|⟨h1,j,h2,h3⟩
 ·rw[h2,if_neg (fun hh=>h1 (zo.1 hh))];exact ⟨bs++[ck],ck+1,by simp[kv],Za.snoc,fun h=>by simp[h]⟩
 ·rw[h3,if_pos (zo.2 h1)];refine ⟨bs,ck,?_,id,id⟩;simp only[qr1]
  have:(ks.map kv).set j (.str s,.bool true)=ks.map kv:=by
   apply qrM;intro i;rw[List.getElem?_set];split
   ·rename_i hij;subst hij;have:=(qqT.1 h2).1;have h4:=(qqT.1 h2).2;simp[kv,this,h4]
   ·rfl
  rw[this]
theorem qdo{S:St}{l:Nat}{ks:List Bz}{bs:List Nat}{ck:Nat}(s:Bz)(h:S[l]?=some (.map (ks.map kv) bs ck)):qbT S .str (.bool false) false (.map l) (.str s)=some (.bool (Q9 s ks)):=by
 unfold qbT;rw[if_pos (by rfl)];simp only[qbA,h];rcases YM s ks 0 with ⟨h1,h2⟩|⟨h1,j,h2,h3⟩
 ·rw[h2,Yp.2 h1];rfl
 ·rw[h3,zo.2 h1];rfl
theorem qiI{α:Type}{l:List α}{i:Nat}{x:α}(h:l[i]?=some x):l.set i x=l:=by
 apply qrM;intro j;rw[List.getElem?_set];split
 ·rename_i hij;subst hij;rw[h];have:=(qqT.1 h).1;simp[this]
 ·rfl
theorem qe0(b:Bool)(taken ks:List Bz)(bs:List Nat)(ck:Nat)(l:Nat)(S:St)(ht:taken.length≤1000000)(hl:S[l]?=some (.map (ks.map kv) bs ck)):
  qt prog 79 [.map l,.sl b (taken.map .str)] S (fun v U=>∃(bs':List Nat) (ck':Nat),(Za bs ck→Za bs' ck')∧(bs.length=ks.length→bs'.length=(taken.foldl yR ks).length)∧U=S.set l (.map ((taken.foldl yR ks).map kv) bs' ck')):=by
 have hlt:l<S.length:=(qqT.1 hl).1;refine qt.ib func79 ok79 ?_;simp[c79];refine qw (fun k e S'=>∃i:Nat,k=taken.length - i∧i≤taken.length∧(∃(bs':List Nat) (ck':Nat),(Za bs ck→Za bs' ck')∧(bs.length=ks.length→bs'.length=((taken.take i).foldl yR ks).length)∧S'=S.set l (.map (((taken.take i).foldl yR ks).map kv) bs' ck'))∧
  e=[(8,.int .i64 i),(7,.int .i64 taken.length),(6,.sl b (taken.map .str)),(0,.map l),(1,.sl b (taken.map .str))]) taken.length _ ?_ ⟨0,by simp,by omega,⟨bs,ck,id,by simp,?_⟩,rfl⟩ ?_
 ·exact Env.so (by simp)
 ·exact (qiI hl).symm
 rintro k e S' ⟨i,rfl,hi,⟨bs1,ck1,hst,hln,rfl⟩,rfl⟩;by_cases h:i<taken.length
 ·obtain ⟨bs',ck',hm,hst',hln'⟩:=qkS (S:=S.set l (.map (((taken.take i).foldl yR ks).map kv) bs1 ck1)) (l:=l) taken[i] (qqV hlt);rw[List.set_set] at hm;simp[h,ZO,evX,hm];refine ⟨_,?_,_,?_,i+1,rfl,by omega,⟨bs',ck',fun h=>hst' (hst h),fun h0=>?_,?_⟩,rfl⟩
  ·omega
  ·rw[qu (by omega) (by omega)];exact Env.so (by simp)
  ·rw[qrj,qqZ h,qrH,qrD];exact hln' (hln h0)
  ·rw[qrj,qqZ h,qrH,qrD];rfl
 ·simp[h];rw[qru (by omega)] at hln;refine qA rfl ⟨bs1,ck1,hst,hln,?_⟩;rw[qru (by omega)]
theorem qe7(b:Bool)(taken ks:List Bz)(bs:List Nat)(ck:Nat)(l:Nat)(S:St)(ht:taken.length≤1000000)(hl:S[l]?=some (.map (ks.map kv) bs ck)):
  qt prog 79 [.map l,.sl b (taken.map .str)] S (fun v U=>∃(bs':List Nat) (ck':Nat),(Za bs ck→Za bs' ck')∧U=S.set l (.map ((taken.foldl yR ks).map kv) bs' ck')):=
 qt.mono (qe0 b taken ks bs ck l S ht hl) fun _ _ ⟨a,c,d,_,e⟩=>⟨a,c,d,e⟩
end Go.Proofs.YtbifpocccfkhhaaGreatDoor
end
