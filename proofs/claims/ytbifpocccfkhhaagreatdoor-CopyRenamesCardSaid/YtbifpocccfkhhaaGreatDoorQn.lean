/- A part. -/
import Derived.Test.YtbifpocccfkhhaaGreatDoorQm
import Derived.Sort.Walk0
set_option linter.all false
noncomputable section
namespace Go.Proofs.YtbifpocccfkhhaaGreatDoor
open Go
set_option maxRecDepth 20000
def c67:F':=⟨13,[.cell 4 (some 8)],.k [.o 3 (.box (.t 1)),.o 4 (.new zS)] (.k [.m 6 0,.j 7 8 3,.o 8 (.bsl 8 [(.t 7)]),.o 9 (.call (.f 117) [(.t 6),(.t 8),(.c (.sl true []))]),.m 5 9] (.k [.m 10 5,.o 11 (.ia 8 (.t 10) (.c (.int .i64 0))),.j 12 8 11,.s 8 4 12] .ret))⟩
theorem ok67:okF Tryz.f67 c67:=okI
def c92:F':=⟨49,[.cell 6 (some 7)],.k [.o 4 (.box (.t 1)),.o 6 (.new zX)] (.seq (.k [.f 11 0 4,.l 12 11,.u 13 .eql 12 6] (.cond (.t 13) (.k [.m 15 0,.m 16 2,.f 17 5 4,.l 18 17,.x 19 143 15 16 18,.m 14 19,.e 20 0 14,.e 21 1 14,.e 22 2 14,.o 8 (.new zX),.m 7 20,.s 7 8 21,.m 9 22] (.seq (.k [.m 23 9] (.cond (.t 23) (.k [.j 24 7 8,.s 7 6 24] .ret) .skip)) (.k [.m 25 7,.o 26 (.build zX [(0,0,1,(.c (.int .i64 6))),(4,5,1,(.t 25))]),.s 7 6 26] .ret))) .skip)) (.k [.j 27 7 4,.o 10 (.new zX),.s 7 10 27] (.seq (.k [.f 28 0 4,.l 29 28,.u 30 .eql 29 7,.m 31 30,.v 32 31 false (.fa 0 (.t 4)),.v 33 31 false (.ld none (.t 32)),.v 34 31 false (.bin .eql (.t 33) (.c (.int .i64 8))),.z 35 31 34] (.cond (.t 35) (.reg [.m 36 0,.m 37 2,.f 38 5 4,.l 39 38,.x 40 144 36 37 39,.f 41 5 10,.s 1 41 40]) .skip)) (.k [.m 42 0,.f 43 6 4,.l 44 43,.m 45 2,.x 46 145 42 44 45,.f 47 6 10,.s 1 47 46] (.k [.j 48 7 10,.s 7 6 48] .ret)))))⟩
theorem ok92:okF Tryz.f92 c92:=okI
def c117:F':=⟨15,[.t 6],.k [.a 6 (.sl true [])] (.k [.m 7 0,.m 8 1,.m 9 0,.m 10 2,.m 11 1,.c 12 163 11,.x 13 162 9 10 12,.x 14 161 7 8 13,.m 6 14] .ret)⟩
theorem ok117:okF Tryz.f117 c117:=okI
def c143:F':=⟨98,[.t 6,.cell 7 (some 7),.t 8],.k [.a 6 (.str ⟨⟨[]⟩⟩),.o 7 (.new zX),.a 8 (.bool false)] (.seq (.k [.m 11 1,.m 12 2,.w 13 175 11 12,.u 14 .geq 13 0] (.cond (.t 14) (.k [.m 15 0,.m 16 1,.m 17 2,.x 18 176 15 16 17,.o 19 (.build zX []),.m 6 18,.s 7 7 19,.a 8 (.bool false)] .ret) .skip)) (.k [.m 20 0,.m 21 0,.h 22 21,.f 23 1 22,.l 24 23,.m 25 2,.o 26 (.bsl 1 [(.t 25)]),.o 27 (.app 1 16 (.t 24) (.t 26)),.h 28 20,.f 29 1 28,.s 1 29 27] (.seq (.k [.a 9 (.int .i64 0)] (.block 0 (.loop (.seq (.k [.m 30 9,.m 31 0,.h 32 31,.f 33 3 32,.l 34 33,.o 35 (.len false (.t 34)),.b 36 .lss 30 35] (.cond (.t 36) .skip (.exit 0))) (.seq (.block 1 (.k [.m 39 0,.h 40 39,.f 41 3 40,.l 42 41,.m 43 9,.i 44 1 42 43,.l 45 44,.m 46 2,.b 47 .eql 45 46] (.cond (.t 47) (.seq (.k [.a 10 (.int .i64 0)] (.block 2 (.loop (.seq (.k [.m 48 10,.m 49 1,.o 50 (.len false (.t 49)),.b 51 .lss 48 50] (.cond (.t 51) .skip (.exit 2))) (.seq (.block 3 (.draw [.p (.m 54 0) [],.p (.m 55 0) [],.p (.h 56 55) [1],.p (.f 57 6 56) [2,1],.p (.l 58 57) [3,2,1],.p (.m 59 58) [4,3,2,1],.p (.v 60 59 false (.mv (.t 0))) [5,4,3,2,1],.p (.v 61 59 false (.nck (.t 60))) [6,5,4,3,2,1],.p (.v 62 59 false (.fa 4 (.t 61))) [7,6,5,4,3,2,1],.p (.v 63 59 false (.ld none (.t 62))) [8,7,6,5,4,3,2,1],.p (.v 64 59 false (.mv (.t 9))) [5,4,3,2,1],.p (.v 65 59 false (.ia 7 (.t 63) (.t 64))) [9,10,8,7,6,5,4,3,2,1],.p (.v 66 59 false (.fa 0 (.t 65))) [11,9,10,8,7,6,5,4,3,2,1],.p (.v 67 59 false (.ld none (.t 66))) [12,11,9,10,8,7,6,5,4,3,2,1],.p (.v 68 59 false (.bin .eql (.t 67) (.c (.int .i64 6)))) [13,12,11,9,10,8,7,6,5,4,3,2,1],.p (.v 69 59 false (.mv (.t 68))) [14,13,12,11,9,10,8,7,6,5,4,3,2,1],.p (.v 70 69 true (.mv (.t 1))) [15,14,13,12,11,9,10,8,7,6,5,4,3,2,1],.p (.v 71 69 true (.mv (.t 10))) [15,14,13,12,11,9,10,8,7,6,5,4,3,2,1],.p (.v 72 69 true (.ia 2 (.t 70) (.t 71))) [16,17,15,14,13,12,11,9,10,8,7,6,5,4,3,2,1],.p (.v 73 69 true (.fa 0 (.t 72))) [18,16,17,15,14,13,12,11,9,10,8,7,6,5,4,3,2,1],.p (.v 74 69 true (.ld none (.t 73))) [19,18,16,17,15,14,13,12,11,9,10,8,7,6,5,4,3,2,1],.p (.v 75 69 true (.mv (.t 0))) [15,14,13,12,11,9,10,8,7,6,5,4,3,2,1],.p (.v 76 69 true (.nck (.t 75))) [21,15,14,13,12,11,9,10,8,7,6,5,4,3,2,1],.p (.v 77 69 true (.fa 4 (.t 76))) [22,21,15,14,13,12,11,9,10,8,7,6,5,4,3,2,1],.p (.v 78 69 true (.ld none (.t 77))) [23,22,21,15,14,13,12,11,9,10,8,7,6,5,4,3,2,1],.p (.v 79 69 true (.mv (.t 9))) [15,14,13,12,11,9,10,8,7,6,5,4,3,2,1],.p (.v 80 69 true (.ia 7 (.t 78) (.t 79))) [24,25,23,22,21,15,14,13,12,11,9,10,8,7,6,5,4,3,2,1],.p (.v 81 69 true (.fa 5 (.t 80))) [26,24,25,23,22,21,15,14,13,12,11,9,10,8,7,6,5,4,3,2,1],.p (.v 82 69 true (.ld none (.t 81))) [27,26,24,25,23,22,21,15,14,13,12,11,9,10,8,7,6,5,4,3,2,1],.p (.v 83 69 true (.bin .eql (.t 74) (.t 82))) [20,28,19,18,16,17,27,26,24,25,23,22,21,15,14,13,12,11,9,10,8,7,6,5,4,3,2,1],.p (.v 84 59 false (.pick (.t 69) (.t 83) (.c (.bool false)))) [29,20,28,19,18,16,17,27,26,24,25,23,22,21,15,14,13,12,11,9,10,8,7,6,5,4,3,2,1],.p (.z 85 59 84) [30,29,20,28,19,18,16,17,27,26,24,25,23,22,21,15,14,13,12,11,9,10,8,7,6,5,4,3,2,1],.p (.h 86 54) [0,31,30,29,20,28,19,18,16,17,27,26,24,25,23,22,21,15,14,13,12,11,9,10,8,7,6,5,4,3,2,1],.p (.f 87 6 86) [32,0,31,30,29,20,28,19,18,16,17,27,26,24,25,23,22,21,15,14,13,12,11,9,10,8,7,6,5,4,3,2,1],.q (.s 1 87 85) true false [33,32,0,31,30,29,20,28,19,18,16,17,27,26,24,25,23,22,21,15,14,13,12,11,9,10,8,7,6,5,4,3,2,1] 0 0] [])) (.reg [.m 52 10,.u 53 .add 52 1,.m 10 53])))))) (.seq (.draw [.p (.m 88 2) [],.p (.m 89 0) [],.p (.h 90 89) [1],.p (.f 91 4 90) [2,1],.p (.l 92 91) [3,2,1],.p (.m 93 9) [],.p (.i 94 7 92 93) [4,5,3,2,1],.p (.j 95 7 94) [6,4,5,3,2,1],.p (.m 6 88) [0],.q (.s 7 7 95) true false [7,8,6,4,5,3,2,1,0] 0 0,.q (.a 8 (.bool true)) false false [9,7,8,6,4,5,3,2,1,0] 1 1] []) .ret)) .skip))) (.reg [.m 37 9,.u 38 .add 37 1,.m 9 38])))))) (.k [.m 96 2,.o 97 (.build zX []),.m 6 96,.s 7 7 97,.a 8 (.bool false)] .ret))))⟩
theorem ok143:okF Tryz.f143 c143:=okI
def c144:F':=⟨37,[.t 6],.k [.a 6 (.str ⟨⟨[]⟩⟩)] (.k [.m 11 0,.m 12 1,.m 13 2,.x 14 143 11 12 13,.m 10 14,.e 15 0 10,.e 16 1 10,.e 17 2 10,.o 8 (.new zX),.m 7 15,.s 7 8 16,.m 9 17] (.seq (.k [.m 18 9,.m 19 18,.v 20 19 true (.fa 0 (.t 8)),.v 21 19 true (.ld none (.t 20)),.v 22 19 true (.bin .eql (.t 21) (.c (.int .i64 6))),.y 23 19 22] (.cond (.t 23) (.k [.f 24 5 8,.l 25 24,.m 6 25] .ret) .skip)) (.k [.m 26 0,.m 27 0,.h 28 27,.f 29 5 28,.l 30 29,.m 31 30,.v 32 31 false (.mv (.t 9)),.z 33 31 32,.h 34 26,.f 35 5 34,.s 1 35 33] (.k [.m 36 7,.m 6 36] .ret))))⟩
theorem ok144:okF Tryz.f144 c144:=okI
def c145:F':=⟨26,[.t 6],.k [.a 6 (.sl true [])] (.k [.a 7 (.sl true [])] (.seq (.k [.a 8 (.int .i64 0)] (.block 0 (.loop (.seq (.k [.m 9 8,.m 10 1,.o 11 (.len false (.t 10)),.b 12 .lss 9 11] (.cond (.t 12) .skip (.exit 0))) (.seq (.block 1 (.reg [.m 15 7,.m 16 0,.m 17 1,.m 18 8,.i 19 7 17 18,.j 20 7 19,.m 21 2,.x 22 92 16 20 21,.o 23 (.bsl 7 [(.t 22)]),.o 24 (.app 7 80 (.t 15) (.t 23)),.m 7 24])) (.reg [.m 13 8,.u 14 .add 13 1,.m 8 14])))))) (.k [.m 25 7,.m 6 25] .ret)))⟩
theorem ok145:okF Tryz.f145 c145:=okI
def c161:F':=⟨26,[.t 6],.k [.a 6 (.sl true [])] (.k [.a 7 (.sl true [])] (.seq (.k [.a 8 (.int .i64 0)] (.block 0 (.loop (.seq (.k [.m 9 8,.m 10 1,.o 11 (.len false (.t 10)),.b 12 .lss 9 11] (.cond (.t 12) .skip (.exit 0))) (.seq (.block 1 (.reg [.m 15 7,.m 16 0,.m 17 1,.m 18 8,.i 19 8 17 18,.j 20 8 19,.m 21 2,.x 22 194 16 20 21,.o 23 (.bsl 8 [(.t 22)]),.o 24 (.app 8 168 (.t 15) (.t 23)),.m 7 24])) (.reg [.m 13 8,.u 14 .add 13 1,.m 8 14])))))) (.k [.m 25 7,.m 6 25] .ret)))⟩
theorem ok161:okF Tryz.f161 c161:=okI
def c162:F':=⟨60,[.t 6],.k [.a 6 (.sl true [])] (.k [.a 7 (.sl true [])] (.k [.o 10 (.bsl 2 []),.m 11 1,.o 12 (.app 2 24 (.t 10) (.t 11)),.m 8 12] (.seq (.k [.a 9 (.int .i64 0)] (.block 0 (.loop (.seq (.k [.m 13 9,.m 14 2,.o 15 (.len false (.t 14)),.b 16 .lss 13 15] (.cond (.t 16) .skip (.exit 0))) (.seq (.block 1 (.k [.m 19 7,.m 20 2,.m 21 9,.i 22 1 20 21,.l 23 22,.w 24 34 19 23,.o 25 (.un .not (.t 24))] (.cond (.t 25) (.k [.m 26 7,.m 27 2,.m 28 9,.i 29 1 27 28,.l 30 29,.o 31 (.bsl 1 [(.t 30)]),.o 32 (.app 1 16 (.t 26) (.t 31)),.m 7 32] (.seq (.draw [.p (.m 33 8) [],.p (.m 34 2) [],.p (.m 35 9) [],.p (.i 36 1 34 35) [1,2],.p (.l 37 36) [3,1,2],.p (.m 38 0) [],.p (.h 39 38) [5],.p (.f 40 0 39) [6,5],.p (.l 41 40) [7,6,5],.p (.o 42 (.len false (.t 41))) [8,7,6,5],⟨.o 43 (.build (.agg [(.str ⟨⟨[]⟩⟩),(.int .i64 0)]) [(0,0,1,(.t 37)),(1,1,1,(.t 42))]),false,none,false,[4,9,3,1,2,8,7,6,5],0,0⟩,.p (.o 44 (.bsl 2 [(.t 43)])) [10,4,9,3,1,2,8,7,6,5],.q (.o 45 (.app 2 24 (.t 33) (.t 44))) true false [0,11,10,4,9,3,1,2,8,7,6,5] 0 0,.q (.m 8 45) false false [12,0,11,10,4,9,3,1,2,8,7,6,5] 1 1] []) (.draw [.q (.m 46 0) false false [] 0 1,.p (.m 47 0) [],.p (.h 48 47) [1],.p (.f 49 0 48) [2,1],.p (.l 50 49) [3,2,1],.p (.m 51 2) [],.p (.m 52 9) [],.p (.i 53 1 51 52) [5,6],.p (.l 54 53) [7,5,6],.p (.o 55 (.bsl 1 [(.t 54)])) [8,7,5,6],.q (.o 56 (.app 1 16 (.t 50) (.t 55))) true false [4,9,3,2,1,8,7,5,6] 0 0,.q (.h 57 46) false false [0,10,4,9,3,2,1,8,7,5,6] 1 1,.q (.f 58 0 57) false false [11,0,10,4,9,3,2,1,8,7,5,6] 1 1,.q (.s 1 58 56) true false [12,11,0,10,4,9,3,2,1,8,7,5,6] 1 1] []))) .skip))) (.reg [.m 17 9,.u 18 .add 17 1,.m 9 18])))))) (.k [.m 59 8,.m 6 59] .ret))))⟩
theorem ok162:okF Tryz.f162 c162:=okI
def c163:F':=⟨19,[.t 2],.k [.a 2 (.sl true [])] (.k [.a 3 (.sl true [])] (.seq (.k [.a 4 (.int .i64 0)] (.block 0 (.loop (.seq (.k [.m 5 4,.m 6 0,.o 7 (.len false (.t 6)),.b 8 .lss 5 7] (.cond (.t 8) .skip (.exit 0))) (.seq (.block 1 (.reg [.m 11 3,.m 12 0,.m 13 4,.i 14 8 12 13,.f 15 0 14,.l 16 15,.o 17 (.app 1 16 (.t 11) (.t 16)),.m 3 17])) (.reg [.m 9 4,.u 10 .add 9 1,.m 4 10])))))) (.k [.m 18 3,.m 2 18] .ret)))⟩
theorem ok163:okF Tryz.f163 c163:=okI
def c175:F':=⟨25,[.t 4],.k [.a 4 (.int .i64 0)] (.seq (.k [.m 6 0,.o 7 (.len false (.t 6)),.u 8 .sub 7 1,.m 5 8] (.block 0 (.loop (.seq (.k [.m 9 5,.u 10 .geq 9 0] (.cond (.t 10) .skip (.exit 0))) (.seq (.block 1 (.k [.m 13 0,.m 14 5,.i 15 2 13 14,.f 16 0 15,.l 17 16,.m 18 1,.b 19 .eql 17 18] (.cond (.t 19) (.k [.m 20 0,.m 21 5,.i 22 2 20 21,.f 23 1 22,.l 24 23,.m 4 24] .ret) .skip))) (.reg [.m 11 5,.u 12 .sub 11 1,.m 5 12])))))) (.k [.a 4 (.int .i64 (-1))] .ret))⟩
theorem ok175:okF Tryz.f175 c175:=okI
def c176:F':=⟨30,[.t 6],.k [.a 6 (.str ⟨⟨[]⟩⟩)] (.k [.m 8 1,.m 9 2,.w 10 175 8 9,.m 7 10] (.seq (.k [.m 11 7,.u 12 .geq 11 0,.m 13 12,.v 14 13 true (.mv (.t 7)),.v 15 13 true (.mv (.t 0)),.v 16 13 true (.nck (.t 15)),.v 17 13 true (.fa 2 (.t 16)),.v 18 13 true (.ld none (.t 17)),.v 19 13 true (.len false (.t 18)),.v 20 13 true (.bin .lss (.t 14) (.t 19)),.y 21 13 20] (.cond (.t 21) (.k [.m 22 0,.h 23 22,.f 24 2 23,.l 25 24,.m 26 7,.i 27 1 25 26,.l 28 27,.m 6 28] .ret) .skip)) (.k [.m 29 2,.m 6 29] .ret)))⟩
theorem ok176:okF Tryz.f176 c176:=okI
def c194:F':=⟨157,[.cell 6 (some 8)],.k [.o 4 (.box (.t 1)),.o 6 (.new zS)] (.k [.j 14 8 4,.o 7 (.new zS),.s 8 7 14] (.k [.f 15 0 7,.n (.sto 1 (.t 15) (.c (.sl true [])))] (.seq (.k [.a 8 (.int .i64 0)] (.block 0 (.loop (.seq (.k [.m 16 8,.f 17 0 4,.l 18 17,.o 19 (.len false (.t 18)),.b 20 .lss 16 19] (.cond (.t 20) .skip (.exit 0))) (.seq (.block 1 (.draw [.q (.f 23 0 7) false false [] 0 1,.q (.l 24 23) false true [0] 0 1,.p (.m 25 0) [],.p (.m 26 2) [],.p (.f 27 0 4) [],.p (.l 28 27) [4],.p (.m 29 8) [],.p (.i 30 1 28 29) [5,6,4],.p (.l 31 30) [7,5,6,4],.q (.x 32 176 25 26 31) true false [2,3,8,7,5,6,4] 0 0,.q (.o 33 (.bsl 1 [(.t 32)])) false false [9,2,3,8,7,5,6,4] 1 1,.q (.o 34 (.app 1 16 (.t 24) (.t 33))) true false [1,10,0,9,2,3,8,7,5,6,4] 1 1,.q (.f 35 0 7) false false [11,1,10,0,9,2,3,8,7,5,6,4] 2 2,.q (.s 1 35 34) true false [12,11,1,10,0,9,2,3,8,7,5,6,4] 2 2] [])) (.reg [.m 21 8,.u 22 .add 21 1,.m 8 22])))))) (.seq (.k [.f 36 1 4,.l 37 36] (.block 2 (.k [.u 39 .eql 37 7,.m 38 39] (.cond (.t 38) (.k [.a 9 (.sl true [])] (.seq (.k [.a 10 (.int .i64 0)] (.block 3 (.loop (.seq (.k [.m 40 10,.f 41 6 4,.l 42 41,.o 43 (.len false (.t 42)),.b 44 .lss 40 43] (.cond (.t 44) .skip (.exit 3))) (.seq (.block 4 (.reg [.m 47 9,.f 48 6 4,.l 49 48,.m 50 10,.i 51 7 49 50,.f 52 3 51,.l 53 52,.o 54 (.app 1 16 (.t 47) (.t 53)),.m 9 54])) (.reg [.m 45 10,.u 46 .add 45 1,.m 10 46])))))) (.k [.m 55 0,.m 56 2,.m 57 9,.f 58 7 4,.l 59 58,.c 60 163 59,.o 61 (.app 1 16 (.t 57) (.t 60)),.x 62 162 55 56 61,.m 11 62] (.k [.f 63 6 7,.n (.sto 1 (.t 63) (.c (.sl true [])))] (.seq (.k [.a 12 (.int .i64 0)] (.block 5 (.loop (.seq (.k [.m 64 12,.f 65 6 4,.l 66 65,.o 67 (.len false (.t 66)),.b 68 .lss 64 67] (.cond (.t 68) .skip (.exit 5))) (.seq (.block 6 (.draw [.q (.f 71 6 7) false false [] 0 1,.q (.l 72 71) false true [0] 0 1,.p (.m 73 0) [],.p (.f 74 6 4) [],.p (.l 75 74) [3],.p (.m 76 12) [],.p (.i 77 7 75 76) [4,5,3],.p (.j 78 7 77) [6,4,5,3],.p (.m 79 2) [],.p (.m 80 11) [],.q (.o 81 (.call (.f 230) [(.t 73),(.t 78),(.t 79),(.t 80)])) true false [2,7,8,9,6,4,5,3] 0 0,.q (.o 82 (.bsl 7 [(.t 81)])) false false [10,2,7,8,9,6,4,5,3] 1 1,.q (.o 83 (.app 7 120 (.t 72) (.t 82))) true false [1,11,0,10,2,7,8,9,6,4,5,3] 1 1,.q (.f 84 6 7) false false [12,1,11,0,10,2,7,8,9,6,4,5,3] 2 2,.q (.s 1 84 83) true false [13,12,1,11,0,10,2,7,8,9,6,4,5,3] 2 2] [])) (.reg [.m 69 12,.u 70 .add 69 1,.m 12 70])))))) (.k [.m 85 0,.f 86 7 4,.l 87 86,.m 88 11,.x 89 161 85 87 88,.f 90 7 7,.s 1 90 89] (.k [.j 91 8 7,.s 8 6 91] .ret))))))) (.k [.u 93 .eql 37 8,.m 92 93] (.cond (.t 92) (.k [.m 94 0,.f 95 7 4,.l 96 95,.m 97 2,.x 98 117 94 96 97,.f 99 7 7,.s 1 99 98] (.k [.j 100 8 7,.s 8 6 100] .ret)) (.k [.u 102 .eql 37 6,.m 101 102] (.cond (.t 101) (.reg [.m 103 0,.m 104 2,.f 105 2 4,.l 106 105,.x 107 144 103 104 106,.f 108 2 7,.s 1 108 107]) .skip)))))))) (.k [.m 109 0,.f 110 3 4,.l 111 110,.m 112 2,.x 113 231 109 111 112,.f 114 3 7,.s 1 114 113] (.k [.f 115 5 7,.n (.sto 1 (.t 115) (.c (.sl true [])))] (.seq (.k [.a 13 (.int .i64 0)] (.block 7 (.loop (.seq (.k [.m 116 13,.f 117 5 4,.l 118 117,.o 119 (.len false (.t 118)),.b 120 .lss 116 119] (.cond (.t 120) .skip (.exit 7))) (.seq (.block 8 (.draw [.q (.f 123 5 7) false false [] 0 1,.q (.l 124 123) false true [0] 0 1,.q (.f 125 5 4) false false [] 0 1,.q (.l 126 125) false true [2] 0 1,.q (.m 127 13) false false [] 0 1,.q (.i 128 2 126 127) false true [3,4,2] 0 1,.q (.f 129 0 128) false false [5,3,4,2] 0 1,.q (.l 130 129) false true [6,5,3,4,2] 0 1,.p (.m 131 0) [],.p (.f 132 5 4) [],.p (.l 133 132) [9],.p (.m 134 13) [],.p (.i 135 2 133 134) [10,11,9],.p (.f 136 1 135) [12,10,11,9],.p (.l 137 136) [13,12,10,11,9],.p (.m 138 2) [],.q (.x 139 145 131 137 138) true false [8,14,15,13,12,10,11,9] 0 0,.q (.o 140 (.build zE [(0,0,1,(.t 130)),(1,1,1,(.t 139))])) false false [7,16,6,5,3,4,2,8,14,15,13,12,10,11,9] 1 1,.q (.o 141 (.bsl 2 [(.t 140)])) false false [17,7,16,6,5,3,4,2,8,14,15,13,12,10,11,9] 1 1,.q (.o 142 (.app 2 32 (.t 124) (.t 141))) true false [1,18,0,17,7,16,6,5,3,4,2,8,14,15,13,12,10,11,9] 1 1,.q (.f 143 5 7) false false [19,1,18,0,17,7,16,6,5,3,4,2,8,14,15,13,12,10,11,9] 2 2,.q (.s 1 143 142) true false [20,19,1,18,0,17,7,16,6,5,3,4,2,8,14,15,13,12,10,11,9] 2 2] [])) (.reg [.m 121 13,.u 122 .add 121 1,.m 13 122])))))) (.k [.m 144 0,.f 145 4 4,.l 146 145,.m 147 2,.x 148 145 144 146 147,.f 149 4 7,.s 1 149 148] (.k [.m 150 0,.f 151 7 4,.l 152 151,.m 153 2,.x 154 232 150 152 153,.f 155 7 7,.s 1 155 154] (.k [.j 156 8 7,.s 8 6 156] .ret))))))))))⟩
theorem ok194:okF Tryz.f194 c194:=okI
def c230:F':=⟨110,[.cell 8 (some 7)],.k [.o 5 (.box (.t 1)),.o 8 (.new zD)] (.k [.j 16 7 5,.o 9 (.new zD),.s 7 9 16] (.k [.f 17 3 9,.n (.sto 1 (.t 17) (.c (.sl true [])))] (.seq (.k [.a 10 (.int .i64 0)] (.block 0 (.loop (.seq (.k [.m 18 10,.f 19 3 5,.l 20 19,.o 21 (.len false (.t 20)),.b 22 .lss 18 21] (.cond (.t 22) .skip (.exit 0))) (.seq (.block 1 (.draw [.q (.f 25 3 9) false false [] 0 1,.q (.l 26 25) false true [0] 0 1,.p (.m 27 0) [],.p (.m 28 3) [],.p (.f 29 3 5) [],.p (.l 30 29) [4],.p (.m 31 10) [],.p (.i 32 1 30 31) [5,6,4],.p (.l 33 32) [7,5,6,4],.q (.x 34 176 27 28 33) true false [2,3,8,7,5,6,4] 0 0,.q (.o 35 (.bsl 1 [(.t 34)])) false false [9,2,3,8,7,5,6,4] 1 1,.q (.o 36 (.app 1 16 (.t 26) (.t 35))) true false [1,10,0,9,2,3,8,7,5,6,4] 1 1,.q (.f 37 3 9) false false [11,1,10,0,9,2,3,8,7,5,6,4] 2 2,.q (.s 1 37 36) true false [12,11,1,10,0,9,2,3,8,7,5,6,4] 2 2] [])) (.reg [.m 23 10,.u 24 .add 23 1,.m 10 24])))))) (.seq (.k [.f 38 0 5,.l 39 38,.u 40 .eql 39 2] (.cond (.t 40) (.k [.m 41 0,.f 42 4 5,.l 43 42,.m 44 2,.x 45 145 41 43 44,.f 46 4 9,.s 1 46 45] (.k [.j 47 7 9,.s 7 8 47] .ret)) .skip)) (.k [.m 48 0,.f 49 4 5,.l 50 49,.m 51 3,.x 52 145 48 50 51,.f 53 4 9,.s 1 53 52] (.seq (.k [.f 54 0 5,.l 55 54,.u 56 .neq 55 4] (.cond (.t 56) (.k [.j 57 7 9,.s 7 8 57] .ret) .skip)) (.k [.a 11 (.sl true [])] (.seq (.k [.a 12 (.int .i64 0)] (.block 2 (.loop (.seq (.k [.m 58 12,.f 59 5 5,.l 60 59,.o 61 (.len false (.t 60)),.b 62 .lss 58 61] (.cond (.t 62) .skip (.exit 2))) (.seq (.block 3 (.reg [.m 65 11,.f 66 5 5,.l 67 66,.m 68 12,.i 69 4 67 68,.f 70 0 69,.l 71 70,.o 72 (.bsl 1 [(.t 71)]),.o 73 (.app 1 16 (.t 65) (.t 72)),.m 11 73])) (.reg [.m 63 12,.u 64 .add 63 1,.m 12 64])))))) (.k [.m 74 0,.m 75 3,.m 76 11,.x 77 162 74 75 76,.m 13 77] (.k [.f 78 5 9,.n (.sto 1 (.t 78) (.c (.sl true [])))] (.seq (.k [.a 14 (.int .i64 0)] (.block 4 (.loop (.seq (.k [.m 79 14,.f 80 5 5,.l 81 80,.o 82 (.len false (.t 81)),.b 83 .lss 79 82] (.cond (.t 83) .skip (.exit 4))) (.seq (.block 5 (.k [.f 86 5 5,.l 87 86,.m 88 14,.i 89 4 87 88,.j 90 4 89,.o 15 (.new zF),.s 4 15 90] (.k [.m 91 0,.m 92 13,.f 93 0 15,.l 94 93,.x 95 176 91 92 94,.f 96 0 15,.s 1 96 95] (.reg [.f 97 5 9,.l 98 97,.j 99 4 15,.o 100 (.bsl 4 [(.t 99)]),.o 101 (.app 4 40 (.t 98) (.t 100)),.f 102 5 9,.s 1 102 101])))) (.reg [.m 84 14,.u 85 .add 84 1,.m 14 85])))))) (.k [.m 103 0,.f 104 6 5,.l 105 104,.m 106 13,.x 107 232 103 105 106,.f 108 6 9,.s 1 108 107] (.k [.j 109 7 9,.s 7 8 109] .ret)))))))))))))⟩
theorem ok230:okF Tryz.f230 c230:=okI
def c231:F':=⟨43,[.t 6],.k [.a 6 (.sl true [])] (.k [.m 9 0,.m 10 1,.m 11 2,.x 12 145 9 10 11,.m 7 12] (.seq (.k [.a 8 (.int .i64 0)] (.block 0 (.loop (.seq (.k [.m 13 8,.m 14 7,.o 15 (.len false (.t 14)),.b 16 .lss 13 15] (.cond (.t 16) .skip (.exit 0))) (.seq (.block 1 (.reg [.m 19 0,.m 20 0,.h 21 20,.f 22 5 21,.l 23 22,.m 24 23,.v 25 24 false (.mv (.t 7)),.v 26 24 false (.mv (.t 8)),.v 27 24 false (.ia 7 (.t 25) (.t 26)),.v 28 24 false (.fa 0 (.t 27)),.v 29 24 false (.ld none (.t 28)),.v 30 24 false (.bin .neq (.t 29) (.c (.int .i64 6))),.v 31 24 false (.mv (.t 30)),.v 32 31 true (.mv (.t 7)),.v 33 31 true (.mv (.t 8)),.v 34 31 true (.ia 7 (.t 32) (.t 33)),.v 35 31 true (.fa 0 (.t 34)),.v 36 31 true (.ld none (.t 35)),.v 37 31 true (.bin .neq (.t 36) (.c (.int .i64 7))),.v 38 24 false (.pick (.t 31) (.t 37) (.c (.bool false))),.z 39 24 38,.h 40 19,.f 41 5 40,.s 1 41 39])) (.reg [.m 17 8,.u 18 .add 17 1,.m 8 18])))))) (.k [.m 42 7,.m 6 42] .ret)))⟩
theorem ok231:okF Tryz.f231 c231:=okI
def c232:F':=⟨28,[.t 6],.k [.a 6 (.sl true [])] (.k [.a 7 (.sl true [])] (.seq (.k [.a 8 (.int .i64 0)] (.block 0 (.loop (.seq (.k [.m 10 8,.m 11 1,.o 12 (.len false (.t 11)),.b 13 .lss 10 12] (.cond (.t 13) .skip (.exit 0))) (.seq (.block 1 (.k [.m 16 0,.m 17 1,.m 18 8,.i 19 8 17 18,.j 20 8 19,.o 21 (.bsl 8 [(.t 20)]),.m 22 2,.x 23 117 16 21 22,.m 9 23] (.reg [.m 24 7,.m 25 9,.o 26 (.app 8 168 (.t 24) (.t 25)),.m 7 26]))) (.reg [.m 14 8,.u 15 .add 14 1,.m 8 15])))))) (.k [.m 27 7,.m 6 27] .ret)))⟩
theorem ok232:okF Tryz.f232 c232:=okI
open Go.Proofs.Tryz
def Rd(v:V)(l:List ByteArray)(S:St):Prop:=lenS v=some (.int .i64 l.length)∧∀(i:Nat) (h:i<l.length),∃p,iaS S 1 v i=some p∧ldS S p none=some (.str l[i])
theorem Rd.sl(b:Bool)(l:List ByteArray)(S:St):Rd (.sl b (l.map .str)) l S:=⟨by simp[lenS],fun i h=>⟨_,qc4 h b S,by simp[ldS]⟩⟩
theorem Rd.arr{lo wr:Nat}{l:List ByteArray}{S:St}(h:S[lo]?=some (.arr (l.map .str) 1 wr))(hw:wr≤l.length):Rd (.arr lo 0 l.length l.length) l S:=
 ⟨rfl,fun i hi=>⟨.ptr lo i 0 l.length,by simp[iaS,h,hw,hi],by simp[ldS,h,hw,hi]⟩⟩
theorem qqn(v:V)(l:List ByteArray)(s:ByteArray)(S:St)(hl:l.length≤1000000)(hr:Rd v l S):Fn prog 34 [v,.str s] S (.bool (isIn s l)):=by
 obtain ⟨hlen,hrd⟩:=hr;refine Spec.ib func34 ok34 ?_;simp[c34];refine qar (fun n e S'=>∃i:Nat,n=l.length - i∧i≤l.length∧(∀j,(h:j<l.length)→j<i→l[j]≠s)∧S'=S∧
  e=[(5,.int .i64 i),(4,.bool false),(0,v),(1,.str s)]) l.length _ ?_ ⟨0,by simp,by omega,by omega,rfl,rfl⟩ ?_
 ·exact Env.so (by simp)
 rintro n e S' ⟨i,rfl,hi,hno,rfl,rfl⟩;by_cases h:i<l.length
 ·obtain ⟨p,hp1,hp2⟩:=hrd i h;by_cases he:l[i]=s
  ·rw[he] at hp2;simp[↓qbm,hlen,h,hp1,hp2];exact qaj rfl ⟨by rw[qbA.2 (by rw[←he];exact qt7 h)];rfl,rfl⟩
  ·simp[↓qbm,hlen,h,hp1,hp2,he,qaL (n:=(i:Int)+1)];refine ⟨_,?_,_,?_,i+1,rfl,by omega,fun j hj hji=>?_,rfl⟩
   ·omega
   ·exact Env.so (by simp)
   ·by_cases hj':j=i
    ·subst hj';exact he
    ·exact hno j hj (by omega)
 ·simp[↓qbm,hlen,h];refine qaj rfl ⟨?_,rfl⟩;rw[qdX.2]
  ·rfl
  intro hs;obtain ⟨j,hj,rfl⟩:=qu1 hs;exact hno j hj (by omega) rfl
def bndV(e:ByteArray×Nat):V:=.agg [.str e.1,.int .i64 e.2]
theorem ql2(e:ByteArray×Nat):(bndV e).size=2:=rfl
theorem qrf{l:Sco}{i:Nat}(h:i<l.length)(b:Bool)(S:St):iaS S 2 (.sl b (l.map bndV)) i=some (.iptr (bndV l[i]) 0):=qio (f:=bndV) ql2 h b S
def qfJ(l:Sco)(x:ByteArray):Option Nat:=Sco.at l.reverse x
def plcV(l:Sco)(x:ByteArray):V:=.int .i64 (match qfJ l x with|some k=>(k:Int)|none=>-1)
theorem qh9{l:Sco}{x:ByteArray}:Sco.at l x=none↔∀e,e∈l→e.1≠x:=by
 unfold Sco.at;simp[List.find?_eq_none]
theorem qmv(l:Sco)(b:Bool)(x:ByteArray)(hl:l.length≤1000000)(S:St):Fn prog 175 [.sl b (l.map bndV),.str x] S (plcV l x):=by
 refine Spec.ib func175 ok175 ?_;simp[c175,qaA (n:=(l.length:Int) - 1) (by omega) (by omega)];refine qaz (fun e U=>qfJ l x=none∧U=S) ?_ ?_
 ·refine qar (fun k e U=>k≤l.length∧(∀i,(h:i<l.length)→k≤i→l[i].1≠x)∧U=S∧
   e=[(5,.int .i64 ((k:Int) - 1)),(0,.sl b (l.map bndV)),(1,.str x)]) l.length _ ?_ ⟨qt1 _,by omega,rfl,rfl⟩ ?_
  ·exact Env.so (by simp)
  rintro k e U ⟨hk,hno,rfl,rfl⟩;by_cases h0:k=0
  ·subst h0;simp;unfold qfJ;rw[qh9];intro e he;obtain ⟨i,hi,rfl⟩:=qu1 (List.mem_reverse.1 he);exact hno i hi (quX _)
  ·obtain ⟨m,rfl⟩:∃m,k=m+1:=⟨k - 1,by omega⟩;have hm:m<l.length:=by omega
   have e1:((m+1:Nat):Int) - 1=m:=by omega
   rw[e1];have hg:(0:Int)≤m:=by omega
   by_cases hx:l[m].1=x
   ·simp[hg,qrf hm,bndV,ldS,hx,qfu];refine qaj rfl ⟨?_,rfl⟩;unfold plcV
    have:qfJ l x=some l[m].2:=by
     unfold qfJ Sco.at;have hs:l=l.take m++(l[m]::l.drop (m+1)):=by rw[←qvp hm,quF]
     conv=>lhs;rw[hs]
     rw[List.reverse_append,List.reverse_cons,qvo,qvo]
     have hn:(l.drop (m+1)).reverse.find? (fun p=>decide (p.1=x))=none:=by
      rw[List.find?_eq_none];intro e he;obtain ⟨i,hi,rfl⟩:=qu1 (List.mem_reverse.1 he);rw[List.getElem_drop];simp only[List.length_drop] at hi;have:=hno (m+1+i) (by omega) (by omega);simpa using this
     rw[hn];simp[hx]
    rw[this];rfl
   ·simp[hg,qrf hm,bndV,ldS,hx,qaA (n:=(m:Int) - 1) (by omega) (by omega)];refine ⟨m,by omega,_,?_,by omega,fun i hi hmi=>?_,rfl⟩
    ·exact Env.so (by simp)
    ·by_cases hj':m=i
     ·subst hj';exact hx
     ·exact hno i hi (by omega)
 rintro e U ⟨hn,rfl⟩;simp;refine qaj rfl ⟨?_,rfl⟩;unfold plcV;rw[hn];rfl
structure Frm(w:Nat)(P:(Nat→Prop)→(Nat→Prop)→St→Prop):Prop where
 push:∀{F D S},P F D S→∀os,P F D (S++os)
 set:∀{F D S},P F D S→∀{l} (o:Ob),Off w F D l→P F D (S.set l o)
 out:∀{F D S},P F D S→∀{l},S.length≤l→Off w F D l
theorem Gw.appF{w:Nat}{P:(Nat→Prop)→(Nat→Prop)→St→Prop}(fm:Frm w P){sz bytes:Nat}{F0 D0 F D:Nat→Prop}{xs ys:List V}{v x:V}{S0 S:St}(h:Gw sz S0.length w F D xs v S)(k:P F D S)(s:Stp w F0 D0 S0 F D S)(hx:elems S x=some ys)(hy:fits sz ys=true)(hr:(xs.length+ys.length) * bytes≤2 ^ 47):
  ∃v' S',appS S sz bytes v x=some (v',S')∧Gw sz S0.length w F D (xs++ys) v' S'∧P F D S'∧Stp w F0 D0 S0 F D S'∧(∀l o,S[l]?=some o→(∀a b c,v≠.arr l a b c)→S'[l]?=some o)∧(∀l a b c,v'=.arr l a b c→v=.arr l 0 xs.length xs.length∨l=S.length):=by
 have hlen:=s.k.len;rcases h with ⟨rfl,rfl⟩|⟨l,wr,h1,h2,rfl,h3,h4⟩
 ·cases ys with
  | nil=>
   refine ⟨.sl true [],S,?_,.inl ⟨rfl,rfl⟩,k,s,fun _ _ h _=>h,fun l a b c hh=>by cases hh⟩;unfold appS;rw[hx];rfl
  | cons y ys=>
   refine ⟨.arr S.length 0 (y::ys).length (y::ys).length,S++[.arr (y::ys) sz (y::ys).length],?_,.inr ⟨S.length,(y::ys).length,hlen,fm.out k (qt1 _),by simp,by simp,by simp⟩,fm.push k _,s.push _,fun l o h _=>gp h,fun l a b c hh=>by cases hh;exact .inr rfl⟩;unfold appS;rw[hx];have hc:true=true∧fits sz (y::ys)=true∧(([]:List V).all fun v=>v.size==sz)=true∧(([]:List V).length+(y::ys).length) * bytes≤2 ^ 47:=⟨rfl,hy,rfl,hr⟩;show (if (y::ys).isEmpty=true then _ else _)=_;rw[if_neg (by simp),if_pos hc];simp
 ·have hc:0=0∧xs.length=xs.length∧xs.length=xs.length∧sz=sz∧fits sz ys=true∧(xs.length+ys.length) * bytes≤2 ^ 47:=⟨rfl,rfl,rfl,rfl,hy,hr⟩;have hlt:l<S.length:=(qtV.1 h3).1;refine ⟨.arr l 0 (xs.length+ys.length) (xs.length+ys.length),S.set l (.arr (xs++ys) sz wr),?_,.inr ⟨l,wr,h1,h2,by simp,by rw[qtZ hlt],by simp;omega⟩,fm.set k _ h2,s.set _ h1,fun k o ho hne=>?_,fun l' a b c hh=>by cases hh;exact .inl rfl⟩
  ·unfold appS;rw[hx];show (match S[l]? with|_=>_)=_;rw[h3];show (if _ then _ else _)=_;rw[if_pos hc]
  ·rw[qtY (by rintro rfl;exact hne _ _ _ rfl)];exact ho
theorem Gw.app1F{w:Nat}{P:(Nat→Prop)→(Nat→Prop)→St→Prop}(fm:Frm w P){sz bytes:Nat}{F0 D0 F D:Nat→Prop}{xs:List V}{y v:V}{S0 S:St}{b:Bool}(h:Gw sz S0.length w F D xs v S)(k:P F D S)(s:Stp w F0 D0 S0 F D S)(hy:fits sz [y]=true)(hr:(xs.length+1) * bytes≤2 ^ 47):
  ∃v' S',appS S sz bytes v (.sl b [y])=some (v',S')∧Gw sz S0.length w F D (xs++[y]) v' S'∧P F D S'∧Stp w F0 D0 S0 F D S'∧(∀l o,S[l]?=some o→(∀a b c,v≠.arr l a b c)→S'[l]?=some o)∧(∀l a b c,v'=.arr l a b c→v=.arr l 0 xs.length xs.length∨l=S.length):=
 h.appF fm k s (qcd S b [y]) hy hr
theorem Gw.finF{w:Nat}{P:(Nat→Prop)→(Nat→Prop)→St→Prop}(fm:Frm w P){sz:Nat}{F0 D0 F D:Nat→Prop}{xs:List V}{v:V}{S0 U:St}(h:Gw sz S0.length w F D xs v U)(k:P F D U)(s:Stp w F0 D0 S0 F D U):
  ∃U',qaX S0.length v U (.sl false (xs.map V.weak)) U'∧P F D U'∧Stp w F0 D0 S0 F D U':=by
 rcases h with ⟨rfl,rfl⟩|⟨l,wr,h1,h2,rfl,h3,h4⟩
 ·exact ⟨U,qaX.weak (r:=.sl true []),k,s⟩
 ·have g1:=qaX.freeze (n:=S0.length) (l:=l) (off:=0) (len:=xs.length) (st:=xs.length) h3 h4 (by omega);simp only[List.drop_zero,qun] at g1;have g2:qaX S0.length (.sl false xs) (U.set l .dead) (V.sl false xs).weak (U.set l .dead):=qaX.weak;simp only[V.weak,qaI] at g2;exact ⟨_,g1.trans g2,fm.set k _ h2,s.set _ h1⟩
def Rd'(w:Nat)(P':(Nat→Prop)→(Nat→Prop)→St→Prop)(F D:Nat→Prop)(S:St)(x:V)(r:V)(U:St):Prop:=r=x∧∃F' D',P' F' D' U∧Stp w F D S F' D' U
theorem qd2{w:Nat}{P:(Nat→Prop)→(Nat→Prop)→St→Prop}(fm:Frm w P){sz:Nat}{F0 D0 F D:Nat→Prop}{xs:List V}{v:V}{S0 U:St}{rs:List RV}{e:Env}(hv:rvs e U rs=some [v])(h:Gw sz S0.length w F D xs v U)(k:P F D U)(s:Stp w F0 D0 S0 F D U){ys:List V}(hx:xs.map V.weak=ys):
  endp rs S0.length (fun r U=>Rd' w P F0 D0 S0 (.sl false ys) r U) .ret e U:=by
 obtain ⟨U',g,k',s'⟩:=h.finF fm k s;exact ⟨_,hv,_,U',g,by rw[hx],F,D,k',s'⟩
def LwF(w sz:Nat)(F D:Nat→Prop)(S:St)(len:Nat)(P:Nat→(Nat→Prop)→(Nat→Prop)→St→Prop)(xs:Nat→List V)(env:Nat→V→Env)(j:Nat)(e:Env)(U:St):Prop:=∃(i:Nat) (gv:V) (F' D':Nat→Prop),j=len - i∧i≤len∧Gw sz S.length w F' D' (xs i) gv U∧P i F' D' U∧Stp w F D S F' D' U∧e=env i gv
def WwF(w sz:Nat)(F D:Nat→Prop)(S:St)(P:(Nat→Prop)→(Nat→Prop)→St→Prop)(reg:Nat)(xs:List V)(e:Env)(U:St):Prop:=∃(gv:V) (F' D':Nat→Prop),e.get reg=some gv∧Gw sz S.length w F' D' xs gv U∧P F' D' U∧Stp w F D S F' D' U
def Gs(w:Nat)(F:Nat→Prop)(xs:List ByteArray)(v:V)(S:St):Prop:=(xs=[]∧v=.sl true [])∨∃l wr,F l∧l≠w∧v=.arr l 0 xs.length xs.length∧S[l]?=some (.arr (xs.map .str) 1 wr)∧wr≤xs.length
def Fr(D:Nat→Prop)(fv:V)(fresh:List ByteArray)(S:St):Prop:=(∃b,fv=.sl b (fresh.map .str))∨∃l wr,D l∧fv=.arr l 0 fresh.length fresh.length∧S[l]?=some (.arr (fresh.map .str) 1 wr)∧wr≤fresh.length
def wkO(r:Rp)(bf bt:Bool)(fv vb vf:V)(st:Rst):Ob:=.arr [.agg [vb,vf,fv,.sl bf (r.fro.map .str),.sl bt (r.to.map Ex.v),.bool st.bad,.bool st.caught]] 7 1
structure Rk(r:Rp)(bf bt:Bool)(w:Nat)(fv:V)(bound:List ByteArray)(st:Rst)(F D:Nat→Prop)(S:St):Prop where
 wx:∃vb vf,S[w]?=some (wkO r bf bt fv vb vf st)∧Gs w F bound vb S∧Gs w F st.free vf S∧∀l a b c,vb=.arr l a b c→∀a' b' c',vf≠.arr l a' b' c'
 fr:Fr D fv r.fresh S
 lt:∀l,F l∨D l→l<S.length
 nF:¬ F w
 nD:¬ D w
 di:∀l,F l→¬ D l
 lw:w<S.length
theorem Gs.keep{w:Nat}{F:Nat→Prop}{xs:List ByteArray}{v:V}{S U:St}(h:Gs w F xs v S)(hk:∀l o,F l→S[l]?=some o→U[l]?=some o):Gs w F xs v U:=by
 rcases h with h|⟨l,wr,h1,h2,h3,h4,h5⟩
 ·exact .inl h
 ·exact .inr ⟨l,wr,h1,h2,h3,hk l _ h1 h4,h5⟩
theorem Gs.flat{w:Nat}{F:Nat→Prop}{xs:List ByteArray}{v:V}{S:St}(h:Gs w F xs v S):v.cells=[v]∧v.flat=true∧v.size=1∧lenS v=some (.int .i64 xs.length):=by
 rcases h with ⟨rfl,rfl⟩|⟨l,wr,h1,h2,rfl,h4,h5⟩ <;> exact ⟨rfl,rfl,rfl,rfl⟩
theorem Fr.keep{D:Nat→Prop}{xs:List ByteArray}{v:V}{S U:St}(h:Fr D v xs S)(hk:∀l o,D l→S[l]?=some o→U[l]?=some o):Fr D v xs U:=by
 rcases h with h|⟨l,wr,h1,h3,h4,h5⟩
 ·exact .inl h
 ·exact .inr ⟨l,wr,h1,h3,hk l _ h1 h4,h5⟩
theorem Fr.rd{D:Nat→Prop}{xs:List ByteArray}{v:V}{S:St}(h:Fr D v xs S):Rd v xs S:=by
 rcases h with ⟨b,rfl⟩|⟨l,wr,h1,rfl,h4,h5⟩
 ·exact Rd.sl b xs S
 ·exact Rd.arr h4 h5
theorem Rk.frm(r:Rp)(bf bt:Bool)(w:Nat)(fv:V)(bound:List ByteArray)(st:Rst):Frm w (Rk r bf bt w fv bound st) where
 push {F D S} h os:=by
  have g:∀l o,S[l]?=some o→(S++os)[l]?=some o:=fun l o h=>by rw[qt0 (qtV.1 h).1];exact h
  obtain ⟨vb,vf,h1,h2,h3,h4⟩:=h.wx;exact ⟨⟨vb,vf,g _ _ h1,h2.keep fun l o _=>g l o,h3.keep fun l o _=>g l o,h4⟩,h.fr.keep fun l o _=>g l o,fun l hl=>by have:=h.lt l hl;simp;omega,h.nF,h.nD,h.di,by simp;have:=h.lw;omega⟩
 set {F D S} h l o hl:=by
  have g:∀k o',(k=w∨F k∨D k)→S[k]?=some o'→(S.set l o)[k]?=some o':=fun k o' hk h=>by
   rw[qtY]
   ·exact h
   ·rintro rfl;rcases hk with hk|hk|hk
    ·exact hl.1 hk
    ·exact hl.2.1 hk
    ·exact hl.2.2 hk
  obtain ⟨vb,vf,h1,h2,h3,h4⟩:=h.wx;exact ⟨⟨vb,vf,g _ _ (.inl rfl) h1,h2.keep fun l o h=>g l o (.inr (.inl h)),h3.keep fun l o h=>g l o (.inr (.inl h)),h4⟩,h.fr.keep fun l o h=>g l o (.inr (.inr h)),fun l hl=>by have:=h.lt l hl;simpa using this,h.nF,h.nD,h.di,by simpa using h.lw⟩
 out {F D S} h l hl:=⟨by have:=h.lw;omega,fun hf=>by have:=h.lt l (.inl hf);omega,fun hf=>by have:=h.lt l (.inr hf);omega⟩
def ScD(sc:Scs):Prop:=∀s,s∈sc→(s.map (·.1)).Nodup
theorem qsm{s:Sco}(x:ByteArray)(h:(s.map (·.1)).Nodup):Sco.at s.reverse x=Sco.at s x:=by
 induction s with
 | nil=>rfl
 | cons e s ih=>
  rw[qud,List.nodup_cons] at h;have ih:=ih h.2;unfold Sco.at at ih ⊢;rw[List.reverse_cons,qvo,List.find?_cons];by_cases hx:e.1=x
  ·have hn:s.reverse.find? (fun p=>decide (p.1=x))=none:=by
    rw[List.find?_eq_none];intro e' he' hh;simp only[decide_eq_true_eq] at hh;exact h.1 (by rw[hx,←hh];exact quz (List.mem_reverse.1 he'))
   rw[hn];simp[hx]
  ·simp only[decide_eq_false hx];simp only[List.find?_cons,decide_eq_false hx,List.find?_nil,Option.or_none];exact ih
theorem qic:∀(sc:Scs) (x:ByteArray),ScD sc→qfJ (Scs.flat sc) x=sc.at x
 | [],x,_=>rfl
 | s::r,x,h=>by
  have ih:=qic r x fun s hs=>h s (qvj _ hs)
  have hs:=qsm x (h s (List.mem_cons_self ..));unfold qfJ Sco.at at *;simp only[Scs.flat,List.reverse_append,qvo,Scs.at,Sco.at]
  cases hf:s.reverse.find? (fun p=>decide (p.1=x)) with
  | some p=>rw[hf] at hs;rw[←hs];simp
  | none=>rw[hf] at hs;rw[←hs];simpa using ih
theorem qdH:∀(l:List ByteArray) (s:Sco) (n:Nat),(s.map (·.1)).Nodup→((binds l s n).map (·.1)).Nodup
 | [],s,n,h=>h
 | x::l,s,n,h=>by
  simp only[binds];split
  ·exact qdH l s n h
  ·rename_i hx;refine qdH l _ _ ?_;rw[quh,List.nodup_append];refine ⟨h,by simp,?_⟩;intro a ha b hb;simp at hb;subst hb;rintro rfl;obtain ⟨e,he,rfl⟩:=qul.1 ha;apply hx
   cases hf:Sco.at s e.1 with
   | some k=>rfl
   | none=>exact absurd rfl (qh9.1 hf e he)
theorem ScD.bind{sc:Scs}(h:ScD sc)(l:List ByteArray)(n:Nat):ScD (qad l n::sc):=fun s hs=>by
 rcases qum.1 hs with rfl|hs
 ·exact qdH l [] n List.nodup_nil
 ·exact h s hs
theorem qdq{r:Rp}{bf bt:Bool}{w:Nat}{fv:V}{bound:List ByteArray}{st:Rst}{F D:Nat→Prop}{S:St}(hk:Rk r bf bt w fv bound st F D S):∃vb vf,ldS S (.ptr w 0 0 1) none=some vb∧ldS S (.ptr w 0 1 1) none=some vf∧ldS S (.ptr w 0 2 1) none=some fv∧ldS S (.ptr w 0 3 1) none=some (.sl bf (r.fro.map .str))∧ldS S (.ptr w 0 4 1) none=some (.sl bt (r.to.map Ex.v))∧ldS S (.ptr w 0 5 1) none=some (.bool st.bad)∧ldS S (.ptr w 0 6 1) none=some (.bool st.caught):=by
 obtain ⟨vb,vf,h,_⟩:=hk.wx;unfold wkO at h;refine ⟨vb,vf,?_,?_,?_,?_,?_,?_,?_⟩ <;> simp[ldS,h]
theorem qg1(r:Rp)(bf bt:Bool)(w:Nat)(fv:V)(bound:List ByteArray)(st:Rst)(F D:Nat→Prop)(S:St)(hk:Rk r bf bt w fv bound st F D S)(b:Bool)(sc:Scs)(hd:ScD sc)(hl:(Scs.flat sc).length≤1000000)(x:ByteArray):
  Fn prog 176 [.ptr w 0 0 1,.sl b ((Scs.flat sc).map bndV),.str x] S (.str (rren r sc x)):=by
 refine Spec.ib func176 ok176 ?_;obtain ⟨vb,vf,_,_,hfr,_⟩:=qdq hk;obtain ⟨hlen,hrd⟩:=hk.fr.rd;simp[c176];refine qai (qmv _ b x hl S) ?_;unfold plcV;rw[qic sc x hd]
 have hr:rren r sc x=match sc.at x with
  | some k=>(r.fresh[k]?).getD x
  | none=>x:=rfl
 cases hat:sc.at x with
 | none=>
  rw[hat] at hr;simp only at hr;rw[hr];simp;exact qaj rfl ⟨rfl,rfl⟩
 | some k=>
  rw[hat] at hr;simp only at hr;have hk0:(0:Int)≤k:=by omega
  by_cases hlt:k<r.fresh.length
  ·obtain ⟨p,hp1,hp2⟩:=hrd k hlt;rw[hr,qtX hlt];simp[hk0,↓qbm,qbb,hfr,hlen,hlt,hp1,hp2];exact qaj rfl ⟨rfl,rfl⟩
  ·rw[hr,quU (by omega)];simp[hk0,↓qbm,qbb,hfr,hlen,hlt];exact qaj rfl ⟨rfl,rfl⟩
theorem qe3(l:List ByteArray):fits 1 (l.map V.str)=true:=by simp[fits]
theorem ql7(l:List Sm)(hl:qaB (l.map Pa.st)≤4000)(b:Bool)(w:Nat)(P:(Nat→Prop)→(Nat→Prop)→St→Prop)(fm:Frm w P)(F D:Nat→Prop)(S:St)(hk:P F D S):
  Spec prog 163 [.sl b (l.map Sm.v)] S (fun r U=>Rd' w P F D S (.sl false ((qak l).map .str)) r U):=by
 have hlen:l.length≤4000:=by have:=qaP (l.map Pa.st);rw[qt2] at this;omega
 have hlab:∀i,i≤l.length→(qak (l.take i)).length≤4000:=fun i _=>by
  have:∀m:List Sm,(qak m).length≤qaB (m.map Pa.st):=by
   intro m
   induction m with
   | nil=>simp[qak]
   | cons x m ih=>
    have:=Sm.size_parts x;simp only[qak,quT,qub,qud,sizes_cons] at ih ⊢;omega
  have h1:=this (l.take i);have h2:qaB (l.map Pa.st)=qaB ((l.take i).map Pa.st)+qaB ((l.drop i).map Pa.st):=by rw[←qa2,←quh,quF]
  omega
 refine Spec.weakA ?_;simp only[V.weakL,V.weak,wSm];refine Spec.ib func163 ok163 ?_;simp[c163];refine qaz (WwF w 1 F D S P 3 ((qak l).map .str)) ?_ ?_
 ·refine qar (LwF w 1 F D S l.length (fun _=>P) (fun i=>(qak (l.take i)).map .str)
   (fun i gv=>[(4,.int .i64 i),(3,gv),(0,.sl false (l.map Sm.v))])) l.length _ ?_ ⟨0,_,F,D,by simp,by omega,by simp[qak];exact Gw.nil _ _ _ _ _ _,hk,Stp.refl _ _ _ _,rfl⟩ ?_
  ·exact Env.so (by simp)
  rintro j e U ⟨i,gv,F1,D1,rfl,hi,hg,hk1,hs1,rfl⟩;dsimp only at hg hk1;by_cases hlt:i<l.length
  ·obtain ⟨v',U3,ha,hg3,hk3,hs4,_⟩:=hg.appF fm (bytes:=16) (x:=.sl false (l[i].labels.map .str)) hk1 hs1 (qcd _ _ _) (qe3 _) (by
    have:=hlab i (by omega);have h2:=qaW (l:=l.map Pa.st) (i:=i) (q:=Pa.st l[i]) (by simp[hlt]);have h3:=Sm.size_parts l[i];rw[qt2,qt2];omega)
   have hn:(qak (l.take i)).map V.str++l[i].labels.map .str=(qak (l.take (i+1))).map .str:=by
    rw[qt9,qtX hlt,quB,←quh];unfold qak;rw[List.flatMap_append];simp
   rw[hn] at hg3;simp[hlt,iaSm,ldS,ha,qaL (n:=(i:Int)+1)];refine ⟨_,?_,_,?_,i+1,v',F1,D1,rfl,by omega,hg3,hk3,hs4,rfl⟩
   ·omega
   ·exact Env.so (by simp)
  ·have:i=l.length:=by omega
   subst this;simp only[qun] at hg hk1;simp;exact ⟨gv,F1,D1,rfl,hg,hk1,hs1⟩
 rintro e U ⟨gv,F1,D1,g5,hg,hk1,hs1⟩;simp[g5];exact qd2 fm rfl hg hk1 hs1 (by rw[←qaI,wStr])
set_option maxRecDepth 20000
def c42:F':=⟨63,[.t 2],.k [.a 2 (.sl true [])] (.k [.a 3 (.sl true [])] (.seq (.k [.a 4 (.int .i64 0)] (.block 0 (.loop (.seq (.k [.m 7 4,.m 8 0,.o 9 (.len false (.t 8)),.b 10 .lss 7 9] (.cond (.t 10) .skip (.exit 0))) (.seq (.block 1 (.k [.a 5 (.int .i64 0)] (.seq (.block 2 (.loop (.seq (.seq (.draw [.p (.m 13 5) [],.p (.m 14 3) [],.p (.o 15 (.len false (.t 14))) [1],.p (.b 16 .lss 13 15) [0,2,1],.p (.m 17 16) [3,0,2,1],.p (.v 18 17 true (.mv (.t 3))) [4,3,0,2,1],.p (.v 19 17 true (.mv (.t 5))) [4,3,0,2,1],.p (.v 20 17 true (.ia 1 (.t 18) (.t 19))) [5,6,4,3,0,2,1],.p (.v 21 17 true (.ld none (.t 20))) [7,5,6,4,3,0,2,1],.p (.v 22 17 true (.mv (.t 0))) [4,3,0,2,1],.p (.v 23 17 true (.mv (.t 4))) [4,3,0,2,1],.p (.v 24 17 true (.ia 1 (.t 22) (.t 23))) [9,10,4,3,0,2,1],.p (.v 25 17 true (.ld none (.t 24))) [11,9,10,4,3,0,2,1],.p (.v 26 17 true (.bin .lss (.t 21) (.t 25))) [8,12,7,5,6,11,9,10,4,3,0,2,1],.p (.y 27 17 26) [13,8,12,7,5,6,11,9,10,4,3,0,2,1]] []) (.cond (.t 27) .skip (.exit 2))) (.block 3 (.reg [.m 28 5,.u 29 .add 28 1,.m 5 29]))))) (.seq (.seq (.draw [.p (.m 30 5) [],.p (.m 31 3) [],.p (.o 32 (.len false (.t 31))) [1],.p (.b 33 .lss 30 32) [0,2,1],.p (.m 34 33) [3,0,2,1],.p (.v 35 34 true (.mv (.t 3))) [4,3,0,2,1],.p (.v 36 34 true (.mv (.t 5))) [4,3,0,2,1],.p (.v 37 34 true (.ia 1 (.t 35) (.t 36))) [5,6,4,3,0,2,1],.p (.v 38 34 true (.ld none (.t 37))) [7,5,6,4,3,0,2,1],.p (.v 39 34 true (.mv (.t 0))) [4,3,0,2,1],.p (.v 40 34 true (.mv (.t 4))) [4,3,0,2,1],.p (.v 41 34 true (.ia 1 (.t 39) (.t 40))) [9,10,4,3,0,2,1],.p (.v 42 34 true (.ld none (.t 41))) [11,9,10,4,3,0,2,1],.p (.v 43 34 true (.bin .eql (.t 38) (.t 42))) [8,12,7,5,6,11,9,10,4,3,0,2,1],.p (.y 44 34 43) [13,8,12,7,5,6,11,9,10,4,3,0,2,1]] []) (.cond (.t 44) (.exit 1) .skip)) (.k [.a 6 (.sl true [])] (.k [.m 45 6,.m 46 3,.m 47 5,.o 48 (.slc false 1 (.t 46) none (some (.t 47))),.o 49 (.app 1 16 (.t 45) (.t 48)),.m 6 49] (.k [.m 50 6,.m 51 0,.m 52 4,.i 53 1 51 52,.l 54 53,.o 55 (.bsl 1 [(.t 54)]),.o 56 (.app 1 16 (.t 50) (.t 55)),.m 6 56] (.reg [.m 57 6,.m 58 3,.m 59 5,.o 60 (.slc false 1 (.t 58) (some (.t 59)) none),.o 61 (.app 1 16 (.t 57) (.t 60)),.m 3 61])))))))) (.reg [.m 11 4,.u 12 .add 11 1,.m 4 12])))))) (.k [.m 62 3,.m 2 62] .ret)))⟩
theorem ok42:okF Tryz.f42 c42:=okI
theorem qhx(x y:ByteArray):qfW x y=true↔ltB x y:=by
 unfold qfW ltB;rw[qbx,qbx,Go.Proofs.bytesLess_eq,decide_eq_true_eq]
theorem qjb{x:ByteArray}:∀{l:List ByteArray},(insS l x).length≤l.length+1
 | []=>by simp[insS]
 | y::l=>by
  have:=qjb (x:=x) (l:=l);unfold insS;split
  ·simp only[quy];omega
  ·split <;> simp
def slcS(S:St)(sz:Nat)(d:V)(lo hi:Option Int):Option V:=match d with
 | .sl ..=>qbs S sz d lo hi
 | .arr ..=>qbs S sz d lo hi
 | _=>none
theorem qgR(e:Env)(S:St)(sz:Nat)(x:Opd)(lo hi:Option Opd):evK e S (.slc false sz x lo hi)=(x.ev e).bind fun d=>(qdn e lo).bind fun l=>(qdn e hi).bind fun h=>(slcS S sz d l h).map fun r=>(r,S):=by
 simp only[evK]
 cases x.ev e with
 | none=>rfl
 | some d=>cases qdn e lo with
  | none=>rfl
  | some l=>cases qdn e hi with
   | none=>rfl
   | some h=>cases d <;> rfl
theorem Gr.rd{n0:Nat}{ys:List ByteArray}{v:V}{S:St}(h:Gr 1 n0 (ys.map .str) v S):Rd v ys S:=by
 rcases h with ⟨h1,rfl⟩|⟨l,wr,h1,rfl,h3,h4⟩
 ·have:ys=[]:=by simpa using h1
  subst this;exact Rd.sl true [] S
 ·rw[qt2] at h4 ⊢;exact Rd.arr h3 h4
theorem Gr.ne{sz n0:Nat}{xs:List V}{v:V}{S:St}(h:Gr sz n0 xs v S){l:Nat}(hl:l<n0)(n:Nat):v≠.arr l 0 n n:=by
 rcases h with ⟨_,rfl⟩|⟨l',wr,h1,rfl,_⟩
 ·simp
 ·intro hh;injection hh with hh;omega
theorem Gr.fst{sz n0:Nat}{xs:List V}{v:V}{S:St}(h:Gr sz n0 xs v S){k:Nat}(hk:k≤xs.length):∃a,slcS S sz v none (some (k:Int))=some a∧elems S a=some (xs.take k):=by
 rcases h with ⟨rfl,rfl⟩|⟨l,wr,h1,rfl,h3,h4⟩
 ·have:k=0:=by simpa using hk
  subst this;exact ⟨.sl true [],rfl,rfl⟩
 ·refine ⟨.arr l 0 k xs.length,?_,?_⟩
  ·simp only[slcS,qbs,Option.getD_none,Option.getD_some];rw[if_pos ⟨by omega,by omega,by omega⟩];simp
  ·simp only[elems,h3];rw[if_pos ⟨h4,by omega⟩];simp
theorem Gr.snd{sz n0:Nat}{xs:List V}{v:V}{S:St}(h:Gr sz n0 xs v S){k:Nat}(hk:k≤xs.length):∃a,slcS S sz v (some (k:Int)) none=some a∧elems S a=some (xs.drop k):=by
 rcases h with ⟨rfl,rfl⟩|⟨l,wr,h1,rfl,h3,h4⟩
 ·have:k=0:=by simpa using hk
  subst this;exact ⟨.sl true [],rfl,rfl⟩
 ·simp only[slcS,qbs,Option.getD_none,Option.getD_some];rw[if_pos ⟨by omega,by omega,by omega⟩];by_cases h0:k=0
  ·subst h0;refine ⟨_,if_pos rfl,?_⟩;simp only[elems,h3];rw[if_pos ⟨h4,by omega⟩];simp
  ·rw[if_neg (by omega)];by_cases hn:k=xs.length
   ·exact ⟨_,if_pos (by omega),by rw[hn,List.drop_length];rfl⟩
   ·rw[if_neg (by omega),h3];simp only[];refine ⟨_,if_pos ⟨h4,trivial⟩,?_⟩;simp only[elems,h3,qvC,quZ];rw[if_pos ⟨h4,by omega⟩,quu (by rw[List.length_drop];exact qt1 _)]
theorem Gr.put{n0 k:Nat}{xs:List V}{y ov:V}{U:St}(h:Gr 1 n0 xs ov U)(hn:n0≤U.length)(hk:k≤xs.length)(hy:fits 1 [y]=true)(hx:fits 1 xs=true)(hl:xs.length≤1000000)(b:Bool):
  ∃(a v1:V) (U1:St) (v2:V) (U2:St) (c v3:V) (U3:St),slcS U 1 ov none (some (k:Int))=some a∧appS U 1 16 (.sl true []) a=some (v1,U1)∧(∀(l:Nat) (o:Ob),U[l]?=some o→U1[l]?=some o)∧U.length≤U1.length∧appS U1 1 16 v1 (.sl b [y])=some (v2,U2)∧
   slcS U2 1 ov (some (k:Int)) none=some c∧appS U2 1 16 v2 c=some (v3,U3)∧Gr 1 n0 (xs.take k++y::xs.drop k) v3 U3∧(∀(l:Nat) (o:Ob),U[l]?=some o→U3[l]?=some o)∧U.length≤U3.length:=by
 have ft:∀z:List V,(∀x,x∈z→x∈xs)→fits 1 z=true:=fun z hz=>by
  unfold fits at hx ⊢;rw[quj] at hx ⊢;exact fun x h=>hx x (hz x h)
 obtain ⟨a,ha,ea⟩:=h.fst hk;obtain ⟨v1,U1,p1,g1,l1,k1,_⟩:=(Gr.nil 1 U.length U).appE (bytes:=16) ea (ft _ fun x hx=>qvI hx) (by simp;omega) (qt1 _);rw[qut] at g1;have k1:∀l o,U[l]?=some o→U1[l]?=some o:=fun l o ho=>k1 l o ho fun n=>by simp
 have e1:elems U1 (.sl b [y])=some [y]:=rfl;obtain ⟨v2,U2,p2,g2,l2,k2,_⟩:=g1.appE (bytes:=16) e1 hy (by simp;omega) l1;have k2:∀l o,U[l]?=some o→U2[l]?=some o:=fun l o ho=>k2 l o (k1 l o ho) fun n=>g1.ne (glt ho) n
 have h2:Gr 1 n0 xs ov U2:=h.keep fun l _ hl=>by
  rw[qtX hl];exact k2 l _ (qtX hl)
 obtain ⟨c,hc,ec⟩:=h2.snd hk;obtain ⟨v3,U3,p3,g3,l3,k3,_⟩:=g2.appE (bytes:=16) ec (ft _ fun x hx=>List.mem_of_mem_drop hx) (by simp;omega) (by omega);refine ⟨a,v1,U1,v2,U2,c,v3,U3,ha,p1,k1,l1,p2,hc,p3,?_,fun l o ho=>k3 l o (k2 l o ho) fun n=>g2.ne (glt ho) n,by omega⟩;have:=g3.less hn;rw[qt5] at this;exact this
def Sd(l:List ByteArray)(i:Nat):List ByteArray:=(l.take i).foldl insS []
theorem qpv{l:List ByteArray}{i:Nat}(h:i<l.length):Sd l (i+1)=insS (Sd l i) l[i]:=by
 unfold Sd;rw[qt9,qtX h,quB,quL];rfl
theorem qhc:∀{l out:List ByteArray},(l.foldl insS out).length≤out.length+l.length
 | [],out=>by simp
 | x::l,out=>by
  have h1:=qhc (l:=l) (out:=insS out x);have h2:=qjb (x:=x) (l:=out);rw[qvD,quy];omega
theorem qsC(l:List ByteArray)(i:Nat):(Sd l i).length≤l.length:=by
 have h1:=qhc (l:=l.take i) (out:=[]);have h2:=List.length_take_le i l;unfold Sd;simp only[qve] at h1;have h3:(l.take i).length≤l.length:=by rw[quW];omega
 omega
structure Sq(l:List ByteArray)(S:St)(i:Nat)(ov:V)(U:St):Prop where
 g:Gr 1 S.length ((Sd l i).map .str) ov U
 k:Kp (fun _=>False) S U
theorem qtt(v:V)(l:List ByteArray)(hl:l.length≤100000)(S:St)(hr:∀U,Kp (fun _=>False) S U→Rd v l U):
    Spec prog 42 [v] S (fun r U=>r=.sl false ((l.foldl insS []).map .str)∧Kp (fun _=>False) S U):=by
  refine Spec.ib func42 ok42 ?_;simp[c42];refine qaz (fun e U=>∃ov,e.get 3=some ov∧Sq l S l.length ov U) ?_ ?_
  · refine qar (fun j e U=>∃(i:Nat) (ov:V),j=l.length - i∧i≤l.length∧Sq l S i ov U∧e=[(4,.int .i64 i),(3,ov),(0,v)]) l.length _ ?_ ⟨0,.sl true [],by simp,by omega,⟨Gr.nil _ _ _,Kp.refl _ _⟩,rfl⟩ ?_
    · exact Env.so (by simp)
    rintro j e U ⟨i,ov,rfl,hi,hq,rfl⟩;obtain ⟨hlen,hrd⟩:=hr U hq.k;have hU:=hq.k.len;by_cases h:i<l.length
    case neg=>
      have:i=l.length:=by omega
      subst this;simp[↓qbm,hlen];exact hq
    obtain ⟨p,hp1,hp2⟩:=hrd i h;have hsl:=qsC l i;obtain ⟨hol,hod⟩:=hq.g.rd;have hnx:=qpv h;obtain ⟨x,hx⟩:∃x,x=l[i]:=⟨_,rfl⟩;rw[←hx] at hp2 hnx;obtain ⟨d,hd⟩:∃d,d=Sd l i:=⟨_,rfl⟩;rw[←hd] at hnx hsl hol hod;simp[↓qbm,hlen,h];refine qaz (fun e' U'=>U'=U∧∃k:Nat,k≤d.length∧(∀j y,j<k→d[j]?=some y→ltB y x)∧(∀y,d[k]?=some y→¬ ltB y x)∧e'.get 0=some v∧e'.get 3=some ov∧e'.get 4=some (.int .i64 i)∧e'.get 5=some (.int .i64 k)) ?_ ?_
    · refine qar (fun j e' U'=>∃k:Nat,j=d.length - k∧k≤d.length∧U'=U∧(∀j y,j<k→d[j]?=some y→ltB y x)∧e'=[(5,.int .i64 k),(4,.int .i64 i),(3,ov),(0,v)]) d.length _ ?_ ⟨0,by simp,by omega,rfl,fun j y hj=>by omega,rfl⟩ ?_
      · exact Env.so (by simp)
      rintro j e' U' ⟨k,rfl,hk,rfl,hlt,rfl⟩;by_cases hkl:k<d.length
      · obtain ⟨q,hq1,hq2⟩:=hod k hkl
        cases hs:qfW d[k] x with
        | true=>
          simp[↓qbm,hol,hkl,hq1,hq2,hp1,hp2,hs];refine qbo rfl rfl ?_;simp[hs,qaL (n:=(k:Int)+1)];refine ⟨_,?_,_,?_,k+1,rfl,by omega,fun j y hj hy=>?_,rfl⟩
          · omega
          · exact Env.so (by simp)
          · by_cases hjk:j=k
            · subst hjk;rw[qtX hkl] at hy;cases hy;exact (qhx _ _).1 hs
            · exact hlt j y (by omega) hy
        | false=>
          simp[↓qbm,hol,hkl,hq1,hq2,hp1,hp2,hs];refine qbo rfl rfl ?_;simp[hs];refine ⟨k,hk,hlt,fun y hy=>?_,rfl⟩;rw[qtX hkl] at hy;cases hy;rw[←qhx,hs];simp
      · have:k=d.length:=by omega
        subst this;simp[↓qbm,hol];refine qbo rfl rfl ?_;simp;exact ⟨d.length,qt1 _,hlt,fun y hy=>by simp at hy,rfl⟩
    rintro e' U' ⟨rfl,k,hk,h1,h2,g0,g3,g4,g5⟩;have hat:=qma d k hk h1 h2;by_cases hkx:d[k]?=some x
    · obtain ⟨hkl,hkx'⟩:=qtV.1 hkx;obtain ⟨q,hq1,hq2⟩:=hod k hkl;rw[hkx'] at hq2;rw[if_pos hkx] at hat;simp[↓qbm,g0,g3,g4,g5,hol,hkl,hq1,hq2,hp1,hp2];refine qbo rfl rfl ?_;simp[g0,g3,g4,g5,qaL (n:=(i:Int)+1)];refine ⟨_,?_,_,?_,i+1,rfl,by omega,ov,⟨by rw[hnx,hat,hd];exact hq.g,hq.k⟩,rfl⟩
      · omega
      · repeat' first|exact Env.sub_nil _|refine Env.sub_cons (by simp[g0,g3]) ?_
    · rw[if_neg hkx] at hat;have hg:Gr 1 S.length (d.map .str) ov U':=by rw[hd];exact hq.g
      obtain ⟨a,v1,U1,v2,U2,c,v3,U3,q1,q2,q3,q4,q5,q6,q7,q8,q9,q10⟩:=hg.put (y:=.str x) (b:=true) hU (by rw[qt2];exact hk) rfl (qe3 d) (by rw[qt2];omega)
      have kU:∀{Y:St},(∀(l:Nat) (o:Ob),U'[l]?=some o→Y[l]?=some o)→U'.length≤Y.length→Kp (fun _=>False) S Y:=fun {Y} hV hl=>⟨by omega,fun m hm hn=>by
        have h1:=hq.k.get m hm hn;have h2:m<U'.length:=by omega
        rw[←h1,qtX h2];exact hV m _ (qtX h2)⟩
      obtain ⟨_,hrd1⟩:=hr U1 (kU q3 q4);obtain ⟨p',hp3,hp4⟩:=hrd1 i h;rw[←hx] at hp4;have hft:fits 1 [V.str x]=true:=rfl;have hq3:Sq l S (i+1) v3 U3:=⟨by rw[hnx,hat];simpa using q8,kU q9 q10⟩;by_cases hkl:k<d.length
      · obtain ⟨q,hq1,hq2⟩:=hod k hkl;have hne:¬ d[k]=x:=fun hh=>hkx (by rw[qtX hkl,hh])
        simp[↓qbm,↓qgR,g0,g3,g4,g5,hol,hkl,hq1,hq2,hp1,hp2,hne];refine qbo rfl rfl ?_;simp[↓qbm,↓qgR,qdn,g0,g3,g4,g5,q1,q2,hp3,hp4,hft,q5,q6,q7,qaL (n:=(i:Int)+1)];refine ⟨_,?_,_,?_,i+1,rfl,by omega,v3,hq3,rfl⟩
        · omega
        · repeat' first|exact Env.sub_nil _|refine Env.sub_cons (by simp[g0,g3]) ?_
      · simp[↓qbm,↓qgR,g0,g3,g4,g5,hol,hkl];refine qbo rfl rfl ?_;simp[↓qbm,↓qgR,qdn,g0,g3,g4,g5,q1,q2,hp3,hp4,hft,q5,q6,q7,qaL (n:=(i:Int)+1)];refine ⟨_,?_,_,?_,i+1,rfl,by omega,v3,hq3,rfl⟩
        · omega
        · repeat' first|exact Env.sub_nil _|refine Env.sub_cons (by simp[g0,g3]) ?_
  rintro e U ⟨ov,g3,hq⟩;simp[g3];have hsd:Sd l l.length=l.foldl insS []:=by unfold Sd;rw[qun]
  have hq1:=hq.g;rw[hsd] at hq1
  obtain ⟨U',gh,hk⟩:∃U',qaX S.length ov U (.sl false ((l.foldl insS []).map .str)) U'∧Kp (fun _=>False) S U':=by
    rcases hq1 with ⟨h1,rfl⟩|⟨m,wr,h1,rfl,h3,h4⟩
    · rw[h1];exact ⟨U,qaX.weak (r:=.sl true []),hq.k⟩
    · have g1:=qaX.freeze (n:=S.length) (l:=m) (off:=0) (len:=((l.foldl insS []).map V.str).length) (st:=((l.foldl insS []).map V.str).length) h3 h4 (by omega);simp only[List.drop_zero,qun] at g1;exact ⟨_,g1,hq.k.set _ (.inr h1)⟩
  exact ⟨_,rfl,_,U',gh,rfl,hk⟩
theorem Gs.app{w:Nat}{F D:Nat→Prop}{xs:List ByteArray}{v:V}{S:St}(h:Gs w F xs v S)(hlt:∀l,F l∨D l→l<S.length)(hw:w<S.length)(x:ByteArray)(hr:(xs.length+1) * 16≤2 ^ 47)(b:Bool):
  ∃v' S' F',appS S 1 16 v (.sl b [.str x])=some (v',S')∧Gs w F' (xs++[x]) v' S'∧S.length≤S'.length∧(∀l o,S[l]?=some o→(∀a b c,v≠.arr l a b c)→S'[l]?=some o)∧(∀l,F' l↔F l∨v=.sl true []∧l=S.length)∧(∀l,l<S.length→¬ F l→S'[l]?=S[l]?)∧(∀l,F' l→l<S'.length)∧(v=.sl true []→v'=.arr S.length 0 1 1)∧(∀l a b c,v=.arr l a b c→v'=.arr l 0 (xs.length+1) (xs.length+1)):=by
 have hy:fits 1 [V.str x]=true:=rfl;rcases h with ⟨rfl,rfl⟩|⟨l,wr,h1,h2,rfl,h3,h4⟩
 ·refine ⟨.arr S.length 0 1 1,S++[.arr [.str x] 1 1],fun l=>F l∨l=S.length,?_,.inr ⟨S.length,1,.inr rfl,by omega,by simp,by simp,by simp⟩,by simp,fun l o h _=>gp h,fun l=>by simp,fun l hl _=>by rw[qt0 hl],?_,fun _=>rfl,fun l a b c hh=>by cases hh⟩
  ·unfold appS;rw[qcd];have hc:true=true∧fits 1 [V.str x]=true∧(([]:List V).all fun v=>v.size==1)=true∧(([]:List V).length+[V.str x].length) * 16≤2 ^ 47:=⟨rfl,hy,rfl,by simp⟩;show (if [V.str x].isEmpty=true then _ else _)=_;rw[if_neg (by simp),if_pos hc];simp
  ·rintro l (hl|rfl)
   ·have:=hlt l (.inl hl);simp;omega
   ·simp
 ·have hc:0=0∧xs.length=(xs.map V.str).length∧xs.length=(xs.map V.str).length∧1=1∧fits 1 [V.str x]=true∧((xs.map V.str).length+[V.str x].length) * 16≤2 ^ 47:=⟨rfl,by simp,by simp,rfl,hy,by simpa using hr⟩;have hlt':l<S.length:=(qtV.1 h3).1;refine ⟨.arr l 0 (xs.length+1) (xs.length+1),S.set l (.arr (xs.map .str++[.str x]) 1 wr),F,?_,.inr ⟨l,wr,h1,h2,by simp,by rw[qtZ hlt'];simp,by simp;omega⟩,by simp,fun k o ho hne=>?_,fun l=>by simp,fun k hk hn=>?_,fun k hk=>by have:=hlt k (.inl hk);simpa using this,fun hh=>(by cases hh),fun l a b c hh=>by cases hh;rfl⟩
  ·unfold appS;rw[qcd];show (match S[l]? with|_=>_)=_;rw[h3];show (if _ then _ else _)=_;rw[if_pos hc];simp
  ·rw[qtY (by rintro rfl;exact hne _ _ _ rfl)];exact ho
  ·rw[qtY (by rintro rfl;exact hn h1)]
theorem Rk.addB{r:Rp}{bf bt:Bool}{w:Nat}{fv:V}{bound:List ByteArray}{st:Rst}{F D:Nat→Prop}{S:St}(h:Rk r bf bt w fv bound st F D S)(x:ByteArray)(hr:(bound.length+1) * 16≤2 ^ 47)(b:Bool):
  ∃vb vf vb' S' F',S[w]?=some (wkO r bf bt fv vb vf st)∧appS S 1 16 vb (.sl b [.str x])=some (vb',S')∧S'[w]?=some (wkO r bf bt fv vb vf st)∧vb'.cells=[vb']∧vb'.flat=true∧vb'.size=1∧lenS vb=some (.int .i64 bound.length)∧Rk r bf bt w fv (bound++[x]) st F' D (S'.set w (wkO r bf bt fv vb' vf st))∧Stp w F D S F' D (S'.set w (wkO r bf bt fv vb' vf st)):=by
 obtain ⟨vb,vf,h1,h2,h3,h4⟩:=h.wx;obtain ⟨vb',S',F',a1,a2,a3,a4,a5,a6,a7,a8,a9⟩:=h2.app h.lt h.lw x hr b;have hlw:=h.lw;have hw':S'[w]?=some (wkO r bf bt fv vb vf st):=by rw[a6 w h.lw h.nF];exact h1
 have hset:∀l o,l≠w→S'[l]?=some o→(S'.set w (wkO r bf bt fv vb' vf st))[l]?=some o:=fun l o hl ho=>by rw[qtY (Ne.symm hl)];exact ho
 have hFn:∀l,F' l→F l∨S.length≤l:=fun l hl=>((a5 l).1 hl).imp id fun hh=>by omega
 have hvf:Gs w F' st.free vf (S'.set w (wkO r bf bt fv vb' vf st)):=by
  rcases h3 with hh|⟨l,wr,z1,z2,z3,z4,z5⟩
  ·exact .inl hh
  ·refine .inr ⟨l,wr,(a5 l).2 (.inl z1),z2,z3,hset _ _ z2 (a4 l _ z4 fun a b c hh=>h4 l a b c hh _ _ _ z3),z5⟩
 obtain ⟨f1,f2,f3,_⟩:=a2.flat;refine ⟨vb,vf,vb',S',F',h1,a1,hw',f1,f2,f3,h2.flat.2.2.2,⟨⟨vb',vf,?_,?_,?_,?_⟩,?_,?_,?_,h.nD,?_,?_⟩,⟨?_,?_⟩,hFn,grow.refl _ _⟩
 ·exact qtZ (by omega)
 ·exact a2.keep fun l o hl ho=>hset _ _ (fun hh=>by subst hh;rcases hFn _ hl with hh|hh;exact h.nF hh;omega) ho
 ·exact hvf
 ·intro l a b c hb a' b' c' hf;rcases h2 with ⟨_,rfl⟩|⟨l0,wr,z1,z2,rfl,z4,z5⟩
  ·rw[a8 rfl] at hb;cases hb;rcases h3 with ⟨_,hh⟩|⟨l1,wr1,y1,y2,y3,y4,y5⟩
   ·rw[hh] at hf;cases hf
   ·rw[y3] at hf;cases hf;have:=glt y4;omega
  ·rw[a9 _ _ _ _ rfl] at hb;cases hb;exact h4 _ _ _ _ rfl _ _ _ hf
 ·exact h.fr.keep fun l o hl ho=>hset _ _ (fun hh=>h.nD (hh ▸ hl)) (by rw[a6 l (h.lt l (.inr hl)) (fun hf=>h.di l hf hl)];exact ho)
 ·rintro l (hl|hl)
  ·have:=a7 l hl;simpa using this
  ·have:=h.lt l (.inr hl);simp;omega
 ·intro hf;rcases hFn _ hf with hh|hh
  ·exact h.nF hh
  ·omega
 ·intro l hl hd;rcases hFn _ hl with hh|hh
  ·exact h.di l hh hd
  ·have:=h.lt l (.inr hd);omega
 ·simp;omega
 ·simp;omega
 ·intro l hl hn;rw[qtY (fun hh=>hn (.inl hh.symm)),a6 l hl fun hf=>hn (.inr hf)]
theorem Rk.addF{r:Rp}{bf bt:Bool}{w:Nat}{fv:V}{bound:List ByteArray}{st:Rst}{F D:Nat→Prop}{S:St}(h:Rk r bf bt w fv bound st F D S)(x:ByteArray)(hr:(st.free.length+1) * 16≤2 ^ 47)(b:Bool):
  ∃vb vf vf' S' F',S[w]?=some (wkO r bf bt fv vb vf st)∧appS S 1 16 vf (.sl b [.str x])=some (vf',S')∧S'[w]?=some (wkO r bf bt fv vb vf st)∧vf'.cells=[vf']∧vf'.flat=true∧vf'.size=1∧Rk r bf bt w fv bound { st with free:=st.free++[x] } F' D (S'.set w (wkO r bf bt fv vb vf' st))∧Stp w F D S F' D (S'.set w (wkO r bf bt fv vb vf' st)):=by
 obtain ⟨vb,vf,h1,h3,h2,h4⟩:=h.wx;obtain ⟨vf',S',F',a1,a2,a3,a4,a5,a6,a7,a8,a9⟩:=h2.app h.lt h.lw x hr b;have hlw:=h.lw;have hw':S'[w]?=some (wkO r bf bt fv vb vf st):=by rw[a6 w h.lw h.nF];exact h1
 have hset:∀l o,l≠w→S'[l]?=some o→(S'.set w (wkO r bf bt fv vb vf' st))[l]?=some o:=fun l o hl ho=>by rw[qtY (Ne.symm hl)];exact ho
 have hFn:∀l,F' l→F l∨S.length≤l:=fun l hl=>((a5 l).1 hl).imp id fun hh=>by omega
 have hvf:Gs w F' bound vb (S'.set w (wkO r bf bt fv vb vf' st)):=by
  rcases h3 with hh|⟨l,wr,z1,z2,z3,z4,z5⟩
  ·exact .inl hh
  ·refine .inr ⟨l,wr,(a5 l).2 (.inl z1),z2,z3,hset _ _ z2 (a4 l _ z4 fun a b c hh=>h4 l _ _ _ z3 a b c hh),z5⟩
 obtain ⟨f1,f2,f3,_⟩:=a2.flat;refine ⟨vb,vf,vf',S',F',h1,a1,hw',f1,f2,f3,⟨⟨vb,vf',?_,?_,?_,?_⟩,?_,?_,?_,h.nD,?_,?_⟩,⟨?_,?_⟩,hFn,grow.refl _ _⟩
 ·exact qtZ (by omega)
 ·exact hvf
 ·exact a2.keep fun l o hl ho=>hset _ _ (fun hh=>by subst hh;rcases hFn _ hl with hh|hh;exact h.nF hh;omega) ho
 ·intro l a b c hb a' b' c' hf;rcases h2 with ⟨_,rfl⟩|⟨l0,wr,z1,z2,rfl,z4,z5⟩
  ·rw[a8 rfl] at hf;cases hf;rcases h3 with ⟨_,hh⟩|⟨l1,wr1,y1,y2,y3,y4,y5⟩
   ·rw[hh] at hb;cases hb
   ·rw[y3] at hb;cases hb;have:=glt y4;omega
  ·rw[a9 _ _ _ _ rfl] at hf;cases hf;exact h4 _ _ _ _ hb _ _ _ rfl
 ·exact h.fr.keep fun l o hl ho=>hset _ _ (fun hh=>h.nD (hh ▸ hl)) (by rw[a6 l (h.lt l (.inr hl)) (fun hf=>h.di l hf hl)];exact ho)
 ·rintro l (hl|hl)
  ·have:=a7 l hl;simpa using this
  ·have:=h.lt l (.inr hl);simp;omega
 ·intro hf;rcases hFn _ hf with hh|hh
  ·exact h.nF hh
  ·omega
 ·intro l hl hd;rcases hFn _ hl with hh|hh
  ·exact h.di l hh hd
  ·have:=h.lt l (.inr hd);omega
 ·simp;omega
 ·simp;omega
 ·intro l hl hn;rw[qtY (fun hh=>hn (.inl hh.symm)),a6 l hl fun hf=>hn (.inr hf)]
theorem Rk.flag{r:Rp}{bf bt:Bool}{w:Nat}{fv:V}{bound:List ByteArray}{st:Rst}{F D:Nat→Prop}{S:St}(h:Rk r bf bt w fv bound st F D S)(b c:Bool):
  ∃vb vf,S[w]?=some (wkO r bf bt fv vb vf st)∧vb.cells=[vb]∧vf.cells=[vf]∧Rk r bf bt w fv bound { st with bad:=b,caught:=c } F D (S.set w (wkO r bf bt fv vb vf { st with bad:=b,caught:=c }))∧Stp w F D S F D (S.set w (wkO r bf bt fv vb vf { st with bad:=b,caught:=c })):=by
 obtain ⟨vb,vf,h1,h2,h3,h4⟩:=h.wx;have g:∀l o,l≠w→S[l]?=some o→(S.set w (wkO r bf bt fv vb vf { st with bad:=b,caught:=c }))[l]?=some o:=fun l o hl ho=>by rw[qtY (Ne.symm hl)];exact ho
 refine ⟨vb,vf,h1,h2.flat.1,h3.flat.1,⟨⟨vb,vf,qtZ h.lw,h2.keep fun l o hl=>g l o (fun hh=>h.nF (hh ▸ hl)),h3.keep fun l o hl=>g l o (fun hh=>h.nF (hh ▸ hl)),h4⟩,h.fr.keep fun l o hl=>g l o (fun hh=>h.nD (hh ▸ hl)),fun l hl=>by have:=h.lt l hl;simpa using this,h.nF,h.nD,h.di,by simpa using h.lw⟩,⟨(Kp.refl _ _).set _ (.inl (.inl rfl)),grow.refl _ _,grow.refl _ _⟩⟩
def Nr(w:Nat)(F D:Nat→Prop)(names:List ByteArray)(v:V)(S:St):Prop:=(∃b,v=.sl b (names.map .str))∨∃l wr,Off w F D l∧v=.arr l 0 names.length names.length∧S[l]?=some (.arr (names.map .str) 1 wr)∧wr≤names.length
theorem Nr.step{w:Nat}{F D F' D':Nat→Prop}{names:List ByteArray}{v:V}{S U:St}(h:Nr w F D names v S)(s:Stp w F D S F' D' U):Nr w F' D' names v U:=by
 rcases h with h|⟨l,wr,h2,h3,h4,h5⟩
 ·exact .inl h
 ·exact .inr ⟨l,wr,h2.next (glt h4) s,h3,s.at h2 h4,h5⟩
theorem Nr.rd{w:Nat}{F D:Nat→Prop}{names:List ByteArray}{v:V}{S:St}(h:Nr w F D names v S):Rd v names S:=by
 rcases h with ⟨b,rfl⟩|⟨l,wr,h1,rfl,h4,h5⟩
 ·exact Rd.sl b names S
 ·exact Rd.arr h4 h5
theorem Gw.other{sz n0 w:Nat}{F D:Nat→Prop}{xs:List V}{v:V}{S U:St}(h:Gw sz n0 w F D xs v S)(hk:∀l o,S[l]?=some o→(∀a b c,v=.arr l a b c→U[l]?=some o)):Gw sz n0 w F D xs v U:=by
 rcases h with h|⟨l,wr,h1,h2,h3,h4,h5⟩
 ·exact .inl h
 ·exact .inr ⟨l,wr,h1,h2,h3,hk l _ h4 _ _ _ h3,h5⟩
theorem Gw.rd{n0 w:Nat}{F D:Nat→Prop}{names:List ByteArray}{v:V}{S:St}(h:Gw 1 n0 w F D (names.map .str) v S):Rd v names S:=by
 rcases h with ⟨h1,rfl⟩|⟨l,wr,h1,h2,rfl,h4,h5⟩
 ·rw[List.map_eq_nil_iff] at h1;subst h1;exact Rd.sl true [] S
 ·rw[qt2] at h5 ⊢;exact Rd.arr h4 h5
theorem qnT(s:Sco)(x:ByteArray):isIn x (s.map (·.1))=(Sco.at s x).isSome:=by
 cases h:Sco.at s x with
 | none=>
  rw[qdX.2]
  ·rfl
  intro hm;obtain ⟨e,he,rfl⟩:=qul.1 hm;exact qh9.1 h e he rfl
 | some k=>
  rw[qbA.2]
  ·rfl
  unfold Sco.at at h;rw[qt4] at h;obtain ⟨e,he,_⟩:=h;have h1:=List.find?_some he;simp only[decide_eq_true_eq] at h1;rw[←h1];exact quz (List.mem_of_find?_eq_some he)
def qfn(v u:V):Prop:=∀l a b c,v=.arr l a b c→∀a' b' c',u≠.arr l a' b' c'
structure Ei(r:Rp)(bf bt:Bool)(w:Nat)(fv:V)(bound:List ByteArray)(st:Rst)(F D:Nat→Prop)(S:St)(sc:Scs)(names:List ByteArray)(nv:V)(i:Nat)(hv ov:V)(F' D':Nat→Prop)(U:St):Prop where
 rk:Rk r bf bt w fv (bound++(qad (names.take i) bound.length).map (·.1)) st F' D' U
 st:Stp w F D S F' D' U
 had:Gw 1 S.length w F' D' (((qad (names.take i) bound.length).map (·.1)).map .str) hv U
 out:Gw 2 S.length w F' D' ((Scs.flat sc++qad (names.take i) bound.length).map bndV) ov U
 nr:Nr w F' D' names nv U
 df:qfn hv ov
def EiL(r:Rp)(bf bt:Bool)(w:Nat)(fv:V)(bound:List ByteArray)(st:Rst)(F D:Nat→Prop)(S:St)(sc:Scs)(names:List ByteArray)(nv:V)(j:Nat)(e:Env)(U:St):Prop:=
 ∃(i:Nat) (hv ov:V) (F' D':Nat→Prop),j=names.length - i∧i≤names.length∧Ei r bf bt w fv bound st F D S sc names nv i hv ov F' D' U∧e=[(9,.int .i64 i),(7,hv),(8,ov),(0,.ptr w 0 0 1),(2,nv)]
def EiE(r:Rp)(bf bt:Bool)(w:Nat)(fv:V)(bound:List ByteArray)(st:Rst)(F D:Nat→Prop)(S:St)(sc:Scs)(names:List ByteArray)(nv:V)(e:Env)(U:St):Prop:=
 ∃(hv ov:V) (F' D':Nat→Prop),Ei r bf bt w fv bound st F D S sc names nv names.length hv ov F' D' U∧e.get 8=some ov
theorem qnb(l:Sco):V.weakL (l.map bndV)=l.map bndV:=qcP (fun _=>rfl) l
theorem qiu(r:Rp)(bf bt:Bool)(w:Nat)(fv:V)(bound:List ByteArray)(st:Rst)(F D:Nat→Prop)(S:St)(hk:Rk r bf bt w fv bound st F D S)(b:Bool)(sc:Scs)(names:List ByteArray)(nv:V)(hnr:Nr w F D names nv S)
  (hl:(Scs.flat sc).length+names.length≤100000) (hb:bound.length+names.length≤100000):
  Spec prog 162 [.ptr w 0 0 1,.sl b ((Scs.flat sc).map bndV),nv] S (fun v U=>Rd' w (Rk r bf bt w fv (bound++nms names) st) F D S (.sl false ((Scs.flat (qad names bound.length::sc)).map bndV)) v U):=by
 refine Spec.ib func162 ok162 ?_;have fm:=Rk.frm r bf bt w fv bound st;have hfb:fits 2 ((Scs.flat sc).map bndV)=true:=by simp[fits,bndV,V.size,V.cells,V.flat]
 obtain ⟨ov,S1,ha,hg,hk1,hs1,_⟩:=(Gw.nil 2 S.length w F D S).appF fm (bytes:=24) (x:=.sl b ((Scs.flat sc).map bndV)) hk (Stp.refl _ _ _ _) (qcd _ _ _) hfb (by simp;omega);rw[qut] at hg;have hf0:fits 2 []=true:=rfl;simp[c162,hf0,ha];refine qaz (EiE r bf bt w fv bound st F D S sc names nv) ?_ ?_
 ·refine qar (EiL r bf bt w fv bound st F D S sc names nv) names.length _ ?_ ⟨0,.sl true [],ov,F,D,by simp,by omega,⟨by simpa[qad,binds] using hk1,hs1,by simpa[qad,binds] using Gw.nil 1 S.length w F D S1,by simpa[qad,binds] using hg,hnr.step hs1,fun l a b c hh=>by cases hh⟩,rfl⟩ ?_
  ·exact Env.so (by simp)
  rintro j e U ⟨i,hv,ov,F1,D1,rfl,hi,ei,rfl⟩;obtain ⟨hlen,hrd⟩:=ei.nr.rd;by_cases hlt:i<names.length
  ·obtain ⟨p,hp1,hp2⟩:=hrd i hlt;have hsn:=qbU names[i] (names.take i) bound.length;have hte:names.take i++[names[i]]=names.take (i+1):=by rw[qt9,qtX hlt];rfl
   rw[hte] at hsn;have hbl:=qdu names bound.length (names.length - i) i (by omega);have hbl2:=qk5 names bound.length;have hin:=qqn hv ((qad (names.take i) bound.length).map (·.1)) names[i] U (by rw[qt2];omega) ei.had.rd;rw[qnT] at hin;simp[↓qbm,hlen,hlt,hp1,hp2];refine qai hin ?_
   cases hat:(Sco.at (qad (names.take i) bound.length) names[i]).isSome with
   | true=>
    rw[hat] at hsn;simp only[if_true] at hsn;simp[qaL (n:=(i:Int)+1)];refine ⟨_,?_,_,?_,i+1,hv,ov,F1,D1,rfl,by omega,⟨by rw[hsn];exact ei.rk,ei.st,by rw[hsn];exact ei.had,by rw[hsn];exact ei.out,ei.nr,ei.df⟩,rfl⟩
    ·omega
    ·exact Env.so (by simp)
   | false=>
    rw[hat] at hsn;simp only[quw,if_false] at hsn;have fmi:=Rk.frm r bf bt w fv (bound++(qad (names.take i) bound.length).map (·.1)) st;have hfs:fits 1 [V.str names[i]]=true:=rfl;obtain ⟨hv',U1,a1,a2,a3,a4,a5,a6⟩:=ei.had.app1F fmi (bytes:=16) (b:=true) (y:=.str names[i]) ei.rk ei.st hfs (by simp;omega);have out1:Gw 2 S.length w F1 D1 ((Scs.flat sc++qad (names.take i) bound.length).map bndV) ov U1:=ei.out.other fun l o ho a b c hov=>a5 l o ho fun a' b' c' hh=>ei.df l a' b' c' hh a b c hov
    have nr1:=hnr.step a4;obtain ⟨hlen1,hrd1⟩:=nr1.rd;obtain ⟨p',hq1,hq2⟩:=hrd1 i hlt;obtain ⟨vb,vf,r0,_⟩:=qdq a3
    have hlb:lenS vb=some (.int .i64 (bound.length+(qad (names.take i) bound.length).length:Nat)):=by
     obtain ⟨vb2,vf2,h1,h2,_⟩:=a3.wx;unfold wkO at h1;have:vb=vb2:=by simpa[ldS,h1,h2.flat.1] using r0.symm
     rw[this,h2.flat.2.2.2];simp
    have hfe:fits 2 [bndV (names[i],bound.length+(qad (names.take i) bound.length).length)]=true:=rfl;obtain ⟨ov',U2,b1,b2,b3,b4,b5,b6⟩:=out1.app1F fmi (bytes:=24) (b:=true) (y:=bndV (names[i],bound.length+(qad (names.take i) bound.length).length)) a3 a4 hfe (by simp;omega);have dlt:=a2.lt;have olt:=ei.out.lt;have hlt0:=ei.had.lt
    have df1:qfn hv' ov:=fun l a b c hh a' b' c' ho=>by
     rcases a6 l a b c hh with h1|h1
     ·exact ei.df l _ _ _ h1 a' b' c' ho
     ·have:=olt l a' b' c' ho;omega
    have had2:Gw 1 S.length w F1 D1 (((qad (names.take i) bound.length).map (·.1)).map .str++[.str names[i]]) hv' U2:=a2.other fun l o ho a b c hh=>b5 l o ho fun a' b' c' ho'=>df1 l a b c hh a' b' c' ho'
    have nr2:=hnr.step b4;obtain ⟨hlen2,hrd2⟩:=nr2.rd;obtain ⟨p2,hs1',hs2'⟩:=hrd2 i hlt;obtain ⟨wb,wf,wb',U3,F2,c1,c2,c3,c4,c5,c6,c7,c8,c9⟩:=b3.addB names[i] (by simp;omega) true
    have df2:qfn hv' ov':=fun l a b c hh a' b' c' ho=>by
     rcases b6 l a' b' c' ho with h1|h1
     ·exact df1 l a b c hh _ _ _ h1
     ·have:=dlt l a b c hh;omega
    have hn1:bound++(qad (names.take (i+1)) bound.length).map (·.1)=bound++(qad (names.take i) bound.length).map (·.1)++[names[i]]:=by rw[hsn,quh,qt5];rfl
    have hn2:((qad (names.take (i+1)) bound.length).map (·.1)).map V.str=((qad (names.take i) bound.length).map (·.1)).map .str++[.str names[i]]:=by rw[hsn,quh,quh];rfl
    have hn3:(Scs.flat sc++qad (names.take (i+1)) bound.length).map bndV=(Scs.flat sc++qad (names.take i) bound.length).map bndV++[bndV (names[i],bound.length+(qad (names.take i) bound.length).length)]:=by rw[hsn,←qt5,quh];rfl
    have c1':=c1;have c3':=c3;unfold wkO at c1' c3';have hbu:qal (.agg [.str ⟨⟨[]⟩⟩,.int .i64 0]) [(0,1,.str names[i]),(1,1,.int .i64 ((bound.length+(qad (names.take i) bound.length).length:Nat):Int))]=some (bndV (names[i],bound.length+(qad (names.take i) bound.length).length)):=by simp[qal,qac,bndV]
    have hwb:ldS U2 (.ptr w 0 0 1) none=some wb:=by
     have:wb.cells=wb.cells:=rfl;simp[ldS,c1']
    push_cast at hbu;simp[hp1,hp2,hfs,a1,qbb,↓qbm,hq1,hq2,r0,hlb,qaf,hbu,hfe,b1];refine qbo rfl rfl ?_;simp[qbb,hwb,hs1',hs2',hfs,c2,stS,c3',qac,c4,c5,c6];refine qbo rfl rfl ?_;simp[qaL (n:=(i:Int)+1)];refine ⟨_,?_,_,?_,i+1,hv',ov',F2,D1,rfl,by omega,⟨by rw[hn1];exact c8,b4.trans c9,by rw[hn2];exact had2.step c9,by rw[hn3];exact b2.step c9,hnr.step (b4.trans c9),df2⟩,rfl⟩
    ·omega
    ·exact Env.so (by simp)
  ·have:i=names.length:=by omega
   subst this;simp[↓qbm,hlen];exact ⟨hv,ov,F1,D1,ei,rfl⟩
 rintro e U ⟨hv,ov,F1,D1,ei,g8⟩;simp[g8];have h1:=ei.out;have h2:=ei.rk;rw[qun] at h1 h2;have hnm:(qad names bound.length).map (·.1)=nms names:=by unfold nms;exact qcZ 0 names [] [] _ _ rfl
 rw[hnm] at h2;exact qd2 (Rk.frm r bf bt w fv (bound++nms names) st) rfl h1 h2 ei.st (by rw[←qaI,qnb];rfl)
structure RpOk(r:Rp):Prop where
 le:r.fro.length≤r.to.length
 small:r.to.length≤1000000
theorem qja:∀(fs:List ByteArray) (es:List Ex) (x:ByteArray),(∀f,f∈fs→f≠x)→mtL fs es x=none
 | [],_,_,_=>by simp[mtL]
 | f::fs,[],_,_=>by simp[mtL]
 | f::fs,e::es,x,h=>by
  rw[mtL,if_neg (h f (List.mem_cons_self ..))];exact qja fs es x fun g hg=>h g (qvj _ hg)
theorem qjH:∀(fs:List ByteArray) (es:List Ex) (x:ByteArray) (i:Nat) (hi:i<fs.length) (hj:i<es.length),fs[i]=x→(∀j,(h:j<fs.length)→j<i→fs[j]≠x)→mtL fs es x=some es[i]
 | f::fs,e::es,x,0,_,_,h,_=>by rw[mtL,if_pos (by simpa using h)];rfl
 | f::fs,e::es,x,i+1,hi,hj,h,g=>by
  rw[mtL,if_neg (by have:=g 0 (by simp) (by omega);simpa using this)]
  exact qjH fs es x i (by simpa using hi) (by simpa using hj) (by simpa using h) fun j hj' hji=>by
   have:=g (j+1) (by simpa using hj') (by omega);simpa using this
theorem Rk.put6{r:Rp}{bf bt:Bool}{w:Nat}{fv:V}{bound:List ByteArray}{st:Rst}{F D:Nat→Prop}{S:St}(h:Rk r bf bt w fv bound st F D S)(c:Bool):
  ∃U,stS S (.ptr w 0 6 1) 1 (.bool c)=some U∧Rk r bf bt w fv bound { st with caught:=c } F D U∧Stp w F D S F D U:=by
 obtain ⟨vb,vf,h1,h2,h3,h4,h5⟩:=h.flag st.bad c;refine ⟨_,?_,h4,h5⟩;obtain ⟨_,_,hw,g1,g2,_⟩:=h.wx;rw[hw] at h1;unfold wkO at hw h1 ⊢;simp only[Option.some.injEq,Ob.arr.injEq,List.cons.injEq,V.agg.injEq] at h1;obtain ⟨⟨⟨rfl,rfl,_⟩,_⟩,_⟩:=h1;simp[stS,hw,qac]
theorem Rk.put5{r:Rp}{bf bt:Bool}{w:Nat}{fv:V}{bound:List ByteArray}{st:Rst}{F D:Nat→Prop}{S:St}(h:Rk r bf bt w fv bound st F D S)(c:Bool):
  ∃U,stS S (.ptr w 0 5 1) 1 (.bool c)=some U∧Rk r bf bt w fv bound { st with bad:=c } F D U∧Stp w F D S F D U:=by
 obtain ⟨vb,vf,h1,h2,h3,h4,h5⟩:=h.flag c st.caught;refine ⟨_,?_,h4,h5⟩;obtain ⟨_,_,hw,g1,g2,_⟩:=h.wx;rw[hw] at h1;unfold wkO at hw h1 ⊢;simp only[Option.some.injEq,Ob.arr.injEq,List.cons.injEq,V.agg.injEq] at h1;obtain ⟨⟨⟨rfl,rfl,_⟩,_⟩,_⟩:=h1;simp[stS,hw,qac]
abbrev exZ:V:=.agg [.int .i64 0,.int .i64 0,.int .i64 0,.int .i64 0,.int .i64 0,.str ⟨⟨[]⟩⟩,.sl true []]
theorem qju:exZ.weak=Ex.z.v:=by simp only[exZ,V.weak,V.weakL,Ex.v_eq];rfl
theorem qiR:V.part exZ 0 (some 7)=some exZ:=rfl
theorem qep(y:V)(h:y.size=7)(hf:y.cells.all V.flat=true):V.upd exZ 0 7 y=some y:=by unfold exZ;rw[qac];simp[h,hf]
def useV(r:Rp)(sc:Scs)(x:ByteArray):V:=.tup [.str (match rmt r sc x with|some _=>x|none=>rren r sc x),(match rmt r sc x with|some e=>e.v|none=>Ex.z.v),.bool (rmt r sc x).isSome]
def cgt(e:Ex)(sc:Scs)(k:Nat):Bool:=decide (e.kind=6) && ((Scs.flat sc).take k).any fun p=>decide (p.1=e.text)
theorem qnQ(e:Ex)(sc:Scs):cgt e sc 0=false:=by simp[cgt]
theorem qn2(e:Ex)(sc:Scs)(k:Nat)(h:k<(Scs.flat sc).length):cgt e sc (k+1)=(cgt e sc k || (decide (e.kind=6) && decide ((Scs.flat sc)[k].1=e.text))):=by
 unfold cgt;rw[qt9,qtX h,quB,qvT];simp only[List.any_cons,List.any_nil,Bool.or_false];cases decide (e.kind=6) <;> simp
theorem qnV(e:Ex)(sc:Scs):cgt e sc (Scs.flat sc).length=(decide (e.kind=6) && (Scs.flat sc).any fun p=>decide (p.1=e.text)):=by
 unfold cgt;rw[qun]
theorem qmN(r:Rp)(ho:RpOk r)(bf bt:Bool)(w:Nat)(fv:V)(bound:List ByteArray)(st:Rst)(F D:Nat→Prop)(S:St)(hk:Rk r bf bt w fv bound st F D S)(b:Bool)(sc:Scs)(hd:ScD sc)(hl:(Scs.flat sc).length≤1000000)(x:ByteArray)(hfl:st.free.length≤1000000):
  Spec prog 143 [.ptr w 0 0 1,.sl b ((Scs.flat sc).map bndV),.str x] S (fun v U=>Rd' w (Rk r bf bt w fv bound (ruse r sc x st)) F D S (useV r sc x) v U):=by
 refine Spec.ib func143 ok143 ?_;obtain ⟨S1,hS1⟩:∃S1:St,S1=S++[.arr [exZ] 7 1]:=⟨_,rfl⟩;have fm:=Rk.frm r bf bt w fv bound st;have k1:Rk r bf bt w fv bound st F D S1:=by rw[hS1];exact fm.push hk _
 have s1:Stp w F D S F D S1:=by rw[hS1];exact (Stp.refl _ _ _ _).push _
 have b1:S1[S.length]?=some (.arr [exZ] 7 1):=by rw[hS1];simp
 have o1:Off w F D S.length:=fm.out hk (qt1 _);have fin:∀(st':Rst) (F' D':Nat→Prop) (U:St) (y:ByteArray) (ev:V) (z:Ex) (is:Bool) (e:Env),Rk r bf bt w fv bound st' F' D' U→Stp w F D S F' D' U→U[S.length]?=some (.arr [exZ] 7 1)→Off w F' D' S.length→ev.weak=z.v→
   V.part ev 0 (some 7)=some ev→e.get 6=some (.str y)→e.get 7=some (.ptr S.length 0 0 1)→e.get 8=some (.bool is)→
   endp [.t 6,.cell 7 (some 7),.t 8] S.length (fun v U=>Rd' w (Rk r bf bt w fv bound st') F D S (.tup [.str y,z.v,.bool is]) v U) .ret e (U.set S.length (.arr [ev] 7 1)):=fun st' F' D' U y ev z is e hk' hs' hb ho' hw hp g6 g7 g8=>by
  have hset:(U.set S.length (.arr [ev] 7 1))[S.length]?=some (.arr [ev] 7 1):=qtZ (glt hb);refine ⟨[.str y,ev,.bool is],by simp[rvs,g6,g7,g8,ldS,hset,hp],_,_,qaX.weak,?_,F',D',(Rk.frm r bf bt w fv bound st').set hk' _ ho',hs'.set _ (qt1 _)⟩;simp only[retV,V.weak,V.weakL,hw]
 have hru:ruse r sc x st=match sc.at x with
  | some _=>st
  | none=>{ free:=st.free++[x],bad:=st.bad,caught:=st.caught || (match mt r x with
   | some e=>decide (e.kind=6) && (Scs.flat sc).any fun p=>decide (p.1=e.text)
   | none=>false) }:=rfl
 have hrm:rmt r sc x=match sc.at x with
  | some _=>none
  | none=>mt r x:=rfl
 have hrr:rren r sc x=match sc.at x with
  | some k=>(r.fresh[k]?).getD x
  | none=>x:=rfl
 simp[c143];show qkj _ _ _ (S++[.arr [exZ] 7 1]) _;rw[←hS1];refine qai (qmv _ b x hl S1) ?_;unfold plcV;rw[qic sc x hd]
 cases hat:sc.at x with
 | some k=>
  rw[hat] at hru hrm;simp only at hru hrm;have hu:useV r sc x=.tup [.str (rren r sc x),Ex.z.v,.bool false]:=by unfold useV;rw[hrm];rfl
  rw[hru,hu];have hk0:(0:Int)≤k:=by omega
  simp[hk0];refine qai (qg1 r bf bt w fv bound st F D S1 k1 b sc hd hl x) ?_;have hbu:qal exZ []=some exZ:=rfl;unfold exZ at hbu;simp[qaf,hbu];have hst:stS S1 (.ptr S.length 0 0 1) 7 exZ=some (S1.set S.length (.arr [exZ] 7 1)):=by simp[stS,b1,qep exZ rfl rfl]
  unfold exZ at hst;simp[hst];exact fin st F D S1 (rren r sc x) exZ Ex.z false _ k1 s1 b1 o1 qju qiR rfl rfl rfl
 | none=>
  rw[hat] at hru hrm hrr;simp only at hru hrm hrr;obtain ⟨vb,vf,vf',U1,F1,a1,a2,a3,a4,a5,a6,k2,s2⟩:=k1.addF x (by omega) true;have hfs:fits 1 [V.str x]=true:=rfl;obtain ⟨U2,hU2⟩:∃U2,U2=U1.set w (wkO r bf bt fv vb vf' st):=⟨_,rfl⟩;rw[←hU2] at k2 s2;have hlf:ldS S1 (.ptr w 0 1 1) none=some vf:=by unfold wkO at a1;simp[ldS,a1]
  have hst:stS U1 (.ptr w 0 1 1) 1 vf'=some U2:=by
   rw[hU2];unfold wkO at a3 ⊢;simp[stS,a3,qac,a4,a5,a6]
  have s3:=s1.trans s2;have b2:=s2.at o1 b1;have o2:=o1.next (glt b1) s2;simp[qbb,hlf,hfs,a2,hst];refine qaz (fun e U=>mt r x=none∧U=U2∧e.get 0=some (.ptr w 0 0 1)∧e.get 2=some (.str x)∧e.get 7=some (.ptr S.length 0 0 1)) ?_ ?_
  ·refine qar (fun j e U=>∃i:Nat,j=r.fro.length - i∧i≤r.fro.length∧(∀j,(h:j<r.fro.length)→j<i→r.fro[j]≠x)∧U=U2∧
    e=[(9,.int .i64 i),(0,.ptr w 0 0 1),(1,.sl b ((Scs.flat sc).map bndV)),(2,.str x),(7,.ptr S.length 0 0 1)]) r.fro.length _ ?_ ⟨0,by simp,by omega,by omega,rfl,rfl⟩ ?_
   ·exact Env.so (by simp)
   rintro j e U ⟨i,rfl,hi,hno,rfl,rfl⟩;obtain ⟨_,_,r0,r1,r2,r3,r4,r5,r6⟩:=qdq k2;by_cases hlt:i<r.fro.length
   ·have hia:=qc4 hlt bf U;by_cases heq:r.fro[i]=x
    ·have hj:i<r.to.length:=by have:=ho.le;omega
     have hmt:mt r x=some r.to[i]:=qjH r.fro r.to x i hlt hj heq hno;have hu:useV r sc x=.tup [.str x,r.to[i].v,.bool true]:=by unfold useV;rw[hrm,hmt];rfl
     rw[hu,hru,hmt];rw[heq] at hia;simp[qbb,r3,hlt,hia];obtain ⟨y,hy⟩:∃y,y=r.to[i]:=⟨_,rfl⟩;rw[←hy];refine qaz (fun e U=>∃F' D',Rk r bf bt w fv bound { free:=st.free++[x],bad:=st.bad,caught:=st.caught || cgt y sc (Scs.flat sc).length } F' D' U∧Stp w F D S F' D' U∧U[S.length]?=some (.arr [exZ] 7 1)∧Off w F' D' S.length∧e.get 0=some (.ptr w 0 0 1)∧e.get 2=some (.str x)∧e.get 7=some (.ptr S.length 0 0 1)∧e.get 9=some (.int .i64 i)) ?_ ?_
     ·refine qar (fun j e U=>∃(k:Nat) (F' D':Nat→Prop),j=(Scs.flat sc).length - k∧k≤(Scs.flat sc).length∧Rk r bf bt w fv bound { free:=st.free++[x],bad:=st.bad,caught:=st.caught || cgt y sc k } F' D' U∧Stp w F D S F' D' U∧U[S.length]?=some (.arr [exZ] 7 1)∧Off w F' D' S.length∧
       e=[(10,.int .i64 k),(9,.int .i64 i),(0,.ptr w 0 0 1),(1,.sl b ((Scs.flat sc).map bndV)),(2,.str x),(7,.ptr S.length 0 0 1)]) (Scs.flat sc).length _ ?_ ⟨0,F1,D,by simp,by omega,by rw[qnQ,Bool.or_false];exact k2,s3,b2,o2,rfl⟩ ?_
      ·exact Env.so (by simp)
      rintro j e U ⟨k,F3,D3,rfl,hk',kU,sU,bU,oU,rfl⟩;obtain ⟨_,_,q0,q1,q2,q3,q4,q5,q6⟩:=qdq kU;by_cases hlk:k<(Scs.flat sc).length
      ·have hib:=qrf hlk b U;have hie:=iaEx hj bt U;rw[←hy] at hie;obtain ⟨U4,p1,p2,p3⟩:=kU.put6 (st.caught || cgt y sc (k+1));have hcs:=qn2 y sc k hlk;have hbn:V.part (bndV (Scs.flat sc)[k]) 0 none=some (.str (Scs.flat sc)[k].1):=rfl;have bU4:=p3.at oU bU;have oU4:=oU.next (glt bU) p3;simp only at q6
       cases hc:(st.caught || cgt y sc k) with
       | true=>
        have hc1:(st.caught || cgt y sc (k+1))=true:=by rw[hcs,←Bool.or_assoc,hc,Bool.true_or]
        rw[hc] at q6;rw[hc1] at p1;simp[hlk,qbb,q6,p1];refine qbo rfl rfl ?_;simp[qaL (n:=(k:Int)+1)];refine ⟨_,?_,_,?_,k+1,rfl,by omega,F3,D3,p2,sU.trans p3,bU4,oU4,rfl⟩
        ·omega
        ·exact Env.so (by simp)
       | false=>
        rw[hc] at q6;have hc1:(st.caught || cgt y sc (k+1))=(decide (y.kind=6) && decide ((Scs.flat sc)[k].1=y.text)):=by rw[hcs,←Bool.or_assoc,hc,Bool.false_or]
        rw[hc1] at p1;by_cases h6:y.kind=6
        ·simp[h6] at p1;simp[hlk,qbb,q6,q4,hie,hib,hbn,h6,p1];refine qbo rfl rfl ?_;simp[qaL (n:=(k:Int)+1)];refine ⟨_,?_,_,?_,k+1,rfl,by omega,F3,D3,p2,sU.trans p3,bU4,oU4,rfl⟩
         ·omega
         ·exact Env.so (by simp)
        ·simp[h6] at p1;simp[hlk,qbb,q6,q4,hie,h6,p1];refine qbo rfl rfl ?_;simp[qaL (n:=(k:Int)+1)];refine ⟨_,?_,_,?_,k+1,rfl,by omega,F3,D3,p2,sU.trans p3,bU4,oU4,rfl⟩
         ·omega
         ·exact Env.so (by simp)
      ·have:k=(Scs.flat sc).length:=by omega
       subst this;simp;exact ⟨F3,D3,kU,sU,bU,oU⟩
     rintro e U ⟨F3,D3,kU,sU,bU,oU,g0,g2,g7,g9⟩;obtain ⟨_,_,q0,q1,q2,q3,q4,q5,q6⟩:=qdq kU;have hie:=iaEx hj bt U;rw[←hy] at hie;have hst2:stS U (.ptr S.length 0 0 1) 7 y.v=some (U.set S.length (.arr [y.v] 7 1)):=by simp[stS,bU,qep y.v (Ex.v_size y) (by simp)]
     simp[g0,g2,g7,g9,qbb,q4,hie,hst2];refine qbo rfl rfl ?_;rw[qnV] at kU;simp;exact fin _ F3 D3 U x y.v y true _ kU sU bU oU (Ex.v_weak y) (qgF y) rfl g7 rfl
    ·simp[qbb,r3,hlt,hia,heq,qaA (n:=(i:Int)+1) (by have:=ho.le;have:=ho.small;omega) (by have:=ho.le;have:=ho.small;omega)];refine ⟨_,?_,_,?_,i+1,rfl,by omega,fun j hj hji=>?_,rfl⟩
     ·omega
     ·exact Env.so (by simp)
     ·by_cases hj':j=i
      ·subst hj';exact heq
      ·exact hno j hj (by omega)
   ·simp[qbb,r3,hlt];refine qja _ _ _ fun f hf=>?_
    obtain ⟨j,hj,rfl⟩:=qu1 hf;exact hno j hj (by omega)
  rintro e U ⟨hmt,rfl,g0,g2,g7⟩;have hu:useV r sc x=.tup [.str x,Ex.z.v,.bool false]:=by unfold useV;rw[hrm,hmt,hrr];rfl
  rw[hmt] at hru;simp only[Bool.or_false] at hru;rw[hu,hru];have hbu:qal exZ []=some exZ:=rfl;have hst2:stS U (.ptr S.length 0 0 1) 7 exZ=some (U.set S.length (.arr [exZ] 7 1)):=by simp[stS,b2,qep exZ rfl rfl]
  unfold exZ at hbu hst2;simp[g2,g7,qaf,hbu,hst2];exact fin _ F1 D U x exZ Ex.z false _ k2 s3 b2 o2 qju qiR rfl g7 rfl
theorem qiM(r:Rp)(sc:Scs)(x:ByteArray)(st:Rst):(ruse r sc x st).free.length≤st.free.length+1:=by
 unfold ruse;cases sc.at x <;> simp
theorem qcS(r:Rp)(sc:Scs)(x:ByteArray)(st:Rst):(qbl r sc x st).free.length≤st.free.length+1:=qiM r sc x st
theorem qcm{α:Type}(f:α→Pa)(l:List α)(i:Nat)(h:i<l.length):qaB ((l.take i).map f)+(f l[i]).size≤qaB (l.map f):=by
 have h1:=quF i l;rw[qvp h] at h1;have h2:=congrArg (fun m=>qaB (m.map f)) h1;simp only[quh,qud,qa2,sizes_cons] at h2;omega
mutual
theorem Ex.rs_len(r:Rp)(sc:Scs):∀(x:Ex) (st:Rst),(x.rs r sc st).free.length≤st.free.length+(Pa.ex x).size
 | .mk k o n m e t a,st=>by
  have hsz:(Pa.ex (.mk k o n m e t a)).size=1+qaB (a.map Pa.ex):=by rw[Pa.size_eq];rfl
  rw[Ex.rs];split
  ·have:=qiM r sc t st;omega
  ·have h1:=Ex.rsl_len r sc a (if k=7∨k=8 then qbl r sc t st else st)
   have h2:(if k=7∨k=8 then qbl r sc t st else st).free.length≤st.free.length+1:=by
    split
    ·exact qcS r sc t st
    ·omega
   omega
theorem Ex.rsl_len(r:Rp)(sc:Scs):∀(l:List Ex) (st:Rst),(Ex.rsl r sc st l).free.length≤st.free.length+qaB (l.map Pa.ex)
 | [],st=>by simp[Ex.rsl]
 | x::l,st=>by
  have h1:=Ex.rs_len r sc x st;have h2:=Ex.rsl_len r sc l (x.rs r sc st);simp only[Ex.rsl,qud,sizes_cons];omega
end
theorem qnr(r:Rp)(ho:RpOk r)(bf bt:Bool)(w:Nat)(fv:V)(bound:List ByteArray)(st:Rst)(F D:Nat→Prop)(S:St)(hk:Rk r bf bt w fv bound st F D S)(b:Bool)(sc:Scs)(hd:ScD sc)(hl:(Scs.flat sc).length≤1000000)(x:ByteArray)(hfl:st.free.length≤1000000):
  Spec prog 144 [.ptr w 0 0 1,.sl b ((Scs.flat sc).map bndV),.str x] S (fun v U=>Rd' w (Rk r bf bt w fv bound (qbl r sc x st)) F D S (.str (qb4 r sc x)) v U):=by
 refine Spec.ib func144 ok144 ?_;have hS:qbl r sc x st={ ruse r sc x st with bad:=(ruse r sc x st).bad || (match rmt r sc x with|some e=>!decide (e.kind=6)|none=>false) }:=rfl;have hT:qb4 r sc x=match rmt r sc x with|some e=>if e.kind=6 then e.text else x|none=>rren r sc x:=rfl
 rw[hS,hT];simp[c144];refine qan (qmN r ho bf bt w fv bound st F D S hk b sc hd hl x hfl) ?_;rintro v U ⟨rfl,F1,D1,k1,s1⟩;generalize ruse r sc x st=st1 at k1 ⊢;unfold useV
 cases hm:rmt r sc x with
 | some e=>
  obtain ⟨U2,hU2⟩:∃U2,U2=U++[.arr [e.v] 7 1]:=⟨_,rfl⟩;have k2:Rk r bf bt w fv bound st1 F1 D1 U2:=by rw[hU2];exact (Rk.frm _ _ _ _ _ _ _).push k1 _
  have s2:Stp w F D S F1 D1 U2:=by rw[hU2];exact s1.push _
  have c2:U2[U.length]?=some (.arr [e.v] 7 1):=by rw[hU2];simp
  simp[boxS,evX,stS,qac];rw[←hU2];by_cases h6:e.kind=6
  ·simp[ldS,c2,h6];exact qaj rfl ⟨rfl,F1,D1,k2,s2⟩
  ·obtain ⟨_,_,q0,q1,q2,q3,q4,q5,q6⟩:=qdq k2;obtain ⟨U3,p1,p2,p3⟩:=k2.put5 true;have h0:ldS U2 (.ptr U.length 0 0 1) none=some (.int .i64 e.kind):=by simp[ldS,c2]
   have hb:(st1.bad || !decide (e.kind=6))=true:=by simp[h6]
   rw[hb]
   cases hbad:st1.bad with
   | true=>
    rw[hbad] at q5;simp[h0,h6,qbb,q5,p1];exact qaj rfl ⟨rfl,F1,D1,p2,s2.trans p3⟩
   | false=>
    rw[hbad] at q5;simp[h0,h6,qbb,q5,p1];exact qaj rfl ⟨rfl,F1,D1,p2,s2.trans p3⟩
 | none=>
  obtain ⟨U2,hU2⟩:∃U2,U2=U++[.arr [Ex.z.v] 7 1]:=⟨_,rfl⟩;have k2:Rk r bf bt w fv bound st1 F1 D1 U2:=by rw[hU2];exact (Rk.frm _ _ _ _ _ _ _).push k1 _
  have s2:Stp w F D S F1 D1 U2:=by rw[hU2];exact s1.push _
  simp[boxS,evX,stS,qac];rw[←hU2];obtain ⟨_,_,q0,q1,q2,q3,q4,q5,q6⟩:=qdq k2;obtain ⟨U3,p1,p2,p3⟩:=k2.put5 st1.bad
  cases hbad:st1.bad with
  | true=>
   rw[hbad] at q5 p1 p2;simp[qbb,q5,p1];exact qaj rfl ⟨rfl,F1,D1,p2,s2.trans p3⟩
  | false=>
   rw[hbad] at q5 p1 p2;simp[qbb,q5,p1];exact qaj rfl ⟨rfl,F1,D1,p2,s2.trans p3⟩
def P92(r:Rp)(bf bt:Bool)(w:Nat)(fv:V)(x:Ex):Prop:=∀(bound:List ByteArray) (st:Rst) (F D:Nat→Prop) (S:St) (b:Bool) (sc:Scs),Rk r bf bt w fv bound st F D S→ScD sc→(Scs.flat sc).length≤1000000→st.free.length+(Pa.ex x).size≤1000000→
 Spec prog 92 [.ptr w 0 0 1,x.v,.sl b ((Scs.flat sc).map bndV)] S (fun v U=>Rd' w (Rk r bf bt w fv bound (x.rs r sc st)) F D S (x.rw r sc).v v U)
theorem qfY(r:Rp)(bf bt:Bool)(w:Nat)(fv:V)(l:List Ex)(H:∀x,x∈l→P92 r bf bt w fv x)(hl:l.length≤4000)(bound:List ByteArray)(st:Rst)(F D:Nat→Prop)(S:St)(bl b:Bool)(sc:Scs)(hk:Rk r bf bt w fv bound st F D S)(hd:ScD sc)(hf:(Scs.flat sc).length≤1000000)(hs:st.free.length+qaB (l.map Pa.ex)≤1000000):
  Spec prog 145 [.ptr w 0 0 1,.sl bl (l.map Ex.v),.sl b ((Scs.flat sc).map bndV)] S (fun v U=>Rd' w (Rk r bf bt w fv bound (Ex.rsl r sc st l)) F D S (.sl false ((Ex.rwl r sc l).map Ex.v)) v U):=by
 refine Spec.ib func145 ok145 ?_;simp[c145];refine qaz (WwF w 7 F D S (Rk r bf bt w fv bound (Ex.rsl r sc st l)) 7 ((Ex.rwl r sc l).map Ex.v)) ?_ ?_
 ·refine qar (LwF w 7 F D S l.length (fun i=>Rk r bf bt w fv bound (Ex.rsl r sc st (l.take i))) (fun i=>(Ex.rwl r sc (l.take i)).map Ex.v)
   (fun i gv=>[(8,.int .i64 i),(7,gv),(0,.ptr w 0 0 1),(1,.sl bl (l.map Ex.v)),(2,.sl b ((Scs.flat sc).map bndV))])) l.length _ ?_ ⟨0,_,F,D,by simp,by omega,Gw.nil _ _ _ _ _ _,hk,Stp.refl _ _ _ _,rfl⟩ ?_
  ·exact Env.so (by simp)
  rintro j e U ⟨i,gv,F1,D1,rfl,hi,hg,hk1,hs1,rfl⟩;dsimp only at hg hk1;by_cases hlt:i<l.length
  ·have hst:=qcm Pa.ex l i hlt;have hrl:=Ex.rsl_len r sc (l.take i) st;simp[hlt,iaEx];refine qan (H l[i] (qt7 hlt) bound _ F1 D1 U b sc hk1 hd hf (by omega)) ?_;rintro v U2 ⟨rfl,F2,D2,hk2,hs2⟩;have hg2:=hg.step hs2;have hs3:=hs1.trans hs2;obtain ⟨v',U3,ha,hg3,hk3,hs4,_⟩:=hg2.app1F (Rk.frm r bf bt w fv bound _) (bytes:=80) (b:=true) hk2 hs3 (Ex.fits1 (l[i].rw r sc)) (by rw[qt2,Ex.rwl_map,qt2,quW];omega)
   have hn:(Ex.rwl r sc (l.take i)).map Ex.v++[(l[i].rw r sc).v]=(Ex.rwl r sc (l.take (i+1))).map Ex.v:=by
    rw[Ex.rwl_map,Ex.rwl_map,qt9,qtX hlt,quB,quh,quh];rfl
   have hn2:Ex.rs r sc (Ex.rsl r sc st (l.take i)) l[i]=Ex.rsl r sc st (l.take (i+1)):=by
    rw[qt9,qtX hlt,quB,Ex.rsl_append];rfl
   rw[hn] at hg3;rw[hn2] at hk3;simp[Ex.fits1,ha,qaL (n:=(i:Int)+1)];refine ⟨_,?_,_,?_,i+1,v',F2,D2,rfl,by omega,hg3,hk3,hs4,rfl⟩
   ·omega
   ·exact Env.so (by simp)
  ·have:i=l.length:=by omega
   subst this;simp only[qun] at hg hk1;simp;exact ⟨gv,F1,D1,rfl,hg,hk1,hs1⟩
 rintro e U ⟨gv,F1,D1,g9,hg,hk1,hs1⟩;simp[g9];exact qd2 (Rk.frm _ _ _ _ _ _ _) rfl hg hk1 hs1 (by rw[←qaI,wEx])
theorem Ex.rs_eq(r:Rp)(sc:Scs)(st:Rst)(x:Ex):x.rs r sc st=if x.kind=6 then ruse r sc x.text st else Ex.rsl r sc (if x.kind=7∨x.kind=8 then qbl r sc x.text st else st) x.args:=by cases x;rw[Ex.rs];rfl
theorem Ex.rw_eq(r:Rp)(sc:Scs)(x:Ex):x.rw r sc=if x.kind=6 then (match rmt r sc x.text with
  | some y=>y
  | none=>.mk 6 0 0 0 0 (rren r sc x.text) [])
 else .mk x.kind x.op x.n x.man x.exp (if x.kind=7∨x.kind=8 then qb4 r sc x.text else x.text) (Ex.rwl r sc x.args):=by cases x;rw[Ex.rw];rfl
def qhu(t:ByteArray):V:=.agg [.int .i64 6,.int .i64 0,.int .i64 0,.int .i64 0,.int .i64 0,.str t,.sl true []]
theorem qkK(t:ByteArray):qal exZ [(0,1,.int .i64 6),(5,1,.str t)]=some (qhu t):=by
 unfold qhu;simp[qal,qac]
theorem qnd(t:ByteArray):(qhu t).weak=(Ex.mk 6 0 0 0 0 t []).v:=by
 simp only[qhu,V.weak,V.weakL,Ex.v_eq];rfl
theorem qo8(r:Rp)(ho:RpOk r)(bf bt:Bool)(w:Nat)(fv:V):∀(m:Nat) (x:Ex),(Pa.ex x).size≤m→m≤4000→P92 r bf bt w fv x
 | 0,x,hx,_=>by have:=(Pa.ex x).size_pos;omega
 | m+1,x,hx,hm=>by
  intro bound st F D S b sc hk hd hf hfr;have hsz:(Pa.ex x).size=1+qaB (x.args.map Pa.ex):=by rw[Pa.size_eq];rfl
  have hl:x.args.length≤4000:=by have:=qaP (x.args.map Pa.ex);rw[qt2] at this;omega
  have IH:∀y,y∈x.args→P92 r bf bt w fv y:=fun y hy=>qo8 r ho bf bt w fv m y (by
   obtain ⟨i,hi⟩:=qux (quz (f:=Pa.ex) hy);have:=qaW hi;omega) (by omega)
  refine Spec.ib func92 ok92 ?_;obtain ⟨S1,hS1⟩:∃S1:St,S1=S++[.arr [x.v] 7 1,.arr [exZ] 7 1]:=⟨_,rfl⟩;have b0:S1[S.length]?=some (.arr [x.v] 7 1):=by rw[hS1,qtW (by omega)];simp
  have b1:S1[S.length+1]?=some (.arr [exZ] 7 1):=by rw[hS1,qtW (by omega)];simp
  have l1:S1.length=S.length+2:=by rw[hS1];simp
  have fm:=fun bo s=>Rk.frm r bf bt w fv bo s
  have k1:Rk r bf bt w fv bound st F D S1:=by rw[hS1];exact (fm _ _).push hk _
  have s1:Stp w F D S F D S1:=by rw[hS1];exact (Stp.refl _ _ _ _).push _
  have o0:Off w F D S.length:=(fm _ _).out hk (qt1 _);have o1:Off w F D (S.length+1):=(fm _ _).out hk (by omega);have h0:ldS S1 (.ptr S.length 0 0 1) none=some (.int .i64 x.kind):=by simp[ldS,b0]
  have h5:ldS S1 (.ptr S.length 0 5 1) none=some (.str x.text):=by simp[ldS,b0]
  rw[Ex.rs_eq,Ex.rw_eq];have fin:∀(st':Rst) (F' D':Nat→Prop) (U:St) (z:Ex) (o:V) (e:Env),Rk r bf bt w fv bound st' F' D' U→Stp w F D S F' D' U→U[S.length+1]?=some (.arr [exZ] 7 1)→Off w F' D' (S.length+1)→o.weak=z.v→V.part o 0 (some 7)=some o→e.get 6=some (.ptr (S.length+1) 0 0 1)→
    endp [.cell 6 (some 7)] S.length (fun v U=>Rd' w (Rk r bf bt w fv bound st') F D S z.v v U) .ret e (U.set (S.length+1) (.arr [o] 7 1)):=fun st' F' D' U z o e hk' hs' hb ho' hw hp g6=>by
   have hset:(U.set (S.length+1) (.arr [o] 7 1))[S.length+1]?=some (.arr [o] 7 1):=qtZ (glt hb);refine ⟨[o],by simp[rvs,g6,ldS,hset,hp],_,_,qaX.weak,?_,F',D',(fm _ _).set hk' _ ho',hs'.set _ (by omega)⟩;simp only[retV,hw]
  simp[c92,boxS];rw[←hS1];by_cases h6:x.kind=6
  ·rw[if_pos h6,if_pos h6];simp[h0,h5,h6];refine qan (qmN r ho bf bt w fv bound st F D S1 k1 b sc hd hf x.text (by omega)) ?_;rintro v U ⟨rfl,F1,D1,k2,s2⟩;have c1:=s2.at o1 b1;have p1:=o1.next (glt b1) s2;have s2':=s1.trans s2;unfold useV
   cases hmt:rmt r sc x.text with
   | some y=>
    obtain ⟨U2,hU2⟩:∃U2,U2=U++[.arr [y.v] 7 1]:=⟨_,rfl⟩;have k3:=(fm _ _).push k2 [.arr [y.v] 7 1];have s3:=s2'.push [.arr [y.v] 7 1];have d1:U2[S.length+1]?=some (.arr [exZ] 7 1):=by rw[hU2];exact gp c1
    have c2:U2[U.length]?=some (.arr [y.v] 7 1):=by rw[hU2];simp
    rw[←hU2] at k3 s3;have hst:stS U2 (.ptr (S.length+1) 0 0 1) 7 y.v=some (U2.set (S.length+1) (.arr [y.v] 7 1)):=by simp[stS,d1,qep y.v (Ex.v_size y) (by simp)]
    have hld:ldS U2 (.ptr U.length 0 0 1) (some 7)=some y.v:=by simp[ldS,c2]
    simp[boxS,evX,stS,qac];rw[←hU2];simp[hld,hst];exact fin _ F1 D1 U2 y y.v _ k3 s3 d1 p1 (Ex.v_weak y) (qgF y) rfl
   | none=>
    obtain ⟨U2,hU2⟩:∃U2,U2=U++[.arr [Ex.z.v] 7 1]:=⟨_,rfl⟩;have k3:=(fm _ _).push k2 [.arr [Ex.z.v] 7 1];have s3:=s2'.push [.arr [Ex.z.v] 7 1];have d1:U2[S.length+1]?=some (.arr [exZ] 7 1):=by rw[hU2];exact gp c1
    rw[←hU2] at k3 s3;have hbu:=qkK (rren r sc x.text);have hst:stS U2 (.ptr (S.length+1) 0 0 1) 7 (qhu (rren r sc x.text))=some (U2.set (S.length+1) (.arr [qhu (rren r sc x.text)] 7 1)):=by simp[stS,d1,qep (qhu (rren r sc x.text)) rfl rfl]
    simp[boxS,evX,stS,qac];rw[←hU2];simp[qaf,hbu];simp[hst];exact fin _ F1 D1 U2 _ (qhu (rren r sc x.text)) _ k3 s3 d1 p1 (qnd _) rfl rfl
  ·rw[if_neg h6,if_neg h6];obtain ⟨S2,hS2⟩:∃S2:St,S2=S1++[.arr [x.v] 7 1]:=⟨_,rfl⟩;have k2:Rk r bf bt w fv bound st F D S2:=by rw[hS2];exact (fm _ _).push k1 _
   have s2:Stp w F D S F D S2:=by rw[hS2];exact s1.push _
   have d0:S2[S.length]?=some (.arr [x.v] 7 1):=by rw[hS2];exact gp b0
   have d1:S2[S.length+1]?=some (.arr [exZ] 7 1):=by rw[hS2];exact gp b1
   have d2:S2[S.length+2]?=some (.arr [x.v] 7 1):=by rw[hS2,qtW (by omega)];simp[l1]
   have o2:Off w F D (S.length+2):=(fm _ _).out hk (by omega);have hld:ldS S1 (.ptr S.length 0 0 1) (some 7)=some x.v:=by simp[ldS,b0]
   have rest:∀(st':Rst) (F' D':Nat→Prop) (U:St) (y:Ex),y.kind=x.kind→y.op=x.op→y.n=x.n→y.man=x.man→y.exp=x.exp→st'.free.length≤st.free.length+1→Rk r bf bt w fv bound st' F' D' U→Stp w F D S F' D' U→U[S.length+1]?=some (.arr [exZ] 7 1)→U[S.length+2]?=some (.arr [y.v] 7 1)→
     Off w F' D' (S.length+1)→Off w F' D' (S.length+2)→∀(Φ:V→St→Prop),(∀(U2 U3 U4:St) (z:Ex),stS U2 (.ptr (S.length+2) 0 6 1) 1 (.sl false ((Ex.rwl r sc x.args).map Ex.v))=some U3→ldS U3 (.ptr (S.length+2) 0 0 1) (some 7)=some z.v→stS U3 (.ptr (S.length+1) 0 0 1) 7 z.v=some U4→
      (∀e:Env,e.get 6=some (.ptr (S.length+1) 0 0 1)→endp [.cell 6 (some 7)] S.length (fun v U=>Rd' w (Rk r bf bt w fv bound (Ex.rsl r sc st' x.args)) F D S (Ex.mk x.kind x.op x.n x.man x.exp y.text (Ex.rwl r sc x.args)).v v U) .ret e U4)→Φ (.sl false ((Ex.rwl r sc x.args).map Ex.v)) U2)→
     qkj prog 145 [.ptr w 0 0 1,.sl false (x.args.map Ex.v),.sl b ((Scs.flat sc).map bndV)] U Φ:=by
    intro st' F' D' U y y1 y2 y3 y4 y5 hfr' kU sU e1 e2 po1 po2 Φ hΦ;refine qan (qfY r bf bt w fv x.args IH hl bound st' F' D' U false b sc kU hd hf (by omega)) ?_;rintro v U2 ⟨rfl,F2,D2,k3,s3⟩;have f1:=s3.at po1 e1;have f2:=s3.at po2 e2;have po1':=po1.next (glt e1) s3;have po2':=po2.next (glt e2) s3;obtain ⟨z,hz⟩:∃z:Ex,z=.mk x.kind x.op x.n x.man x.exp y.text (Ex.rwl r sc x.args):=⟨_,rfl⟩
    have hst:stS U2 (.ptr (S.length+2) 0 6 1) 1 (.sl false ((Ex.rwl r sc x.args).map Ex.v))=some (U2.set (S.length+2) (.arr [z.v] 7 1)):=by
     simp[stS,f2,qf7,qac,y1,y2,y3,y4,y5,hz];rw[Ex.v_eq];rfl
    have hld2:ldS (U2.set (S.length+2) (.arr [z.v] 7 1)) (.ptr (S.length+2) 0 0 1) (some 7)=some z.v:=by
     have:(U2.set (S.length+2) (.arr [z.v] 7 1))[S.length+2]?=some (.arr [z.v] 7 1):=qtZ (glt f2);simp[ldS,this]
    have e1':(U2.set (S.length+2) (.arr [z.v] 7 1))[S.length+1]?=some (.arr [exZ] 7 1):=by rw[qtY (by omega)];exact f1
    have hst2:stS (U2.set (S.length+2) (.arr [z.v] 7 1)) (.ptr (S.length+1) 0 0 1) 7 z.v=some ((U2.set (S.length+2) (.arr [z.v] 7 1)).set (S.length+1) (.arr [z.v] 7 1)):=by simp[stS,e1',qep z.v (Ex.v_size z) (by simp)]
    refine hΦ _ _ _ z hst hld2 hst2 fun e g6=>?_
    rw[←hz];exact fin _ F2 D2 _ z z.v _ ((fm _ _).set k3 _ po2') ((sU.trans s3).set _ (by omega)) e1' po1' (Ex.v_weak z) (qgF z) g6
   simp[h0,h6,hld,boxS,evX,stS,qac];rw[←hS2];have h0':ldS S2 (.ptr S.length 0 0 1) none=some (.int .i64 x.kind):=by simp[ldS,d0]
   have h5':ldS S2 (.ptr S.length 0 5 1) none=some (.str x.text):=by simp[ldS,d0]
   have h6':ldS S2 (.ptr S.length 0 6 1) none=some (.sl false (x.args.map Ex.v)):=by simp[ldS,d0]
   by_cases h78:x.kind=7∨x.kind=8
   ·rw[if_pos h78,if_pos h78];have q:=qnr r ho bf bt w fv bound st F D S2 k2 b sc hd hf x.text (by omega)
    have hc:decide (x.kind=7)=true∨(decide (x.kind=7)=false∧decide (x.kind=8)=true):=by
     by_cases h7:x.kind=7
     ·exact .inl (by simp[h7])
     ·exact .inr ⟨by simp[h7],by simp[h78.resolve_left h7]⟩
    rcases hc with hc|⟨hc,hc2⟩
    all_goals
     simp only[decide_eq_true_eq,decide_eq_false_iff_not] at hc
     try simp only[decide_eq_true_eq] at hc2
     first
      | simp[h0',h5',hc,hc2,l1]
      | simp[h0',h5',hc,l1]
     refine qan q ?_
     rintro v U ⟨rfl,F1,D1,k3,s3⟩
     have e0:=s3.at o0 d0
     have e1:=s3.at o1 d1
     have e2:=s3.at o2 d2
     have po0:=o0.next (glt d0) s3
     have po1:=o1.next (glt d1) s3
     have po2:=o2.next (glt d2) s3
     obtain ⟨y,hy⟩:∃y:Ex,y=.mk x.kind x.op x.n x.man x.exp (qb4 r sc x.text) x.args:=⟨_,rfl⟩
     have hst:stS U (.ptr (S.length+2) 0 5 1) 1 (.str (qb4 r sc x.text))=some (U.set (S.length+2) (.arr [y.v] 7 1)):=by
      simp[stS,e2,qf7,qac,hy];rw[Ex.v_eq];rfl
     have e0':(U.set (S.length+2) (.arr [y.v] 7 1))[S.length]?=some (.arr [x.v] 7 1):=by rw[qtY (by omega)];exact e0
     have e1':(U.set (S.length+2) (.arr [y.v] 7 1))[S.length+1]?=some (.arr [exZ] 7 1):=by rw[qtY (by omega)];exact e1
     have e2':(U.set (S.length+2) (.arr [y.v] 7 1))[S.length+2]?=some (.arr [y.v] 7 1):=qtZ (glt e2)
     have k4:=(fm _ _).set k3 (.arr [y.v] 7 1) po2
     have s4:=(s2.trans s3).set (l:=S.length+2) (.arr [y.v] 7 1) (by omega)
     have ha:ldS (U.set (S.length+2) (.arr [y.v] 7 1)) (.ptr S.length 0 6 1) none=some (.sl false (x.args.map Ex.v)):=by simp[ldS,e0']
     simp[hst,ha]
     have hr:=qcS r sc x.text st
     refine rest _ F1 D1 _ y (by rw[hy];rfl) (by rw[hy];rfl) (by rw[hy];rfl) (by rw[hy];rfl) (by rw[hy];rfl) hr k4 s4 e1' e2' po1 po2 _ ?_
     intro U2 U3 U4 z a1 a2 a3 a4
     have hyt:y.text=qb4 r sc x.text:=by rw[hy];rfl
     rw[hyt] at a4
     simp[a1,a2,a3]
     first
      | exact a4 _ rfl
      | (simp only[hc2] at a4;exact a4 _ rfl)
      | (simp only[hc] at a4;exact a4 _ rfl)
   ·rw[if_neg h78,if_neg h78];have h7:x.kind≠7:=fun hh=>h78 (.inl hh)
    have h8:x.kind≠8:=fun hh=>h78 (.inr hh)
    simp[h0',h7,h8,h6'];refine rest st F D S2 x rfl rfl rfl rfl rfl (by omega) k2 s2 d1 d2 o1 o2 _ ?_;intro U2 U3 U4 z a1 a2 a3 a4;simp[l1,a1,a2,a3];exact a4 _ rfl
theorem qkC(l:List Ex)(i:Nat)(h:i<l.length):qeU (l.take (i+1))=(qeU (l.take i) || (decide (l[i].kind≠6) && decide (l[i].kind≠7))):=by
 unfold qeU;rw[qt9,qtX h,quB,qvT];simp
theorem qfe(r:Rp)(ho:RpOk r)(bf bt:Bool)(w:Nat)(fv:V)(l:List Ex)(hl:qaB (l.map Pa.ex)≤4000)(bound:List ByteArray)(st:Rst)(F D:Nat→Prop)(S:St)(bl b:Bool)(sc:Scs)(hk:Rk r bf bt w fv bound st F D S)(hd:ScD sc)(hf:(Scs.flat sc).length≤1000000)(hs:st.free.length+qaB (l.map Pa.ex)≤1000000):
  Spec prog 145 [.ptr w 0 0 1,.sl bl (l.map Ex.v),.sl b ((Scs.flat sc).map bndV)] S (fun v U=>Rd' w (Rk r bf bt w fv bound (Ex.rsl r sc st l)) F D S (.sl false ((Ex.rwl r sc l).map Ex.v)) v U):=
 qfY r bf bt w fv l (fun x hx=>qo8 r ho bf bt w fv 4000 x (by
  obtain ⟨i,hi⟩:=qux (quz (f:=Pa.ex) hx);have:=qaW hi;omega) (qt1 _)) (by have:=qaP (l.map Pa.ex);rw[qt2] at this;omega) bound st F D S bl b sc hk hd hf hs
theorem qpJ(r:Rp)(ho:RpOk r)(bf bt:Bool)(w:Nat)(fv:V)(l:List Ex)(hl:qaB (l.map Pa.ex)≤4000)(bound:List ByteArray)(st:Rst)(F D:Nat→Prop)(S:St)(bl b:Bool)(sc:Scs)(hk:Rk r bf bt w fv bound st F D S)(hd:ScD sc)(hf:(Scs.flat sc).length≤1000000)(hs:st.free.length+qaB (l.map Pa.ex)≤1000000):
  Spec prog 231 [.ptr w 0 0 1,.sl bl (l.map Ex.v),.sl b ((Scs.flat sc).map bndV)] S (fun v U=>Rd' w (Rk r bf bt w fv bound (tgS r sc st l)) F D S (.sl false ((Ex.rwl r sc l).map Ex.v)) v U):=by
 refine Spec.ib func231 ok231 ?_;have hll:l.length≤4000:=by have:=qaP (l.map Pa.ex);rw[qt2] at this;omega
 simp[c231];refine qan (qfe r ho bf bt w fv l hl bound st F D S bl b sc hk hd hf hs) ?_;rintro v U ⟨rfl,F1,D1,k1,s1⟩;have hT:tgS r sc st l={ Ex.rsl r sc st l with bad:=(Ex.rsl r sc st l).bad || qeU (Ex.rwl r sc l) }:=rfl;rw[hT];obtain ⟨st1,hst1⟩:∃st1,st1=Ex.rsl r sc st l:=⟨_,rfl⟩;obtain ⟨o,ho'⟩:∃o,o=Ex.rwl r sc l:=⟨_,rfl⟩;have hol:o.length=l.length:=by rw[ho',Ex.rwl_map,qt2]
 rw[←hst1] at k1 ⊢;rw[←ho'];simp;refine qaz (fun e U=>Rk r bf bt w fv bound { st1 with bad:=st1.bad || qeU o } F1 D1 U∧Stp w F D S F1 D1 U∧e.get 7=some (.sl false (o.map Ex.v))) ?_ ?_
 ·refine qar (fun j e U=>∃i:Nat,j=o.length - i∧i≤o.length∧Rk r bf bt w fv bound { st1 with bad:=st1.bad || qeU (o.take i) } F1 D1 U∧Stp w F D S F1 D1 U∧
   e=[(8,.int .i64 i),(7,.sl false (o.map Ex.v)),(0,.ptr w 0 0 1)]) o.length _ ?_ ⟨0,by simp,by omega,by simpa[qeU] using k1,s1,rfl⟩ ?_
  ·exact Env.so (by simp)
  rintro j e U ⟨i,rfl,hi,hk1,hs1,rfl⟩;by_cases hlt:i<o.length
  ·have hia:=iaEx hlt false U;obtain ⟨_,_,q0,q1,q2,q3,q4,q5,q6⟩:=qdq hk1;obtain ⟨U2,p1,p2,p3⟩:=hk1.put5 (st1.bad || qeU (o.take (i+1)));have ht:=qkC o i hlt;simp only at q5
   cases hb:st1.bad || qeU (o.take i) with
   | true=>
    have hb1:(st1.bad || qeU (o.take (i+1)))=true:=by rw[ht,←Bool.or_assoc,hb,Bool.true_or]
    rw[hb] at q5;rw[hb1] at p1;simp[hlt,qbb,q5,p1,qaL (n:=(i:Int)+1)];refine ⟨_,?_,_,?_,i+1,rfl,by omega,p2,hs1.trans p3,rfl⟩
    ·omega
    ·exact Env.so (by simp)
   | false=>
    have hb1:(st1.bad || qeU (o.take (i+1)))=(decide (o[i].kind≠6) && decide (o[i].kind≠7)):=by rw[ht,←Bool.or_assoc,hb,Bool.false_or]
    rw[hb] at q5;rw[hb1] at p1;by_cases h6:o[i].kind=6
    ·simp[h6] at p1;simp[hlt,qbb,q5,hia,h6,p1,qaL (n:=(i:Int)+1)];refine ⟨_,?_,_,?_,i+1,rfl,by omega,p2,hs1.trans p3,rfl⟩
     ·omega
     ·exact Env.so (by simp)
    ·simp[h6] at p1;simp[hlt,qbb,q5,hia,h6,p1,qaL (n:=(i:Int)+1)];refine ⟨_,?_,_,?_,i+1,rfl,by omega,p2,hs1.trans p3,rfl⟩
     ·omega
     ·exact Env.so (by simp)
  ·have:i=o.length:=by omega
   subst this;rw[qun] at hk1;simp;exact ⟨hk1,hs1⟩
 rintro e U ⟨hk1,hs1,g7⟩;simp[g7];exact qaj rfl ⟨by rw[ho'];rfl,F1,D1,hk1,hs1⟩
end Go.Proofs.YtbifpocccfkhhaaGreatDoor
end
