/- Compiled functions, and that they are what the program is. -/
import Derived.Test.YtbifpocccfkhhaaGreatDoorLai
import Derived.Test.YtbifpocccfkhhaaGreatDoorProg
import Derived.KernelRfl
namespace Go.Proofs.YtbifpocccfkhhaaGreatDoor
open Go
set_option maxRecDepth 20000
-- slices.AppendSeq[[]string,string]
noncomputable def c197 : F' := ⟨13, [.t 4],
 .seq (.reg [⟨(some 2), none, .box (.t 0)⟩,
 ⟨(some 4), none, .mv (.c (.sl true []))⟩])
 (.seq (.seq (.reg [⟨(some 6), none, .mv (.t 1)⟩])
 (.block 0 (.rf (.t 6) [7] (rfAt Tryz.f197 0).1 (rfAt Tryz.f197 0).2
 (.reg [⟨(some 5), none, .mv (.t 7)⟩])
 (.block 1 (.reg [⟨(some 8), none, .ld none (.t 2)⟩,
 ⟨(some 9), none, .mv (.t 5)⟩,
 ⟨(some 10), none, .bsl 1 [(.t 9)]⟩,
 ⟨(some 11), none, .app 1 16 (.t 8) (.t 10)⟩,
 ⟨none, none, .sto 1 (.t 2) (.t 11)⟩]))
 13 [7, 5, 9, 8, 10, 2, 11])))
 (.seq (.reg [⟨(some 12), none, .ld none (.t 2)⟩,
 ⟨(some 4), none, .mv (.t 12)⟩])
 (.ret)))⟩
theorem ok197 : compF Tryz.prog Tryz.f197 = some c197 := by kernel_rfl

-- slices.pdqsortOrdered[string]
noncomputable def c198 : F' := ⟨134, [],
 .seq (.reg [⟨(some 8), none, .mv (.c (.bool true))⟩])
 (.seq (.reg [⟨(some 9), none, .mv (.c (.bool true))⟩])
 (.block 0 (.loop (.block 1 (.seq (.reg [⟨(some 19), none, .mv (.t 2)⟩,
 ⟨(some 20), none, .mv (.t 1)⟩,
 ⟨(some 21), none, .bin .sub (.t 19) (.t 20)⟩,
 ⟨(some 10), none, .mv (.t 21)⟩])
 (.seq (.seq (.reg [⟨(some 22), none, .mv (.t 10)⟩,
 ⟨(some 23), none, .bin .leq (.t 22) (.c (.int .i64 12))⟩])
 (.cond (.t 23)
 (.seq (.reg [⟨(some 24), none, .mv (.t 0)⟩,
 ⟨(some 25), none, .mv (.t 1)⟩,
 ⟨(some 26), none, .mv (.t 2)⟩,
 ⟨(some 27), none, .call (.f 238) [(.t 24), (.t 25), (.t 26)]⟩])
 (.ret))
 (.skip)))
 (.seq (.seq (.reg [⟨(some 28), none, .mv (.t 3)⟩,
 ⟨(some 29), none, .bin .eql (.t 28) (.c (.int .i64 0))⟩])
 (.cond (.t 29)
 (.seq (.reg [⟨(some 30), none, .mv (.t 0)⟩,
 ⟨(some 31), none, .mv (.t 1)⟩,
 ⟨(some 32), none, .mv (.t 2)⟩,
 ⟨(some 33), none, .call (.f 239) [(.t 30), (.t 31), (.t 32)]⟩])
 (.ret))
 (.skip)))
 (.seq (.seq (.reg [⟨(some 34), none, .mv (.t 8)⟩,
 ⟨(some 35), none, .un .not (.t 34)⟩])
 (.cond (.t 35)
 (.seq (.reg [⟨(some 36), none, .mv (.t 0)⟩,
 ⟨(some 37), none, .mv (.t 1)⟩,
 ⟨(some 38), none, .mv (.t 2)⟩,
 ⟨(some 39), none, .call (.f 240) [(.t 36), (.t 37), (.t 38)]⟩])
 (.reg [⟨(some 40), none, .mv (.t 3)⟩,
 ⟨(some 41), none, .bin .sub (.t 40) (.c (.int .i64 1))⟩,
 ⟨(some 3), none, .mv (.t 41)⟩]))
 (.skip)))
 (.seq (.reg [⟨(some 43), none, .mv (.t 0)⟩,
 ⟨(some 44), none, .mv (.t 1)⟩,
 ⟨(some 45), none, .mv (.t 2)⟩,
 ⟨(some 46), none, .call (.f 241) [(.t 43), (.t 44), (.t 45)]⟩,
 ⟨(some 42), none, .mv (.t 46)⟩,
 ⟨(some 47), none, .ext 0 (.t 42)⟩,
 ⟨(some 48), none, .ext 1 (.t 42)⟩,
 ⟨(some 11), none, .mv (.t 47)⟩,
 ⟨(some 12), none, .mv (.t 48)⟩])
 (.seq (.seq (.reg [⟨(some 49), none, .mv (.t 12)⟩,
 ⟨(some 50), none, .bin .eql (.t 49) (.c (.int .i64 2))⟩])
 (.cond (.t 50)
 (.seq (.reg [⟨(some 51), none, .mv (.t 0)⟩,
 ⟨(some 52), none, .mv (.t 1)⟩,
 ⟨(some 53), none, .mv (.t 2)⟩,
 ⟨(some 54), none, .call (.f 242) [(.t 51), (.t 52), (.t 53)]⟩])
 (.seq (.reg [⟨(some 55), none, .mv (.t 2)⟩,
 ⟨(some 56), none, .bin .sub (.t 55) (.c (.int .i64 1))⟩,
 ⟨(some 57), none, .mv (.t 11)⟩,
 ⟨(some 58), none, .mv (.t 1)⟩,
 ⟨(some 59), none, .bin .sub (.t 57) (.t 58)⟩,
 ⟨(some 60), none, .bin .sub (.t 56) (.t 59)⟩,
 ⟨(some 11), none, .mv (.t 60)⟩])
 (.reg [⟨(some 12), none, .mv (.c (.int .i64 1))⟩])))
 (.skip)))
 (.seq (.seq (.reg [⟨(some 61), none, .mv (.t 8)⟩,
 ⟨(some 62), none, .mv (.t 61)⟩,
 ⟨(some 63), (some (62, true)), .mv (.t 9)⟩,
 ⟨(some 64), none, .pick (.t 62) (.t 63) (.c (.bool false))⟩,
 ⟨(some 65), none, .mv (.t 64)⟩,
 ⟨(some 66), (some (65, true)), .mv (.t 12)⟩,
 ⟨(some 67), (some (65, true)), .bin .eql (.t 66) (.c (.int .i64 1))⟩,
 ⟨(some 68), none, .pick (.t 65) (.t 67) (.c (.bool false))⟩])
 (.cond (.t 68)
 (.seq (.reg [⟨(some 69), none, .mv (.t 0)⟩,
 ⟨(some 70), none, .mv (.t 1)⟩,
 ⟨(some 71), none, .mv (.t 2)⟩,
 ⟨(some 72), none, .call (.f 243) [(.t 69), (.t 70), (.t 71)]⟩])
 (.cond (.t 72)
 (.ret)
 (.skip)))
 (.skip)))
 (.seq (.seq (.draw [⟨⟨(some 73), none, .mv (.t 1)⟩, false, none, false, [], 0, 0⟩,
 ⟨⟨(some 74), none, .bin .gtr (.t 73) (.c (.int .i64 0))⟩, false, none, false, [0], 0, 0⟩,
 ⟨⟨(some 75), none, .mv (.t 74)⟩, false, none, false, [1, 0], 0, 0⟩,
 ⟨⟨(some 76), (some (75, true)), .mv (.t 0)⟩, false, none, false, [2, 1, 0], 0, 0⟩,
 ⟨⟨(some 77), (some (75, true)), .mv (.t 1)⟩, false, none, false, [2, 1, 0], 0, 0⟩,
 ⟨⟨(some 78), (some (75, true)), .bin .sub (.t 77) (.c (.int .i64 1))⟩, false, none, false, [4, 2, 1, 0], 0, 0⟩,
 ⟨⟨(some 79), (some (75, true)), .ia 1 (.t 76) (.t 78)⟩, false, none, false, [3, 5, 4, 2, 1, 0], 0, 0⟩,
 ⟨⟨(some 80), (some (75, true)), .ld none (.t 79)⟩, false, none, false, [6, 3, 5, 4, 2, 1, 0], 0, 0⟩,
 ⟨⟨(some 81), (some (75, true)), .mv (.t 0)⟩, false, none, false, [2, 1, 0], 0, 0⟩,
 ⟨⟨(some 82), (some (75, true)), .mv (.t 11)⟩, false, none, false, [2, 1, 0], 0, 0⟩,
 ⟨⟨(some 83), (some (75, true)), .ia 1 (.t 81) (.t 82)⟩, false, none, false, [8, 9, 2, 1, 0], 0, 0⟩,
 ⟨⟨(some 84), (some (75, true)), .ld none (.t 83)⟩, false, none, false, [10, 8, 9, 2, 1, 0], 0, 0⟩,
 ⟨⟨(some 85), (some (75, true)), .call (.f 244) [(.t 80), (.t 84)]⟩, true, none, false, [7, 11, 6, 3, 5, 4, 10, 8, 9, 2, 1, 0], 0, 0⟩,
 ⟨⟨(some 86), (some (75, true)), .un .not (.t 85)⟩, false, none, false, [12, 7, 11, 6, 3, 5, 4, 10, 8, 9, 2, 1, 0], 1, 1⟩,
 ⟨⟨(some 87), none, .pick (.t 75) (.t 86) (.c (.bool false))⟩, false, none, false, [13, 12, 7, 11, 6, 3, 5, 4, 10, 8, 9, 2, 1, 0], 1, 1⟩] [])
 (.cond (.t 87)
 (.seq (.reg [⟨(some 88), none, .mv (.t 0)⟩,
 ⟨(some 89), none, .mv (.t 1)⟩,
 ⟨(some 90), none, .mv (.t 2)⟩,
 ⟨(some 91), none, .mv (.t 11)⟩,
 ⟨(some 92), none, .call (.f 245) [(.t 88), (.t 89), (.t 90), (.t 91)]⟩,
 ⟨(some 13), none, .mv (.t 92)⟩])
 (.seq (.reg [⟨(some 93), none, .mv (.t 13)⟩,
 ⟨(some 1), none, .mv (.t 93)⟩])
 (.exit 1)))
 (.skip)))
 (.seq (.reg [⟨(some 95), none, .mv (.t 0)⟩,
 ⟨(some 96), none, .mv (.t 1)⟩,
 ⟨(some 97), none, .mv (.t 2)⟩,
 ⟨(some 98), none, .mv (.t 11)⟩,
 ⟨(some 99), none, .call (.f 246) [(.t 95), (.t 96), (.t 97), (.t 98)]⟩,
 ⟨(some 94), none, .mv (.t 99)⟩,
 ⟨(some 100), none, .ext 0 (.t 94)⟩,
 ⟨(some 101), none, .ext 1 (.t 94)⟩,
 ⟨(some 14), none, .mv (.t 100)⟩,
 ⟨(some 15), none, .mv (.t 101)⟩])
 (.seq (.reg [⟨(some 102), none, .mv (.t 15)⟩,
 ⟨(some 9), none, .mv (.t 102)⟩])
 (.seq (.reg [⟨(some 103), none, .mv (.t 14)⟩,
 ⟨(some 104), none, .mv (.t 1)⟩,
 ⟨(some 105), none, .bin .sub (.t 103) (.t 104)⟩,
 ⟨(some 106), none, .mv (.t 2)⟩,
 ⟨(some 107), none, .mv (.t 14)⟩,
 ⟨(some 108), none, .bin .sub (.t 106) (.t 107)⟩,
 ⟨(some 16), none, .mv (.t 105)⟩,
 ⟨(some 17), none, .mv (.t 108)⟩])
 (.seq (.reg [⟨(some 109), none, .mv (.t 10)⟩,
 ⟨(some 110), none, .bin .quo (.t 109) (.c (.int .i64 8))⟩,
 ⟨(some 18), none, .mv (.t 110)⟩])
 (.seq (.reg [⟨(some 111), none, .mv (.t 16)⟩,
 ⟨(some 112), none, .mv (.t 17)⟩,
 ⟨(some 113), none, .bin .lss (.t 111) (.t 112)⟩])
 (.cond (.t 113)
 (.seq (.reg [⟨(some 114), none, .mv (.t 16)⟩,
 ⟨(some 115), none, .mv (.t 18)⟩,
 ⟨(some 116), none, .bin .geq (.t 114) (.t 115)⟩,
 ⟨(some 8), none, .mv (.t 116)⟩])
 (.seq (.reg [⟨(some 117), none, .mv (.t 0)⟩,
 ⟨(some 118), none, .mv (.t 1)⟩,
 ⟨(some 119), none, .mv (.t 14)⟩,
 ⟨(some 120), none, .mv (.t 3)⟩,
 ⟨(some 121), none, .call (.f 198) [(.t 117), (.t 118), (.t 119), (.t 120)]⟩])
 (.reg [⟨(some 122), none, .mv (.t 14)⟩,
 ⟨(some 123), none, .bin .add (.t 122) (.c (.int .i64 1))⟩,
 ⟨(some 1), none, .mv (.t 123)⟩])))
 (.seq (.reg [⟨(some 124), none, .mv (.t 17)⟩,
 ⟨(some 125), none, .mv (.t 18)⟩,
 ⟨(some 126), none, .bin .geq (.t 124) (.t 125)⟩,
 ⟨(some 8), none, .mv (.t 126)⟩])
 (.seq (.reg [⟨(some 127), none, .mv (.t 0)⟩,
 ⟨(some 128), none, .mv (.t 14)⟩,
 ⟨(some 129), none, .bin .add (.t 128) (.c (.int .i64 1))⟩,
 ⟨(some 130), none, .mv (.t 2)⟩,
 ⟨(some 131), none, .mv (.t 3)⟩,
 ⟨(some 132), none, .call (.f 198) [(.t 127), (.t 129), (.t 130), (.t 131)]⟩])
 (.reg [⟨(some 133), none, .mv (.t 14)⟩,
 ⟨(some 2), none, .mv (.t 133)⟩])))))))))))))))))))))⟩
theorem ok198 : compF Tryz.prog Tryz.f198 = some c198 := by kernel_rfl

-- math/bits.Len
noncomputable def c199 : F' := ⟨8, [.t 2],
 .seq (.reg [⟨(some 2), none, .mv (.c (.int .i64 0))⟩])
 (.seq (.cond (.c (.bool false))
 (.seq (.reg [⟨(some 3), none, .mv (.t 0)⟩,
 ⟨(some 4), none, .conv .u32 (.t 3)⟩,
 ⟨(some 5), none, .call (.f 247) [(.t 4)]⟩,
 ⟨(some 2), none, .mv (.t 5)⟩])
 (.ret))
 (.skip))
 (.seq (.reg [⟨(some 6), none, .mv (.t 0)⟩,
 ⟨(some 7), none, .call (.f 248) [(.t 6)]⟩,
 ⟨(some 2), none, .mv (.t 7)⟩])
 (.ret)))⟩
theorem ok199 : compF Tryz.prog Tryz.f199 = some c199 := by kernel_rfl

-- manorboy/manorboyref04.Own
noncomputable def c200 : F' := ⟨24, [.t 2],
 .seq (.reg [⟨(some 1), none, .box (.t 0)⟩,
 ⟨(some 2), none, .mv (.c (.int .i64 0))⟩])
 (.seq (.seq (.reg [⟨(some 3), none, .fa 0 (.t 1)⟩,
 ⟨(some 4), none, .ld none (.t 3)⟩])
 (.block 0 (.seq (.reg [⟨(some 6), none, .bin .eql (.t 4) (.c (.int .i64 1))⟩,
 ⟨(some 5), none, .mv (.t 6)⟩])
 (.cond (.t 5)
 (.seq (.reg [⟨(some 7), none, .fa 1 (.t 1)⟩,
 ⟨(some 8), none, .fa 0 (.t 7)⟩,
 ⟨(some 9), none, .ld none (.t 8)⟩,
 ⟨(some 10), none, .len false (.t 9)⟩,
 ⟨(some 11), none, .bin .add (.c (.int .i64 1)) (.t 10)⟩,
 ⟨(some 2), none, .mv (.t 11)⟩])
 (.ret))
 (.seq (.reg [⟨(some 13), none, .bin .eql (.t 4) (.c (.int .i64 2))⟩,
 ⟨(some 12), none, .mv (.t 13)⟩])
 (.cond (.t 12)
 (.seq (.reg [⟨(some 14), none, .fa 9 (.t 1)⟩,
 ⟨(some 15), none, .fa 3 (.t 14)⟩,
 ⟨(some 16), none, .ld none (.t 15)⟩,
 ⟨(some 17), none, .len false (.t 16)⟩,
 ⟨(some 18), none, .bin .add (.c (.int .i64 1)) (.t 17)⟩,
 ⟨(some 19), none, .fa 9 (.t 1)⟩,
 ⟨(some 20), none, .fa 5 (.t 19)⟩,
 ⟨(some 21), none, .ld none (.t 20)⟩,
 ⟨(some 22), none, .len false (.t 21)⟩,
 ⟨(some 23), none, .bin .add (.t 18) (.t 22)⟩,
 ⟨(some 2), none, .mv (.t 23)⟩])
 (.ret))
 (.skip)))))))
 (.seq (.reg [⟨(some 2), none, .mv (.c (.int .i64 1))⟩])
 (.ret)))⟩
theorem ok200 : compF Tryz.prog Tryz.f200 = some c200 := by kernel_rfl

-- manorboy/manorboyref04.many
noncomputable def c201 : F' := ⟨50, [.t 2],
 .seq (.reg [⟨(some 1), none, .box (.t 0)⟩,
 ⟨(some 2), none, .mv (.c (.int .i64 0))⟩])
 (.seq (.seq (.reg [⟨(some 4), none, .fa 0 (.t 1)⟩,
 ⟨(some 5), none, .ld none (.t 4)⟩])
 (.block 0 (.seq (.reg [⟨(some 7), none, .bin .eql (.t 5) (.c (.int .i64 1))⟩,
 ⟨(some 6), none, .mv (.t 7)⟩])
 (.cond (.t 6)
 (.seq (.reg [⟨(some 8), none, .fa 1 (.t 1)⟩,
 ⟨(some 9), none, .ld (some 8) (.t 8)⟩,
 ⟨(some 3), none, .new (.agg [(.sl true []), (.int .i64 0), (.str ⟨⟨[]⟩⟩), (.sl true []), (.sl true []), (.sl true []), (.sl true []), (.sl true [])])⟩,
 ⟨none, none, .sto 8 (.t 3) (.t 9)⟩])
 (.seq (.reg [⟨(some 10), none, .fa 3 (.t 3)⟩,
 ⟨(some 11), none, .ld none (.t 10)⟩,
 ⟨(some 12), none, .len false (.t 11)⟩,
 ⟨(some 13), none, .fa 4 (.t 3)⟩,
 ⟨(some 14), none, .ld none (.t 13)⟩,
 ⟨(some 15), none, .len false (.t 14)⟩,
 ⟨(some 16), none, .bin .add (.t 12) (.t 15)⟩,
 ⟨(some 17), none, .fa 5 (.t 3)⟩,
 ⟨(some 18), none, .ld none (.t 17)⟩,
 ⟨(some 19), none, .len false (.t 18)⟩,
 ⟨(some 20), none, .bin .add (.t 16) (.t 19)⟩,
 ⟨(some 21), none, .fa 6 (.t 3)⟩,
 ⟨(some 22), none, .ld none (.t 21)⟩,
 ⟨(some 23), none, .len false (.t 22)⟩,
 ⟨(some 24), none, .bin .add (.t 20) (.t 23)⟩,
 ⟨(some 25), none, .fa 7 (.t 3)⟩,
 ⟨(some 26), none, .ld none (.t 25)⟩,
 ⟨(some 27), none, .len false (.t 26)⟩,
 ⟨(some 28), none, .bin .add (.t 24) (.t 27)⟩,
 ⟨(some 2), none, .mv (.t 28)⟩])
 (.ret)))
 (.seq (.reg [⟨(some 30), none, .bin .eql (.t 5) (.c (.int .i64 2))⟩,
 ⟨(some 29), none, .mv (.t 30)⟩])
 (.cond (.t 29)
 (.seq (.reg [⟨(some 31), none, .fa 9 (.t 1)⟩,
 ⟨(some 32), none, .fa 4 (.t 31)⟩,
 ⟨(some 33), none, .ld none (.t 32)⟩,
 ⟨(some 34), none, .len false (.t 33)⟩,
 ⟨(some 35), none, .fa 9 (.t 1)⟩,
 ⟨(some 36), none, .fa 6 (.t 35)⟩,
 ⟨(some 37), none, .ld none (.t 36)⟩,
 ⟨(some 38), none, .len false (.t 37)⟩,
 ⟨(some 39), none, .bin .add (.t 34) (.t 38)⟩,
 ⟨(some 2), none, .mv (.t 39)⟩])
 (.ret))
 (.seq (.reg [⟨(some 41), none, .bin .eql (.t 5) (.c (.int .i64 3))⟩,
 ⟨(some 40), none, .mv (.t 41)⟩])
 (.cond (.t 40)
 (.seq (.reg [⟨(some 42), none, .fa 16 (.t 1)⟩,
 ⟨(some 43), none, .fa 1 (.t 42)⟩,
 ⟨(some 44), none, .ld none (.t 43)⟩,
 ⟨(some 45), none, .len false (.t 44)⟩,
 ⟨(some 2), none, .mv (.t 45)⟩])
 (.ret))
 (.skip)))))))))
 (.seq (.reg [⟨(some 46), none, .fa 18 (.t 1)⟩,
 ⟨(some 47), none, .fa 6 (.t 46)⟩,
 ⟨(some 48), none, .ld none (.t 47)⟩,
 ⟨(some 49), none, .len false (.t 48)⟩,
 ⟨(some 2), none, .mv (.t 49)⟩])
 (.ret)))⟩
theorem ok201 : compF Tryz.prog Tryz.f201 = some c201 := by kernel_rfl

-- manorboy/tree.kids$1
noncomputable def c202 : F' := ⟨66, [],
 .seq (.reg [⟨(some 4), none, .fa 0 (.t 1)⟩,
 ⟨(some 5), none, .ld none (.t 4)⟩])
 (.block 0 (.seq (.reg [⟨(some 7), none, .bin .eql (.t 5) (.c (.int .i64 1))⟩,
 ⟨(some 6), none, .mv (.t 7)⟩])
 (.cond (.t 6)
 (.seq (.reg [⟨(some 8), none, .fa 1 (.t 1)⟩,
 ⟨(some 9), none, .ld (some 8) (.t 8)⟩,
 ⟨(some 3), none, .new (.agg [(.sl true []), (.int .i64 0), (.str ⟨⟨[]⟩⟩), (.sl true []), (.sl true []), (.sl true []), (.sl true []), (.sl true [])])⟩,
 ⟨none, none, .sto 8 (.t 3) (.t 9)⟩])
 (.reg [⟨(some 10), none, .fa 3 (.t 3)⟩,
 ⟨(some 11), none, .ld none (.t 10)⟩,
 ⟨(some 12), none, .mv (.t 0)⟩,
 ⟨(some 13), none, .call (.f 203) [(.t 11), (.f 142), (.t 12)]⟩,
 ⟨(some 14), none, .mv (.t 13)⟩,
 ⟨(some 15), (some (14, true)), .fa 4 (.t 3)⟩,
 ⟨(some 16), (some (14, true)), .ld none (.t 15)⟩,
 ⟨(some 17), (some (14, true)), .mv (.t 0)⟩,
 ⟨(some 18), (some (14, true)), .call (.f 203) [(.t 16), (.f 142), (.t 17)]⟩,
 ⟨(some 19), none, .pick (.t 14) (.t 18) (.c (.bool false))⟩,
 ⟨(some 20), none, .mv (.t 19)⟩,
 ⟨(some 21), (some (20, true)), .fa 5 (.t 3)⟩,
 ⟨(some 22), (some (20, true)), .ld none (.t 21)⟩,
 ⟨(some 23), (some (20, true)), .mv (.t 0)⟩,
 ⟨(some 24), (some (20, true)), .call (.f 204) [(.t 22), (.f 205), (.t 23)]⟩,
 ⟨(some 25), none, .pick (.t 20) (.t 24) (.c (.bool false))⟩,
 ⟨(some 26), none, .mv (.t 25)⟩,
 ⟨(some 27), (some (26, true)), .fa 6 (.t 3)⟩,
 ⟨(some 28), (some (26, true)), .ld none (.t 27)⟩,
 ⟨(some 29), (some (26, true)), .mv (.t 0)⟩,
 ⟨(some 30), (some (26, true)), .call (.f 206) [(.t 28), (.f 168), (.t 29)]⟩,
 ⟨(some 31), none, .pick (.t 26) (.t 30) (.c (.bool false))⟩,
 ⟨(some 32), none, .mv (.t 31)⟩,
 ⟨(some 33), (some (32, true)), .fa 7 (.t 3)⟩,
 ⟨(some 34), (some (32, true)), .ld none (.t 33)⟩,
 ⟨(some 35), (some (32, true)), .mv (.t 0)⟩,
 ⟨(some 36), (some (32, true)), .call (.f 207) [(.t 34), (.f 101), (.t 35)]⟩,
 ⟨(some 37), none, .pick (.t 32) (.t 36) (.c (.bool false))⟩]))
 (.seq (.reg [⟨(some 39), none, .bin .eql (.t 5) (.c (.int .i64 2))⟩,
 ⟨(some 38), none, .mv (.t 39)⟩])
 (.cond (.t 38)
 (.reg [⟨(some 40), none, .fa 9 (.t 1)⟩,
 ⟨(some 41), none, .fa 4 (.t 40)⟩,
 ⟨(some 42), none, .ld none (.t 41)⟩,
 ⟨(some 43), none, .mv (.t 0)⟩,
 ⟨(some 44), none, .call (.f 203) [(.t 42), (.f 142), (.t 43)]⟩,
 ⟨(some 45), none, .mv (.t 44)⟩,
 ⟨(some 46), (some (45, true)), .fa 9 (.t 1)⟩,
 ⟨(some 47), (some (45, true)), .fa 6 (.t 46)⟩,
 ⟨(some 48), (some (45, true)), .ld none (.t 47)⟩,
 ⟨(some 49), (some (45, true)), .mv (.t 0)⟩,
 ⟨(some 50), (some (45, true)), .call (.f 207) [(.t 48), (.f 101), (.t 49)]⟩,
 ⟨(some 51), none, .pick (.t 45) (.t 50) (.c (.bool false))⟩])
 (.seq (.reg [⟨(some 53), none, .bin .eql (.t 5) (.c (.int .i64 3))⟩,
 ⟨(some 52), none, .mv (.t 53)⟩])
 (.cond (.t 52)
 (.reg [⟨(some 54), none, .fa 16 (.t 1)⟩,
 ⟨(some 55), none, .fa 1 (.t 54)⟩,
 ⟨(some 56), none, .ld none (.t 55)⟩,
 ⟨(some 57), none, .mv (.t 0)⟩,
 ⟨(some 58), none, .call (.f 203) [(.t 56), (.f 142), (.t 57)]⟩])
 (.seq (.reg [⟨(some 60), none, .bin .eql (.t 5) (.c (.int .i64 4))⟩,
 ⟨(some 59), none, .mv (.t 60)⟩])
 (.cond (.t 59)
 (.reg [⟨(some 61), none, .fa 18 (.t 1)⟩,
 ⟨(some 62), none, .fa 6 (.t 61)⟩,
 ⟨(some 63), none, .ld none (.t 62)⟩,
 ⟨(some 64), none, .mv (.t 0)⟩,
 ⟨(some 65), none, .call (.f 203) [(.t 63), (.f 142), (.t 64)]⟩])
 (.skip))))))))))⟩
theorem ok202 : compF Tryz.prog Tryz.f202 = some c202 := by kernel_rfl

-- manorboy/tree.each[manorboy/api.Exp]
noncomputable def c203 : F' := ⟨22, [.t 6],
 .seq (.reg [⟨(some 6), none, .mv (.c (.bool false))⟩])
 (.seq (.seq (.reg [⟨(some 9), none, .mv (.t 0)⟩,
 ⟨(some 10), none, .len false (.t 9)⟩,
 ⟨(some 11), none, .mv (.c (.int .i64 0))⟩])
 (.block 0 (.loop (.seq (.reg [⟨(some 12), none, .bin .lss (.t 11) (.t 10)⟩])
 (.seq (.cond (.t 12)
 (.skip)
 (.exit 0))
 (.seq (.block 1 (.seq (.reg [⟨(some 13), none, .ia 7 (.t 9) (.t 11)⟩,
 ⟨(some 14), none, .ld (some 7) (.t 13)⟩,
 ⟨(some 8), none, .new (.agg [(.int .i64 0), (.int .i64 0), (.int .i64 0), (.int .i64 0), (.int .i64 0), (.str ⟨⟨[]⟩⟩), (.sl true [])])⟩,
 ⟨none, none, .sto 7 (.t 8) (.t 14)⟩])
 (.seq (.reg [⟨(some 15), none, .mv (.t 2)⟩,
 ⟨(some 16), none, .mv (.t 1)⟩,
 ⟨(some 17), none, .ld (some 7) (.t 8)⟩,
 ⟨(some 18), none, .call (.t 16) [(.t 17)]⟩,
 ⟨(some 19), none, .call (.t 15) [(.t 18)]⟩,
 ⟨(some 20), none, .un .not (.t 19)⟩])
 (.cond (.t 20)
 (.seq (.reg [⟨(some 6), none, .mv (.c (.bool false))⟩])
 (.ret))
 (.skip)))))
 (.reg [⟨(some 21), none, .bin .add (.t 11) (.c (.int .i64 1))⟩,
 ⟨(some 11), none, .mv (.t 21)⟩])))))))
 (.seq (.reg [⟨(some 6), none, .mv (.c (.bool true))⟩])
 (.ret)))⟩
theorem ok203 : compF Tryz.prog Tryz.f203 = some c203 := by kernel_rfl

-- manorboy/tree.each[manorboy/api.Elem]
noncomputable def c204 : F' := ⟨22, [.t 6],
 .seq (.reg [⟨(some 6), none, .mv (.c (.bool false))⟩])
 (.seq (.seq (.reg [⟨(some 9), none, .mv (.t 0)⟩,
 ⟨(some 10), none, .len false (.t 9)⟩,
 ⟨(some 11), none, .mv (.c (.int .i64 0))⟩])
 (.block 0 (.loop (.seq (.reg [⟨(some 12), none, .bin .lss (.t 11) (.t 10)⟩])
 (.seq (.cond (.t 12)
 (.skip)
 (.exit 0))
 (.seq (.block 1 (.seq (.reg [⟨(some 13), none, .ia 2 (.t 9) (.t 11)⟩,
 ⟨(some 14), none, .ld (some 2) (.t 13)⟩,
 ⟨(some 8), none, .new (.agg [(.int .i64 0), (.sl true [])])⟩,
 ⟨none, none, .sto 2 (.t 8) (.t 14)⟩])
 (.seq (.reg [⟨(some 15), none, .mv (.t 2)⟩,
 ⟨(some 16), none, .mv (.t 1)⟩,
 ⟨(some 17), none, .ld (some 2) (.t 8)⟩,
 ⟨(some 18), none, .call (.t 16) [(.t 17)]⟩,
 ⟨(some 19), none, .call (.t 15) [(.t 18)]⟩,
 ⟨(some 20), none, .un .not (.t 19)⟩])
 (.cond (.t 20)
 (.seq (.reg [⟨(some 6), none, .mv (.c (.bool false))⟩])
 (.ret))
 (.skip)))))
 (.reg [⟨(some 21), none, .bin .add (.t 11) (.c (.int .i64 1))⟩,
 ⟨(some 11), none, .mv (.t 21)⟩])))))))
 (.seq (.reg [⟨(some 6), none, .mv (.c (.bool true))⟩])
 (.ret)))⟩
theorem ok204 : compF Tryz.prog Tryz.f204 = some c204 := by kernel_rfl

-- manorboy/tree.each[manorboy/api.Decl]
noncomputable def c206 : F' := ⟨22, [.t 6],
 .seq (.reg [⟨(some 6), none, .mv (.c (.bool false))⟩])
 (.seq (.seq (.reg [⟨(some 9), none, .mv (.t 0)⟩,
 ⟨(some 10), none, .len false (.t 9)⟩,
 ⟨(some 11), none, .mv (.c (.int .i64 0))⟩])
 (.block 0 (.loop (.seq (.reg [⟨(some 12), none, .bin .lss (.t 11) (.t 10)⟩])
 (.seq (.cond (.t 12)
 (.skip)
 (.exit 0))
 (.seq (.block 1 (.seq (.reg [⟨(some 13), none, .ia 7 (.t 9) (.t 11)⟩,
 ⟨(some 14), none, .ld (some 7) (.t 13)⟩,
 ⟨(some 8), none, .new (.agg [(.int .i64 0), (.bool false), (.int .i64 0), (.sl true []), (.sl true []), (.sl true []), (.sl true [])])⟩,
 ⟨none, none, .sto 7 (.t 8) (.t 14)⟩])
 (.seq (.reg [⟨(some 15), none, .mv (.t 2)⟩,
 ⟨(some 16), none, .mv (.t 1)⟩,
 ⟨(some 17), none, .ld (some 7) (.t 8)⟩,
 ⟨(some 18), none, .call (.t 16) [(.t 17)]⟩,
 ⟨(some 19), none, .call (.t 15) [(.t 18)]⟩,
 ⟨(some 20), none, .un .not (.t 19)⟩])
 (.cond (.t 20)
 (.seq (.reg [⟨(some 6), none, .mv (.c (.bool false))⟩])
 (.ret))
 (.skip)))))
 (.reg [⟨(some 21), none, .bin .add (.t 11) (.c (.int .i64 1))⟩,
 ⟨(some 11), none, .mv (.t 21)⟩])))))))
 (.seq (.reg [⟨(some 6), none, .mv (.c (.bool true))⟩])
 (.ret)))⟩
theorem ok206 : compF Tryz.prog Tryz.f206 = some c206 := by kernel_rfl

-- manorboy/tree.each[manorboy/api.Stmt]
noncomputable def c207 : F' := ⟨22, [.t 6],
 .seq (.reg [⟨(some 6), none, .mv (.c (.bool false))⟩])
 (.seq (.seq (.reg [⟨(some 9), none, .mv (.t 0)⟩,
 ⟨(some 10), none, .len false (.t 9)⟩,
 ⟨(some 11), none, .mv (.c (.int .i64 0))⟩])
 (.block 0 (.loop (.seq (.reg [⟨(some 12), none, .bin .lss (.t 11) (.t 10)⟩])
 (.seq (.cond (.t 12)
 (.skip)
 (.exit 0))
 (.seq (.block 1 (.seq (.reg [⟨(some 13), none, .ia 8 (.t 9) (.t 11)⟩,
 ⟨(some 14), none, .ld (some 8) (.t 13)⟩,
 ⟨(some 8), none, .new (.agg [(.sl true []), (.int .i64 0), (.str ⟨⟨[]⟩⟩), (.sl true []), (.sl true []), (.sl true []), (.sl true []), (.sl true [])])⟩,
 ⟨none, none, .sto 8 (.t 8) (.t 14)⟩])
 (.seq (.reg [⟨(some 15), none, .mv (.t 2)⟩,
 ⟨(some 16), none, .mv (.t 1)⟩,
 ⟨(some 17), none, .ld (some 8) (.t 8)⟩,
 ⟨(some 18), none, .call (.t 16) [(.t 17)]⟩,
 ⟨(some 19), none, .call (.t 15) [(.t 18)]⟩,
 ⟨(some 20), none, .un .not (.t 19)⟩])
 (.cond (.t 20)
 (.seq (.reg [⟨(some 6), none, .mv (.c (.bool false))⟩])
 (.ret))
 (.skip)))))
 (.reg [⟨(some 21), none, .bin .add (.t 11) (.c (.int .i64 1))⟩,
 ⟨(some 11), none, .mv (.t 21)⟩])))))))
 (.seq (.reg [⟨(some 6), none, .mv (.c (.bool true))⟩])
 (.ret)))⟩
theorem ok207 : compF Tryz.prog Tryz.f207 = some c207 := by kernel_rfl

-- manorboy/tree.arity
noncomputable def c208 : F' := ⟨15, [.t 2, .t 3],
 .seq (.reg [⟨(some 2), none, .mv (.c (.int .i64 0))⟩,
 ⟨(some 3), none, .mv (.c (.int .i64 0))⟩])
 (.seq (.seq (.reg [⟨(some 4), none, .mv (.t 0)⟩])
 (.block 0 (.seq (.reg [⟨(some 6), none, .bin .eql (.t 4) (.c (.int .i64 7))⟩,
 ⟨(some 5), none, .mv (.t 6)⟩])
 (.cond (.t 5)
 (.seq (.reg [⟨(some 2), none, .mv (.c (.int .i64 1))⟩,
 ⟨(some 3), none, .mv (.c (.int .i64 4))⟩])
 (.ret))
 (.seq (.reg [⟨(some 8), none, .bin .eql (.t 4) (.c (.int .i64 8))⟩,
 ⟨(some 7), none, .mv (.t 8)⟩])
 (.cond (.t 7)
 (.seq (.reg [⟨(some 2), none, .mv (.c (.int .i64 1))⟩,
 ⟨(some 3), none, .mv (.c (.int .i64 8))⟩])
 (.ret))
 (.seq (.reg [⟨(some 10), none, .bin .eql (.t 4) (.c (.int .i64 9))⟩,
 ⟨(some 9), none, .mv (.t 10)⟩])
 (.cond (.t 9)
 (.seq (.reg [⟨(some 2), none, .mv (.c (.int .i64 1))⟩,
 ⟨(some 3), none, .mv (.c (.int .i64 1))⟩])
 (.ret))
 (.seq (.reg [⟨(some 12), none, .bin .eql (.t 4) (.c (.int .i64 10))⟩,
 ⟨(some 11), none, .mv (.t 12)⟩])
 (.cond (.t 11)
 (.seq (.reg [⟨(some 2), none, .mv (.c (.int .i64 2))⟩,
 ⟨(some 3), none, .mv (.c (.int .i64 2))⟩])
 (.ret))
 (.seq (.reg [⟨(some 14), none, .bin .eql (.t 4) (.c (.int .i64 11))⟩,
 ⟨(some 13), none, .mv (.t 14)⟩])
 (.cond (.t 13)
 (.seq (.reg [⟨(some 2), none, .mv (.c (.int .i64 3))⟩,
 ⟨(some 3), none, .mv (.c (.int .i64 3))⟩])
 (.ret))
 (.skip)))))))))))))
 (.seq (.reg [⟨(some 2), none, .mv (.c (.int .i64 0))⟩,
 ⟨(some 3), none, .mv (.c (.int .i64 0))⟩])
 (.ret)))⟩
theorem ok208 : compF Tryz.prog Tryz.f208 = some c208 := by kernel_rfl

-- manorboy/tree.within
noncomputable def c209 : F' := ⟨15, [.t 6],
 .seq (.reg [⟨(some 6), none, .mv (.c (.bool false))⟩])
 (.seq (.reg [⟨(some 7), none, .mv (.t 1)⟩,
 ⟨(some 8), none, .mv (.t 0)⟩,
 ⟨(some 9), none, .bin .leq (.t 7) (.t 8)⟩,
 ⟨(some 10), none, .mv (.t 9)⟩,
 ⟨(some 11), (some (10, true)), .mv (.t 0)⟩,
 ⟨(some 12), (some (10, true)), .mv (.t 2)⟩,
 ⟨(some 13), (some (10, true)), .bin .leq (.t 11) (.t 12)⟩,
 ⟨(some 14), none, .pick (.t 10) (.t 13) (.c (.bool false))⟩,
 ⟨(some 6), none, .mv (.t 14)⟩])
 (.ret))⟩
theorem ok209 : compF Tryz.prog Tryz.f209 = some c209 := by kernel_rfl

-- (manorboy/tree.shape).fits
noncomputable def c212 : F' := ⟨20, [.t 4],
 .seq (.reg [⟨(some 2), none, .box (.t 0)⟩,
 ⟨(some 4), none, .mv (.c (.bool false))⟩])
 (.seq (.reg [⟨(some 5), none, .mv (.t 1)⟩,
 ⟨(some 6), none, .fa 0 (.t 2)⟩,
 ⟨(some 7), none, .ld none (.t 6)⟩,
 ⟨(some 8), none, .bin .geq (.t 5) (.t 7)⟩,
 ⟨(some 9), none, .mv (.t 8)⟩,
 ⟨(some 10), (some (9, true)), .fa 1 (.t 2)⟩,
 ⟨(some 11), (some (9, true)), .ld none (.t 10)⟩,
 ⟨(some 12), (some (9, true)), .bin .lss (.t 11) (.c (.int .i64 0))⟩,
 ⟨(some 13), (some (9, true)), .mv (.t 12)⟩,
 ⟨(some 14), (some (13, false)), .mv (.t 1)⟩,
 ⟨(some 15), (some (13, false)), .fa 1 (.t 2)⟩,
 ⟨(some 16), (some (13, false)), .ld none (.t 15)⟩,
 ⟨(some 17), (some (13, false)), .bin .leq (.t 14) (.t 16)⟩,
 ⟨(some 18), (some (9, true)), .pick (.t 13) (.c (.bool true)) (.t 17)⟩,
 ⟨(some 19), none, .pick (.t 9) (.t 18) (.c (.bool false))⟩,
 ⟨(some 4), none, .mv (.t 19)⟩])
 (.ret))⟩
theorem ok212 : compF Tryz.prog Tryz.f212 = some c212 := by kernel_rfl

-- manorboy/tree.areNames
noncomputable def c213 : F' := ⟨6, [.t 2],
 .seq (.reg [⟨(some 2), none, .mv (.c (.bool false))⟩])
 (.seq (.reg [⟨(some 3), none, .mv (.t 0)⟩,
 ⟨(some 4), none, .call (.f 138) [(.t 3), (.f 249)]⟩,
 ⟨(some 5), none, .un .not (.t 4)⟩,
 ⟨(some 2), none, .mv (.t 5)⟩])
 (.ret))⟩
theorem ok213 : compF Tryz.prog Tryz.f213 = some c213 := by kernel_rfl

-- manorboy/tree.validFormals
noncomputable def c214 : F' := ⟨23, [.t 2],
 .seq (.reg [⟨(some 2), none, .mv (.c (.bool false))⟩])
 (.seq (.seq (.reg [⟨(some 5), none, .mv (.t 0)⟩,
 ⟨(some 6), none, .len false (.t 5)⟩,
 ⟨(some 7), none, .mv (.c (.int .i64 0))⟩])
 (.block 0 (.loop (.seq (.reg [⟨(some 8), none, .bin .lss (.t 7) (.t 6)⟩])
 (.seq (.cond (.t 8)
 (.skip)
 (.exit 0))
 (.seq (.block 1 (.seq (.reg [⟨(some 9), none, .mv (.t 7)⟩,
 ⟨(some 10), none, .ia 4 (.t 5) (.t 7)⟩,
 ⟨(some 11), none, .ld (some 4) (.t 10)⟩,
 ⟨(some 4), none, .new (.agg [(.str ⟨⟨[]⟩⟩), (.bool false), (.int .i64 0), (.int .i64 0)])⟩,
 ⟨(some 3), none, .mv (.t 9)⟩,
 ⟨none, none, .sto 4 (.t 4) (.t 11)⟩])
 (.seq (.reg [⟨(some 12), none, .ld (some 4) (.t 4)⟩,
 ⟨(some 13), none, .call (.f 250) [(.t 12)]⟩,
 ⟨(some 14), none, .un .not (.t 13)⟩,
 ⟨(some 15), none, .mv (.t 14)⟩,
 ⟨(some 16), (some (15, false)), .mv (.t 0)⟩,
 ⟨(some 17), (some (15, false)), .mv (.t 3)⟩,
 ⟨(some 18), (some (15, false)), .slc false 4 (.t 16) none (some (.t 17))⟩,
 ⟨(some 19), (some (15, false)), .mkf 251 [] [(.t 4)]⟩,
 ⟨(some 20), (some (15, false)), .call (.f 131) [(.t 18), (.t 19)]⟩,
 ⟨(some 21), none, .pick (.t 15) (.c (.bool true)) (.t 20)⟩])
 (.cond (.t 21)
 (.seq (.reg [⟨(some 2), none, .mv (.c (.bool false))⟩])
 (.ret))
 (.skip)))))
 (.reg [⟨(some 22), none, .bin .add (.t 7) (.c (.int .i64 1))⟩,
 ⟨(some 7), none, .mv (.t 22)⟩])))))))
 (.seq (.reg [⟨(some 2), none, .mv (.c (.bool true))⟩])
 (.ret)))⟩
theorem ok214 : compF Tryz.prog Tryz.f214 = some c214 := by kernel_rfl

-- manorboy/tree.areTargets
noncomputable def c215 : F' := ⟨6, [.t 2],
 .seq (.reg [⟨(some 2), none, .mv (.c (.bool false))⟩])
 (.seq (.reg [⟨(some 3), none, .mv (.t 0)⟩,
 ⟨(some 4), none, .call (.f 252) [(.t 3), (.f 253)]⟩,
 ⟨(some 5), none, .un .not (.t 4)⟩,
 ⟨(some 2), none, .mv (.t 5)⟩])
 (.ret))⟩
theorem ok215 : compF Tryz.prog Tryz.f215 = some c215 := by kernel_rfl

-- manorboy/copyrule.renamed
noncomputable def c218 : F' := ⟨25, [.t 4],
 .seq (.reg [⟨(some 4), none, .mv (.c (.sl true []))⟩])
 (.seq (.reg [⟨(some 5), none, .mv (.c (.sl true []))⟩])
 (.seq (.seq (.reg [⟨(some 8), none, .mv (.t 0)⟩,
 ⟨(some 9), none, .len false (.t 8)⟩,
 ⟨(some 10), none, .mv (.c (.int .i64 0))⟩])
 (.block 0 (.loop (.seq (.reg [⟨(some 11), none, .bin .lss (.t 10) (.t 9)⟩])
 (.seq (.cond (.t 11)
 (.skip)
 (.exit 0))
 (.seq (.block 1 (.seq (.reg [⟨(some 12), none, .ia 1 (.t 8) (.t 10)⟩,
 ⟨(some 13), none, .ld none (.t 12)⟩,
 ⟨(some 7), none, .mv (.t 13)⟩])
 (.reg [⟨(some 14), none, .mv (.t 5)⟩,
 ⟨(some 15), none, .mv (.t 1)⟩,
 ⟨(some 16), none, .mv (.t 7)⟩,
 ⟨(some 17), none, .call (.f 60) [(.t 15), (.t 16)]⟩,
 ⟨(some 18), none, .nck (.t 17)⟩,
 ⟨(some 19), none, .fa 2 (.t 18)⟩,
 ⟨(some 20), none, .ld none (.t 19)⟩,
 ⟨(some 21), none, .bsl 1 [(.t 20)]⟩,
 ⟨(some 22), none, .app 1 16 (.t 14) (.t 21)⟩,
 ⟨(some 5), none, .mv (.t 22)⟩])))
 (.reg [⟨(some 23), none, .bin .add (.t 10) (.c (.int .i64 1))⟩,
 ⟨(some 10), none, .mv (.t 23)⟩])))))))
 (.seq (.reg [⟨(some 24), none, .mv (.t 5)⟩,
 ⟨(some 4), none, .mv (.t 24)⟩])
 (.ret))))⟩
theorem ok218 : compF Tryz.prog Tryz.f218 = some c218 := by kernel_rfl

-- manorboy/copyrule.bound
noncomputable def c219 : F' := ⟨4, [.t 2],
 .seq (.reg [⟨(some 1), none, .box (.t 0)⟩,
 ⟨(some 2), none, .mv (.c .nilfn)⟩])
 (.seq (.reg [⟨(some 3), none, .mkf 255 [] [(.t 1)]⟩,
 ⟨(some 2), none, .mv (.t 3)⟩])
 (.ret))⟩
theorem ok219 : compF Tryz.prog Tryz.f219 = some c219 := by kernel_rfl

-- (*manorboy/copyrule.walker).decls
noncomputable def c220 : F' := ⟨51, [.t 8],
 .seq (.reg [⟨(some 8), none, .mv (.c (.sl true []))⟩])
 (.seq (.reg [⟨(some 9), none, .mv (.c (.sl true []))⟩])
 (.seq (.seq (.reg [⟨(some 12), none, .mv (.t 1)⟩,
 ⟨(some 13), none, .len false (.t 12)⟩,
 ⟨(some 14), none, .mv (.c (.int .i64 0))⟩])
 (.block 0 (.loop (.seq (.reg [⟨(some 15), none, .bin .lss (.t 14) (.t 13)⟩])
 (.seq (.cond (.t 15)
 (.skip)
 (.exit 0))
 (.seq (.block 1 (.seq (.reg [⟨(some 16), none, .ia 7 (.t 12) (.t 14)⟩,
 ⟨(some 17), none, .ld (some 7) (.t 16)⟩,
 ⟨(some 11), none, .new (.agg [(.int .i64 0), (.bool false), (.int .i64 0), (.sl true []), (.sl true []), (.sl true []), (.sl true [])])⟩,
 ⟨none, none, .sto 7 (.t 11) (.t 17)⟩])
 (.seq (.reg [⟨(some 18), none, .fa 3 (.t 11)⟩,
 ⟨(some 19), none, .ld none (.t 18)⟩,
 ⟨(some 20), none, .mv (.t 2)⟩,
 ⟨(some 21), none, .call (.f 218) [(.t 19), (.t 20)]⟩,
 ⟨(some 22), none, .fa 3 (.t 11)⟩,
 ⟨none, none, .sto 1 (.t 22) (.t 21)⟩])
 (.seq (.seq (.reg [⟨(some 23), none, .fa 0 (.t 11)⟩,
 ⟨(some 24), none, .ld none (.t 23)⟩,
 ⟨(some 25), none, .bin .eql (.t 24) (.c (.int .i64 2))⟩])
 (.cond (.t 25)
 (.reg [⟨(some 26), none, .mv (.t 0)⟩,
 ⟨(some 27), none, .fa 4 (.t 11)⟩,
 ⟨(some 28), none, .ld none (.t 27)⟩,
 ⟨(some 29), none, .mv (.t 3)⟩,
 ⟨(some 30), none, .call (.f 134) [(.t 26), (.t 28), (.t 29), (.c (.bool false))]⟩,
 ⟨(some 31), none, .fa 4 (.t 11)⟩,
 ⟨none, none, .sto 1 (.t 31) (.t 30)⟩])
 (.reg [⟨(some 32), none, .mv (.t 0)⟩,
 ⟨(some 33), none, .fa 4 (.t 11)⟩,
 ⟨(some 34), none, .ld none (.t 33)⟩,
 ⟨(some 35), none, .mv (.t 2)⟩,
 ⟨(some 36), none, .call (.f 134) [(.t 32), (.t 34), (.t 35), (.c (.bool false))]⟩,
 ⟨(some 37), none, .fa 4 (.t 11)⟩,
 ⟨none, none, .sto 1 (.t 37) (.t 36)⟩])))
 (.seq (.seq (.reg [⟨(some 38), none, .fa 0 (.t 11)⟩,
 ⟨(some 39), none, .ld none (.t 38)⟩,
 ⟨(some 40), none, .bin .eql (.t 39) (.c (.int .i64 4))⟩])
 (.cond (.t 40)
 (.reg [⟨(some 41), none, .mv (.t 0)⟩,
 ⟨(some 42), none, .ld (some 7) (.t 11)⟩,
 ⟨(some 43), none, .mv (.t 2)⟩,
 ⟨(some 44), none, .call (.f 256) [(.t 41), (.t 42), (.t 43)]⟩,
 ⟨none, none, .sto 7 (.t 11) (.t 44)⟩])
 (.skip)))
 (.reg [⟨(some 45), none, .mv (.t 9)⟩,
 ⟨(some 46), none, .ld (some 7) (.t 11)⟩,
 ⟨(some 47), none, .bsl 7 [(.t 46)]⟩,
 ⟨(some 48), none, .app 7 120 (.t 45) (.t 47)⟩,
 ⟨(some 9), none, .mv (.t 48)⟩]))))))
 (.reg [⟨(some 49), none, .bin .add (.t 14) (.c (.int .i64 1))⟩,
 ⟨(some 14), none, .mv (.t 49)⟩])))))))
 (.seq (.reg [⟨(some 50), none, .mv (.t 9)⟩,
 ⟨(some 8), none, .mv (.t 50)⟩])
 (.ret))))⟩
theorem ok220 : compF Tryz.prog Tryz.f220 = some c220 := by kernel_rfl

-- (*manorboy/copyrule.walker).elems
noncomputable def c221 : F' := ⟨29, [.t 6],
 .seq (.reg [⟨(some 6), none, .mv (.c (.sl true []))⟩])
 (.seq (.reg [⟨(some 7), none, .mv (.c (.sl true []))⟩])
 (.seq (.seq (.reg [⟨(some 10), none, .mv (.t 1)⟩,
 ⟨(some 11), none, .len false (.t 10)⟩,
 ⟨(some 12), none, .mv (.c (.int .i64 0))⟩])
 (.block 0 (.loop (.seq (.reg [⟨(some 13), none, .bin .lss (.t 12) (.t 11)⟩])
 (.seq (.cond (.t 13)
 (.skip)
 (.exit 0))
 (.seq (.block 1 (.seq (.reg [⟨(some 14), none, .ia 2 (.t 10) (.t 12)⟩,
 ⟨(some 15), none, .ld (some 2) (.t 14)⟩,
 ⟨(some 9), none, .new (.agg [(.int .i64 0), (.sl true [])])⟩,
 ⟨none, none, .sto 2 (.t 9) (.t 15)⟩])
 (.draw [⟨⟨(some 16), none, .mv (.t 7)⟩, false, none, false, [], 0, 1⟩,
 ⟨⟨(some 17), none, .fa 0 (.t 9)⟩, false, none, false, [], 0, 1⟩,
 ⟨⟨(some 18), none, .ld none (.t 17)⟩, false, none, true, [1], 0, 1⟩,
 ⟨⟨(some 19), none, .mv (.t 0)⟩, false, none, false, [], 0, 0⟩,
 ⟨⟨(some 20), none, .fa 1 (.t 9)⟩, false, none, false, [], 0, 0⟩,
 ⟨⟨(some 21), none, .ld none (.t 20)⟩, false, none, false, [4], 0, 0⟩,
 ⟨⟨(some 22), none, .mv (.t 2)⟩, false, none, false, [], 0, 0⟩,
 ⟨⟨(some 23), none, .call (.f 134) [(.t 19), (.t 21), (.t 22), (.c (.bool false))]⟩, true, none, false, [3, 5, 6, 4], 0, 0⟩,
 ⟨⟨(some 24), none, .build (.agg [(.int .i64 0), (.sl true [])]) [(0, 0, 1, (.t 18)), (1, 1, 1, (.t 23))]⟩, false, none, false, [2, 7, 1, 3, 5, 6, 4], 1, 1⟩,
 ⟨⟨(some 25), none, .bsl 2 [(.t 24)]⟩, false, none, false, [8, 2, 7, 1, 3, 5, 6, 4], 1, 1⟩,
 ⟨⟨(some 26), none, .app 2 32 (.t 16) (.t 25)⟩, true, none, false, [0, 9, 8, 2, 7, 1, 3, 5, 6, 4], 1, 1⟩,
 ⟨⟨(some 7), none, .mv (.t 26)⟩, false, none, false, [10, 0, 9, 8, 2, 7, 1, 3, 5, 6, 4], 2, 2⟩] [])))
 (.reg [⟨(some 27), none, .bin .add (.t 12) (.c (.int .i64 1))⟩,
 ⟨(some 12), none, .mv (.t 27)⟩])))))))
 (.seq (.reg [⟨(some 28), none, .mv (.t 7)⟩,
 ⟨(some 6), none, .mv (.t 28)⟩])
 (.ret))))⟩
theorem ok221 : compF Tryz.prog Tryz.f221 = some c221 := by kernel_rfl

-- manorboy/manorboyref04.exps
noncomputable def c228 : F' := ⟨21, [.t 4],
 .seq (.reg [⟨(some 4), none, .mv (.c (.sl true []))⟩])
 (.seq (.seq (.reg [⟨(some 5), none, .mv (.c (.int .i64 0))⟩])
 (.block 0 (.loop (.seq (.seq (.reg [⟨(some 6), none, .mv (.t 5)⟩,
 ⟨(some 7), none, .mv (.t 1)⟩,
 ⟨(some 8), none, .len false (.t 7)⟩,
 ⟨(some 9), none, .bin .lss (.t 6) (.t 8)⟩])
 (.cond (.t 9)
 (.skip)
 (.exit 0)))
 (.seq (.block 1 (.reg [⟨(some 12), none, .mv (.t 0)⟩,
 ⟨(some 13), none, .mv (.t 1)⟩,
 ⟨(some 14), none, .mv (.t 5)⟩,
 ⟨(some 15), none, .ia 7 (.t 13) (.t 14)⟩,
 ⟨(some 16), none, .ld (some 7) (.t 15)⟩,
 ⟨(some 17), none, .build (.agg [(.int .i64 0), (.sl true []), (.int .i64 0), (.str ⟨⟨[]⟩⟩), (.sl true []), (.sl true []), (.sl true []), (.sl true []), (.sl true []), (.int .i64 0), (.bool false), (.int .i64 0), (.sl true []), (.sl true []), (.sl true []), (.sl true []), (.int .i64 0), (.sl true []), (.int .i64 0), (.int .i64 0), (.int .i64 0), (.int .i64 0), (.int .i64 0), (.str ⟨⟨[]⟩⟩), (.sl true [])]) [(0, 0, 1, (.c (.int .i64 4))), (4, 18, 7, (.t 16))]⟩,
 ⟨(some 18), none, .bsl 25 [(.t 17)]⟩,
 ⟨(some 19), none, .app 25 408 (.t 12) (.t 18)⟩,
 ⟨(some 0), none, .mv (.t 19)⟩]))
 (.reg [⟨(some 10), none, .mv (.t 5)⟩,
 ⟨(some 11), none, .bin .add (.t 10) (.c (.int .i64 1))⟩,
 ⟨(some 5), none, .mv (.t 11)⟩]))))))
 (.seq (.reg [⟨(some 20), none, .mv (.t 0)⟩,
 ⟨(some 4), none, .mv (.t 20)⟩])
 (.ret)))⟩
theorem ok228 : compF Tryz.prog Tryz.f228 = some c228 := by kernel_rfl

-- manorboy/manorboyref04.stmts
noncomputable def c229 : F' := ⟨21, [.t 4],
 .seq (.reg [⟨(some 4), none, .mv (.c (.sl true []))⟩])
 (.seq (.seq (.reg [⟨(some 5), none, .mv (.c (.int .i64 0))⟩])
 (.block 0 (.loop (.seq (.seq (.reg [⟨(some 6), none, .mv (.t 5)⟩,
 ⟨(some 7), none, .mv (.t 1)⟩,
 ⟨(some 8), none, .len false (.t 7)⟩,
 ⟨(some 9), none, .bin .lss (.t 6) (.t 8)⟩])
 (.cond (.t 9)
 (.skip)
 (.exit 0)))
 (.seq (.block 1 (.reg [⟨(some 12), none, .mv (.t 0)⟩,
 ⟨(some 13), none, .mv (.t 1)⟩,
 ⟨(some 14), none, .mv (.t 5)⟩,
 ⟨(some 15), none, .ia 8 (.t 13) (.t 14)⟩,
 ⟨(some 16), none, .ld (some 8) (.t 15)⟩,
 ⟨(some 17), none, .build (.agg [(.int .i64 0), (.sl true []), (.int .i64 0), (.str ⟨⟨[]⟩⟩), (.sl true []), (.sl true []), (.sl true []), (.sl true []), (.sl true []), (.int .i64 0), (.bool false), (.int .i64 0), (.sl true []), (.sl true []), (.sl true []), (.sl true []), (.int .i64 0), (.sl true []), (.int .i64 0), (.int .i64 0), (.int .i64 0), (.int .i64 0), (.int .i64 0), (.str ⟨⟨[]⟩⟩), (.sl true [])]) [(0, 0, 1, (.c (.int .i64 1))), (1, 1, 8, (.t 16))]⟩,
 ⟨(some 18), none, .bsl 25 [(.t 17)]⟩,
 ⟨(some 19), none, .app 25 408 (.t 12) (.t 18)⟩,
 ⟨(some 0), none, .mv (.t 19)⟩]))
 (.reg [⟨(some 10), none, .mv (.t 5)⟩,
 ⟨(some 11), none, .bin .add (.t 10) (.c (.int .i64 1))⟩,
 ⟨(some 5), none, .mv (.t 11)⟩]))))))
 (.seq (.reg [⟨(some 20), none, .mv (.t 0)⟩,
 ⟨(some 4), none, .mv (.t 20)⟩])
 (.ret)))⟩
theorem ok229 : compF Tryz.prog Tryz.f229 = some c229 := by kernel_rfl

-- manorboy/manorboyref04.Texts
noncomputable def c233 : F' := ⟨26, [.t 4],
 .seq (.reg [⟨(some 4), none, .mv (.c (.bool false))⟩])
 (.seq (.seq (.reg [⟨(some 6), none, .mv (.t 0)⟩,
 ⟨(some 7), none, .len false (.t 6)⟩,
 ⟨(some 8), none, .mv (.t 1)⟩,
 ⟨(some 9), none, .len false (.t 8)⟩,
 ⟨(some 10), none, .bin .neq (.t 7) (.t 9)⟩])
 (.cond (.t 10)
 (.seq (.reg [⟨(some 4), none, .mv (.c (.bool false))⟩])
 (.ret))
 (.skip)))
 (.seq (.seq (.reg [⟨(some 5), none, .mv (.c (.int .i64 0))⟩])
 (.block 0 (.loop (.seq (.seq (.reg [⟨(some 11), none, .mv (.t 5)⟩,
 ⟨(some 12), none, .mv (.t 0)⟩,
 ⟨(some 13), none, .len false (.t 12)⟩,
 ⟨(some 14), none, .bin .lss (.t 11) (.t 13)⟩])
 (.cond (.t 14)
 (.skip)
 (.exit 0)))
 (.seq (.block 1 (.seq (.draw [⟨⟨(some 17), none, .mv (.t 0)⟩, false, none, false, [], 0, 0⟩,
 ⟨⟨(some 18), none, .mv (.t 5)⟩, false, none, false, [], 0, 0⟩,
 ⟨⟨(some 19), none, .ia 1 (.t 17) (.t 18)⟩, false, none, false, [0, 1], 0, 0⟩,
 ⟨⟨(some 20), none, .ld none (.t 19)⟩, false, none, false, [2, 0, 1], 0, 0⟩,
 ⟨⟨(some 21), none, .mv (.t 1)⟩, false, none, false, [], 0, 0⟩,
 ⟨⟨(some 22), none, .mv (.t 5)⟩, false, none, false, [], 0, 0⟩,
 ⟨⟨(some 23), none, .ia 1 (.t 21) (.t 22)⟩, false, none, false, [4, 5], 0, 0⟩,
 ⟨⟨(some 24), none, .ld none (.t 23)⟩, false, none, false, [6, 4, 5], 0, 0⟩,
 ⟨⟨(some 25), none, .bin .neq (.t 20) (.t 24)⟩, false, none, false, [3, 7, 2, 0, 1, 6, 4, 5], 0, 0⟩] [])
 (.cond (.t 25)
 (.seq (.reg [⟨(some 4), none, .mv (.c (.bool false))⟩])
 (.ret))
 (.skip))))
 (.reg [⟨(some 15), none, .mv (.t 5)⟩,
 ⟨(some 16), none, .bin .add (.t 15) (.c (.int .i64 1))⟩,
 ⟨(some 5), none, .mv (.t 16)⟩]))))))
 (.seq (.reg [⟨(some 4), none, .mv (.c (.bool true))⟩])
 (.ret))))⟩
theorem ok233 : compF Tryz.prog Tryz.f233 = some c233 := by kernel_rfl

-- internal/strconv.small
noncomputable def c234 : F' := ⟨15, [.t 2],
 .seq (.reg [⟨(some 2), none, .mv (.c (.str ⟨⟨[]⟩⟩))⟩])
 (.seq (.seq (.reg [⟨(some 3), none, .mv (.t 0)⟩,
 ⟨(some 4), none, .bin .lss (.t 3) (.c (.int .i64 10))⟩])
 (.cond (.t 4)
 (.seq (.reg [⟨(some 5), none, .mv (.t 0)⟩,
 ⟨(some 6), none, .mv (.t 0)⟩,
 ⟨(some 7), none, .bin .add (.t 6) (.c (.int .i64 1))⟩,
 ⟨(some 8), none, .slc true 0 (.c (.str ⟨⟨[48, 49, 50, 51, 52, 53, 54, 55, 56, 57, 97, 98, 99, 100, 101, 102, 103, 104, 105, 106, 107, 108, 109, 110, 111, 112, 113, 114, 115, 116, 117, 118, 119, 120, 121, 122]⟩⟩)) (some (.t 5)) (some (.t 7))⟩,
 ⟨(some 2), none, .mv (.t 8)⟩])
 (.ret))
 (.skip)))
 (.seq (.reg [⟨(some 9), none, .mv (.t 0)⟩,
 ⟨(some 10), none, .bin .mul (.t 9) (.c (.int .i64 2))⟩,
 ⟨(some 11), none, .mv (.t 0)⟩,
 ⟨(some 12), none, .bin .mul (.t 11) (.c (.int .i64 2))⟩,
 ⟨(some 13), none, .bin .add (.t 12) (.c (.int .i64 2))⟩,
 ⟨(some 14), none, .slc true 0 (.c (.str ⟨⟨[48, 48, 48, 49, 48, 50, 48, 51, 48, 52, 48, 53, 48, 54, 48, 55, 48, 56, 48, 57, 49, 48, 49, 49, 49, 50, 49, 51, 49, 52, 49, 53, 49, 54, 49, 55, 49, 56, 49, 57, 50, 48, 50, 49, 50, 50, 50, 51, 50, 52, 50, 53, 50, 54, 50, 55, 50, 56, 50, 57, 51, 48, 51, 49, 51, 50, 51, 51, 51, 52, 51, 53, 51, 54, 51, 55, 51, 56, 51, 57, 52, 48, 52, 49, 52, 50, 52, 51, 52, 52, 52, 53, 52, 54, 52, 55, 52, 56, 52, 57, 53, 48, 53, 49, 53, 50, 53, 51, 53, 52, 53, 53, 53, 54, 53, 55, 53, 56, 53, 57, 54, 48, 54, 49, 54, 50, 54, 51, 54, 52, 54, 53, 54, 54, 54, 55, 54, 56, 54, 57, 55, 48, 55, 49, 55, 50, 55, 51, 55, 52, 55, 53, 55, 54, 55, 55, 55, 56, 55, 57, 56, 48, 56, 49, 56, 50, 56, 51, 56, 52, 56, 53, 56, 54, 56, 55, 56, 56, 56, 57, 57, 48, 57, 49, 57, 50, 57, 51, 57, 52, 57, 53, 57, 54, 57, 55, 57, 56, 57, 57]⟩⟩)) (some (.t 10)) (some (.t 13))⟩,
 ⟨(some 2), none, .mv (.t 14)⟩])
 (.ret)))⟩
theorem ok234 : compF Tryz.prog Tryz.f234 = some c234 := by kernel_rfl

-- slices.insertionSortOrdered[string]
noncomputable def c238 : F' := ⟨49, [],
 .seq (.reg [⟨(some 8), none, .mv (.t 1)⟩,
 ⟨(some 9), none, .bin .add (.t 8) (.c (.int .i64 1))⟩,
 ⟨(some 6), none, .mv (.t 9)⟩])
 (.block 0 (.loop (.seq (.seq (.reg [⟨(some 10), none, .mv (.t 6)⟩,
 ⟨(some 11), none, .mv (.t 2)⟩,
 ⟨(some 12), none, .bin .lss (.t 10) (.t 11)⟩])
 (.cond (.t 12)
 (.skip)
 (.exit 0)))
 (.seq (.block 1 (.seq (.reg [⟨(some 15), none, .mv (.t 6)⟩,
 ⟨(some 7), none, .mv (.t 15)⟩])
 (.block 2 (.loop (.seq (.seq (.draw [⟨⟨(some 16), none, .mv (.t 7)⟩, false, none, false, [], 0, 0⟩,
 ⟨⟨(some 17), none, .mv (.t 1)⟩, false, none, false, [], 0, 0⟩,
 ⟨⟨(some 18), none, .bin .gtr (.t 16) (.t 17)⟩, false, none, false, [0, 1], 0, 0⟩,
 ⟨⟨(some 19), none, .mv (.t 18)⟩, false, none, false, [2, 0, 1], 0, 0⟩,
 ⟨⟨(some 20), (some (19, true)), .mv (.t 0)⟩, false, none, false, [3, 2, 0, 1], 0, 0⟩,
 ⟨⟨(some 21), (some (19, true)), .mv (.t 7)⟩, false, none, false, [3, 2, 0, 1], 0, 0⟩,
 ⟨⟨(some 22), (some (19, true)), .ia 1 (.t 20) (.t 21)⟩, false, none, false, [4, 5, 3, 2, 0, 1], 0, 0⟩,
 ⟨⟨(some 23), (some (19, true)), .ld none (.t 22)⟩, false, none, false, [6, 4, 5, 3, 2, 0, 1], 0, 0⟩,
 ⟨⟨(some 24), (some (19, true)), .mv (.t 0)⟩, false, none, false, [3, 2, 0, 1], 0, 0⟩,
 ⟨⟨(some 25), (some (19, true)), .mv (.t 7)⟩, false, none, false, [3, 2, 0, 1], 0, 0⟩,
 ⟨⟨(some 26), (some (19, true)), .bin .sub (.t 25) (.c (.int .i64 1))⟩, false, none, false, [9, 3, 2, 0, 1], 0, 0⟩,
 ⟨⟨(some 27), (some (19, true)), .ia 1 (.t 24) (.t 26)⟩, false, none, false, [8, 10, 9, 3, 2, 0, 1], 0, 0⟩,
 ⟨⟨(some 28), (some (19, true)), .ld none (.t 27)⟩, false, none, false, [11, 8, 10, 9, 3, 2, 0, 1], 0, 0⟩,
 ⟨⟨(some 29), (some (19, true)), .call (.f 244) [(.t 23), (.t 28)]⟩, true, none, false, [7, 12, 6, 4, 5, 11, 8, 10, 9, 3, 2, 0, 1], 0, 0⟩,
 ⟨⟨(some 30), none, .pick (.t 19) (.t 29) (.c (.bool false))⟩, false, none, false, [13, 7, 12, 6, 4, 5, 11, 8, 10, 9, 3, 2, 0, 1], 1, 1⟩] [])
 (.cond (.t 30)
 (.skip)
 (.exit 2)))
 (.seq (.block 3 (.draw [⟨⟨(some 33), none, .mv (.t 0)⟩, false, none, false, [], 0, 0⟩,
 ⟨⟨(some 34), none, .mv (.t 7)⟩, false, none, false, [], 0, 0⟩,
 ⟨⟨(some 35), none, .mv (.t 0)⟩, false, none, false, [], 0, 1⟩,
 ⟨⟨(some 36), none, .mv (.t 7)⟩, false, none, false, [], 0, 1⟩,
 ⟨⟨(some 37), none, .bin .sub (.t 36) (.c (.int .i64 1))⟩, false, none, false, [3], 0, 1⟩,
 ⟨⟨(some 38), none, .mv (.t 0)⟩, false, none, false, [], 0, 0⟩,
 ⟨⟨(some 39), none, .mv (.t 7)⟩, false, none, false, [], 0, 0⟩,
 ⟨⟨(some 40), none, .bin .sub (.t 39) (.c (.int .i64 1))⟩, false, none, false, [6], 0, 0⟩,
 ⟨⟨(some 41), none, .ia 1 (.t 38) (.t 40)⟩, false, none, false, [5, 7, 6], 0, 0⟩,
 ⟨⟨(some 42), none, .ld none (.t 41)⟩, false, none, false, [8, 5, 7, 6], 0, 0⟩,
 ⟨⟨(some 43), none, .mv (.t 0)⟩, false, none, false, [], 0, 0⟩,
 ⟨⟨(some 44), none, .mv (.t 7)⟩, false, none, false, [], 0, 0⟩,
 ⟨⟨(some 45), none, .ia 1 (.t 43) (.t 44)⟩, false, none, false, [10, 11], 0, 0⟩,
 ⟨⟨(some 46), none, .ld none (.t 45)⟩, false, none, false, [12, 10, 11], 0, 0⟩,
 ⟨⟨(some 47), none, .ia 1 (.t 33) (.t 34)⟩, false, none, false, [0, 1, 9, 13, 8, 5, 7, 6, 12, 10, 11], 0, 0⟩,
 ⟨⟨none, none, .sto 1 (.t 47) (.t 42)⟩, true, none, false, [14, 0, 1, 9, 13, 8, 5, 7, 6, 12, 10, 11], 0, 0⟩,
 ⟨⟨(some 48), none, .ia 1 (.t 35) (.t 37)⟩, false, none, false, [2, 4, 15, 3, 14, 0, 1, 9, 13, 8, 5, 7, 6, 12, 10, 11], 1, 1⟩,
 ⟨⟨none, none, .sto 1 (.t 48) (.t 46)⟩, true, none, false, [16, 2, 4, 15, 3, 14, 0, 1, 9, 13, 8, 5, 7, 6, 12, 10, 11], 1, 1⟩] []))
 (.reg [⟨(some 31), none, .mv (.t 7)⟩,
 ⟨(some 32), none, .bin .sub (.t 31) (.c (.int .i64 1))⟩,
 ⟨(some 7), none, .mv (.t 32)⟩])))))))
 (.reg [⟨(some 13), none, .mv (.t 6)⟩,
 ⟨(some 14), none, .bin .add (.t 13) (.c (.int .i64 1))⟩,
 ⟨(some 6), none, .mv (.t 14)⟩])))))⟩
theorem ok238 : compF Tryz.prog Tryz.f238 = some c238 := by kernel_rfl

-- cmp.Less[string]
noncomputable def c244 : F' := ⟨17, [.t 4],
 .seq (.reg [⟨(some 4), none, .mv (.c (.bool false))⟩])
 (.seq (.reg [⟨(some 5), none, .mv (.t 0)⟩,
 ⟨(some 6), none, .call (.f 268) [(.t 5)]⟩,
 ⟨(some 7), none, .mv (.t 6)⟩,
 ⟨(some 8), (some (7, true)), .mv (.t 1)⟩,
 ⟨(some 9), (some (7, true)), .call (.f 268) [(.t 8)]⟩,
 ⟨(some 10), (some (7, true)), .un .not (.t 9)⟩,
 ⟨(some 11), none, .pick (.t 7) (.t 10) (.c (.bool false))⟩,
 ⟨(some 12), none, .mv (.t 11)⟩,
 ⟨(some 13), (some (12, false)), .mv (.t 0)⟩,
 ⟨(some 14), (some (12, false)), .mv (.t 1)⟩,
 ⟨(some 15), (some (12, false)), .bin .lss (.t 13) (.t 14)⟩,
 ⟨(some 16), none, .pick (.t 12) (.c (.bool true)) (.t 15)⟩,
 ⟨(some 4), none, .mv (.t 16)⟩])
 (.ret))⟩
theorem ok244 : compF Tryz.prog Tryz.f244 = some c244 := by kernel_rfl

-- math/bits.Len64
noncomputable def c248 : F' := ⟨25, [.t 2],
 .seq (.reg [⟨(some 2), none, .mv (.c (.int .i64 0))⟩])
 (.seq (.seq (.reg [⟨(some 3), none, .mv (.t 0)⟩,
 ⟨(some 4), none, .bin .geq (.t 3) (.c (.int .u64 4294967296))⟩])
 (.cond (.t 4)
 (.seq (.reg [⟨(some 5), none, .mv (.t 0)⟩,
 ⟨(some 6), none, .bin .shr (.t 5) (.c (.int .u64 32))⟩,
 ⟨(some 0), none, .mv (.t 6)⟩])
 (.reg [⟨(some 2), none, .mv (.c (.int .i64 32))⟩]))
 (.skip)))
 (.seq (.seq (.reg [⟨(some 7), none, .mv (.t 0)⟩,
 ⟨(some 8), none, .bin .geq (.t 7) (.c (.int .u64 65536))⟩])
 (.cond (.t 8)
 (.seq (.reg [⟨(some 9), none, .mv (.t 0)⟩,
 ⟨(some 10), none, .bin .shr (.t 9) (.c (.int .u64 16))⟩,
 ⟨(some 0), none, .mv (.t 10)⟩])
 (.reg [⟨(some 11), none, .mv (.t 2)⟩,
 ⟨(some 12), none, .bin .add (.t 11) (.c (.int .i64 16))⟩,
 ⟨(some 2), none, .mv (.t 12)⟩]))
 (.skip)))
 (.seq (.seq (.reg [⟨(some 13), none, .mv (.t 0)⟩,
 ⟨(some 14), none, .bin .geq (.t 13) (.c (.int .u64 256))⟩])
 (.cond (.t 14)
 (.seq (.reg [⟨(some 15), none, .mv (.t 0)⟩,
 ⟨(some 16), none, .bin .shr (.t 15) (.c (.int .u64 8))⟩,
 ⟨(some 0), none, .mv (.t 16)⟩])
 (.reg [⟨(some 17), none, .mv (.t 2)⟩,
 ⟨(some 18), none, .bin .add (.t 17) (.c (.int .i64 8))⟩,
 ⟨(some 2), none, .mv (.t 18)⟩]))
 (.skip)))
 (.seq (.reg [⟨(some 19), none, .mv (.t 2)⟩,
 ⟨(some 20), none, .mv (.t 0)⟩,
 ⟨(some 21), none, .conv .u8 (.t 20)⟩,
 ⟨(some 22), none, .idx (.c (.str ⟨⟨[0, 1, 2, 2, 3, 3, 3, 3, 4, 4, 4, 4, 4, 4, 4, 4, 5, 5, 5, 5, 5, 5, 5, 5, 5, 5, 5, 5, 5, 5, 5, 5, 6, 6, 6, 6, 6, 6, 6, 6, 6, 6, 6, 6, 6, 6, 6, 6, 6, 6, 6, 6, 6, 6, 6, 6, 6, 6, 6, 6, 6, 6, 6, 6, 7, 7, 7, 7, 7, 7, 7, 7, 7, 7, 7, 7, 7, 7, 7, 7, 7, 7, 7, 7, 7, 7, 7, 7, 7, 7, 7, 7, 7, 7, 7, 7, 7, 7, 7, 7, 7, 7, 7, 7, 7, 7, 7, 7, 7, 7, 7, 7, 7, 7, 7, 7, 7, 7, 7, 7, 7, 7, 7, 7, 7, 7, 7, 7, 8, 8, 8, 8, 8, 8, 8, 8, 8, 8, 8, 8, 8, 8, 8, 8, 8, 8, 8, 8, 8, 8, 8, 8, 8, 8, 8, 8, 8, 8, 8, 8, 8, 8, 8, 8, 8, 8, 8, 8, 8, 8, 8, 8, 8, 8, 8, 8, 8, 8, 8, 8, 8, 8, 8, 8, 8, 8, 8, 8, 8, 8, 8, 8, 8, 8, 8, 8, 8, 8, 8, 8, 8, 8, 8, 8, 8, 8, 8, 8, 8, 8, 8, 8, 8, 8, 8, 8, 8, 8, 8, 8, 8, 8, 8, 8, 8, 8, 8, 8, 8, 8, 8, 8, 8, 8, 8, 8, 8, 8, 8, 8, 8, 8, 8, 8, 8, 8, 8, 8, 8, 8, 8, 8, 8, 8, 8, 8]⟩⟩)) (.t 21)⟩,
 ⟨(some 23), none, .conv .i64 (.t 22)⟩,
 ⟨(some 24), none, .bin .add (.t 19) (.t 23)⟩,
 ⟨(some 2), none, .mv (.t 24)⟩])
 (.ret)))))⟩
theorem ok248 : compF Tryz.prog Tryz.f248 = some c248 := by kernel_rfl

-- manorboy/tree.areNames$1
noncomputable def c249 : F' := ⟨6, [.t 2],
 .seq (.reg [⟨(some 2), none, .mv (.c (.bool false))⟩])
 (.seq (.reg [⟨(some 3), none, .mv (.t 0)⟩,
 ⟨(some 4), none, .call (.f 57) [(.t 3)]⟩,
 ⟨(some 5), none, .un .not (.t 4)⟩,
 ⟨(some 2), none, .mv (.t 5)⟩])
 (.ret))⟩
theorem ok249 : compF Tryz.prog Tryz.f249 = some c249 := by kernel_rfl

-- manorboy/tree.validFormal
noncomputable def c250 : F' := ⟨52, [.t 2],
 .seq (.reg [⟨(some 1), none, .box (.t 0)⟩,
 ⟨(some 2), none, .mv (.c (.bool false))⟩])
 (.seq (.seq (.reg [⟨(some 3), none, .fa 0 (.t 1)⟩,
 ⟨(some 4), none, .ld none (.t 3)⟩,
 ⟨(some 5), none, .call (.f 57) [(.t 4)]⟩,
 ⟨(some 6), none, .un .not (.t 5)⟩])
 (.cond (.t 6)
 (.seq (.reg [⟨(some 2), none, .mv (.c (.bool false))⟩])
 (.ret))
 (.skip)))
 (.seq (.seq (.reg [⟨(some 7), none, .fa 2 (.t 1)⟩,
 ⟨(some 8), none, .ld none (.t 7)⟩])
 (.block 0 (.seq (.seq (.reg [⟨(some 10), none, .bin .eql (.t 8) (.c (.int .i64 0))⟩,
 ⟨(some 9), none, .mv (.t 10)⟩])
 (.cond (.t 9)
 (.skip)
 (.seq (.reg [⟨(some 11), none, .bin .eql (.t 8) (.c (.int .i64 3))⟩,
 ⟨(some 9), none, .mv (.t 11)⟩])
 (.cond (.t 9)
 (.skip)
 (.seq (.reg [⟨(some 12), none, .bin .eql (.t 8) (.c (.int .i64 4))⟩,
 ⟨(some 9), none, .mv (.t 12)⟩])
 (.cond (.t 9)
 (.skip)
 (.reg [⟨(some 13), none, .bin .eql (.t 8) (.c (.int .i64 5))⟩,
 ⟨(some 9), none, .mv (.t 13)⟩])))))))
 (.cond (.t 9)
 (.seq (.reg [⟨(some 14), none, .fa 3 (.t 1)⟩,
 ⟨(some 15), none, .ld none (.t 14)⟩,
 ⟨(some 16), none, .bin .eql (.t 15) (.c (.int .i64 0))⟩,
 ⟨(some 17), none, .mv (.t 16)⟩,
 ⟨(some 18), (some (17, true)), .fa 1 (.t 1)⟩,
 ⟨(some 19), (some (17, true)), .ld none (.t 18)⟩,
 ⟨(some 20), (some (17, true)), .un .not (.t 19)⟩,
 ⟨(some 21), none, .pick (.t 17) (.t 20) (.c (.bool false))⟩,
 ⟨(some 2), none, .mv (.t 21)⟩])
 (.ret))
 (.seq (.reg [⟨(some 23), none, .bin .eql (.t 8) (.c (.int .i64 1))⟩,
 ⟨(some 22), none, .mv (.t 23)⟩])
 (.cond (.t 22)
 (.seq (.reg [⟨(some 24), none, .fa 3 (.t 1)⟩,
 ⟨(some 25), none, .ld none (.t 24)⟩,
 ⟨(some 26), none, .call (.f 209) [(.t 25), (.c (.int .i64 1)), (.c (.int .i64 3))]⟩,
 ⟨(some 2), none, .mv (.t 26)⟩])
 (.ret))
 (.seq (.reg [⟨(some 28), none, .bin .eql (.t 8) (.c (.int .i64 2))⟩,
 ⟨(some 27), none, .mv (.t 28)⟩])
 (.cond (.t 27)
 (.seq (.reg [⟨(some 29), none, .fa 3 (.t 1)⟩,
 ⟨(some 30), none, .ld none (.t 29)⟩,
 ⟨(some 31), none, .call (.f 209) [(.t 30), (.c (.int .i64 0)), (.c (.int .i64 3))]⟩,
 ⟨(some 32), none, .mv (.t 31)⟩,
 ⟨(some 33), (some (32, true)), .fa 1 (.t 1)⟩,
 ⟨(some 34), (some (32, true)), .ld none (.t 33)⟩,
 ⟨(some 35), (some (32, true)), .un .not (.t 34)⟩,
 ⟨(some 36), (some (32, true)), .mv (.t 35)⟩,
 ⟨(some 37), (some (36, false)), .fa 3 (.t 1)⟩,
 ⟨(some 38), (some (36, false)), .ld none (.t 37)⟩,
 ⟨(some 39), (some (36, false)), .bin .neq (.t 38) (.c (.int .i64 0))⟩,
 ⟨(some 40), (some (32, true)), .pick (.t 36) (.c (.bool true)) (.t 39)⟩,
 ⟨(some 41), none, .pick (.t 32) (.t 40) (.c (.bool false))⟩,
 ⟨(some 2), none, .mv (.t 41)⟩])
 (.ret))
 (.seq (.reg [⟨(some 43), none, .bin .eql (.t 8) (.c (.int .i64 6))⟩,
 ⟨(some 42), none, .mv (.t 43)⟩])
 (.cond (.t 42)
 (.seq (.reg [⟨(some 44), none, .fa 3 (.t 1)⟩,
 ⟨(some 45), none, .ld none (.t 44)⟩,
 ⟨(some 46), none, .call (.f 209) [(.t 45), (.c (.int .i64 0)), (.c (.int .i64 3))]⟩,
 ⟨(some 47), none, .mv (.t 46)⟩,
 ⟨(some 48), (some (47, true)), .fa 1 (.t 1)⟩,
 ⟨(some 49), (some (47, true)), .ld none (.t 48)⟩,
 ⟨(some 50), (some (47, true)), .un .not (.t 49)⟩,
 ⟨(some 51), none, .pick (.t 47) (.t 50) (.c (.bool false))⟩,
 ⟨(some 2), none, .mv (.t 51)⟩])
 (.ret))
 (.skip)))))))))))
 (.seq (.reg [⟨(some 2), none, .mv (.c (.bool false))⟩])
 (.ret))))⟩
theorem ok250 : compF Tryz.prog Tryz.f250 = some c250 := by kernel_rfl

-- manorboy/tree.validFormals$1
noncomputable def c251 : F' := ⟨9, [.t 3],
 .seq (.reg [⟨(some 2), none, .box (.t 0)⟩,
 ⟨(some 3), none, .mv (.c (.bool false))⟩])
 (.seq (.reg [⟨(some 4), none, .fa 0 (.t 2)⟩,
 ⟨(some 5), none, .ld none (.t 4)⟩,
 ⟨(some 6), none, .fa 0 (.t 1)⟩,
 ⟨(some 7), none, .ld none (.t 6)⟩,
 ⟨(some 8), none, .bin .eql (.t 5) (.t 7)⟩,
 ⟨(some 3), none, .mv (.t 8)⟩])
 (.ret))⟩
theorem ok251 : compF Tryz.prog Tryz.f251 = some c251 := by kernel_rfl

-- slices.ContainsFunc[[]manorboy/api.Exp,manorboy/api.Exp]
noncomputable def c252 : F' := ⟨9, [.t 4],
 .seq (.reg [⟨(some 4), none, .mv (.c (.bool false))⟩])
 (.seq (.reg [⟨(some 5), none, .mv (.t 0)⟩,
 ⟨(some 6), none, .mv (.t 1)⟩,
 ⟨(some 7), none, .call (.f 269) [(.t 5), (.t 6)]⟩,
 ⟨(some 8), none, .bin .geq (.t 7) (.c (.int .i64 0))⟩,
 ⟨(some 4), none, .mv (.t 8)⟩])
 (.ret))⟩
theorem ok252 : compF Tryz.prog Tryz.f252 = some c252 := by kernel_rfl

-- manorboy/tree.areTargets$1
noncomputable def c253 : F' := ⟨11, [.t 2],
 .seq (.reg [⟨(some 1), none, .box (.t 0)⟩,
 ⟨(some 2), none, .mv (.c (.bool false))⟩])
 (.seq (.reg [⟨(some 3), none, .fa 0 (.t 1)⟩,
 ⟨(some 4), none, .ld none (.t 3)⟩,
 ⟨(some 5), none, .bin .neq (.t 4) (.c (.int .i64 6))⟩,
 ⟨(some 6), none, .mv (.t 5)⟩,
 ⟨(some 7), (some (6, true)), .fa 0 (.t 1)⟩,
 ⟨(some 8), (some (6, true)), .ld none (.t 7)⟩,
 ⟨(some 9), (some (6, true)), .bin .neq (.t 8) (.c (.int .i64 7))⟩,
 ⟨(some 10), none, .pick (.t 6) (.t 9) (.c (.bool false))⟩,
 ⟨(some 2), none, .mv (.t 10)⟩])
 (.ret))⟩
theorem ok253 : compF Tryz.prog Tryz.f253 = some c253 := by kernel_rfl

-- manorboy/copyrule.bound$1
noncomputable def c255 : F' := ⟨36, [],
 .seq (.reg [⟨(some 2), none, .box (.t 0)⟩])
 (.seq (.seq (.reg [⟨(some 8), none, .fa 6 (.t 1)⟩,
 ⟨(some 9), none, .ld none (.t 8)⟩,
 ⟨(some 10), none, .len false (.t 9)⟩,
 ⟨(some 11), none, .mv (.c (.int .i64 0))⟩])
 (.block 0 (.loop (.seq (.reg [⟨(some 12), none, .bin .lss (.t 11) (.t 10)⟩])
 (.seq (.cond (.t 12)
 (.skip)
 (.exit 0))
 (.seq (.block 1 (.seq (.reg [⟨(some 13), none, .ia 7 (.t 9) (.t 11)⟩,
 ⟨(some 14), none, .ld (some 7) (.t 13)⟩,
 ⟨(some 4), none, .new (.agg [(.int .i64 0), (.bool false), (.int .i64 0), (.sl true []), (.sl true []), (.sl true []), (.sl true [])])⟩,
 ⟨none, none, .sto 7 (.t 4) (.t 14)⟩])
 (.seq (.reg [⟨(some 15), none, .fa 3 (.t 4)⟩,
 ⟨(some 16), none, .ld none (.t 15)⟩,
 ⟨(some 17), none, .len false (.t 16)⟩,
 ⟨(some 18), none, .mv (.c (.int .i64 0))⟩])
 (.block 2 (.loop (.seq (.reg [⟨(some 19), none, .bin .lss (.t 18) (.t 17)⟩])
 (.seq (.cond (.t 19)
 (.skip)
 (.exit 2))
 (.seq (.block 3 (.seq (.reg [⟨(some 20), none, .ia 1 (.t 16) (.t 18)⟩,
 ⟨(some 21), none, .ld none (.t 20)⟩,
 ⟨(some 6), none, .mv (.t 21)⟩])
 (.seq (.reg [⟨(some 22), none, .ld none (.t 2)⟩,
 ⟨(some 23), none, .mv (.t 6)⟩,
 ⟨(some 24), none, .call (.t 22) [(.t 23)]⟩,
 ⟨(some 25), none, .un .not (.t 24)⟩])
 (.cond (.t 25)
 (.ret)
 (.skip)))))
 (.reg [⟨(some 26), none, .bin .add (.t 18) (.c (.int .i64 1))⟩,
 ⟨(some 18), none, .mv (.t 26)⟩])))))))))
 (.reg [⟨(some 27), none, .bin .add (.t 11) (.c (.int .i64 1))⟩,
 ⟨(some 11), none, .mv (.t 27)⟩])))))))
 (.seq (.reg [⟨(some 28), none, .fa 7 (.t 1)⟩,
 ⟨(some 29), none, .ld none (.t 28)⟩,
 ⟨(some 30), none, .call (.f 158) [(.t 29)]⟩])
 (.block 4 (.rf (.t 30) [31] (rfAt Tryz.f255 0).1 (rfAt Tryz.f255 0).2
 (.reg [⟨(some 7), none, .mv (.t 31)⟩])
 (.block 5 (.seq (.reg [⟨(some 32), none, .ld none (.t 2)⟩,
 ⟨(some 33), none, .mv (.t 7)⟩,
 ⟨(some 34), none, .call (.t 32) [(.t 33)]⟩,
 ⟨(some 35), none, .un .not (.t 34)⟩])
 (.cond (.t 35)
 (.ret)
 (.skip))))
 36 [31, 2, 7, 32, 33, 34, 35]))))⟩
theorem ok255 : compF Tryz.prog Tryz.f255 = some c255 := by kernel_rfl

-- cmp.isNaN[string]
noncomputable def c268 : F' := ⟨6, [.t 2],
 .seq (.reg [⟨(some 2), none, .mv (.c (.bool false))⟩])
 (.seq (.reg [⟨(some 3), none, .mv (.t 0)⟩,
 ⟨(some 4), none, .mv (.t 0)⟩,
 ⟨(some 5), none, .bin .neq (.t 3) (.t 4)⟩,
 ⟨(some 2), none, .mv (.t 5)⟩])
 (.ret))⟩
theorem ok268 : compF Tryz.prog Tryz.f268 = some c268 := by kernel_rfl

-- slices.IndexFunc[[]manorboy/api.Exp,manorboy/api.Exp]
noncomputable def c269 : F' := ⟨19, [.t 4],
 .seq (.reg [⟨(some 4), none, .mv (.c (.int .i64 0))⟩])
 (.seq (.seq (.reg [⟨(some 6), none, .mv (.t 0)⟩,
 ⟨(some 7), none, .len false (.t 6)⟩,
 ⟨(some 8), none, .mv (.c (.int .i64 0))⟩])
 (.block 0 (.loop (.seq (.reg [⟨(some 9), none, .bin .lss (.t 8) (.t 7)⟩])
 (.seq (.cond (.t 9)
 (.skip)
 (.exit 0))
 (.seq (.block 1 (.seq (.reg [⟨(some 10), none, .mv (.t 8)⟩,
 ⟨(some 5), none, .mv (.t 10)⟩])
 (.seq (.reg [⟨(some 11), none, .mv (.t 1)⟩,
 ⟨(some 12), none, .mv (.t 0)⟩,
 ⟨(some 13), none, .mv (.t 5)⟩,
 ⟨(some 14), none, .ia 7 (.t 12) (.t 13)⟩,
 ⟨(some 15), none, .ld (some 7) (.t 14)⟩,
 ⟨(some 16), none, .call (.t 11) [(.t 15)]⟩])
 (.cond (.t 16)
 (.seq (.reg [⟨(some 17), none, .mv (.t 5)⟩,
 ⟨(some 4), none, .mv (.t 17)⟩])
 (.ret))
 (.skip)))))
 (.reg [⟨(some 18), none, .bin .add (.t 8) (.c (.int .i64 1))⟩,
 ⟨(some 8), none, .mv (.t 18)⟩])))))))
 (.seq (.reg [⟨(some 4), none, .mv (.c (.int .i64 (-1)))⟩])
 (.ret)))⟩
theorem ok269 : compF Tryz.prog Tryz.f269 = some c269 := by kernel_rfl

end Go.Proofs.YtbifpocccfkhhaaGreatDoor
