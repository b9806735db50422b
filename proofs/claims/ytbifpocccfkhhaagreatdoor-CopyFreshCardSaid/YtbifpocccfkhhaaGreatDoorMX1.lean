/- Compiled functions, and that they are what the program is. -/
import Derived.Test.YtbifpocccfkhhaaGreatDoorLai
import Derived.Test.YtbifpocccfkhhaaGreatDoorProg
import Derived.KernelRfl
namespace Go.Proofs.YtbifpocccfkhhaaGreatDoor
open Go
set_option maxRecDepth 20000
-- manorboy/manorboylaw09.CopyFresh
noncomputable def c13 : F' := ⟨50, [.t 4],
 .seq (.reg [⟨(some 4), none, .mv (.c (.bool false))⟩])
 (.seq (.seq (.reg [⟨(some 9), none, .mv (.t 1)⟩,
 ⟨(some 10), none, .len false (.t 9)⟩,
 ⟨(some 11), none, .bin .gtr (.t 10) (.c (.int .i64 520))⟩])
 (.cond (.t 11)
 (.seq (.reg [⟨(some 12), none, .call (.f 18) []⟩,
 ⟨(some 4), none, .mv (.t 12)⟩])
 (.ret))
 (.skip)))
 (.seq (.reg [⟨(some 14), none, .mv (.t 0)⟩,
 ⟨(some 15), none, .mv (.t 1)⟩,
 ⟨(some 16), none, .call (.f 44) [(.t 14), (.t 15)]⟩,
 ⟨(some 13), none, .mv (.t 16)⟩,
 ⟨(some 17), none, .ext 0 (.t 13)⟩,
 ⟨(some 18), none, .ext 1 (.t 13)⟩,
 ⟨(some 5), none, .mv (.t 17)⟩,
 ⟨(some 6), none, .mv (.t 18)⟩])
 (.seq (.reg [⟨(some 7), none, .mv (.c (.int .i64 0))⟩])
 (.seq (.reg [⟨(some 19), none, .mv (.t 0)⟩,
 ⟨(some 20), none, .call (.f 21) [(.t 19)]⟩,
 ⟨(some 8), none, .mv (.t 20)⟩])
 (.seq (.seq (.reg [⟨(some 21), none, .mv (.t 8)⟩,
 ⟨(some 22), none, .un .not (.t 21)⟩])
 (.cond (.t 22)
 (.reg [⟨(some 7), none, .mv (.c (.int .i64 1))⟩])
 (.seq (.reg [⟨(some 23), none, .mv (.t 1)⟩,
 ⟨(some 24), none, .len false (.t 23)⟩,
 ⟨(some 25), none, .bin .gtr (.t 24) (.c (.int .i64 500))⟩])
 (.cond (.t 25)
 (.reg [⟨(some 7), none, .mv (.c (.int .i64 2))⟩])
 (.skip)))))
 (.seq (.seq (.reg [⟨(some 26), none, .mv (.t 7)⟩,
 ⟨(some 27), none, .bin .neq (.t 26) (.c (.int .i64 0))⟩])
 (.cond (.t 27)
 (.seq (.reg [⟨(some 28), none, .call (.f 18) []⟩,
 ⟨(some 29), none, .mv (.t 28)⟩,
 ⟨(some 30), (some (29, true)), .mv (.t 6)⟩,
 ⟨(some 31), (some (29, true)), .mv (.t 7)⟩,
 ⟨(some 32), (some (29, true)), .bin .eql (.t 30) (.t 31)⟩,
 ⟨(some 33), none, .pick (.t 29) (.t 32) (.c (.bool false))⟩,
 ⟨(some 34), none, .mv (.t 33)⟩,
 ⟨(some 35), (some (34, true)), .mv (.t 5)⟩,
 ⟨(some 36), (some (34, true)), .bin .eql (.t 35) (.c (.str ⟨⟨[]⟩⟩))⟩,
 ⟨(some 37), none, .pick (.t 34) (.t 36) (.c (.bool false))⟩,
 ⟨(some 4), none, .mv (.t 37)⟩])
 (.ret))
 (.skip)))
 (.seq (.reg [⟨(some 38), none, .call (.f 18) []⟩,
 ⟨(some 39), none, .mv (.t 38)⟩,
 ⟨(some 40), (some (39, true)), .mv (.t 6)⟩,
 ⟨(some 41), (some (39, true)), .bin .eql (.t 40) (.c (.int .i64 0))⟩,
 ⟨(some 42), none, .pick (.t 39) (.t 41) (.c (.bool false))⟩,
 ⟨(some 43), none, .mv (.t 42)⟩,
 ⟨(some 44), (some (43, true)), .mv (.t 5)⟩,
 ⟨(some 45), (some (43, true)), .mv (.t 0)⟩,
 ⟨(some 46), (some (43, true)), .mv (.t 1)⟩,
 ⟨(some 47), (some (43, true)), .call (.f 45) [(.t 45), (.t 46)]⟩,
 ⟨(some 48), (some (43, true)), .bin .eql (.t 44) (.t 47)⟩,
 ⟨(some 49), none, .pick (.t 43) (.t 48) (.c (.bool false))⟩,
 ⟨(some 4), none, .mv (.t 49)⟩])
 (.ret))))))))⟩
theorem ok13 : compF Tryz.prog Tryz.f13 = some c13 := by kernel_rfl

-- manorboy/copyrule.Fresh
noncomputable def c44 : F' := ⟨20, [.t 4, .t 5],
 .seq (.reg [⟨(some 4), none, .mv (.c (.str ⟨⟨[]⟩⟩))⟩,
 ⟨(some 5), none, .mv (.c (.int .i64 0))⟩])
 (.seq (.seq (.reg [⟨(some 7), none, .mv (.t 0)⟩,
 ⟨(some 8), none, .call (.f 57) [(.t 7)]⟩,
 ⟨(some 9), none, .un .not (.t 8)⟩])
 (.cond (.t 9)
 (.seq (.reg [⟨(some 4), none, .mv (.c (.str ⟨⟨[]⟩⟩))⟩,
 ⟨(some 5), none, .mv (.c (.int .i64 1))⟩])
 (.ret))
 (.skip)))
 (.seq (.seq (.reg [⟨(some 10), none, .mv (.t 1)⟩,
 ⟨(some 11), none, .len false (.t 10)⟩,
 ⟨(some 12), none, .bin .gtr (.t 11) (.c (.int .i64 500))⟩])
 (.cond (.t 12)
 (.seq (.reg [⟨(some 4), none, .mv (.c (.str ⟨⟨[]⟩⟩))⟩,
 ⟨(some 5), none, .mv (.c (.int .i64 2))⟩])
 (.ret))
 (.skip)))
 (.seq (.reg [⟨(some 13), none, .ex (.mkm)⟩,
 ⟨(some 6), none, .new .nilmap⟩,
 ⟨none, none, .sto 1 (.t 6) (.t 13)⟩])
 (.seq (.reg [⟨(some 14), none, .ld none (.t 6)⟩,
 ⟨(some 15), none, .mv (.t 1)⟩,
 ⟨(some 16), none, .call (.f 79) [(.t 14), (.t 15)]⟩])
 (.seq (.reg [⟨(some 17), none, .mv (.t 0)⟩,
 ⟨(some 18), none, .mkf 93 [] [(.t 6)]⟩,
 ⟨(some 19), none, .call (.f 77) [(.t 17), (.t 18)]⟩,
 ⟨(some 4), none, .mv (.t 19)⟩,
 ⟨(some 5), none, .mv (.c (.int .i64 0))⟩])
 (.ret))))))⟩
theorem ok44 : compF Tryz.prog Tryz.f44 = some c44 := by kernel_rfl

-- manorboy/manorboyref09.Fresh
noncomputable def c45 : F' := ⟨32, [.t 4],
 .seq (.reg [⟨(some 4), none, .mv (.c (.str ⟨⟨[]⟩⟩))⟩])
 (.seq (.seq (.reg [⟨(some 8), none, .mv (.t 1)⟩,
 ⟨(some 9), none, .mv (.t 0)⟩,
 ⟨(some 10), none, .call (.f 34) [(.t 8), (.t 9)]⟩,
 ⟨(some 11), none, .un .not (.t 10)⟩])
 (.cond (.t 11)
 (.seq (.reg [⟨(some 12), none, .mv (.t 0)⟩,
 ⟨(some 4), none, .mv (.t 12)⟩])
 (.ret))
 (.skip)))
 (.seq (.reg [⟨(some 5), none, .mv (.c (.int .i64 1))⟩])
 (.block 0 (.loop (.seq (.block 1 (.seq (.reg [⟨(some 15), none, .mv (.t 5)⟩,
 ⟨(some 16), none, .call (.f 94) [(.t 15)]⟩,
 ⟨(some 6), none, .mv (.t 16)⟩])
 (.seq (.reg [⟨(some 17), none, .mv (.t 0)⟩,
 ⟨(some 18), none, .mv (.t 0)⟩,
 ⟨(some 19), none, .len true (.t 18)⟩,
 ⟨(some 20), none, .mv (.t 6)⟩,
 ⟨(some 21), none, .len true (.t 20)⟩,
 ⟨(some 22), none, .bin .sub (.c (.int .i64 16)) (.t 21)⟩,
 ⟨(some 23), none, .ex (.mm false (.t 19) (.t 22))⟩,
 ⟨(some 24), none, .slc true 0 (.t 17) none (some (.t 23))⟩,
 ⟨(some 25), none, .mv (.t 6)⟩,
 ⟨(some 26), none, .bin .add (.t 24) (.t 25)⟩,
 ⟨(some 7), none, .mv (.t 26)⟩])
 (.seq (.reg [⟨(some 27), none, .mv (.t 1)⟩,
 ⟨(some 28), none, .mv (.t 7)⟩,
 ⟨(some 29), none, .call (.f 34) [(.t 27), (.t 28)]⟩,
 ⟨(some 30), none, .un .not (.t 29)⟩])
 (.cond (.t 30)
 (.seq (.reg [⟨(some 31), none, .mv (.t 7)⟩,
 ⟨(some 4), none, .mv (.t 31)⟩])
 (.ret))
 (.skip))))))
 (.reg [⟨(some 13), none, .mv (.t 5)⟩,
 ⟨(some 14), none, .bin .add (.t 13) (.c (.int .i64 1))⟩,
 ⟨(some 5), none, .mv (.t 14)⟩]))))))⟩
theorem ok45 : compF Tryz.prog Tryz.f45 = some c45 := by kernel_rfl

-- manorboy/manorboyref03.IsName
noncomputable def c21 : F' := ⟨26, [.t 2],
 .seq (.reg [⟨(some 2), none, .mv (.c (.bool false))⟩])
 (.seq (.seq (.reg [⟨(some 3), none, .mv (.t 0)⟩,
 ⟨(some 4), none, .len true (.t 3)⟩,
 ⟨(some 5), none, .bin .lss (.t 4) (.c (.int .i64 1))⟩,
 ⟨(some 6), none, .mv (.t 5)⟩,
 ⟨(some 7), (some (6, false)), .mv (.t 0)⟩,
 ⟨(some 8), (some (6, false)), .len true (.t 7)⟩,
 ⟨(some 9), (some (6, false)), .bin .gtr (.t 8) (.c (.int .i64 16))⟩,
 ⟨(some 10), none, .pick (.t 6) (.c (.bool true)) (.t 9)⟩,
 ⟨(some 11), none, .mv (.t 10)⟩,
 ⟨(some 12), (some (11, false)), .mv (.t 0)⟩,
 ⟨(some 13), (some (11, false)), .idx (.t 12) (.c (.int .i64 0))⟩,
 ⟨(some 14), (some (11, false)), .call (.f 64) [(.t 13)]⟩,
 ⟨(some 15), (some (11, false)), .un .not (.t 14)⟩,
 ⟨(some 16), none, .pick (.t 11) (.c (.bool true)) (.t 15)⟩,
 ⟨(some 17), none, .mv (.t 16)⟩,
 ⟨(some 18), (some (17, false)), .mv (.t 0)⟩,
 ⟨(some 19), (some (17, false)), .call (.f 65) [(.t 18)]⟩,
 ⟨(some 20), none, .pick (.t 17) (.c (.bool true)) (.t 19)⟩])
 (.cond (.t 20)
 (.seq (.reg [⟨(some 2), none, .mv (.c (.bool false))⟩])
 (.ret))
 (.skip)))
 (.seq (.reg [⟨(some 21), none, .mv (.t 0)⟩,
 ⟨(some 22), none, .call (.f 66) [(.t 21), (.c (.int .i64 0))]⟩,
 ⟨(some 23), none, .mv (.t 0)⟩,
 ⟨(some 24), none, .len true (.t 23)⟩,
 ⟨(some 25), none, .bin .eql (.t 22) (.t 24)⟩,
 ⟨(some 2), none, .mv (.t 25)⟩])
 (.ret)))⟩
theorem ok21 : compF Tryz.prog Tryz.f21 = some c21 := by kernel_rfl

-- manorboy/copyrule.Fresh$1
noncomputable def c93 : F' := ⟨7, [.t 3],
 .seq (.reg [⟨(some 3), none, .mv (.c (.bool false))⟩])
 (.seq (.reg [⟨(some 4), none, .ld none (.t 1)⟩,
 ⟨(some 5), none, .mv (.t 0)⟩,
 ⟨(some 6), none, .ex (.lkp .str (.bool false) false (.t 4) (.t 5))⟩,
 ⟨(some 3), none, .mv (.t 6)⟩])
 (.ret))⟩
theorem ok93 : compF Tryz.prog Tryz.f93 = some c93 := by kernel_rfl

-- manorboy/manorboyref09.digits
noncomputable def c94 : F' := ⟨23, [.t 2],
 .seq (.reg [⟨(some 2), none, .mv (.c (.str ⟨⟨[]⟩⟩))⟩])
 (.seq (.reg [⟨(some 4), none, .mv (.t 0)⟩,
 ⟨(some 5), none, .bin .rem (.t 4) (.c (.int .i64 10))⟩,
 ⟨(some 6), none, .bin .add (.c (.int .i64 48)) (.t 5)⟩,
 ⟨(some 7), none, .conv .u8 (.t 6)⟩,
 ⟨(some 8), none, .bsl 1 [(.t 7)]⟩,
 ⟨(some 9), none, .ex (.cts (.t 8))⟩,
 ⟨(some 3), none, .mv (.t 9)⟩])
 (.seq (.block 0 (.loop (.seq (.seq (.reg [⟨(some 10), none, .mv (.t 0)⟩,
 ⟨(some 11), none, .bin .gtr (.t 10) (.c (.int .i64 9))⟩])
 (.cond (.t 11)
 (.skip)
 (.exit 0)))
 (.block 1 (.seq (.reg [⟨(some 12), none, .mv (.t 0)⟩,
 ⟨(some 13), none, .bin .quo (.t 12) (.c (.int .i64 10))⟩,
 ⟨(some 0), none, .mv (.t 13)⟩])
 (.reg [⟨(some 14), none, .mv (.t 0)⟩,
 ⟨(some 15), none, .bin .rem (.t 14) (.c (.int .i64 10))⟩,
 ⟨(some 16), none, .bin .add (.c (.int .i64 48)) (.t 15)⟩,
 ⟨(some 17), none, .conv .u8 (.t 16)⟩,
 ⟨(some 18), none, .bsl 1 [(.t 17)]⟩,
 ⟨(some 19), none, .ex (.cts (.t 18))⟩,
 ⟨(some 20), none, .mv (.t 3)⟩,
 ⟨(some 21), none, .bin .add (.t 19) (.t 20)⟩,
 ⟨(some 3), none, .mv (.t 21)⟩]))))))
 (.seq (.reg [⟨(some 22), none, .mv (.t 3)⟩,
 ⟨(some 2), none, .mv (.t 22)⟩])
 (.ret))))⟩
theorem ok94 : compF Tryz.prog Tryz.f94 = some c94 := by kernel_rfl

-- manorboy/manorboyref09.In
noncomputable def c34 : F' := ⟨18, [.t 4],
 .seq (.reg [⟨(some 4), none, .mv (.c (.bool false))⟩])
 (.seq (.seq (.reg [⟨(some 5), none, .mv (.c (.int .i64 0))⟩])
 (.block 0 (.loop (.seq (.seq (.reg [⟨(some 6), none, .mv (.t 5)⟩,
 ⟨(some 7), none, .mv (.t 0)⟩,
 ⟨(some 8), none, .len false (.t 7)⟩,
 ⟨(some 9), none, .bin .lss (.t 6) (.t 8)⟩])
 (.cond (.t 9)
 (.skip)
 (.exit 0)))
 (.seq (.block 1 (.seq (.reg [⟨(some 12), none, .mv (.t 0)⟩,
 ⟨(some 13), none, .mv (.t 5)⟩,
 ⟨(some 14), none, .ia 1 (.t 12) (.t 13)⟩,
 ⟨(some 15), none, .ld none (.t 14)⟩,
 ⟨(some 16), none, .mv (.t 1)⟩,
 ⟨(some 17), none, .bin .eql (.t 15) (.t 16)⟩])
 (.cond (.t 17)
 (.seq (.reg [⟨(some 4), none, .mv (.c (.bool true))⟩])
 (.ret))
 (.skip))))
 (.reg [⟨(some 10), none, .mv (.t 5)⟩,
 ⟨(some 11), none, .bin .add (.t 10) (.c (.int .i64 1))⟩,
 ⟨(some 5), none, .mv (.t 11)⟩]))))))
 (.seq (.reg [⟨(some 4), none, .mv (.c (.bool false))⟩])
 (.ret)))⟩
theorem ok34 : compF Tryz.prog Tryz.f34 = some c34 := by kernel_rfl

-- manorboy/manorboyref03.letter
noncomputable def c64 : F' := ⟨9, [.t 2],
 .seq (.reg [⟨(some 2), none, .mv (.c (.bool false))⟩])
 (.seq (.reg [⟨(some 3), none, .mv (.t 0)⟩,
 ⟨(some 4), none, .bin .leq (.c (.int .u8 97)) (.t 3)⟩,
 ⟨(some 5), none, .mv (.t 4)⟩,
 ⟨(some 6), (some (5, true)), .mv (.t 0)⟩,
 ⟨(some 7), (some (5, true)), .bin .leq (.t 6) (.c (.int .u8 122))⟩,
 ⟨(some 8), none, .pick (.t 5) (.t 7) (.c (.bool false))⟩,
 ⟨(some 2), none, .mv (.t 8)⟩])
 (.ret))⟩
theorem ok64 : compF Tryz.prog Tryz.f64 = some c64 := by kernel_rfl

-- manorboy/manorboyref03.IsWord
noncomputable def c65 : F' := ⟨6, [.t 2],
 .seq (.reg [⟨(some 2), none, .mv (.c (.bool false))⟩])
 (.seq (.reg [⟨(some 3), none, .mv (.t 0)⟩,
 ⟨(some 4), none, .call (.f 115) []⟩,
 ⟨(some 5), none, .call (.f 114) [(.t 3), (.t 4)]⟩,
 ⟨(some 2), none, .mv (.t 5)⟩])
 (.ret))⟩
theorem ok65 : compF Tryz.prog Tryz.f65 = some c65 := by kernel_rfl

-- manorboy/manorboyref03.run
noncomputable def c66 : F' := ⟨24, [.t 4],
 .seq (.reg [⟨(some 4), none, .mv (.c (.int .i64 0))⟩])
 (.seq (.block 0 (.loop (.seq (.seq (.reg [⟨(some 5), none, .mv (.t 1)⟩,
 ⟨(some 6), none, .mv (.t 0)⟩,
 ⟨(some 7), none, .len true (.t 6)⟩,
 ⟨(some 8), none, .bin .lss (.t 5) (.t 7)⟩,
 ⟨(some 9), none, .mv (.t 8)⟩,
 ⟨(some 10), (some (9, true)), .mv (.t 0)⟩,
 ⟨(some 11), (some (9, true)), .mv (.t 1)⟩,
 ⟨(some 12), (some (9, true)), .idx (.t 10) (.t 11)⟩,
 ⟨(some 13), (some (9, true)), .call (.f 64) [(.t 12)]⟩,
 ⟨(some 14), (some (9, true)), .mv (.t 13)⟩,
 ⟨(some 15), (some (14, false)), .mv (.t 0)⟩,
 ⟨(some 16), (some (14, false)), .mv (.t 1)⟩,
 ⟨(some 17), (some (14, false)), .idx (.t 15) (.t 16)⟩,
 ⟨(some 18), (some (14, false)), .call (.f 116) [(.t 17)]⟩,
 ⟨(some 19), (some (9, true)), .pick (.t 14) (.c (.bool true)) (.t 18)⟩,
 ⟨(some 20), none, .pick (.t 9) (.t 19) (.c (.bool false))⟩])
 (.cond (.t 20)
 (.skip)
 (.exit 0)))
 (.block 1 (.reg [⟨(some 21), none, .mv (.t 1)⟩,
 ⟨(some 22), none, .bin .add (.t 21) (.c (.int .i64 1))⟩,
 ⟨(some 1), none, .mv (.t 22)⟩])))))
 (.seq (.reg [⟨(some 23), none, .mv (.t 1)⟩,
 ⟨(some 4), none, .mv (.t 23)⟩])
 (.ret)))⟩
theorem ok66 : compF Tryz.prog Tryz.f66 = some c66 := by kernel_rfl

-- manorboy/manorboyref03.Words
noncomputable def c115 : F' := ⟨2, [.t 0],
 .seq (.reg [⟨(some 0), none, .mv (.c (.sl true []))⟩])
 (.seq (.reg [⟨(some 1), none, .bsl 1 [(.c (.str ⟨⟨[98, 101, 103, 105, 110]⟩⟩)), (.c (.str ⟨⟨[101, 110, 100]⟩⟩)), (.c (.str ⟨⟨[105, 102]⟩⟩)), (.c (.str ⟨⟨[116, 104, 101, 110]⟩⟩)), (.c (.str ⟨⟨[101, 108, 115, 101]⟩⟩)), (.c (.str ⟨⟨[102, 111, 114]⟩⟩)), (.c (.str ⟨⟨[100, 111]⟩⟩)), (.c (.str ⟨⟨[115, 116, 101, 112]⟩⟩)), (.c (.str ⟨⟨[117, 110, 116, 105, 108]⟩⟩)), (.c (.str ⟨⟨[119, 104, 105, 108, 101]⟩⟩)), (.c (.str ⟨⟨[103, 111, 116, 111]⟩⟩)), (.c (.str ⟨⟨[111, 119, 110]⟩⟩)), (.c (.str ⟨⟨[105, 110, 116, 101, 103, 101, 114]⟩⟩)), (.c (.str ⟨⟨[114, 101, 97, 108]⟩⟩)), (.c (.str ⟨⟨[98, 111, 111, 108, 101, 97, 110]⟩⟩)), (.c (.str ⟨⟨[97, 114, 114, 97, 121]⟩⟩)), (.c (.str ⟨⟨[115, 119, 105, 116, 99, 104]⟩⟩)), (.c (.str ⟨⟨[112, 114, 111, 99, 101, 100, 117, 114, 101]⟩⟩)), (.c (.str ⟨⟨[118, 97, 108, 117, 101]⟩⟩)), (.c (.str ⟨⟨[108, 97, 98, 101, 108]⟩⟩)), (.c (.str ⟨⟨[115, 116, 114, 105, 110, 103]⟩⟩)), (.c (.str ⟨⟨[116, 114, 117, 101]⟩⟩)), (.c (.str ⟨⟨[102, 97, 108, 115, 101]⟩⟩)), (.c (.str ⟨⟨[99, 111, 109, 109, 101, 110, 116]⟩⟩)), (.c (.str ⟨⟨[110, 111, 116]⟩⟩)), (.c (.str ⟨⟨[97, 110, 100]⟩⟩)), (.c (.str ⟨⟨[111, 114]⟩⟩)), (.c (.str ⟨⟨[105, 109, 112]⟩⟩)), (.c (.str ⟨⟨[101, 113, 118]⟩⟩))]⟩,
 ⟨(some 0), none, .mv (.t 1)⟩])
 (.ret))⟩
theorem ok115 : compF Tryz.prog Tryz.f115 = some c115 := by kernel_rfl

-- manorboy/manorboyref03.in
noncomputable def c114 : F' := ⟨18, [.t 4],
 .seq (.reg [⟨(some 4), none, .mv (.c (.bool false))⟩])
 (.seq (.seq (.reg [⟨(some 5), none, .mv (.c (.int .i64 0))⟩])
 (.block 0 (.loop (.seq (.seq (.reg [⟨(some 6), none, .mv (.t 5)⟩,
 ⟨(some 7), none, .mv (.t 1)⟩,
 ⟨(some 8), none, .len false (.t 7)⟩,
 ⟨(some 9), none, .bin .lss (.t 6) (.t 8)⟩])
 (.cond (.t 9)
 (.skip)
 (.exit 0)))
 (.seq (.block 1 (.seq (.reg [⟨(some 12), none, .mv (.t 1)⟩,
 ⟨(some 13), none, .mv (.t 5)⟩,
 ⟨(some 14), none, .ia 1 (.t 12) (.t 13)⟩,
 ⟨(some 15), none, .ld none (.t 14)⟩,
 ⟨(some 16), none, .mv (.t 0)⟩,
 ⟨(some 17), none, .bin .eql (.t 15) (.t 16)⟩])
 (.cond (.t 17)
 (.seq (.reg [⟨(some 4), none, .mv (.c (.bool true))⟩])
 (.ret))
 (.skip))))
 (.reg [⟨(some 10), none, .mv (.t 5)⟩,
 ⟨(some 11), none, .bin .add (.t 10) (.c (.int .i64 1))⟩,
 ⟨(some 5), none, .mv (.t 11)⟩]))))))
 (.seq (.reg [⟨(some 4), none, .mv (.c (.bool false))⟩])
 (.ret)))⟩
theorem ok114 : compF Tryz.prog Tryz.f114 = some c114 := by kernel_rfl

-- manorboy/manorboyref03.digit
noncomputable def c116 : F' := ⟨9, [.t 2],
 .seq (.reg [⟨(some 2), none, .mv (.c (.bool false))⟩])
 (.seq (.reg [⟨(some 3), none, .mv (.t 0)⟩,
 ⟨(some 4), none, .bin .leq (.c (.int .u8 48)) (.t 3)⟩,
 ⟨(some 5), none, .mv (.t 4)⟩,
 ⟨(some 6), (some (5, true)), .mv (.t 0)⟩,
 ⟨(some 7), (some (5, true)), .bin .leq (.t 6) (.c (.int .u8 57))⟩,
 ⟨(some 8), none, .pick (.t 5) (.t 7) (.c (.bool false))⟩,
 ⟨(some 2), none, .mv (.t 8)⟩])
 (.ret))⟩
theorem ok116 : compF Tryz.prog Tryz.f116 = some c116 := by kernel_rfl

end Go.Proofs.YtbifpocccfkhhaaGreatDoor
