/- Compiled functions, and that they are what the program is. -/
import Derived.Test.YtbifpocccfkhhaaGreatDoorLai
import Derived.Test.YtbifpocccfkhhaaGreatDoorProg
import Derived.KernelRfl
namespace Go.Proofs.YtbifpocccfkhhaaGreatDoor
open Go
set_option maxRecDepth 20000
-- manorboy/manorboylaw09.sanity
noncomputable def c18 : F' := ⟨182, [.t 0],
 .seq (.reg [⟨(some 0), none, .mv (.c (.bool false))⟩])
 (.seq (.reg [⟨(some 25), none, .call (.f 33) [(.c (.str ⟨⟨[121]⟩⟩))]⟩,
 ⟨(some 26), none, .call (.f 33) [(.c (.str ⟨⟨[122]⟩⟩))]⟩,
 ⟨(some 27), none, .call (.f 53) [(.c (.str ⟨⟨[120]⟩⟩)), (.c (.str ⟨⟨[108]⟩⟩)), (.t 25), (.t 26)]⟩,
 ⟨(some 1), none, .new (.agg [(.sl true []), (.int .i64 0), (.str ⟨⟨[]⟩⟩), (.sl true []), (.sl true []), (.sl true []), (.sl true []), (.sl true [])])⟩,
 ⟨none, none, .sto 8 (.t 1) (.t 27)⟩])
 (.seq (.reg [⟨(some 28), none, .call (.f 33) [(.c (.str ⟨⟨[120]⟩⟩))]⟩,
 ⟨(some 29), none, .build (.agg [(.int .i64 0), (.int .i64 0), (.int .i64 0), (.int .i64 0), (.int .i64 0), (.str ⟨⟨[]⟩⟩), (.sl true [])]) [(0, 0, 1, (.c (.int .i64 1))), (2, 2, 1, (.c (.int .i64 2)))]⟩,
 ⟨(some 30), none, .bsl 7 [(.t 28), (.t 29)]⟩,
 ⟨(some 31), none, .build (.agg [(.int .i64 0), (.int .i64 0), (.int .i64 0), (.int .i64 0), (.int .i64 0), (.str ⟨⟨[]⟩⟩), (.sl true [])]) [(0, 0, 1, (.c (.int .i64 10))), (1, 1, 1, (.c (.int .i64 5))), (5, 6, 1, (.t 30))]⟩,
 ⟨(some 2), none, .new (.agg [(.int .i64 0), (.int .i64 0), (.int .i64 0), (.int .i64 0), (.int .i64 0), (.str ⟨⟨[]⟩⟩), (.sl true [])])⟩,
 ⟨none, none, .sto 7 (.t 2) (.t 31)⟩])
 (.seq (.reg [⟨(some 32), none, .call (.f 33) [(.c (.str ⟨⟨[105]⟩⟩))]⟩,
 ⟨(some 33), none, .bsl 7 [(.t 32)]⟩,
 ⟨(some 34), none, .build (.agg [(.int .i64 0), (.int .i64 0), (.int .i64 0), (.int .i64 0), (.int .i64 0), (.str ⟨⟨[]⟩⟩), (.sl true [])]) [(0, 0, 1, (.c (.int .i64 7))), (4, 5, 1, (.c (.str ⟨⟨[113]⟩⟩))), (5, 6, 1, (.t 33))]⟩,
 ⟨(some 3), none, .new (.agg [(.int .i64 0), (.int .i64 0), (.int .i64 0), (.int .i64 0), (.int .i64 0), (.str ⟨⟨[]⟩⟩), (.sl true [])])⟩,
 ⟨none, none, .sto 7 (.t 3) (.t 34)⟩])
 (.seq (.reg [⟨(some 36), none, .ld (some 8) (.t 1)⟩,
 ⟨(some 37), none, .call (.f 29) [(.t 36)]⟩,
 ⟨(some 35), none, .mv (.t 37)⟩,
 ⟨(some 38), none, .ext 0 (.t 35)⟩,
 ⟨(some 39), none, .ext 1 (.t 35)⟩,
 ⟨(some 4), none, .mv (.t 38)⟩,
 ⟨(some 5), none, .mv (.t 39)⟩])
 (.seq (.reg [⟨(some 41), none, .ld (some 8) (.t 1)⟩,
 ⟨(some 42), none, .call (.f 31) [(.t 41)]⟩,
 ⟨(some 40), none, .mv (.t 42)⟩,
 ⟨(some 43), none, .ext 0 (.t 40)⟩,
 ⟨(some 44), none, .ext 1 (.t 40)⟩,
 ⟨(some 6), none, .mv (.t 43)⟩,
 ⟨(some 7), none, .mv (.t 44)⟩])
 (.seq (.reg [⟨(some 46), none, .ld (some 8) (.t 1)⟩,
 ⟨(some 47), none, .bsl 1 [(.c (.str ⟨⟨[121]⟩⟩)), (.c (.str ⟨⟨[122]⟩⟩))]⟩,
 ⟨(some 48), none, .ld (some 7) (.t 2)⟩,
 ⟨(some 49), none, .ld (some 7) (.t 3)⟩,
 ⟨(some 50), none, .bsl 7 [(.t 48), (.t 49)]⟩,
 ⟨(some 51), none, .call (.f 32) [(.t 46), (.t 47), (.t 50)]⟩,
 ⟨(some 45), none, .mv (.t 51)⟩,
 ⟨(some 52), none, .ext 0 (.t 45)⟩,
 ⟨(some 53), none, .ext 1 (.t 45)⟩,
 ⟨(some 8), none, .new (.agg [(.sl true []), (.int .i64 0), (.str ⟨⟨[]⟩⟩), (.sl true []), (.sl true []), (.sl true []), (.sl true []), (.sl true [])])⟩,
 ⟨none, none, .sto 8 (.t 8) (.t 52)⟩,
 ⟨(some 9), none, .mv (.t 53)⟩])
 (.seq (.reg [⟨(some 55), none, .ld (some 8) (.t 1)⟩,
 ⟨(some 56), none, .call (.f 19) [(.t 55), (.c (.str ⟨⟨[121]⟩⟩)), (.c (.str ⟨⟨[120]⟩⟩))]⟩,
 ⟨(some 54), none, .mv (.t 56)⟩,
 ⟨(some 57), none, .ext 0 (.t 54)⟩,
 ⟨(some 58), none, .ext 1 (.t 54)⟩,
 ⟨(some 10), none, .new (.agg [(.sl true []), (.int .i64 0), (.str ⟨⟨[]⟩⟩), (.sl true []), (.sl true []), (.sl true []), (.sl true []), (.sl true [])])⟩,
 ⟨none, none, .sto 8 (.t 10) (.t 57)⟩,
 ⟨(some 11), none, .mv (.t 58)⟩])
 (.seq (.reg [⟨(some 60), none, .ld (some 8) (.t 1)⟩,
 ⟨(some 61), none, .call (.f 19) [(.t 60), (.c (.str ⟨⟨[121]⟩⟩)), (.c (.str ⟨⟨[122]⟩⟩))]⟩,
 ⟨(some 59), none, .mv (.t 61)⟩,
 ⟨(some 62), none, .ext 0 (.t 59)⟩,
 ⟨(some 63), none, .ext 1 (.t 59)⟩,
 ⟨(some 12), none, .new (.agg [(.sl true []), (.int .i64 0), (.str ⟨⟨[]⟩⟩), (.sl true []), (.sl true []), (.sl true []), (.sl true []), (.sl true [])])⟩,
 ⟨none, none, .sto 8 (.t 12) (.t 62)⟩,
 ⟨(some 13), none, .mv (.t 63)⟩])
 (.seq (.draw [⟨⟨(some 65), none, .ld (some 8) (.t 1)⟩, false, none, true, [], 0, 3⟩,
 ⟨⟨(some 66), none, .call (.f 33) [(.c (.str ⟨⟨[121]⟩⟩))]⟩, true, none, false, [], 0, 0⟩,
 ⟨⟨(some 67), none, .call (.f 33) [(.c (.str ⟨⟨[122]⟩⟩))]⟩, true, none, false, [1], 1, 1⟩,
 ⟨⟨(some 68), none, .call (.f 53) [(.c (.str ⟨⟨[116]⟩⟩)), (.c (.str ⟨⟨[109]⟩⟩)), (.t 66), (.t 67)]⟩, true, none, false, [2, 1], 2, 2⟩,
 ⟨⟨(some 69), none, .call (.f 24) [(.t 65), (.t 68)]⟩, true, none, false, [0, 3, 2, 1], 3, 3⟩,
 ⟨⟨(some 64), none, .mv (.t 69)⟩, false, none, false, [4, 0, 3, 2, 1], 4, 4⟩,
 ⟨⟨(some 70), none, .ext 0 (.t 64)⟩, false, none, false, [5, 4, 0, 3, 2, 1], 4, 4⟩,
 ⟨⟨(some 71), none, .ext 1 (.t 64)⟩, false, none, false, [5, 4, 0, 3, 2, 1], 4, 4⟩,
 ⟨⟨(some 14), none, .mv (.t 70)⟩, false, none, false, [6, 5, 4, 0, 3, 2, 1], 4, 4⟩,
 ⟨⟨(some 15), none, .mv (.t 71)⟩, false, none, false, [7, 8, 6, 5, 4, 0, 3, 2, 1], 4, 4⟩] [])
 (.seq (.seq (.reg [⟨(some 72), none, .mv (.t 5)⟩,
 ⟨(some 73), none, .bin .neq (.t 72) (.c (.int .i64 0))⟩,
 ⟨(some 74), none, .mv (.t 73)⟩,
 ⟨(some 75), (some (74, false)), .mv (.t 7)⟩,
 ⟨(some 76), (some (74, false)), .bin .neq (.t 75) (.c (.int .i64 0))⟩,
 ⟨(some 77), none, .pick (.t 74) (.c (.bool true)) (.t 76)⟩,
 ⟨(some 78), none, .mv (.t 77)⟩,
 ⟨(some 79), (some (78, false)), .mv (.t 9)⟩,
 ⟨(some 80), (some (78, false)), .bin .neq (.t 79) (.c (.int .i64 0))⟩,
 ⟨(some 81), none, .pick (.t 78) (.c (.bool true)) (.t 80)⟩,
 ⟨(some 82), none, .mv (.t 81)⟩,
 ⟨(some 83), (some (82, false)), .mv (.t 11)⟩,
 ⟨(some 84), (some (82, false)), .bin .neq (.t 83) (.c (.int .i64 10))⟩,
 ⟨(some 85), none, .pick (.t 82) (.c (.bool true)) (.t 84)⟩,
 ⟨(some 86), none, .mv (.t 85)⟩,
 ⟨(some 87), (some (86, false)), .mv (.t 13)⟩,
 ⟨(some 88), (some (86, false)), .bin .neq (.t 87) (.c (.int .i64 6))⟩,
 ⟨(some 89), none, .pick (.t 86) (.c (.bool true)) (.t 88)⟩,
 ⟨(some 90), none, .mv (.t 89)⟩,
 ⟨(some 91), (some (90, false)), .mv (.t 15)⟩,
 ⟨(some 92), (some (90, false)), .bin .neq (.t 91) (.c (.int .i64 0))⟩,
 ⟨(some 93), none, .pick (.t 90) (.c (.bool true)) (.t 92)⟩,
 ⟨(some 94), none, .mv (.t 93)⟩,
 ⟨(some 95), (some (94, false)), .mv (.t 14)⟩,
 ⟨(some 96), (some (94, false)), .un .not (.t 95)⟩,
 ⟨(some 97), none, .pick (.t 94) (.c (.bool true)) (.t 96)⟩])
 (.cond (.t 97)
 (.seq (.reg [⟨(some 0), none, .mv (.c (.bool false))⟩])
 (.ret))
 (.skip)))
 (.seq (.reg [⟨(some 98), none, .bsl 1 [(.c (.str ⟨⟨[120]⟩⟩))]⟩,
 ⟨(some 99), none, .build (.agg [(.int .i64 0), (.bool false), (.int .i64 0), (.sl true []), (.sl true []), (.sl true []), (.sl true [])]) [(0, 0, 1, (.c (.int .i64 1))), (2, 2, 1, (.c (.int .i64 1))), (3, 3, 1, (.t 98))]⟩,
 ⟨(some 100), none, .bsl 7 [(.t 99)]⟩,
 ⟨(some 101), none, .call (.f 33) [(.c (.str ⟨⟨[98]⟩⟩))]⟩,
 ⟨(some 102), none, .call (.f 54) [(.c (.str ⟨⟨[120]⟩⟩)), (.t 101)]⟩,
 ⟨(some 103), none, .call (.f 33) [(.c (.str ⟨⟨[97]⟩⟩))]⟩,
 ⟨(some 104), none, .call (.f 33) [(.c (.str ⟨⟨[120]⟩⟩))]⟩,
 ⟨(some 105), none, .call (.f 55) [(.t 103), (.t 104)]⟩,
 ⟨(some 106), none, .call (.f 54) [(.c (.str ⟨⟨[97]⟩⟩)), (.t 105)]⟩,
 ⟨(some 107), none, .bsl 8 [(.t 102), (.t 106)]⟩,
 ⟨(some 108), none, .build (.agg [(.sl true []), (.int .i64 0), (.str ⟨⟨[]⟩⟩), (.sl true []), (.sl true []), (.sl true []), (.sl true []), (.sl true [])]) [(1, 1, 1, (.c (.int .i64 7))), (6, 6, 1, (.t 100)), (7, 7, 1, (.t 107))]⟩,
 ⟨(some 16), none, .new (.agg [(.sl true []), (.int .i64 0), (.str ⟨⟨[]⟩⟩), (.sl true []), (.sl true []), (.sl true []), (.sl true []), (.sl true [])])⟩,
 ⟨none, none, .sto 8 (.t 16) (.t 108)⟩])
 (.seq (.reg [⟨(some 109), none, .bsl 1 [(.c (.str ⟨⟨[112]⟩⟩))]⟩,
 ⟨(some 110), none, .build (.agg [(.str ⟨⟨[]⟩⟩), (.bool false), (.int .i64 0), (.int .i64 0)]) [(0, 0, 1, (.c (.str ⟨⟨[97]⟩⟩)))]⟩,
 ⟨(some 111), none, .build (.agg [(.str ⟨⟨[]⟩⟩), (.bool false), (.int .i64 0), (.int .i64 0)]) [(0, 0, 1, (.c (.str ⟨⟨[98]⟩⟩))), (1, 1, 1, (.c (.bool true))), (2, 2, 1, (.c (.int .i64 1))), (3, 3, 1, (.c (.int .i64 1)))]⟩,
 ⟨(some 112), none, .bsl 4 [(.t 110), (.t 111)]⟩,
 ⟨(some 113), none, .ld (some 8) (.t 16)⟩,
 ⟨(some 114), none, .bsl 8 [(.t 113)]⟩,
 ⟨(some 115), none, .build (.agg [(.int .i64 0), (.bool false), (.int .i64 0), (.sl true []), (.sl true []), (.sl true []), (.sl true [])]) [(0, 0, 1, (.c (.int .i64 4))), (3, 3, 1, (.t 109)), (5, 5, 1, (.t 112)), (6, 6, 1, (.t 114))]⟩,
 ⟨(some 17), none, .new (.agg [(.int .i64 0), (.bool false), (.int .i64 0), (.sl true []), (.sl true []), (.sl true []), (.sl true [])])⟩,
 ⟨none, none, .sto 7 (.t 17) (.t 115)⟩])
 (.seq (.reg [⟨(some 116), none, .call (.f 33) [(.c (.str ⟨⟨[107]⟩⟩))]⟩,
 ⟨(some 117), none, .build (.agg [(.int .i64 0), (.int .i64 0), (.int .i64 0), (.int .i64 0), (.int .i64 0), (.str ⟨⟨[]⟩⟩), (.sl true [])]) [(0, 0, 1, (.c (.int .i64 1))), (2, 2, 1, (.c (.int .i64 1)))]⟩,
 ⟨(some 118), none, .call (.f 55) [(.t 116), (.t 117)]⟩,
 ⟨(some 18), none, .new (.agg [(.int .i64 0), (.int .i64 0), (.int .i64 0), (.int .i64 0), (.int .i64 0), (.str ⟨⟨[]⟩⟩), (.sl true [])])⟩,
 ⟨none, none, .sto 7 (.t 18) (.t 118)⟩])
 (.seq (.draw [⟨⟨(some 120), none, .ld (some 7) (.t 17)⟩, false, none, true, [], 0, 1⟩,
 ⟨⟨(some 121), none, .call (.f 33) [(.c (.str ⟨⟨[120]⟩⟩))]⟩, true, none, false, [], 0, 0⟩,
 ⟨⟨(some 122), none, .ld (some 7) (.t 18)⟩, false, none, true, [], 0, 1⟩,
 ⟨⟨(some 123), none, .bsl 7 [(.t 121), (.t 122)]⟩, false, none, false, [1, 2], 1, 1⟩,
 ⟨⟨(some 124), none, .call (.f 27) [(.t 120), (.t 123)]⟩, true, none, false, [0, 3, 1, 2], 1, 1⟩,
 ⟨⟨(some 119), none, .mv (.t 124)⟩, false, none, false, [4, 0, 3, 1, 2], 2, 2⟩,
 ⟨⟨(some 125), none, .ext 0 (.t 119)⟩, false, none, false, [5, 4, 0, 3, 1, 2], 2, 2⟩,
 ⟨⟨(some 126), none, .ext 1 (.t 119)⟩, false, none, false, [5, 4, 0, 3, 1, 2], 2, 3⟩,
 ⟨⟨(some 19), none, .new (.agg [(.sl true []), (.int .i64 0), (.str ⟨⟨[]⟩⟩), (.sl true []), (.sl true []), (.sl true []), (.sl true []), (.sl true [])])⟩, false, (some 0), true, [], 0, 2⟩,
 ⟨⟨none, none, .sto 8 (.t 19) (.t 125)⟩, true, none, false, [6, 8, 5, 4, 0, 3, 1, 2], 2, 2⟩,
 ⟨⟨(some 20), none, .mv (.t 126)⟩, false, none, false, [7, 9, 6, 8, 5, 4, 0, 3, 1, 2], 3, 3⟩] [(.agg [(.sl true []), (.int .i64 0), (.str ⟨⟨[]⟩⟩), (.sl true []), (.sl true []), (.sl true []), (.sl true []), (.sl true [])])])
 (.seq (.reg [⟨(some 128), none, .ld (some 7) (.t 17)⟩,
 ⟨(some 129), none, .ld (some 7) (.t 18)⟩,
 ⟨(some 130), none, .ld (some 7) (.t 18)⟩,
 ⟨(some 131), none, .bsl 7 [(.t 129), (.t 130)]⟩,
 ⟨(some 132), none, .call (.f 27) [(.t 128), (.t 131)]⟩,
 ⟨(some 127), none, .mv (.t 132)⟩,
 ⟨(some 133), none, .ext 0 (.t 127)⟩,
 ⟨(some 134), none, .ext 1 (.t 127)⟩,
 ⟨(some 21), none, .new (.agg [(.sl true []), (.int .i64 0), (.str ⟨⟨[]⟩⟩), (.sl true []), (.sl true []), (.sl true []), (.sl true []), (.sl true [])])⟩,
 ⟨none, none, .sto 8 (.t 21) (.t 133)⟩,
 ⟨(some 22), none, .mv (.t 134)⟩])
 (.seq (.reg [⟨(some 135), none, .bsl 1 [(.c (.str ⟨⟨[120, 49]⟩⟩))]⟩,
 ⟨(some 136), none, .build (.agg [(.int .i64 0), (.bool false), (.int .i64 0), (.sl true []), (.sl true []), (.sl true []), (.sl true [])]) [(0, 0, 1, (.c (.int .i64 1))), (2, 2, 1, (.c (.int .i64 1))), (3, 3, 1, (.t 135))]⟩,
 ⟨(some 137), none, .bsl 7 [(.t 136)]⟩,
 ⟨(some 138), none, .call (.f 33) [(.c (.str ⟨⟨[98]⟩⟩))]⟩,
 ⟨(some 139), none, .call (.f 54) [(.c (.str ⟨⟨[120, 49]⟩⟩)), (.t 138)]⟩,
 ⟨(some 140), none, .call (.f 33) [(.c (.str ⟨⟨[120]⟩⟩))]⟩,
 ⟨(some 141), none, .call (.f 33) [(.c (.str ⟨⟨[120, 49]⟩⟩))]⟩,
 ⟨(some 142), none, .call (.f 55) [(.t 140), (.t 141)]⟩,
 ⟨(some 143), none, .call (.f 54) [(.c (.str ⟨⟨[120]⟩⟩)), (.t 142)]⟩,
 ⟨(some 144), none, .bsl 8 [(.t 139), (.t 143)]⟩,
 ⟨(some 145), none, .build (.agg [(.sl true []), (.int .i64 0), (.str ⟨⟨[]⟩⟩), (.sl true []), (.sl true []), (.sl true []), (.sl true []), (.sl true [])]) [(1, 1, 1, (.c (.int .i64 7))), (6, 6, 1, (.t 137)), (7, 7, 1, (.t 144))]⟩,
 ⟨(some 23), none, .new (.agg [(.sl true []), (.int .i64 0), (.str ⟨⟨[]⟩⟩), (.sl true []), (.sl true []), (.sl true []), (.sl true []), (.sl true [])])⟩,
 ⟨none, none, .sto 8 (.t 23) (.t 145)⟩])
 (.seq (.draw [⟨⟨(some 146), none, .bsl 1 [(.c (.str ⟨⟨[98]⟩⟩))]⟩, false, none, false, [], 0, 1⟩,
 ⟨⟨(some 147), none, .build (.agg [(.int .i64 0), (.bool false), (.int .i64 0), (.sl true []), (.sl true []), (.sl true []), (.sl true [])]) [(0, 0, 1, (.c (.int .i64 1))), (2, 2, 1, (.c (.int .i64 1))), (3, 3, 1, (.t 146))]⟩, false, none, false, [0], 0, 1⟩,
 ⟨⟨(some 148), none, .bsl 7 [(.t 147)]⟩, false, none, false, [1, 0], 0, 1⟩,
 ⟨⟨(some 149), none, .ld (some 7) (.t 18)⟩, false, none, false, [], 0, 0⟩,
 ⟨⟨(some 150), none, .call (.f 54) [(.c (.str ⟨⟨[98]⟩⟩)), (.t 149)]⟩, true, none, false, [3], 0, 0⟩,
 ⟨⟨(some 151), none, .ld (some 8) (.t 23)⟩, false, none, true, [], 0, 1⟩,
 ⟨⟨(some 152), none, .bsl 8 [(.t 150), (.t 151)]⟩, false, none, false, [4, 5, 3], 1, 1⟩,
 ⟨⟨(some 153), none, .build (.agg [(.sl true []), (.int .i64 0), (.str ⟨⟨[]⟩⟩), (.sl true []), (.sl true []), (.sl true []), (.sl true []), (.sl true [])]) [(1, 1, 1, (.c (.int .i64 7))), (6, 6, 1, (.t 148)), (7, 7, 1, (.t 152))]⟩, false, none, false, [2, 6, 1, 0, 4, 5, 3], 1, 1⟩,
 ⟨⟨(some 24), none, .new (.agg [(.sl true []), (.int .i64 0), (.str ⟨⟨[]⟩⟩), (.sl true []), (.sl true []), (.sl true []), (.sl true []), (.sl true [])])⟩, false, (some 0), true, [], 0, 1⟩,
 ⟨⟨none, none, .sto 8 (.t 24) (.t 153)⟩, true, none, false, [7, 8, 2, 6, 1, 0, 4, 5, 3], 1, 1⟩] [(.agg [(.sl true []), (.int .i64 0), (.str ⟨⟨[]⟩⟩), (.sl true []), (.sl true []), (.sl true []), (.sl true []), (.sl true [])])])
 (.seq (.draw [⟨⟨(some 154), none, .mv (.t 20)⟩, false, none, false, [], 0, 0⟩,
 ⟨⟨(some 155), none, .bin .eql (.t 154) (.c (.int .i64 0))⟩, false, none, false, [0], 0, 0⟩,
 ⟨⟨(some 156), none, .mv (.t 155)⟩, false, none, false, [1, 0], 0, 0⟩,
 ⟨⟨(some 157), (some (156, true)), .mv (.t 22)⟩, false, none, false, [2, 1, 0], 0, 0⟩,
 ⟨⟨(some 158), (some (156, true)), .bin .eql (.t 157) (.c (.int .i64 10))⟩, false, none, false, [3, 2, 1, 0], 0, 0⟩,
 ⟨⟨(some 159), none, .pick (.t 156) (.t 158) (.c (.bool false))⟩, false, none, false, [4, 3, 2, 1, 0], 0, 0⟩,
 ⟨⟨(some 160), none, .mv (.t 159)⟩, false, none, false, [5, 4, 3, 2, 1, 0], 0, 0⟩,
 ⟨⟨(some 161), (some (160, true)), .ld (some 8) (.t 19)⟩, false, none, false, [6, 5, 4, 3, 2, 1, 0], 0, 0⟩,
 ⟨⟨(some 162), (some (160, true)), .ld (some 8) (.t 24)⟩, false, none, false, [6, 5, 4, 3, 2, 1, 0], 0, 0⟩,
 ⟨⟨(some 163), (some (160, true)), .call (.f 23) [(.t 161), (.t 162)]⟩, true, none, false, [7, 8, 6, 5, 4, 3, 2, 1, 0], 0, 0⟩,
 ⟨⟨(some 164), none, .pick (.t 160) (.t 163) (.c (.bool false))⟩, false, none, false, [9, 7, 8, 6, 5, 4, 3, 2, 1, 0], 1, 1⟩,
 ⟨⟨(some 165), none, .mv (.t 164)⟩, false, none, false, [10, 9, 7, 8, 6, 5, 4, 3, 2, 1, 0], 1, 1⟩,
 ⟨⟨(some 166), (some (165, true)), .ld (some 8) (.t 8)⟩, false, none, true, [11, 10, 9, 7, 8, 6, 5, 4, 3, 2, 1, 0], 1, 2⟩,
 ⟨⟨(some 167), (some (165, true)), .ld (some 7) (.t 2)⟩, false, none, false, [11, 10, 9, 7, 8, 6, 5, 4, 3, 2, 1, 0], 1, 1⟩,
 ⟨⟨(some 168), (some (165, true)), .ld (some 7) (.t 3)⟩, false, none, false, [11, 10, 9, 7, 8, 6, 5, 4, 3, 2, 1, 0], 1, 1⟩,
 ⟨⟨(some 169), (some (165, true)), .call (.f 53) [(.c (.str ⟨⟨[120, 49]⟩⟩)), (.c (.str ⟨⟨[108]⟩⟩)), (.t 167), (.t 168)]⟩, true, none, false, [13, 14, 11, 10, 9, 7, 8, 6, 5, 4, 3, 2, 1, 0], 1, 1⟩,
 ⟨⟨(some 170), (some (165, true)), .call (.f 23) [(.t 166), (.t 169)]⟩, true, none, false, [12, 15, 13, 14, 11, 10, 9, 7, 8, 6, 5, 4, 3, 2, 1, 0], 2, 2⟩,
 ⟨⟨(some 171), none, .pick (.t 165) (.t 170) (.c (.bool false))⟩, false, none, false, [16, 12, 15, 13, 14, 11, 10, 9, 7, 8, 6, 5, 4, 3, 2, 1, 0], 3, 3⟩,
 ⟨⟨(some 172), none, .mv (.t 171)⟩, false, none, false, [17, 16, 12, 15, 13, 14, 11, 10, 9, 7, 8, 6, 5, 4, 3, 2, 1, 0], 3, 3⟩,
 ⟨⟨(some 173), (some (172, true)), .mv (.t 4)⟩, false, none, false, [18, 17, 16, 12, 15, 13, 14, 11, 10, 9, 7, 8, 6, 5, 4, 3, 2, 1, 0], 3, 3⟩,
 ⟨⟨(some 174), (some (172, true)), .bsl 1 [(.c (.str ⟨⟨[121]⟩⟩)), (.c (.str ⟨⟨[122]⟩⟩))]⟩, false, none, false, [18, 17, 16, 12, 15, 13, 14, 11, 10, 9, 7, 8, 6, 5, 4, 3, 2, 1, 0], 3, 3⟩,
 ⟨⟨(some 175), (some (172, true)), .call (.f 30) [(.t 173), (.t 174)]⟩, true, none, false, [19, 20, 18, 17, 16, 12, 15, 13, 14, 11, 10, 9, 7, 8, 6, 5, 4, 3, 2, 1, 0], 3, 3⟩,
 ⟨⟨(some 176), none, .pick (.t 172) (.t 175) (.c (.bool false))⟩, false, none, false, [21, 19, 20, 18, 17, 16, 12, 15, 13, 14, 11, 10, 9, 7, 8, 6, 5, 4, 3, 2, 1, 0], 4, 4⟩,
 ⟨⟨(some 177), none, .mv (.t 176)⟩, false, none, false, [22, 21, 19, 20, 18, 17, 16, 12, 15, 13, 14, 11, 10, 9, 7, 8, 6, 5, 4, 3, 2, 1, 0], 4, 4⟩,
 ⟨⟨(some 178), (some (177, true)), .mv (.t 6)⟩, false, none, false, [23, 22, 21, 19, 20, 18, 17, 16, 12, 15, 13, 14, 11, 10, 9, 7, 8, 6, 5, 4, 3, 2, 1, 0], 4, 4⟩,
 ⟨⟨(some 179), (some (177, true)), .bsl 1 [(.c (.str ⟨⟨[108]⟩⟩)), (.c (.str ⟨⟨[120]⟩⟩))]⟩, false, none, false, [23, 22, 21, 19, 20, 18, 17, 16, 12, 15, 13, 14, 11, 10, 9, 7, 8, 6, 5, 4, 3, 2, 1, 0], 4, 4⟩,
 ⟨⟨(some 180), (some (177, true)), .call (.f 30) [(.t 178), (.t 179)]⟩, true, none, false, [24, 25, 23, 22, 21, 19, 20, 18, 17, 16, 12, 15, 13, 14, 11, 10, 9, 7, 8, 6, 5, 4, 3, 2, 1, 0], 4, 4⟩,
 ⟨⟨(some 181), none, .pick (.t 177) (.t 180) (.c (.bool false))⟩, false, none, false, [26, 24, 25, 23, 22, 21, 19, 20, 18, 17, 16, 12, 15, 13, 14, 11, 10, 9, 7, 8, 6, 5, 4, 3, 2, 1, 0], 5, 5⟩,
 ⟨⟨(some 0), none, .mv (.t 181)⟩, false, none, false, [27, 26, 24, 25, 23, 22, 21, 19, 20, 18, 17, 16, 12, 15, 13, 14, 11, 10, 9, 7, 8, 6, 5, 4, 3, 2, 1, 0], 5, 5⟩] [])
 (.ret)))))))))))))))))))⟩
theorem ok18 : compF Tryz.prog Tryz.f18 = some c18 := by kernel_rfl

-- manorboy/copyrule.Rename
noncomputable def c19 : F' := ⟨55, [.cell 6 (some 8), .t 7],
 .seq (.reg [⟨(some 3), none, .box (.t 0)⟩,
 ⟨(some 4), none, .box (.t 1)⟩,
 ⟨(some 5), none, .box (.t 2)⟩,
 ⟨(some 6), none, .new (.agg [(.sl true []), (.int .i64 0), (.str ⟨⟨[]⟩⟩), (.sl true []), (.sl true []), (.sl true []), (.sl true []), (.sl true [])])⟩,
 ⟨(some 7), none, .mv (.c (.int .i64 0))⟩])
 (.seq (.seq (.reg [⟨(some 15), none, .ld (some 8) (.t 3)⟩,
 ⟨(some 16), none, .call (.f 56) [(.t 15)]⟩,
 ⟨(some 8), none, .mv (.t 16)⟩])
 (.seq (.reg [⟨(some 17), none, .mv (.t 8)⟩,
 ⟨(some 18), none, .bin .neq (.t 17) (.c (.int .i64 0))⟩])
 (.cond (.t 18)
 (.seq (.reg [⟨(some 19), none, .build (.agg [(.sl true []), (.int .i64 0), (.str ⟨⟨[]⟩⟩), (.sl true []), (.sl true []), (.sl true []), (.sl true []), (.sl true [])]) []⟩,
 ⟨(some 20), none, .mv (.t 8)⟩,
 ⟨none, none, .sto 8 (.t 6) (.t 19)⟩,
 ⟨(some 7), none, .mv (.t 20)⟩])
 (.ret))
 (.skip))))
 (.seq (.seq (.reg [⟨(some 21), none, .ld none (.t 4)⟩,
 ⟨(some 22), none, .call (.f 57) [(.t 21)]⟩,
 ⟨(some 23), none, .un .not (.t 22)⟩,
 ⟨(some 24), none, .mv (.t 23)⟩,
 ⟨(some 25), (some (24, false)), .ld none (.t 5)⟩,
 ⟨(some 26), (some (24, false)), .call (.f 57) [(.t 25)]⟩,
 ⟨(some 27), (some (24, false)), .un .not (.t 26)⟩,
 ⟨(some 28), none, .pick (.t 24) (.c (.bool true)) (.t 27)⟩])
 (.cond (.t 28)
 (.seq (.reg [⟨(some 29), none, .build (.agg [(.sl true []), (.int .i64 0), (.str ⟨⟨[]⟩⟩), (.sl true []), (.sl true []), (.sl true []), (.sl true []), (.sl true [])]) []⟩,
 ⟨none, none, .sto 8 (.t 6) (.t 29)⟩,
 ⟨(some 7), none, .mv (.c (.int .i64 1))⟩])
 (.ret))
 (.skip)))
 (.seq (.reg [⟨(some 31), none, .ld (some 8) (.t 3)⟩,
 ⟨(some 32), none, .call (.f 58) [(.t 31)]⟩,
 ⟨(some 30), none, .mv (.t 32)⟩,
 ⟨(some 33), none, .ext 0 (.t 30)⟩,
 ⟨(some 34), none, .ext 1 (.t 30)⟩,
 ⟨(some 9), none, .mv (.t 33)⟩,
 ⟨(some 10), none, .mv (.t 34)⟩])
 (.seq (.seq (.reg [⟨(some 35), none, .ld none (.t 4)⟩,
 ⟨(some 36), none, .ld none (.t 5)⟩,
 ⟨(some 37), none, .bin .neq (.t 35) (.t 36)⟩,
 ⟨(some 38), none, .mv (.t 37)⟩,
 ⟨(some 39), (some (38, true)), .mv (.t 9)⟩,
 ⟨(some 40), (some (38, true)), .ld none (.t 5)⟩,
 ⟨(some 41), (some (38, true)), .ex (.lkp .str (.bool false) false (.t 39) (.t 40))⟩,
 ⟨(some 42), none, .pick (.t 38) (.t 41) (.c (.bool false))⟩])
 (.cond (.t 42)
 (.seq (.reg [⟨(some 43), none, .build (.agg [(.sl true []), (.int .i64 0), (.str ⟨⟨[]⟩⟩), (.sl true []), (.sl true []), (.sl true []), (.sl true []), (.sl true [])]) []⟩,
 ⟨none, none, .sto 8 (.t 6) (.t 43)⟩,
 ⟨(some 7), none, .mv (.c (.int .i64 6))⟩])
 (.ret))
 (.skip)))
 (.seq (.reg [⟨(some 11), none, .new (.bool false)⟩,
 ⟨none, none, .sto 1 (.t 11) (.c (.bool false))⟩])
 (.seq (.reg [⟨(some 44), none, .mkf 59 [] [(.t 4), (.t 11), (.t 5)]⟩,
 ⟨(some 12), none, .new .nilfn⟩,
 ⟨none, none, .sto 1 (.t 12) (.t 44)⟩])
 (.seq (.reg [⟨(some 45), none, .mkf 61 [] [(.t 12)]⟩,
 ⟨(some 46), none, .ld none (.t 12)⟩,
 ⟨(some 47), none, .build (.agg [(.int .i64 0), .nilfn, .nilfn, .nilfn]) [(2, 2, 1, (.t 45)), (3, 3, 1, (.t 46))]⟩,
 ⟨(some 48), none, .box (.t 47)⟩,
 ⟨(some 13), none, .mv (.t 48)⟩])
 (.seq (.reg [⟨(some 49), none, .mv (.t 13)⟩,
 ⟨(some 50), none, .ld (some 8) (.t 3)⟩,
 ⟨(some 51), none, .call (.f 62) [(.t 49), (.t 50)]⟩,
 ⟨(some 14), none, .new (.agg [(.sl true []), (.int .i64 0), (.str ⟨⟨[]⟩⟩), (.sl true []), (.sl true []), (.sl true []), (.sl true []), (.sl true [])])⟩,
 ⟨none, none, .sto 8 (.t 14) (.t 51)⟩])
 (.seq (.seq (.reg [⟨(some 52), none, .ld none (.t 11)⟩])
 (.cond (.t 52)
 (.seq (.reg [⟨(some 53), none, .build (.agg [(.sl true []), (.int .i64 0), (.str ⟨⟨[]⟩⟩), (.sl true []), (.sl true []), (.sl true []), (.sl true []), (.sl true [])]) []⟩,
 ⟨none, none, .sto 8 (.t 6) (.t 53)⟩,
 ⟨(some 7), none, .mv (.c (.int .i64 10))⟩])
 (.ret))
 (.skip)))
 (.seq (.reg [⟨(some 54), none, .ld (some 8) (.t 14)⟩,
 ⟨none, none, .sto 8 (.t 6) (.t 54)⟩,
 ⟨(some 7), none, .mv (.c (.int .i64 0))⟩])
 (.ret)))))))))))⟩
theorem ok19 : compF Tryz.prog Tryz.f19 = some c19 := by kernel_rfl

-- manorboy/manorboyref09.Same
noncomputable def c23 : F' := ⟨8, [.t 4],
 .seq (.reg [⟨(some 2), none, .box (.t 0)⟩,
 ⟨(some 3), none, .box (.t 1)⟩,
 ⟨(some 4), none, .mv (.c (.bool false))⟩])
 (.seq (.reg [⟨(some 5), none, .ld (some 8) (.t 2)⟩,
 ⟨(some 6), none, .ld (some 8) (.t 3)⟩,
 ⟨(some 7), none, .call (.f 68) [(.t 5), (.t 6)]⟩,
 ⟨(some 4), none, .mv (.t 7)⟩])
 (.ret))⟩
theorem ok23 : compF Tryz.prog Tryz.f23 = some c23 := by kernel_rfl

-- manorboy/copyrule.Alike
noncomputable def c24 : F' := ⟨28, [.t 4, .t 5],
 .seq (.reg [⟨(some 2), none, .box (.t 0)⟩,
 ⟨(some 3), none, .box (.t 1)⟩,
 ⟨(some 4), none, .mv (.c (.bool false))⟩,
 ⟨(some 5), none, .mv (.c (.int .i64 0))⟩])
 (.seq (.seq (.reg [⟨(some 9), none, .ld (some 8) (.t 2)⟩,
 ⟨(some 10), none, .ld (some 8) (.t 3)⟩,
 ⟨(some 11), none, .build (.agg [(.sl true []), (.int .i64 0), (.str ⟨⟨[]⟩⟩), (.sl true []), (.sl true []), (.sl true []), (.sl true []), (.sl true []), (.sl true []), (.int .i64 0), (.str ⟨⟨[]⟩⟩), (.sl true []), (.sl true []), (.sl true []), (.sl true []), (.sl true [])]) [(0, 0, 8, (.t 9)), (1, 8, 8, (.t 10))]⟩,
 ⟨(some 12), none, .mv (.c (.int .i64 0))⟩])
 (.block 0 (.loop (.seq (.reg [⟨(some 13), none, .bin .lss (.t 12) (.c (.int .i64 2))⟩])
 (.seq (.cond (.t 13)
 (.skip)
 (.exit 0))
 (.seq (.block 1 (.seq (.reg [⟨(some 14), none, .ex (.ixa 2 8 (some 8) (.t 11) (.t 12))⟩,
 ⟨(some 7), none, .new (.agg [(.sl true []), (.int .i64 0), (.str ⟨⟨[]⟩⟩), (.sl true []), (.sl true []), (.sl true []), (.sl true []), (.sl true [])])⟩,
 ⟨none, none, .sto 8 (.t 7) (.t 14)⟩])
 (.seq (.reg [⟨(some 15), none, .ld (some 8) (.t 7)⟩,
 ⟨(some 16), none, .call (.f 56) [(.t 15)]⟩,
 ⟨(some 8), none, .mv (.t 16)⟩])
 (.seq (.reg [⟨(some 17), none, .mv (.t 8)⟩,
 ⟨(some 18), none, .bin .neq (.t 17) (.c (.int .i64 0))⟩])
 (.cond (.t 18)
 (.seq (.reg [⟨(some 19), none, .mv (.t 8)⟩,
 ⟨(some 4), none, .mv (.c (.bool false))⟩,
 ⟨(some 5), none, .mv (.t 19)⟩])
 (.ret))
 (.skip))))))
 (.reg [⟨(some 20), none, .bin .add (.t 12) (.c (.int .i64 1))⟩,
 ⟨(some 12), none, .mv (.t 20)⟩])))))))
 (.seq (.draw [⟨⟨(some 21), none, .ld (some 8) (.t 2)⟩, false, none, false, [], 0, 0⟩,
 ⟨⟨(some 22), none, .call (.f 70) [(.t 21)]⟩, true, none, false, [0], 0, 0⟩,
 ⟨⟨(some 23), none, .bsl 8 [(.t 22)]⟩, false, none, false, [1, 0], 1, 2⟩,
 ⟨⟨(some 24), none, .ld (some 8) (.t 3)⟩, false, none, true, [], 0, 1⟩,
 ⟨⟨(some 25), none, .call (.f 70) [(.t 24)]⟩, true, none, false, [3, 1, 0], 1, 1⟩,
 ⟨⟨(some 26), none, .bsl 8 [(.t 25)]⟩, false, none, false, [4, 3, 1, 0], 2, 2⟩,
 ⟨⟨(some 27), none, .call (.f 69) [(.t 23), (.t 26)]⟩, true, none, false, [2, 5, 4, 3, 1, 0], 2, 2⟩,
 ⟨⟨(some 4), none, .mv (.t 27)⟩, false, none, false, [6, 2, 5, 4, 3, 1, 0], 3, 3⟩,
 ⟨⟨(some 5), none, .mv (.c (.int .i64 0))⟩, false, none, false, [7, 6, 2, 5, 4, 3, 1, 0], 3, 3⟩] [])
 (.ret)))⟩
theorem ok24 : compF Tryz.prog Tryz.f24 = some c24 := by kernel_rfl

-- manorboy/copyrule.Expand
noncomputable def c27 : F' := ⟨158, [.cell 4 (some 8), .t 5],
 .seq (.reg [⟨(some 2), none, .box (.t 0)⟩,
 ⟨(some 4), none, .new (.agg [(.sl true []), (.int .i64 0), (.str ⟨⟨[]⟩⟩), (.sl true []), (.sl true []), (.sl true []), (.sl true []), (.sl true [])])⟩,
 ⟨(some 5), none, .mv (.c (.int .i64 0))⟩])
 (.seq (.seq (.reg [⟨(some 21), none, .ld (some 7) (.t 2)⟩,
 ⟨(some 22), none, .mv (.t 1)⟩,
 ⟨(some 23), none, .call (.f 73) [(.t 21), (.t 22)]⟩,
 ⟨(some 6), none, .mv (.t 23)⟩])
 (.seq (.reg [⟨(some 24), none, .mv (.t 6)⟩,
 ⟨(some 25), none, .bin .neq (.t 24) (.c (.int .i64 0))⟩])
 (.cond (.t 25)
 (.seq (.reg [⟨(some 26), none, .build (.agg [(.sl true []), (.int .i64 0), (.str ⟨⟨[]⟩⟩), (.sl true []), (.sl true []), (.sl true []), (.sl true []), (.sl true [])]) []⟩,
 ⟨(some 27), none, .mv (.t 6)⟩,
 ⟨none, none, .sto 8 (.t 4) (.t 26)⟩,
 ⟨(some 5), none, .mv (.t 27)⟩])
 (.ret))
 (.skip))))
 (.seq (.reg [⟨(some 28), none, .mv (.t 1)⟩,
 ⟨(some 29), none, .call (.f 74) [(.t 28)]⟩,
 ⟨(some 7), none, .new .nilmap⟩,
 ⟨none, none, .sto 1 (.t 7) (.t 29)⟩])
 (.seq (.reg [⟨(some 31), none, .fa 6 (.t 2)⟩,
 ⟨(some 32), none, .ld none (.t 31)⟩,
 ⟨(some 33), none, .ia 8 (.t 32) (.c (.int .i64 0))⟩,
 ⟨(some 34), none, .ld (some 8) (.t 33)⟩,
 ⟨(some 35), none, .call (.f 58) [(.t 34)]⟩,
 ⟨(some 30), none, .mv (.t 35)⟩,
 ⟨(some 36), none, .ext 0 (.t 30)⟩,
 ⟨(some 37), none, .ext 1 (.t 30)⟩,
 ⟨(some 8), none, .mv (.t 36)⟩,
 ⟨(some 9), none, .mv (.t 37)⟩])
 (.seq (.reg [⟨(some 38), none, .mv (.t 9)⟩,
 ⟨(some 39), none, .call (.f 75) [(.t 38)]⟩,
 ⟨(some 10), none, .mv (.t 39)⟩])
 (.seq (.reg [⟨(some 40), none, .mv (.t 10)⟩,
 ⟨(some 41), none, .mv (.t 8)⟩,
 ⟨(some 42), none, .call (.f 76) [(.t 40), (.t 41)]⟩])
 (.seq (.seq (.reg [⟨(some 43), none, .fa 5 (.t 2)⟩,
 ⟨(some 44), none, .ld none (.t 43)⟩,
 ⟨(some 45), none, .len false (.t 44)⟩,
 ⟨(some 46), none, .mv (.c (.int .i64 0))⟩])
 (.block 0 (.loop (.seq (.reg [⟨(some 47), none, .bin .lss (.t 46) (.t 45)⟩])
 (.seq (.cond (.t 47)
 (.skip)
 (.exit 0))
 (.seq (.block 1 (.seq (.reg [⟨(some 48), none, .ia 4 (.t 44) (.t 46)⟩,
 ⟨(some 49), none, .ld (some 4) (.t 48)⟩,
 ⟨(some 12), none, .new (.agg [(.str ⟨⟨[]⟩⟩), (.bool false), (.int .i64 0), (.int .i64 0)])⟩,
 ⟨none, none, .sto 4 (.t 12) (.t 49)⟩])
 (.reg [⟨(some 50), none, .mv (.t 10)⟩,
 ⟨(some 51), none, .fa 0 (.t 12)⟩,
 ⟨(some 52), none, .ld none (.t 51)⟩,
 ⟨none, none, .ex (.del .str (.t 50) (.t 52))⟩])))
 (.reg [⟨(some 53), none, .bin .add (.t 46) (.c (.int .i64 1))⟩,
 ⟨(some 46), none, .mv (.t 53)⟩])))))))
 (.seq (.reg [⟨(some 54), none, .ld none (.t 7)⟩,
 ⟨(some 55), none, .mv (.t 10)⟩,
 ⟨(some 56), none, .call (.f 76) [(.t 54), (.t 55)]⟩])
 (.seq (.reg [⟨(some 57), none, .build (.agg [(.sl true []), (.int .i64 0), (.str ⟨⟨[]⟩⟩), (.sl true []), (.sl true []), (.sl true []), (.sl true []), (.sl true [])]) [(1, 1, 1, (.c (.int .i64 7)))]⟩,
 ⟨(some 13), none, .new (.agg [(.sl true []), (.int .i64 0), (.str ⟨⟨[]⟩⟩), (.sl true []), (.sl true []), (.sl true []), (.sl true []), (.sl true [])])⟩,
 ⟨none, none, .sto 8 (.t 13) (.t 57)⟩])
 (.seq (.reg [⟨(some 14), none, .mv (.c (.sl true []))⟩])
 (.seq (.reg [⟨(some 58), none, .ex (.mkm)⟩,
 ⟨(some 15), none, .mv (.t 58)⟩])
 (.seq (.seq (.reg [⟨(some 59), none, .fa 5 (.t 2)⟩,
 ⟨(some 60), none, .ld none (.t 59)⟩,
 ⟨(some 61), none, .len false (.t 60)⟩,
 ⟨(some 62), none, .mv (.c (.int .i64 0))⟩])
 (.block 2 (.loop (.seq (.reg [⟨(some 63), none, .bin .lss (.t 62) (.t 61)⟩])
 (.seq (.cond (.t 63)
 (.skip)
 (.exit 2))
 (.seq (.block 3 (.seq (.reg [⟨(some 64), none, .mv (.t 62)⟩,
 ⟨(some 65), none, .ia 4 (.t 60) (.t 62)⟩,
 ⟨(some 66), none, .ld (some 4) (.t 65)⟩,
 ⟨(some 17), none, .new (.agg [(.str ⟨⟨[]⟩⟩), (.bool false), (.int .i64 0), (.int .i64 0)])⟩,
 ⟨(some 16), none, .mv (.t 64)⟩,
 ⟨none, none, .sto 4 (.t 17) (.t 66)⟩])
 (.seq (.reg [⟨(some 67), none, .mv (.t 14)⟩,
 ⟨(some 68), none, .fa 0 (.t 17)⟩,
 ⟨(some 69), none, .ld none (.t 68)⟩,
 ⟨(some 70), none, .bsl 1 [(.t 69)]⟩,
 ⟨(some 71), none, .app 1 16 (.t 67) (.t 70)⟩,
 ⟨(some 14), none, .mv (.t 71)⟩])
 (.seq (.draw [⟨⟨(some 72), none, .mv (.t 15)⟩, false, none, false, [], 0, 0⟩,
 ⟨⟨(some 73), none, .fa 0 (.t 17)⟩, false, none, false, [], 0, 0⟩,
 ⟨⟨(some 74), none, .ld none (.t 73)⟩, false, none, false, [1], 0, 0⟩,
 ⟨⟨(some 75), none, .mv (.t 1)⟩, false, none, false, [], 0, 0⟩,
 ⟨⟨(some 76), none, .mv (.t 16)⟩, false, none, false, [], 0, 0⟩,
 ⟨⟨(some 77), none, .ia 7 (.t 75) (.t 76)⟩, false, none, false, [3, 4], 0, 0⟩,
 ⟨⟨(some 78), none, .ld (some 7) (.t 77)⟩, false, none, false, [5, 3, 4], 0, 0⟩,
 ⟨⟨none, none, .ex (.mup .str (.t 72) (.t 74) (.t 78))⟩, true, none, false, [0, 2, 6, 1, 5, 3, 4], 0, 0⟩] [])
 (.seq (.seq (.reg [⟨(some 79), none, .fa 1 (.t 17)⟩,
 ⟨(some 80), none, .ld none (.t 79)⟩,
 ⟨(some 81), none, .un .not (.t 80)⟩])
 (.cond (.t 81)
 (.exit 3)
 (.skip)))
 (.seq (.reg [⟨(some 82), none, .fa 0 (.t 17)⟩,
 ⟨(some 83), none, .ld none (.t 82)⟩,
 ⟨(some 84), none, .mkf 78 [] [(.t 7)]⟩,
 ⟨(some 85), none, .call (.f 77) [(.t 83), (.t 84)]⟩,
 ⟨(some 18), none, .mv (.t 85)⟩])
 (.seq (.reg [⟨(some 86), none, .ld none (.t 7)⟩,
 ⟨(some 87), none, .mv (.t 18)⟩,
 ⟨(some 88), none, .bsl 1 [(.t 87)]⟩,
 ⟨(some 89), none, .call (.f 79) [(.t 86), (.t 88)]⟩])
 (.seq (.reg [⟨(some 90), none, .mv (.t 15)⟩,
 ⟨(some 91), none, .fa 0 (.t 17)⟩,
 ⟨(some 92), none, .ld none (.t 91)⟩,
 ⟨(some 93), none, .mv (.t 18)⟩,
 ⟨(some 94), none, .build (.agg [(.int .i64 0), (.int .i64 0), (.int .i64 0), (.int .i64 0), (.int .i64 0), (.str ⟨⟨[]⟩⟩), (.sl true [])]) [(0, 0, 1, (.c (.int .i64 6))), (4, 5, 1, (.t 93))]⟩,
 ⟨none, none, .ex (.mup .str (.t 90) (.t 92) (.t 94))⟩])
 (.seq (.reg [⟨(some 95), none, .fa 6 (.t 13)⟩,
 ⟨(some 96), none, .ld none (.t 95)⟩,
 ⟨(some 97), none, .fa 3 (.t 17)⟩,
 ⟨(some 98), none, .ld none (.t 97)⟩,
 ⟨(some 99), none, .mv (.t 18)⟩,
 ⟨(some 100), none, .bsl 1 [(.t 99)]⟩,
 ⟨(some 101), none, .build (.agg [(.int .i64 0), (.bool false), (.int .i64 0), (.sl true []), (.sl true []), (.sl true []), (.sl true [])]) [(0, 0, 1, (.c (.int .i64 1))), (2, 2, 1, (.t 98)), (3, 3, 1, (.t 100))]⟩,
 ⟨(some 102), none, .bsl 7 [(.t 101)]⟩,
 ⟨(some 103), none, .app 7 120 (.t 96) (.t 102)⟩,
 ⟨(some 104), none, .fa 6 (.t 13)⟩,
 ⟨none, none, .sto 1 (.t 104) (.t 103)⟩])
 (.draw [⟨⟨(some 105), none, .fa 7 (.t 13)⟩, false, none, false, [], 0, 1⟩,
 ⟨⟨(some 106), none, .ld none (.t 105)⟩, false, none, true, [0], 0, 1⟩,
 ⟨⟨(some 107), none, .mv (.t 18)⟩, false, none, false, [], 0, 1⟩,
 ⟨⟨(some 108), none, .build (.agg [(.int .i64 0), (.int .i64 0), (.int .i64 0), (.int .i64 0), (.int .i64 0), (.str ⟨⟨[]⟩⟩), (.sl true [])]) [(0, 0, 1, (.c (.int .i64 6))), (4, 5, 1, (.t 107))]⟩, false, none, false, [2], 0, 1⟩,
 ⟨⟨(some 109), none, .bsl 7 [(.t 108)]⟩, false, none, false, [3, 2], 0, 1⟩,
 ⟨⟨(some 110), none, .mv (.t 1)⟩, false, none, false, [], 0, 0⟩,
 ⟨⟨(some 111), none, .mv (.t 16)⟩, false, none, false, [], 0, 0⟩,
 ⟨⟨(some 112), none, .ia 7 (.t 110) (.t 111)⟩, false, none, false, [5, 6], 0, 0⟩,
 ⟨⟨(some 113), none, .ld (some 7) (.t 112)⟩, false, none, false, [7, 5, 6], 0, 0⟩,
 ⟨⟨(some 114), none, .call (.f 80) [(.t 113)]⟩, true, none, false, [8, 7, 5, 6], 0, 0⟩,
 ⟨⟨(some 115), none, .bsl 7 [(.t 114)]⟩, false, none, false, [9, 8, 7, 5, 6], 1, 1⟩,
 ⟨⟨(some 116), none, .build (.agg [(.sl true []), (.int .i64 0), (.str ⟨⟨[]⟩⟩), (.sl true []), (.sl true []), (.sl true []), (.sl true []), (.sl true [])]) [(1, 1, 1, (.c (.int .i64 2))), (3, 3, 1, (.t 109)), (4, 4, 1, (.t 115))]⟩, false, none, false, [4, 10, 3, 2, 9, 8, 7, 5, 6], 1, 1⟩,
 ⟨⟨(some 117), none, .bsl 8 [(.t 116)]⟩, false, none, false, [11, 4, 10, 3, 2, 9, 8, 7, 5, 6], 1, 1⟩,
 ⟨⟨(some 118), none, .app 8 168 (.t 106) (.t 117)⟩, true, none, false, [1, 12, 0, 11, 4, 10, 3, 2, 9, 8, 7, 5, 6], 1, 1⟩,
 ⟨⟨(some 119), none, .fa 7 (.t 13)⟩, false, none, false, [13, 1, 12, 0, 11, 4, 10, 3, 2, 9, 8, 7, 5, 6], 2, 2⟩,
 ⟨⟨none, none, .sto 1 (.t 119) (.t 118)⟩, true, none, false, [14, 13, 1, 12, 0, 11, 4, 10, 3, 2, 9, 8, 7, 5, 6], 2, 2⟩] []))))))))))
 (.reg [⟨(some 120), none, .bin .add (.t 62) (.c (.int .i64 1))⟩,
 ⟨(some 62), none, .mv (.t 120)⟩])))))))
 (.seq (.reg [⟨(some 122), none, .fa 6 (.t 2)⟩,
 ⟨(some 123), none, .ld none (.t 122)⟩,
 ⟨(some 124), none, .ia 8 (.t 123) (.c (.int .i64 0))⟩,
 ⟨(some 125), none, .ld (some 8) (.t 124)⟩,
 ⟨(some 126), none, .mv (.t 14)⟩,
 ⟨(some 127), none, .mv (.t 15)⟩,
 ⟨(some 128), none, .call (.f 81) [(.t 125), (.t 126), (.t 127)]⟩,
 ⟨(some 121), none, .mv (.t 128)⟩,
 ⟨(some 129), none, .ext 0 (.t 121)⟩,
 ⟨(some 130), none, .ext 1 (.t 121)⟩,
 ⟨(some 19), none, .new (.agg [(.sl true []), (.int .i64 0), (.str ⟨⟨[]⟩⟩), (.sl true []), (.sl true []), (.sl true []), (.sl true []), (.sl true [])])⟩,
 ⟨none, none, .sto 8 (.t 19) (.t 129)⟩,
 ⟨(some 20), none, .mv (.t 130)⟩])
 (.seq (.seq (.reg [⟨(some 131), none, .mv (.t 20)⟩,
 ⟨(some 132), none, .bin .neq (.t 131) (.c (.int .i64 0))⟩,
 ⟨(some 133), none, .mv (.t 132)⟩,
 ⟨(some 134), (some (133, false)), .fa 6 (.t 13)⟩,
 ⟨(some 135), (some (133, false)), .ld none (.t 134)⟩,
 ⟨(some 136), (some (133, false)), .len false (.t 135)⟩,
 ⟨(some 137), (some (133, false)), .bin .eql (.t 136) (.c (.int .i64 0))⟩,
 ⟨(some 138), none, .pick (.t 133) (.c (.bool true)) (.t 137)⟩])
 (.cond (.t 138)
 (.seq (.reg [⟨(some 139), none, .ld (some 8) (.t 19)⟩,
 ⟨(some 140), none, .mv (.t 20)⟩,
 ⟨none, none, .sto 8 (.t 4) (.t 139)⟩,
 ⟨(some 5), none, .mv (.t 140)⟩])
 (.ret))
 (.skip)))
 (.seq (.seq (.reg [⟨(some 141), none, .fa 0 (.t 19)⟩,
 ⟨(some 142), none, .ld none (.t 141)⟩,
 ⟨(some 143), none, .len false (.t 142)⟩,
 ⟨(some 144), none, .bin .gtr (.t 143) (.c (.int .i64 0))⟩])
 (.cond (.t 144)
 (.reg [⟨(some 145), none, .ld (some 8) (.t 19)⟩,
 ⟨(some 146), none, .bsl 8 [(.t 145)]⟩,
 ⟨(some 147), none, .build (.agg [(.sl true []), (.int .i64 0), (.str ⟨⟨[]⟩⟩), (.sl true []), (.sl true []), (.sl true []), (.sl true []), (.sl true [])]) [(1, 1, 1, (.c (.int .i64 8))), (7, 7, 1, (.t 146))]⟩,
 ⟨none, none, .sto 8 (.t 19) (.t 147)⟩])
 (.skip)))
 (.seq (.reg [⟨(some 148), none, .fa 7 (.t 13)⟩,
 ⟨(some 149), none, .ld none (.t 148)⟩,
 ⟨(some 150), none, .ld (some 8) (.t 19)⟩,
 ⟨(some 151), none, .bsl 8 [(.t 150)]⟩,
 ⟨(some 152), none, .app 8 168 (.t 149) (.t 151)⟩,
 ⟨(some 153), none, .fa 7 (.t 13)⟩,
 ⟨none, none, .sto 1 (.t 153) (.t 152)⟩])
 (.seq (.reg [⟨(some 154), none, .ld (some 8) (.t 13)⟩,
 ⟨(some 155), none, .call (.f 82) [(.t 154)]⟩,
 ⟨(some 156), none, .ext 0 (.t 155)⟩,
 ⟨(some 157), none, .ext 1 (.t 155)⟩,
 ⟨none, none, .sto 8 (.t 4) (.t 156)⟩,
 ⟨(some 5), none, .mv (.t 157)⟩])
 (.ret)))))))))))))))))⟩
theorem ok27 : compF Tryz.prog Tryz.f27 = some c27 := by kernel_rfl

-- manorboy/copyrule.Free
noncomputable def c29 : F' := ⟨19, [.t 2, .t 3],
 .seq (.reg [⟨(some 1), none, .box (.t 0)⟩,
 ⟨(some 2), none, .mv (.c (.sl true []))⟩,
 ⟨(some 3), none, .mv (.c (.int .i64 0))⟩])
 (.seq (.seq (.reg [⟨(some 7), none, .ld (some 8) (.t 1)⟩,
 ⟨(some 8), none, .call (.f 56) [(.t 7)]⟩,
 ⟨(some 4), none, .mv (.t 8)⟩])
 (.seq (.reg [⟨(some 9), none, .mv (.t 4)⟩,
 ⟨(some 10), none, .bin .neq (.t 9) (.c (.int .i64 0))⟩])
 (.cond (.t 10)
 (.seq (.reg [⟨(some 11), none, .mv (.t 4)⟩,
 ⟨(some 2), none, .mv (.c (.sl true []))⟩,
 ⟨(some 3), none, .mv (.t 11)⟩])
 (.ret))
 (.skip))))
 (.seq (.reg [⟨(some 13), none, .ld (some 8) (.t 1)⟩,
 ⟨(some 14), none, .call (.f 58) [(.t 13)]⟩,
 ⟨(some 12), none, .mv (.t 14)⟩,
 ⟨(some 15), none, .ext 0 (.t 12)⟩,
 ⟨(some 16), none, .ext 1 (.t 12)⟩,
 ⟨(some 5), none, .mv (.t 15)⟩,
 ⟨(some 6), none, .mv (.t 16)⟩])
 (.seq (.reg [⟨(some 17), none, .mv (.t 5)⟩,
 ⟨(some 18), none, .call (.f 86) [(.t 17)]⟩,
 ⟨(some 2), none, .mv (.t 18)⟩,
 ⟨(some 3), none, .mv (.c (.int .i64 0))⟩])
 (.ret))))⟩
theorem ok29 : compF Tryz.prog Tryz.f29 = some c29 := by kernel_rfl

-- manorboy/manorboyref09.SameNames
noncomputable def c30 : F' := ⟨26, [.t 4],
 .seq (.reg [⟨(some 4), none, .mv (.c (.bool false))⟩])
 (.seq (.seq (.reg [⟨(some 6), none, .mv (.t 0)⟩,
 ⟨(some 7), none, .len false (.t 6)⟩,
 ⟨(some 8), none, .mv (.t 1)⟩,
 ⟨(some 9), none, .len false (.t 8)⟩,
 ⟨(some 10), none, .bin .neq (.t 7) (.t 9)⟩])
 (.cond (.t 10)
 (.seq (.reg [⟨(some 4), none, .mv (.c (.bool false))⟩])
 (.ret))
 (.skip)))
 (.seq (.seq (.reg [⟨(some 5), none, .mv (.c (.int .i64 0))⟩])
 (.block 0 (.loop (.seq (.seq (.reg [⟨(some 11), none, .mv (.t 5)⟩,
 ⟨(some 12), none, .mv (.t 0)⟩,
 ⟨(some 13), none, .len false (.t 12)⟩,
 ⟨(some 14), none, .bin .lss (.t 11) (.t 13)⟩])
 (.cond (.t 14)
 (.skip)
 (.exit 0)))
 (.seq (.block 1 (.seq (.draw [⟨⟨(some 17), none, .mv (.t 0)⟩, false, none, false, [], 0, 0⟩,
 ⟨⟨(some 18), none, .mv (.t 5)⟩, false, none, false, [], 0, 0⟩,
 ⟨⟨(some 19), none, .ia 1 (.t 17) (.t 18)⟩, false, none, false, [0, 1], 0, 0⟩,
 ⟨⟨(some 20), none, .ld none (.t 19)⟩, false, none, false, [2, 0, 1], 0, 0⟩,
 ⟨⟨(some 21), none, .mv (.t 1)⟩, false, none, false, [], 0, 0⟩,
 ⟨⟨(some 22), none, .mv (.t 5)⟩, false, none, false, [], 0, 0⟩,
 ⟨⟨(some 23), none, .ia 1 (.t 21) (.t 22)⟩, false, none, false, [4, 5], 0, 0⟩,
 ⟨⟨(some 24), none, .ld none (.t 23)⟩, false, none, false, [6, 4, 5], 0, 0⟩,
 ⟨⟨(some 25), none, .bin .neq (.t 20) (.t 24)⟩, false, none, false, [3, 7, 2, 0, 1, 6, 4, 5], 0, 0⟩] [])
 (.cond (.t 25)
 (.seq (.reg [⟨(some 4), none, .mv (.c (.bool false))⟩])
 (.ret))
 (.skip))))
 (.reg [⟨(some 15), none, .mv (.t 5)⟩,
 ⟨(some 16), none, .bin .add (.t 15) (.c (.int .i64 1))⟩,
 ⟨(some 5), none, .mv (.t 16)⟩]))))))
 (.seq (.reg [⟨(some 4), none, .mv (.c (.bool true))⟩])
 (.ret))))⟩
theorem ok30 : compF Tryz.prog Tryz.f30 = some c30 := by kernel_rfl

-- manorboy/copyrule.Bound
noncomputable def c31 : F' := ⟨20, [.t 2, .t 3],
 .seq (.reg [⟨(some 1), none, .box (.t 0)⟩,
 ⟨(some 2), none, .mv (.c (.sl true []))⟩,
 ⟨(some 3), none, .mv (.c (.int .i64 0))⟩])
 (.seq (.seq (.reg [⟨(some 7), none, .ld (some 8) (.t 1)⟩,
 ⟨(some 8), none, .call (.f 56) [(.t 7)]⟩,
 ⟨(some 4), none, .mv (.t 8)⟩])
 (.seq (.reg [⟨(some 9), none, .mv (.t 4)⟩,
 ⟨(some 10), none, .bin .neq (.t 9) (.c (.int .i64 0))⟩])
 (.cond (.t 10)
 (.seq (.reg [⟨(some 11), none, .mv (.t 4)⟩,
 ⟨(some 2), none, .mv (.c (.sl true []))⟩,
 ⟨(some 3), none, .mv (.t 11)⟩])
 (.ret))
 (.skip))))
 (.seq (.reg [⟨(some 13), none, .ld (some 8) (.t 1)⟩,
 ⟨(some 14), none, .call (.f 58) [(.t 13)]⟩,
 ⟨(some 12), none, .mv (.t 14)⟩,
 ⟨(some 15), none, .ext 0 (.t 12)⟩,
 ⟨(some 16), none, .ext 1 (.t 12)⟩,
 ⟨(some 5), none, .mv (.t 15)⟩,
 ⟨(some 6), none, .mv (.t 16)⟩])
 (.seq (.reg [⟨(some 17), none, .mv (.t 6)⟩,
 ⟨(some 18), none, .call (.f 75) [(.t 17)]⟩,
 ⟨(some 19), none, .call (.f 86) [(.t 18)]⟩,
 ⟨(some 2), none, .mv (.t 19)⟩,
 ⟨(some 3), none, .mv (.c (.int .i64 0))⟩])
 (.ret))))⟩
theorem ok31 : compF Tryz.prog Tryz.f31 = some c31 := by kernel_rfl

-- manorboy/copyrule.Substitute
noncomputable def c32 : F' := ⟨33, [.cell 6 (some 8), .t 7],
 .seq (.reg [⟨(some 3), none, .box (.t 0)⟩,
 ⟨(some 6), none, .new (.agg [(.sl true []), (.int .i64 0), (.str ⟨⟨[]⟩⟩), (.sl true []), (.sl true []), (.sl true []), (.sl true []), (.sl true [])])⟩,
 ⟨(some 7), none, .mv (.c (.int .i64 0))⟩])
 (.seq (.seq (.reg [⟨(some 11), none, .ld (some 8) (.t 3)⟩,
 ⟨(some 12), none, .call (.f 56) [(.t 11)]⟩,
 ⟨(some 8), none, .mv (.t 12)⟩])
 (.seq (.reg [⟨(some 13), none, .mv (.t 8)⟩,
 ⟨(some 14), none, .bin .neq (.t 13) (.c (.int .i64 0))⟩])
 (.cond (.t 14)
 (.seq (.reg [⟨(some 15), none, .build (.agg [(.sl true []), (.int .i64 0), (.str ⟨⟨[]⟩⟩), (.sl true []), (.sl true []), (.sl true []), (.sl true []), (.sl true [])]) []⟩,
 ⟨(some 16), none, .mv (.t 8)⟩,
 ⟨none, none, .sto 8 (.t 6) (.t 15)⟩,
 ⟨(some 7), none, .mv (.t 16)⟩])
 (.ret))
 (.skip))))
 (.seq (.reg [⟨(some 18), none, .mv (.t 1)⟩,
 ⟨(some 19), none, .mv (.t 2)⟩,
 ⟨(some 20), none, .call (.f 87) [(.t 18), (.t 19)]⟩,
 ⟨(some 17), none, .mv (.t 20)⟩,
 ⟨(some 21), none, .ext 0 (.t 17)⟩,
 ⟨(some 22), none, .ext 1 (.t 17)⟩,
 ⟨(some 9), none, .mv (.t 21)⟩,
 ⟨(some 10), none, .mv (.t 22)⟩])
 (.seq (.seq (.reg [⟨(some 23), none, .mv (.t 10)⟩,
 ⟨(some 24), none, .bin .neq (.t 23) (.c (.int .i64 0))⟩])
 (.cond (.t 24)
 (.seq (.reg [⟨(some 25), none, .build (.agg [(.sl true []), (.int .i64 0), (.str ⟨⟨[]⟩⟩), (.sl true []), (.sl true []), (.sl true []), (.sl true []), (.sl true [])]) []⟩,
 ⟨(some 26), none, .mv (.t 10)⟩,
 ⟨none, none, .sto 8 (.t 6) (.t 25)⟩,
 ⟨(some 7), none, .mv (.t 26)⟩])
 (.ret))
 (.skip)))
 (.seq (.reg [⟨(some 27), none, .ld (some 8) (.t 3)⟩,
 ⟨(some 28), none, .mv (.t 1)⟩,
 ⟨(some 29), none, .mv (.t 9)⟩,
 ⟨(some 30), none, .call (.f 81) [(.t 27), (.t 28), (.t 29)]⟩,
 ⟨(some 31), none, .ext 0 (.t 30)⟩,
 ⟨(some 32), none, .ext 1 (.t 30)⟩,
 ⟨none, none, .sto 8 (.t 6) (.t 31)⟩,
 ⟨(some 7), none, .mv (.t 32)⟩])
 (.ret)))))⟩
theorem ok32 : compF Tryz.prog Tryz.f32 = some c32 := by kernel_rfl

-- manorboy/manorboylaw09.name
noncomputable def c33 : F' := ⟨5, [.cell 2 (some 7)],
 .seq (.reg [⟨(some 2), none, .new (.agg [(.int .i64 0), (.int .i64 0), (.int .i64 0), (.int .i64 0), (.int .i64 0), (.str ⟨⟨[]⟩⟩), (.sl true [])])⟩])
 (.seq (.reg [⟨(some 3), none, .mv (.t 0)⟩,
 ⟨(some 4), none, .build (.agg [(.int .i64 0), (.int .i64 0), (.int .i64 0), (.int .i64 0), (.int .i64 0), (.str ⟨⟨[]⟩⟩), (.sl true [])]) [(0, 0, 1, (.c (.int .i64 6))), (4, 5, 1, (.t 3))]⟩,
 ⟨none, none, .sto 7 (.t 2) (.t 4)⟩])
 (.ret))⟩
theorem ok33 : compF Tryz.prog Tryz.f33 = some c33 := by kernel_rfl

-- manorboy/manorboylaw09.example
noncomputable def c53 : F' := ⟨36, [.cell 8 (some 8)],
 .seq (.reg [⟨(some 6), none, .box (.t 2)⟩,
 ⟨(some 7), none, .box (.t 3)⟩,
 ⟨(some 8), none, .new (.agg [(.sl true []), (.int .i64 0), (.str ⟨⟨[]⟩⟩), (.sl true []), (.sl true []), (.sl true []), (.sl true []), (.sl true [])])⟩])
 (.seq (.reg [⟨(some 11), none, .mv (.t 1)⟩,
 ⟨(some 12), none, .call (.f 33) [(.t 11)]⟩,
 ⟨(some 13), none, .bsl 7 [(.t 12)]⟩,
 ⟨(some 14), none, .build (.agg [(.sl true []), (.int .i64 0), (.str ⟨⟨[]⟩⟩), (.sl true []), (.sl true []), (.sl true []), (.sl true []), (.sl true [])]) [(1, 1, 1, (.c (.int .i64 3))), (4, 4, 1, (.t 13))]⟩,
 ⟨(some 9), none, .new (.agg [(.sl true []), (.int .i64 0), (.str ⟨⟨[]⟩⟩), (.sl true []), (.sl true []), (.sl true []), (.sl true []), (.sl true [])])⟩,
 ⟨none, none, .sto 8 (.t 9) (.t 14)⟩])
 (.seq (.draw [⟨⟨(some 15), none, .mv (.t 1)⟩, false, none, false, [], 0, 3⟩,
 ⟨⟨(some 16), none, .bsl 1 [(.t 15)]⟩, false, none, false, [0], 0, 3⟩,
 ⟨⟨(some 17), none, .mv (.t 0)⟩, false, none, false, [], 0, 2⟩,
 ⟨⟨(some 18), none, .mv (.t 0)⟩, false, none, false, [], 0, 0⟩,
 ⟨⟨(some 19), none, .call (.f 33) [(.t 18)]⟩, true, none, false, [3], 0, 0⟩,
 ⟨⟨(some 20), none, .ld (some 7) (.t 7)⟩, false, none, true, [], 0, 1⟩,
 ⟨⟨(some 21), none, .call (.f 55) [(.t 19), (.t 20)]⟩, true, none, false, [5, 4, 3], 1, 1⟩,
 ⟨⟨(some 22), none, .call (.f 54) [(.t 17), (.t 21)]⟩, true, none, false, [2, 6, 5, 4, 3], 2, 2⟩,
 ⟨⟨(some 23), none, .ld (some 8) (.t 9)⟩, false, none, true, [], 0, 3⟩,
 ⟨⟨(some 24), none, .bsl 8 [(.t 22), (.t 23)]⟩, false, none, false, [7, 8, 2, 6, 5, 4, 3], 3, 3⟩,
 ⟨⟨(some 25), none, .build (.agg [(.sl true []), (.int .i64 0), (.str ⟨⟨[]⟩⟩), (.sl true []), (.sl true []), (.sl true []), (.sl true []), (.sl true [])]) [(0, 0, 1, (.t 16)), (1, 1, 1, (.c (.int .i64 8))), (7, 7, 1, (.t 24))]⟩, false, none, false, [1, 9, 0, 7, 8, 2, 6, 5, 4, 3], 3, 3⟩,
 ⟨⟨(some 10), none, .new (.agg [(.sl true []), (.int .i64 0), (.str ⟨⟨[]⟩⟩), (.sl true []), (.sl true []), (.sl true []), (.sl true []), (.sl true [])])⟩, false, (some 0), true, [], 0, 3⟩,
 ⟨⟨none, none, .sto 8 (.t 10) (.t 25)⟩, true, none, false, [10, 11, 1, 9, 0, 7, 8, 2, 6, 5, 4, 3], 3, 3⟩] [(.agg [(.sl true []), (.int .i64 0), (.str ⟨⟨[]⟩⟩), (.sl true []), (.sl true []), (.sl true []), (.sl true []), (.sl true [])])])
 (.seq (.draw [⟨⟨(some 26), none, .mv (.t 0)⟩, false, none, false, [], 0, 1⟩,
 ⟨⟨(some 27), none, .bsl 1 [(.t 26)]⟩, false, none, false, [0], 0, 1⟩,
 ⟨⟨(some 28), none, .build (.agg [(.int .i64 0), (.bool false), (.int .i64 0), (.sl true []), (.sl true []), (.sl true []), (.sl true [])]) [(0, 0, 1, (.c (.int .i64 1))), (2, 2, 1, (.c (.int .i64 1))), (3, 3, 1, (.t 27))]⟩, false, none, false, [1, 0], 0, 1⟩,
 ⟨⟨(some 29), none, .bsl 7 [(.t 28)]⟩, false, none, false, [2, 1, 0], 0, 1⟩,
 ⟨⟨(some 30), none, .mv (.t 0)⟩, false, none, false, [], 0, 0⟩,
 ⟨⟨(some 31), none, .ld (some 7) (.t 6)⟩, false, none, false, [], 0, 0⟩,
 ⟨⟨(some 32), none, .call (.f 54) [(.t 30), (.t 31)]⟩, true, none, false, [4, 5], 0, 0⟩,
 ⟨⟨(some 33), none, .ld (some 8) (.t 10)⟩, false, none, true, [], 0, 1⟩,
 ⟨⟨(some 34), none, .bsl 8 [(.t 32), (.t 33)]⟩, false, none, false, [6, 7, 4, 5], 1, 1⟩,
 ⟨⟨(some 35), none, .build (.agg [(.sl true []), (.int .i64 0), (.str ⟨⟨[]⟩⟩), (.sl true []), (.sl true []), (.sl true []), (.sl true []), (.sl true [])]) [(1, 1, 1, (.c (.int .i64 7))), (6, 6, 1, (.t 29)), (7, 7, 1, (.t 34))]⟩, false, none, false, [3, 8, 2, 1, 0, 6, 7, 4, 5], 1, 1⟩,
 ⟨⟨none, none, .sto 8 (.t 8) (.t 35)⟩, true, none, false, [9, 3, 8, 2, 1, 0, 6, 7, 4, 5], 1, 1⟩] [])
 (.ret))))⟩
theorem ok53 : compF Tryz.prog Tryz.f53 = some c53 := by kernel_rfl

-- manorboy/manorboylaw09.assign
noncomputable def c54 : F' := ⟨11, [.cell 4 (some 8)],
 .seq (.reg [⟨(some 3), none, .box (.t 1)⟩,
 ⟨(some 4), none, .new (.agg [(.sl true []), (.int .i64 0), (.str ⟨⟨[]⟩⟩), (.sl true []), (.sl true []), (.sl true []), (.sl true []), (.sl true [])])⟩])
 (.seq (.draw [⟨⟨(some 5), none, .mv (.t 0)⟩, false, none, false, [], 0, 0⟩,
 ⟨⟨(some 6), none, .call (.f 33) [(.t 5)]⟩, true, none, false, [0], 0, 0⟩,
 ⟨⟨(some 7), none, .bsl 7 [(.t 6)]⟩, false, none, false, [1, 0], 1, 1⟩,
 ⟨⟨(some 8), none, .ld (some 7) (.t 3)⟩, false, none, true, [], 0, 1⟩,
 ⟨⟨(some 9), none, .bsl 7 [(.t 8)]⟩, false, none, false, [3], 0, 1⟩,
 ⟨⟨(some 10), none, .build (.agg [(.sl true []), (.int .i64 0), (.str ⟨⟨[]⟩⟩), (.sl true []), (.sl true []), (.sl true []), (.sl true []), (.sl true [])]) [(1, 1, 1, (.c (.int .i64 2))), (3, 3, 1, (.t 7)), (4, 4, 1, (.t 9))]⟩, false, none, false, [2, 4, 1, 0, 3], 1, 1⟩,
 ⟨⟨none, none, .sto 8 (.t 4) (.t 10)⟩, true, none, false, [5, 2, 4, 1, 0, 3], 1, 1⟩] [])
 (.ret))⟩
theorem ok54 : compF Tryz.prog Tryz.f54 = some c54 := by kernel_rfl

-- manorboy/manorboylaw09.sum
noncomputable def c55 : F' := ⟨9, [.cell 4 (some 7)],
 .seq (.reg [⟨(some 2), none, .box (.t 0)⟩,
 ⟨(some 3), none, .box (.t 1)⟩,
 ⟨(some 4), none, .new (.agg [(.int .i64 0), (.int .i64 0), (.int .i64 0), (.int .i64 0), (.int .i64 0), (.str ⟨⟨[]⟩⟩), (.sl true [])])⟩])
 (.seq (.reg [⟨(some 5), none, .ld (some 7) (.t 2)⟩,
 ⟨(some 6), none, .ld (some 7) (.t 3)⟩,
 ⟨(some 7), none, .bsl 7 [(.t 5), (.t 6)]⟩,
 ⟨(some 8), none, .build (.agg [(.int .i64 0), (.int .i64 0), (.int .i64 0), (.int .i64 0), (.int .i64 0), (.str ⟨⟨[]⟩⟩), (.sl true [])]) [(0, 0, 1, (.c (.int .i64 10))), (1, 1, 1, (.c (.int .i64 3))), (5, 6, 1, (.t 7))]⟩,
 ⟨none, none, .sto 7 (.t 4) (.t 8)⟩])
 (.ret))⟩
theorem ok55 : compF Tryz.prog Tryz.f55 = some c55 := by kernel_rfl

-- manorboy/tree.Check
noncomputable def c56 : F' := ⟨6, [.t 2],
 .seq (.reg [⟨(some 1), none, .box (.t 0)⟩,
 ⟨(some 2), none, .mv (.c (.int .i64 0))⟩])
 (.seq (.reg [⟨(some 3), none, .ld (some 8) (.t 1)⟩,
 ⟨(some 4), none, .call (.f 101) [(.t 3)]⟩,
 ⟨(some 5), none, .call (.f 100) [(.t 4)]⟩,
 ⟨(some 2), none, .mv (.t 5)⟩])
 (.ret))⟩
theorem ok56 : compF Tryz.prog Tryz.f56 = some c56 := by kernel_rfl

-- manorboy/lex.IsName
noncomputable def c57 : F' := ⟨24, [.t 2],
 .seq (.reg [⟨(some 2), none, .mv (.c (.bool false))⟩])
 (.seq (.seq (.reg [⟨(some 3), none, .mv (.t 0)⟩,
 ⟨(some 4), none, .bin .eql (.t 3) (.c (.str ⟨⟨[]⟩⟩))⟩,
 ⟨(some 5), none, .mv (.t 4)⟩,
 ⟨(some 6), (some (5, false)), .mv (.t 0)⟩,
 ⟨(some 7), (some (5, false)), .len true (.t 6)⟩,
 ⟨(some 8), (some (5, false)), .bin .gtr (.t 7) (.c (.int .i64 16))⟩,
 ⟨(some 9), none, .pick (.t 5) (.c (.bool true)) (.t 8)⟩,
 ⟨(some 10), none, .mv (.t 9)⟩,
 ⟨(some 11), (some (10, false)), .mv (.t 0)⟩,
 ⟨(some 12), (some (10, false)), .idx (.t 11) (.c (.int .i64 0))⟩,
 ⟨(some 13), (some (10, false)), .call (.f 102) [(.t 12)]⟩,
 ⟨(some 14), (some (10, false)), .un .not (.t 13)⟩,
 ⟨(some 15), none, .pick (.t 10) (.c (.bool true)) (.t 14)⟩,
 ⟨(some 16), none, .mv (.t 15)⟩,
 ⟨(some 17), (some (16, false)), .mv (.t 0)⟩,
 ⟨(some 18), (some (16, false)), .call (.f 103) [(.t 17)]⟩,
 ⟨(some 19), none, .pick (.t 16) (.c (.bool true)) (.t 18)⟩])
 (.cond (.t 19)
 (.seq (.reg [⟨(some 2), none, .mv (.c (.bool false))⟩])
 (.ret))
 (.skip)))
 (.seq (.reg [⟨(some 20), none, .mv (.t 0)⟩,
 ⟨(some 21), none, .ex (.ctb (.t 20))⟩,
 ⟨(some 22), none, .call (.f 104) [(.t 21), (.f 105)]⟩,
 ⟨(some 23), none, .un .not (.t 22)⟩,
 ⟨(some 2), none, .mv (.t 23)⟩])
 (.ret)))⟩
theorem ok57 : compF Tryz.prog Tryz.f57 = some c57 := by kernel_rfl

-- manorboy/copyrule.collected
noncomputable def c58 : F' := ⟨20, [.t 2, .t 3],
 .seq (.reg [⟨(some 1), none, .box (.t 0)⟩,
 ⟨(some 2), none, .mv (.c .nilmap)⟩,
 ⟨(some 3), none, .mv (.c (.sl true []))⟩])
 (.seq (.reg [⟨(some 8), none, .ex (.mkm)⟩,
 ⟨(some 4), none, .new .nilmap⟩,
 ⟨none, none, .sto 1 (.t 4) (.t 8)⟩])
 (.seq (.reg [⟨(some 5), none, .new (.sl true [])⟩])
 (.seq (.reg [⟨(some 9), none, .mkf 107 [] [(.t 4)]⟩,
 ⟨(some 6), none, .new .nilfn⟩,
 ⟨none, none, .sto 1 (.t 6) (.t 9)⟩])
 (.seq (.reg [⟨(some 10), none, .mkf 108 [] [(.t 5)]⟩,
 ⟨(some 11), none, .mkf 109 [] [(.t 6)]⟩,
 ⟨(some 12), none, .mkf 110 [] [(.t 6)]⟩,
 ⟨(some 13), none, .build (.agg [(.int .i64 0), .nilfn, .nilfn, .nilfn]) [(1, 1, 1, (.t 10)), (2, 2, 1, (.t 11)), (3, 3, 1, (.t 12))]⟩,
 ⟨(some 14), none, .box (.t 13)⟩,
 ⟨(some 7), none, .mv (.t 14)⟩])
 (.seq (.reg [⟨(some 15), none, .mv (.t 7)⟩,
 ⟨(some 16), none, .ld (some 8) (.t 1)⟩,
 ⟨(some 17), none, .call (.f 62) [(.t 15), (.t 16)]⟩])
 (.seq (.draw [⟨⟨(some 18), none, .ld none (.t 4)⟩, false, none, false, [], 0, 0⟩,
 ⟨⟨(some 19), none, .ld none (.t 5)⟩, false, none, false, [], 0, 0⟩,
 ⟨⟨(some 2), none, .mv (.t 18)⟩, false, none, false, [0], 0, 0⟩,
 ⟨⟨(some 3), none, .mv (.t 19)⟩, false, none, false, [1, 2, 0], 0, 0⟩] [])
 (.ret)))))))⟩
theorem ok58 : compF Tryz.prog Tryz.f58 = some c58 := by kernel_rfl

-- manorboy/copyrule.Rename$1
noncomputable def c59 : F' := ⟨26, [.t 7],
 .seq (.reg [⟨(some 7), none, .mv (.c (.str ⟨⟨[]⟩⟩))⟩])
 (.seq (.seq (.reg [⟨(some 8), none, .mv (.t 0)⟩,
 ⟨(some 9), none, .ld none (.t 2)⟩,
 ⟨(some 10), none, .bin .neq (.t 8) (.t 9)⟩,
 ⟨(some 11), none, .mv (.t 10)⟩,
 ⟨(some 12), (some (11, false)), .mv (.t 1)⟩,
 ⟨(some 13), (some (11, false)), .mv (.t 0)⟩,
 ⟨(some 14), (some (11, false)), .call (.f 60) [(.t 12), (.t 13)]⟩,
 ⟨(some 15), (some (11, false)), .eq .ptr true (.t 14) (.c .nilp)⟩,
 ⟨(some 16), none, .pick (.t 11) (.c (.bool true)) (.t 15)⟩])
 (.cond (.t 16)
 (.seq (.reg [⟨(some 17), none, .mv (.t 0)⟩,
 ⟨(some 7), none, .mv (.t 17)⟩])
 (.ret))
 (.skip)))
 (.seq (.reg [⟨(some 18), none, .ld none (.t 3)⟩,
 ⟨(some 19), none, .mv (.t 18)⟩,
 ⟨(some 20), (some (19, false)), .mv (.t 1)⟩,
 ⟨(some 21), (some (19, false)), .ld none (.t 4)⟩,
 ⟨(some 22), (some (19, false)), .call (.f 60) [(.t 20), (.t 21)]⟩,
 ⟨(some 23), (some (19, false)), .eq .ptr true (.t 22) (.c .nilp)⟩,
 ⟨(some 24), none, .pick (.t 19) (.c (.bool true)) (.t 23)⟩,
 ⟨none, none, .sto 1 (.t 3) (.t 24)⟩])
 (.seq (.reg [⟨(some 25), none, .ld none (.t 4)⟩,
 ⟨(some 7), none, .mv (.t 25)⟩])
 (.ret))))⟩
theorem ok59 : compF Tryz.prog Tryz.f59 = some c59 := by kernel_rfl

-- (*manorboy/copyrule.scope).find
noncomputable def c60 : F' := ⟨32, [.t 4],
 .seq (.reg [⟨(some 4), none, .mv (.c .nilp)⟩])
 (.scope (.seq (.skip)
 (.seq (.block 0 (.loop (.seq (.seq (.reg [⟨(some 7), none, .mv (.t 0)⟩,
 ⟨(some 8), none, .eq .ptr true (.t 7) (.c .nilp)⟩])
 (.cond (.t 8)
 (.skip)
 (.exit 0)))
 (.block 1 (.seq (.seq (.reg [⟨(some 10), none, .mv (.t 0)⟩,
 ⟨(some 11), none, .nck (.t 10)⟩,
 ⟨(some 12), none, .fa 1 (.t 11)⟩,
 ⟨(some 13), none, .ld none (.t 12)⟩,
 ⟨(some 14), none, .mv (.t 1)⟩,
 ⟨(some 15), none, .ex (.lkp .str .nilp true (.t 13) (.t 14))⟩,
 ⟨(some 9), none, .mv (.t 15)⟩,
 ⟨(some 16), none, .ext 0 (.t 9)⟩,
 ⟨(some 17), none, .ext 1 (.t 9)⟩,
 ⟨(some 5), none, .mv (.t 16)⟩,
 ⟨(some 6), none, .mv (.t 17)⟩])
 (.seq (.reg [⟨(some 18), none, .mv (.t 6)⟩])
 (.cond (.t 18)
 (.seq (.reg [⟨(some 19), none, .mv (.t 5)⟩,
 ⟨(some 4), none, .mv (.t 19)⟩])
 (.ret))
 (.skip))))
 (.seq (.seq (.reg [⟨(some 20), none, .mv (.t 0)⟩,
 ⟨(some 21), none, .nck (.t 20)⟩,
 ⟨(some 22), none, .fa 0 (.t 21)⟩,
 ⟨(some 23), none, .ld none (.t 22)⟩,
 ⟨(some 24), none, .eq .ptr false (.t 23) (.c .nilp)⟩])
 (.cond (.t 24)
 (.exit 0)
 (.skip)))
 (.reg [⟨(some 25), none, .mv (.t 0)⟩,
 ⟨(some 26), none, .nck (.t 25)⟩,
 ⟨(some 27), none, .fa 0 (.t 26)⟩,
 ⟨(some 28), none, .ld none (.t 27)⟩,
 ⟨(some 29), none, .nck (.t 28)⟩,
 ⟨(some 30), none, .fa 0 (.t 29)⟩,
 ⟨(some 31), none, .ld none (.t 30)⟩,
 ⟨(some 0), none, .mv (.t 31)⟩])))))))
 (.seq (.reg [⟨(some 4), none, .mv (.c .nilp)⟩])
 (.ret)))))⟩
theorem ok60 : compF Tryz.prog Tryz.f60 = some c60 := by kernel_rfl

-- manorboy/copyrule.Rename$2
noncomputable def c61 : F' := ⟨15, [.cell 7 (some 7)],
 .seq (.reg [⟨(some 4), none, .box (.t 0)⟩,
 ⟨(some 7), none, .new (.agg [(.int .i64 0), (.int .i64 0), (.int .i64 0), (.int .i64 0), (.int .i64 0), (.str ⟨⟨[]⟩⟩), (.sl true [])])⟩])
 (.seq (.reg [⟨(some 8), none, .ld none (.t 3)⟩,
 ⟨(some 9), none, .fa 5 (.t 4)⟩,
 ⟨(some 10), none, .ld none (.t 9)⟩,
 ⟨(some 11), none, .mv (.t 1)⟩,
 ⟨(some 12), none, .call (.t 8) [(.t 10), (.t 11)]⟩,
 ⟨(some 13), none, .fa 5 (.t 4)⟩,
 ⟨none, none, .sto 1 (.t 13) (.t 12)⟩])
 (.seq (.reg [⟨(some 14), none, .ld (some 7) (.t 4)⟩,
 ⟨none, none, .sto 7 (.t 7) (.t 14)⟩])
 (.ret)))⟩
theorem ok61 : compF Tryz.prog Tryz.f61 = some c61 := by kernel_rfl

-- (*manorboy/copyrule.walker).whole
noncomputable def c62 : F' := ⟨11, [.cell 4 (some 8)],
 .seq (.reg [⟨(some 3), none, .box (.t 1)⟩,
 ⟨(some 4), none, .new (.agg [(.sl true []), (.int .i64 0), (.str ⟨⟨[]⟩⟩), (.sl true []), (.sl true []), (.sl true []), (.sl true []), (.sl true [])])⟩])
 (.seq (.reg [⟨(some 5), none, .mv (.t 0)⟩,
 ⟨(some 6), none, .ld (some 8) (.t 3)⟩,
 ⟨(some 7), none, .bsl 8 [(.t 6)]⟩,
 ⟨(some 8), none, .call (.f 111) [(.t 5), (.t 7), (.c .nilp)]⟩,
 ⟨(some 9), none, .ia 8 (.t 8) (.c (.int .i64 0))⟩,
 ⟨(some 10), none, .ld (some 8) (.t 9)⟩,
 ⟨none, none, .sto 8 (.t 4) (.t 10)⟩])
 (.ret))⟩
theorem ok62 : compF Tryz.prog Tryz.f62 = some c62 := by kernel_rfl

-- manorboy/manorboyref04.Same
noncomputable def c68 : F' := ⟨10, [.t 4],
 .seq (.reg [⟨(some 2), none, .box (.t 0)⟩,
 ⟨(some 3), none, .box (.t 1)⟩,
 ⟨(some 4), none, .mv (.c (.bool false))⟩])
 (.seq (.draw [⟨⟨(some 5), none, .ld (some 8) (.t 2)⟩, false, none, false, [], 0, 0⟩,
 ⟨⟨(some 6), none, .call (.f 113) [(.t 5)]⟩, true, none, false, [0], 0, 0⟩,
 ⟨⟨(some 7), none, .ld (some 8) (.t 3)⟩, false, none, true, [], 0, 1⟩,
 ⟨⟨(some 8), none, .call (.f 113) [(.t 7)]⟩, true, none, false, [2, 1, 0], 1, 1⟩,
 ⟨⟨(some 9), none, .call (.f 118) [(.t 6), (.t 8)]⟩, true, none, false, [3, 2, 1, 0], 2, 2⟩,
 ⟨⟨(some 4), none, .mv (.t 9)⟩, false, none, false, [4, 3, 2, 1, 0], 3, 3⟩] [])
 (.ret))⟩
theorem ok68 : compF Tryz.prog Tryz.f68 = some c68 := by kernel_rfl

-- manorboy/copyrule.sameStmts
noncomputable def c69 : F' := ⟨8, [.t 4],
 .seq (.reg [⟨(some 4), none, .mv (.c (.bool false))⟩])
 (.seq (.reg [⟨(some 5), none, .mv (.t 0)⟩,
 ⟨(some 6), none, .mv (.t 1)⟩,
 ⟨(some 7), none, .call (.f 119) [(.t 5), (.t 6), (.f 120)]⟩,
 ⟨(some 4), none, .mv (.t 7)⟩])
 (.ret))⟩
theorem ok69 : compF Tryz.prog Tryz.f69 = some c69 := by kernel_rfl

-- manorboy/copyrule.numbered
noncomputable def c70 : F' := ⟨9, [.cell 2 (some 8)],
 .seq (.reg [⟨(some 1), none, .box (.t 0)⟩,
 ⟨(some 2), none, .new (.agg [(.sl true []), (.int .i64 0), (.str ⟨⟨[]⟩⟩), (.sl true []), (.sl true []), (.sl true []), (.sl true []), (.sl true [])])⟩])
 (.seq (.reg [⟨(some 4), none, .build (.agg [(.int .i64 0), .nilfn, .nilfn, .nilfn]) [(1, 1, 1, (.f 128))]⟩,
 ⟨(some 5), none, .box (.t 4)⟩,
 ⟨(some 3), none, .mv (.t 5)⟩])
 (.seq (.reg [⟨(some 6), none, .mv (.t 3)⟩,
 ⟨(some 7), none, .ld (some 8) (.t 1)⟩,
 ⟨(some 8), none, .call (.f 62) [(.t 6), (.t 7)]⟩,
 ⟨none, none, .sto 8 (.t 2) (.t 8)⟩])
 (.ret)))⟩
theorem ok70 : compF Tryz.prog Tryz.f70 = some c70 := by kernel_rfl

-- manorboy/copyrule.expandable
noncomputable def c73 : F' := ⟨43, [.t 4],
 .seq (.reg [⟨(some 2), none, .box (.t 0)⟩,
 ⟨(some 4), none, .mv (.c (.int .i64 0))⟩])
 (.seq (.seq (.reg [⟨(some 9), none, .fa 0 (.t 2)⟩,
 ⟨(some 10), none, .ld none (.t 9)⟩,
 ⟨(some 11), none, .bin .neq (.t 10) (.c (.int .i64 4))⟩])
 (.cond (.t 11)
 (.seq (.reg [⟨(some 4), none, .mv (.c (.int .i64 5))⟩])
 (.ret))
 (.skip)))
 (.seq (.seq (.reg [⟨(some 12), none, .ld (some 7) (.t 2)⟩,
 ⟨(some 13), none, .call (.f 130) [(.t 12)]⟩,
 ⟨(some 5), none, .mv (.t 13)⟩])
 (.seq (.reg [⟨(some 14), none, .mv (.t 5)⟩,
 ⟨(some 15), none, .bin .neq (.t 14) (.c (.int .i64 0))⟩])
 (.cond (.t 15)
 (.seq (.reg [⟨(some 16), none, .mv (.t 5)⟩,
 ⟨(some 4), none, .mv (.t 16)⟩])
 (.ret))
 (.skip))))
 (.seq (.seq (.reg [⟨(some 17), none, .mv (.t 1)⟩,
 ⟨(some 18), none, .len false (.t 17)⟩,
 ⟨(some 19), none, .fa 5 (.t 2)⟩,
 ⟨(some 20), none, .ld none (.t 19)⟩,
 ⟨(some 21), none, .len false (.t 20)⟩,
 ⟨(some 22), none, .bin .neq (.t 18) (.t 21)⟩])
 (.cond (.t 22)
 (.seq (.reg [⟨(some 4), none, .mv (.c (.int .i64 5))⟩])
 (.ret))
 (.skip)))
 (.seq (.seq (.reg [⟨(some 23), none, .fa 2 (.t 2)⟩,
 ⟨(some 24), none, .ld none (.t 23)⟩,
 ⟨(some 25), none, .bin .neq (.t 24) (.c (.int .i64 0))⟩,
 ⟨(some 26), none, .mv (.t 25)⟩,
 ⟨(some 27), (some (26, false)), .fa 5 (.t 2)⟩,
 ⟨(some 28), (some (26, false)), .ld none (.t 27)⟩,
 ⟨(some 29), (some (26, false)), .call (.f 131) [(.t 28), (.f 132)]⟩,
 ⟨(some 30), none, .pick (.t 26) (.c (.bool true)) (.t 29)⟩])
 (.cond (.t 30)
 (.seq (.reg [⟨(some 4), none, .mv (.c (.int .i64 10))⟩])
 (.ret))
 (.skip)))
 (.seq (.seq (.reg [⟨(some 31), none, .mv (.t 1)⟩,
 ⟨(some 32), none, .len false (.t 31)⟩,
 ⟨(some 33), none, .mv (.c (.int .i64 0))⟩])
 (.block 0 (.loop (.seq (.reg [⟨(some 34), none, .bin .lss (.t 33) (.t 32)⟩])
 (.seq (.cond (.t 34)
 (.skip)
 (.exit 0))
 (.seq (.block 1 (.seq (.reg [⟨(some 35), none, .ia 7 (.t 31) (.t 33)⟩,
 ⟨(some 36), none, .ld (some 7) (.t 35)⟩,
 ⟨(some 7), none, .new (.agg [(.int .i64 0), (.int .i64 0), (.int .i64 0), (.int .i64 0), (.int .i64 0), (.str ⟨⟨[]⟩⟩), (.sl true [])])⟩,
 ⟨none, none, .sto 7 (.t 7) (.t 36)⟩])
 (.seq (.reg [⟨(some 37), none, .ld (some 7) (.t 7)⟩,
 ⟨(some 38), none, .call (.f 90) [(.t 37)]⟩,
 ⟨(some 8), none, .mv (.t 38)⟩])
 (.seq (.reg [⟨(some 39), none, .mv (.t 8)⟩,
 ⟨(some 40), none, .bin .neq (.t 39) (.c (.int .i64 0))⟩])
 (.cond (.t 40)
 (.seq (.reg [⟨(some 41), none, .mv (.t 8)⟩,
 ⟨(some 4), none, .mv (.t 41)⟩])
 (.ret))
 (.skip))))))
 (.reg [⟨(some 42), none, .bin .add (.t 33) (.c (.int .i64 1))⟩,
 ⟨(some 33), none, .mv (.t 42)⟩])))))))
 (.seq (.reg [⟨(some 4), none, .mv (.c (.int .i64 0))⟩])
 (.ret)))))))⟩
theorem ok73 : compF Tryz.prog Tryz.f73 = some c73 := by kernel_rfl

-- manorboy/copyrule.used
noncomputable def c74 : F' := ⟨13, [.t 2],
 .seq (.reg [⟨(some 2), none, .mv (.c .nilmap)⟩])
 (.seq (.reg [⟨(some 5), none, .ex (.mkm)⟩,
 ⟨(some 3), none, .new .nilmap⟩,
 ⟨none, none, .sto 1 (.t 3) (.t 5)⟩])
 (.seq (.reg [⟨(some 6), none, .mkf 133 [] [(.t 3)]⟩,
 ⟨(some 7), none, .build (.agg [(.int .i64 0), .nilfn, .nilfn, .nilfn]) [(2, 2, 1, (.t 6))]⟩,
 ⟨(some 8), none, .box (.t 7)⟩,
 ⟨(some 4), none, .mv (.t 8)⟩])
 (.seq (.reg [⟨(some 9), none, .mv (.t 4)⟩,
 ⟨(some 10), none, .mv (.t 0)⟩,
 ⟨(some 11), none, .call (.f 134) [(.t 9), (.t 10), (.c .nilp), (.c (.bool false))]⟩])
 (.seq (.reg [⟨(some 12), none, .ld none (.t 3)⟩,
 ⟨(some 2), none, .mv (.t 12)⟩])
 (.ret)))))⟩
theorem ok74 : compF Tryz.prog Tryz.f74 = some c74 := by kernel_rfl

-- manorboy/copyrule.boundNames
noncomputable def c75 : F' := ⟨22, [.t 2],
 .seq (.reg [⟨(some 2), none, .mv (.c .nilmap)⟩])
 (.seq (.reg [⟨(some 6), none, .ex (.mkm)⟩,
 ⟨(some 3), none, .mv (.t 6)⟩])
 (.seq (.seq (.reg [⟨(some 7), none, .mv (.t 0)⟩,
 ⟨(some 8), none, .len false (.t 7)⟩,
 ⟨(some 9), none, .mv (.c (.int .i64 0))⟩])
 (.block 0 (.loop (.seq (.reg [⟨(some 10), none, .bin .lss (.t 9) (.t 8)⟩])
 (.seq (.cond (.t 10)
 (.skip)
 (.exit 0))
 (.seq (.block 1 (.seq (.reg [⟨(some 11), none, .ia 1 (.t 7) (.t 9)⟩,
 ⟨(some 12), none, .ld none (.t 11)⟩,
 ⟨(some 5), none, .mv (.t 12)⟩])
 (.reg [⟨(some 13), none, .mv (.t 3)⟩,
 ⟨(some 14), none, .mv (.t 5)⟩,
 ⟨(some 15), none, .nck (.t 14)⟩,
 ⟨(some 16), none, .fa 1 (.t 15)⟩,
 ⟨(some 17), none, .ld none (.t 16)⟩,
 ⟨(some 18), none, .bsl 1 [(.t 17)]⟩,
 ⟨(some 19), none, .call (.f 79) [(.t 13), (.t 18)]⟩])))
 (.reg [⟨(some 20), none, .bin .add (.t 9) (.c (.int .i64 1))⟩,
 ⟨(some 9), none, .mv (.t 20)⟩])))))))
 (.seq (.reg [⟨(some 21), none, .mv (.t 3)⟩,
 ⟨(some 2), none, .mv (.t 21)⟩])
 (.ret))))⟩
theorem ok75 : compF Tryz.prog Tryz.f75 = some c75 := by kernel_rfl

-- maps.Copy[manorboy/copyrule.names,manorboy/copyrule.names,string,bool]
noncomputable def c76 : F' := ⟨16, [],
 .seq (.reg [⟨(some 6), none, .mv (.t 1)⟩,
 ⟨(some 7), none, .ex (.rng (.t 6))⟩])
 (.block 0 (.loop (.seq (.reg [⟨(some 8), none, .ex (.nxt (.t 7))⟩,
 ⟨(some 9), none, .ext 0 (.t 8)⟩])
 (.seq (.cond (.t 9)
 (.skip)
 (.exit 0))
 (.block 1 (.seq (.reg [⟨(some 10), none, .ex (.ent (.t 7))⟩,
 ⟨(some 11), none, .ext 0 (.t 10)⟩,
 ⟨(some 12), none, .ext 1 (.t 10)⟩,
 ⟨(some 4), none, .mv (.t 11)⟩,
 ⟨(some 5), none, .mv (.t 12)⟩])
 (.reg [⟨(some 13), none, .mv (.t 0)⟩,
 ⟨(some 14), none, .mv (.t 4)⟩,
 ⟨(some 15), none, .mv (.t 5)⟩,
 ⟨none, none, .ex (.mup .str (.t 13) (.t 14) (.t 15))⟩])))))))⟩
theorem ok76 : compF Tryz.prog Tryz.f76 = some c76 := by kernel_rfl

-- manorboy/copyrule.fresh
noncomputable def c77 : F' := ⟨32, [.t 4],
 .seq (.reg [⟨(some 4), none, .mv (.c (.str ⟨⟨[]⟩⟩))⟩])
 (.seq (.seq (.reg [⟨(some 8), none, .mv (.t 1)⟩,
 ⟨(some 9), none, .mv (.t 0)⟩,
 ⟨(some 10), none, .call (.t 8) [(.t 9)]⟩,
 ⟨(some 11), none, .un .not (.t 10)⟩])
 (.cond (.t 11)
 (.seq (.reg [⟨(some 12), none, .mv (.t 0)⟩,
 ⟨(some 4), none, .mv (.t 12)⟩])
 (.ret))
 (.skip)))
 (.seq (.reg [⟨(some 5), none, .mv (.c (.int .i64 1))⟩])
 (.block 0 (.loop (.seq (.block 1 (.seq (.reg [⟨(some 15), none, .mv (.t 5)⟩,
 ⟨(some 16), none, .call (.f 129) [(.t 15)]⟩,
 ⟨(some 6), none, .mv (.t 16)⟩])
 (.seq (.reg [⟨(some 17), none, .mv (.t 0)⟩,
 ⟨(some 18), none, .mv (.t 0)⟩,
 ⟨(some 19), none, .len true (.t 18)⟩,
 ⟨(some 20), none, .mv (.t 6)⟩,
 ⟨(some 21), none, .len true (.t 20)⟩,
 ⟨(some 22), none, .bin .sub (.c (.int .i64 16)) (.t 21)⟩,
 ⟨(some 23), none, .ex (.mm false (.t 19) (.t 22))⟩,
 ⟨(some 24), none, .slc true 0 (.t 17) none (some (.t 23))⟩,
 ⟨(some 25), none, .mv (.t 6)⟩,
 ⟨(some 26), none, .bin .add (.t 24) (.t 25)⟩,
 ⟨(some 7), none, .mv (.t 26)⟩])
 (.seq (.reg [⟨(some 27), none, .mv (.t 1)⟩,
 ⟨(some 28), none, .mv (.t 7)⟩,
 ⟨(some 29), none, .call (.t 27) [(.t 28)]⟩,
 ⟨(some 30), none, .un .not (.t 29)⟩])
 (.cond (.t 30)
 (.seq (.reg [⟨(some 31), none, .mv (.t 7)⟩,
 ⟨(some 4), none, .mv (.t 31)⟩])
 (.ret))
 (.skip))))))
 (.reg [⟨(some 13), none, .mv (.t 5)⟩,
 ⟨(some 14), none, .bin .add (.t 13) (.c (.int .i64 1))⟩,
 ⟨(some 5), none, .mv (.t 14)⟩]))))))⟩
theorem ok77 : compF Tryz.prog Tryz.f77 = some c77 := by kernel_rfl

-- manorboy/copyrule.Expand$1
noncomputable def c78 : F' := ⟨7, [.t 3],
 .seq (.reg [⟨(some 3), none, .mv (.c (.bool false))⟩])
 (.seq (.reg [⟨(some 4), none, .ld none (.t 1)⟩,
 ⟨(some 5), none, .mv (.t 0)⟩,
 ⟨(some 6), none, .ex (.lkp .str (.bool false) false (.t 4) (.t 5))⟩,
 ⟨(some 3), none, .mv (.t 6)⟩])
 (.ret))⟩
theorem ok78 : compF Tryz.prog Tryz.f78 = some c78 := by kernel_rfl

-- (manorboy/copyrule.names).add
noncomputable def c79 : F' := ⟨15, [],
 .seq (.reg [⟨(some 6), none, .mv (.t 1)⟩,
 ⟨(some 7), none, .len false (.t 6)⟩,
 ⟨(some 8), none, .mv (.c (.int .i64 0))⟩])
 (.block 0 (.loop (.seq (.reg [⟨(some 9), none, .bin .lss (.t 8) (.t 7)⟩])
 (.seq (.cond (.t 9)
 (.skip)
 (.exit 0))
 (.seq (.block 1 (.seq (.reg [⟨(some 10), none, .ia 1 (.t 6) (.t 8)⟩,
 ⟨(some 11), none, .ld none (.t 10)⟩,
 ⟨(some 5), none, .mv (.t 11)⟩])
 (.reg [⟨(some 12), none, .mv (.t 0)⟩,
 ⟨(some 13), none, .mv (.t 5)⟩,
 ⟨none, none, .ex (.mup .str (.t 12) (.t 13) (.c (.bool true)))⟩])))
 (.reg [⟨(some 14), none, .bin .add (.t 8) (.c (.int .i64 1))⟩,
 ⟨(some 8), none, .mv (.t 14)⟩]))))))⟩
theorem ok79 : compF Tryz.prog Tryz.f79 = some c79 := by kernel_rfl

-- manorboy/copyrule.copied
noncomputable def c80 : F' := ⟨9, [.cell 2 (some 7)],
 .seq (.reg [⟨(some 1), none, .box (.t 0)⟩,
 ⟨(some 2), none, .new (.agg [(.int .i64 0), (.int .i64 0), (.int .i64 0), (.int .i64 0), (.int .i64 0), (.str ⟨⟨[]⟩⟩), (.sl true [])])⟩])
 (.seq (.reg [⟨(some 4), none, .build (.agg [(.int .i64 0), .nilfn, .nilfn, .nilfn]) []⟩,
 ⟨(some 5), none, .box (.t 4)⟩,
 ⟨(some 3), none, .mv (.t 5)⟩])
 (.seq (.reg [⟨(some 6), none, .mv (.t 3)⟩,
 ⟨(some 7), none, .ld (some 7) (.t 1)⟩,
 ⟨(some 8), none, .call (.f 97) [(.t 6), (.t 7), (.c .nilp), (.c (.bool false))]⟩,
 ⟨none, none, .sto 7 (.t 2) (.t 8)⟩])
 (.ret)))⟩
theorem ok80 : compF Tryz.prog Tryz.f80 = some c80 := by kernel_rfl

-- manorboy/copyrule.substitute
noncomputable def c81 : F' := ⟨66, [.cell 6 (some 8), .t 7],
 .seq (.reg [⟨(some 3), none, .box (.t 0)⟩,
 ⟨(some 6), none, .new (.agg [(.sl true []), (.int .i64 0), (.str ⟨⟨[]⟩⟩), (.sl true []), (.sl true []), (.sl true []), (.sl true []), (.sl true [])])⟩,
 ⟨(some 7), none, .mv (.c (.int .i64 0))⟩])
 (.seq (.reg [⟨(some 17), none, .ex (.mkm)⟩,
 ⟨(some 8), none, .mv (.t 17)⟩])
 (.seq (.reg [⟨(some 18), none, .mv (.t 8)⟩,
 ⟨(some 19), none, .mv (.t 1)⟩,
 ⟨(some 20), none, .call (.f 79) [(.t 18), (.t 19)]⟩])
 (.seq (.seq (.reg [⟨(some 21), none, .mv (.t 2)⟩,
 ⟨(some 22), none, .ex (.rng (.t 21))⟩])
 (.block 0 (.loop (.seq (.reg [⟨(some 23), none, .ex (.nxt (.t 22))⟩,
 ⟨(some 24), none, .ext 0 (.t 23)⟩])
 (.seq (.cond (.t 24)
 (.skip)
 (.exit 0))
 (.block 1 (.seq (.reg [⟨(some 25), none, .ex (.ent (.t 22))⟩,
 ⟨(some 26), none, .ext 1 (.t 25)⟩,
 ⟨(some 10), none, .new (.agg [(.int .i64 0), (.int .i64 0), (.int .i64 0), (.int .i64 0), (.int .i64 0), (.str ⟨⟨[]⟩⟩), (.sl true [])])⟩,
 ⟨none, none, .sto 7 (.t 10) (.t 26)⟩])
 (.seq (.reg [⟨(some 27), none, .ld (some 7) (.t 10)⟩,
 ⟨(some 28), none, .bsl 7 [(.t 27)]⟩,
 ⟨(some 29), none, .call (.f 74) [(.t 28)]⟩,
 ⟨(some 30), none, .ex (.rng (.t 29))⟩])
 (.block 2 (.loop (.seq (.reg [⟨(some 31), none, .ex (.nxt (.t 30))⟩,
 ⟨(some 32), none, .ext 0 (.t 31)⟩])
 (.seq (.cond (.t 32)
 (.skip)
 (.exit 2))
 (.block 3 (.seq (.reg [⟨(some 33), none, .ex (.ent (.t 30))⟩,
 ⟨(some 34), none, .ext 0 (.t 33)⟩,
 ⟨(some 11), none, .mv (.t 34)⟩])
 (.reg [⟨(some 35), none, .mv (.t 8)⟩,
 ⟨(some 36), none, .mv (.t 11)⟩,
 ⟨(some 37), none, .bsl 1 [(.t 36)]⟩,
 ⟨(some 38), none, .call (.f 79) [(.t 35), (.t 37)]⟩])))))))))))))))
 (.seq (.reg [⟨(some 40), none, .ld (some 8) (.t 3)⟩,
 ⟨(some 41), none, .mv (.t 8)⟩,
 ⟨(some 42), none, .call (.f 95) [(.t 40), (.t 41)]⟩,
 ⟨(some 43), none, .call (.f 82) [(.t 42)]⟩,
 ⟨(some 39), none, .mv (.t 43)⟩,
 ⟨(some 44), none, .ext 0 (.t 39)⟩,
 ⟨(some 45), none, .ext 1 (.t 39)⟩,
 ⟨(some 12), none, .new (.agg [(.sl true []), (.int .i64 0), (.str ⟨⟨[]⟩⟩), (.sl true []), (.sl true []), (.sl true []), (.sl true []), (.sl true [])])⟩,
 ⟨none, none, .sto 8 (.t 12) (.t 44)⟩,
 ⟨(some 13), none, .mv (.t 45)⟩])
 (.seq (.seq (.reg [⟨(some 46), none, .mv (.t 13)⟩,
 ⟨(some 47), none, .bin .neq (.t 46) (.c (.int .i64 0))⟩])
 (.cond (.t 47)
 (.seq (.reg [⟨(some 48), none, .build (.agg [(.sl true []), (.int .i64 0), (.str ⟨⟨[]⟩⟩), (.sl true []), (.sl true []), (.sl true []), (.sl true []), (.sl true [])]) []⟩,
 ⟨(some 49), none, .mv (.t 13)⟩,
 ⟨none, none, .sto 8 (.t 6) (.t 48)⟩,
 ⟨(some 7), none, .mv (.t 49)⟩])
 (.ret))
 (.skip)))
 (.seq (.reg [⟨(some 51), none, .mv (.t 2)⟩,
 ⟨(some 52), none, .call (.f 96) [(.t 51)]⟩,
 ⟨(some 50), none, .mv (.t 52)⟩,
 ⟨(some 53), none, .ext 0 (.t 50)⟩,
 ⟨(some 54), none, .ext 1 (.t 50)⟩,
 ⟨(some 14), none, .mv (.t 53)⟩,
 ⟨(some 15), none, .mv (.t 54)⟩])
 (.seq (.reg [⟨(some 55), none, .mv (.t 14)⟩,
 ⟨(some 56), none, .ld (some 8) (.t 12)⟩,
 ⟨(some 57), none, .call (.f 62) [(.t 55), (.t 56)]⟩,
 ⟨(some 16), none, .new (.agg [(.sl true []), (.int .i64 0), (.str ⟨⟨[]⟩⟩), (.sl true []), (.sl true []), (.sl true []), (.sl true []), (.sl true [])])⟩,
 ⟨none, none, .sto 8 (.t 16) (.t 57)⟩])
 (.seq (.seq (.reg [⟨(some 58), none, .mv (.t 15)⟩,
 ⟨(some 59), none, .nck (.t 58)⟩,
 ⟨(some 60), none, .ld none (.t 59)⟩])
 (.cond (.t 60)
 (.seq (.reg [⟨(some 61), none, .build (.agg [(.sl true []), (.int .i64 0), (.str ⟨⟨[]⟩⟩), (.sl true []), (.sl true []), (.sl true []), (.sl true []), (.sl true [])]) []⟩,
 ⟨none, none, .sto 8 (.t 6) (.t 61)⟩,
 ⟨(some 7), none, .mv (.c (.int .i64 10))⟩])
 (.ret))
 (.skip)))
 (.seq (.reg [⟨(some 62), none, .ld (some 8) (.t 16)⟩,
 ⟨(some 63), none, .call (.f 82) [(.t 62)]⟩,
 ⟨(some 64), none, .ext 0 (.t 63)⟩,
 ⟨(some 65), none, .ext 1 (.t 63)⟩,
 ⟨none, none, .sto 8 (.t 6) (.t 64)⟩,
 ⟨(some 7), none, .mv (.t 65)⟩])
 (.ret))))))))))⟩
theorem ok81 : compF Tryz.prog Tryz.f81 = some c81 := by kernel_rfl

-- manorboy/copyrule.checked
noncomputable def c82 : F' := ⟨12, [.cell 2 (some 8), .t 3],
 .seq (.reg [⟨(some 1), none, .box (.t 0)⟩,
 ⟨(some 2), none, .new (.agg [(.sl true []), (.int .i64 0), (.str ⟨⟨[]⟩⟩), (.sl true []), (.sl true []), (.sl true []), (.sl true []), (.sl true [])])⟩,
 ⟨(some 3), none, .mv (.c (.int .i64 0))⟩])
 (.seq (.seq (.reg [⟨(some 5), none, .ld (some 8) (.t 1)⟩,
 ⟨(some 6), none, .call (.f 56) [(.t 5)]⟩,
 ⟨(some 4), none, .mv (.t 6)⟩])
 (.seq (.reg [⟨(some 7), none, .mv (.t 4)⟩,
 ⟨(some 8), none, .bin .neq (.t 7) (.c (.int .i64 0))⟩])
 (.cond (.t 8)
 (.seq (.reg [⟨(some 9), none, .build (.agg [(.sl true []), (.int .i64 0), (.str ⟨⟨[]⟩⟩), (.sl true []), (.sl true []), (.sl true []), (.sl true []), (.sl true [])]) []⟩,
 ⟨(some 10), none, .mv (.t 4)⟩,
 ⟨none, none, .sto 8 (.t 2) (.t 9)⟩,
 ⟨(some 3), none, .mv (.t 10)⟩])
 (.ret))
 (.skip))))
 (.seq (.reg [⟨(some 11), none, .ld (some 8) (.t 1)⟩,
 ⟨none, none, .sto 8 (.t 2) (.t 11)⟩,
 ⟨(some 3), none, .mv (.c (.int .i64 0))⟩])
 (.ret)))⟩
theorem ok82 : compF Tryz.prog Tryz.f82 = some c82 := by kernel_rfl

-- (manorboy/copyrule.names).sorted
noncomputable def c86 : F' := ⟨6, [.t 2],
 .seq (.reg [⟨(some 2), none, .mv (.c (.sl true []))⟩])
 (.seq (.reg [⟨(some 3), none, .mv (.t 0)⟩,
 ⟨(some 4), none, .call (.f 137) [(.t 3)]⟩,
 ⟨(some 5), none, .call (.f 136) [(.t 4)]⟩,
 ⟨(some 2), none, .mv (.t 5)⟩])
 (.ret))⟩
theorem ok86 : compF Tryz.prog Tryz.f86 = some c86 := by kernel_rfl

-- manorboy/copyrule.pairs
noncomputable def c87 : F' := ⟨58, [.t 4, .t 5],
 .seq (.reg [⟨(some 4), none, .mv (.c .nilmap)⟩,
 ⟨(some 5), none, .mv (.c (.int .i64 0))⟩])
 (.seq (.seq (.reg [⟨(some 14), none, .mv (.t 0)⟩,
 ⟨(some 15), none, .len false (.t 14)⟩,
 ⟨(some 16), none, .mv (.t 1)⟩,
 ⟨(some 17), none, .len false (.t 16)⟩,
 ⟨(some 18), none, .bin .neq (.t 15) (.t 17)⟩,
 ⟨(some 19), none, .mv (.t 18)⟩,
 ⟨(some 20), (some (19, false)), .mv (.t 0)⟩,
 ⟨(some 21), (some (19, false)), .call (.f 138) [(.t 20), (.f 139)]⟩,
 ⟨(some 22), none, .pick (.t 19) (.c (.bool true)) (.t 21)⟩])
 (.cond (.t 22)
 (.seq (.reg [⟨(some 4), none, .mv (.c .nilmap)⟩,
 ⟨(some 5), none, .mv (.c (.int .i64 1))⟩])
 (.ret))
 (.skip)))
 (.seq (.reg [⟨(some 23), none, .ex (.mkm)⟩,
 ⟨(some 6), none, .mv (.t 23)⟩])
 (.seq (.seq (.reg [⟨(some 24), none, .mv (.t 0)⟩,
 ⟨(some 25), none, .len false (.t 24)⟩,
 ⟨(some 26), none, .mv (.c (.int .i64 0))⟩])
 (.block 0 (.loop (.seq (.reg [⟨(some 27), none, .bin .lss (.t 26) (.t 25)⟩])
 (.seq (.cond (.t 27)
 (.skip)
 (.exit 0))
 (.seq (.block 1 (.seq (.reg [⟨(some 28), none, .mv (.t 26)⟩,
 ⟨(some 29), none, .ia 1 (.t 24) (.t 26)⟩,
 ⟨(some 30), none, .ld none (.t 29)⟩,
 ⟨(some 7), none, .mv (.t 28)⟩,
 ⟨(some 8), none, .mv (.t 30)⟩])
 (.seq (.seq (.reg [⟨(some 32), none, .mv (.t 6)⟩,
 ⟨(some 33), none, .mv (.t 8)⟩,
 ⟨(some 34), none, .ex (.lkp .str (.agg [(.int .i64 0), (.int .i64 0), (.int .i64 0), (.int .i64 0), (.int .i64 0), (.str ⟨⟨[]⟩⟩), (.sl true [])]) true (.t 32) (.t 33))⟩,
 ⟨(some 31), none, .mv (.t 34)⟩,
 ⟨(some 35), none, .ext 0 (.t 31)⟩,
 ⟨(some 36), none, .ext 1 (.t 31)⟩,
 ⟨(some 9), none, .new (.agg [(.int .i64 0), (.int .i64 0), (.int .i64 0), (.int .i64 0), (.int .i64 0), (.str ⟨⟨[]⟩⟩), (.sl true [])])⟩,
 ⟨none, none, .sto 7 (.t 9) (.t 35)⟩,
 ⟨(some 10), none, .mv (.t 36)⟩])
 (.seq (.reg [⟨(some 37), none, .mv (.t 10)⟩])
 (.cond (.t 37)
 (.seq (.reg [⟨(some 4), none, .mv (.c .nilmap)⟩,
 ⟨(some 5), none, .mv (.c (.int .i64 6))⟩])
 (.ret))
 (.skip))))
 (.reg [⟨(some 38), none, .mv (.t 6)⟩,
 ⟨(some 39), none, .mv (.t 8)⟩,
 ⟨(some 40), none, .mv (.t 1)⟩,
 ⟨(some 41), none, .mv (.t 7)⟩,
 ⟨(some 42), none, .ia 7 (.t 40) (.t 41)⟩,
 ⟨(some 43), none, .ld (some 7) (.t 42)⟩,
 ⟨none, none, .ex (.mup .str (.t 38) (.t 39) (.t 43))⟩]))))
 (.reg [⟨(some 44), none, .bin .add (.t 26) (.c (.int .i64 1))⟩,
 ⟨(some 26), none, .mv (.t 44)⟩])))))))
 (.seq (.seq (.reg [⟨(some 45), none, .mv (.t 1)⟩,
 ⟨(some 46), none, .len false (.t 45)⟩,
 ⟨(some 47), none, .mv (.c (.int .i64 0))⟩])
 (.block 2 (.loop (.seq (.reg [⟨(some 48), none, .bin .lss (.t 47) (.t 46)⟩])
 (.seq (.cond (.t 48)
 (.skip)
 (.exit 2))
 (.seq (.block 3 (.seq (.reg [⟨(some 49), none, .ia 7 (.t 45) (.t 47)⟩,
 ⟨(some 50), none, .ld (some 7) (.t 49)⟩,
 ⟨(some 12), none, .new (.agg [(.int .i64 0), (.int .i64 0), (.int .i64 0), (.int .i64 0), (.int .i64 0), (.str ⟨⟨[]⟩⟩), (.sl true [])])⟩,
 ⟨none, none, .sto 7 (.t 12) (.t 50)⟩])
 (.seq (.reg [⟨(some 51), none, .ld (some 7) (.t 12)⟩,
 ⟨(some 52), none, .call (.f 90) [(.t 51)]⟩,
 ⟨(some 13), none, .mv (.t 52)⟩])
 (.seq (.reg [⟨(some 53), none, .mv (.t 13)⟩,
 ⟨(some 54), none, .bin .neq (.t 53) (.c (.int .i64 0))⟩])
 (.cond (.t 54)
 (.seq (.reg [⟨(some 55), none, .mv (.t 13)⟩,
 ⟨(some 4), none, .mv (.c .nilmap)⟩,
 ⟨(some 5), none, .mv (.t 55)⟩])
 (.ret))
 (.skip))))))
 (.reg [⟨(some 56), none, .bin .add (.t 47) (.c (.int .i64 1))⟩,
 ⟨(some 47), none, .mv (.t 56)⟩])))))))
 (.seq (.reg [⟨(some 57), none, .mv (.t 6)⟩,
 ⟨(some 4), none, .mv (.t 57)⟩,
 ⟨(some 5), none, .mv (.c (.int .i64 0))⟩])
 (.ret))))))⟩
theorem ok87 : compF Tryz.prog Tryz.f87 = some c87 := by kernel_rfl

-- manorboy/tree.CheckExp
noncomputable def c90 : F' := ⟨6, [.t 2],
 .seq (.reg [⟨(some 1), none, .box (.t 0)⟩,
 ⟨(some 2), none, .mv (.c (.int .i64 0))⟩])
 (.seq (.reg [⟨(some 3), none, .ld (some 7) (.t 1)⟩,
 ⟨(some 4), none, .call (.f 142) [(.t 3)]⟩,
 ⟨(some 5), none, .call (.f 100) [(.t 4)]⟩,
 ⟨(some 2), none, .mv (.t 5)⟩])
 (.ret))⟩
theorem ok90 : compF Tryz.prog Tryz.f90 = some c90 := by kernel_rfl

-- manorboy/copyrule.apart
noncomputable def c95 : F' := ⟨73, [.cell 4 (some 8)],
 .seq (.reg [⟨(some 2), none, .box (.t 0)⟩,
 ⟨(some 3), none, .box (.t 1)⟩,
 ⟨(some 4), none, .new (.agg [(.sl true []), (.int .i64 0), (.str ⟨⟨[]⟩⟩), (.sl true []), (.sl true []), (.sl true []), (.sl true []), (.sl true [])])⟩])
 (.seq (.reg [⟨(some 16), none, .ld (some 8) (.t 2)⟩,
 ⟨(some 17), none, .call (.f 58) [(.t 16)]⟩,
 ⟨(some 15), none, .mv (.t 17)⟩,
 ⟨(some 18), none, .ext 0 (.t 15)⟩,
 ⟨(some 19), none, .ext 1 (.t 15)⟩,
 ⟨(some 5), none, .new .nilmap⟩,
 ⟨none, none, .sto 1 (.t 5) (.t 18)⟩,
 ⟨(some 6), none, .mv (.t 19)⟩])
 (.seq (.reg [⟨(some 20), none, .ex (.mkm)⟩,
 ⟨(some 7), none, .new .nilmap⟩,
 ⟨none, none, .sto 1 (.t 7) (.t 20)⟩])
 (.seq (.seq (.reg [⟨(some 21), none, .mv (.t 6)⟩,
 ⟨(some 22), none, .len false (.t 21)⟩,
 ⟨(some 23), none, .mv (.c (.int .i64 0))⟩])
 (.block 0 (.loop (.seq (.reg [⟨(some 24), none, .bin .lss (.t 23) (.t 22)⟩])
 (.seq (.cond (.t 24)
 (.skip)
 (.exit 0))
 (.seq (.block 1 (.seq (.reg [⟨(some 25), none, .ia 1 (.t 21) (.t 23)⟩,
 ⟨(some 26), none, .ld none (.t 25)⟩,
 ⟨(some 9), none, .mv (.t 26)⟩])
 (.draw [⟨⟨(some 27), none, .ld none (.t 7)⟩, false, none, false, [], 0, 0⟩,
 ⟨⟨(some 28), none, .mv (.t 9)⟩, false, none, false, [], 0, 0⟩,
 ⟨⟨(some 29), none, .nck (.t 28)⟩, false, none, false, [1], 0, 0⟩,
 ⟨⟨(some 30), none, .fa 1 (.t 29)⟩, false, none, false, [2, 1], 0, 0⟩,
 ⟨⟨(some 31), none, .ld none (.t 30)⟩, false, none, false, [3, 2, 1], 0, 0⟩,
 ⟨⟨(some 32), none, .ex (.lkp .str (.int .i64 0) false (.t 27) (.t 31))⟩, false, none, false, [0, 4, 3, 2, 1], 0, 0⟩,
 ⟨⟨(some 33), none, .bin .add (.t 32) (.c (.int .i64 1))⟩, false, none, false, [5, 0, 4, 3, 2, 1], 0, 0⟩,
 ⟨⟨none, none, .ex (.mup .str (.t 27) (.t 31) (.t 33))⟩, true, none, false, [6, 5, 0, 4, 3, 2, 1], 0, 0⟩] [])))
 (.reg [⟨(some 34), none, .bin .add (.t 23) (.c (.int .i64 1))⟩,
 ⟨(some 23), none, .mv (.t 34)⟩])))))))
 (.seq (.reg [⟨(some 10), none, .new (.sl true [])⟩])
 (.seq (.seq (.reg [⟨(some 35), none, .mv (.t 6)⟩,
 ⟨(some 36), none, .len false (.t 35)⟩,
 ⟨(some 37), none, .mv (.c (.int .i64 0))⟩])
 (.block 2 (.loop (.seq (.reg [⟨(some 38), none, .bin .lss (.t 37) (.t 36)⟩])
 (.seq (.cond (.t 38)
 (.skip)
 (.exit 2))
 (.seq (.block 3 (.seq (.reg [⟨(some 39), none, .ia 1 (.t 35) (.t 37)⟩,
 ⟨(some 40), none, .ld none (.t 39)⟩,
 ⟨(some 12), none, .mv (.t 40)⟩])
 (.seq (.reg [⟨(some 41), none, .mv (.t 12)⟩,
 ⟨(some 42), none, .nck (.t 41)⟩,
 ⟨(some 43), none, .fa 1 (.t 42)⟩,
 ⟨(some 44), none, .ld none (.t 43)⟩,
 ⟨(some 13), none, .mv (.t 44)⟩])
 (.seq (.seq (.reg [⟨(some 45), none, .ld none (.t 3)⟩,
 ⟨(some 46), none, .mv (.t 13)⟩,
 ⟨(some 47), none, .ex (.lkp .str (.bool false) false (.t 45) (.t 46))⟩])
 (.cond (.t 47)
 (.seq (.reg [⟨(some 48), none, .mv (.t 13)⟩,
 ⟨(some 49), none, .mkf 146 [] [(.t 3), (.t 5), (.t 7)]⟩,
 ⟨(some 50), none, .call (.f 77) [(.t 48), (.t 49)]⟩,
 ⟨(some 13), none, .mv (.t 50)⟩])
 (.seq (.draw [⟨⟨(some 51), none, .ld none (.t 7)⟩, false, none, false, [], 0, 0⟩,
 ⟨⟨(some 52), none, .mv (.t 12)⟩, false, none, false, [], 0, 0⟩,
 ⟨⟨(some 53), none, .nck (.t 52)⟩, false, none, false, [1], 0, 0⟩,
 ⟨⟨(some 54), none, .fa 1 (.t 53)⟩, false, none, false, [2, 1], 0, 0⟩,
 ⟨⟨(some 55), none, .ld none (.t 54)⟩, false, none, false, [3, 2, 1], 0, 0⟩,
 ⟨⟨(some 56), none, .ex (.lkp .str (.int .i64 0) false (.t 51) (.t 55))⟩, false, none, false, [0, 4, 3, 2, 1], 0, 0⟩,
 ⟨⟨(some 57), none, .bin .sub (.t 56) (.c (.int .i64 1))⟩, false, none, false, [5, 0, 4, 3, 2, 1], 0, 0⟩,
 ⟨⟨none, none, .ex (.mup .str (.t 51) (.t 55) (.t 57))⟩, true, none, false, [6, 5, 0, 4, 3, 2, 1], 0, 0⟩] [])
 (.reg [⟨(some 58), none, .ld none (.t 7)⟩,
 ⟨(some 59), none, .mv (.t 13)⟩,
 ⟨(some 60), none, .ex (.lkp .str (.int .i64 0) false (.t 58) (.t 59))⟩,
 ⟨(some 61), none, .bin .add (.t 60) (.c (.int .i64 1))⟩,
 ⟨none, none, .ex (.mup .str (.t 58) (.t 59) (.t 61))⟩])))
 (.skip)))
 (.reg [⟨(some 62), none, .ld none (.t 10)⟩,
 ⟨(some 63), none, .mv (.t 13)⟩,
 ⟨(some 64), none, .bsl 1 [(.t 63)]⟩,
 ⟨(some 65), none, .app 1 16 (.t 62) (.t 64)⟩,
 ⟨none, none, .sto 1 (.t 10) (.t 65)⟩])))))
 (.reg [⟨(some 66), none, .bin .add (.t 37) (.c (.int .i64 1))⟩,
 ⟨(some 37), none, .mv (.t 66)⟩])))))))
 (.seq (.reg [⟨(some 67), none, .mkf 147 [] [(.t 10)]⟩,
 ⟨(some 68), none, .build (.agg [(.int .i64 0), .nilfn, .nilfn, .nilfn]) [(1, 1, 1, (.t 67))]⟩,
 ⟨(some 69), none, .box (.t 68)⟩,
 ⟨(some 14), none, .mv (.t 69)⟩])
 (.seq (.reg [⟨(some 70), none, .mv (.t 14)⟩,
 ⟨(some 71), none, .ld (some 8) (.t 2)⟩,
 ⟨(some 72), none, .call (.f 62) [(.t 70), (.t 71)]⟩,
 ⟨none, none, .sto 8 (.t 4) (.t 72)⟩])
 (.ret))))))))⟩
theorem ok95 : compF Tryz.prog Tryz.f95 = some c95 := by kernel_rfl

-- manorboy/copyrule.replacer
noncomputable def c96 : F' := ⟨16, [.t 2, .t 3],
 .seq (.reg [⟨(some 1), none, .box (.t 0)⟩,
 ⟨(some 2), none, .mv (.c .nilp)⟩,
 ⟨(some 3), none, .mv (.c .nilp)⟩])
 (.seq (.reg [⟨(some 4), none, .new (.bool false)⟩,
 ⟨none, none, .sto 1 (.t 4) (.c (.bool false))⟩])
 (.seq (.reg [⟨(some 7), none, .mkf 148 [] [(.t 1), (.t 4)]⟩,
 ⟨(some 5), none, .new .nilfn⟩,
 ⟨none, none, .sto 1 (.t 5) (.t 7)⟩])
 (.seq (.reg [⟨(some 8), none, .ld none (.t 5)⟩,
 ⟨(some 9), none, .build (.agg [(.int .i64 0), .nilfn, .nilfn, .nilfn]) [(3, 3, 1, (.t 8))]⟩,
 ⟨(some 10), none, .box (.t 9)⟩,
 ⟨(some 6), none, .mv (.t 10)⟩])
 (.seq (.reg [⟨(some 11), none, .mv (.t 6)⟩,
 ⟨(some 12), none, .mkf 149 [] [(.t 5), (.t 1), (.t 4)]⟩,
 ⟨(some 13), none, .nck (.t 11)⟩,
 ⟨(some 14), none, .fa 2 (.t 13)⟩,
 ⟨none, none, .sto 1 (.t 14) (.t 12)⟩])
 (.seq (.reg [⟨(some 15), none, .mv (.t 6)⟩,
 ⟨(some 2), none, .mv (.t 15)⟩,
 ⟨(some 3), none, .mv (.t 4)⟩])
 (.ret))))))⟩
theorem ok96 : compF Tryz.prog Tryz.f96 = some c96 := by kernel_rfl

-- (*manorboy/copyrule.walker).exp
noncomputable def c97 : F' := ⟨47, [.cell 8 (some 7)],
 .seq (.reg [⟨(some 5), none, .box (.t 1)⟩,
 ⟨(some 8), none, .new (.agg [(.int .i64 0), (.int .i64 0), (.int .i64 0), (.int .i64 0), (.int .i64 0), (.str ⟨⟨[]⟩⟩), (.sl true [])])⟩])
 (.seq (.reg [⟨(some 10), none, .mv (.t 0)⟩,
 ⟨(some 11), none, .fa 6 (.t 5)⟩,
 ⟨(some 12), none, .ld none (.t 11)⟩,
 ⟨(some 13), none, .mv (.t 2)⟩,
 ⟨(some 14), none, .call (.f 134) [(.t 10), (.t 12), (.t 13), (.c (.bool false))]⟩,
 ⟨(some 15), none, .fa 6 (.t 5)⟩,
 ⟨none, none, .sto 1 (.t 15) (.t 14)⟩])
 (.seq (.seq (.reg [⟨(some 16), none, .fa 0 (.t 5)⟩,
 ⟨(some 17), none, .ld none (.t 16)⟩])
 (.block 0 (.seq (.seq (.reg [⟨(some 19), none, .bin .eql (.t 17) (.c (.int .i64 6))⟩,
 ⟨(some 18), none, .mv (.t 19)⟩])
 (.cond (.t 18)
 (.skip)
 (.seq (.reg [⟨(some 20), none, .bin .eql (.t 17) (.c (.int .i64 7))⟩,
 ⟨(some 18), none, .mv (.t 20)⟩])
 (.cond (.t 18)
 (.skip)
 (.reg [⟨(some 21), none, .bin .eql (.t 17) (.c (.int .i64 8))⟩,
 ⟨(some 18), none, .mv (.t 21)⟩])))))
 (.cond (.t 18)
 (.seq (.seq (.reg [⟨(some 22), none, .mv (.t 0)⟩,
 ⟨(some 23), none, .nck (.t 22)⟩,
 ⟨(some 24), none, .fa 2 (.t 23)⟩,
 ⟨(some 25), none, .ld none (.t 24)⟩,
 ⟨(some 26), none, .eq .func true (.t 25) (.c .nilfn)⟩])
 (.cond (.t 26)
 (.seq (.draw [⟨⟨(some 27), none, .mv (.t 0)⟩, false, none, false, [], 0, 0⟩,
 ⟨⟨(some 28), none, .nck (.t 27)⟩, false, none, false, [0], 0, 0⟩,
 ⟨⟨(some 29), none, .fa 2 (.t 28)⟩, false, none, false, [1, 0], 0, 0⟩,
 ⟨⟨(some 30), none, .ld none (.t 29)⟩, false, none, false, [2, 1, 0], 0, 0⟩,
 ⟨⟨(some 31), none, .ld (some 7) (.t 5)⟩, false, none, false, [], 0, 0⟩,
 ⟨⟨(some 32), none, .mv (.t 2)⟩, false, none, false, [], 0, 0⟩,
 ⟨⟨(some 33), none, .mv (.t 3)⟩, false, none, false, [], 0, 0⟩,
 ⟨⟨(some 34), none, .call (.t 30) [(.t 31), (.t 32), (.t 33)]⟩, true, none, false, [3, 4, 5, 6, 2, 1, 0], 0, 0⟩,
 ⟨⟨none, none, .sto 7 (.t 8) (.t 34)⟩, true, none, false, [7, 3, 4, 5, 6, 2, 1, 0], 1, 1⟩] [])
 (.ret))
 (.skip)))
 (.seq (.reg [⟨(some 35), none, .mv (.t 2)⟩,
 ⟨(some 36), none, .fa 5 (.t 5)⟩,
 ⟨(some 37), none, .ld none (.t 36)⟩,
 ⟨(some 38), none, .call (.f 60) [(.t 35), (.t 37)]⟩,
 ⟨(some 9), none, .mv (.t 38)⟩])
 (.seq (.reg [⟨(some 39), none, .mv (.t 9)⟩,
 ⟨(some 40), none, .eq .ptr true (.t 39) (.c .nilp)⟩])
 (.cond (.t 40)
 (.reg [⟨(some 41), none, .mv (.t 9)⟩,
 ⟨(some 42), none, .nck (.t 41)⟩,
 ⟨(some 43), none, .fa 2 (.t 42)⟩,
 ⟨(some 44), none, .ld none (.t 43)⟩,
 ⟨(some 45), none, .fa 5 (.t 5)⟩,
 ⟨none, none, .sto 1 (.t 45) (.t 44)⟩])
 (.skip)))))
 (.skip)))))
 (.seq (.reg [⟨(some 46), none, .ld (some 7) (.t 5)⟩,
 ⟨none, none, .sto 7 (.t 8) (.t 46)⟩])
 (.ret))))⟩
theorem ok97 : compF Tryz.prog Tryz.f97 = some c97 := by kernel_rfl

-- manorboy/tree.check
noncomputable def c100 : F' := ⟨17, [.t 2],
 .seq (.reg [⟨(some 1), none, .box (.t 0)⟩,
 ⟨(some 2), none, .mv (.c (.int .i64 0))⟩])
 (.seq (.seq (.reg [⟨(some 7), none, .ld (some 25) (.t 1)⟩,
 ⟨(some 8), none, .call (.f 150) [(.t 7)]⟩,
 ⟨(some 6), none, .mv (.t 8)⟩,
 ⟨(some 9), none, .ext 0 (.t 6)⟩,
 ⟨(some 10), none, .ext 1 (.t 6)⟩,
 ⟨(some 11), none, .ext 2 (.t 6)⟩,
 ⟨(some 3), none, .mv (.t 9)⟩,
 ⟨(some 4), none, .mv (.t 10)⟩,
 ⟨(some 5), none, .mv (.t 11)⟩])
 (.seq (.reg [⟨(some 12), none, .mv (.t 5)⟩,
 ⟨(some 13), none, .un .not (.t 12)⟩])
 (.cond (.t 13)
 (.seq (.reg [⟨(some 2), none, .mv (.c (.int .i64 2))⟩])
 (.ret))
 (.skip))))
 (.seq (.seq (.reg [⟨(some 14), none, .ld (some 25) (.t 1)⟩,
 ⟨(some 15), none, .call (.f 151) [(.t 14)]⟩,
 ⟨(some 16), none, .un .not (.t 15)⟩])
 (.cond (.t 16)
 (.seq (.reg [⟨(some 2), none, .mv (.c (.int .i64 1))⟩])
 (.ret))
 (.skip)))
 (.seq (.reg [⟨(some 2), none, .mv (.c (.int .i64 0))⟩])
 (.ret))))⟩
theorem ok100 : compF Tryz.prog Tryz.f100 = some c100 := by kernel_rfl

-- manorboy/tree.ofStmt
noncomputable def c101 : F' := ⟨5, [.cell 2 (some 25)],
 .seq (.reg [⟨(some 1), none, .box (.t 0)⟩,
 ⟨(some 2), none, .new (.agg [(.int .i64 0), (.sl true []), (.int .i64 0), (.str ⟨⟨[]⟩⟩), (.sl true []), (.sl true []), (.sl true []), (.sl true []), (.sl true []), (.int .i64 0), (.bool false), (.int .i64 0), (.sl true []), (.sl true []), (.sl true []), (.sl true []), (.int .i64 0), (.sl true []), (.int .i64 0), (.int .i64 0), (.int .i64 0), (.int .i64 0), (.int .i64 0), (.str ⟨⟨[]⟩⟩), (.sl true [])])⟩])
 (.seq (.reg [⟨(some 3), none, .ld (some 8) (.t 1)⟩,
 ⟨(some 4), none, .build (.agg [(.int .i64 0), (.sl true []), (.int .i64 0), (.str ⟨⟨[]⟩⟩), (.sl true []), (.sl true []), (.sl true []), (.sl true []), (.sl true []), (.int .i64 0), (.bool false), (.int .i64 0), (.sl true []), (.sl true []), (.sl true []), (.sl true []), (.int .i64 0), (.sl true []), (.int .i64 0), (.int .i64 0), (.int .i64 0), (.int .i64 0), (.int .i64 0), (.str ⟨⟨[]⟩⟩), (.sl true [])]) [(0, 0, 1, (.c (.int .i64 1))), (1, 1, 8, (.t 3))]⟩,
 ⟨none, none, .sto 25 (.t 2) (.t 4)⟩])
 (.ret))⟩
theorem ok101 : compF Tryz.prog Tryz.f101 = some c101 := by kernel_rfl

-- manorboy/lex.isLetter
noncomputable def c102 : F' := ⟨9, [.t 2],
 .seq (.reg [⟨(some 2), none, .mv (.c (.bool false))⟩])
 (.seq (.reg [⟨(some 3), none, .mv (.t 0)⟩,
 ⟨(some 4), none, .bin .geq (.t 3) (.c (.int .u8 97))⟩,
 ⟨(some 5), none, .mv (.t 4)⟩,
 ⟨(some 6), (some (5, true)), .mv (.t 0)⟩,
 ⟨(some 7), (some (5, true)), .bin .leq (.t 6) (.c (.int .u8 122))⟩,
 ⟨(some 8), none, .pick (.t 5) (.t 7) (.c (.bool false))⟩,
 ⟨(some 2), none, .mv (.t 8)⟩])
 (.ret))⟩
theorem ok102 : compF Tryz.prog Tryz.f102 = some c102 := by kernel_rfl

-- manorboy/lex.IsWord
noncomputable def c103 : F' := ⟨6, [.t 2],
 .seq (.reg [⟨(some 2), none, .mv (.c (.bool false))⟩])
 (.seq (.reg [⟨(some 3), none, .call (.f 153) []⟩,
 ⟨(some 4), none, .mv (.t 0)⟩,
 ⟨(some 5), none, .call (.f 152) [(.t 3), (.t 4)]⟩,
 ⟨(some 2), none, .mv (.t 5)⟩])
 (.ret))⟩
theorem ok103 : compF Tryz.prog Tryz.f103 = some c103 := by kernel_rfl

-- slices.ContainsFunc[[]byte,byte]
noncomputable def c104 : F' := ⟨9, [.t 4],
 .seq (.reg [⟨(some 4), none, .mv (.c (.bool false))⟩])
 (.seq (.reg [⟨(some 5), none, .mv (.t 0)⟩,
 ⟨(some 6), none, .mv (.t 1)⟩,
 ⟨(some 7), none, .call (.f 154) [(.t 5), (.t 6)]⟩,
 ⟨(some 8), none, .bin .geq (.t 7) (.c (.int .i64 0))⟩,
 ⟨(some 4), none, .mv (.t 8)⟩])
 (.ret))⟩
theorem ok104 : compF Tryz.prog Tryz.f104 = some c104 := by kernel_rfl

-- manorboy/lex.IsName$1
noncomputable def c105 : F' := ⟨6, [.t 2],
 .seq (.reg [⟨(some 2), none, .mv (.c (.bool false))⟩])
 (.seq (.reg [⟨(some 3), none, .mv (.t 0)⟩,
 ⟨(some 4), none, .call (.f 106) [(.t 3)]⟩,
 ⟨(some 5), none, .un .not (.t 4)⟩,
 ⟨(some 2), none, .mv (.t 5)⟩])
 (.ret))⟩
theorem ok105 : compF Tryz.prog Tryz.f105 = some c105 := by kernel_rfl

-- manorboy/lex.isLetterOrDigit
noncomputable def c106 : F' := ⟨9, [.t 2],
 .seq (.reg [⟨(some 2), none, .mv (.c (.bool false))⟩])
 (.seq (.reg [⟨(some 3), none, .mv (.t 0)⟩,
 ⟨(some 4), none, .call (.f 102) [(.t 3)]⟩,
 ⟨(some 5), none, .mv (.t 4)⟩,
 ⟨(some 6), (some (5, false)), .mv (.t 0)⟩,
 ⟨(some 7), (some (5, false)), .call (.f 155) [(.t 6)]⟩,
 ⟨(some 8), none, .pick (.t 5) (.c (.bool true)) (.t 7)⟩,
 ⟨(some 2), none, .mv (.t 8)⟩])
 (.ret))⟩
theorem ok106 : compF Tryz.prog Tryz.f106 = some c106 := by kernel_rfl

-- manorboy/copyrule.collected$1
noncomputable def c107 : F' := ⟨13, [],
 .seq (.reg [⟨(some 5), none, .mv (.t 1)⟩,
 ⟨(some 6), none, .mv (.t 0)⟩,
 ⟨(some 7), none, .call (.f 60) [(.t 5), (.t 6)]⟩,
 ⟨(some 8), none, .eq .ptr false (.t 7) (.c .nilp)⟩])
 (.cond (.t 8)
 (.reg [⟨(some 9), none, .ld none (.t 2)⟩,
 ⟨(some 10), none, .mv (.t 0)⟩,
 ⟨(some 11), none, .bsl 1 [(.t 10)]⟩,
 ⟨(some 12), none, .call (.f 79) [(.t 9), (.t 11)]⟩])
 (.skip))⟩
theorem ok107 : compF Tryz.prog Tryz.f107 = some c107 := by kernel_rfl

-- manorboy/copyrule.collected$2
noncomputable def c108 : F' := ⟨7, [],
 .reg [⟨(some 3), none, .ld none (.t 1)⟩,
 ⟨(some 4), none, .mv (.t 0)⟩,
 ⟨(some 5), none, .bsl 1 [(.t 4)]⟩,
 ⟨(some 6), none, .app 1 8 (.t 3) (.t 5)⟩,
 ⟨none, none, .sto 1 (.t 1) (.t 6)⟩]⟩
theorem ok108 : compF Tryz.prog Tryz.f108 = some c108 := by kernel_rfl

-- manorboy/copyrule.collected$3
noncomputable def c109 : F' := ⟨14, [.cell 7 (some 7)],
 .seq (.reg [⟨(some 4), none, .box (.t 0)⟩,
 ⟨(some 7), none, .new (.agg [(.int .i64 0), (.int .i64 0), (.int .i64 0), (.int .i64 0), (.int .i64 0), (.str ⟨⟨[]⟩⟩), (.sl true [])])⟩])
 (.seq (.reg [⟨(some 8), none, .ld none (.t 3)⟩,
 ⟨(some 9), none, .fa 5 (.t 4)⟩,
 ⟨(some 10), none, .ld none (.t 9)⟩,
 ⟨(some 11), none, .mv (.t 1)⟩,
 ⟨(some 12), none, .call (.t 8) [(.t 10), (.t 11)]⟩])
 (.seq (.reg [⟨(some 13), none, .ld (some 7) (.t 4)⟩,
 ⟨none, none, .sto 7 (.t 7) (.t 13)⟩])
 (.ret)))⟩
theorem ok109 : compF Tryz.prog Tryz.f109 = some c109 := by kernel_rfl

-- (*manorboy/copyrule.walker).single
noncomputable def c111 : F' := ⟨31, [.t 6],
 .seq (.reg [⟨(some 6), none, .mv (.c (.sl true []))⟩])
 (.seq (.reg [⟨(some 7), none, .mv (.c (.sl true []))⟩])
 (.seq (.seq (.reg [⟨(some 11), none, .mv (.t 1)⟩,
 ⟨(some 12), none, .len false (.t 11)⟩,
 ⟨(some 13), none, .mv (.c (.int .i64 0))⟩])
 (.block 0 (.loop (.seq (.reg [⟨(some 14), none, .bin .lss (.t 13) (.t 12)⟩])
 (.seq (.cond (.t 14)
 (.skip)
 (.exit 0))
 (.seq (.block 1 (.seq (.reg [⟨(some 15), none, .ia 8 (.t 11) (.t 13)⟩,
 ⟨(some 16), none, .ld (some 8) (.t 15)⟩,
 ⟨(some 9), none, .new (.agg [(.sl true []), (.int .i64 0), (.str ⟨⟨[]⟩⟩), (.sl true []), (.sl true []), (.sl true []), (.sl true []), (.sl true [])])⟩,
 ⟨none, none, .sto 8 (.t 9) (.t 16)⟩])
 (.seq (.reg [⟨(some 17), none, .ld (some 8) (.t 9)⟩,
 ⟨(some 18), none, .bsl 8 [(.t 17)]⟩,
 ⟨(some 10), none, .mv (.t 18)⟩])
 (.reg [⟨(some 19), none, .mv (.t 7)⟩,
 ⟨(some 20), none, .mv (.t 0)⟩,
 ⟨(some 21), none, .mv (.t 10)⟩,
 ⟨(some 22), none, .mv (.t 0)⟩,
 ⟨(some 23), none, .mv (.t 2)⟩,
 ⟨(some 24), none, .mv (.t 10)⟩,
 ⟨(some 25), none, .call (.f 158) [(.t 24)]⟩,
 ⟨(some 26), none, .call (.f 157) [(.t 22), (.t 23), (.t 25)]⟩,
 ⟨(some 27), none, .call (.f 156) [(.t 20), (.t 21), (.t 26)]⟩,
 ⟨(some 28), none, .app 8 168 (.t 19) (.t 27)⟩,
 ⟨(some 7), none, .mv (.t 28)⟩]))))
 (.reg [⟨(some 29), none, .bin .add (.t 13) (.c (.int .i64 1))⟩,
 ⟨(some 13), none, .mv (.t 29)⟩])))))))
 (.seq (.reg [⟨(some 30), none, .mv (.t 7)⟩,
 ⟨(some 6), none, .mv (.t 30)⟩])
 (.ret))))⟩
theorem ok111 : compF Tryz.prog Tryz.f111 = some c111 := by kernel_rfl

-- manorboy/manorboyref04.Ofs
noncomputable def c113 : F' := ⟨5, [.cell 2 (some 25)],
 .seq (.reg [⟨(some 1), none, .box (.t 0)⟩,
 ⟨(some 2), none, .new (.agg [(.int .i64 0), (.sl true []), (.int .i64 0), (.str ⟨⟨[]⟩⟩), (.sl true []), (.sl true []), (.sl true []), (.sl true []), (.sl true []), (.int .i64 0), (.bool false), (.int .i64 0), (.sl true []), (.sl true []), (.sl true []), (.sl true []), (.int .i64 0), (.sl true []), (.int .i64 0), (.int .i64 0), (.int .i64 0), (.int .i64 0), (.int .i64 0), (.str ⟨⟨[]⟩⟩), (.sl true [])])⟩])
 (.seq (.reg [⟨(some 3), none, .ld (some 8) (.t 1)⟩,
 ⟨(some 4), none, .build (.agg [(.int .i64 0), (.sl true []), (.int .i64 0), (.str ⟨⟨[]⟩⟩), (.sl true []), (.sl true []), (.sl true []), (.sl true []), (.sl true []), (.int .i64 0), (.bool false), (.int .i64 0), (.sl true []), (.sl true []), (.sl true []), (.sl true []), (.int .i64 0), (.sl true []), (.int .i64 0), (.int .i64 0), (.int .i64 0), (.int .i64 0), (.int .i64 0), (.str ⟨⟨[]⟩⟩), (.sl true [])]) [(0, 0, 1, (.c (.int .i64 1))), (1, 1, 8, (.t 3))]⟩,
 ⟨none, none, .sto 25 (.t 2) (.t 4)⟩])
 (.ret))⟩
theorem ok113 : compF Tryz.prog Tryz.f113 = some c113 := by kernel_rfl

-- manorboy/manorboyref04.SamePart
noncomputable def c118 : F' := ⟨16, [.t 4],
 .seq (.reg [⟨(some 2), none, .box (.t 0)⟩,
 ⟨(some 3), none, .box (.t 1)⟩,
 ⟨(some 4), none, .mv (.c (.bool false))⟩])
 (.seq (.reg [⟨(some 5), none, .ld (some 25) (.t 2)⟩,
 ⟨(some 6), none, .call (.f 159) [(.t 5)]⟩,
 ⟨(some 7), none, .mv (.t 6)⟩,
 ⟨(some 8), (some (7, true)), .ld (some 25) (.t 3)⟩,
 ⟨(some 9), (some (7, true)), .call (.f 159) [(.t 8)]⟩,
 ⟨(some 10), none, .pick (.t 7) (.t 9) (.c (.bool false))⟩,
 ⟨(some 11), none, .mv (.t 10)⟩,
 ⟨(some 12), (some (11, true)), .ld (some 25) (.t 2)⟩,
 ⟨(some 13), (some (11, true)), .ld (some 25) (.t 3)⟩,
 ⟨(some 14), (some (11, true)), .call (.f 164) [(.t 12), (.t 13)]⟩,
 ⟨(some 15), none, .pick (.t 11) (.t 14) (.c (.bool false))⟩,
 ⟨(some 4), none, .mv (.t 15)⟩])
 (.ret))⟩
theorem ok118 : compF Tryz.prog Tryz.f118 = some c118 := by kernel_rfl

-- slices.EqualFunc[[]manorboy/api.Stmt,[]manorboy/api.Stmt,manorboy/api.Stmt,manorboy/api.Stmt]
noncomputable def c119 : F' := ⟨32, [.t 6],
 .seq (.reg [⟨(some 6), none, .mv (.c (.bool false))⟩])
 (.seq (.seq (.reg [⟨(some 10), none, .mv (.t 0)⟩,
 ⟨(some 11), none, .len false (.t 10)⟩,
 ⟨(some 12), none, .mv (.t 1)⟩,
 ⟨(some 13), none, .len false (.t 12)⟩,
 ⟨(some 14), none, .bin .neq (.t 11) (.t 13)⟩])
 (.cond (.t 14)
 (.seq (.reg [⟨(some 6), none, .mv (.c (.bool false))⟩])
 (.ret))
 (.skip)))
 (.seq (.seq (.reg [⟨(some 15), none, .mv (.t 0)⟩,
 ⟨(some 16), none, .len false (.t 15)⟩,
 ⟨(some 17), none, .mv (.c (.int .i64 0))⟩])
 (.block 0 (.loop (.seq (.reg [⟨(some 18), none, .bin .lss (.t 17) (.t 16)⟩])
 (.seq (.cond (.t 18)
 (.skip)
 (.exit 0))
 (.seq (.block 1 (.seq (.reg [⟨(some 19), none, .mv (.t 17)⟩,
 ⟨(some 20), none, .ia 8 (.t 15) (.t 17)⟩,
 ⟨(some 21), none, .ld (some 8) (.t 20)⟩,
 ⟨(some 8), none, .new (.agg [(.sl true []), (.int .i64 0), (.str ⟨⟨[]⟩⟩), (.sl true []), (.sl true []), (.sl true []), (.sl true []), (.sl true [])])⟩,
 ⟨(some 7), none, .mv (.t 19)⟩,
 ⟨none, none, .sto 8 (.t 8) (.t 21)⟩])
 (.seq (.reg [⟨(some 22), none, .mv (.t 1)⟩,
 ⟨(some 23), none, .mv (.t 7)⟩,
 ⟨(some 24), none, .ia 8 (.t 22) (.t 23)⟩,
 ⟨(some 25), none, .ld (some 8) (.t 24)⟩,
 ⟨(some 9), none, .new (.agg [(.sl true []), (.int .i64 0), (.str ⟨⟨[]⟩⟩), (.sl true []), (.sl true []), (.sl true []), (.sl true []), (.sl true [])])⟩,
 ⟨none, none, .sto 8 (.t 9) (.t 25)⟩])
 (.seq (.reg [⟨(some 26), none, .mv (.t 2)⟩,
 ⟨(some 27), none, .ld (some 8) (.t 8)⟩,
 ⟨(some 28), none, .ld (some 8) (.t 9)⟩,
 ⟨(some 29), none, .call (.t 26) [(.t 27), (.t 28)]⟩,
 ⟨(some 30), none, .un .not (.t 29)⟩])
 (.cond (.t 30)
 (.seq (.reg [⟨(some 6), none, .mv (.c (.bool false))⟩])
 (.ret))
 (.skip))))))
 (.reg [⟨(some 31), none, .bin .add (.t 17) (.c (.int .i64 1))⟩,
 ⟨(some 17), none, .mv (.t 31)⟩])))))))
 (.seq (.reg [⟨(some 6), none, .mv (.c (.bool true))⟩])
 (.ret))))⟩
theorem ok119 : compF Tryz.prog Tryz.f119 = some c119 := by kernel_rfl

-- manorboy/copyrule.sameStmts$1
noncomputable def c120 : F' := ⟨63, [.t 4],
 .seq (.reg [⟨(some 2), none, .box (.t 0)⟩,
 ⟨(some 3), none, .box (.t 1)⟩,
 ⟨(some 4), none, .mv (.c (.bool false))⟩])
 (.seq (.reg [⟨(some 7), none, .fa 5 (.t 2)⟩,
 ⟨(some 8), none, .ld none (.t 7)⟩,
 ⟨(some 9), none, .fa 5 (.t 3)⟩,
 ⟨(some 10), none, .ld none (.t 9)⟩,
 ⟨(some 11), none, .call (.f 121) [(.t 8), (.t 10), (.f 122)]⟩,
 ⟨(some 5), none, .mv (.t 11)⟩])
 (.seq (.reg [⟨(some 12), none, .fa 6 (.t 2)⟩,
 ⟨(some 13), none, .ld none (.t 12)⟩,
 ⟨(some 14), none, .fa 6 (.t 3)⟩,
 ⟨(some 15), none, .ld none (.t 14)⟩,
 ⟨(some 16), none, .call (.f 124) [(.t 13), (.t 15), (.f 125)]⟩,
 ⟨(some 6), none, .mv (.t 16)⟩])
 (.seq (.reg [⟨(some 17), none, .mv (.t 5)⟩,
 ⟨(some 18), none, .mv (.t 17)⟩,
 ⟨(some 19), (some (18, true)), .mv (.t 6)⟩,
 ⟨(some 20), none, .pick (.t 18) (.t 19) (.c (.bool false))⟩,
 ⟨(some 21), none, .mv (.t 20)⟩,
 ⟨(some 22), (some (21, true)), .fa 0 (.t 2)⟩,
 ⟨(some 23), (some (21, true)), .ld none (.t 22)⟩,
 ⟨(some 24), (some (21, true)), .fa 0 (.t 3)⟩,
 ⟨(some 25), (some (21, true)), .ld none (.t 24)⟩,
 ⟨(some 26), (some (21, true)), .call (.f 126) [(.t 23), (.t 25)]⟩,
 ⟨(some 27), none, .pick (.t 21) (.t 26) (.c (.bool false))⟩,
 ⟨(some 28), none, .mv (.t 27)⟩,
 ⟨(some 29), (some (28, true)), .fa 1 (.t 2)⟩,
 ⟨(some 30), (some (28, true)), .ld none (.t 29)⟩,
 ⟨(some 31), (some (28, true)), .fa 1 (.t 3)⟩,
 ⟨(some 32), (some (28, true)), .ld none (.t 31)⟩,
 ⟨(some 33), (some (28, true)), .bin .eql (.t 30) (.t 32)⟩,
 ⟨(some 34), none, .pick (.t 28) (.t 33) (.c (.bool false))⟩,
 ⟨(some 35), none, .mv (.t 34)⟩,
 ⟨(some 36), (some (35, true)), .fa 2 (.t 2)⟩,
 ⟨(some 37), (some (35, true)), .ld none (.t 36)⟩,
 ⟨(some 38), (some (35, true)), .fa 2 (.t 3)⟩,
 ⟨(some 39), (some (35, true)), .ld none (.t 38)⟩,
 ⟨(some 40), (some (35, true)), .bin .eql (.t 37) (.t 39)⟩,
 ⟨(some 41), none, .pick (.t 35) (.t 40) (.c (.bool false))⟩,
 ⟨(some 42), none, .mv (.t 41)⟩,
 ⟨(some 43), (some (42, true)), .fa 3 (.t 2)⟩,
 ⟨(some 44), (some (42, true)), .ld none (.t 43)⟩,
 ⟨(some 45), (some (42, true)), .fa 3 (.t 3)⟩,
 ⟨(some 46), (some (42, true)), .ld none (.t 45)⟩,
 ⟨(some 47), (some (42, true)), .call (.f 123) [(.t 44), (.t 46)]⟩,
 ⟨(some 48), none, .pick (.t 42) (.t 47) (.c (.bool false))⟩,
 ⟨(some 49), none, .mv (.t 48)⟩,
 ⟨(some 50), (some (49, true)), .fa 4 (.t 2)⟩,
 ⟨(some 51), (some (49, true)), .ld none (.t 50)⟩,
 ⟨(some 52), (some (49, true)), .fa 4 (.t 3)⟩,
 ⟨(some 53), (some (49, true)), .ld none (.t 52)⟩,
 ⟨(some 54), (some (49, true)), .call (.f 123) [(.t 51), (.t 53)]⟩,
 ⟨(some 55), none, .pick (.t 49) (.t 54) (.c (.bool false))⟩,
 ⟨(some 56), none, .mv (.t 55)⟩,
 ⟨(some 57), (some (56, true)), .fa 7 (.t 2)⟩,
 ⟨(some 58), (some (56, true)), .ld none (.t 57)⟩,
 ⟨(some 59), (some (56, true)), .fa 7 (.t 3)⟩,
 ⟨(some 60), (some (56, true)), .ld none (.t 59)⟩,
 ⟨(some 61), (some (56, true)), .call (.f 69) [(.t 58), (.t 60)]⟩,
 ⟨(some 62), none, .pick (.t 56) (.t 61) (.c (.bool false))⟩,
 ⟨(some 4), none, .mv (.t 62)⟩])
 (.ret))))⟩
theorem ok120 : compF Tryz.prog Tryz.f120 = some c120 := by kernel_rfl

-- slices.EqualFunc[[]manorboy/api.Elem,[]manorboy/api.Elem,manorboy/api.Elem,manorboy/api.Elem]
noncomputable def c121 : F' := ⟨32, [.t 6],
 .seq (.reg [⟨(some 6), none, .mv (.c (.bool false))⟩])
 (.seq (.seq (.reg [⟨(some 10), none, .mv (.t 0)⟩,
 ⟨(some 11), none, .len false (.t 10)⟩,
 ⟨(some 12), none, .mv (.t 1)⟩,
 ⟨(some 13), none, .len false (.t 12)⟩,
 ⟨(some 14), none, .bin .neq (.t 11) (.t 13)⟩])
 (.cond (.t 14)
 (.seq (.reg [⟨(some 6), none, .mv (.c (.bool false))⟩])
 (.ret))
 (.skip)))
 (.seq (.seq (.reg [⟨(some 15), none, .mv (.t 0)⟩,
 ⟨(some 16), none, .len false (.t 15)⟩,
 ⟨(some 17), none, .mv (.c (.int .i64 0))⟩])
 (.block 0 (.loop (.seq (.reg [⟨(some 18), none, .bin .lss (.t 17) (.t 16)⟩])
 (.seq (.cond (.t 18)
 (.skip)
 (.exit 0))
 (.seq (.block 1 (.seq (.reg [⟨(some 19), none, .mv (.t 17)⟩,
 ⟨(some 20), none, .ia 2 (.t 15) (.t 17)⟩,
 ⟨(some 21), none, .ld (some 2) (.t 20)⟩,
 ⟨(some 8), none, .new (.agg [(.int .i64 0), (.sl true [])])⟩,
 ⟨(some 7), none, .mv (.t 19)⟩,
 ⟨none, none, .sto 2 (.t 8) (.t 21)⟩])
 (.seq (.reg [⟨(some 22), none, .mv (.t 1)⟩,
 ⟨(some 23), none, .mv (.t 7)⟩,
 ⟨(some 24), none, .ia 2 (.t 22) (.t 23)⟩,
 ⟨(some 25), none, .ld (some 2) (.t 24)⟩,
 ⟨(some 9), none, .new (.agg [(.int .i64 0), (.sl true [])])⟩,
 ⟨none, none, .sto 2 (.t 9) (.t 25)⟩])
 (.seq (.reg [⟨(some 26), none, .mv (.t 2)⟩,
 ⟨(some 27), none, .ld (some 2) (.t 8)⟩,
 ⟨(some 28), none, .ld (some 2) (.t 9)⟩,
 ⟨(some 29), none, .call (.t 26) [(.t 27), (.t 28)]⟩,
 ⟨(some 30), none, .un .not (.t 29)⟩])
 (.cond (.t 30)
 (.seq (.reg [⟨(some 6), none, .mv (.c (.bool false))⟩])
 (.ret))
 (.skip))))))
 (.reg [⟨(some 31), none, .bin .add (.t 17) (.c (.int .i64 1))⟩,
 ⟨(some 17), none, .mv (.t 31)⟩])))))))
 (.seq (.reg [⟨(some 6), none, .mv (.c (.bool true))⟩])
 (.ret))))⟩
theorem ok121 : compF Tryz.prog Tryz.f121 = some c121 := by kernel_rfl

-- manorboy/copyrule.sameExps
noncomputable def c123 : F' := ⟨8, [.t 4],
 .seq (.reg [⟨(some 4), none, .mv (.c (.bool false))⟩])
 (.seq (.reg [⟨(some 5), none, .mv (.t 0)⟩,
 ⟨(some 6), none, .mv (.t 1)⟩,
 ⟨(some 7), none, .call (.f 165) [(.t 5), (.t 6), (.f 166)]⟩,
 ⟨(some 4), none, .mv (.t 7)⟩])
 (.ret))⟩
theorem ok123 : compF Tryz.prog Tryz.f123 = some c123 := by kernel_rfl

-- slices.EqualFunc[[]manorboy/api.Decl,[]manorboy/api.Decl,manorboy/api.Decl,manorboy/api.Decl]
noncomputable def c124 : F' := ⟨32, [.t 6],
 .seq (.reg [⟨(some 6), none, .mv (.c (.bool false))⟩])
 (.seq (.seq (.reg [⟨(some 10), none, .mv (.t 0)⟩,
 ⟨(some 11), none, .len false (.t 10)⟩,
 ⟨(some 12), none, .mv (.t 1)⟩,
 ⟨(some 13), none, .len false (.t 12)⟩,
 ⟨(some 14), none, .bin .neq (.t 11) (.t 13)⟩])
 (.cond (.t 14)
 (.seq (.reg [⟨(some 6), none, .mv (.c (.bool false))⟩])
 (.ret))
 (.skip)))
 (.seq (.seq (.reg [⟨(some 15), none, .mv (.t 0)⟩,
 ⟨(some 16), none, .len false (.t 15)⟩,
 ⟨(some 17), none, .mv (.c (.int .i64 0))⟩])
 (.block 0 (.loop (.seq (.reg [⟨(some 18), none, .bin .lss (.t 17) (.t 16)⟩])
 (.seq (.cond (.t 18)
 (.skip)
 (.exit 0))
 (.seq (.block 1 (.seq (.reg [⟨(some 19), none, .mv (.t 17)⟩,
 ⟨(some 20), none, .ia 7 (.t 15) (.t 17)⟩,
 ⟨(some 21), none, .ld (some 7) (.t 20)⟩,
 ⟨(some 8), none, .new (.agg [(.int .i64 0), (.bool false), (.int .i64 0), (.sl true []), (.sl true []), (.sl true []), (.sl true [])])⟩,
 ⟨(some 7), none, .mv (.t 19)⟩,
 ⟨none, none, .sto 7 (.t 8) (.t 21)⟩])
 (.seq (.reg [⟨(some 22), none, .mv (.t 1)⟩,
 ⟨(some 23), none, .mv (.t 7)⟩,
 ⟨(some 24), none, .ia 7 (.t 22) (.t 23)⟩,
 ⟨(some 25), none, .ld (some 7) (.t 24)⟩,
 ⟨(some 9), none, .new (.agg [(.int .i64 0), (.bool false), (.int .i64 0), (.sl true []), (.sl true []), (.sl true []), (.sl true [])])⟩,
 ⟨none, none, .sto 7 (.t 9) (.t 25)⟩])
 (.seq (.reg [⟨(some 26), none, .mv (.t 2)⟩,
 ⟨(some 27), none, .ld (some 7) (.t 8)⟩,
 ⟨(some 28), none, .ld (some 7) (.t 9)⟩,
 ⟨(some 29), none, .call (.t 26) [(.t 27), (.t 28)]⟩,
 ⟨(some 30), none, .un .not (.t 29)⟩])
 (.cond (.t 30)
 (.seq (.reg [⟨(some 6), none, .mv (.c (.bool false))⟩])
 (.ret))
 (.skip))))))
 (.reg [⟨(some 31), none, .bin .add (.t 17) (.c (.int .i64 1))⟩,
 ⟨(some 17), none, .mv (.t 31)⟩])))))))
 (.seq (.reg [⟨(some 6), none, .mv (.c (.bool true))⟩])
 (.ret))))⟩
theorem ok124 : compF Tryz.prog Tryz.f124 = some c124 := by kernel_rfl

-- manorboy/copyrule.sameStmts$1$2
noncomputable def c125 : F' := ⟨52, [.t 4],
 .seq (.reg [⟨(some 2), none, .box (.t 0)⟩,
 ⟨(some 3), none, .box (.t 1)⟩,
 ⟨(some 4), none, .mv (.c (.bool false))⟩])
 (.seq (.reg [⟨(some 5), none, .fa 0 (.t 2)⟩,
 ⟨(some 6), none, .ld none (.t 5)⟩,
 ⟨(some 7), none, .fa 0 (.t 3)⟩,
 ⟨(some 8), none, .ld none (.t 7)⟩,
 ⟨(some 9), none, .bin .eql (.t 6) (.t 8)⟩,
 ⟨(some 10), none, .mv (.t 9)⟩,
 ⟨(some 11), (some (10, true)), .fa 1 (.t 2)⟩,
 ⟨(some 12), (some (10, true)), .ld none (.t 11)⟩,
 ⟨(some 13), (some (10, true)), .fa 1 (.t 3)⟩,
 ⟨(some 14), (some (10, true)), .ld none (.t 13)⟩,
 ⟨(some 15), (some (10, true)), .eq .bool false (.t 12) (.t 14)⟩,
 ⟨(some 16), none, .pick (.t 10) (.t 15) (.c (.bool false))⟩,
 ⟨(some 17), none, .mv (.t 16)⟩,
 ⟨(some 18), (some (17, true)), .fa 2 (.t 2)⟩,
 ⟨(some 19), (some (17, true)), .ld none (.t 18)⟩,
 ⟨(some 20), (some (17, true)), .fa 2 (.t 3)⟩,
 ⟨(some 21), (some (17, true)), .ld none (.t 20)⟩,
 ⟨(some 22), (some (17, true)), .bin .eql (.t 19) (.t 21)⟩,
 ⟨(some 23), none, .pick (.t 17) (.t 22) (.c (.bool false))⟩,
 ⟨(some 24), none, .mv (.t 23)⟩,
 ⟨(some 25), (some (24, true)), .fa 3 (.t 2)⟩,
 ⟨(some 26), (some (24, true)), .ld none (.t 25)⟩,
 ⟨(some 27), (some (24, true)), .fa 3 (.t 3)⟩,
 ⟨(some 28), (some (24, true)), .ld none (.t 27)⟩,
 ⟨(some 29), (some (24, true)), .call (.f 126) [(.t 26), (.t 28)]⟩,
 ⟨(some 30), none, .pick (.t 24) (.t 29) (.c (.bool false))⟩,
 ⟨(some 31), none, .mv (.t 30)⟩,
 ⟨(some 32), (some (31, true)), .fa 4 (.t 2)⟩,
 ⟨(some 33), (some (31, true)), .ld none (.t 32)⟩,
 ⟨(some 34), (some (31, true)), .fa 4 (.t 3)⟩,
 ⟨(some 35), (some (31, true)), .ld none (.t 34)⟩,
 ⟨(some 36), (some (31, true)), .call (.f 123) [(.t 33), (.t 35)]⟩,
 ⟨(some 37), none, .pick (.t 31) (.t 36) (.c (.bool false))⟩,
 ⟨(some 38), none, .mv (.t 37)⟩,
 ⟨(some 39), (some (38, true)), .fa 5 (.t 2)⟩,
 ⟨(some 40), (some (38, true)), .ld none (.t 39)⟩,
 ⟨(some 41), (some (38, true)), .fa 5 (.t 3)⟩,
 ⟨(some 42), (some (38, true)), .ld none (.t 41)⟩,
 ⟨(some 43), (some (38, true)), .call (.f 127) [(.t 40), (.t 42)]⟩,
 ⟨(some 44), none, .pick (.t 38) (.t 43) (.c (.bool false))⟩,
 ⟨(some 45), none, .mv (.t 44)⟩,
 ⟨(some 46), (some (45, true)), .fa 6 (.t 2)⟩,
 ⟨(some 47), (some (45, true)), .ld none (.t 46)⟩,
 ⟨(some 48), (some (45, true)), .fa 6 (.t 3)⟩,
 ⟨(some 49), (some (45, true)), .ld none (.t 48)⟩,
 ⟨(some 50), (some (45, true)), .call (.f 69) [(.t 47), (.t 49)]⟩,
 ⟨(some 51), none, .pick (.t 45) (.t 50) (.c (.bool false))⟩,
 ⟨(some 4), none, .mv (.t 51)⟩])
 (.ret))⟩
theorem ok125 : compF Tryz.prog Tryz.f125 = some c125 := by kernel_rfl

-- slices.Equal[[]string,string]
noncomputable def c126 : F' := ⟨26, [.t 4],
 .seq (.reg [⟨(some 4), none, .mv (.c (.bool false))⟩])
 (.seq (.seq (.reg [⟨(some 6), none, .mv (.t 0)⟩,
 ⟨(some 7), none, .len false (.t 6)⟩,
 ⟨(some 8), none, .mv (.t 1)⟩,
 ⟨(some 9), none, .len false (.t 8)⟩,
 ⟨(some 10), none, .bin .neq (.t 7) (.t 9)⟩])
 (.cond (.t 10)
 (.seq (.reg [⟨(some 4), none, .mv (.c (.bool false))⟩])
 (.ret))
 (.skip)))
 (.seq (.seq (.reg [⟨(some 11), none, .mv (.t 0)⟩,
 ⟨(some 12), none, .len false (.t 11)⟩,
 ⟨(some 13), none, .mv (.c (.int .i64 0))⟩])
 (.block 0 (.loop (.seq (.reg [⟨(some 14), none, .bin .lss (.t 13) (.t 12)⟩])
 (.seq (.cond (.t 14)
 (.skip)
 (.exit 0))
 (.seq (.block 1 (.seq (.reg [⟨(some 15), none, .mv (.t 13)⟩,
 ⟨(some 5), none, .mv (.t 15)⟩])
 (.seq (.draw [⟨⟨(some 16), none, .mv (.t 0)⟩, false, none, false, [], 0, 0⟩,
 ⟨⟨(some 17), none, .mv (.t 5)⟩, false, none, false, [], 0, 0⟩,
 ⟨⟨(some 18), none, .ia 1 (.t 16) (.t 17)⟩, false, none, false, [0, 1], 0, 0⟩,
 ⟨⟨(some 19), none, .ld none (.t 18)⟩, false, none, false, [2, 0, 1], 0, 0⟩,
 ⟨⟨(some 20), none, .mv (.t 1)⟩, false, none, false, [], 0, 0⟩,
 ⟨⟨(some 21), none, .mv (.t 5)⟩, false, none, false, [], 0, 0⟩,
 ⟨⟨(some 22), none, .ia 1 (.t 20) (.t 21)⟩, false, none, false, [4, 5], 0, 0⟩,
 ⟨⟨(some 23), none, .ld none (.t 22)⟩, false, none, false, [6, 4, 5], 0, 0⟩,
 ⟨⟨(some 24), none, .bin .neq (.t 19) (.t 23)⟩, false, none, false, [3, 7, 2, 0, 1, 6, 4, 5], 0, 0⟩] [])
 (.cond (.t 24)
 (.seq (.reg [⟨(some 4), none, .mv (.c (.bool false))⟩])
 (.ret))
 (.skip)))))
 (.reg [⟨(some 25), none, .bin .add (.t 13) (.c (.int .i64 1))⟩,
 ⟨(some 13), none, .mv (.t 25)⟩])))))))
 (.seq (.reg [⟨(some 4), none, .mv (.c (.bool true))⟩])
 (.ret))))⟩
theorem ok126 : compF Tryz.prog Tryz.f126 = some c126 := by kernel_rfl

-- slices.Equal[[]manorboy/api.Formal,manorboy/api.Formal]
noncomputable def c127 : F' := ⟨26, [.t 4],
 .seq (.reg [⟨(some 4), none, .mv (.c (.bool false))⟩])
 (.seq (.seq (.reg [⟨(some 6), none, .mv (.t 0)⟩,
 ⟨(some 7), none, .len false (.t 6)⟩,
 ⟨(some 8), none, .mv (.t 1)⟩,
 ⟨(some 9), none, .len false (.t 8)⟩,
 ⟨(some 10), none, .bin .neq (.t 7) (.t 9)⟩])
 (.cond (.t 10)
 (.seq (.reg [⟨(some 4), none, .mv (.c (.bool false))⟩])
 (.ret))
 (.skip)))
 (.seq (.seq (.reg [⟨(some 11), none, .mv (.t 0)⟩,
 ⟨(some 12), none, .len false (.t 11)⟩,
 ⟨(some 13), none, .mv (.c (.int .i64 0))⟩])
 (.block 0 (.loop (.seq (.reg [⟨(some 14), none, .bin .lss (.t 13) (.t 12)⟩])
 (.seq (.cond (.t 14)
 (.skip)
 (.exit 0))
 (.seq (.block 1 (.seq (.reg [⟨(some 15), none, .mv (.t 13)⟩,
 ⟨(some 5), none, .mv (.t 15)⟩])
 (.seq (.draw [⟨⟨(some 16), none, .mv (.t 0)⟩, false, none, false, [], 0, 0⟩,
 ⟨⟨(some 17), none, .mv (.t 5)⟩, false, none, false, [], 0, 0⟩,
 ⟨⟨(some 18), none, .ia 4 (.t 16) (.t 17)⟩, false, none, false, [0, 1], 0, 0⟩,
 ⟨⟨(some 19), none, .ld (some 4) (.t 18)⟩, false, none, false, [2, 0, 1], 0, 0⟩,
 ⟨⟨(some 20), none, .mv (.t 1)⟩, false, none, false, [], 0, 0⟩,
 ⟨⟨(some 21), none, .mv (.t 5)⟩, false, none, false, [], 0, 0⟩,
 ⟨⟨(some 22), none, .ia 4 (.t 20) (.t 21)⟩, false, none, false, [4, 5], 0, 0⟩,
 ⟨⟨(some 23), none, .ld (some 4) (.t 22)⟩, false, none, false, [6, 4, 5], 0, 0⟩,
 ⟨⟨(some 24), none, .ex (.eqs true 4 [(0, .s), (1, .b), (2, .i), (3, .i)] (.t 19) (.t 23))⟩, false, none, false, [3, 7, 2, 0, 1, 6, 4, 5], 0, 0⟩] [])
 (.cond (.t 24)
 (.seq (.reg [⟨(some 4), none, .mv (.c (.bool false))⟩])
 (.ret))
 (.skip)))))
 (.reg [⟨(some 25), none, .bin .add (.t 13) (.c (.int .i64 1))⟩,
 ⟨(some 13), none, .mv (.t 25)⟩])))))))
 (.seq (.reg [⟨(some 4), none, .mv (.c (.bool true))⟩])
 (.ret))))⟩
theorem ok127 : compF Tryz.prog Tryz.f127 = some c127 := by kernel_rfl

-- manorboy/copyrule.numbered$1
noncomputable def c128 : F' := ⟨11, [],
 .reg [⟨(some 2), none, .mv (.t 0)⟩,
 ⟨(some 3), none, .mv (.t 0)⟩,
 ⟨(some 4), none, .nck (.t 3)⟩,
 ⟨(some 5), none, .fa 0 (.t 4)⟩,
 ⟨(some 6), none, .ld none (.t 5)⟩,
 ⟨(some 7), none, .call (.f 129) [(.t 6)]⟩,
 ⟨(some 8), none, .bin .add (.c (.str ⟨⟨[35]⟩⟩)) (.t 7)⟩,
 ⟨(some 9), none, .nck (.t 2)⟩,
 ⟨(some 10), none, .fa 2 (.t 9)⟩,
 ⟨none, none, .sto 1 (.t 10) (.t 8)⟩]⟩
theorem ok128 : compF Tryz.prog Tryz.f128 = some c128 := by kernel_rfl

-- strconv.Itoa
noncomputable def c129 : F' := ⟨5, [.t 2],
 .seq (.reg [⟨(some 2), none, .mv (.c (.str ⟨⟨[]⟩⟩))⟩])
 (.seq (.reg [⟨(some 3), none, .mv (.t 0)⟩,
 ⟨(some 4), none, .call (.f 167) [(.t 3)]⟩,
 ⟨(some 2), none, .mv (.t 4)⟩])
 (.ret))⟩
theorem ok129 : compF Tryz.prog Tryz.f129 = some c129 := by kernel_rfl

-- manorboy/tree.CheckDecl
noncomputable def c130 : F' := ⟨6, [.t 2],
 .seq (.reg [⟨(some 1), none, .box (.t 0)⟩,
 ⟨(some 2), none, .mv (.c (.int .i64 0))⟩])
 (.seq (.reg [⟨(some 3), none, .ld (some 7) (.t 1)⟩,
 ⟨(some 4), none, .call (.f 168) [(.t 3)]⟩,
 ⟨(some 5), none, .call (.f 100) [(.t 4)]⟩,
 ⟨(some 2), none, .mv (.t 5)⟩])
 (.ret))⟩
theorem ok130 : compF Tryz.prog Tryz.f130 = some c130 := by kernel_rfl

-- slices.ContainsFunc[[]manorboy/api.Formal,manorboy/api.Formal]
noncomputable def c131 : F' := ⟨9, [.t 4],
 .seq (.reg [⟨(some 4), none, .mv (.c (.bool false))⟩])
 (.seq (.reg [⟨(some 5), none, .mv (.t 0)⟩,
 ⟨(some 6), none, .mv (.t 1)⟩,
 ⟨(some 7), none, .call (.f 169) [(.t 5), (.t 6)]⟩,
 ⟨(some 8), none, .bin .geq (.t 7) (.c (.int .i64 0))⟩,
 ⟨(some 4), none, .mv (.t 8)⟩])
 (.ret))⟩
theorem ok131 : compF Tryz.prog Tryz.f131 = some c131 := by kernel_rfl

-- manorboy/copyrule.expandable$1
noncomputable def c132 : F' := ⟨10, [.t 2],
 .seq (.reg [⟨(some 1), none, .box (.t 0)⟩,
 ⟨(some 2), none, .mv (.c (.bool false))⟩])
 (.seq (.reg [⟨(some 3), none, .fa 1 (.t 1)⟩,
 ⟨(some 4), none, .ld none (.t 3)⟩,
 ⟨(some 5), none, .mv (.t 4)⟩,
 ⟨(some 6), (some (5, true)), .fa 2 (.t 1)⟩,
 ⟨(some 7), (some (5, true)), .ld none (.t 6)⟩,
 ⟨(some 8), (some (5, true)), .bin .eql (.t 7) (.c (.int .i64 2))⟩,
 ⟨(some 9), none, .pick (.t 5) (.t 8) (.c (.bool false))⟩,
 ⟨(some 2), none, .mv (.t 9)⟩])
 (.ret))⟩
theorem ok132 : compF Tryz.prog Tryz.f132 = some c132 := by kernel_rfl

-- manorboy/copyrule.used$1
noncomputable def c133 : F' := ⟨14, [.cell 7 (some 7)],
 .seq (.reg [⟨(some 4), none, .box (.t 0)⟩,
 ⟨(some 7), none, .new (.agg [(.int .i64 0), (.int .i64 0), (.int .i64 0), (.int .i64 0), (.int .i64 0), (.str ⟨⟨[]⟩⟩), (.sl true [])])⟩])
 (.seq (.reg [⟨(some 8), none, .ld none (.t 3)⟩,
 ⟨(some 9), none, .fa 5 (.t 4)⟩,
 ⟨(some 10), none, .ld none (.t 9)⟩,
 ⟨(some 11), none, .bsl 1 [(.t 10)]⟩,
 ⟨(some 12), none, .call (.f 79) [(.t 8), (.t 11)]⟩])
 (.seq (.reg [⟨(some 13), none, .ld (some 7) (.t 4)⟩,
 ⟨none, none, .sto 7 (.t 7) (.t 13)⟩])
 (.ret)))⟩
theorem ok133 : compF Tryz.prog Tryz.f133 = some c133 := by kernel_rfl

-- (*manorboy/copyrule.walker).exps
noncomputable def c134 : F' := ⟨28, [.t 8],
 .seq (.reg [⟨(some 8), none, .mv (.c (.sl true []))⟩])
 (.seq (.reg [⟨(some 9), none, .mv (.c (.sl true []))⟩])
 (.seq (.seq (.reg [⟨(some 12), none, .mv (.t 1)⟩,
 ⟨(some 13), none, .len false (.t 12)⟩,
 ⟨(some 14), none, .mv (.c (.int .i64 0))⟩])
 (.block 0 (.loop (.seq (.reg [⟨(some 15), none, .bin .lss (.t 14) (.t 13)⟩])
 (.seq (.cond (.t 15)
 (.skip)
 (.exit 0))
 (.seq (.block 1 (.seq (.reg [⟨(some 16), none, .ia 7 (.t 12) (.t 14)⟩,
 ⟨(some 17), none, .ld (some 7) (.t 16)⟩,
 ⟨(some 11), none, .new (.agg [(.int .i64 0), (.int .i64 0), (.int .i64 0), (.int .i64 0), (.int .i64 0), (.str ⟨⟨[]⟩⟩), (.sl true [])])⟩,
 ⟨none, none, .sto 7 (.t 11) (.t 17)⟩])
 (.reg [⟨(some 18), none, .mv (.t 9)⟩,
 ⟨(some 19), none, .mv (.t 0)⟩,
 ⟨(some 20), none, .ld (some 7) (.t 11)⟩,
 ⟨(some 21), none, .mv (.t 2)⟩,
 ⟨(some 22), none, .mv (.t 3)⟩,
 ⟨(some 23), none, .call (.f 97) [(.t 19), (.t 20), (.t 21), (.t 22)]⟩,
 ⟨(some 24), none, .bsl 7 [(.t 23)]⟩,
 ⟨(some 25), none, .app 7 80 (.t 18) (.t 24)⟩,
 ⟨(some 9), none, .mv (.t 25)⟩])))
 (.reg [⟨(some 26), none, .bin .add (.t 14) (.c (.int .i64 1))⟩,
 ⟨(some 14), none, .mv (.t 26)⟩])))))))
 (.seq (.reg [⟨(some 27), none, .mv (.t 9)⟩,
 ⟨(some 8), none, .mv (.t 27)⟩])
 (.ret))))⟩
theorem ok134 : compF Tryz.prog Tryz.f134 = some c134 := by kernel_rfl

-- slices.Sorted[string]
noncomputable def c136 : F' := ⟨9, [.t 2],
 .seq (.reg [⟨(some 2), none, .mv (.c (.sl true []))⟩])
 (.seq (.reg [⟨(some 4), none, .mv (.t 0)⟩,
 ⟨(some 5), none, .call (.f 170) [(.t 4)]⟩,
 ⟨(some 3), none, .mv (.t 5)⟩])
 (.seq (.reg [⟨(some 6), none, .mv (.t 3)⟩,
 ⟨(some 7), none, .call (.f 171) [(.t 6)]⟩])
 (.seq (.reg [⟨(some 8), none, .mv (.t 3)⟩,
 ⟨(some 2), none, .mv (.t 8)⟩])
 (.ret))))⟩
theorem ok136 : compF Tryz.prog Tryz.f136 = some c136 := by kernel_rfl

-- maps.Keys[manorboy/copyrule.names,string,bool]
noncomputable def c137 : F' := ⟨4, [.t 2],
 .seq (.reg [⟨(some 1), none, .box (.t 0)⟩,
 ⟨(some 2), none, .mv (.c .nilfn)⟩])
 (.seq (.reg [⟨(some 3), none, .mkf 172 [] [(.t 1)]⟩,
 ⟨(some 2), none, .mv (.t 3)⟩])
 (.ret))⟩
theorem ok137 : compF Tryz.prog Tryz.f137 = some c137 := by kernel_rfl

-- slices.ContainsFunc[[]string,string]
noncomputable def c138 : F' := ⟨9, [.t 4],
 .seq (.reg [⟨(some 4), none, .mv (.c (.bool false))⟩])
 (.seq (.reg [⟨(some 5), none, .mv (.t 0)⟩,
 ⟨(some 6), none, .mv (.t 1)⟩,
 ⟨(some 7), none, .call (.f 173) [(.t 5), (.t 6)]⟩,
 ⟨(some 8), none, .bin .geq (.t 7) (.c (.int .i64 0))⟩,
 ⟨(some 4), none, .mv (.t 8)⟩])
 (.ret))⟩
theorem ok138 : compF Tryz.prog Tryz.f138 = some c138 := by kernel_rfl

-- manorboy/copyrule.pairs$1
noncomputable def c139 : F' := ⟨6, [.t 2],
 .seq (.reg [⟨(some 2), none, .mv (.c (.bool false))⟩])
 (.seq (.reg [⟨(some 3), none, .mv (.t 0)⟩,
 ⟨(some 4), none, .call (.f 57) [(.t 3)]⟩,
 ⟨(some 5), none, .un .not (.t 4)⟩,
 ⟨(some 2), none, .mv (.t 5)⟩])
 (.ret))⟩
theorem ok139 : compF Tryz.prog Tryz.f139 = some c139 := by kernel_rfl

-- manorboy/tree.ofExp
noncomputable def c142 : F' := ⟨5, [.cell 2 (some 25)],
 .seq (.reg [⟨(some 1), none, .box (.t 0)⟩,
 ⟨(some 2), none, .new (.agg [(.int .i64 0), (.sl true []), (.int .i64 0), (.str ⟨⟨[]⟩⟩), (.sl true []), (.sl true []), (.sl true []), (.sl true []), (.sl true []), (.int .i64 0), (.bool false), (.int .i64 0), (.sl true []), (.sl true []), (.sl true []), (.sl true []), (.int .i64 0), (.sl true []), (.int .i64 0), (.int .i64 0), (.int .i64 0), (.int .i64 0), (.int .i64 0), (.str ⟨⟨[]⟩⟩), (.sl true [])])⟩])
 (.seq (.reg [⟨(some 3), none, .ld (some 7) (.t 1)⟩,
 ⟨(some 4), none, .build (.agg [(.int .i64 0), (.sl true []), (.int .i64 0), (.str ⟨⟨[]⟩⟩), (.sl true []), (.sl true []), (.sl true []), (.sl true []), (.sl true []), (.int .i64 0), (.bool false), (.int .i64 0), (.sl true []), (.sl true []), (.sl true []), (.sl true []), (.int .i64 0), (.sl true []), (.int .i64 0), (.int .i64 0), (.int .i64 0), (.int .i64 0), (.int .i64 0), (.str ⟨⟨[]⟩⟩), (.sl true [])]) [(0, 0, 1, (.c (.int .i64 4))), (4, 18, 7, (.t 3))]⟩,
 ⟨none, none, .sto 25 (.t 2) (.t 4)⟩])
 (.ret))⟩
theorem ok142 : compF Tryz.prog Tryz.f142 = some c142 := by kernel_rfl

-- manorboy/copyrule.apart$1
noncomputable def c146 : F' := ⟨20, [.t 5],
 .seq (.reg [⟨(some 5), none, .mv (.c (.bool false))⟩])
 (.seq (.reg [⟨(some 6), none, .ld none (.t 1)⟩,
 ⟨(some 7), none, .mv (.t 0)⟩,
 ⟨(some 8), none, .ex (.lkp .str (.bool false) false (.t 6) (.t 7))⟩,
 ⟨(some 9), none, .mv (.t 8)⟩,
 ⟨(some 10), (some (9, false)), .ld none (.t 2)⟩,
 ⟨(some 11), (some (9, false)), .mv (.t 0)⟩,
 ⟨(some 12), (some (9, false)), .ex (.lkp .str (.bool false) false (.t 10) (.t 11))⟩,
 ⟨(some 13), none, .pick (.t 9) (.c (.bool true)) (.t 12)⟩,
 ⟨(some 14), none, .mv (.t 13)⟩,
 ⟨(some 15), (some (14, false)), .ld none (.t 3)⟩,
 ⟨(some 16), (some (14, false)), .mv (.t 0)⟩,
 ⟨(some 17), (some (14, false)), .ex (.lkp .str (.int .i64 0) false (.t 15) (.t 16))⟩,
 ⟨(some 18), (some (14, false)), .bin .gtr (.t 17) (.c (.int .i64 0))⟩,
 ⟨(some 19), none, .pick (.t 14) (.c (.bool true)) (.t 18)⟩,
 ⟨(some 5), none, .mv (.t 19)⟩])
 (.ret))⟩
theorem ok146 : compF Tryz.prog Tryz.f146 = some c146 := by kernel_rfl

-- manorboy/copyrule.apart$2
noncomputable def c147 : F' := ⟨13, [],
 .draw [⟨⟨(some 3), none, .mv (.t 0)⟩, false, none, false, [], 0, 0⟩,
 ⟨⟨(some 4), none, .ld none (.t 1)⟩, false, none, false, [], 0, 0⟩,
 ⟨⟨(some 5), none, .mv (.t 0)⟩, false, none, false, [], 0, 0⟩,
 ⟨⟨(some 6), none, .nck (.t 5)⟩, false, none, false, [2], 0, 0⟩,
 ⟨⟨(some 7), none, .fa 0 (.t 6)⟩, false, none, false, [3, 2], 0, 0⟩,
 ⟨⟨(some 8), none, .ld none (.t 7)⟩, false, none, false, [4, 3, 2], 0, 0⟩,
 ⟨⟨(some 9), none, .ia 1 (.t 4) (.t 8)⟩, false, none, false, [1, 5, 4, 3, 2], 0, 0⟩,
 ⟨⟨(some 10), none, .ld none (.t 9)⟩, false, none, false, [6, 1, 5, 4, 3, 2], 0, 0⟩,
 ⟨⟨(some 11), none, .nck (.t 3)⟩, false, none, false, [0, 7, 6, 1, 5, 4, 3, 2], 0, 0⟩,
 ⟨⟨(some 12), none, .fa 2 (.t 11)⟩, false, none, false, [8, 0, 7, 6, 1, 5, 4, 3, 2], 0, 0⟩,
 ⟨⟨none, none, .sto 1 (.t 12) (.t 10)⟩, true, none, false, [9, 8, 0, 7, 6, 1, 5, 4, 3, 2], 0, 0⟩] []⟩
theorem ok147 : compF Tryz.prog Tryz.f147 = some c147 := by kernel_rfl

-- manorboy/copyrule.replacer$2
noncomputable def c149 : F' := ⟨55, [.cell 9 (some 7)],
 .seq (.reg [⟨(some 6), none, .box (.t 0)⟩,
 ⟨(some 9), none, .new (.agg [(.int .i64 0), (.int .i64 0), (.int .i64 0), (.int .i64 0), (.int .i64 0), (.str ⟨⟨[]⟩⟩), (.sl true [])])⟩])
 (.seq (.seq (.reg [⟨(some 12), none, .fa 0 (.t 6)⟩,
 ⟨(some 13), none, .ld none (.t 12)⟩,
 ⟨(some 14), none, .bin .neq (.t 13) (.c (.int .i64 6))⟩])
 (.cond (.t 14)
 (.seq (.reg [⟨(some 15), none, .ld none (.t 3)⟩,
 ⟨(some 16), none, .fa 5 (.t 6)⟩,
 ⟨(some 17), none, .ld none (.t 16)⟩,
 ⟨(some 18), none, .mv (.t 1)⟩,
 ⟨(some 19), none, .call (.t 15) [(.t 17), (.t 18)]⟩,
 ⟨(some 20), none, .fa 5 (.t 6)⟩,
 ⟨none, none, .sto 1 (.t 20) (.t 19)⟩])
 (.seq (.reg [⟨(some 21), none, .ld (some 7) (.t 6)⟩,
 ⟨none, none, .sto 7 (.t 9) (.t 21)⟩])
 (.ret)))
 (.skip)))
 (.seq (.reg [⟨(some 23), none, .ld none (.t 4)⟩,
 ⟨(some 24), none, .fa 5 (.t 6)⟩,
 ⟨(some 25), none, .ld none (.t 24)⟩,
 ⟨(some 26), none, .ex (.lkp .str (.agg [(.int .i64 0), (.int .i64 0), (.int .i64 0), (.int .i64 0), (.int .i64 0), (.str ⟨⟨[]⟩⟩), (.sl true [])]) true (.t 23) (.t 25))⟩,
 ⟨(some 22), none, .mv (.t 26)⟩,
 ⟨(some 27), none, .ext 0 (.t 22)⟩,
 ⟨(some 28), none, .ext 1 (.t 22)⟩,
 ⟨(some 10), none, .new (.agg [(.int .i64 0), (.int .i64 0), (.int .i64 0), (.int .i64 0), (.int .i64 0), (.str ⟨⟨[]⟩⟩), (.sl true [])])⟩,
 ⟨none, none, .sto 7 (.t 10) (.t 27)⟩,
 ⟨(some 11), none, .mv (.t 28)⟩])
 (.seq (.seq (.reg [⟨(some 29), none, .mv (.t 11)⟩,
 ⟨(some 30), none, .un .not (.t 29)⟩,
 ⟨(some 31), none, .mv (.t 30)⟩,
 ⟨(some 32), (some (31, false)), .mv (.t 1)⟩,
 ⟨(some 33), (some (31, false)), .fa 5 (.t 6)⟩,
 ⟨(some 34), (some (31, false)), .ld none (.t 33)⟩,
 ⟨(some 35), (some (31, false)), .call (.f 60) [(.t 32), (.t 34)]⟩,
 ⟨(some 36), (some (31, false)), .eq .ptr true (.t 35) (.c .nilp)⟩,
 ⟨(some 37), none, .pick (.t 31) (.c (.bool true)) (.t 36)⟩])
 (.cond (.t 37)
 (.seq (.reg [⟨(some 38), none, .ld (some 7) (.t 6)⟩,
 ⟨none, none, .sto 7 (.t 9) (.t 38)⟩])
 (.ret))
 (.skip)))
 (.seq (.reg [⟨(some 39), none, .ld none (.t 5)⟩,
 ⟨(some 40), none, .mv (.t 39)⟩,
 ⟨(some 41), (some (40, false)), .mv (.t 2)⟩,
 ⟨(some 42), (some (40, false)), .mv (.t 41)⟩,
 ⟨(some 43), (some (42, true)), .fa 0 (.t 10)⟩,
 ⟨(some 44), (some (42, true)), .ld none (.t 43)⟩,
 ⟨(some 45), (some (42, true)), .bin .neq (.t 44) (.c (.int .i64 6))⟩,
 ⟨(some 46), (some (40, false)), .pick (.t 42) (.t 45) (.c (.bool false))⟩,
 ⟨(some 47), (some (40, false)), .mv (.t 46)⟩,
 ⟨(some 48), (some (47, true)), .fa 0 (.t 10)⟩,
 ⟨(some 49), (some (47, true)), .ld none (.t 48)⟩,
 ⟨(some 50), (some (47, true)), .bin .neq (.t 49) (.c (.int .i64 7))⟩,
 ⟨(some 51), (some (40, false)), .pick (.t 47) (.t 50) (.c (.bool false))⟩,
 ⟨(some 52), none, .pick (.t 40) (.c (.bool true)) (.t 51)⟩,
 ⟨none, none, .sto 1 (.t 5) (.t 52)⟩])
 (.seq (.reg [⟨(some 53), none, .ld (some 7) (.t 10)⟩,
 ⟨(some 54), none, .call (.f 80) [(.t 53)]⟩,
 ⟨none, none, .sto 7 (.t 9) (.t 54)⟩])
 (.ret))))))⟩
theorem ok149 : compF Tryz.prog Tryz.f149 = some c149 := by kernel_rfl

-- manorboy/tree.measured
noncomputable def c150 : F' := ⟨13, [.cell 2 none, .cell 3 none, .t 4],
 .seq (.reg [⟨(some 1), none, .box (.t 0)⟩,
 ⟨(some 2), none, .new (.int .i64 0)⟩,
 ⟨(some 3), none, .new (.int .i64 0)⟩,
 ⟨(some 4), none, .mv (.c (.bool false))⟩])
 (.seq (.reg [⟨(some 5), none, .new .nilfn⟩])
 (.seq (.reg [⟨(some 6), none, .mkf 177 [] [(.t 2), (.t 3), (.t 5)]⟩,
 ⟨none, none, .sto 1 (.t 5) (.t 6)⟩])
 (.seq (.reg [⟨(some 7), none, .ld none (.t 5)⟩,
 ⟨(some 8), none, .ld (some 25) (.t 1)⟩,
 ⟨(some 9), none, .call (.t 7) [(.t 8), (.c (.int .i64 1))]⟩,
 ⟨(some 4), none, .mv (.t 9)⟩])
 (.seq (.draw [⟨⟨(some 10), none, .ld none (.t 2)⟩, false, none, false, [], 0, 0⟩,
 ⟨⟨(some 11), none, .ld none (.t 3)⟩, false, none, true, [], 0, 1⟩,
 ⟨⟨(some 12), none, .mv (.t 4)⟩, false, none, false, [], 0, 2⟩,
 ⟨⟨none, none, .sto 1 (.t 2) (.t 10)⟩, true, none, false, [0], 0, 0⟩,
 ⟨⟨none, none, .sto 1 (.t 3) (.t 11)⟩, true, none, false, [1, 3, 0], 1, 1⟩,
 ⟨⟨(some 4), none, .mv (.t 12)⟩, false, none, false, [2, 4, 1, 3, 0], 2, 2⟩] [])
 (.ret)))))⟩
theorem ok150 : compF Tryz.prog Tryz.f150 = some c150 := by kernel_rfl

-- manorboy/tree.valid
noncomputable def c151 : F' := ⟨35, [.cell 2 none],
 .seq (.reg [⟨(some 1), none, .box (.t 0)⟩,
 ⟨(some 2), none, .new (.bool false)⟩])
 (.seq (.reg [⟨(some 3), none, .mv (.c (.bool false))⟩])
 (.seq (.seq (.reg [⟨(some 5), none, .fa 0 (.t 1)⟩,
 ⟨(some 6), none, .ld none (.t 5)⟩])
 (.block 0 (.seq (.reg [⟨(some 8), none, .bin .eql (.t 6) (.c (.int .i64 4))⟩,
 ⟨(some 7), none, .mv (.t 8)⟩])
 (.cond (.t 7)
 (.reg [⟨(some 9), none, .fa 18 (.t 1)⟩,
 ⟨(some 10), none, .ld (some 7) (.t 9)⟩,
 ⟨(some 11), none, .call (.f 180) [(.t 10)]⟩,
 ⟨(some 3), none, .mv (.t 11)⟩])
 (.seq (.reg [⟨(some 13), none, .bin .eql (.t 6) (.c (.int .i64 3))⟩,
 ⟨(some 12), none, .mv (.t 13)⟩])
 (.cond (.t 12)
 (.reg [⟨(some 14), none, .fa 16 (.t 1)⟩,
 ⟨(some 15), none, .ld (some 2) (.t 14)⟩,
 ⟨(some 16), none, .call (.f 181) [(.t 15)]⟩,
 ⟨(some 3), none, .mv (.t 16)⟩])
 (.seq (.reg [⟨(some 18), none, .bin .eql (.t 6) (.c (.int .i64 2))⟩,
 ⟨(some 17), none, .mv (.t 18)⟩])
 (.cond (.t 17)
 (.reg [⟨(some 19), none, .fa 9 (.t 1)⟩,
 ⟨(some 20), none, .ld (some 7) (.t 19)⟩,
 ⟨(some 21), none, .call (.f 182) [(.t 20)]⟩,
 ⟨(some 3), none, .mv (.t 21)⟩])
 (.seq (.reg [⟨(some 23), none, .bin .eql (.t 6) (.c (.int .i64 1))⟩,
 ⟨(some 22), none, .mv (.t 23)⟩])
 (.cond (.t 22)
 (.reg [⟨(some 24), none, .fa 1 (.t 1)⟩,
 ⟨(some 25), none, .ld (some 8) (.t 24)⟩,
 ⟨(some 26), none, .call (.f 183) [(.t 25)]⟩,
 ⟨(some 3), none, .mv (.t 26)⟩])
 (.skip)))))))))))
 (.seq (.seq (.reg [⟨(some 27), none, .mv (.t 3)⟩,
 ⟨(some 28), none, .un .not (.t 27)⟩])
 (.cond (.t 28)
 (.seq (.reg [⟨none, none, .sto 1 (.t 2) (.c (.bool false))⟩])
 (.ret))
 (.skip)))
 (.seq (.seq (.reg [⟨(some 29), none, .ld (some 25) (.t 1)⟩,
 ⟨(some 30), none, .call (.f 179) [(.t 29)]⟩])
 (.block 1 (.rf (.t 30) [31] (rfAt Tryz.f151 0).1 (rfAt Tryz.f151 0).2
 (.reg [⟨(some 4), none, .new (.agg [(.int .i64 0), (.sl true []), (.int .i64 0), (.str ⟨⟨[]⟩⟩), (.sl true []), (.sl true []), (.sl true []), (.sl true []), (.sl true []), (.int .i64 0), (.bool false), (.int .i64 0), (.sl true []), (.sl true []), (.sl true []), (.sl true []), (.int .i64 0), (.sl true []), (.int .i64 0), (.int .i64 0), (.int .i64 0), (.int .i64 0), (.int .i64 0), (.str ⟨⟨[]⟩⟩), (.sl true [])])⟩,
 ⟨none, none, .sto 25 (.t 4) (.t 31)⟩])
 (.block 2 (.seq (.reg [⟨(some 32), none, .ld (some 25) (.t 4)⟩,
 ⟨(some 33), none, .call (.f 151) [(.t 32)]⟩,
 ⟨(some 34), none, .un .not (.t 33)⟩])
 (.cond (.t 34)
 (.seq (.reg [⟨none, none, .sto 1 (.t 2) (.c (.bool false))⟩])
 (.ret))
 (.skip))))
 35 [31, 4, 32, 33, 34, 2])))
 (.seq (.reg [⟨none, none, .sto 1 (.t 2) (.c (.bool true))⟩])
 (.ret))))))⟩
theorem ok151 : compF Tryz.prog Tryz.f151 = some c151 := by kernel_rfl

-- slices.Contains[[]string,string]
noncomputable def c152 : F' := ⟨9, [.t 4],
 .seq (.reg [⟨(some 4), none, .mv (.c (.bool false))⟩])
 (.seq (.reg [⟨(some 5), none, .mv (.t 0)⟩,
 ⟨(some 6), none, .mv (.t 1)⟩,
 ⟨(some 7), none, .call (.f 184) [(.t 5), (.t 6)]⟩,
 ⟨(some 8), none, .bin .geq (.t 7) (.c (.int .i64 0))⟩,
 ⟨(some 4), none, .mv (.t 8)⟩])
 (.ret))⟩
theorem ok152 : compF Tryz.prog Tryz.f152 = some c152 := by kernel_rfl

-- manorboy/lex.Words
noncomputable def c153 : F' := ⟨2, [.t 0],
 .seq (.reg [⟨(some 0), none, .mv (.c (.sl true []))⟩])
 (.seq (.reg [⟨(some 1), none, .call (.f 185) [(.c (.str ⟨⟨[98, 101, 103, 105, 110, 32, 101, 110, 100, 32, 105, 102, 32, 116, 104, 101, 110, 32, 101, 108, 115, 101, 32, 102, 111, 114, 32, 100, 111, 32, 115, 116, 101, 112, 32, 117, 110, 116, 105, 108, 32, 119, 104, 105, 108, 101, 32, 103, 111, 116, 111, 32, 111, 119, 110, 32, 105, 110, 116, 101, 103, 101, 114, 32, 114, 101, 97, 108, 32, 98, 111, 111, 108, 101, 97, 110, 32, 97, 114, 114, 97, 121, 32, 115, 119, 105, 116, 99, 104, 32, 112, 114, 111, 99, 101, 100, 117, 114, 101, 32, 118, 97, 108, 117, 101, 32, 108, 97, 98, 101, 108, 32, 115, 116, 114, 105, 110, 103, 32, 116, 114, 117, 101, 32, 102, 97, 108, 115, 101, 32, 99, 111, 109, 109, 101, 110, 116, 32, 110, 111, 116, 32, 97, 110, 100, 32, 111, 114, 32, 105, 109, 112, 32, 101, 113, 118]⟩⟩))]⟩,
 ⟨(some 0), none, .mv (.t 1)⟩])
 (.ret))⟩
theorem ok153 : compF Tryz.prog Tryz.f153 = some c153 := by kernel_rfl

-- slices.IndexFunc[[]byte,byte]
noncomputable def c154 : F' := ⟨19, [.t 4],
 .seq (.reg [⟨(some 4), none, .mv (.c (.int .i64 0))⟩])
 (.seq (.seq (.reg [⟨(some 6), none, .mv (.t 0)⟩,
 ⟨(some 7), none, .len false (.t 6)⟩,
 ⟨(some 8), none, .mv (.c (.int .i64 0))⟩])
 (.block 0 (.loop (.seq (.reg [⟨(some 9), none, .bin .lss (.t 8) (.t 7)⟩])
 (.seq (.cond (.t 9)
 (.skip)
 (.exit 0))
 (.seq (.block 1 (.seq (.reg [⟨(some 10), none, .mv (.t 8)⟩,
 ⟨(some 5), none, .mv (.t 10)⟩])
 (.seq (.reg [⟨(some 11), none, .mv (.t 1)⟩,
 ⟨(some 12), none, .mv (.t 0)⟩,
 ⟨(some 13), none, .mv (.t 5)⟩,
 ⟨(some 14), none, .ia 1 (.t 12) (.t 13)⟩,
 ⟨(some 15), none, .ld none (.t 14)⟩,
 ⟨(some 16), none, .call (.t 11) [(.t 15)]⟩])
 (.cond (.t 16)
 (.seq (.reg [⟨(some 17), none, .mv (.t 5)⟩,
 ⟨(some 4), none, .mv (.t 17)⟩])
 (.ret))
 (.skip)))))
 (.reg [⟨(some 18), none, .bin .add (.t 8) (.c (.int .i64 1))⟩,
 ⟨(some 8), none, .mv (.t 18)⟩])))))))
 (.seq (.reg [⟨(some 4), none, .mv (.c (.int .i64 (-1)))⟩])
 (.ret)))⟩
theorem ok154 : compF Tryz.prog Tryz.f154 = some c154 := by kernel_rfl

-- manorboy/lex.isDigit
noncomputable def c155 : F' := ⟨9, [.t 2],
 .seq (.reg [⟨(some 2), none, .mv (.c (.bool false))⟩])
 (.seq (.reg [⟨(some 3), none, .mv (.t 0)⟩,
 ⟨(some 4), none, .bin .geq (.t 3) (.c (.int .u8 48))⟩,
 ⟨(some 5), none, .mv (.t 4)⟩,
 ⟨(some 6), (some (5, true)), .mv (.t 0)⟩,
 ⟨(some 7), (some (5, true)), .bin .leq (.t 6) (.c (.int .u8 57))⟩,
 ⟨(some 8), none, .pick (.t 5) (.t 7) (.c (.bool false))⟩,
 ⟨(some 2), none, .mv (.t 8)⟩])
 (.ret))⟩
theorem ok155 : compF Tryz.prog Tryz.f155 = some c155 := by kernel_rfl

-- (*manorboy/copyrule.walker).stmts
noncomputable def c156 : F' := ⟨25, [.t 6],
 .seq (.reg [⟨(some 6), none, .mv (.c (.sl true []))⟩])
 (.seq (.reg [⟨(some 7), none, .mv (.c (.sl true []))⟩])
 (.seq (.seq (.reg [⟨(some 10), none, .mv (.t 1)⟩,
 ⟨(some 11), none, .len false (.t 10)⟩,
 ⟨(some 12), none, .mv (.c (.int .i64 0))⟩])
 (.block 0 (.loop (.seq (.reg [⟨(some 13), none, .bin .lss (.t 12) (.t 11)⟩])
 (.seq (.cond (.t 13)
 (.skip)
 (.exit 0))
 (.seq (.block 1 (.seq (.reg [⟨(some 14), none, .ia 8 (.t 10) (.t 12)⟩,
 ⟨(some 15), none, .ld (some 8) (.t 14)⟩,
 ⟨(some 9), none, .new (.agg [(.sl true []), (.int .i64 0), (.str ⟨⟨[]⟩⟩), (.sl true []), (.sl true []), (.sl true []), (.sl true []), (.sl true [])])⟩,
 ⟨none, none, .sto 8 (.t 9) (.t 15)⟩])
 (.reg [⟨(some 16), none, .mv (.t 7)⟩,
 ⟨(some 17), none, .mv (.t 0)⟩,
 ⟨(some 18), none, .ld (some 8) (.t 9)⟩,
 ⟨(some 19), none, .mv (.t 2)⟩,
 ⟨(some 20), none, .call (.f 186) [(.t 17), (.t 18), (.t 19)]⟩,
 ⟨(some 21), none, .bsl 8 [(.t 20)]⟩,
 ⟨(some 22), none, .app 8 168 (.t 16) (.t 21)⟩,
 ⟨(some 7), none, .mv (.t 22)⟩])))
 (.reg [⟨(some 23), none, .bin .add (.t 12) (.c (.int .i64 1))⟩,
 ⟨(some 12), none, .mv (.t 23)⟩])))))))
 (.seq (.reg [⟨(some 24), none, .mv (.t 7)⟩,
 ⟨(some 6), none, .mv (.t 24)⟩])
 (.ret))))⟩
theorem ok156 : compF Tryz.prog Tryz.f156 = some c156 := by kernel_rfl

-- (*manorboy/copyrule.walker).bind
noncomputable def c157 : F' := ⟨63, [.t 6],
 .seq (.reg [⟨(some 3), none, .box (.t 0)⟩,
 ⟨(some 6), none, .mv (.c .nilp)⟩])
 (.seq (.reg [⟨(some 12), none, .mv (.t 1)⟩,
 ⟨(some 13), none, .ex (.wrap 1 (.t 12))⟩,
 ⟨(some 14), none, .box (.t 13)⟩,
 ⟨(some 15), none, .ex (.mkm)⟩,
 ⟨(some 16), none, .build (.agg [.nilp, .nilmap]) [(0, 0, 1, (.t 14)), (1, 1, 1, (.t 15))]⟩,
 ⟨(some 17), none, .box (.t 16)⟩,
 ⟨(some 7), none, .new .nilp⟩,
 ⟨none, none, .sto 1 (.t 7) (.t 17)⟩])
 (.seq (.seq (.reg [⟨(some 18), none, .mv (.t 2)⟩])
 (.block 0 (.rf (.t 18) [19] (rfAt Tryz.f157 0).1 (rfAt Tryz.f157 0).2
 (.reg [⟨(some 8), none, .mv (.t 19)⟩])
 (.block 1 (.seq (.seq (.reg [⟨(some 21), none, .ld none (.t 7)⟩,
 ⟨(some 22), none, .nck (.t 21)⟩,
 ⟨(some 23), none, .fa 1 (.t 22)⟩,
 ⟨(some 24), none, .ld none (.t 23)⟩,
 ⟨(some 25), none, .mv (.t 8)⟩,
 ⟨(some 26), none, .ex (.lkp .str .nilp true (.t 24) (.t 25))⟩,
 ⟨(some 20), none, .mv (.t 26)⟩,
 ⟨(some 27), none, .ext 0 (.t 20)⟩,
 ⟨(some 28), none, .ext 1 (.t 20)⟩,
 ⟨(some 9), none, .mv (.t 27)⟩,
 ⟨(some 10), none, .mv (.t 28)⟩])
 (.seq (.reg [⟨(some 29), none, .mv (.t 10)⟩])
 (.cond (.t 29)
 (.exit 1)
 (.skip))))
 (.seq (.reg [⟨(some 30), none, .ld none (.t 3)⟩,
 ⟨(some 31), none, .nck (.t 30)⟩,
 ⟨(some 32), none, .fa 0 (.t 31)⟩,
 ⟨(some 33), none, .ld none (.t 32)⟩,
 ⟨(some 34), none, .mv (.t 8)⟩,
 ⟨(some 35), none, .mv (.t 8)⟩,
 ⟨(some 36), none, .build (.agg [(.int .i64 0), (.str ⟨⟨[]⟩⟩), (.str ⟨⟨[]⟩⟩)]) [(0, 0, 1, (.t 33)), (1, 1, 1, (.t 34)), (2, 2, 1, (.t 35))]⟩,
 ⟨(some 37), none, .box (.t 36)⟩,
 ⟨(some 11), none, .mv (.t 37)⟩])
 (.seq (.reg [⟨(some 38), none, .ld none (.t 3)⟩,
 ⟨(some 39), none, .nck (.t 38)⟩,
 ⟨(some 40), none, .fa 0 (.t 39)⟩,
 ⟨(some 41), none, .ld none (.t 40)⟩,
 ⟨(some 42), none, .bin .add (.t 41) (.c (.int .i64 1))⟩,
 ⟨(some 43), none, .nck (.t 38)⟩,
 ⟨(some 44), none, .fa 0 (.t 43)⟩,
 ⟨none, none, .sto 1 (.t 44) (.t 42)⟩])
 (.seq (.reg [⟨(some 45), none, .ld none (.t 7)⟩,
 ⟨(some 46), none, .nck (.t 45)⟩,
 ⟨(some 47), none, .fa 1 (.t 46)⟩,
 ⟨(some 48), none, .ld none (.t 47)⟩,
 ⟨(some 49), none, .mv (.t 8)⟩,
 ⟨(some 50), none, .mv (.t 11)⟩,
 ⟨none, none, .ex (.mup .str (.t 48) (.t 49) (.t 50))⟩])
 (.seq (.reg [⟨(some 51), none, .ld none (.t 3)⟩,
 ⟨(some 52), none, .nck (.t 51)⟩,
 ⟨(some 53), none, .fa 1 (.t 52)⟩,
 ⟨(some 54), none, .ld none (.t 53)⟩,
 ⟨(some 55), none, .eq .func true (.t 54) (.c .nilfn)⟩])
 (.cond (.t 55)
 (.reg [⟨(some 56), none, .ld none (.t 3)⟩,
 ⟨(some 57), none, .nck (.t 56)⟩,
 ⟨(some 58), none, .fa 1 (.t 57)⟩,
 ⟨(some 59), none, .ld none (.t 58)⟩,
 ⟨(some 60), none, .mv (.t 11)⟩,
 ⟨(some 61), none, .call (.t 59) [(.t 60)]⟩])
 (.skip))))))))
 63 [19, 21, 22, 23, 24, 25, 26, 20, 27, 28, 10, 29, 30, 31, 32, 33, 34, 35, 36, 37, 39, 40, 41, 38, 43, 44, 42, 7, 45, 46, 47, 8, 48, 49, 50, 51, 52, 53, 54, 55, 3, 56, 57, 58, 11, 59, 60])))
 (.seq (.reg [⟨(some 62), none, .ld none (.t 7)⟩,
 ⟨(some 6), none, .mv (.t 62)⟩])
 (.ret))))⟩
theorem ok157 : compF Tryz.prog Tryz.f157 = some c157 := by kernel_rfl

-- manorboy/copyrule.labels
noncomputable def c158 : F' := ⟨4, [.t 2],
 .seq (.reg [⟨(some 1), none, .box (.t 0)⟩,
 ⟨(some 2), none, .mv (.c .nilfn)⟩])
 (.seq (.reg [⟨(some 3), none, .mkf 187 [] [(.t 1)]⟩,
 ⟨(some 2), none, .mv (.t 3)⟩])
 (.ret))⟩
theorem ok158 : compF Tryz.prog Tryz.f158 = some c158 := by kernel_rfl

-- manorboy/manorboyref04.Within
noncomputable def c159 : F' := ⟨11, [.t 2],
 .seq (.reg [⟨(some 1), none, .box (.t 0)⟩,
 ⟨(some 2), none, .mv (.c (.bool false))⟩])
 (.seq (.reg [⟨(some 3), none, .ld (some 25) (.t 1)⟩,
 ⟨(some 4), none, .call (.f 174) [(.t 3), (.c (.int .i64 2000))]⟩,
 ⟨(some 5), none, .bin .geq (.t 4) (.c (.int .i64 0))⟩,
 ⟨(some 6), none, .mv (.t 5)⟩,
 ⟨(some 7), (some (6, true)), .ld (some 25) (.t 1)⟩,
 ⟨(some 8), (some (6, true)), .call (.f 188) [(.t 7)]⟩,
 ⟨(some 9), (some (6, true)), .bin .leq (.t 8) (.c (.int .i64 60))⟩,
 ⟨(some 10), none, .pick (.t 6) (.t 9) (.c (.bool false))⟩,
 ⟨(some 2), none, .mv (.t 10)⟩])
 (.ret))⟩
theorem ok159 : compF Tryz.prog Tryz.f159 = some c159 := by kernel_rfl

-- manorboy/manorboyref04.like
noncomputable def c164 : F' := ⟨32, [.t 4],
 .seq (.reg [⟨(some 2), none, .box (.t 0)⟩,
 ⟨(some 3), none, .box (.t 1)⟩,
 ⟨(some 4), none, .mv (.c (.bool false))⟩])
 (.seq (.seq (.reg [⟨(some 8), none, .ld (some 25) (.t 2)⟩,
 ⟨(some 9), none, .ld (some 25) (.t 3)⟩,
 ⟨(some 10), none, .call (.f 195) [(.t 8), (.t 9)]⟩,
 ⟨(some 11), none, .un .not (.t 10)⟩])
 (.cond (.t 11)
 (.seq (.reg [⟨(some 4), none, .mv (.c (.bool false))⟩])
 (.ret))
 (.skip)))
 (.seq (.reg [⟨(some 12), none, .ld (some 25) (.t 2)⟩,
 ⟨(some 13), none, .call (.f 193) [(.t 12)]⟩,
 ⟨(some 5), none, .mv (.t 13)⟩])
 (.seq (.reg [⟨(some 14), none, .ld (some 25) (.t 3)⟩,
 ⟨(some 15), none, .call (.f 193) [(.t 14)]⟩,
 ⟨(some 6), none, .mv (.t 15)⟩])
 (.seq (.seq (.reg [⟨(some 7), none, .mv (.c (.int .i64 0))⟩])
 (.block 0 (.loop (.seq (.seq (.reg [⟨(some 16), none, .mv (.t 7)⟩,
 ⟨(some 17), none, .mv (.t 5)⟩,
 ⟨(some 18), none, .len false (.t 17)⟩,
 ⟨(some 19), none, .bin .lss (.t 16) (.t 18)⟩])
 (.cond (.t 19)
 (.skip)
 (.exit 0)))
 (.seq (.block 1 (.seq (.draw [⟨⟨(some 22), none, .mv (.t 5)⟩, false, none, false, [], 0, 0⟩,
 ⟨⟨(some 23), none, .mv (.t 7)⟩, false, none, false, [], 0, 0⟩,
 ⟨⟨(some 24), none, .ia 25 (.t 22) (.t 23)⟩, false, none, false, [0, 1], 0, 0⟩,
 ⟨⟨(some 25), none, .ld (some 25) (.t 24)⟩, false, none, false, [2, 0, 1], 0, 0⟩,
 ⟨⟨(some 26), none, .mv (.t 6)⟩, false, none, false, [], 0, 0⟩,
 ⟨⟨(some 27), none, .mv (.t 7)⟩, false, none, false, [], 0, 0⟩,
 ⟨⟨(some 28), none, .ia 25 (.t 26) (.t 27)⟩, false, none, false, [4, 5], 0, 0⟩,
 ⟨⟨(some 29), none, .ld (some 25) (.t 28)⟩, false, none, false, [6, 4, 5], 0, 0⟩,
 ⟨⟨(some 30), none, .call (.f 164) [(.t 25), (.t 29)]⟩, true, none, false, [3, 7, 2, 0, 1, 6, 4, 5], 0, 0⟩,
 ⟨⟨(some 31), none, .un .not (.t 30)⟩, false, none, false, [8, 3, 7, 2, 0, 1, 6, 4, 5], 1, 1⟩] [])
 (.cond (.t 31)
 (.seq (.reg [⟨(some 4), none, .mv (.c (.bool false))⟩])
 (.ret))
 (.skip))))
 (.reg [⟨(some 20), none, .mv (.t 7)⟩,
 ⟨(some 21), none, .bin .add (.t 20) (.c (.int .i64 1))⟩,
 ⟨(some 7), none, .mv (.t 21)⟩]))))))
 (.seq (.reg [⟨(some 4), none, .mv (.c (.bool true))⟩])
 (.ret))))))⟩
theorem ok164 : compF Tryz.prog Tryz.f164 = some c164 := by kernel_rfl

-- slices.EqualFunc[[]manorboy/api.Exp,[]manorboy/api.Exp,manorboy/api.Exp,manorboy/api.Exp]
noncomputable def c165 : F' := ⟨32, [.t 6],
 .seq (.reg [⟨(some 6), none, .mv (.c (.bool false))⟩])
 (.seq (.seq (.reg [⟨(some 10), none, .mv (.t 0)⟩,
 ⟨(some 11), none, .len false (.t 10)⟩,
 ⟨(some 12), none, .mv (.t 1)⟩,
 ⟨(some 13), none, .len false (.t 12)⟩,
 ⟨(some 14), none, .bin .neq (.t 11) (.t 13)⟩])
 (.cond (.t 14)
 (.seq (.reg [⟨(some 6), none, .mv (.c (.bool false))⟩])
 (.ret))
 (.skip)))
 (.seq (.seq (.reg [⟨(some 15), none, .mv (.t 0)⟩,
 ⟨(some 16), none, .len false (.t 15)⟩,
 ⟨(some 17), none, .mv (.c (.int .i64 0))⟩])
 (.block 0 (.loop (.seq (.reg [⟨(some 18), none, .bin .lss (.t 17) (.t 16)⟩])
 (.seq (.cond (.t 18)
 (.skip)
 (.exit 0))
 (.seq (.block 1 (.seq (.reg [⟨(some 19), none, .mv (.t 17)⟩,
 ⟨(some 20), none, .ia 7 (.t 15) (.t 17)⟩,
 ⟨(some 21), none, .ld (some 7) (.t 20)⟩,
 ⟨(some 8), none, .new (.agg [(.int .i64 0), (.int .i64 0), (.int .i64 0), (.int .i64 0), (.int .i64 0), (.str ⟨⟨[]⟩⟩), (.sl true [])])⟩,
 ⟨(some 7), none, .mv (.t 19)⟩,
 ⟨none, none, .sto 7 (.t 8) (.t 21)⟩])
 (.seq (.reg [⟨(some 22), none, .mv (.t 1)⟩,
 ⟨(some 23), none, .mv (.t 7)⟩,
 ⟨(some 24), none, .ia 7 (.t 22) (.t 23)⟩,
 ⟨(some 25), none, .ld (some 7) (.t 24)⟩,
 ⟨(some 9), none, .new (.agg [(.int .i64 0), (.int .i64 0), (.int .i64 0), (.int .i64 0), (.int .i64 0), (.str ⟨⟨[]⟩⟩), (.sl true [])])⟩,
 ⟨none, none, .sto 7 (.t 9) (.t 25)⟩])
 (.seq (.reg [⟨(some 26), none, .mv (.t 2)⟩,
 ⟨(some 27), none, .ld (some 7) (.t 8)⟩,
 ⟨(some 28), none, .ld (some 7) (.t 9)⟩,
 ⟨(some 29), none, .call (.t 26) [(.t 27), (.t 28)]⟩,
 ⟨(some 30), none, .un .not (.t 29)⟩])
 (.cond (.t 30)
 (.seq (.reg [⟨(some 6), none, .mv (.c (.bool false))⟩])
 (.ret))
 (.skip))))))
 (.reg [⟨(some 31), none, .bin .add (.t 17) (.c (.int .i64 1))⟩,
 ⟨(some 17), none, .mv (.t 31)⟩])))))))
 (.seq (.reg [⟨(some 6), none, .mv (.c (.bool true))⟩])
 (.ret))))⟩
theorem ok165 : compF Tryz.prog Tryz.f165 = some c165 := by kernel_rfl

-- manorboy/copyrule.sameExps$1
noncomputable def c166 : F' := ⟨45, [.t 4],
 .seq (.reg [⟨(some 2), none, .box (.t 0)⟩,
 ⟨(some 3), none, .box (.t 1)⟩,
 ⟨(some 4), none, .mv (.c (.bool false))⟩])
 (.seq (.reg [⟨(some 5), none, .fa 0 (.t 2)⟩,
 ⟨(some 6), none, .ld none (.t 5)⟩,
 ⟨(some 7), none, .fa 0 (.t 3)⟩,
 ⟨(some 8), none, .ld none (.t 7)⟩,
 ⟨(some 9), none, .bin .eql (.t 6) (.t 8)⟩,
 ⟨(some 10), none, .mv (.t 9)⟩,
 ⟨(some 11), (some (10, true)), .fa 1 (.t 2)⟩,
 ⟨(some 12), (some (10, true)), .ld none (.t 11)⟩,
 ⟨(some 13), (some (10, true)), .fa 1 (.t 3)⟩,
 ⟨(some 14), (some (10, true)), .ld none (.t 13)⟩,
 ⟨(some 15), (some (10, true)), .bin .eql (.t 12) (.t 14)⟩,
 ⟨(some 16), none, .pick (.t 10) (.t 15) (.c (.bool false))⟩,
 ⟨(some 17), none, .mv (.t 16)⟩,
 ⟨(some 18), (some (17, true)), .fa 2 (.t 2)⟩,
 ⟨(some 19), (some (17, true)), .ld none (.t 18)⟩,
 ⟨(some 20), (some (17, true)), .fa 2 (.t 3)⟩,
 ⟨(some 21), (some (17, true)), .ld none (.t 20)⟩,
 ⟨(some 22), (some (17, true)), .bin .eql (.t 19) (.t 21)⟩,
 ⟨(some 23), none, .pick (.t 17) (.t 22) (.c (.bool false))⟩,
 ⟨(some 24), none, .mv (.t 23)⟩,
 ⟨(some 25), (some (24, true)), .fa 3 (.t 2)⟩,
 ⟨(some 26), (some (24, true)), .ld (some 2) (.t 25)⟩,
 ⟨(some 27), (some (24, true)), .fa 3 (.t 3)⟩,
 ⟨(some 28), (some (24, true)), .ld (some 2) (.t 27)⟩,
 ⟨(some 29), (some (24, true)), .ex (.eqs false 2 [(0, .i), (1, .i)] (.t 26) (.t 28))⟩,
 ⟨(some 30), none, .pick (.t 24) (.t 29) (.c (.bool false))⟩,
 ⟨(some 31), none, .mv (.t 30)⟩,
 ⟨(some 32), (some (31, true)), .fa 5 (.t 2)⟩,
 ⟨(some 33), (some (31, true)), .ld none (.t 32)⟩,
 ⟨(some 34), (some (31, true)), .fa 5 (.t 3)⟩,
 ⟨(some 35), (some (31, true)), .ld none (.t 34)⟩,
 ⟨(some 36), (some (31, true)), .bin .eql (.t 33) (.t 35)⟩,
 ⟨(some 37), none, .pick (.t 31) (.t 36) (.c (.bool false))⟩,
 ⟨(some 38), none, .mv (.t 37)⟩,
 ⟨(some 39), (some (38, true)), .fa 6 (.t 2)⟩,
 ⟨(some 40), (some (38, true)), .ld none (.t 39)⟩,
 ⟨(some 41), (some (38, true)), .fa 6 (.t 3)⟩,
 ⟨(some 42), (some (38, true)), .ld none (.t 41)⟩,
 ⟨(some 43), (some (38, true)), .call (.f 123) [(.t 40), (.t 42)]⟩,
 ⟨(some 44), none, .pick (.t 38) (.t 43) (.c (.bool false))⟩,
 ⟨(some 4), none, .mv (.t 44)⟩])
 (.ret))⟩
theorem ok166 : compF Tryz.prog Tryz.f166 = some c166 := by kernel_rfl

-- internal/strconv.Itoa
noncomputable def c167 : F' := ⟨5, [.t 2],
 .seq (.reg [⟨(some 2), none, .mv (.c (.str ⟨⟨[]⟩⟩))⟩])
 (.seq (.reg [⟨(some 3), none, .mv (.t 0)⟩,
 ⟨(some 4), none, .call (.f 196) [(.t 3), (.c (.int .i64 10))]⟩,
 ⟨(some 2), none, .mv (.t 4)⟩])
 (.ret))⟩
theorem ok167 : compF Tryz.prog Tryz.f167 = some c167 := by kernel_rfl

-- manorboy/tree.ofDecl
noncomputable def c168 : F' := ⟨5, [.cell 2 (some 25)],
 .seq (.reg [⟨(some 1), none, .box (.t 0)⟩,
 ⟨(some 2), none, .new (.agg [(.int .i64 0), (.sl true []), (.int .i64 0), (.str ⟨⟨[]⟩⟩), (.sl true []), (.sl true []), (.sl true []), (.sl true []), (.sl true []), (.int .i64 0), (.bool false), (.int .i64 0), (.sl true []), (.sl true []), (.sl true []), (.sl true []), (.int .i64 0), (.sl true []), (.int .i64 0), (.int .i64 0), (.int .i64 0), (.int .i64 0), (.int .i64 0), (.str ⟨⟨[]⟩⟩), (.sl true [])])⟩])
 (.seq (.reg [⟨(some 3), none, .ld (some 7) (.t 1)⟩,
 ⟨(some 4), none, .build (.agg [(.int .i64 0), (.sl true []), (.int .i64 0), (.str ⟨⟨[]⟩⟩), (.sl true []), (.sl true []), (.sl true []), (.sl true []), (.sl true []), (.int .i64 0), (.bool false), (.int .i64 0), (.sl true []), (.sl true []), (.sl true []), (.sl true []), (.int .i64 0), (.sl true []), (.int .i64 0), (.int .i64 0), (.int .i64 0), (.int .i64 0), (.int .i64 0), (.str ⟨⟨[]⟩⟩), (.sl true [])]) [(0, 0, 1, (.c (.int .i64 2))), (2, 9, 7, (.t 3))]⟩,
 ⟨none, none, .sto 25 (.t 2) (.t 4)⟩])
 (.ret))⟩
theorem ok168 : compF Tryz.prog Tryz.f168 = some c168 := by kernel_rfl

-- slices.IndexFunc[[]manorboy/api.Formal,manorboy/api.Formal]
noncomputable def c169 : F' := ⟨19, [.t 4],
 .seq (.reg [⟨(some 4), none, .mv (.c (.int .i64 0))⟩])
 (.seq (.seq (.reg [⟨(some 6), none, .mv (.t 0)⟩,
 ⟨(some 7), none, .len false (.t 6)⟩,
 ⟨(some 8), none, .mv (.c (.int .i64 0))⟩])
 (.block 0 (.loop (.seq (.reg [⟨(some 9), none, .bin .lss (.t 8) (.t 7)⟩])
 (.seq (.cond (.t 9)
 (.skip)
 (.exit 0))
 (.seq (.block 1 (.seq (.reg [⟨(some 10), none, .mv (.t 8)⟩,
 ⟨(some 5), none, .mv (.t 10)⟩])
 (.seq (.reg [⟨(some 11), none, .mv (.t 1)⟩,
 ⟨(some 12), none, .mv (.t 0)⟩,
 ⟨(some 13), none, .mv (.t 5)⟩,
 ⟨(some 14), none, .ia 4 (.t 12) (.t 13)⟩,
 ⟨(some 15), none, .ld (some 4) (.t 14)⟩,
 ⟨(some 16), none, .call (.t 11) [(.t 15)]⟩])
 (.cond (.t 16)
 (.seq (.reg [⟨(some 17), none, .mv (.t 5)⟩,
 ⟨(some 4), none, .mv (.t 17)⟩])
 (.ret))
 (.skip)))))
 (.reg [⟨(some 18), none, .bin .add (.t 8) (.c (.int .i64 1))⟩,
 ⟨(some 8), none, .mv (.t 18)⟩])))))))
 (.seq (.reg [⟨(some 4), none, .mv (.c (.int .i64 (-1)))⟩])
 (.ret)))⟩
theorem ok169 : compF Tryz.prog Tryz.f169 = some c169 := by kernel_rfl

-- slices.Collect[string]
noncomputable def c170 : F' := ⟨5, [.t 2],
 .seq (.reg [⟨(some 2), none, .mv (.c (.sl true []))⟩])
 (.seq (.reg [⟨(some 3), none, .mv (.t 0)⟩,
 ⟨(some 4), none, .call (.f 197) [(.c (.sl true [])), (.t 3)]⟩,
 ⟨(some 2), none, .mv (.t 4)⟩])
 (.ret))⟩
theorem ok170 : compF Tryz.prog Tryz.f170 = some c170 := by kernel_rfl

-- slices.Sort[[]string,string]
noncomputable def c171 : F' := ⟨11, [],
 .seq (.reg [⟨(some 3), none, .mv (.t 0)⟩,
 ⟨(some 4), none, .len false (.t 3)⟩,
 ⟨(some 2), none, .mv (.t 4)⟩])
 (.reg [⟨(some 5), none, .mv (.t 0)⟩,
 ⟨(some 6), none, .mv (.t 2)⟩,
 ⟨(some 7), none, .mv (.t 2)⟩,
 ⟨(some 8), none, .conv .u64 (.t 7)⟩,
 ⟨(some 9), none, .call (.f 199) [(.t 8)]⟩,
 ⟨(some 10), none, .call (.f 198) [(.t 5), (.c (.int .i64 0)), (.t 6), (.t 9)]⟩])⟩
theorem ok171 : compF Tryz.prog Tryz.f171 = some c171 := by kernel_rfl

-- maps.Keys[manorboy/copyrule.names,string,bool]$1
noncomputable def c172 : F' := ⟨14, [],
 .seq (.reg [⟨(some 4), none, .ld none (.t 1)⟩,
 ⟨(some 5), none, .ex (.rng (.t 4))⟩])
 (.block 0 (.loop (.seq (.reg [⟨(some 6), none, .ex (.nxt (.t 5))⟩,
 ⟨(some 7), none, .ext 0 (.t 6)⟩])
 (.seq (.cond (.t 7)
 (.skip)
 (.exit 0))
 (.block 1 (.seq (.reg [⟨(some 8), none, .ex (.ent (.t 5))⟩,
 ⟨(some 9), none, .ext 0 (.t 8)⟩,
 ⟨(some 3), none, .mv (.t 9)⟩])
 (.seq (.reg [⟨(some 10), none, .mv (.t 0)⟩,
 ⟨(some 11), none, .mv (.t 3)⟩,
 ⟨(some 12), none, .call (.t 10) [(.t 11)]⟩,
 ⟨(some 13), none, .un .not (.t 12)⟩])
 (.cond (.t 13)
 (.ret)
 (.skip)))))))))⟩
theorem ok172 : compF Tryz.prog Tryz.f172 = some c172 := by kernel_rfl

-- slices.IndexFunc[[]string,string]
noncomputable def c173 : F' := ⟨19, [.t 4],
 .seq (.reg [⟨(some 4), none, .mv (.c (.int .i64 0))⟩])
 (.seq (.seq (.reg [⟨(some 6), none, .mv (.t 0)⟩,
 ⟨(some 7), none, .len false (.t 6)⟩,
 ⟨(some 8), none, .mv (.c (.int .i64 0))⟩])
 (.block 0 (.loop (.seq (.reg [⟨(some 9), none, .bin .lss (.t 8) (.t 7)⟩])
 (.seq (.cond (.t 9)
 (.skip)
 (.exit 0))
 (.seq (.block 1 (.seq (.reg [⟨(some 10), none, .mv (.t 8)⟩,
 ⟨(some 5), none, .mv (.t 10)⟩])
 (.seq (.reg [⟨(some 11), none, .mv (.t 1)⟩,
 ⟨(some 12), none, .mv (.t 0)⟩,
 ⟨(some 13), none, .mv (.t 5)⟩,
 ⟨(some 14), none, .ia 1 (.t 12) (.t 13)⟩,
 ⟨(some 15), none, .ld none (.t 14)⟩,
 ⟨(some 16), none, .call (.t 11) [(.t 15)]⟩])
 (.cond (.t 16)
 (.seq (.reg [⟨(some 17), none, .mv (.t 5)⟩,
 ⟨(some 4), none, .mv (.t 17)⟩])
 (.ret))
 (.skip)))))
 (.reg [⟨(some 18), none, .bin .add (.t 8) (.c (.int .i64 1))⟩,
 ⟨(some 8), none, .mv (.t 18)⟩])))))))
 (.seq (.reg [⟨(some 4), none, .mv (.c (.int .i64 (-1)))⟩])
 (.ret)))⟩
theorem ok173 : compF Tryz.prog Tryz.f173 = some c173 := by kernel_rfl

-- manorboy/manorboyref04.left
noncomputable def c174 : F' := ⟨37, [.t 4],
 .seq (.reg [⟨(some 2), none, .box (.t 0)⟩,
 ⟨(some 4), none, .mv (.c (.int .i64 0))⟩])
 (.seq (.seq (.draw [⟨⟨(some 7), none, .ld (some 25) (.t 2)⟩, false, none, false, [], 0, 0⟩,
 ⟨⟨(some 8), none, .call (.f 200) [(.t 7)]⟩, true, none, false, [0], 0, 0⟩,
 ⟨⟨(some 9), none, .ld (some 25) (.t 2)⟩, false, none, true, [], 0, 1⟩,
 ⟨⟨(some 10), none, .call (.f 201) [(.t 9)]⟩, true, none, false, [2, 1, 0], 1, 1⟩,
 ⟨⟨(some 11), none, .bin .add (.t 8) (.t 10)⟩, false, none, false, [3, 2, 1, 0], 2, 2⟩,
 ⟨⟨(some 12), none, .mv (.t 1)⟩, false, none, false, [], 0, 2⟩,
 ⟨⟨(some 13), none, .bin .gtr (.t 11) (.t 12)⟩, false, none, false, [4, 5, 3, 2, 1, 0], 2, 2⟩] [])
 (.cond (.t 13)
 (.seq (.reg [⟨(some 4), none, .mv (.c (.int .i64 (-1)))⟩])
 (.ret))
 (.skip)))
 (.seq (.reg [⟨(some 14), none, .mv (.t 1)⟩,
 ⟨(some 15), none, .ld (some 25) (.t 2)⟩,
 ⟨(some 16), none, .call (.f 200) [(.t 15)]⟩,
 ⟨(some 17), none, .bin .sub (.t 14) (.t 16)⟩,
 ⟨(some 1), none, .mv (.t 17)⟩])
 (.seq (.reg [⟨(some 18), none, .ld (some 25) (.t 2)⟩,
 ⟨(some 19), none, .call (.f 193) [(.t 18)]⟩,
 ⟨(some 5), none, .mv (.t 19)⟩])
 (.seq (.seq (.reg [⟨(some 6), none, .mv (.c (.int .i64 0))⟩])
 (.block 0 (.loop (.seq (.seq (.reg [⟨(some 20), none, .mv (.t 6)⟩,
 ⟨(some 21), none, .mv (.t 5)⟩,
 ⟨(some 22), none, .len false (.t 21)⟩,
 ⟨(some 23), none, .bin .lss (.t 20) (.t 22)⟩,
 ⟨(some 24), none, .mv (.t 23)⟩,
 ⟨(some 25), (some (24, true)), .mv (.t 1)⟩,
 ⟨(some 26), (some (24, true)), .bin .geq (.t 25) (.c (.int .i64 0))⟩,
 ⟨(some 27), none, .pick (.t 24) (.t 26) (.c (.bool false))⟩])
 (.cond (.t 27)
 (.skip)
 (.exit 0)))
 (.seq (.block 1 (.reg [⟨(some 30), none, .mv (.t 5)⟩,
 ⟨(some 31), none, .mv (.t 6)⟩,
 ⟨(some 32), none, .ia 25 (.t 30) (.t 31)⟩,
 ⟨(some 33), none, .ld (some 25) (.t 32)⟩,
 ⟨(some 34), none, .mv (.t 1)⟩,
 ⟨(some 35), none, .call (.f 174) [(.t 33), (.t 34)]⟩,
 ⟨(some 1), none, .mv (.t 35)⟩]))
 (.reg [⟨(some 28), none, .mv (.t 6)⟩,
 ⟨(some 29), none, .bin .add (.t 28) (.c (.int .i64 1))⟩,
 ⟨(some 6), none, .mv (.t 29)⟩]))))))
 (.seq (.reg [⟨(some 36), none, .mv (.t 1)⟩,
 ⟨(some 4), none, .mv (.t 36)⟩])
 (.ret))))))⟩
theorem ok174 : compF Tryz.prog Tryz.f174 = some c174 := by kernel_rfl

-- manorboy/tree.measured$1
noncomputable def c177 : F' := ⟨31, [.cell 7 none],
 .seq (.reg [⟨(some 5), none, .box (.t 0)⟩,
 ⟨(some 6), none, .box (.t 1)⟩,
 ⟨(some 7), none, .new (.bool false)⟩])
 (.seq (.draw [⟨⟨(some 9), none, .ld none (.t 2)⟩, false, none, true, [], 0, 1⟩,
 ⟨⟨(some 10), none, .ld (some 25) (.t 5)⟩, false, none, false, [], 0, 0⟩,
 ⟨⟨(some 11), none, .call (.f 178) [(.t 10)]⟩, true, none, false, [1], 0, 0⟩,
 ⟨⟨(some 12), none, .bin .add (.t 9) (.t 11)⟩, false, none, false, [0, 2, 1], 1, 1⟩,
 ⟨⟨none, none, .sto 1 (.t 2) (.t 12)⟩, true, none, false, [3, 0, 2, 1], 1, 1⟩] [])
 (.seq (.reg [⟨(some 13), none, .ld none (.t 3)⟩,
 ⟨(some 14), none, .ld none (.t 6)⟩,
 ⟨(some 15), none, .ex (.mm true (.t 13) (.t 14))⟩,
 ⟨none, none, .sto 1 (.t 3) (.t 15)⟩])
 (.seq (.seq (.reg [⟨(some 16), none, .ld none (.t 2)⟩,
 ⟨(some 17), none, .bin .gtr (.t 16) (.c (.int .i64 2000))⟩,
 ⟨(some 18), none, .mv (.t 17)⟩,
 ⟨(some 19), (some (18, false)), .ld none (.t 3)⟩,
 ⟨(some 20), (some (18, false)), .bin .gtr (.t 19) (.c (.int .i64 60))⟩,
 ⟨(some 21), none, .pick (.t 18) (.c (.bool true)) (.t 20)⟩])
 (.cond (.t 21)
 (.seq (.reg [⟨none, none, .sto 1 (.t 7) (.c (.bool false))⟩])
 (.ret))
 (.skip)))
 (.seq (.seq (.reg [⟨(some 22), none, .ld (some 25) (.t 5)⟩,
 ⟨(some 23), none, .call (.f 179) [(.t 22)]⟩])
 (.block 0 (.rf (.t 23) [24] (rfAt Tryz.f177 0).1 (rfAt Tryz.f177 0).2
 (.reg [⟨(some 8), none, .new (.agg [(.int .i64 0), (.sl true []), (.int .i64 0), (.str ⟨⟨[]⟩⟩), (.sl true []), (.sl true []), (.sl true []), (.sl true []), (.sl true []), (.int .i64 0), (.bool false), (.int .i64 0), (.sl true []), (.sl true []), (.sl true []), (.sl true []), (.int .i64 0), (.sl true []), (.int .i64 0), (.int .i64 0), (.int .i64 0), (.int .i64 0), (.int .i64 0), (.str ⟨⟨[]⟩⟩), (.sl true [])])⟩,
 ⟨none, none, .sto 25 (.t 8) (.t 24)⟩])
 (.block 1 (.seq (.reg [⟨(some 25), none, .ld none (.t 4)⟩,
 ⟨(some 26), none, .ld (some 25) (.t 8)⟩,
 ⟨(some 27), none, .ld none (.t 6)⟩,
 ⟨(some 28), none, .bin .add (.t 27) (.c (.int .i64 1))⟩,
 ⟨(some 29), none, .call (.t 25) [(.t 26), (.t 28)]⟩,
 ⟨(some 30), none, .un .not (.t 29)⟩])
 (.cond (.t 30)
 (.seq (.reg [⟨none, none, .sto 1 (.t 7) (.c (.bool false))⟩])
 (.ret))
 (.skip))))
 31 [24, 4, 8, 6, 27, 25, 26, 28, 29, 30, 7])))
 (.seq (.reg [⟨none, none, .sto 1 (.t 7) (.c (.bool true))⟩])
 (.ret))))))⟩
theorem ok177 : compF Tryz.prog Tryz.f177 = some c177 := by kernel_rfl

-- manorboy/tree.own
noncomputable def c178 : F' := ⟨24, [.t 2],
 .seq (.reg [⟨(some 1), none, .box (.t 0)⟩,
 ⟨(some 2), none, .mv (.c (.int .i64 0))⟩])
 (.seq (.seq (.reg [⟨(some 3), none, .fa 0 (.t 1)⟩,
 ⟨(some 4), none, .ld none (.t 3)⟩])
 (.block 0 (.seq (.reg [⟨(some 6), none, .bin .eql (.t 4) (.c (.int .i64 1))⟩,
 ⟨(some 5), none, .mv (.t 6)⟩])
 (.cond (.t 5)
 (.seq (.reg [⟨(some 7), none, .fa 1 (.t 1)⟩,
 ⟨(some 8), none, .fa 0 (.t 7)⟩,
 ⟨(some 9), none, .ld none (.t 8)⟩,
 ⟨(some 10), none, .len false (.t 9)⟩,
 ⟨(some 11), none, .bin .add (.c (.int .i64 1)) (.t 10)⟩,
 ⟨(some 2), none, .mv (.t 11)⟩])
 (.ret))
 (.seq (.reg [⟨(some 13), none, .bin .eql (.t 4) (.c (.int .i64 2))⟩,
 ⟨(some 12), none, .mv (.t 13)⟩])
 (.cond (.t 12)
 (.seq (.reg [⟨(some 14), none, .fa 9 (.t 1)⟩,
 ⟨(some 15), none, .fa 3 (.t 14)⟩,
 ⟨(some 16), none, .ld none (.t 15)⟩,
 ⟨(some 17), none, .len false (.t 16)⟩,
 ⟨(some 18), none, .bin .add (.c (.int .i64 1)) (.t 17)⟩,
 ⟨(some 19), none, .fa 9 (.t 1)⟩,
 ⟨(some 20), none, .fa 5 (.t 19)⟩,
 ⟨(some 21), none, .ld none (.t 20)⟩,
 ⟨(some 22), none, .len false (.t 21)⟩,
 ⟨(some 23), none, .bin .add (.t 18) (.t 22)⟩,
 ⟨(some 2), none, .mv (.t 23)⟩])
 (.ret))
 (.skip)))))))
 (.seq (.reg [⟨(some 2), none, .mv (.c (.int .i64 1))⟩])
 (.ret)))⟩
theorem ok178 : compF Tryz.prog Tryz.f178 = some c178 := by kernel_rfl

-- manorboy/tree.kids
noncomputable def c179 : F' := ⟨4, [.t 2],
 .seq (.reg [⟨(some 1), none, .box (.t 0)⟩,
 ⟨(some 2), none, .mv (.c .nilfn)⟩])
 (.seq (.reg [⟨(some 3), none, .mkf 202 [] [(.t 1)]⟩,
 ⟨(some 2), none, .mv (.t 3)⟩])
 (.ret))⟩
theorem ok179 : compF Tryz.prog Tryz.f179 = some c179 := by kernel_rfl

-- manorboy/tree.validExp
noncomputable def c180 : F' := ⟨103, [.t 2],
 .seq (.reg [⟨(some 1), none, .box (.t 0)⟩,
 ⟨(some 2), none, .mv (.c (.bool false))⟩])
 (.seq (.reg [⟨(some 8), none, .fa 0 (.t 1)⟩,
 ⟨(some 9), none, .ld none (.t 8)⟩,
 ⟨(some 10), none, .call (.f 208) [(.t 9)]⟩,
 ⟨(some 7), none, .mv (.t 10)⟩,
 ⟨(some 11), none, .ext 0 (.t 7)⟩,
 ⟨(some 12), none, .ext 1 (.t 7)⟩,
 ⟨(some 3), none, .mv (.t 11)⟩,
 ⟨(some 4), none, .mv (.t 12)⟩])
 (.seq (.seq (.reg [⟨(some 13), none, .fa 0 (.t 1)⟩,
 ⟨(some 14), none, .ld none (.t 13)⟩,
 ⟨(some 15), none, .call (.f 209) [(.t 14), (.c (.int .i64 1)), (.c (.int .i64 11))]⟩,
 ⟨(some 16), none, .un .not (.t 15)⟩,
 ⟨(some 17), none, .mv (.t 16)⟩,
 ⟨(some 18), (some (17, false)), .fa 6 (.t 1)⟩,
 ⟨(some 19), (some (17, false)), .ld none (.t 18)⟩,
 ⟨(some 20), (some (17, false)), .len false (.t 19)⟩,
 ⟨(some 21), (some (17, false)), .mv (.t 3)⟩,
 ⟨(some 22), (some (17, false)), .mv (.t 4)⟩,
 ⟨(some 23), (some (17, false)), .call (.f 209) [(.t 20), (.t 21), (.t 22)]⟩,
 ⟨(some 24), (some (17, false)), .un .not (.t 23)⟩,
 ⟨(some 25), none, .pick (.t 17) (.c (.bool true)) (.t 24)⟩])
 (.cond (.t 25)
 (.seq (.reg [⟨(some 2), none, .mv (.c (.bool false))⟩])
 (.ret))
 (.skip)))
 (.seq (.reg [⟨(some 26), none, .ld (some 7) (.t 1)⟩,
 ⟨(some 5), none, .new (.agg [(.int .i64 0), (.int .i64 0), (.int .i64 0), (.int .i64 0), (.int .i64 0), (.str ⟨⟨[]⟩⟩), (.sl true [])])⟩,
 ⟨none, none, .sto 7 (.t 5) (.t 26)⟩])
 (.seq (.reg [⟨(some 27), none, .fa 0 (.t 5)⟩,
 ⟨none, none, .sto 1 (.t 27) (.c (.int .i64 0))⟩,
 ⟨(some 28), none, .fa 6 (.t 5)⟩,
 ⟨none, none, .sto 1 (.t 28) (.c (.sl true []))⟩])
 (.seq (.reg [⟨(some 6), none, .mv (.c (.bool true))⟩])
 (.seq (.seq (.reg [⟨(some 29), none, .fa 0 (.t 1)⟩,
 ⟨(some 30), none, .ld none (.t 29)⟩])
 (.block 0 (.seq (.reg [⟨(some 32), none, .bin .eql (.t 30) (.c (.int .i64 1))⟩,
 ⟨(some 31), none, .mv (.t 32)⟩])
 (.cond (.t 31)
 (.seq (.reg [⟨(some 33), none, .fa 2 (.t 1)⟩,
 ⟨(some 34), none, .ld none (.t 33)⟩,
 ⟨(some 35), none, .call (.f 209) [(.t 34), (.c (.int .i64 0)), (.c (.int .i64 2147483647))]⟩,
 ⟨(some 6), none, .mv (.t 35)⟩])
 (.reg [⟨(some 36), none, .fa 2 (.t 5)⟩,
 ⟨none, none, .sto 1 (.t 36) (.c (.int .i64 0))⟩]))
 (.seq (.reg [⟨(some 38), none, .bin .eql (.t 30) (.c (.int .i64 2))⟩,
 ⟨(some 37), none, .mv (.t 38)⟩])
 (.cond (.t 37)
 (.seq (.reg [⟨(some 39), none, .fa 3 (.t 1)⟩,
 ⟨(some 40), none, .ld (some 2) (.t 39)⟩,
 ⟨(some 41), none, .call (.f 210) [(.t 40)]⟩,
 ⟨(some 42), none, .mv (.t 41)⟩,
 ⟨(some 43), (some (42, true)), .fa 3 (.t 1)⟩,
 ⟨(some 44), (some (42, true)), .fa 0 (.t 43)⟩,
 ⟨(some 45), (some (42, true)), .ld none (.t 44)⟩,
 ⟨(some 46), (some (42, true)), .bin .geq (.t 45) (.c (.int .i64 0))⟩,
 ⟨(some 47), none, .pick (.t 42) (.t 46) (.c (.bool false))⟩,
 ⟨(some 6), none, .mv (.t 47)⟩])
 (.reg [⟨(some 48), none, .build (.agg [(.int .i64 0), (.int .i64 0)]) []⟩,
 ⟨(some 49), none, .fa 3 (.t 5)⟩,
 ⟨none, none, .sto 2 (.t 49) (.t 48)⟩]))
 (.seq (.reg [⟨(some 51), none, .bin .eql (.t 30) (.c (.int .i64 5))⟩,
 ⟨(some 50), none, .mv (.t 51)⟩])
 (.cond (.t 50)
 (.seq (.reg [⟨(some 52), none, .fa 5 (.t 1)⟩,
 ⟨(some 53), none, .ld none (.t 52)⟩,
 ⟨(some 54), none, .call (.f 211) [(.t 53)]⟩,
 ⟨(some 6), none, .mv (.t 54)⟩])
 (.reg [⟨(some 55), none, .fa 5 (.t 5)⟩,
 ⟨none, none, .sto 1 (.t 55) (.c (.str ⟨⟨[]⟩⟩))⟩]))
 (.seq (.seq (.reg [⟨(some 57), none, .bin .eql (.t 30) (.c (.int .i64 6))⟩,
 ⟨(some 56), none, .mv (.t 57)⟩])
 (.cond (.t 56)
 (.skip)
 (.seq (.reg [⟨(some 58), none, .bin .eql (.t 30) (.c (.int .i64 7))⟩,
 ⟨(some 56), none, .mv (.t 58)⟩])
 (.cond (.t 56)
 (.skip)
 (.reg [⟨(some 59), none, .bin .eql (.t 30) (.c (.int .i64 8))⟩,
 ⟨(some 56), none, .mv (.t 59)⟩])))))
 (.cond (.t 56)
 (.seq (.reg [⟨(some 60), none, .fa 5 (.t 1)⟩,
 ⟨(some 61), none, .ld none (.t 60)⟩,
 ⟨(some 62), none, .call (.f 57) [(.t 61)]⟩,
 ⟨(some 6), none, .mv (.t 62)⟩])
 (.reg [⟨(some 63), none, .fa 5 (.t 5)⟩,
 ⟨none, none, .sto 1 (.t 63) (.c (.str ⟨⟨[]⟩⟩))⟩]))
 (.seq (.reg [⟨(some 65), none, .bin .eql (.t 30) (.c (.int .i64 9))⟩,
 ⟨(some 64), none, .mv (.t 65)⟩])
 (.cond (.t 64)
 (.seq (.reg [⟨(some 66), none, .fa 1 (.t 1)⟩,
 ⟨(some 67), none, .ld none (.t 66)⟩,
 ⟨(some 68), none, .bin .eql (.t 67) (.c (.int .i64 1))⟩,
 ⟨(some 69), none, .mv (.t 68)⟩,
 ⟨(some 70), (some (69, false)), .fa 1 (.t 1)⟩,
 ⟨(some 71), (some (69, false)), .ld none (.t 70)⟩,
 ⟨(some 72), (some (69, false)), .bin .eql (.t 71) (.c (.int .i64 2))⟩,
 ⟨(some 73), none, .pick (.t 69) (.c (.bool true)) (.t 72)⟩,
 ⟨(some 6), none, .mv (.t 73)⟩])
 (.reg [⟨(some 74), none, .fa 1 (.t 5)⟩,
 ⟨none, none, .sto 1 (.t 74) (.c (.int .i64 0))⟩]))
 (.seq (.reg [⟨(some 76), none, .bin .eql (.t 30) (.c (.int .i64 10))⟩,
 ⟨(some 75), none, .mv (.t 76)⟩])
 (.cond (.t 75)
 (.seq (.reg [⟨(some 77), none, .fa 1 (.t 1)⟩,
 ⟨(some 78), none, .ld none (.t 77)⟩,
 ⟨(some 79), none, .call (.f 209) [(.t 78), (.c (.int .i64 3)), (.c (.int .i64 18))]⟩,
 ⟨(some 6), none, .mv (.t 79)⟩])
 (.reg [⟨(some 80), none, .fa 1 (.t 5)⟩,
 ⟨none, none, .sto 1 (.t 80) (.c (.int .i64 0))⟩]))
 (.skip)))))))))))))))
 (.seq (.reg [⟨(some 81), none, .mv (.t 6)⟩,
 ⟨(some 82), none, .mv (.t 81)⟩,
 ⟨(some 83), (some (82, true)), .fa 1 (.t 5)⟩,
 ⟨(some 84), (some (82, true)), .ld none (.t 83)⟩,
 ⟨(some 85), (some (82, true)), .bin .eql (.t 84) (.c (.int .i64 0))⟩,
 ⟨(some 86), none, .pick (.t 82) (.t 85) (.c (.bool false))⟩,
 ⟨(some 87), none, .mv (.t 86)⟩,
 ⟨(some 88), (some (87, true)), .fa 2 (.t 5)⟩,
 ⟨(some 89), (some (87, true)), .ld none (.t 88)⟩,
 ⟨(some 90), (some (87, true)), .bin .eql (.t 89) (.c (.int .i64 0))⟩,
 ⟨(some 91), none, .pick (.t 87) (.t 90) (.c (.bool false))⟩,
 ⟨(some 92), none, .mv (.t 91)⟩,
 ⟨(some 93), (some (92, true)), .fa 3 (.t 5)⟩,
 ⟨(some 94), (some (92, true)), .ld (some 2) (.t 93)⟩,
 ⟨(some 95), (some (92, true)), .build (.agg [(.int .i64 0), (.int .i64 0)]) []⟩,
 ⟨(some 96), (some (92, true)), .ex (.eqs false 2 [(0, .i), (1, .i)] (.t 94) (.t 95))⟩,
 ⟨(some 97), none, .pick (.t 92) (.t 96) (.c (.bool false))⟩,
 ⟨(some 98), none, .mv (.t 97)⟩,
 ⟨(some 99), (some (98, true)), .fa 5 (.t 5)⟩,
 ⟨(some 100), (some (98, true)), .ld none (.t 99)⟩,
 ⟨(some 101), (some (98, true)), .bin .eql (.t 100) (.c (.str ⟨⟨[]⟩⟩))⟩,
 ⟨(some 102), none, .pick (.t 98) (.t 101) (.c (.bool false))⟩,
 ⟨(some 2), none, .mv (.t 102)⟩])
 (.ret))))))))⟩
theorem ok180 : compF Tryz.prog Tryz.f180 = some c180 := by kernel_rfl

-- manorboy/tree.validDecl
noncomputable def c182 : F' := ⟨109, [.t 2],
 .seq (.reg [⟨(some 1), none, .box (.t 0)⟩,
 ⟨(some 2), none, .mv (.c (.bool false))⟩])
 (.seq (.reg [⟨(some 9), none, .build (.agg [(.int .i64 0), (.int .i64 0)]) [(0, 0, 1, (.c (.int .i64 1))), (1, 1, 1, (.c (.int .i64 1)))]⟩,
 ⟨(some 10), none, .build (.agg [(.int .i64 0), (.int .i64 0)]) []⟩,
 ⟨(some 11), none, .build (.agg [(.int .i64 0), (.int .i64 0)]) []⟩,
 ⟨(some 12), none, .build (.agg [(.int .i64 0), (.int .i64 0)]) []⟩,
 ⟨(some 3), none, .new (.agg [(.int .i64 0), (.int .i64 0)])⟩,
 ⟨(some 4), none, .new (.agg [(.int .i64 0), (.int .i64 0)])⟩,
 ⟨(some 5), none, .new (.agg [(.int .i64 0), (.int .i64 0)])⟩,
 ⟨(some 6), none, .new (.agg [(.int .i64 0), (.int .i64 0)])⟩,
 ⟨none, none, .sto 2 (.t 3) (.t 9)⟩,
 ⟨none, none, .sto 2 (.t 4) (.t 10)⟩,
 ⟨none, none, .sto 2 (.t 5) (.t 11)⟩,
 ⟨none, none, .sto 2 (.t 6) (.t 12)⟩])
 (.seq (.reg [⟨(some 7), none, .mv (.c (.bool false))⟩,
 ⟨(some 8), none, .mv (.c (.bool false))⟩])
 (.seq (.seq (.reg [⟨(some 13), none, .fa 0 (.t 1)⟩,
 ⟨(some 14), none, .ld none (.t 13)⟩])
 (.block 0 (.seq (.reg [⟨(some 16), none, .bin .eql (.t 14) (.c (.int .i64 1))⟩,
 ⟨(some 15), none, .mv (.t 16)⟩])
 (.cond (.t 15)
 (.reg [⟨(some 17), none, .build (.agg [(.int .i64 0), (.int .i64 0)]) [(0, 0, 1, (.c (.int .i64 1))), (1, 1, 1, (.c (.int .i64 (-1))))]⟩,
 ⟨none, none, .sto 2 (.t 3) (.t 17)⟩,
 ⟨(some 7), none, .mv (.c (.bool true))⟩,
 ⟨(some 8), none, .mv (.c (.bool true))⟩])
 (.seq (.reg [⟨(some 19), none, .bin .eql (.t 14) (.c (.int .i64 2))⟩,
 ⟨(some 18), none, .mv (.t 19)⟩])
 (.cond (.t 18)
 (.reg [⟨(some 20), none, .build (.agg [(.int .i64 0), (.int .i64 0)]) [(0, 0, 1, (.c (.int .i64 1))), (1, 1, 1, (.c (.int .i64 (-1))))]⟩,
 ⟨(some 21), none, .build (.agg [(.int .i64 0), (.int .i64 0)]) [(0, 0, 1, (.c (.int .i64 2))), (1, 1, 1, (.c (.int .i64 8)))]⟩,
 ⟨none, none, .sto 2 (.t 3) (.t 20)⟩,
 ⟨none, none, .sto 2 (.t 4) (.t 21)⟩,
 ⟨(some 7), none, .mv (.c (.bool true))⟩,
 ⟨(some 8), none, .mv (.c (.bool true))⟩])
 (.seq (.reg [⟨(some 23), none, .bin .eql (.t 14) (.c (.int .i64 3))⟩,
 ⟨(some 22), none, .mv (.t 23)⟩])
 (.cond (.t 22)
 (.reg [⟨(some 24), none, .build (.agg [(.int .i64 0), (.int .i64 0)]) [(0, 0, 1, (.c (.int .i64 1))), (1, 1, 1, (.c (.int .i64 (-1))))]⟩,
 ⟨none, none, .sto 2 (.t 4) (.t 24)⟩])
 (.seq (.reg [⟨(some 26), none, .bin .eql (.t 14) (.c (.int .i64 4))⟩,
 ⟨(some 25), none, .mv (.t 26)⟩])
 (.cond (.t 25)
 (.reg [⟨(some 27), none, .build (.agg [(.int .i64 0), (.int .i64 0)]) [(0, 0, 1, (.c (.int .i64 1))), (1, 1, 1, (.c (.int .i64 1)))]⟩,
 ⟨(some 28), none, .build (.agg [(.int .i64 0), (.int .i64 0)]) [(0, 0, 1, (.c (.int .i64 0))), (1, 1, 1, (.c (.int .i64 8)))]⟩,
 ⟨none, none, .sto 2 (.t 5) (.t 27)⟩,
 ⟨none, none, .sto 2 (.t 6) (.t 28)⟩])
 (.seq (.reg [⟨(some 2), none, .mv (.c (.bool false))⟩])
 (.ret))))))))))))
 (.seq (.seq (.reg [⟨(some 29), none, .ld (some 2) (.t 3)⟩,
 ⟨(some 30), none, .fa 3 (.t 1)⟩,
 ⟨(some 31), none, .ld none (.t 30)⟩,
 ⟨(some 32), none, .len false (.t 31)⟩,
 ⟨(some 33), none, .call (.f 212) [(.t 29), (.t 32)]⟩,
 ⟨(some 34), none, .un .not (.t 33)⟩,
 ⟨(some 35), none, .mv (.t 34)⟩,
 ⟨(some 36), (some (35, false)), .ld (some 2) (.t 4)⟩,
 ⟨(some 37), (some (35, false)), .fa 4 (.t 1)⟩,
 ⟨(some 38), (some (35, false)), .ld none (.t 37)⟩,
 ⟨(some 39), (some (35, false)), .len false (.t 38)⟩,
 ⟨(some 40), (some (35, false)), .call (.f 212) [(.t 36), (.t 39)]⟩,
 ⟨(some 41), (some (35, false)), .un .not (.t 40)⟩,
 ⟨(some 42), none, .pick (.t 35) (.c (.bool true)) (.t 41)⟩,
 ⟨(some 43), none, .mv (.t 42)⟩,
 ⟨(some 44), (some (43, false)), .ld (some 2) (.t 5)⟩,
 ⟨(some 45), (some (43, false)), .fa 6 (.t 1)⟩,
 ⟨(some 46), (some (43, false)), .ld none (.t 45)⟩,
 ⟨(some 47), (some (43, false)), .len false (.t 46)⟩,
 ⟨(some 48), (some (43, false)), .call (.f 212) [(.t 44), (.t 47)]⟩,
 ⟨(some 49), (some (43, false)), .un .not (.t 48)⟩,
 ⟨(some 50), none, .pick (.t 43) (.c (.bool true)) (.t 49)⟩,
 ⟨(some 51), none, .mv (.t 50)⟩,
 ⟨(some 52), (some (51, false)), .ld (some 2) (.t 6)⟩,
 ⟨(some 53), (some (51, false)), .fa 5 (.t 1)⟩,
 ⟨(some 54), (some (51, false)), .ld none (.t 53)⟩,
 ⟨(some 55), (some (51, false)), .len false (.t 54)⟩,
 ⟨(some 56), (some (51, false)), .call (.f 212) [(.t 52), (.t 55)]⟩,
 ⟨(some 57), (some (51, false)), .un .not (.t 56)⟩,
 ⟨(some 58), none, .pick (.t 51) (.c (.bool true)) (.t 57)⟩,
 ⟨(some 59), none, .mv (.t 58)⟩,
 ⟨(some 60), (some (59, false)), .fa 3 (.t 1)⟩,
 ⟨(some 61), (some (59, false)), .ld none (.t 60)⟩,
 ⟨(some 62), (some (59, false)), .call (.f 213) [(.t 61)]⟩,
 ⟨(some 63), (some (59, false)), .un .not (.t 62)⟩,
 ⟨(some 64), none, .pick (.t 59) (.c (.bool true)) (.t 63)⟩])
 (.cond (.t 64)
 (.seq (.reg [⟨(some 2), none, .mv (.c (.bool false))⟩])
 (.ret))
 (.skip)))
 (.seq (.seq (.reg [⟨(some 65), none, .fa 1 (.t 1)⟩,
 ⟨(some 66), none, .ld none (.t 65)⟩,
 ⟨(some 67), none, .mv (.t 66)⟩,
 ⟨(some 68), (some (67, true)), .mv (.t 8)⟩,
 ⟨(some 69), (some (67, true)), .un .not (.t 68)⟩,
 ⟨(some 70), none, .pick (.t 67) (.t 69) (.c (.bool false))⟩,
 ⟨(some 71), none, .mv (.t 70)⟩,
 ⟨(some 72), (some (71, false)), .mv (.t 7)⟩,
 ⟨(some 73), (some (71, false)), .mv (.t 72)⟩,
 ⟨(some 74), (some (73, true)), .fa 2 (.t 1)⟩,
 ⟨(some 75), (some (73, true)), .ld none (.t 74)⟩,
 ⟨(some 76), (some (73, true)), .call (.f 209) [(.t 75), (.c (.int .i64 1)), (.c (.int .i64 3))]⟩,
 ⟨(some 77), (some (73, true)), .un .not (.t 76)⟩,
 ⟨(some 78), (some (71, false)), .pick (.t 73) (.t 77) (.c (.bool false))⟩,
 ⟨(some 79), none, .pick (.t 71) (.c (.bool true)) (.t 78)⟩,
 ⟨(some 80), none, .mv (.t 79)⟩,
 ⟨(some 81), (some (80, false)), .fa 0 (.t 1)⟩,
 ⟨(some 82), (some (80, false)), .ld none (.t 81)⟩,
 ⟨(some 83), (some (80, false)), .bin .eql (.t 82) (.c (.int .i64 3))⟩,
 ⟨(some 84), (some (80, false)), .mv (.t 83)⟩,
 ⟨(some 85), (some (84, true)), .fa 2 (.t 1)⟩,
 ⟨(some 86), (some (84, true)), .ld none (.t 85)⟩,
 ⟨(some 87), (some (84, true)), .bin .neq (.t 86) (.c (.int .i64 0))⟩,
 ⟨(some 88), (some (80, false)), .pick (.t 84) (.t 87) (.c (.bool false))⟩,
 ⟨(some 89), none, .pick (.t 80) (.c (.bool true)) (.t 88)⟩,
 ⟨(some 90), none, .mv (.t 89)⟩,
 ⟨(some 91), (some (90, false)), .fa 2 (.t 1)⟩,
 ⟨(some 92), (some (90, false)), .ld none (.t 91)⟩,
 ⟨(some 93), (some (90, false)), .call (.f 209) [(.t 92), (.c (.int .i64 0)), (.c (.int .i64 3))]⟩,
 ⟨(some 94), (some (90, false)), .un .not (.t 93)⟩,
 ⟨(some 95), none, .pick (.t 90) (.c (.bool true)) (.t 94)⟩])
 (.cond (.t 95)
 (.seq (.reg [⟨(some 2), none, .mv (.c (.bool false))⟩])
 (.ret))
 (.skip)))
 (.seq (.seq (.reg [⟨(some 96), none, .fa 0 (.t 1)⟩,
 ⟨(some 97), none, .ld none (.t 96)⟩,
 ⟨(some 98), none, .bin .eql (.t 97) (.c (.int .i64 2))⟩,
 ⟨(some 99), none, .mv (.t 98)⟩,
 ⟨(some 100), (some (99, true)), .fa 4 (.t 1)⟩,
 ⟨(some 101), (some (99, true)), .ld none (.t 100)⟩,
 ⟨(some 102), (some (99, true)), .len false (.t 101)⟩,
 ⟨(some 103), (some (99, true)), .bin .rem (.t 102) (.c (.int .i64 2))⟩,
 ⟨(some 104), (some (99, true)), .bin .neq (.t 103) (.c (.int .i64 0))⟩,
 ⟨(some 105), none, .pick (.t 99) (.t 104) (.c (.bool false))⟩])
 (.cond (.t 105)
 (.seq (.reg [⟨(some 2), none, .mv (.c (.bool false))⟩])
 (.ret))
 (.skip)))
 (.seq (.reg [⟨(some 106), none, .fa 5 (.t 1)⟩,
 ⟨(some 107), none, .ld none (.t 106)⟩,
 ⟨(some 108), none, .call (.f 214) [(.t 107)]⟩,
 ⟨(some 2), none, .mv (.t 108)⟩])
 (.ret))))))))⟩
theorem ok182 : compF Tryz.prog Tryz.f182 = some c182 := by kernel_rfl

-- manorboy/tree.validStmt
noncomputable def c183 : F' := ⟨122, [.t 2],
 .seq (.reg [⟨(some 1), none, .box (.t 0)⟩,
 ⟨(some 2), none, .mv (.c (.bool false))⟩])
 (.seq (.reg [⟨(some 3), none, .new (.agg [(.int .i64 0), (.int .i64 0)])⟩,
 ⟨(some 4), none, .new (.agg [(.int .i64 0), (.int .i64 0)])⟩,
 ⟨(some 5), none, .new (.agg [(.int .i64 0), (.int .i64 0)])⟩,
 ⟨(some 6), none, .new (.agg [(.int .i64 0), (.int .i64 0)])⟩,
 ⟨(some 7), none, .new (.agg [(.int .i64 0), (.int .i64 0)])⟩])
 (.seq (.reg [⟨(some 8), none, .mv (.c (.bool false))⟩])
 (.seq (.seq (.reg [⟨(some 9), none, .fa 1 (.t 1)⟩,
 ⟨(some 10), none, .ld none (.t 9)⟩])
 (.block 0 (.seq (.reg [⟨(some 12), none, .bin .eql (.t 10) (.c (.int .i64 1))⟩,
 ⟨(some 11), none, .mv (.t 12)⟩])
 (.cond (.t 11)
 (.skip)
 (.seq (.reg [⟨(some 14), none, .bin .eql (.t 10) (.c (.int .i64 2))⟩,
 ⟨(some 13), none, .mv (.t 14)⟩])
 (.cond (.t 13)
 (.reg [⟨(some 15), none, .build (.agg [(.int .i64 0), (.int .i64 0)]) [(0, 0, 1, (.c (.int .i64 1))), (1, 1, 1, (.c (.int .i64 (-1))))]⟩,
 ⟨(some 16), none, .build (.agg [(.int .i64 0), (.int .i64 0)]) [(0, 0, 1, (.c (.int .i64 1))), (1, 1, 1, (.c (.int .i64 1)))]⟩,
 ⟨none, none, .sto 2 (.t 3) (.t 15)⟩,
 ⟨none, none, .sto 2 (.t 4) (.t 16)⟩])
 (.seq (.reg [⟨(some 18), none, .bin .eql (.t 10) (.c (.int .i64 3))⟩,
 ⟨(some 17), none, .mv (.t 18)⟩])
 (.cond (.t 17)
 (.reg [⟨(some 19), none, .build (.agg [(.int .i64 0), (.int .i64 0)]) [(0, 0, 1, (.c (.int .i64 1))), (1, 1, 1, (.c (.int .i64 1)))]⟩,
 ⟨none, none, .sto 2 (.t 4) (.t 19)⟩])
 (.seq (.reg [⟨(some 21), none, .bin .eql (.t 10) (.c (.int .i64 4))⟩,
 ⟨(some 20), none, .mv (.t 21)⟩])
 (.cond (.t 20)
 (.reg [⟨(some 22), none, .build (.agg [(.int .i64 0), (.int .i64 0)]) [(0, 0, 1, (.c (.int .i64 1))), (1, 1, 1, (.c (.int .i64 1)))]⟩,
 ⟨(some 23), none, .build (.agg [(.int .i64 0), (.int .i64 0)]) [(0, 0, 1, (.c (.int .i64 1))), (1, 1, 1, (.c (.int .i64 2)))]⟩,
 ⟨none, none, .sto 2 (.t 4) (.t 22)⟩,
 ⟨none, none, .sto 2 (.t 7) (.t 23)⟩])
 (.seq (.reg [⟨(some 25), none, .bin .eql (.t 10) (.c (.int .i64 5))⟩,
 ⟨(some 24), none, .mv (.t 25)⟩])
 (.cond (.t 24)
 (.reg [⟨(some 26), none, .build (.agg [(.int .i64 0), (.int .i64 0)]) [(0, 0, 1, (.c (.int .i64 1))), (1, 1, 1, (.c (.int .i64 1)))]⟩,
 ⟨(some 27), none, .build (.agg [(.int .i64 0), (.int .i64 0)]) [(0, 0, 1, (.c (.int .i64 1))), (1, 1, 1, (.c (.int .i64 (-1))))]⟩,
 ⟨(some 28), none, .build (.agg [(.int .i64 0), (.int .i64 0)]) [(0, 0, 1, (.c (.int .i64 1))), (1, 1, 1, (.c (.int .i64 1)))]⟩,
 ⟨none, none, .sto 2 (.t 3) (.t 26)⟩,
 ⟨none, none, .sto 2 (.t 5) (.t 27)⟩,
 ⟨none, none, .sto 2 (.t 7) (.t 28)⟩])
 (.seq (.reg [⟨(some 30), none, .bin .eql (.t 10) (.c (.int .i64 6))⟩,
 ⟨(some 29), none, .mv (.t 30)⟩])
 (.cond (.t 29)
 (.reg [⟨(some 31), none, .build (.agg [(.int .i64 0), (.int .i64 0)]) [(0, 0, 1, (.c (.int .i64 0))), (1, 1, 1, (.c (.int .i64 8)))]⟩,
 ⟨(some 8), none, .mv (.c (.bool true))⟩,
 ⟨none, none, .sto 2 (.t 4) (.t 31)⟩])
 (.seq (.reg [⟨(some 33), none, .bin .eql (.t 10) (.c (.int .i64 7))⟩,
 ⟨(some 32), none, .mv (.t 33)⟩])
 (.cond (.t 32)
 (.reg [⟨(some 34), none, .build (.agg [(.int .i64 0), (.int .i64 0)]) [(0, 0, 1, (.c (.int .i64 1))), (1, 1, 1, (.c (.int .i64 (-1))))]⟩,
 ⟨(some 35), none, .build (.agg [(.int .i64 0), (.int .i64 0)]) [(0, 0, 1, (.c (.int .i64 1))), (1, 1, 1, (.c (.int .i64 (-1))))]⟩,
 ⟨none, none, .sto 2 (.t 6) (.t 34)⟩,
 ⟨none, none, .sto 2 (.t 7) (.t 35)⟩])
 (.seq (.reg [⟨(some 37), none, .bin .eql (.t 10) (.c (.int .i64 8))⟩,
 ⟨(some 36), none, .mv (.t 37)⟩])
 (.cond (.t 36)
 (.reg [⟨(some 38), none, .build (.agg [(.int .i64 0), (.int .i64 0)]) [(0, 0, 1, (.c (.int .i64 1))), (1, 1, 1, (.c (.int .i64 (-1))))]⟩,
 ⟨none, none, .sto 2 (.t 7) (.t 38)⟩])
 (.seq (.reg [⟨(some 2), none, .mv (.c (.bool false))⟩])
 (.ret))))))))))))))))))))
 (.seq (.seq (.reg [⟨(some 39), none, .ld (some 2) (.t 3)⟩,
 ⟨(some 40), none, .fa 3 (.t 1)⟩,
 ⟨(some 41), none, .ld none (.t 40)⟩,
 ⟨(some 42), none, .len false (.t 41)⟩,
 ⟨(some 43), none, .call (.f 212) [(.t 39), (.t 42)]⟩,
 ⟨(some 44), none, .un .not (.t 43)⟩,
 ⟨(some 45), none, .mv (.t 44)⟩,
 ⟨(some 46), (some (45, false)), .ld (some 2) (.t 4)⟩,
 ⟨(some 47), (some (45, false)), .fa 4 (.t 1)⟩,
 ⟨(some 48), (some (45, false)), .ld none (.t 47)⟩,
 ⟨(some 49), (some (45, false)), .len false (.t 48)⟩,
 ⟨(some 50), (some (45, false)), .call (.f 212) [(.t 46), (.t 49)]⟩,
 ⟨(some 51), (some (45, false)), .un .not (.t 50)⟩,
 ⟨(some 52), none, .pick (.t 45) (.c (.bool true)) (.t 51)⟩,
 ⟨(some 53), none, .mv (.t 52)⟩,
 ⟨(some 54), (some (53, false)), .ld (some 2) (.t 5)⟩,
 ⟨(some 55), (some (53, false)), .fa 5 (.t 1)⟩,
 ⟨(some 56), (some (53, false)), .ld none (.t 55)⟩,
 ⟨(some 57), (some (53, false)), .len false (.t 56)⟩,
 ⟨(some 58), (some (53, false)), .call (.f 212) [(.t 54), (.t 57)]⟩,
 ⟨(some 59), (some (53, false)), .un .not (.t 58)⟩,
 ⟨(some 60), none, .pick (.t 53) (.c (.bool true)) (.t 59)⟩,
 ⟨(some 61), none, .mv (.t 60)⟩,
 ⟨(some 62), (some (61, false)), .ld (some 2) (.t 6)⟩,
 ⟨(some 63), (some (61, false)), .fa 6 (.t 1)⟩,
 ⟨(some 64), (some (61, false)), .ld none (.t 63)⟩,
 ⟨(some 65), (some (61, false)), .len false (.t 64)⟩,
 ⟨(some 66), (some (61, false)), .call (.f 212) [(.t 62), (.t 65)]⟩,
 ⟨(some 67), (some (61, false)), .un .not (.t 66)⟩,
 ⟨(some 68), none, .pick (.t 61) (.c (.bool true)) (.t 67)⟩,
 ⟨(some 69), none, .mv (.t 68)⟩,
 ⟨(some 70), (some (69, false)), .ld (some 2) (.t 7)⟩,
 ⟨(some 71), (some (69, false)), .fa 7 (.t 1)⟩,
 ⟨(some 72), (some (69, false)), .ld none (.t 71)⟩,
 ⟨(some 73), (some (69, false)), .len false (.t 72)⟩,
 ⟨(some 74), (some (69, false)), .call (.f 212) [(.t 70), (.t 73)]⟩,
 ⟨(some 75), (some (69, false)), .un .not (.t 74)⟩,
 ⟨(some 76), none, .pick (.t 69) (.c (.bool true)) (.t 75)⟩])
 (.cond (.t 76)
 (.seq (.reg [⟨(some 2), none, .mv (.c (.bool false))⟩])
 (.ret))
 (.skip)))
 (.seq (.seq (.reg [⟨(some 77), none, .mv (.t 8)⟩,
 ⟨(some 78), none, .fa 2 (.t 1)⟩,
 ⟨(some 79), none, .ld none (.t 78)⟩,
 ⟨(some 80), none, .bin .neq (.t 79) (.c (.str ⟨⟨[]⟩⟩))⟩,
 ⟨(some 81), none, .eq .bool true (.t 77) (.t 80)⟩,
 ⟨(some 82), none, .mv (.t 81)⟩,
 ⟨(some 83), (some (82, false)), .mv (.t 8)⟩,
 ⟨(some 84), (some (82, false)), .mv (.t 83)⟩,
 ⟨(some 85), (some (84, true)), .fa 2 (.t 1)⟩,
 ⟨(some 86), (some (84, true)), .ld none (.t 85)⟩,
 ⟨(some 87), (some (84, true)), .call (.f 57) [(.t 86)]⟩,
 ⟨(some 88), (some (84, true)), .un .not (.t 87)⟩,
 ⟨(some 89), (some (82, false)), .pick (.t 84) (.t 88) (.c (.bool false))⟩,
 ⟨(some 90), none, .pick (.t 82) (.c (.bool true)) (.t 89)⟩,
 ⟨(some 91), none, .mv (.t 90)⟩,
 ⟨(some 92), (some (91, false)), .fa 0 (.t 1)⟩,
 ⟨(some 93), (some (91, false)), .ld none (.t 92)⟩,
 ⟨(some 94), (some (91, false)), .call (.f 213) [(.t 93)]⟩,
 ⟨(some 95), (some (91, false)), .un .not (.t 94)⟩,
 ⟨(some 96), none, .pick (.t 91) (.c (.bool true)) (.t 95)⟩,
 ⟨(some 97), none, .mv (.t 96)⟩,
 ⟨(some 98), (some (97, false)), .fa 3 (.t 1)⟩,
 ⟨(some 99), (some (97, false)), .ld none (.t 98)⟩,
 ⟨(some 100), (some (97, false)), .call (.f 215) [(.t 99)]⟩,
 ⟨(some 101), (some (97, false)), .un .not (.t 100)⟩,
 ⟨(some 102), none, .pick (.t 97) (.c (.bool true)) (.t 101)⟩])
 (.cond (.t 102)
 (.seq (.reg [⟨(some 2), none, .mv (.c (.bool false))⟩])
 (.ret))
 (.skip)))
 (.seq (.reg [⟨(some 103), none, .fa 1 (.t 1)⟩,
 ⟨(some 104), none, .ld none (.t 103)⟩,
 ⟨(some 105), none, .bin .neq (.t 104) (.c (.int .i64 4))⟩,
 ⟨(some 106), none, .mv (.t 105)⟩,
 ⟨(some 107), (some (106, false)), .fa 7 (.t 1)⟩,
 ⟨(some 108), (some (106, false)), .ld none (.t 107)⟩,
 ⟨(some 109), (some (106, false)), .ia 8 (.t 108) (.c (.int .i64 0))⟩,
 ⟨(some 110), (some (106, false)), .fa 1 (.t 109)⟩,
 ⟨(some 111), (some (106, false)), .ld none (.t 110)⟩,
 ⟨(some 112), (some (106, false)), .bin .neq (.t 111) (.c (.int .i64 4))⟩,
 ⟨(some 113), (some (106, false)), .mv (.t 112)⟩,
 ⟨(some 114), (some (113, true)), .fa 7 (.t 1)⟩,
 ⟨(some 115), (some (113, true)), .ld none (.t 114)⟩,
 ⟨(some 116), (some (113, true)), .ia 8 (.t 115) (.c (.int .i64 0))⟩,
 ⟨(some 117), (some (113, true)), .fa 1 (.t 116)⟩,
 ⟨(some 118), (some (113, true)), .ld none (.t 117)⟩,
 ⟨(some 119), (some (113, true)), .bin .neq (.t 118) (.c (.int .i64 5))⟩,
 ⟨(some 120), (some (106, false)), .pick (.t 113) (.t 119) (.c (.bool false))⟩,
 ⟨(some 121), none, .pick (.t 106) (.c (.bool true)) (.t 120)⟩,
 ⟨(some 2), none, .mv (.t 121)⟩])
 (.ret)))))))⟩
theorem ok183 : compF Tryz.prog Tryz.f183 = some c183 := by kernel_rfl

-- slices.Index[[]string,string]
noncomputable def c184 : F' := ⟨19, [.t 4],
 .seq (.reg [⟨(some 4), none, .mv (.c (.int .i64 0))⟩])
 (.seq (.seq (.reg [⟨(some 6), none, .mv (.t 0)⟩,
 ⟨(some 7), none, .len false (.t 6)⟩,
 ⟨(some 8), none, .mv (.c (.int .i64 0))⟩])
 (.block 0 (.loop (.seq (.reg [⟨(some 9), none, .bin .lss (.t 8) (.t 7)⟩])
 (.seq (.cond (.t 9)
 (.skip)
 (.exit 0))
 (.seq (.block 1 (.seq (.reg [⟨(some 10), none, .mv (.t 8)⟩,
 ⟨(some 5), none, .mv (.t 10)⟩])
 (.seq (.reg [⟨(some 11), none, .mv (.t 1)⟩,
 ⟨(some 12), none, .mv (.t 0)⟩,
 ⟨(some 13), none, .mv (.t 5)⟩,
 ⟨(some 14), none, .ia 1 (.t 12) (.t 13)⟩,
 ⟨(some 15), none, .ld none (.t 14)⟩,
 ⟨(some 16), none, .bin .eql (.t 11) (.t 15)⟩])
 (.cond (.t 16)
 (.seq (.reg [⟨(some 17), none, .mv (.t 5)⟩,
 ⟨(some 4), none, .mv (.t 17)⟩])
 (.ret))
 (.skip)))))
 (.reg [⟨(some 18), none, .bin .add (.t 8) (.c (.int .i64 1))⟩,
 ⟨(some 8), none, .mv (.t 18)⟩])))))))
 (.seq (.reg [⟨(some 4), none, .mv (.c (.int .i64 (-1)))⟩])
 (.ret)))⟩
theorem ok184 : compF Tryz.prog Tryz.f184 = some c184 := by kernel_rfl

-- strings.Fields
noncomputable def c185 : F' := ⟨106, [.t 2],
 .seq (.reg [⟨(some 2), none, .mv (.c (.sl true []))⟩])
 (.seq (.reg [⟨(some 3), none, .mv (.c (.int .i64 0))⟩])
 (.seq (.reg [⟨(some 4), none, .mv (.c (.int .i64 1))⟩])
 (.seq (.reg [⟨(some 5), none, .mv (.c (.int .u8 0))⟩])
 (.seq (.seq (.reg [⟨(some 6), none, .mv (.c (.int .i64 0))⟩])
 (.block 0 (.loop (.seq (.seq (.reg [⟨(some 13), none, .mv (.t 6)⟩,
 ⟨(some 14), none, .mv (.t 0)⟩,
 ⟨(some 15), none, .len true (.t 14)⟩,
 ⟨(some 16), none, .bin .lss (.t 13) (.t 15)⟩])
 (.cond (.t 16)
 (.skip)
 (.exit 0)))
 (.seq (.block 1 (.seq (.reg [⟨(some 19), none, .mv (.t 0)⟩,
 ⟨(some 20), none, .mv (.t 6)⟩,
 ⟨(some 21), none, .idx (.t 19) (.t 20)⟩,
 ⟨(some 7), none, .mv (.t 21)⟩])
 (.seq (.reg [⟨(some 22), none, .mv (.t 5)⟩,
 ⟨(some 23), none, .mv (.t 7)⟩,
 ⟨(some 24), none, .bin .or (.t 22) (.t 23)⟩,
 ⟨(some 5), none, .mv (.t 24)⟩])
 (.seq (.reg [⟨(some 25), none, .mv (.t 7)⟩,
 ⟨(some 26), none, .ex (.iaa 256 1 (.c (.glob 0 0)) (.t 25))⟩,
 ⟨(some 27), none, .ld none (.t 26)⟩,
 ⟨(some 28), none, .conv .i64 (.t 27)⟩,
 ⟨(some 8), none, .mv (.t 28)⟩])
 (.seq (.reg [⟨(some 29), none, .mv (.t 3)⟩,
 ⟨(some 30), none, .mv (.t 4)⟩,
 ⟨(some 31), none, .mv (.t 8)⟩,
 ⟨(some 32), none, .un .xor (.t 31)⟩,
 ⟨(some 33), none, .bin .and (.t 30) (.t 32)⟩,
 ⟨(some 34), none, .bin .add (.t 29) (.t 33)⟩,
 ⟨(some 3), none, .mv (.t 34)⟩])
 (.reg [⟨(some 35), none, .mv (.t 8)⟩,
 ⟨(some 4), none, .mv (.t 35)⟩]))))))
 (.reg [⟨(some 17), none, .mv (.t 6)⟩,
 ⟨(some 18), none, .bin .add (.t 17) (.c (.int .i64 1))⟩,
 ⟨(some 6), none, .mv (.t 18)⟩]))))))
 (.seq (.seq (.reg [⟨(some 36), none, .mv (.t 5)⟩,
 ⟨(some 37), none, .bin .geq (.t 36) (.c (.int .u8 128))⟩])
 (.cond (.t 37)
 (.seq (.reg [⟨(some 38), none, .mv (.t 0)⟩,
 ⟨(some 39), none, .call (.f 216) [(.t 38), (.f 217)]⟩,
 ⟨(some 2), none, .mv (.t 39)⟩])
 (.ret))
 (.skip)))
 (.seq (.reg [⟨(some 40), none, .mv (.t 3)⟩,
 ⟨(some 41), none, .ex (.mks 1 16 (.str ⟨⟨[]⟩⟩) (.t 40) (.t 40))⟩,
 ⟨(some 9), none, .mv (.t 41)⟩])
 (.seq (.reg [⟨(some 10), none, .mv (.c (.int .i64 0))⟩])
 (.seq (.reg [⟨(some 11), none, .mv (.c (.int .i64 0))⟩])
 (.seq (.reg [⟨(some 12), none, .mv (.c (.int .i64 0))⟩])
 (.seq (.block 2 (.loop (.seq (.seq (.reg [⟨(some 42), none, .mv (.t 12)⟩,
 ⟨(some 43), none, .mv (.t 0)⟩,
 ⟨(some 44), none, .len true (.t 43)⟩,
 ⟨(some 45), none, .bin .lss (.t 42) (.t 44)⟩,
 ⟨(some 46), none, .mv (.t 45)⟩,
 ⟨(some 47), (some (46, true)), .mv (.t 0)⟩,
 ⟨(some 48), (some (46, true)), .mv (.t 12)⟩,
 ⟨(some 49), (some (46, true)), .idx (.t 47) (.t 48)⟩,
 ⟨(some 50), (some (46, true)), .ex (.iaa 256 1 (.c (.glob 0 0)) (.t 49))⟩,
 ⟨(some 51), (some (46, true)), .ld none (.t 50)⟩,
 ⟨(some 52), (some (46, true)), .bin .neq (.t 51) (.c (.int .u8 0))⟩,
 ⟨(some 53), none, .pick (.t 46) (.t 52) (.c (.bool false))⟩])
 (.cond (.t 53)
 (.skip)
 (.exit 2)))
 (.block 3 (.reg [⟨(some 54), none, .mv (.t 12)⟩,
 ⟨(some 55), none, .bin .add (.t 54) (.c (.int .i64 1))⟩,
 ⟨(some 12), none, .mv (.t 55)⟩])))))
 (.seq (.reg [⟨(some 56), none, .mv (.t 12)⟩,
 ⟨(some 11), none, .mv (.t 56)⟩])
 (.seq (.block 4 (.loop (.seq (.seq (.reg [⟨(some 57), none, .mv (.t 12)⟩,
 ⟨(some 58), none, .mv (.t 0)⟩,
 ⟨(some 59), none, .len true (.t 58)⟩,
 ⟨(some 60), none, .bin .lss (.t 57) (.t 59)⟩])
 (.cond (.t 60)
 (.skip)
 (.exit 4)))
 (.block 5 (.seq (.seq (.reg [⟨(some 61), none, .mv (.t 0)⟩,
 ⟨(some 62), none, .mv (.t 12)⟩,
 ⟨(some 63), none, .idx (.t 61) (.t 62)⟩,
 ⟨(some 64), none, .ex (.iaa 256 1 (.c (.glob 0 0)) (.t 63))⟩,
 ⟨(some 65), none, .ld none (.t 64)⟩,
 ⟨(some 66), none, .bin .eql (.t 65) (.c (.int .u8 0))⟩])
 (.cond (.t 66)
 (.seq (.reg [⟨(some 67), none, .mv (.t 12)⟩,
 ⟨(some 68), none, .bin .add (.t 67) (.c (.int .i64 1))⟩,
 ⟨(some 12), none, .mv (.t 68)⟩])
 (.exit 5))
 (.skip)))
 (.seq (.reg [⟨(some 69), none, .mv (.t 9)⟩,
 ⟨(some 70), none, .mv (.t 10)⟩,
 ⟨(some 71), none, .mv (.t 0)⟩,
 ⟨(some 72), none, .mv (.t 11)⟩,
 ⟨(some 73), none, .mv (.t 12)⟩,
 ⟨(some 74), none, .slc true 0 (.t 71) (some (.t 72)) (some (.t 73))⟩,
 ⟨(some 75), none, .ia 1 (.t 69) (.t 70)⟩,
 ⟨none, none, .sto 1 (.t 75) (.t 74)⟩])
 (.seq (.reg [⟨(some 76), none, .mv (.t 10)⟩,
 ⟨(some 77), none, .bin .add (.t 76) (.c (.int .i64 1))⟩,
 ⟨(some 10), none, .mv (.t 77)⟩])
 (.seq (.reg [⟨(some 78), none, .mv (.t 12)⟩,
 ⟨(some 79), none, .bin .add (.t 78) (.c (.int .i64 1))⟩,
 ⟨(some 12), none, .mv (.t 79)⟩])
 (.seq (.block 6 (.loop (.seq (.seq (.reg [⟨(some 80), none, .mv (.t 12)⟩,
 ⟨(some 81), none, .mv (.t 0)⟩,
 ⟨(some 82), none, .len true (.t 81)⟩,
 ⟨(some 83), none, .bin .lss (.t 80) (.t 82)⟩,
 ⟨(some 84), none, .mv (.t 83)⟩,
 ⟨(some 85), (some (84, true)), .mv (.t 0)⟩,
 ⟨(some 86), (some (84, true)), .mv (.t 12)⟩,
 ⟨(some 87), (some (84, true)), .idx (.t 85) (.t 86)⟩,
 ⟨(some 88), (some (84, true)), .ex (.iaa 256 1 (.c (.glob 0 0)) (.t 87))⟩,
 ⟨(some 89), (some (84, true)), .ld none (.t 88)⟩,
 ⟨(some 90), (some (84, true)), .bin .neq (.t 89) (.c (.int .u8 0))⟩,
 ⟨(some 91), none, .pick (.t 84) (.t 90) (.c (.bool false))⟩])
 (.cond (.t 91)
 (.skip)
 (.exit 6)))
 (.block 7 (.reg [⟨(some 92), none, .mv (.t 12)⟩,
 ⟨(some 93), none, .bin .add (.t 92) (.c (.int .i64 1))⟩,
 ⟨(some 12), none, .mv (.t 93)⟩])))))
 (.reg [⟨(some 94), none, .mv (.t 12)⟩,
 ⟨(some 11), none, .mv (.t 94)⟩]))))))))))
 (.seq (.seq (.reg [⟨(some 95), none, .mv (.t 11)⟩,
 ⟨(some 96), none, .mv (.t 0)⟩,
 ⟨(some 97), none, .len true (.t 96)⟩,
 ⟨(some 98), none, .bin .lss (.t 95) (.t 97)⟩])
 (.cond (.t 98)
 (.reg [⟨(some 99), none, .mv (.t 9)⟩,
 ⟨(some 100), none, .mv (.t 10)⟩,
 ⟨(some 101), none, .mv (.t 0)⟩,
 ⟨(some 102), none, .mv (.t 11)⟩,
 ⟨(some 103), none, .slc true 0 (.t 101) (some (.t 102)) none⟩,
 ⟨(some 104), none, .ia 1 (.t 99) (.t 100)⟩,
 ⟨none, none, .sto 1 (.t 104) (.t 103)⟩])
 (.skip)))
 (.seq (.reg [⟨(some 105), none, .mv (.t 9)⟩,
 ⟨(some 2), none, .mv (.t 105)⟩])
 (.ret)))))))))))))))⟩
theorem ok185 : compF Tryz.prog Tryz.f185 = some c185 := by kernel_rfl

-- (*manorboy/copyrule.walker).stmt
noncomputable def c186 : F' := ⟨102, [.cell 6 (some 8)],
 .seq (.reg [⟨(some 4), none, .box (.t 1)⟩,
 ⟨(some 6), none, .new (.agg [(.sl true []), (.int .i64 0), (.str ⟨⟨[]⟩⟩), (.sl true []), (.sl true []), (.sl true []), (.sl true []), (.sl true [])])⟩])
 (.seq (.reg [⟨(some 9), none, .fa 0 (.t 4)⟩,
 ⟨(some 10), none, .ld none (.t 9)⟩,
 ⟨(some 11), none, .mv (.t 2)⟩,
 ⟨(some 12), none, .call (.f 218) [(.t 10), (.t 11)]⟩,
 ⟨(some 13), none, .fa 0 (.t 4)⟩,
 ⟨none, none, .sto 1 (.t 13) (.t 12)⟩])
 (.seq (.reg [⟨(some 14), none, .mv (.t 0)⟩,
 ⟨(some 15), none, .fa 3 (.t 4)⟩,
 ⟨(some 16), none, .ld none (.t 15)⟩,
 ⟨(some 17), none, .mv (.t 2)⟩,
 ⟨(some 18), none, .call (.f 134) [(.t 14), (.t 16), (.t 17), (.c (.bool true))]⟩,
 ⟨(some 19), none, .fa 3 (.t 4)⟩,
 ⟨none, none, .sto 1 (.t 19) (.t 18)⟩])
 (.seq (.seq (.reg [⟨(some 20), none, .fa 1 (.t 4)⟩,
 ⟨(some 21), none, .ld none (.t 20)⟩])
 (.block 0 (.seq (.reg [⟨(some 41), none, .bin .eql (.t 21) (.c (.int .i64 7))⟩,
 ⟨(some 40), none, .mv (.t 41)⟩])
 (.cond (.t 40)
 (.seq (.reg [⟨(some 42), none, .mv (.t 0)⟩,
 ⟨(some 43), none, .mv (.t 2)⟩,
 ⟨(some 44), none, .ld (some 8) (.t 4)⟩,
 ⟨(some 45), none, .call (.f 219) [(.t 44)]⟩,
 ⟨(some 46), none, .call (.f 157) [(.t 42), (.t 43), (.t 45)]⟩,
 ⟨(some 7), none, .mv (.t 46)⟩])
 (.seq (.reg [⟨(some 47), none, .mv (.t 0)⟩,
 ⟨(some 48), none, .fa 6 (.t 4)⟩,
 ⟨(some 49), none, .ld none (.t 48)⟩,
 ⟨(some 50), none, .mv (.t 7)⟩,
 ⟨(some 51), none, .mv (.t 2)⟩,
 ⟨(some 52), none, .call (.f 220) [(.t 47), (.t 49), (.t 50), (.t 51)]⟩,
 ⟨(some 53), none, .fa 6 (.t 4)⟩,
 ⟨none, none, .sto 1 (.t 53) (.t 52)⟩])
 (.reg [⟨(some 54), none, .mv (.t 0)⟩,
 ⟨(some 55), none, .fa 7 (.t 4)⟩,
 ⟨(some 56), none, .ld none (.t 55)⟩,
 ⟨(some 57), none, .mv (.t 7)⟩,
 ⟨(some 58), none, .call (.f 156) [(.t 54), (.t 56), (.t 57)]⟩,
 ⟨(some 59), none, .fa 7 (.t 4)⟩,
 ⟨none, none, .sto 1 (.t 59) (.t 58)⟩])))
 (.seq (.reg [⟨(some 61), none, .bin .eql (.t 21) (.c (.int .i64 8))⟩,
 ⟨(some 60), none, .mv (.t 61)⟩])
 (.cond (.t 60)
 (.draw [⟨⟨(some 62), none, .mv (.t 0)⟩, false, none, false, [], 0, 2⟩,
 ⟨⟨(some 63), none, .fa 7 (.t 4)⟩, false, none, false, [], 0, 2⟩,
 ⟨⟨(some 64), none, .ld none (.t 63)⟩, false, none, true, [1], 0, 2⟩,
 ⟨⟨(some 65), none, .mv (.t 0)⟩, false, none, false, [], 0, 1⟩,
 ⟨⟨(some 66), none, .mv (.t 2)⟩, false, none, false, [], 0, 1⟩,
 ⟨⟨(some 67), none, .fa 7 (.t 4)⟩, false, none, false, [], 0, 0⟩,
 ⟨⟨(some 68), none, .ld none (.t 67)⟩, false, none, false, [5], 0, 0⟩,
 ⟨⟨(some 69), none, .call (.f 158) [(.t 68)]⟩, true, none, false, [6, 5], 0, 0⟩,
 ⟨⟨(some 70), none, .call (.f 157) [(.t 65), (.t 66), (.t 69)]⟩, true, none, false, [3, 4, 7, 6, 5], 1, 1⟩,
 ⟨⟨(some 71), none, .call (.f 156) [(.t 62), (.t 64), (.t 70)]⟩, true, none, false, [0, 2, 8, 1, 3, 4, 7, 6, 5], 2, 2⟩,
 ⟨⟨(some 72), none, .fa 7 (.t 4)⟩, false, none, false, [9, 0, 2, 8, 1, 3, 4, 7, 6, 5], 3, 3⟩,
 ⟨⟨none, none, .sto 1 (.t 72) (.t 71)⟩, true, none, false, [10, 9, 0, 2, 8, 1, 3, 4, 7, 6, 5], 3, 3⟩] [])
 (.seq (.reg [⟨(some 22), none, .mv (.t 0)⟩,
 ⟨(some 23), none, .fa 4 (.t 4)⟩,
 ⟨(some 24), none, .ld none (.t 23)⟩,
 ⟨(some 25), none, .mv (.t 2)⟩,
 ⟨(some 26), none, .call (.f 134) [(.t 22), (.t 24), (.t 25), (.c (.bool false))]⟩,
 ⟨(some 27), none, .fa 4 (.t 4)⟩,
 ⟨none, none, .sto 1 (.t 27) (.t 26)⟩])
 (.seq (.reg [⟨(some 28), none, .mv (.t 0)⟩,
 ⟨(some 29), none, .fa 5 (.t 4)⟩,
 ⟨(some 30), none, .ld none (.t 29)⟩,
 ⟨(some 31), none, .mv (.t 2)⟩,
 ⟨(some 32), none, .call (.f 221) [(.t 28), (.t 30), (.t 31)]⟩,
 ⟨(some 33), none, .fa 5 (.t 4)⟩,
 ⟨none, none, .sto 1 (.t 33) (.t 32)⟩])
 (.reg [⟨(some 34), none, .mv (.t 0)⟩,
 ⟨(some 35), none, .fa 7 (.t 4)⟩,
 ⟨(some 36), none, .ld none (.t 35)⟩,
 ⟨(some 37), none, .mv (.t 2)⟩,
 ⟨(some 38), none, .call (.f 111) [(.t 34), (.t 36), (.t 37)]⟩,
 ⟨(some 39), none, .fa 7 (.t 4)⟩,
 ⟨none, none, .sto 1 (.t 39) (.t 38)⟩])))))))))
 (.seq (.seq (.reg [⟨(some 73), none, .fa 1 (.t 4)⟩,
 ⟨(some 74), none, .ld none (.t 73)⟩,
 ⟨(some 75), none, .bin .eql (.t 74) (.c (.int .i64 6))⟩])
 (.cond (.t 75)
 (.seq (.reg [⟨(some 76), none, .mv (.t 0)⟩,
 ⟨(some 77), none, .nck (.t 76)⟩,
 ⟨(some 78), none, .fa 3 (.t 77)⟩,
 ⟨(some 79), none, .ld none (.t 78)⟩,
 ⟨(some 80), none, .eq .func true (.t 79) (.c .nilfn)⟩])
 (.cond (.t 80)
 (.draw [⟨⟨(some 81), none, .mv (.t 0)⟩, false, none, false, [], 0, 0⟩,
 ⟨⟨(some 82), none, .nck (.t 81)⟩, false, none, false, [0], 0, 0⟩,
 ⟨⟨(some 83), none, .fa 3 (.t 82)⟩, false, none, false, [1, 0], 0, 0⟩,
 ⟨⟨(some 84), none, .ld none (.t 83)⟩, false, none, false, [2, 1, 0], 0, 0⟩,
 ⟨⟨(some 85), none, .fa 2 (.t 4)⟩, false, none, false, [], 0, 0⟩,
 ⟨⟨(some 86), none, .ld none (.t 85)⟩, false, none, false, [4], 0, 0⟩,
 ⟨⟨(some 87), none, .mv (.t 2)⟩, false, none, false, [], 0, 0⟩,
 ⟨⟨(some 88), none, .call (.t 84) [(.t 86), (.t 87)]⟩, true, none, false, [3, 5, 6, 2, 1, 0, 4], 0, 0⟩,
 ⟨⟨(some 89), none, .fa 2 (.t 4)⟩, false, none, false, [7, 3, 5, 6, 2, 1, 0, 4], 1, 1⟩,
 ⟨⟨none, none, .sto 1 (.t 89) (.t 88)⟩, true, none, false, [8, 7, 3, 5, 6, 2, 1, 0, 4], 1, 1⟩] [])
 (.seq (.reg [⟨(some 90), none, .mv (.t 2)⟩,
 ⟨(some 91), none, .fa 2 (.t 4)⟩,
 ⟨(some 92), none, .ld none (.t 91)⟩,
 ⟨(some 93), none, .call (.f 60) [(.t 90), (.t 92)]⟩,
 ⟨(some 8), none, .mv (.t 93)⟩])
 (.seq (.reg [⟨(some 94), none, .mv (.t 8)⟩,
 ⟨(some 95), none, .eq .ptr true (.t 94) (.c .nilp)⟩])
 (.cond (.t 95)
 (.reg [⟨(some 96), none, .mv (.t 8)⟩,
 ⟨(some 97), none, .nck (.t 96)⟩,
 ⟨(some 98), none, .fa 2 (.t 97)⟩,
 ⟨(some 99), none, .ld none (.t 98)⟩,
 ⟨(some 100), none, .fa 2 (.t 4)⟩,
 ⟨none, none, .sto 1 (.t 100) (.t 99)⟩])
 (.skip))))))
 (.skip)))
 (.seq (.reg [⟨(some 101), none, .ld (some 8) (.t 4)⟩,
 ⟨none, none, .sto 8 (.t 6) (.t 101)⟩])
 (.ret))))))⟩
theorem ok186 : compF Tryz.prog Tryz.f186 = some c186 := by kernel_rfl

-- manorboy/copyrule.labels$1
noncomputable def c187 : F' := ⟨26, [],
 .seq (.reg [⟨(some 7), none, .ld none (.t 1)⟩,
 ⟨(some 8), none, .len false (.t 7)⟩,
 ⟨(some 9), none, .mv (.c (.int .i64 0))⟩])
 (.block 0 (.loop (.seq (.reg [⟨(some 10), none, .bin .lss (.t 9) (.t 8)⟩])
 (.seq (.cond (.t 10)
 (.skip)
 (.exit 0))
 (.seq (.block 1 (.seq (.reg [⟨(some 11), none, .ia 8 (.t 7) (.t 9)⟩,
 ⟨(some 12), none, .ld (some 8) (.t 11)⟩,
 ⟨(some 4), none, .new (.agg [(.sl true []), (.int .i64 0), (.str ⟨⟨[]⟩⟩), (.sl true []), (.sl true []), (.sl true []), (.sl true []), (.sl true [])])⟩,
 ⟨none, none, .sto 8 (.t 4) (.t 12)⟩])
 (.seq (.reg [⟨(some 13), none, .fa 0 (.t 4)⟩,
 ⟨(some 14), none, .ld none (.t 13)⟩,
 ⟨(some 15), none, .len false (.t 14)⟩,
 ⟨(some 16), none, .mv (.c (.int .i64 0))⟩])
 (.block 2 (.loop (.seq (.reg [⟨(some 17), none, .bin .lss (.t 16) (.t 15)⟩])
 (.seq (.cond (.t 17)
 (.skip)
 (.exit 2))
 (.seq (.block 3 (.seq (.reg [⟨(some 18), none, .ia 1 (.t 14) (.t 16)⟩,
 ⟨(some 19), none, .ld none (.t 18)⟩,
 ⟨(some 6), none, .mv (.t 19)⟩])
 (.seq (.reg [⟨(some 20), none, .mv (.t 0)⟩,
 ⟨(some 21), none, .mv (.t 6)⟩,
 ⟨(some 22), none, .call (.t 20) [(.t 21)]⟩,
 ⟨(some 23), none, .un .not (.t 22)⟩])
 (.cond (.t 23)
 (.ret)
 (.skip)))))
 (.reg [⟨(some 24), none, .bin .add (.t 16) (.c (.int .i64 1))⟩,
 ⟨(some 16), none, .mv (.t 24)⟩])))))))))
 (.reg [⟨(some 25), none, .bin .add (.t 9) (.c (.int .i64 1))⟩,
 ⟨(some 9), none, .mv (.t 25)⟩]))))))⟩
theorem ok187 : compF Tryz.prog Tryz.f187 = some c187 := by kernel_rfl

-- manorboy/manorboyref04.depth
noncomputable def c188 : F' := ⟨23, [.t 2],
 .seq (.reg [⟨(some 1), none, .box (.t 0)⟩,
 ⟨(some 2), none, .mv (.c (.int .i64 0))⟩])
 (.seq (.reg [⟨(some 3), none, .mv (.c (.int .i64 0))⟩])
 (.seq (.reg [⟨(some 6), none, .ld (some 25) (.t 1)⟩,
 ⟨(some 7), none, .call (.f 193) [(.t 6)]⟩,
 ⟨(some 4), none, .mv (.t 7)⟩])
 (.seq (.seq (.reg [⟨(some 5), none, .mv (.c (.int .i64 0))⟩])
 (.block 0 (.loop (.seq (.seq (.reg [⟨(some 8), none, .mv (.t 5)⟩,
 ⟨(some 9), none, .mv (.t 4)⟩,
 ⟨(some 10), none, .len false (.t 9)⟩,
 ⟨(some 11), none, .bin .lss (.t 8) (.t 10)⟩])
 (.cond (.t 11)
 (.skip)
 (.exit 0)))
 (.seq (.block 1 (.reg [⟨(some 14), none, .mv (.t 3)⟩,
 ⟨(some 15), none, .mv (.t 4)⟩,
 ⟨(some 16), none, .mv (.t 5)⟩,
 ⟨(some 17), none, .ia 25 (.t 15) (.t 16)⟩,
 ⟨(some 18), none, .ld (some 25) (.t 17)⟩,
 ⟨(some 19), none, .call (.f 188) [(.t 18)]⟩,
 ⟨(some 20), none, .ex (.mm true (.t 14) (.t 19))⟩,
 ⟨(some 3), none, .mv (.t 20)⟩]))
 (.reg [⟨(some 12), none, .mv (.t 5)⟩,
 ⟨(some 13), none, .bin .add (.t 12) (.c (.int .i64 1))⟩,
 ⟨(some 5), none, .mv (.t 13)⟩]))))))
 (.seq (.reg [⟨(some 21), none, .mv (.t 3)⟩,
 ⟨(some 22), none, .bin .add (.c (.int .i64 1)) (.t 21)⟩,
 ⟨(some 2), none, .mv (.t 22)⟩])
 (.ret)))))⟩
theorem ok188 : compF Tryz.prog Tryz.f188 = some c188 := by kernel_rfl

-- manorboy/manorboyref04.Kids
noncomputable def c193 : F' := ⟨78, [.t 2],
 .seq (.reg [⟨(some 1), none, .box (.t 0)⟩,
 ⟨(some 2), none, .mv (.c (.sl true []))⟩])
 (.seq (.seq (.reg [⟨(some 7), none, .fa 0 (.t 1)⟩,
 ⟨(some 8), none, .ld none (.t 7)⟩])
 (.block 0 (.seq (.reg [⟨(some 10), none, .bin .eql (.t 8) (.c (.int .i64 1))⟩,
 ⟨(some 9), none, .mv (.t 10)⟩])
 (.cond (.t 9)
 (.seq (.reg [⟨(some 11), none, .fa 1 (.t 1)⟩,
 ⟨(some 12), none, .ld (some 8) (.t 11)⟩,
 ⟨(some 3), none, .new (.agg [(.sl true []), (.int .i64 0), (.str ⟨⟨[]⟩⟩), (.sl true []), (.sl true []), (.sl true []), (.sl true []), (.sl true [])])⟩,
 ⟨none, none, .sto 8 (.t 3) (.t 12)⟩])
 (.seq (.reg [⟨(some 13), none, .fa 3 (.t 3)⟩,
 ⟨(some 14), none, .ld none (.t 13)⟩,
 ⟨(some 15), none, .call (.f 228) [(.c (.sl true [])), (.t 14)]⟩,
 ⟨(some 4), none, .mv (.t 15)⟩])
 (.seq (.reg [⟨(some 16), none, .mv (.t 4)⟩,
 ⟨(some 17), none, .fa 4 (.t 3)⟩,
 ⟨(some 18), none, .ld none (.t 17)⟩,
 ⟨(some 19), none, .call (.f 228) [(.t 16), (.t 18)]⟩,
 ⟨(some 4), none, .mv (.t 19)⟩])
 (.seq (.seq (.reg [⟨(some 5), none, .mv (.c (.int .i64 0))⟩])
 (.block 1 (.loop (.seq (.seq (.reg [⟨(some 20), none, .mv (.t 5)⟩,
 ⟨(some 21), none, .fa 5 (.t 3)⟩,
 ⟨(some 22), none, .ld none (.t 21)⟩,
 ⟨(some 23), none, .len false (.t 22)⟩,
 ⟨(some 24), none, .bin .lss (.t 20) (.t 23)⟩])
 (.cond (.t 24)
 (.skip)
 (.exit 1)))
 (.seq (.block 2 (.reg [⟨(some 27), none, .mv (.t 4)⟩,
 ⟨(some 28), none, .fa 5 (.t 3)⟩,
 ⟨(some 29), none, .ld none (.t 28)⟩,
 ⟨(some 30), none, .mv (.t 5)⟩,
 ⟨(some 31), none, .ia 2 (.t 29) (.t 30)⟩,
 ⟨(some 32), none, .ld (some 2) (.t 31)⟩,
 ⟨(some 33), none, .build (.agg [(.int .i64 0), (.sl true []), (.int .i64 0), (.str ⟨⟨[]⟩⟩), (.sl true []), (.sl true []), (.sl true []), (.sl true []), (.sl true []), (.int .i64 0), (.bool false), (.int .i64 0), (.sl true []), (.sl true []), (.sl true []), (.sl true []), (.int .i64 0), (.sl true []), (.int .i64 0), (.int .i64 0), (.int .i64 0), (.int .i64 0), (.int .i64 0), (.str ⟨⟨[]⟩⟩), (.sl true [])]) [(0, 0, 1, (.c (.int .i64 3))), (3, 16, 2, (.t 32))]⟩,
 ⟨(some 34), none, .bsl 25 [(.t 33)]⟩,
 ⟨(some 35), none, .app 25 408 (.t 27) (.t 34)⟩,
 ⟨(some 4), none, .mv (.t 35)⟩]))
 (.reg [⟨(some 25), none, .mv (.t 5)⟩,
 ⟨(some 26), none, .bin .add (.t 25) (.c (.int .i64 1))⟩,
 ⟨(some 5), none, .mv (.t 26)⟩]))))))
 (.seq (.seq (.reg [⟨(some 6), none, .mv (.c (.int .i64 0))⟩])
 (.block 3 (.loop (.seq (.seq (.reg [⟨(some 36), none, .mv (.t 6)⟩,
 ⟨(some 37), none, .fa 6 (.t 3)⟩,
 ⟨(some 38), none, .ld none (.t 37)⟩,
 ⟨(some 39), none, .len false (.t 38)⟩,
 ⟨(some 40), none, .bin .lss (.t 36) (.t 39)⟩])
 (.cond (.t 40)
 (.skip)
 (.exit 3)))
 (.seq (.block 4 (.reg [⟨(some 43), none, .mv (.t 4)⟩,
 ⟨(some 44), none, .fa 6 (.t 3)⟩,
 ⟨(some 45), none, .ld none (.t 44)⟩,
 ⟨(some 46), none, .mv (.t 6)⟩,
 ⟨(some 47), none, .ia 7 (.t 45) (.t 46)⟩,
 ⟨(some 48), none, .ld (some 7) (.t 47)⟩,
 ⟨(some 49), none, .build (.agg [(.int .i64 0), (.sl true []), (.int .i64 0), (.str ⟨⟨[]⟩⟩), (.sl true []), (.sl true []), (.sl true []), (.sl true []), (.sl true []), (.int .i64 0), (.bool false), (.int .i64 0), (.sl true []), (.sl true []), (.sl true []), (.sl true []), (.int .i64 0), (.sl true []), (.int .i64 0), (.int .i64 0), (.int .i64 0), (.int .i64 0), (.int .i64 0), (.str ⟨⟨[]⟩⟩), (.sl true [])]) [(0, 0, 1, (.c (.int .i64 2))), (2, 9, 7, (.t 48))]⟩,
 ⟨(some 50), none, .bsl 25 [(.t 49)]⟩,
 ⟨(some 51), none, .app 25 408 (.t 43) (.t 50)⟩,
 ⟨(some 4), none, .mv (.t 51)⟩]))
 (.reg [⟨(some 41), none, .mv (.t 6)⟩,
 ⟨(some 42), none, .bin .add (.t 41) (.c (.int .i64 1))⟩,
 ⟨(some 6), none, .mv (.t 42)⟩]))))))
 (.seq (.reg [⟨(some 52), none, .mv (.t 4)⟩,
 ⟨(some 53), none, .fa 7 (.t 3)⟩,
 ⟨(some 54), none, .ld none (.t 53)⟩,
 ⟨(some 55), none, .call (.f 229) [(.t 52), (.t 54)]⟩,
 ⟨(some 2), none, .mv (.t 55)⟩])
 (.ret)))))))
 (.seq (.reg [⟨(some 57), none, .bin .eql (.t 8) (.c (.int .i64 2))⟩,
 ⟨(some 56), none, .mv (.t 57)⟩])
 (.cond (.t 56)
 (.seq (.draw [⟨⟨(some 58), none, .fa 9 (.t 1)⟩, false, none, false, [], 0, 0⟩,
 ⟨⟨(some 59), none, .fa 4 (.t 58)⟩, false, none, false, [0], 0, 0⟩,
 ⟨⟨(some 60), none, .ld none (.t 59)⟩, false, none, false, [1, 0], 0, 0⟩,
 ⟨⟨(some 61), none, .call (.f 228) [(.c (.sl true [])), (.t 60)]⟩, true, none, false, [2, 1, 0], 0, 0⟩,
 ⟨⟨(some 62), none, .fa 9 (.t 1)⟩, false, none, false, [], 0, 1⟩,
 ⟨⟨(some 63), none, .fa 6 (.t 62)⟩, false, none, false, [4], 0, 1⟩,
 ⟨⟨(some 64), none, .ld none (.t 63)⟩, false, none, true, [5, 4], 0, 1⟩,
 ⟨⟨(some 65), none, .call (.f 229) [(.t 61), (.t 64)]⟩, true, none, false, [6, 3, 5, 4, 2, 1, 0], 1, 1⟩,
 ⟨⟨(some 2), none, .mv (.t 65)⟩, false, none, false, [7, 6, 3, 5, 4, 2, 1, 0], 2, 2⟩] [])
 (.ret))
 (.seq (.reg [⟨(some 67), none, .bin .eql (.t 8) (.c (.int .i64 3))⟩,
 ⟨(some 66), none, .mv (.t 67)⟩])
 (.cond (.t 66)
 (.seq (.reg [⟨(some 68), none, .fa 16 (.t 1)⟩,
 ⟨(some 69), none, .fa 1 (.t 68)⟩,
 ⟨(some 70), none, .ld none (.t 69)⟩,
 ⟨(some 71), none, .call (.f 228) [(.c (.sl true [])), (.t 70)]⟩,
 ⟨(some 2), none, .mv (.t 71)⟩])
 (.ret))
 (.seq (.reg [⟨(some 73), none, .bin .eql (.t 8) (.c (.int .i64 4))⟩,
 ⟨(some 72), none, .mv (.t 73)⟩])
 (.cond (.t 72)
 (.seq (.reg [⟨(some 74), none, .fa 18 (.t 1)⟩,
 ⟨(some 75), none, .fa 6 (.t 74)⟩,
 ⟨(some 76), none, .ld none (.t 75)⟩,
 ⟨(some 77), none, .call (.f 228) [(.c (.sl true [])), (.t 76)]⟩,
 ⟨(some 2), none, .mv (.t 77)⟩])
 (.ret))
 (.skip)))))))))))
 (.seq (.reg [⟨(some 2), none, .mv (.c (.sl true []))⟩])
 (.ret)))⟩
theorem ok193 : compF Tryz.prog Tryz.f193 = some c193 := by kernel_rfl

-- manorboy/manorboyref04.equal
noncomputable def c195 : F' := ⟨239, [.t 4],
 .seq (.reg [⟨(some 2), none, .box (.t 0)⟩,
 ⟨(some 3), none, .box (.t 1)⟩,
 ⟨(some 4), none, .mv (.c (.bool false))⟩])
 (.seq (.draw [⟨⟨(some 16), none, .fa 1 (.t 2)⟩, false, none, false, [], 0, 0⟩,
 ⟨⟨(some 17), none, .ld (some 8) (.t 16)⟩, false, none, false, [0], 0, 0⟩,
 ⟨⟨(some 18), none, .fa 1 (.t 3)⟩, false, none, false, [], 0, 1⟩,
 ⟨⟨(some 19), none, .ld (some 8) (.t 18)⟩, false, none, true, [2], 0, 1⟩,
 ⟨⟨(some 5), none, .new (.agg [(.sl true []), (.int .i64 0), (.str ⟨⟨[]⟩⟩), (.sl true []), (.sl true []), (.sl true []), (.sl true []), (.sl true [])])⟩, false, (some 0), true, [], 0, 0⟩,
 ⟨⟨(some 6), none, .new (.agg [(.sl true []), (.int .i64 0), (.str ⟨⟨[]⟩⟩), (.sl true []), (.sl true []), (.sl true []), (.sl true []), (.sl true [])])⟩, false, (some 1), true, [], 0, 0⟩,
 ⟨⟨none, none, .sto 8 (.t 5) (.t 17)⟩, true, none, false, [1, 4, 5, 0], 0, 0⟩,
 ⟨⟨none, none, .sto 8 (.t 6) (.t 19)⟩, true, none, false, [3, 6, 2, 1, 4, 5, 0], 1, 1⟩] [(.agg [(.sl true []), (.int .i64 0), (.str ⟨⟨[]⟩⟩), (.sl true []), (.sl true []), (.sl true []), (.sl true []), (.sl true [])]), (.agg [(.sl true []), (.int .i64 0), (.str ⟨⟨[]⟩⟩), (.sl true []), (.sl true []), (.sl true []), (.sl true []), (.sl true [])])])
 (.seq (.draw [⟨⟨(some 20), none, .fa 9 (.t 2)⟩, false, none, false, [], 0, 0⟩,
 ⟨⟨(some 21), none, .ld (some 7) (.t 20)⟩, false, none, false, [0], 0, 0⟩,
 ⟨⟨(some 22), none, .fa 9 (.t 3)⟩, false, none, false, [], 0, 1⟩,
 ⟨⟨(some 23), none, .ld (some 7) (.t 22)⟩, false, none, true, [2], 0, 1⟩,
 ⟨⟨(some 7), none, .new (.agg [(.int .i64 0), (.bool false), (.int .i64 0), (.sl true []), (.sl true []), (.sl true []), (.sl true [])])⟩, false, (some 0), true, [], 0, 0⟩,
 ⟨⟨(some 8), none, .new (.agg [(.int .i64 0), (.bool false), (.int .i64 0), (.sl true []), (.sl true []), (.sl true []), (.sl true [])])⟩, false, (some 1), true, [], 0, 0⟩,
 ⟨⟨none, none, .sto 7 (.t 7) (.t 21)⟩, true, none, false, [1, 4, 5, 0], 0, 0⟩,
 ⟨⟨none, none, .sto 7 (.t 8) (.t 23)⟩, true, none, false, [3, 6, 2, 1, 4, 5, 0], 1, 1⟩] [(.agg [(.int .i64 0), (.bool false), (.int .i64 0), (.sl true []), (.sl true []), (.sl true []), (.sl true [])]), (.agg [(.int .i64 0), (.bool false), (.int .i64 0), (.sl true []), (.sl true []), (.sl true []), (.sl true [])])])
 (.seq (.seq (.reg [⟨(some 24), none, .fa 0 (.t 2)⟩,
 ⟨(some 25), none, .ld none (.t 24)⟩,
 ⟨(some 26), none, .fa 0 (.t 3)⟩,
 ⟨(some 27), none, .ld none (.t 26)⟩,
 ⟨(some 28), none, .bin .neq (.t 25) (.t 27)⟩,
 ⟨(some 29), none, .mv (.t 28)⟩,
 ⟨(some 30), (some (29, false)), .fa 5 (.t 7)⟩,
 ⟨(some 31), (some (29, false)), .ld none (.t 30)⟩,
 ⟨(some 32), (some (29, false)), .len false (.t 31)⟩,
 ⟨(some 33), (some (29, false)), .fa 5 (.t 8)⟩,
 ⟨(some 34), (some (29, false)), .ld none (.t 33)⟩,
 ⟨(some 35), (some (29, false)), .len false (.t 34)⟩,
 ⟨(some 36), (some (29, false)), .bin .neq (.t 32) (.t 35)⟩,
 ⟨(some 37), none, .pick (.t 29) (.c (.bool true)) (.t 36)⟩])
 (.cond (.t 37)
 (.seq (.reg [⟨(some 4), none, .mv (.c (.bool false))⟩])
 (.ret))
 (.skip)))
 (.seq (.seq (.reg [⟨(some 9), none, .mv (.c (.int .i64 0))⟩])
 (.block 0 (.loop (.seq (.seq (.reg [⟨(some 38), none, .mv (.t 9)⟩,
 ⟨(some 39), none, .fa 5 (.t 7)⟩,
 ⟨(some 40), none, .ld none (.t 39)⟩,
 ⟨(some 41), none, .len false (.t 40)⟩,
 ⟨(some 42), none, .bin .lss (.t 38) (.t 41)⟩])
 (.cond (.t 42)
 (.skip)
 (.exit 0)))
 (.seq (.block 1 (.seq (.draw [⟨⟨(some 45), none, .fa 5 (.t 7)⟩, false, none, false, [], 0, 0⟩,
 ⟨⟨(some 46), none, .ld none (.t 45)⟩, false, none, false, [0], 0, 0⟩,
 ⟨⟨(some 47), none, .mv (.t 9)⟩, false, none, false, [], 0, 0⟩,
 ⟨⟨(some 48), none, .ia 4 (.t 46) (.t 47)⟩, false, none, false, [1, 2, 0], 0, 0⟩,
 ⟨⟨(some 49), none, .ld (some 4) (.t 48)⟩, false, none, false, [3, 1, 2, 0], 0, 0⟩,
 ⟨⟨(some 50), none, .fa 5 (.t 8)⟩, false, none, false, [], 0, 0⟩,
 ⟨⟨(some 51), none, .ld none (.t 50)⟩, false, none, false, [5], 0, 0⟩,
 ⟨⟨(some 52), none, .mv (.t 9)⟩, false, none, false, [], 0, 0⟩,
 ⟨⟨(some 53), none, .ia 4 (.t 51) (.t 52)⟩, false, none, false, [6, 7, 5], 0, 0⟩,
 ⟨⟨(some 54), none, .ld (some 4) (.t 53)⟩, false, none, false, [8, 6, 7, 5], 0, 0⟩,
 ⟨⟨(some 55), none, .ex (.eqs true 4 [(0, .s), (1, .b), (2, .i), (3, .i)] (.t 49) (.t 54))⟩, false, none, false, [4, 9, 3, 1, 2, 0, 8, 6, 7, 5], 0, 0⟩] [])
 (.cond (.t 55)
 (.seq (.reg [⟨(some 4), none, .mv (.c (.bool false))⟩])
 (.ret))
 (.skip))))
 (.reg [⟨(some 43), none, .mv (.t 9)⟩,
 ⟨(some 44), none, .bin .add (.t 43) (.c (.int .i64 1))⟩,
 ⟨(some 9), none, .mv (.t 44)⟩]))))))
 (.seq (.draw [⟨⟨(some 56), none, .fa 18 (.t 2)⟩, false, none, false, [], 0, 0⟩,
 ⟨⟨(some 57), none, .ld (some 7) (.t 56)⟩, false, none, false, [0], 0, 0⟩,
 ⟨⟨(some 58), none, .fa 18 (.t 3)⟩, false, none, false, [], 0, 1⟩,
 ⟨⟨(some 59), none, .ld (some 7) (.t 58)⟩, false, none, true, [2], 0, 1⟩,
 ⟨⟨(some 10), none, .new (.agg [(.int .i64 0), (.int .i64 0), (.int .i64 0), (.int .i64 0), (.int .i64 0), (.str ⟨⟨[]⟩⟩), (.sl true [])])⟩, false, (some 0), true, [], 0, 0⟩,
 ⟨⟨(some 11), none, .new (.agg [(.int .i64 0), (.int .i64 0), (.int .i64 0), (.int .i64 0), (.int .i64 0), (.str ⟨⟨[]⟩⟩), (.sl true [])])⟩, false, (some 1), true, [], 0, 0⟩,
 ⟨⟨none, none, .sto 7 (.t 10) (.t 57)⟩, true, none, false, [1, 4, 5, 0], 0, 0⟩,
 ⟨⟨none, none, .sto 7 (.t 11) (.t 59)⟩, true, none, false, [3, 6, 2, 1, 4, 5, 0], 1, 1⟩] [(.agg [(.int .i64 0), (.int .i64 0), (.int .i64 0), (.int .i64 0), (.int .i64 0), (.str ⟨⟨[]⟩⟩), (.sl true [])]), (.agg [(.int .i64 0), (.int .i64 0), (.int .i64 0), (.int .i64 0), (.int .i64 0), (.str ⟨⟨[]⟩⟩), (.sl true [])])])
 (.seq (.reg [⟨(some 60), none, .fa 3 (.t 5)⟩,
 ⟨(some 61), none, .ld none (.t 60)⟩,
 ⟨(some 62), none, .len false (.t 61)⟩,
 ⟨(some 63), none, .fa 3 (.t 6)⟩,
 ⟨(some 64), none, .ld none (.t 63)⟩,
 ⟨(some 65), none, .len false (.t 64)⟩,
 ⟨(some 66), none, .bin .eql (.t 62) (.t 65)⟩,
 ⟨(some 67), none, .mv (.t 66)⟩,
 ⟨(some 68), (some (67, true)), .fa 4 (.t 5)⟩,
 ⟨(some 69), (some (67, true)), .ld none (.t 68)⟩,
 ⟨(some 70), (some (67, true)), .len false (.t 69)⟩,
 ⟨(some 71), (some (67, true)), .fa 4 (.t 6)⟩,
 ⟨(some 72), (some (67, true)), .ld none (.t 71)⟩,
 ⟨(some 73), (some (67, true)), .len false (.t 72)⟩,
 ⟨(some 74), (some (67, true)), .bin .eql (.t 70) (.t 73)⟩,
 ⟨(some 75), none, .pick (.t 67) (.t 74) (.c (.bool false))⟩,
 ⟨(some 76), none, .mv (.t 75)⟩,
 ⟨(some 77), (some (76, true)), .fa 5 (.t 5)⟩,
 ⟨(some 78), (some (76, true)), .ld none (.t 77)⟩,
 ⟨(some 79), (some (76, true)), .len false (.t 78)⟩,
 ⟨(some 80), (some (76, true)), .fa 5 (.t 6)⟩,
 ⟨(some 81), (some (76, true)), .ld none (.t 80)⟩,
 ⟨(some 82), (some (76, true)), .len false (.t 81)⟩,
 ⟨(some 83), (some (76, true)), .bin .eql (.t 79) (.t 82)⟩,
 ⟨(some 84), none, .pick (.t 76) (.t 83) (.c (.bool false))⟩,
 ⟨(some 85), none, .mv (.t 84)⟩,
 ⟨(some 86), (some (85, true)), .fa 6 (.t 5)⟩,
 ⟨(some 87), (some (85, true)), .ld none (.t 86)⟩,
 ⟨(some 88), (some (85, true)), .len false (.t 87)⟩,
 ⟨(some 89), (some (85, true)), .fa 6 (.t 6)⟩,
 ⟨(some 90), (some (85, true)), .ld none (.t 89)⟩,
 ⟨(some 91), (some (85, true)), .len false (.t 90)⟩,
 ⟨(some 92), (some (85, true)), .bin .eql (.t 88) (.t 91)⟩,
 ⟨(some 93), none, .pick (.t 85) (.t 92) (.c (.bool false))⟩,
 ⟨(some 94), none, .mv (.t 93)⟩,
 ⟨(some 95), (some (94, true)), .fa 7 (.t 5)⟩,
 ⟨(some 96), (some (94, true)), .ld none (.t 95)⟩,
 ⟨(some 97), (some (94, true)), .len false (.t 96)⟩,
 ⟨(some 98), (some (94, true)), .fa 7 (.t 6)⟩,
 ⟨(some 99), (some (94, true)), .ld none (.t 98)⟩,
 ⟨(some 100), (some (94, true)), .len false (.t 99)⟩,
 ⟨(some 101), (some (94, true)), .bin .eql (.t 97) (.t 100)⟩,
 ⟨(some 102), none, .pick (.t 94) (.t 101) (.c (.bool false))⟩,
 ⟨(some 12), none, .mv (.t 102)⟩])
 (.seq (.reg [⟨(some 103), none, .mv (.t 12)⟩,
 ⟨(some 104), none, .mv (.t 103)⟩,
 ⟨(some 105), (some (104, true)), .fa 4 (.t 7)⟩,
 ⟨(some 106), (some (104, true)), .ld none (.t 105)⟩,
 ⟨(some 107), (some (104, true)), .len false (.t 106)⟩,
 ⟨(some 108), (some (104, true)), .fa 4 (.t 8)⟩,
 ⟨(some 109), (some (104, true)), .ld none (.t 108)⟩,
 ⟨(some 110), (some (104, true)), .len false (.t 109)⟩,
 ⟨(some 111), (some (104, true)), .bin .eql (.t 107) (.t 110)⟩,
 ⟨(some 112), none, .pick (.t 104) (.t 111) (.c (.bool false))⟩,
 ⟨(some 113), none, .mv (.t 112)⟩,
 ⟨(some 114), (some (113, true)), .fa 6 (.t 7)⟩,
 ⟨(some 115), (some (113, true)), .ld none (.t 114)⟩,
 ⟨(some 116), (some (113, true)), .len false (.t 115)⟩,
 ⟨(some 117), (some (113, true)), .fa 6 (.t 8)⟩,
 ⟨(some 118), (some (113, true)), .ld none (.t 117)⟩,
 ⟨(some 119), (some (113, true)), .len false (.t 118)⟩,
 ⟨(some 120), (some (113, true)), .bin .eql (.t 116) (.t 119)⟩,
 ⟨(some 121), none, .pick (.t 113) (.t 120) (.c (.bool false))⟩,
 ⟨(some 122), none, .mv (.t 121)⟩,
 ⟨(some 123), (some (122, true)), .fa 16 (.t 2)⟩,
 ⟨(some 124), (some (122, true)), .fa 1 (.t 123)⟩,
 ⟨(some 125), (some (122, true)), .ld none (.t 124)⟩,
 ⟨(some 126), (some (122, true)), .len false (.t 125)⟩,
 ⟨(some 127), (some (122, true)), .fa 16 (.t 3)⟩,
 ⟨(some 128), (some (122, true)), .fa 1 (.t 127)⟩,
 ⟨(some 129), (some (122, true)), .ld none (.t 128)⟩,
 ⟨(some 130), (some (122, true)), .len false (.t 129)⟩,
 ⟨(some 131), (some (122, true)), .bin .eql (.t 126) (.t 130)⟩,
 ⟨(some 132), none, .pick (.t 122) (.t 131) (.c (.bool false))⟩,
 ⟨(some 133), none, .mv (.t 132)⟩,
 ⟨(some 134), (some (133, true)), .fa 6 (.t 10)⟩,
 ⟨(some 135), (some (133, true)), .ld none (.t 134)⟩,
 ⟨(some 136), (some (133, true)), .len false (.t 135)⟩,
 ⟨(some 137), (some (133, true)), .fa 6 (.t 11)⟩,
 ⟨(some 138), (some (133, true)), .ld none (.t 137)⟩,
 ⟨(some 139), (some (133, true)), .len false (.t 138)⟩,
 ⟨(some 140), (some (133, true)), .bin .eql (.t 136) (.t 139)⟩,
 ⟨(some 141), none, .pick (.t 133) (.t 140) (.c (.bool false))⟩,
 ⟨(some 12), none, .mv (.t 141)⟩])
 (.seq (.reg [⟨(some 142), none, .fa 1 (.t 5)⟩,
 ⟨(some 143), none, .ld none (.t 142)⟩,
 ⟨(some 144), none, .fa 1 (.t 6)⟩,
 ⟨(some 145), none, .ld none (.t 144)⟩,
 ⟨(some 146), none, .bin .eql (.t 143) (.t 145)⟩,
 ⟨(some 147), none, .mv (.t 146)⟩,
 ⟨(some 148), (some (147, true)), .fa 2 (.t 5)⟩,
 ⟨(some 149), (some (147, true)), .ld none (.t 148)⟩,
 ⟨(some 150), (some (147, true)), .fa 2 (.t 6)⟩,
 ⟨(some 151), (some (147, true)), .ld none (.t 150)⟩,
 ⟨(some 152), (some (147, true)), .bin .eql (.t 149) (.t 151)⟩,
 ⟨(some 153), none, .pick (.t 147) (.t 152) (.c (.bool false))⟩,
 ⟨(some 154), none, .mv (.t 153)⟩,
 ⟨(some 155), (some (154, true)), .fa 0 (.t 5)⟩,
 ⟨(some 156), (some (154, true)), .ld none (.t 155)⟩,
 ⟨(some 157), (some (154, true)), .fa 0 (.t 6)⟩,
 ⟨(some 158), (some (154, true)), .ld none (.t 157)⟩,
 ⟨(some 159), (some (154, true)), .call (.f 233) [(.t 156), (.t 158)]⟩,
 ⟨(some 160), none, .pick (.t 154) (.t 159) (.c (.bool false))⟩,
 ⟨(some 13), none, .mv (.t 160)⟩])
 (.seq (.reg [⟨(some 161), none, .fa 0 (.t 7)⟩,
 ⟨(some 162), none, .ld none (.t 161)⟩,
 ⟨(some 163), none, .fa 0 (.t 8)⟩,
 ⟨(some 164), none, .ld none (.t 163)⟩,
 ⟨(some 165), none, .bin .eql (.t 162) (.t 164)⟩,
 ⟨(some 166), none, .mv (.t 165)⟩,
 ⟨(some 167), (some (166, true)), .fa 1 (.t 7)⟩,
 ⟨(some 168), (some (166, true)), .ld none (.t 167)⟩,
 ⟨(some 169), (some (166, true)), .fa 1 (.t 8)⟩,
 ⟨(some 170), (some (166, true)), .ld none (.t 169)⟩,
 ⟨(some 171), (some (166, true)), .eq .bool false (.t 168) (.t 170)⟩,
 ⟨(some 172), none, .pick (.t 166) (.t 171) (.c (.bool false))⟩,
 ⟨(some 173), none, .mv (.t 172)⟩,
 ⟨(some 174), (some (173, true)), .fa 2 (.t 7)⟩,
 ⟨(some 175), (some (173, true)), .ld none (.t 174)⟩,
 ⟨(some 176), (some (173, true)), .fa 2 (.t 8)⟩,
 ⟨(some 177), (some (173, true)), .ld none (.t 176)⟩,
 ⟨(some 178), (some (173, true)), .bin .eql (.t 175) (.t 177)⟩,
 ⟨(some 179), none, .pick (.t 173) (.t 178) (.c (.bool false))⟩,
 ⟨(some 180), none, .mv (.t 179)⟩,
 ⟨(some 181), (some (180, true)), .fa 3 (.t 7)⟩,
 ⟨(some 182), (some (180, true)), .ld none (.t 181)⟩,
 ⟨(some 183), (some (180, true)), .fa 3 (.t 8)⟩,
 ⟨(some 184), (some (180, true)), .ld none (.t 183)⟩,
 ⟨(some 185), (some (180, true)), .call (.f 233) [(.t 182), (.t 184)]⟩,
 ⟨(some 186), none, .pick (.t 180) (.t 185) (.c (.bool false))⟩,
 ⟨(some 14), none, .mv (.t 186)⟩])
 (.seq (.reg [⟨(some 187), none, .fa 0 (.t 10)⟩,
 ⟨(some 188), none, .ld none (.t 187)⟩,
 ⟨(some 189), none, .fa 0 (.t 11)⟩,
 ⟨(some 190), none, .ld none (.t 189)⟩,
 ⟨(some 191), none, .bin .eql (.t 188) (.t 190)⟩,
 ⟨(some 192), none, .mv (.t 191)⟩,
 ⟨(some 193), (some (192, true)), .fa 1 (.t 10)⟩,
 ⟨(some 194), (some (192, true)), .ld none (.t 193)⟩,
 ⟨(some 195), (some (192, true)), .fa 1 (.t 11)⟩,
 ⟨(some 196), (some (192, true)), .ld none (.t 195)⟩,
 ⟨(some 197), (some (192, true)), .bin .eql (.t 194) (.t 196)⟩,
 ⟨(some 198), none, .pick (.t 192) (.t 197) (.c (.bool false))⟩,
 ⟨(some 199), none, .mv (.t 198)⟩,
 ⟨(some 200), (some (199, true)), .fa 2 (.t 10)⟩,
 ⟨(some 201), (some (199, true)), .ld none (.t 200)⟩,
 ⟨(some 202), (some (199, true)), .fa 2 (.t 11)⟩,
 ⟨(some 203), (some (199, true)), .ld none (.t 202)⟩,
 ⟨(some 204), (some (199, true)), .bin .eql (.t 201) (.t 203)⟩,
 ⟨(some 205), none, .pick (.t 199) (.t 204) (.c (.bool false))⟩,
 ⟨(some 206), none, .mv (.t 205)⟩,
 ⟨(some 207), (some (206, true)), .fa 3 (.t 10)⟩,
 ⟨(some 208), (some (206, true)), .ld (some 2) (.t 207)⟩,
 ⟨(some 209), (some (206, true)), .fa 3 (.t 11)⟩,
 ⟨(some 210), (some (206, true)), .ld (some 2) (.t 209)⟩,
 ⟨(some 211), (some (206, true)), .ex (.eqs false 2 [(0, .i), (1, .i)] (.t 208) (.t 210))⟩,
 ⟨(some 212), none, .pick (.t 206) (.t 211) (.c (.bool false))⟩,
 ⟨(some 213), none, .mv (.t 212)⟩,
 ⟨(some 214), (some (213, true)), .fa 5 (.t 10)⟩,
 ⟨(some 215), (some (213, true)), .ld none (.t 214)⟩,
 ⟨(some 216), (some (213, true)), .fa 5 (.t 11)⟩,
 ⟨(some 217), (some (213, true)), .ld none (.t 216)⟩,
 ⟨(some 218), (some (213, true)), .bin .eql (.t 215) (.t 217)⟩,
 ⟨(some 219), none, .pick (.t 213) (.t 218) (.c (.bool false))⟩,
 ⟨(some 15), none, .mv (.t 219)⟩])
 (.seq (.reg [⟨(some 220), none, .mv (.t 12)⟩,
 ⟨(some 221), none, .mv (.t 220)⟩,
 ⟨(some 222), (some (221, true)), .mv (.t 13)⟩,
 ⟨(some 223), none, .pick (.t 221) (.t 222) (.c (.bool false))⟩,
 ⟨(some 224), none, .mv (.t 223)⟩,
 ⟨(some 225), (some (224, true)), .mv (.t 14)⟩,
 ⟨(some 226), none, .pick (.t 224) (.t 225) (.c (.bool false))⟩,
 ⟨(some 227), none, .mv (.t 226)⟩,
 ⟨(some 228), (some (227, true)), .fa 16 (.t 2)⟩,
 ⟨(some 229), (some (227, true)), .fa 0 (.t 228)⟩,
 ⟨(some 230), (some (227, true)), .ld none (.t 229)⟩,
 ⟨(some 231), (some (227, true)), .fa 16 (.t 3)⟩,
 ⟨(some 232), (some (227, true)), .fa 0 (.t 231)⟩,
 ⟨(some 233), (some (227, true)), .ld none (.t 232)⟩,
 ⟨(some 234), (some (227, true)), .bin .eql (.t 230) (.t 233)⟩,
 ⟨(some 235), none, .pick (.t 227) (.t 234) (.c (.bool false))⟩,
 ⟨(some 236), none, .mv (.t 235)⟩,
 ⟨(some 237), (some (236, true)), .mv (.t 15)⟩,
 ⟨(some 238), none, .pick (.t 236) (.t 237) (.c (.bool false))⟩,
 ⟨(some 4), none, .mv (.t 238)⟩])
 (.ret))))))))))))⟩
theorem ok195 : compF Tryz.prog Tryz.f195 = some c195 := by kernel_rfl

-- internal/strconv.FormatInt
noncomputable def c196 : F' := ⟨54, [.t 4],
 .seq (.reg [⟨(some 4), none, .mv (.c (.str ⟨⟨[]⟩⟩))⟩])
 (.seq (.seq (.reg [⟨(some 10), none, .mv (.t 1)⟩,
 ⟨(some 11), none, .bin .eql (.t 10) (.c (.int .i64 10))⟩])
 (.cond (.t 11)
 (.seq (.seq (.reg [⟨(some 12), none, .mv (.t 0)⟩,
 ⟨(some 13), none, .bin .leq (.c (.int .i64 0)) (.t 12)⟩,
 ⟨(some 14), none, .mv (.t 13)⟩,
 ⟨(some 15), (some (14, true)), .mv (.t 0)⟩,
 ⟨(some 16), (some (14, true)), .bin .lss (.t 15) (.c (.int .i64 100))⟩,
 ⟨(some 17), none, .pick (.t 14) (.t 16) (.c (.bool false))⟩])
 (.cond (.t 17)
 (.seq (.reg [⟨(some 18), none, .mv (.t 0)⟩,
 ⟨(some 19), none, .call (.f 234) [(.t 18)]⟩,
 ⟨(some 4), none, .mv (.t 19)⟩])
 (.ret))
 (.skip)))
 (.seq (.reg [⟨(some 5), none, .new (.agg [(.int .u8 0), (.int .u8 0), (.int .u8 0), (.int .u8 0), (.int .u8 0), (.int .u8 0), (.int .u8 0), (.int .u8 0), (.int .u8 0), (.int .u8 0), (.int .u8 0), (.int .u8 0), (.int .u8 0), (.int .u8 0), (.int .u8 0), (.int .u8 0), (.int .u8 0), (.int .u8 0), (.int .u8 0), (.int .u8 0), (.int .u8 0), (.int .u8 0), (.int .u8 0), (.int .u8 0)])⟩])
 (.seq (.reg [⟨(some 20), none, .mv (.t 0)⟩,
 ⟨(some 21), none, .conv .u64 (.t 20)⟩,
 ⟨(some 6), none, .mv (.t 21)⟩])
 (.seq (.seq (.reg [⟨(some 22), none, .mv (.t 0)⟩,
 ⟨(some 23), none, .bin .lss (.t 22) (.c (.int .i64 0))⟩])
 (.cond (.t 23)
 (.reg [⟨(some 24), none, .mv (.t 6)⟩,
 ⟨(some 25), none, .un .neg (.t 24)⟩,
 ⟨(some 6), none, .mv (.t 25)⟩])
 (.skip)))
 (.seq (.reg [⟨(some 26), none, .mv (.t 6)⟩,
 ⟨(some 27), none, .call (.f 235) [(.t 26)]⟩,
 ⟨(some 7), none, .mv (.t 27)⟩])
 (.seq (.bad)
 (.seq (.seq (.reg [⟨(some 33), none, .mv (.t 0)⟩,
 ⟨(some 34), none, .bin .lss (.t 33) (.c (.int .i64 0))⟩])
 (.cond (.t 34)
 (.seq (.reg [⟨(some 35), none, .ex (.iaa 24 1 (.t 5) (.c (.int .i64 0)))⟩,
 ⟨none, none, .sto 1 (.t 35) (.c (.int .u8 45))⟩])
 (.seq (.bad)
 (.ret)))
 (.skip)))
 (.seq (.bad)
 (.ret)))))))))
 (.skip)))
 (.seq (.reg [⟨(some 45), none, .mv (.t 0)⟩,
 ⟨(some 46), none, .conv .u64 (.t 45)⟩,
 ⟨(some 47), none, .mv (.t 1)⟩,
 ⟨(some 48), none, .mv (.t 0)⟩,
 ⟨(some 49), none, .bin .lss (.t 48) (.c (.int .i64 0))⟩,
 ⟨(some 50), none, .call (.f 237) [(.c (.sl true [])), (.t 46), (.t 47), (.t 49), (.c (.bool false))]⟩,
 ⟨(some 44), none, .mv (.t 50)⟩,
 ⟨(some 51), none, .ext 0 (.t 44)⟩,
 ⟨(some 52), none, .ext 1 (.t 44)⟩,
 ⟨(some 8), none, .mv (.t 51)⟩,
 ⟨(some 9), none, .mv (.t 52)⟩])
 (.seq (.reg [⟨(some 53), none, .mv (.t 9)⟩,
 ⟨(some 4), none, .mv (.t 53)⟩])
 (.ret))))⟩
theorem ok196 : compF Tryz.prog Tryz.f196 = some c196 := by kernel_rfl

end Go.Proofs.YtbifpocccfkhhaaGreatDoor
