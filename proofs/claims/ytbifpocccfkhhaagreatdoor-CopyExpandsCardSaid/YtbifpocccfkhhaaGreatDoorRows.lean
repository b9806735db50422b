/-
  NARROWER THAN 'FOR EVERY INPUT', by the rows' own cells (each row's printed sentence says how): CopyRenames: loops, laid · CopyAlikes: loops, laid · CopyExpands: loops, laid · CopySame: loops, laid · CopyBack: loops, laid · CopyThrough: loops, laid · CopySizes: loops, laid · CopyNames: loops, laid · CopyFrees: loops, laid · CopyOrder: loops, laid · CopyFresh: laid · CopyAparts: loops, laid · CopyApart: loops, laid · CopySubstitutes: loops, laid.
  DERIVED. THE GIVEN ROWS OF THIS SEAT. 14 by the template 'for every input the law returns true; each argument reads behind the call as it read before'; 0 by the template 'total and deterministic' (their statements: YtbifpocccfkhhaaGreatDoorTotals.lean).
  GIVEN WITH THE SEED: the statements are not yours to turn. If you find one false, say at which input.
  Laid BY PROGRAM, IN A SANDBOX (cutbox-rows.mjs): the forced cells as the released guide's own fill.sh prints them over the translation 77ead2b9a5ef7c42… (all of the seat's roots in one cut). By AI agents, Wed Nov 11 2026. No macro, syntax, notation, axiom, sorry.
-/
import Derived.Test.YtbifpocccfkhhaaGreatDoorChecked
import GoSem.Claim
import GoSem.ClaimJoined
import GoSem.ClaimMapViews
import Derived.JoinedTies
import Derived.KernelRfl
namespace Go.Proofs.YtbifpocccfkhhaaGreatDoor
/- THE CELL 'sum', in the pinned program and in every row, IS THE sha256 OF THE DUMP (.gsa) THAT YtbifpocccfkhhaaGreatDoorProg.lean LOADS. Nothing in Lean hashes anything: it is a label: what it is worth is what the hold of that sum in a sandbox is worth. -/
noncomputable def Tryz.pinned : Pinned := { name := "ytbifpocccfkhhaagreatdoor", sum := "77ead2b9a5ef7c42db5a3ee36c41b3f8389300bd187267b13a997b0c6506d223", checked := Tryz.checked }
namespace Rows
def none {H : Type} : Left H := { results := [], args := [] }

/- WHAT THE LISTED PACKAGE-LEVEL VARIABLES READ AS WHEN THE CALL BEGINS. Each datum BY PROGRAM (the guide's laid-datum.mjs) off the statement by which the dump's own 'gosem.cut.vars' lays the variable. In a bare row this is a premise. The card (YtbifpocccfkhhaaGreatDoorCards.lean) ties it to the program's text. -/
def laid_math_bits_deBruijn32tab {H : Type} : DataW H := .agg [.lit (.int .u8 0), .lit (.int .u8 1), .lit (.int .u8 28), .lit (.int .u8 2), .lit (.int .u8 29), .lit (.int .u8 14), .lit (.int .u8 24), .lit (.int .u8 3), .lit (.int .u8 30), .lit (.int .u8 22), .lit (.int .u8 20), .lit (.int .u8 15), .lit (.int .u8 25), .lit (.int .u8 17), .lit (.int .u8 4), .lit (.int .u8 8), .lit (.int .u8 31), .lit (.int .u8 27), .lit (.int .u8 13), .lit (.int .u8 23), .lit (.int .u8 21), .lit (.int .u8 19), .lit (.int .u8 16), .lit (.int .u8 7), .lit (.int .u8 26), .lit (.int .u8 12), .lit (.int .u8 18), .lit (.int .u8 6), .lit (.int .u8 11), .lit (.int .u8 5), .lit (.int .u8 10), .lit (.int .u8 9)]
def laid_math_bits_deBruijn64tab {H : Type} : DataW H := .agg [.lit (.int .u8 0), .lit (.int .u8 1), .lit (.int .u8 56), .lit (.int .u8 2), .lit (.int .u8 57), .lit (.int .u8 49), .lit (.int .u8 28), .lit (.int .u8 3), .lit (.int .u8 61), .lit (.int .u8 58), .lit (.int .u8 42), .lit (.int .u8 50), .lit (.int .u8 38), .lit (.int .u8 29), .lit (.int .u8 17), .lit (.int .u8 4), .lit (.int .u8 62), .lit (.int .u8 47), .lit (.int .u8 59), .lit (.int .u8 36), .lit (.int .u8 45), .lit (.int .u8 43), .lit (.int .u8 51), .lit (.int .u8 22), .lit (.int .u8 53), .lit (.int .u8 39), .lit (.int .u8 33), .lit (.int .u8 30), .lit (.int .u8 24), .lit (.int .u8 18), .lit (.int .u8 12), .lit (.int .u8 5), .lit (.int .u8 63), .lit (.int .u8 55), .lit (.int .u8 48), .lit (.int .u8 27), .lit (.int .u8 60), .lit (.int .u8 41), .lit (.int .u8 37), .lit (.int .u8 16), .lit (.int .u8 46), .lit (.int .u8 35), .lit (.int .u8 44), .lit (.int .u8 21), .lit (.int .u8 52), .lit (.int .u8 32), .lit (.int .u8 23), .lit (.int .u8 11), .lit (.int .u8 54), .lit (.int .u8 26), .lit (.int .u8 40), .lit (.int .u8 15), .lit (.int .u8 34), .lit (.int .u8 20), .lit (.int .u8 31), .lit (.int .u8 10), .lit (.int .u8 25), .lit (.int .u8 14), .lit (.int .u8 19), .lit (.int .u8 9), .lit (.int .u8 13), .lit (.int .u8 8), .lit (.int .u8 7), .lit (.int .u8 6)]
def laid_internal_strconv_uint64pow10 {H : Type} : DataW H := .agg [.lit (.int .u64 1), .lit (.int .u64 10), .lit (.int .u64 100), .lit (.int .u64 1000), .lit (.int .u64 10000), .lit (.int .u64 100000), .lit (.int .u64 1000000), .lit (.int .u64 10000000), .lit (.int .u64 100000000), .lit (.int .u64 1000000000), .lit (.int .u64 10000000000), .lit (.int .u64 100000000000), .lit (.int .u64 1000000000000), .lit (.int .u64 10000000000000), .lit (.int .u64 100000000000000), .lit (.int .u64 1000000000000000), .lit (.int .u64 10000000000000000), .lit (.int .u64 100000000000000000), .lit (.int .u64 1000000000000000000), .lit (.int .u64 10000000000000000000)]
def laid_unicode_White_Space {H : Type} : DataW H := .ptr (.agg [.slice [.agg [.lit (.int .u16 9), .lit (.int .u16 13), .lit (.int .u16 1)], .agg [.lit (.int .u16 32), .lit (.int .u16 133), .lit (.int .u16 101)], .agg [.lit (.int .u16 160), .lit (.int .u16 5760), .lit (.int .u16 5600)], .agg [.lit (.int .u16 8192), .lit (.int .u16 8202), .lit (.int .u16 1)], .agg [.lit (.int .u16 8232), .lit (.int .u16 8233), .lit (.int .u16 1)], .agg [.lit (.int .u16 8239), .lit (.int .u16 8287), .lit (.int .u16 48)], .agg [.lit (.int .u16 12288), .lit (.int .u16 12288), .lit (.int .u16 1)]] [], .nil, .lit (.int .i64 2)])
def laid_strings_asciiSpace {H : Type} : DataW H := .agg [.lit (.int .u8 0), .lit (.int .u8 0), .lit (.int .u8 0), .lit (.int .u8 0), .lit (.int .u8 0), .lit (.int .u8 0), .lit (.int .u8 0), .lit (.int .u8 0), .lit (.int .u8 0), .lit (.int .u8 1), .lit (.int .u8 1), .lit (.int .u8 1), .lit (.int .u8 1), .lit (.int .u8 1), .lit (.int .u8 0), .lit (.int .u8 0), .lit (.int .u8 0), .lit (.int .u8 0), .lit (.int .u8 0), .lit (.int .u8 0), .lit (.int .u8 0), .lit (.int .u8 0), .lit (.int .u8 0), .lit (.int .u8 0), .lit (.int .u8 0), .lit (.int .u8 0), .lit (.int .u8 0), .lit (.int .u8 0), .lit (.int .u8 0), .lit (.int .u8 0), .lit (.int .u8 0), .lit (.int .u8 0), .lit (.int .u8 1), .lit (.int .u8 0), .lit (.int .u8 0), .lit (.int .u8 0), .lit (.int .u8 0), .lit (.int .u8 0), .lit (.int .u8 0), .lit (.int .u8 0), .lit (.int .u8 0), .lit (.int .u8 0), .lit (.int .u8 0), .lit (.int .u8 0), .lit (.int .u8 0), .lit (.int .u8 0), .lit (.int .u8 0), .lit (.int .u8 0), .lit (.int .u8 0), .lit (.int .u8 0), .lit (.int .u8 0), .lit (.int .u8 0), .lit (.int .u8 0), .lit (.int .u8 0), .lit (.int .u8 0), .lit (.int .u8 0), .lit (.int .u8 0), .lit (.int .u8 0), .lit (.int .u8 0), .lit (.int .u8 0), .lit (.int .u8 0), .lit (.int .u8 0), .lit (.int .u8 0), .lit (.int .u8 0), .lit (.int .u8 0), .lit (.int .u8 0), .lit (.int .u8 0), .lit (.int .u8 0), .lit (.int .u8 0), .lit (.int .u8 0), .lit (.int .u8 0), .lit (.int .u8 0), .lit (.int .u8 0), .lit (.int .u8 0), .lit (.int .u8 0), .lit (.int .u8 0), .lit (.int .u8 0), .lit (.int .u8 0), .lit (.int .u8 0), .lit (.int .u8 0), .lit (.int .u8 0), .lit (.int .u8 0), .lit (.int .u8 0), .lit (.int .u8 0), .lit (.int .u8 0), .lit (.int .u8 0), .lit (.int .u8 0), .lit (.int .u8 0), .lit (.int .u8 0), .lit (.int .u8 0), .lit (.int .u8 0), .lit (.int .u8 0), .lit (.int .u8 0), .lit (.int .u8 0), .lit (.int .u8 0), .lit (.int .u8 0), .lit (.int .u8 0), .lit (.int .u8 0), .lit (.int .u8 0), .lit (.int .u8 0), .lit (.int .u8 0), .lit (.int .u8 0), .lit (.int .u8 0), .lit (.int .u8 0), .lit (.int .u8 0), .lit (.int .u8 0), .lit (.int .u8 0), .lit (.int .u8 0), .lit (.int .u8 0), .lit (.int .u8 0), .lit (.int .u8 0), .lit (.int .u8 0), .lit (.int .u8 0), .lit (.int .u8 0), .lit (.int .u8 0), .lit (.int .u8 0), .lit (.int .u8 0), .lit (.int .u8 0), .lit (.int .u8 0), .lit (.int .u8 0), .lit (.int .u8 0), .lit (.int .u8 0), .lit (.int .u8 0), .lit (.int .u8 0), .lit (.int .u8 0), .lit (.int .u8 0), .lit (.int .u8 0), .lit (.int .u8 0), .lit (.int .u8 0), .lit (.int .u8 0), .lit (.int .u8 0), .lit (.int .u8 0), .lit (.int .u8 0), .lit (.int .u8 0), .lit (.int .u8 0), .lit (.int .u8 0), .lit (.int .u8 0), .lit (.int .u8 0), .lit (.int .u8 0), .lit (.int .u8 0), .lit (.int .u8 0), .lit (.int .u8 0), .lit (.int .u8 0), .lit (.int .u8 0), .lit (.int .u8 0), .lit (.int .u8 0), .lit (.int .u8 0), .lit (.int .u8 0), .lit (.int .u8 0), .lit (.int .u8 0), .lit (.int .u8 0), .lit (.int .u8 0), .lit (.int .u8 0), .lit (.int .u8 0), .lit (.int .u8 0), .lit (.int .u8 0), .lit (.int .u8 0), .lit (.int .u8 0), .lit (.int .u8 0), .lit (.int .u8 0), .lit (.int .u8 0), .lit (.int .u8 0), .lit (.int .u8 0), .lit (.int .u8 0), .lit (.int .u8 0), .lit (.int .u8 0), .lit (.int .u8 0), .lit (.int .u8 0), .lit (.int .u8 0), .lit (.int .u8 0), .lit (.int .u8 0), .lit (.int .u8 0), .lit (.int .u8 0), .lit (.int .u8 0), .lit (.int .u8 0), .lit (.int .u8 0), .lit (.int .u8 0), .lit (.int .u8 0), .lit (.int .u8 0), .lit (.int .u8 0), .lit (.int .u8 0), .lit (.int .u8 0), .lit (.int .u8 0), .lit (.int .u8 0), .lit (.int .u8 0), .lit (.int .u8 0), .lit (.int .u8 0), .lit (.int .u8 0), .lit (.int .u8 0), .lit (.int .u8 0), .lit (.int .u8 0), .lit (.int .u8 0), .lit (.int .u8 0), .lit (.int .u8 0), .lit (.int .u8 0), .lit (.int .u8 0), .lit (.int .u8 0), .lit (.int .u8 0), .lit (.int .u8 0), .lit (.int .u8 0), .lit (.int .u8 0), .lit (.int .u8 0), .lit (.int .u8 0), .lit (.int .u8 0), .lit (.int .u8 0), .lit (.int .u8 0), .lit (.int .u8 0), .lit (.int .u8 0), .lit (.int .u8 0), .lit (.int .u8 0), .lit (.int .u8 0), .lit (.int .u8 0), .lit (.int .u8 0), .lit (.int .u8 0), .lit (.int .u8 0), .lit (.int .u8 0), .lit (.int .u8 0), .lit (.int .u8 0), .lit (.int .u8 0), .lit (.int .u8 0), .lit (.int .u8 0), .lit (.int .u8 0), .lit (.int .u8 0), .lit (.int .u8 0), .lit (.int .u8 0), .lit (.int .u8 0), .lit (.int .u8 0), .lit (.int .u8 0), .lit (.int .u8 0), .lit (.int .u8 0), .lit (.int .u8 0), .lit (.int .u8 0), .lit (.int .u8 0), .lit (.int .u8 0), .lit (.int .u8 0), .lit (.int .u8 0), .lit (.int .u8 0), .lit (.int .u8 0), .lit (.int .u8 0), .lit (.int .u8 0), .lit (.int .u8 0), .lit (.int .u8 0), .lit (.int .u8 0), .lit (.int .u8 0), .lit (.int .u8 0), .lit (.int .u8 0), .lit (.int .u8 0), .lit (.int .u8 0), .lit (.int .u8 0), .lit (.int .u8 0), .lit (.int .u8 0), .lit (.int .u8 0), .lit (.int .u8 0), .lit (.int .u8 0), .lit (.int .u8 0), .lit (.int .u8 0)]

/-- 'manorboylaw09.CopyRenames': WHATEVER THE INPUT: true; the input reads as it did. -/
def copyRenamesSpec : ChangeSpec := { name := "copyRenames", fn := fun _ => fun
  | [d1, d2, d3] => { results := [.lit (.bool true)], args := [d1, d2, d3] }
  | _ => none }
def copyRenamesRow : OpenClaim := { program := "ytbifpocccfkhhaagreatdoor", sum := "77ead2b9a5ef7c42db5a3ee36c41b3f8389300bd187267b13a997b0c6506d223", func := "manorboy/manorboylaw09.CopyRenames", spec := "copyRenames", unfollowed := true, recurses := true, named := ["strings.asciiSpace", "unicode.White_Space", "internal/strconv.uint64pow10", "math/bits.deBruijn32tab", "math/bits.deBruijn64tab"], loops := true, apart := false, laid := [("math/bits.deBruijn32tab", laid_math_bits_deBruijn32tab), ("math/bits.deBruijn64tab", laid_math_bits_deBruijn64tab), ("internal/strconv.uint64pow10", laid_internal_strconv_uint64pow10), ("unicode.White_Space", laid_unicode_White_Space), ("strings.asciiSpace", laid_strings_asciiSpace)] }
def CopyRenamesSaid : Prop := copyRenamesRow.holds Tryz.pinned (OpenSpec.ofChange copyRenamesSpec)

/-- ITS FALSE NEIGHBOUR: 'it returns false'. Refute it at one input. -/
def copyRenamesWrong : ChangeSpec := { name := "copyRenames", fn := fun _ => fun
  | [d1, d2, d3] => { results := [.lit (.bool false)], args := [d1, d2, d3] }
  | _ => none }
def CopyRenamesWrongFalsely : Prop := copyRenamesRow.holds Tryz.pinned (OpenSpec.ofChange copyRenamesWrong)

/-- 'manorboylaw09.CopyAlikes': WHATEVER THE INPUT: true; the input reads as it did. -/
def copyAlikesSpec : ChangeSpec := { name := "copyAlikes", fn := fun _ => fun
  | [d1, d2] => { results := [.lit (.bool true)], args := [d1, d2] }
  | _ => none }
def copyAlikesRow : OpenClaim := { program := "ytbifpocccfkhhaagreatdoor", sum := "77ead2b9a5ef7c42db5a3ee36c41b3f8389300bd187267b13a997b0c6506d223", func := "manorboy/manorboylaw09.CopyAlikes", spec := "copyAlikes", unfollowed := true, recurses := true, named := ["strings.asciiSpace", "unicode.White_Space", "internal/strconv.uint64pow10", "math/bits.deBruijn32tab", "math/bits.deBruijn64tab"], loops := true, apart := false, laid := [("math/bits.deBruijn32tab", laid_math_bits_deBruijn32tab), ("math/bits.deBruijn64tab", laid_math_bits_deBruijn64tab), ("internal/strconv.uint64pow10", laid_internal_strconv_uint64pow10), ("unicode.White_Space", laid_unicode_White_Space), ("strings.asciiSpace", laid_strings_asciiSpace)] }
def CopyAlikesSaid : Prop := copyAlikesRow.holds Tryz.pinned (OpenSpec.ofChange copyAlikesSpec)

/-- ITS FALSE NEIGHBOUR: 'it returns false'. Refute it at one input. -/
def copyAlikesWrong : ChangeSpec := { name := "copyAlikes", fn := fun _ => fun
  | [d1, d2] => { results := [.lit (.bool false)], args := [d1, d2] }
  | _ => none }
def CopyAlikesWrongFalsely : Prop := copyAlikesRow.holds Tryz.pinned (OpenSpec.ofChange copyAlikesWrong)

/-- 'manorboylaw09.CopyExpands': WHATEVER THE INPUT: true; the input reads as it did. -/
def copyExpandsSpec : ChangeSpec := { name := "copyExpands", fn := fun _ => fun
  | [d1, d2] => { results := [.lit (.bool true)], args := [d1, d2] }
  | _ => none }
def copyExpandsRow : OpenClaim := { program := "ytbifpocccfkhhaagreatdoor", sum := "77ead2b9a5ef7c42db5a3ee36c41b3f8389300bd187267b13a997b0c6506d223", func := "manorboy/manorboylaw09.CopyExpands", spec := "copyExpands", unfollowed := true, recurses := true, named := ["strings.asciiSpace", "unicode.White_Space", "internal/strconv.uint64pow10", "math/bits.deBruijn32tab", "math/bits.deBruijn64tab"], loops := true, apart := false, laid := [("math/bits.deBruijn32tab", laid_math_bits_deBruijn32tab), ("math/bits.deBruijn64tab", laid_math_bits_deBruijn64tab), ("internal/strconv.uint64pow10", laid_internal_strconv_uint64pow10), ("unicode.White_Space", laid_unicode_White_Space), ("strings.asciiSpace", laid_strings_asciiSpace)] }
def CopyExpandsSaid : Prop := copyExpandsRow.holds Tryz.pinned (OpenSpec.ofChange copyExpandsSpec)

/-- ITS FALSE NEIGHBOUR: 'it returns false'. Refute it at one input. -/
def copyExpandsWrong : ChangeSpec := { name := "copyExpands", fn := fun _ => fun
  | [d1, d2] => { results := [.lit (.bool false)], args := [d1, d2] }
  | _ => none }
def CopyExpandsWrongFalsely : Prop := copyExpandsRow.holds Tryz.pinned (OpenSpec.ofChange copyExpandsWrong)

/-- 'manorboylaw09.CopySame': WHATEVER THE INPUT: true; the input reads as it did. -/
def copySameSpec : ChangeSpec := { name := "copySame", fn := fun _ => fun
  | [d1, d2, d3] => { results := [.lit (.bool true)], args := [d1, d2, d3] }
  | _ => none }
def copySameRow : OpenClaim := { program := "ytbifpocccfkhhaagreatdoor", sum := "77ead2b9a5ef7c42db5a3ee36c41b3f8389300bd187267b13a997b0c6506d223", func := "manorboy/manorboylaw09.CopySame", spec := "copySame", unfollowed := true, recurses := true, named := ["strings.asciiSpace", "unicode.White_Space", "internal/strconv.uint64pow10", "math/bits.deBruijn32tab", "math/bits.deBruijn64tab"], loops := true, apart := false, laid := [("math/bits.deBruijn32tab", laid_math_bits_deBruijn32tab), ("math/bits.deBruijn64tab", laid_math_bits_deBruijn64tab), ("internal/strconv.uint64pow10", laid_internal_strconv_uint64pow10), ("unicode.White_Space", laid_unicode_White_Space), ("strings.asciiSpace", laid_strings_asciiSpace)] }
def CopySameSaid : Prop := copySameRow.holds Tryz.pinned (OpenSpec.ofChange copySameSpec)

/-- ITS FALSE NEIGHBOUR: 'it returns false'. Refute it at one input. -/
def copySameWrong : ChangeSpec := { name := "copySame", fn := fun _ => fun
  | [d1, d2, d3] => { results := [.lit (.bool false)], args := [d1, d2, d3] }
  | _ => none }
def CopySameWrongFalsely : Prop := copySameRow.holds Tryz.pinned (OpenSpec.ofChange copySameWrong)

/-- 'manorboylaw09.CopyBack': WHATEVER THE INPUT: true; the input reads as it did. -/
def copyBackSpec : ChangeSpec := { name := "copyBack", fn := fun _ => fun
  | [d1, d2, d3] => { results := [.lit (.bool true)], args := [d1, d2, d3] }
  | _ => none }
def copyBackRow : OpenClaim := { program := "ytbifpocccfkhhaagreatdoor", sum := "77ead2b9a5ef7c42db5a3ee36c41b3f8389300bd187267b13a997b0c6506d223", func := "manorboy/manorboylaw09.CopyBack", spec := "copyBack", unfollowed := true, recurses := true, named := ["strings.asciiSpace", "unicode.White_Space", "internal/strconv.uint64pow10", "math/bits.deBruijn32tab", "math/bits.deBruijn64tab"], loops := true, apart := false, laid := [("math/bits.deBruijn32tab", laid_math_bits_deBruijn32tab), ("math/bits.deBruijn64tab", laid_math_bits_deBruijn64tab), ("internal/strconv.uint64pow10", laid_internal_strconv_uint64pow10), ("unicode.White_Space", laid_unicode_White_Space), ("strings.asciiSpace", laid_strings_asciiSpace)] }
def CopyBackSaid : Prop := copyBackRow.holds Tryz.pinned (OpenSpec.ofChange copyBackSpec)

/-- ITS FALSE NEIGHBOUR: 'it returns false'. Refute it at one input. -/
def copyBackWrong : ChangeSpec := { name := "copyBack", fn := fun _ => fun
  | [d1, d2, d3] => { results := [.lit (.bool false)], args := [d1, d2, d3] }
  | _ => none }
def CopyBackWrongFalsely : Prop := copyBackRow.holds Tryz.pinned (OpenSpec.ofChange copyBackWrong)

/-- 'manorboylaw09.CopyThrough': WHATEVER THE INPUT: true; the input reads as it did. -/
def copyThroughSpec : ChangeSpec := { name := "copyThrough", fn := fun _ => fun
  | [d1, d2, d3, d4] => { results := [.lit (.bool true)], args := [d1, d2, d3, d4] }
  | _ => none }
def copyThroughRow : OpenClaim := { program := "ytbifpocccfkhhaagreatdoor", sum := "77ead2b9a5ef7c42db5a3ee36c41b3f8389300bd187267b13a997b0c6506d223", func := "manorboy/manorboylaw09.CopyThrough", spec := "copyThrough", unfollowed := true, recurses := true, named := ["strings.asciiSpace", "unicode.White_Space", "internal/strconv.uint64pow10", "math/bits.deBruijn32tab", "math/bits.deBruijn64tab"], loops := true, apart := false, laid := [("math/bits.deBruijn32tab", laid_math_bits_deBruijn32tab), ("math/bits.deBruijn64tab", laid_math_bits_deBruijn64tab), ("internal/strconv.uint64pow10", laid_internal_strconv_uint64pow10), ("unicode.White_Space", laid_unicode_White_Space), ("strings.asciiSpace", laid_strings_asciiSpace)] }
def CopyThroughSaid : Prop := copyThroughRow.holds Tryz.pinned (OpenSpec.ofChange copyThroughSpec)

/-- ITS FALSE NEIGHBOUR: 'it returns false'. Refute it at one input. -/
def copyThroughWrong : ChangeSpec := { name := "copyThrough", fn := fun _ => fun
  | [d1, d2, d3, d4] => { results := [.lit (.bool false)], args := [d1, d2, d3, d4] }
  | _ => none }
def CopyThroughWrongFalsely : Prop := copyThroughRow.holds Tryz.pinned (OpenSpec.ofChange copyThroughWrong)

/-- 'manorboylaw09.CopySizes': WHATEVER THE INPUT: true; the input reads as it did. -/
def copySizesSpec : ChangeSpec := { name := "copySizes", fn := fun _ => fun
  | [d1, d2, d3, d4] => { results := [.lit (.bool true)], args := [d1, d2, d3, d4] }
  | _ => none }
def copySizesRow : OpenClaim := { program := "ytbifpocccfkhhaagreatdoor", sum := "77ead2b9a5ef7c42db5a3ee36c41b3f8389300bd187267b13a997b0c6506d223", func := "manorboy/manorboylaw09.CopySizes", spec := "copySizes", unfollowed := true, recurses := true, named := ["strings.asciiSpace", "unicode.White_Space", "internal/strconv.uint64pow10", "math/bits.deBruijn32tab", "math/bits.deBruijn64tab"], loops := true, apart := false, laid := [("math/bits.deBruijn32tab", laid_math_bits_deBruijn32tab), ("math/bits.deBruijn64tab", laid_math_bits_deBruijn64tab), ("internal/strconv.uint64pow10", laid_internal_strconv_uint64pow10), ("unicode.White_Space", laid_unicode_White_Space), ("strings.asciiSpace", laid_strings_asciiSpace)] }
def CopySizesSaid : Prop := copySizesRow.holds Tryz.pinned (OpenSpec.ofChange copySizesSpec)

/-- ITS FALSE NEIGHBOUR: 'it returns false'. Refute it at one input. -/
def copySizesWrong : ChangeSpec := { name := "copySizes", fn := fun _ => fun
  | [d1, d2, d3, d4] => { results := [.lit (.bool false)], args := [d1, d2, d3, d4] }
  | _ => none }
def CopySizesWrongFalsely : Prop := copySizesRow.holds Tryz.pinned (OpenSpec.ofChange copySizesWrong)

/-- 'manorboylaw09.CopyNames': WHATEVER THE INPUT: true; the input reads as it did. -/
def copyNamesSpec : ChangeSpec := { name := "copyNames", fn := fun _ => fun
  | [d1, d2] => { results := [.lit (.bool true)], args := [d1, d2] }
  | _ => none }
def copyNamesRow : OpenClaim := { program := "ytbifpocccfkhhaagreatdoor", sum := "77ead2b9a5ef7c42db5a3ee36c41b3f8389300bd187267b13a997b0c6506d223", func := "manorboy/manorboylaw09.CopyNames", spec := "copyNames", unfollowed := true, recurses := true, named := ["strings.asciiSpace", "unicode.White_Space", "internal/strconv.uint64pow10", "math/bits.deBruijn32tab", "math/bits.deBruijn64tab"], loops := true, apart := false, laid := [("math/bits.deBruijn32tab", laid_math_bits_deBruijn32tab), ("math/bits.deBruijn64tab", laid_math_bits_deBruijn64tab), ("internal/strconv.uint64pow10", laid_internal_strconv_uint64pow10), ("unicode.White_Space", laid_unicode_White_Space), ("strings.asciiSpace", laid_strings_asciiSpace)] }
def CopyNamesSaid : Prop := copyNamesRow.holds Tryz.pinned (OpenSpec.ofChange copyNamesSpec)

/-- ITS FALSE NEIGHBOUR: 'it returns false'. Refute it at one input. -/
def copyNamesWrong : ChangeSpec := { name := "copyNames", fn := fun _ => fun
  | [d1, d2] => { results := [.lit (.bool false)], args := [d1, d2] }
  | _ => none }
def CopyNamesWrongFalsely : Prop := copyNamesRow.holds Tryz.pinned (OpenSpec.ofChange copyNamesWrong)

/-- 'manorboylaw09.CopyFrees': WHATEVER THE INPUT: true; the input reads as it did. -/
def copyFreesSpec : ChangeSpec := { name := "copyFrees", fn := fun _ => fun
  | [d1, d2, d3] => { results := [.lit (.bool true)], args := [d1, d2, d3] }
  | _ => none }
def copyFreesRow : OpenClaim := { program := "ytbifpocccfkhhaagreatdoor", sum := "77ead2b9a5ef7c42db5a3ee36c41b3f8389300bd187267b13a997b0c6506d223", func := "manorboy/manorboylaw09.CopyFrees", spec := "copyFrees", unfollowed := true, recurses := true, named := ["strings.asciiSpace", "unicode.White_Space", "internal/strconv.uint64pow10", "math/bits.deBruijn32tab", "math/bits.deBruijn64tab"], loops := true, apart := false, laid := [("math/bits.deBruijn32tab", laid_math_bits_deBruijn32tab), ("math/bits.deBruijn64tab", laid_math_bits_deBruijn64tab), ("internal/strconv.uint64pow10", laid_internal_strconv_uint64pow10), ("unicode.White_Space", laid_unicode_White_Space), ("strings.asciiSpace", laid_strings_asciiSpace)] }
def CopyFreesSaid : Prop := copyFreesRow.holds Tryz.pinned (OpenSpec.ofChange copyFreesSpec)

/-- ITS FALSE NEIGHBOUR: 'it returns false'. Refute it at one input. -/
def copyFreesWrong : ChangeSpec := { name := "copyFrees", fn := fun _ => fun
  | [d1, d2, d3] => { results := [.lit (.bool false)], args := [d1, d2, d3] }
  | _ => none }
def CopyFreesWrongFalsely : Prop := copyFreesRow.holds Tryz.pinned (OpenSpec.ofChange copyFreesWrong)

/-- 'manorboylaw09.CopyOrder': WHATEVER THE INPUT: true; the input reads as it did. -/
def copyOrderSpec : ChangeSpec := { name := "copyOrder", fn := fun _ => fun
  | [d1, d2, d3, d4, d5] => { results := [.lit (.bool true)], args := [d1, d2, d3, d4, d5] }
  | _ => none }
def copyOrderRow : OpenClaim := { program := "ytbifpocccfkhhaagreatdoor", sum := "77ead2b9a5ef7c42db5a3ee36c41b3f8389300bd187267b13a997b0c6506d223", func := "manorboy/manorboylaw09.CopyOrder", spec := "copyOrder", unfollowed := true, recurses := true, named := ["strings.asciiSpace", "unicode.White_Space", "internal/strconv.uint64pow10", "math/bits.deBruijn32tab", "math/bits.deBruijn64tab"], loops := true, apart := false, laid := [("math/bits.deBruijn32tab", laid_math_bits_deBruijn32tab), ("math/bits.deBruijn64tab", laid_math_bits_deBruijn64tab), ("internal/strconv.uint64pow10", laid_internal_strconv_uint64pow10), ("unicode.White_Space", laid_unicode_White_Space), ("strings.asciiSpace", laid_strings_asciiSpace)] }
def CopyOrderSaid : Prop := copyOrderRow.holds Tryz.pinned (OpenSpec.ofChange copyOrderSpec)

/-- ITS FALSE NEIGHBOUR: 'it returns false'. Refute it at one input. -/
def copyOrderWrong : ChangeSpec := { name := "copyOrder", fn := fun _ => fun
  | [d1, d2, d3, d4, d5] => { results := [.lit (.bool false)], args := [d1, d2, d3, d4, d5] }
  | _ => none }
def CopyOrderWrongFalsely : Prop := copyOrderRow.holds Tryz.pinned (OpenSpec.ofChange copyOrderWrong)

/-- 'manorboylaw09.CopyFresh': WHATEVER THE INPUT: true; the input reads as it did. -/
def copyFreshSpec : ChangeSpec := { name := "copyFresh", fn := fun _ => fun
  | [d1, d2] => { results := [.lit (.bool true)], args := [d1, d2] }
  | _ => none }
def copyFreshRow : OpenClaim := { program := "ytbifpocccfkhhaagreatdoor", sum := "77ead2b9a5ef7c42db5a3ee36c41b3f8389300bd187267b13a997b0c6506d223", func := "manorboy/manorboylaw09.CopyFresh", spec := "copyFresh", unfollowed := true, recurses := true, named := ["strings.asciiSpace", "unicode.White_Space", "internal/strconv.uint64pow10", "math/bits.deBruijn32tab", "math/bits.deBruijn64tab"], apart := false, laid := [("math/bits.deBruijn32tab", laid_math_bits_deBruijn32tab), ("math/bits.deBruijn64tab", laid_math_bits_deBruijn64tab), ("internal/strconv.uint64pow10", laid_internal_strconv_uint64pow10), ("unicode.White_Space", laid_unicode_White_Space), ("strings.asciiSpace", laid_strings_asciiSpace)] }
def CopyFreshSaid : Prop := copyFreshRow.holds Tryz.pinned (OpenSpec.ofChange copyFreshSpec)

/-- ITS FALSE NEIGHBOUR: 'it returns false'. Refute it at one input. -/
def copyFreshWrong : ChangeSpec := { name := "copyFresh", fn := fun _ => fun
  | [d1, d2] => { results := [.lit (.bool false)], args := [d1, d2] }
  | _ => none }
def CopyFreshWrongFalsely : Prop := copyFreshRow.holds Tryz.pinned (OpenSpec.ofChange copyFreshWrong)

/-- 'manorboylaw09.CopyAparts': WHATEVER THE INPUT: true; the input reads as it did. -/
def copyApartsSpec : ChangeSpec := { name := "copyAparts", fn := fun _ => fun
  | [d1, d2] => { results := [.lit (.bool true)], args := [d1, d2] }
  | _ => none }
def copyApartsRow : OpenClaim := { program := "ytbifpocccfkhhaagreatdoor", sum := "77ead2b9a5ef7c42db5a3ee36c41b3f8389300bd187267b13a997b0c6506d223", func := "manorboy/manorboylaw09.CopyAparts", spec := "copyAparts", unfollowed := true, recurses := true, named := ["strings.asciiSpace", "unicode.White_Space", "internal/strconv.uint64pow10", "math/bits.deBruijn32tab", "math/bits.deBruijn64tab"], loops := true, apart := false, laid := [("math/bits.deBruijn32tab", laid_math_bits_deBruijn32tab), ("math/bits.deBruijn64tab", laid_math_bits_deBruijn64tab), ("internal/strconv.uint64pow10", laid_internal_strconv_uint64pow10), ("unicode.White_Space", laid_unicode_White_Space), ("strings.asciiSpace", laid_strings_asciiSpace)] }
def CopyApartsSaid : Prop := copyApartsRow.holds Tryz.pinned (OpenSpec.ofChange copyApartsSpec)

/-- ITS FALSE NEIGHBOUR: 'it returns false'. Refute it at one input. -/
def copyApartsWrong : ChangeSpec := { name := "copyAparts", fn := fun _ => fun
  | [d1, d2] => { results := [.lit (.bool false)], args := [d1, d2] }
  | _ => none }
def CopyApartsWrongFalsely : Prop := copyApartsRow.holds Tryz.pinned (OpenSpec.ofChange copyApartsWrong)

/-- 'manorboylaw09.CopyApart': WHATEVER THE INPUT: true; the input reads as it did. -/
def copyApartSpec : ChangeSpec := { name := "copyApart", fn := fun _ => fun
  | [d1, d2, d3, d4] => { results := [.lit (.bool true)], args := [d1, d2, d3, d4] }
  | _ => none }
def copyApartRow : OpenClaim := { program := "ytbifpocccfkhhaagreatdoor", sum := "77ead2b9a5ef7c42db5a3ee36c41b3f8389300bd187267b13a997b0c6506d223", func := "manorboy/manorboylaw09.CopyApart", spec := "copyApart", unfollowed := true, recurses := true, named := ["strings.asciiSpace", "unicode.White_Space", "internal/strconv.uint64pow10", "math/bits.deBruijn32tab", "math/bits.deBruijn64tab"], loops := true, apart := false, laid := [("math/bits.deBruijn32tab", laid_math_bits_deBruijn32tab), ("math/bits.deBruijn64tab", laid_math_bits_deBruijn64tab), ("internal/strconv.uint64pow10", laid_internal_strconv_uint64pow10), ("unicode.White_Space", laid_unicode_White_Space), ("strings.asciiSpace", laid_strings_asciiSpace)] }
def CopyApartSaid : Prop := copyApartRow.holds Tryz.pinned (OpenSpec.ofChange copyApartSpec)

/-- ITS FALSE NEIGHBOUR: 'it returns false'. Refute it at one input. -/
def copyApartWrong : ChangeSpec := { name := "copyApart", fn := fun _ => fun
  | [d1, d2, d3, d4] => { results := [.lit (.bool false)], args := [d1, d2, d3, d4] }
  | _ => none }
def CopyApartWrongFalsely : Prop := copyApartRow.holds Tryz.pinned (OpenSpec.ofChange copyApartWrong)

/-- 'manorboylaw09.CopySubstitutes': WHATEVER THE INPUT: true; the input reads as it did. -/
def copySubstitutesSpec : ChangeSpec := { name := "copySubstitutes", fn := fun _ => fun
  | [d1, d2, d3, d4] => { results := [.lit (.bool true)], args := [d1, d2, d3, d4] }
  | _ => none }
def copySubstitutesRow : OpenClaim := { program := "ytbifpocccfkhhaagreatdoor", sum := "77ead2b9a5ef7c42db5a3ee36c41b3f8389300bd187267b13a997b0c6506d223", func := "manorboy/manorboylaw09.CopySubstitutes", spec := "copySubstitutes", unfollowed := true, recurses := true, named := ["strings.asciiSpace", "unicode.White_Space", "internal/strconv.uint64pow10", "math/bits.deBruijn32tab", "math/bits.deBruijn64tab"], loops := true, apart := false, laid := [("math/bits.deBruijn32tab", laid_math_bits_deBruijn32tab), ("math/bits.deBruijn64tab", laid_math_bits_deBruijn64tab), ("internal/strconv.uint64pow10", laid_internal_strconv_uint64pow10), ("unicode.White_Space", laid_unicode_White_Space), ("strings.asciiSpace", laid_strings_asciiSpace)] }
def CopySubstitutesSaid : Prop := copySubstitutesRow.holds Tryz.pinned (OpenSpec.ofChange copySubstitutesSpec)

/-- ITS FALSE NEIGHBOUR: 'it returns false'. Refute it at one input. -/
def copySubstitutesWrong : ChangeSpec := { name := "copySubstitutes", fn := fun _ => fun
  | [d1, d2, d3, d4] => { results := [.lit (.bool false)], args := [d1, d2, d3, d4] }
  | _ => none }
def CopySubstitutesWrongFalsely : Prop := copySubstitutesRow.holds Tryz.pinned (OpenSpec.ofChange copySubstitutesWrong)

/- THE SECOND FORM. 'bulk': how many values and letters a reading holds, each counted each time it is reached (what is shared counts as often as it is met; a slice's spare places count too). A statement '..UptoSaid' is the law's where the arguments, and the package variables that the reading takes, are together of bulk at most 1048576: NARROWER than '..Said'. Prove '..Said' where nothing that the law and all that it calls make is longer than what came in: it says more and counts as full. Else prove '..UptoSaid'. A law counts once. -/
mutual
def uptoBulk {H : Type} : DataW H → Nat
  | .lit (.string bytes) => bytes.length + 1
  | .lit _ => 1
  | .nil => 1
  | .ptr d => uptoBulk d + 1
  | .slice elems spare => uptoBulkAll elems + uptoBulkAll spare + 1
  | .agg parts => uptoBulkAll parts + 1
  | .iface _ d => uptoBulk d + 1
  | .map entries => uptoBulkEntries entries + 1
  | .held _ => 1
def uptoBulkAll {H : Type} : List (DataW H) → Nat
  | [] => 0
  | d :: r => uptoBulk d + uptoBulkAll r
def uptoBulkEntries {H : Type} : List (Lit × DataW H) → Nat
  | [] => 0
  | x :: r => uptoBulkEntry x + uptoBulkEntries r
def uptoBulkEntry {H : Type} : Lit × DataW H → Nat
  | (.string bytes, d) => bytes.length + uptoBulk d + 1
  | (_, d) => uptoBulk d + 1
 end
def uptoSmall : (H : Type) → List (DataW H) → Bool := fun _ ds => decide (uptoBulkAll ds ≤ 1048576)
def OpenSpec.upto (s : _root_.Go.ChangeSpec) : _root_.Go.OpenSpec := { _root_.Go.OpenSpec.ofChange s with cond := some uptoSmall }

/-- 'manorboylaw09.CopyRenames', WHERE WHAT IT READS IS OF BULK AT MOST 1048576: true; the input reads as it did. -/
def copyRenamesUptoRow : OpenClaim := { program := "ytbifpocccfkhhaagreatdoor", sum := "77ead2b9a5ef7c42db5a3ee36c41b3f8389300bd187267b13a997b0c6506d223", func := "manorboy/manorboylaw09.CopyRenames", spec := "copyRenames", unfollowed := true, recurses := true, named := ["strings.asciiSpace", "unicode.White_Space", "internal/strconv.uint64pow10", "math/bits.deBruijn32tab", "math/bits.deBruijn64tab"], loops := true, apart := false, laid := [("math/bits.deBruijn32tab", laid_math_bits_deBruijn32tab), ("math/bits.deBruijn64tab", laid_math_bits_deBruijn64tab), ("internal/strconv.uint64pow10", laid_internal_strconv_uint64pow10), ("unicode.White_Space", laid_unicode_White_Space), ("strings.asciiSpace", laid_strings_asciiSpace)], narrowed := true }
def CopyRenamesUptoSaid : Prop := copyRenamesUptoRow.holds Tryz.pinned (OpenSpec.upto copyRenamesSpec)

/-- 'manorboylaw09.CopyAlikes', WHERE WHAT IT READS IS OF BULK AT MOST 1048576: true; the input reads as it did. -/
def copyAlikesUptoRow : OpenClaim := { program := "ytbifpocccfkhhaagreatdoor", sum := "77ead2b9a5ef7c42db5a3ee36c41b3f8389300bd187267b13a997b0c6506d223", func := "manorboy/manorboylaw09.CopyAlikes", spec := "copyAlikes", unfollowed := true, recurses := true, named := ["strings.asciiSpace", "unicode.White_Space", "internal/strconv.uint64pow10", "math/bits.deBruijn32tab", "math/bits.deBruijn64tab"], loops := true, apart := false, laid := [("math/bits.deBruijn32tab", laid_math_bits_deBruijn32tab), ("math/bits.deBruijn64tab", laid_math_bits_deBruijn64tab), ("internal/strconv.uint64pow10", laid_internal_strconv_uint64pow10), ("unicode.White_Space", laid_unicode_White_Space), ("strings.asciiSpace", laid_strings_asciiSpace)], narrowed := true }
def CopyAlikesUptoSaid : Prop := copyAlikesUptoRow.holds Tryz.pinned (OpenSpec.upto copyAlikesSpec)

/-- 'manorboylaw09.CopyExpands', WHERE WHAT IT READS IS OF BULK AT MOST 1048576: true; the input reads as it did. -/
def copyExpandsUptoRow : OpenClaim := { program := "ytbifpocccfkhhaagreatdoor", sum := "77ead2b9a5ef7c42db5a3ee36c41b3f8389300bd187267b13a997b0c6506d223", func := "manorboy/manorboylaw09.CopyExpands", spec := "copyExpands", unfollowed := true, recurses := true, named := ["strings.asciiSpace", "unicode.White_Space", "internal/strconv.uint64pow10", "math/bits.deBruijn32tab", "math/bits.deBruijn64tab"], loops := true, apart := false, laid := [("math/bits.deBruijn32tab", laid_math_bits_deBruijn32tab), ("math/bits.deBruijn64tab", laid_math_bits_deBruijn64tab), ("internal/strconv.uint64pow10", laid_internal_strconv_uint64pow10), ("unicode.White_Space", laid_unicode_White_Space), ("strings.asciiSpace", laid_strings_asciiSpace)], narrowed := true }
def CopyExpandsUptoSaid : Prop := copyExpandsUptoRow.holds Tryz.pinned (OpenSpec.upto copyExpandsSpec)

/-- 'manorboylaw09.CopySame', WHERE WHAT IT READS IS OF BULK AT MOST 1048576: true; the input reads as it did. -/
def copySameUptoRow : OpenClaim := { program := "ytbifpocccfkhhaagreatdoor", sum := "77ead2b9a5ef7c42db5a3ee36c41b3f8389300bd187267b13a997b0c6506d223", func := "manorboy/manorboylaw09.CopySame", spec := "copySame", unfollowed := true, recurses := true, named := ["strings.asciiSpace", "unicode.White_Space", "internal/strconv.uint64pow10", "math/bits.deBruijn32tab", "math/bits.deBruijn64tab"], loops := true, apart := false, laid := [("math/bits.deBruijn32tab", laid_math_bits_deBruijn32tab), ("math/bits.deBruijn64tab", laid_math_bits_deBruijn64tab), ("internal/strconv.uint64pow10", laid_internal_strconv_uint64pow10), ("unicode.White_Space", laid_unicode_White_Space), ("strings.asciiSpace", laid_strings_asciiSpace)], narrowed := true }
def CopySameUptoSaid : Prop := copySameUptoRow.holds Tryz.pinned (OpenSpec.upto copySameSpec)

/-- 'manorboylaw09.CopyBack', WHERE WHAT IT READS IS OF BULK AT MOST 1048576: true; the input reads as it did. -/
def copyBackUptoRow : OpenClaim := { program := "ytbifpocccfkhhaagreatdoor", sum := "77ead2b9a5ef7c42db5a3ee36c41b3f8389300bd187267b13a997b0c6506d223", func := "manorboy/manorboylaw09.CopyBack", spec := "copyBack", unfollowed := true, recurses := true, named := ["strings.asciiSpace", "unicode.White_Space", "internal/strconv.uint64pow10", "math/bits.deBruijn32tab", "math/bits.deBruijn64tab"], loops := true, apart := false, laid := [("math/bits.deBruijn32tab", laid_math_bits_deBruijn32tab), ("math/bits.deBruijn64tab", laid_math_bits_deBruijn64tab), ("internal/strconv.uint64pow10", laid_internal_strconv_uint64pow10), ("unicode.White_Space", laid_unicode_White_Space), ("strings.asciiSpace", laid_strings_asciiSpace)], narrowed := true }
def CopyBackUptoSaid : Prop := copyBackUptoRow.holds Tryz.pinned (OpenSpec.upto copyBackSpec)

/-- 'manorboylaw09.CopyThrough', WHERE WHAT IT READS IS OF BULK AT MOST 1048576: true; the input reads as it did. -/
def copyThroughUptoRow : OpenClaim := { program := "ytbifpocccfkhhaagreatdoor", sum := "77ead2b9a5ef7c42db5a3ee36c41b3f8389300bd187267b13a997b0c6506d223", func := "manorboy/manorboylaw09.CopyThrough", spec := "copyThrough", unfollowed := true, recurses := true, named := ["strings.asciiSpace", "unicode.White_Space", "internal/strconv.uint64pow10", "math/bits.deBruijn32tab", "math/bits.deBruijn64tab"], loops := true, apart := false, laid := [("math/bits.deBruijn32tab", laid_math_bits_deBruijn32tab), ("math/bits.deBruijn64tab", laid_math_bits_deBruijn64tab), ("internal/strconv.uint64pow10", laid_internal_strconv_uint64pow10), ("unicode.White_Space", laid_unicode_White_Space), ("strings.asciiSpace", laid_strings_asciiSpace)], narrowed := true }
def CopyThroughUptoSaid : Prop := copyThroughUptoRow.holds Tryz.pinned (OpenSpec.upto copyThroughSpec)

/-- 'manorboylaw09.CopySizes', WHERE WHAT IT READS IS OF BULK AT MOST 1048576: true; the input reads as it did. -/
def copySizesUptoRow : OpenClaim := { program := "ytbifpocccfkhhaagreatdoor", sum := "77ead2b9a5ef7c42db5a3ee36c41b3f8389300bd187267b13a997b0c6506d223", func := "manorboy/manorboylaw09.CopySizes", spec := "copySizes", unfollowed := true, recurses := true, named := ["strings.asciiSpace", "unicode.White_Space", "internal/strconv.uint64pow10", "math/bits.deBruijn32tab", "math/bits.deBruijn64tab"], loops := true, apart := false, laid := [("math/bits.deBruijn32tab", laid_math_bits_deBruijn32tab), ("math/bits.deBruijn64tab", laid_math_bits_deBruijn64tab), ("internal/strconv.uint64pow10", laid_internal_strconv_uint64pow10), ("unicode.White_Space", laid_unicode_White_Space), ("strings.asciiSpace", laid_strings_asciiSpace)], narrowed := true }
def CopySizesUptoSaid : Prop := copySizesUptoRow.holds Tryz.pinned (OpenSpec.upto copySizesSpec)

/-- 'manorboylaw09.CopyNames', WHERE WHAT IT READS IS OF BULK AT MOST 1048576: true; the input reads as it did. -/
def copyNamesUptoRow : OpenClaim := { program := "ytbifpocccfkhhaagreatdoor", sum := "77ead2b9a5ef7c42db5a3ee36c41b3f8389300bd187267b13a997b0c6506d223", func := "manorboy/manorboylaw09.CopyNames", spec := "copyNames", unfollowed := true, recurses := true, named := ["strings.asciiSpace", "unicode.White_Space", "internal/strconv.uint64pow10", "math/bits.deBruijn32tab", "math/bits.deBruijn64tab"], loops := true, apart := false, laid := [("math/bits.deBruijn32tab", laid_math_bits_deBruijn32tab), ("math/bits.deBruijn64tab", laid_math_bits_deBruijn64tab), ("internal/strconv.uint64pow10", laid_internal_strconv_uint64pow10), ("unicode.White_Space", laid_unicode_White_Space), ("strings.asciiSpace", laid_strings_asciiSpace)], narrowed := true }
def CopyNamesUptoSaid : Prop := copyNamesUptoRow.holds Tryz.pinned (OpenSpec.upto copyNamesSpec)

/-- 'manorboylaw09.CopyFrees', WHERE WHAT IT READS IS OF BULK AT MOST 1048576: true; the input reads as it did. -/
def copyFreesUptoRow : OpenClaim := { program := "ytbifpocccfkhhaagreatdoor", sum := "77ead2b9a5ef7c42db5a3ee36c41b3f8389300bd187267b13a997b0c6506d223", func := "manorboy/manorboylaw09.CopyFrees", spec := "copyFrees", unfollowed := true, recurses := true, named := ["strings.asciiSpace", "unicode.White_Space", "internal/strconv.uint64pow10", "math/bits.deBruijn32tab", "math/bits.deBruijn64tab"], loops := true, apart := false, laid := [("math/bits.deBruijn32tab", laid_math_bits_deBruijn32tab), ("math/bits.deBruijn64tab", laid_math_bits_deBruijn64tab), ("internal/strconv.uint64pow10", laid_internal_strconv_uint64pow10), ("unicode.White_Space", laid_unicode_White_Space), ("strings.asciiSpace", laid_strings_asciiSpace)], narrowed := true }
def CopyFreesUptoSaid : Prop := copyFreesUptoRow.holds Tryz.pinned (OpenSpec.upto copyFreesSpec)

/-- 'manorboylaw09.CopyOrder', WHERE WHAT IT READS IS OF BULK AT MOST 1048576: true; the input reads as it did. -/
def copyOrderUptoRow : OpenClaim := { program := "ytbifpocccfkhhaagreatdoor", sum := "77ead2b9a5ef7c42db5a3ee36c41b3f8389300bd187267b13a997b0c6506d223", func := "manorboy/manorboylaw09.CopyOrder", spec := "copyOrder", unfollowed := true, recurses := true, named := ["strings.asciiSpace", "unicode.White_Space", "internal/strconv.uint64pow10", "math/bits.deBruijn32tab", "math/bits.deBruijn64tab"], loops := true, apart := false, laid := [("math/bits.deBruijn32tab", laid_math_bits_deBruijn32tab), ("math/bits.deBruijn64tab", laid_math_bits_deBruijn64tab), ("internal/strconv.uint64pow10", laid_internal_strconv_uint64pow10), ("unicode.White_Space", laid_unicode_White_Space), ("strings.asciiSpace", laid_strings_asciiSpace)], narrowed := true }
def CopyOrderUptoSaid : Prop := copyOrderUptoRow.holds Tryz.pinned (OpenSpec.upto copyOrderSpec)

/-- 'manorboylaw09.CopyFresh', WHERE WHAT IT READS IS OF BULK AT MOST 1048576: true; the input reads as it did. -/
def copyFreshUptoRow : OpenClaim := { program := "ytbifpocccfkhhaagreatdoor", sum := "77ead2b9a5ef7c42db5a3ee36c41b3f8389300bd187267b13a997b0c6506d223", func := "manorboy/manorboylaw09.CopyFresh", spec := "copyFresh", unfollowed := true, recurses := true, named := ["strings.asciiSpace", "unicode.White_Space", "internal/strconv.uint64pow10", "math/bits.deBruijn32tab", "math/bits.deBruijn64tab"], apart := false, laid := [("math/bits.deBruijn32tab", laid_math_bits_deBruijn32tab), ("math/bits.deBruijn64tab", laid_math_bits_deBruijn64tab), ("internal/strconv.uint64pow10", laid_internal_strconv_uint64pow10), ("unicode.White_Space", laid_unicode_White_Space), ("strings.asciiSpace", laid_strings_asciiSpace)], narrowed := true }
def CopyFreshUptoSaid : Prop := copyFreshUptoRow.holds Tryz.pinned (OpenSpec.upto copyFreshSpec)

/-- 'manorboylaw09.CopyAparts', WHERE WHAT IT READS IS OF BULK AT MOST 1048576: true; the input reads as it did. -/
def copyApartsUptoRow : OpenClaim := { program := "ytbifpocccfkhhaagreatdoor", sum := "77ead2b9a5ef7c42db5a3ee36c41b3f8389300bd187267b13a997b0c6506d223", func := "manorboy/manorboylaw09.CopyAparts", spec := "copyAparts", unfollowed := true, recurses := true, named := ["strings.asciiSpace", "unicode.White_Space", "internal/strconv.uint64pow10", "math/bits.deBruijn32tab", "math/bits.deBruijn64tab"], loops := true, apart := false, laid := [("math/bits.deBruijn32tab", laid_math_bits_deBruijn32tab), ("math/bits.deBruijn64tab", laid_math_bits_deBruijn64tab), ("internal/strconv.uint64pow10", laid_internal_strconv_uint64pow10), ("unicode.White_Space", laid_unicode_White_Space), ("strings.asciiSpace", laid_strings_asciiSpace)], narrowed := true }
def CopyApartsUptoSaid : Prop := copyApartsUptoRow.holds Tryz.pinned (OpenSpec.upto copyApartsSpec)

/-- 'manorboylaw09.CopyApart', WHERE WHAT IT READS IS OF BULK AT MOST 1048576: true; the input reads as it did. -/
def copyApartUptoRow : OpenClaim := { program := "ytbifpocccfkhhaagreatdoor", sum := "77ead2b9a5ef7c42db5a3ee36c41b3f8389300bd187267b13a997b0c6506d223", func := "manorboy/manorboylaw09.CopyApart", spec := "copyApart", unfollowed := true, recurses := true, named := ["strings.asciiSpace", "unicode.White_Space", "internal/strconv.uint64pow10", "math/bits.deBruijn32tab", "math/bits.deBruijn64tab"], loops := true, apart := false, laid := [("math/bits.deBruijn32tab", laid_math_bits_deBruijn32tab), ("math/bits.deBruijn64tab", laid_math_bits_deBruijn64tab), ("internal/strconv.uint64pow10", laid_internal_strconv_uint64pow10), ("unicode.White_Space", laid_unicode_White_Space), ("strings.asciiSpace", laid_strings_asciiSpace)], narrowed := true }
def CopyApartUptoSaid : Prop := copyApartUptoRow.holds Tryz.pinned (OpenSpec.upto copyApartSpec)

/-- 'manorboylaw09.CopySubstitutes', WHERE WHAT IT READS IS OF BULK AT MOST 1048576: true; the input reads as it did. -/
def copySubstitutesUptoRow : OpenClaim := { program := "ytbifpocccfkhhaagreatdoor", sum := "77ead2b9a5ef7c42db5a3ee36c41b3f8389300bd187267b13a997b0c6506d223", func := "manorboy/manorboylaw09.CopySubstitutes", spec := "copySubstitutes", unfollowed := true, recurses := true, named := ["strings.asciiSpace", "unicode.White_Space", "internal/strconv.uint64pow10", "math/bits.deBruijn32tab", "math/bits.deBruijn64tab"], loops := true, apart := false, laid := [("math/bits.deBruijn32tab", laid_math_bits_deBruijn32tab), ("math/bits.deBruijn64tab", laid_math_bits_deBruijn64tab), ("internal/strconv.uint64pow10", laid_internal_strconv_uint64pow10), ("unicode.White_Space", laid_unicode_White_Space), ("strings.asciiSpace", laid_strings_asciiSpace)], narrowed := true }
def CopySubstitutesUptoSaid : Prop := copySubstitutesUptoRow.holds Tryz.pinned (OpenSpec.upto copySubstitutesSpec)

end Rows
end Go.Proofs.YtbifpocccfkhhaaGreatDoor
