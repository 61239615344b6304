/-
  NARROWER THAN 'FOR EVERY INPUT', by the rows' own cells (each row's printed sentence says how): EditsShown: laid · EditsAny: laid · MovesNumbers: laid · MovesTwice: laid · MovesTexts: laid · MovesRepeat: laid · MovesMove: laid · MovesErrors: laid · MovesConstant: laid.
  DERIVED. THE GIVEN ROWS OF THIS SEAT. 9 by the template 'for every input the law returns true; each argument reads behind the call as it read before'; 0 by the template 'total and deterministic' (their statements: YtpghlpmkljkakaaGreatDoorTotals.lean).
  GIVEN WITH THE SEED: the statements are not yours to turn. If you find one false, say at which input.
  Laid BY PROGRAM, IN A SANDBOX (cutbox-rows.mjs): the forced cells as the released guide's own fill.sh prints them over the translation ff5ac08f3f9c5d24… (all of the seat's roots in one cut). By AI agents, Wed Nov 11 2026. No macro, syntax, notation, axiom, sorry.
-/
import Derived.Test.YtpghlpmkljkakaaGreatDoorChecked
import GoSem.PinnedTables
import GoSem.Claim
import GoSem.ClaimJoined
import GoSem.ClaimMapViews
import Derived.JoinedTies
import Derived.KernelRfl
namespace Go.Proofs.YtpghlpmkljkakaaGreatDoor
/- THE CELL 'sum', in the pinned program and in every row, IS THE sha256 OF THE DUMP (.gsa) THAT YtpghlpmkljkakaaGreatDoorProg.lean LOADS. Nothing in Lean hashes anything: it is a label: what it is worth is what the hold of that sum in a sandbox is worth. -/
noncomputable def Tryz.pinned : Pinned := { name := "ytpghlpmkljkakaagreatdoor", sum := "ff5ac08f3f9c5d24a81ad718f38e8e62cded956046d102c1e08e8f5376f20a60", checked := Tryz.checked }
namespace Rows
def none {H : Type} : Left H := { results := [], args := [] }

/- WHAT THE LISTED PACKAGE-LEVEL VARIABLES READ AS WHEN THE CALL BEGINS. Each datum BY PROGRAM (the guide's laid-datum.mjs) off the statement by which the dump's own 'gosem.cut.vars' lays the variable. In a bare row this is a premise. The card (YtpghlpmkljkakaaGreatDoorCards.lean) ties it to the program's text. -/
def laid_math_bits_deBruijn32tab {H : Type} : DataW H := .agg [.lit (.int .u8 0), .lit (.int .u8 1), .lit (.int .u8 28), .lit (.int .u8 2), .lit (.int .u8 29), .lit (.int .u8 14), .lit (.int .u8 24), .lit (.int .u8 3), .lit (.int .u8 30), .lit (.int .u8 22), .lit (.int .u8 20), .lit (.int .u8 15), .lit (.int .u8 25), .lit (.int .u8 17), .lit (.int .u8 4), .lit (.int .u8 8), .lit (.int .u8 31), .lit (.int .u8 27), .lit (.int .u8 13), .lit (.int .u8 23), .lit (.int .u8 21), .lit (.int .u8 19), .lit (.int .u8 16), .lit (.int .u8 7), .lit (.int .u8 26), .lit (.int .u8 12), .lit (.int .u8 18), .lit (.int .u8 6), .lit (.int .u8 11), .lit (.int .u8 5), .lit (.int .u8 10), .lit (.int .u8 9)]
def laid_math_bits_deBruijn64tab {H : Type} : DataW H := .agg [.lit (.int .u8 0), .lit (.int .u8 1), .lit (.int .u8 56), .lit (.int .u8 2), .lit (.int .u8 57), .lit (.int .u8 49), .lit (.int .u8 28), .lit (.int .u8 3), .lit (.int .u8 61), .lit (.int .u8 58), .lit (.int .u8 42), .lit (.int .u8 50), .lit (.int .u8 38), .lit (.int .u8 29), .lit (.int .u8 17), .lit (.int .u8 4), .lit (.int .u8 62), .lit (.int .u8 47), .lit (.int .u8 59), .lit (.int .u8 36), .lit (.int .u8 45), .lit (.int .u8 43), .lit (.int .u8 51), .lit (.int .u8 22), .lit (.int .u8 53), .lit (.int .u8 39), .lit (.int .u8 33), .lit (.int .u8 30), .lit (.int .u8 24), .lit (.int .u8 18), .lit (.int .u8 12), .lit (.int .u8 5), .lit (.int .u8 63), .lit (.int .u8 55), .lit (.int .u8 48), .lit (.int .u8 27), .lit (.int .u8 60), .lit (.int .u8 41), .lit (.int .u8 37), .lit (.int .u8 16), .lit (.int .u8 46), .lit (.int .u8 35), .lit (.int .u8 44), .lit (.int .u8 21), .lit (.int .u8 52), .lit (.int .u8 32), .lit (.int .u8 23), .lit (.int .u8 11), .lit (.int .u8 54), .lit (.int .u8 26), .lit (.int .u8 40), .lit (.int .u8 15), .lit (.int .u8 34), .lit (.int .u8 20), .lit (.int .u8 31), .lit (.int .u8 10), .lit (.int .u8 25), .lit (.int .u8 14), .lit (.int .u8 19), .lit (.int .u8 9), .lit (.int .u8 13), .lit (.int .u8 8), .lit (.int .u8 7), .lit (.int .u8 6)]
def laid_internal_strconv_uint64pow10 {H : Type} : DataW H := .agg [.lit (.int .u64 1), .lit (.int .u64 10), .lit (.int .u64 100), .lit (.int .u64 1000), .lit (.int .u64 10000), .lit (.int .u64 100000), .lit (.int .u64 1000000), .lit (.int .u64 10000000), .lit (.int .u64 100000000), .lit (.int .u64 1000000000), .lit (.int .u64 10000000000), .lit (.int .u64 100000000000), .lit (.int .u64 1000000000000), .lit (.int .u64 10000000000000), .lit (.int .u64 100000000000000), .lit (.int .u64 1000000000000000), .lit (.int .u64 10000000000000000), .lit (.int .u64 100000000000000000), .lit (.int .u64 1000000000000000000), .lit (.int .u64 10000000000000000000)]
def laid_unicode_utf8_acceptRanges {H : Type} : DataW H := .agg [.agg [.lit (.int .u8 128), .lit (.int .u8 191)], .agg [.lit (.int .u8 160), .lit (.int .u8 191)], .agg [.lit (.int .u8 128), .lit (.int .u8 159)], .agg [.lit (.int .u8 144), .lit (.int .u8 191)], .agg [.lit (.int .u8 128), .lit (.int .u8 143)], .agg [.lit (.int .u8 0), .lit (.int .u8 0)], .agg [.lit (.int .u8 0), .lit (.int .u8 0)], .agg [.lit (.int .u8 0), .lit (.int .u8 0)], .agg [.lit (.int .u8 0), .lit (.int .u8 0)], .agg [.lit (.int .u8 0), .lit (.int .u8 0)], .agg [.lit (.int .u8 0), .lit (.int .u8 0)], .agg [.lit (.int .u8 0), .lit (.int .u8 0)], .agg [.lit (.int .u8 0), .lit (.int .u8 0)], .agg [.lit (.int .u8 0), .lit (.int .u8 0)], .agg [.lit (.int .u8 0), .lit (.int .u8 0)], .agg [.lit (.int .u8 0), .lit (.int .u8 0)]]
def laid_strconv_ErrRange {H : Type} : DataW H := .iface "*errors.errorString" (.ptr (.agg [.lit (.string [118, 97, 108, 117, 101, 32, 111, 117, 116, 32, 111, 102, 32, 114, 97, 110, 103, 101])]))
def laid_strconv_ErrSyntax {H : Type} : DataW H := .iface "*errors.errorString" (.ptr (.agg [.lit (.string [105, 110, 118, 97, 108, 105, 100, 32, 115, 121, 110, 116, 97, 120])]))
def laid_columnseven_pictures_floats {H : Type} : DataW H := .agg [.lit (.int .u8 36), .lit (.int .u8 43), .lit (.int .u8 45)]
def laid_columnseven_edits_shows {H : Type} : DataW H := .agg [.agg [.lit (.int .u8 66), .lit (.int .u8 32)], .agg [.lit (.int .u8 48), .lit (.int .u8 48)], .agg [.lit (.int .u8 47), .lit (.int .u8 47)], .agg [.lit (.int .u8 44), .lit (.int .u8 44)], .agg [.lit (.int .u8 46), .lit (.int .u8 46)], .agg [.lit (.int .u8 36), .lit (.int .u8 36)]]
/-- One of Go's own tables, pinned by name: the form's constant. -/
def laid_unicode_utf8_first : DataW Unit := Go.Pinned.utf8First
def laid_columnseven_moves_legal {H : Type} : DataW H := .agg [.lit (.int .u8 63), .lit (.int .u8 15), .lit (.int .u8 63), .lit (.int .u8 15), .lit (.int .u8 61), .lit (.int .u8 61)]

/-- 'columnsevenlaw15.EditsShown': WHATEVER THE INPUT: true; the input reads as it did. -/
def editsShownSpec : ChangeSpec := { name := "editsShown", fn := fun _ => fun
  | [d1, d2] => { results := [.lit (.bool true)], args := [d1, d2] }
  | _ => none }
def editsShownRow : OpenClaim := { program := "ytpghlpmkljkakaagreatdoor", sum := "ff5ac08f3f9c5d24a81ad718f38e8e62cded956046d102c1e08e8f5376f20a60", func := "columnseven/columnsevenlaw15.EditsShown", spec := "editsShown", inPlace := ["internal/bytealg.IndexByteString", "internal/bytealg.IndexString", "internal/abi.NoEscape", "internal/bytealg.MakeNoZero", "internal/bytealg.CountString"], unfollowed := true, recurses := true, named := ["internal/strconv.uint64pow10", "math/bits.deBruijn32tab", "math/bits.deBruijn64tab", "unicode/utf8.first", "unicode/utf8.acceptRanges", "internal/bytealg.MaxLen", "strconv.ErrSyntax", "strconv.ErrRange", "columnseven/pictures.floats", "columnseven/edits.shows"], apart := false, laid := [("math/bits.deBruijn32tab", laid_math_bits_deBruijn32tab), ("math/bits.deBruijn64tab", laid_math_bits_deBruijn64tab), ("internal/strconv.uint64pow10", laid_internal_strconv_uint64pow10), ("unicode/utf8.acceptRanges", laid_unicode_utf8_acceptRanges), ("strconv.ErrRange", laid_strconv_ErrRange), ("strconv.ErrSyntax", laid_strconv_ErrSyntax), ("columnseven/pictures.floats", laid_columnseven_pictures_floats), ("columnseven/edits.shows", laid_columnseven_edits_shows), ("unicode/utf8.first", laid_unicode_utf8_first)] }
def EditsShownSaid : Prop := editsShownRow.holds Tryz.pinned (OpenSpec.ofChange editsShownSpec)

/-- ITS FALSE NEIGHBOUR: 'it returns false'. Refute it at one input. -/
def editsShownWrong : ChangeSpec := { name := "editsShown", fn := fun _ => fun
  | [d1, d2] => { results := [.lit (.bool false)], args := [d1, d2] }
  | _ => none }
def EditsShownWrongFalsely : Prop := editsShownRow.holds Tryz.pinned (OpenSpec.ofChange editsShownWrong)

/-- 'columnsevenlaw15.EditsAny': WHATEVER THE INPUT: true; the input reads as it did. -/
def editsAnySpec : ChangeSpec := { name := "editsAny", fn := fun _ => fun
  | [d1, d2, d3] => { results := [.lit (.bool true)], args := [d1, d2, d3] }
  | _ => none }
def editsAnyRow : OpenClaim := { program := "ytpghlpmkljkakaagreatdoor", sum := "ff5ac08f3f9c5d24a81ad718f38e8e62cded956046d102c1e08e8f5376f20a60", func := "columnseven/columnsevenlaw15.EditsAny", spec := "editsAny", inPlace := ["internal/bytealg.IndexByteString", "internal/abi.NoEscape", "internal/bytealg.MakeNoZero", "internal/bytealg.IndexString", "internal/bytealg.CountString"], unfollowed := true, recurses := true, named := ["strconv.ErrSyntax", "strconv.ErrRange", "internal/strconv.uint64pow10", "math/bits.deBruijn32tab", "math/bits.deBruijn64tab", "internal/bytealg.MaxLen", "unicode/utf8.first", "unicode/utf8.acceptRanges", "columnseven/pictures.floats", "columnseven/edits.shows"], apart := false, laid := [("math/bits.deBruijn32tab", laid_math_bits_deBruijn32tab), ("math/bits.deBruijn64tab", laid_math_bits_deBruijn64tab), ("internal/strconv.uint64pow10", laid_internal_strconv_uint64pow10), ("unicode/utf8.acceptRanges", laid_unicode_utf8_acceptRanges), ("strconv.ErrRange", laid_strconv_ErrRange), ("strconv.ErrSyntax", laid_strconv_ErrSyntax), ("columnseven/pictures.floats", laid_columnseven_pictures_floats), ("columnseven/edits.shows", laid_columnseven_edits_shows), ("unicode/utf8.first", laid_unicode_utf8_first)] }
def EditsAnySaid : Prop := editsAnyRow.holds Tryz.pinned (OpenSpec.ofChange editsAnySpec)

/-- ITS FALSE NEIGHBOUR: 'it returns false'. Refute it at one input. -/
def editsAnyWrong : ChangeSpec := { name := "editsAny", fn := fun _ => fun
  | [d1, d2, d3] => { results := [.lit (.bool false)], args := [d1, d2, d3] }
  | _ => none }
def EditsAnyWrongFalsely : Prop := editsAnyRow.holds Tryz.pinned (OpenSpec.ofChange editsAnyWrong)

/-- 'columnsevenlaw16.MovesNumbers': WHATEVER THE INPUT: true; the input reads as it did. -/
def movesNumbersSpec : ChangeSpec := { name := "movesNumbers", fn := fun _ => fun
  | [d1, d2] => { results := [.lit (.bool true)], args := [d1, d2] }
  | _ => none }
def movesNumbersRow : OpenClaim := { program := "ytpghlpmkljkakaagreatdoor", sum := "ff5ac08f3f9c5d24a81ad718f38e8e62cded956046d102c1e08e8f5376f20a60", func := "columnseven/columnsevenlaw16.MovesNumbers", spec := "movesNumbers", inPlace := ["internal/bytealg.CountString", "internal/bytealg.IndexByteString", "internal/bytealg.IndexString", "internal/abi.NoEscape", "internal/bytealg.MakeNoZero"], unfollowed := true, recurses := true, named := ["internal/bytealg.MaxLen", "strconv.ErrSyntax", "strconv.ErrRange", "internal/strconv.uint64pow10", "math/bits.deBruijn32tab", "math/bits.deBruijn64tab", "unicode/utf8.first", "unicode/utf8.acceptRanges", "columnseven/pictures.floats", "columnseven/moves.legal", "columnseven/edits.shows"], apart := false, laid := [("math/bits.deBruijn32tab", laid_math_bits_deBruijn32tab), ("math/bits.deBruijn64tab", laid_math_bits_deBruijn64tab), ("internal/strconv.uint64pow10", laid_internal_strconv_uint64pow10), ("unicode/utf8.acceptRanges", laid_unicode_utf8_acceptRanges), ("strconv.ErrRange", laid_strconv_ErrRange), ("strconv.ErrSyntax", laid_strconv_ErrSyntax), ("columnseven/pictures.floats", laid_columnseven_pictures_floats), ("columnseven/edits.shows", laid_columnseven_edits_shows), ("columnseven/moves.legal", laid_columnseven_moves_legal), ("unicode/utf8.first", laid_unicode_utf8_first)] }
def MovesNumbersSaid : Prop := movesNumbersRow.holds Tryz.pinned (OpenSpec.ofChange movesNumbersSpec)

/-- ITS FALSE NEIGHBOUR: 'it returns false'. Refute it at one input. -/
def movesNumbersWrong : ChangeSpec := { name := "movesNumbers", fn := fun _ => fun
  | [d1, d2] => { results := [.lit (.bool false)], args := [d1, d2] }
  | _ => none }
def MovesNumbersWrongFalsely : Prop := movesNumbersRow.holds Tryz.pinned (OpenSpec.ofChange movesNumbersWrong)

/-- 'columnsevenlaw16.MovesTwice': WHATEVER THE INPUT: true; the input reads as it did. -/
def movesTwiceSpec : ChangeSpec := { name := "movesTwice", fn := fun _ => fun
  | [d1, d2] => { results := [.lit (.bool true)], args := [d1, d2] }
  | _ => none }
def movesTwiceRow : OpenClaim := { program := "ytpghlpmkljkakaagreatdoor", sum := "ff5ac08f3f9c5d24a81ad718f38e8e62cded956046d102c1e08e8f5376f20a60", func := "columnseven/columnsevenlaw16.MovesTwice", spec := "movesTwice", inPlace := ["internal/bytealg.CountString", "internal/bytealg.IndexByteString", "internal/bytealg.IndexString", "internal/abi.NoEscape", "internal/bytealg.MakeNoZero"], unfollowed := true, recurses := true, named := ["internal/bytealg.MaxLen", "strconv.ErrSyntax", "strconv.ErrRange", "internal/strconv.uint64pow10", "math/bits.deBruijn32tab", "math/bits.deBruijn64tab", "unicode/utf8.first", "unicode/utf8.acceptRanges", "columnseven/pictures.floats", "columnseven/edits.shows", "columnseven/moves.legal"], apart := false, laid := [("math/bits.deBruijn32tab", laid_math_bits_deBruijn32tab), ("math/bits.deBruijn64tab", laid_math_bits_deBruijn64tab), ("internal/strconv.uint64pow10", laid_internal_strconv_uint64pow10), ("unicode/utf8.acceptRanges", laid_unicode_utf8_acceptRanges), ("strconv.ErrRange", laid_strconv_ErrRange), ("strconv.ErrSyntax", laid_strconv_ErrSyntax), ("columnseven/pictures.floats", laid_columnseven_pictures_floats), ("columnseven/edits.shows", laid_columnseven_edits_shows), ("columnseven/moves.legal", laid_columnseven_moves_legal), ("unicode/utf8.first", laid_unicode_utf8_first)] }
def MovesTwiceSaid : Prop := movesTwiceRow.holds Tryz.pinned (OpenSpec.ofChange movesTwiceSpec)

/-- ITS FALSE NEIGHBOUR: 'it returns false'. Refute it at one input. -/
def movesTwiceWrong : ChangeSpec := { name := "movesTwice", fn := fun _ => fun
  | [d1, d2] => { results := [.lit (.bool false)], args := [d1, d2] }
  | _ => none }
def MovesTwiceWrongFalsely : Prop := movesTwiceRow.holds Tryz.pinned (OpenSpec.ofChange movesTwiceWrong)

/-- 'columnsevenlaw16.MovesTexts': WHATEVER THE INPUT: true; the input reads as it did. -/
def movesTextsSpec : ChangeSpec := { name := "movesTexts", fn := fun _ => fun
  | [d1, d2, d3] => { results := [.lit (.bool true)], args := [d1, d2, d3] }
  | _ => none }
def movesTextsRow : OpenClaim := { program := "ytpghlpmkljkakaagreatdoor", sum := "ff5ac08f3f9c5d24a81ad718f38e8e62cded956046d102c1e08e8f5376f20a60", func := "columnseven/columnsevenlaw16.MovesTexts", spec := "movesTexts", inPlace := ["internal/bytealg.IndexByteString", "internal/abi.NoEscape", "internal/bytealg.MakeNoZero", "internal/bytealg.IndexString", "internal/bytealg.CountString"], unfollowed := true, recurses := true, named := ["strconv.ErrSyntax", "strconv.ErrRange", "internal/strconv.uint64pow10", "math/bits.deBruijn32tab", "math/bits.deBruijn64tab", "internal/bytealg.MaxLen", "unicode/utf8.first", "unicode/utf8.acceptRanges", "columnseven/pictures.floats", "columnseven/moves.legal", "columnseven/edits.shows"], apart := false, laid := [("math/bits.deBruijn32tab", laid_math_bits_deBruijn32tab), ("math/bits.deBruijn64tab", laid_math_bits_deBruijn64tab), ("internal/strconv.uint64pow10", laid_internal_strconv_uint64pow10), ("unicode/utf8.acceptRanges", laid_unicode_utf8_acceptRanges), ("strconv.ErrRange", laid_strconv_ErrRange), ("strconv.ErrSyntax", laid_strconv_ErrSyntax), ("columnseven/pictures.floats", laid_columnseven_pictures_floats), ("columnseven/edits.shows", laid_columnseven_edits_shows), ("columnseven/moves.legal", laid_columnseven_moves_legal), ("unicode/utf8.first", laid_unicode_utf8_first)] }
def MovesTextsSaid : Prop := movesTextsRow.holds Tryz.pinned (OpenSpec.ofChange movesTextsSpec)

/-- ITS FALSE NEIGHBOUR: 'it returns false'. Refute it at one input. -/
def movesTextsWrong : ChangeSpec := { name := "movesTexts", fn := fun _ => fun
  | [d1, d2, d3] => { results := [.lit (.bool false)], args := [d1, d2, d3] }
  | _ => none }
def MovesTextsWrongFalsely : Prop := movesTextsRow.holds Tryz.pinned (OpenSpec.ofChange movesTextsWrong)

/-- 'columnsevenlaw16.MovesRepeat': WHATEVER THE INPUT: true; the input reads as it did. -/
def movesRepeatSpec : ChangeSpec := { name := "movesRepeat", fn := fun _ => fun
  | [d1, d2] => { results := [.lit (.bool true)], args := [d1, d2] }
  | _ => none }
def movesRepeatRow : OpenClaim := { program := "ytpghlpmkljkakaagreatdoor", sum := "ff5ac08f3f9c5d24a81ad718f38e8e62cded956046d102c1e08e8f5376f20a60", func := "columnseven/columnsevenlaw16.MovesRepeat", spec := "movesRepeat", inPlace := ["internal/bytealg.CountString", "internal/bytealg.IndexByteString", "internal/bytealg.IndexString", "internal/abi.NoEscape", "internal/bytealg.MakeNoZero"], unfollowed := true, recurses := true, named := ["internal/bytealg.MaxLen", "strconv.ErrSyntax", "strconv.ErrRange", "internal/strconv.uint64pow10", "math/bits.deBruijn32tab", "math/bits.deBruijn64tab", "unicode/utf8.first", "unicode/utf8.acceptRanges", "columnseven/pictures.floats", "columnseven/edits.shows", "columnseven/moves.legal"], apart := false, laid := [("math/bits.deBruijn32tab", laid_math_bits_deBruijn32tab), ("math/bits.deBruijn64tab", laid_math_bits_deBruijn64tab), ("internal/strconv.uint64pow10", laid_internal_strconv_uint64pow10), ("unicode/utf8.acceptRanges", laid_unicode_utf8_acceptRanges), ("strconv.ErrRange", laid_strconv_ErrRange), ("strconv.ErrSyntax", laid_strconv_ErrSyntax), ("columnseven/pictures.floats", laid_columnseven_pictures_floats), ("columnseven/edits.shows", laid_columnseven_edits_shows), ("columnseven/moves.legal", laid_columnseven_moves_legal), ("unicode/utf8.first", laid_unicode_utf8_first)] }
def MovesRepeatSaid : Prop := movesRepeatRow.holds Tryz.pinned (OpenSpec.ofChange movesRepeatSpec)

/-- ITS FALSE NEIGHBOUR: 'it returns false'. Refute it at one input. -/
def movesRepeatWrong : ChangeSpec := { name := "movesRepeat", fn := fun _ => fun
  | [d1, d2] => { results := [.lit (.bool false)], args := [d1, d2] }
  | _ => none }
def MovesRepeatWrongFalsely : Prop := movesRepeatRow.holds Tryz.pinned (OpenSpec.ofChange movesRepeatWrong)

/-- 'columnsevenlaw16.MovesMove': WHATEVER THE INPUT: true; the input reads as it did. -/
def movesMoveSpec : ChangeSpec := { name := "movesMove", fn := fun _ => fun
  | [d1, d2] => { results := [.lit (.bool true)], args := [d1, d2] }
  | _ => none }
def movesMoveRow : OpenClaim := { program := "ytpghlpmkljkakaagreatdoor", sum := "ff5ac08f3f9c5d24a81ad718f38e8e62cded956046d102c1e08e8f5376f20a60", func := "columnseven/columnsevenlaw16.MovesMove", spec := "movesMove", inPlace := ["internal/bytealg.CountString", "internal/bytealg.IndexByteString", "internal/bytealg.IndexString", "internal/abi.NoEscape", "internal/bytealg.MakeNoZero"], unfollowed := true, recurses := true, named := ["internal/bytealg.MaxLen", "strconv.ErrSyntax", "strconv.ErrRange", "internal/strconv.uint64pow10", "math/bits.deBruijn32tab", "math/bits.deBruijn64tab", "unicode/utf8.first", "unicode/utf8.acceptRanges", "columnseven/pictures.floats", "columnseven/edits.shows", "columnseven/moves.legal"], apart := false, laid := [("math/bits.deBruijn32tab", laid_math_bits_deBruijn32tab), ("math/bits.deBruijn64tab", laid_math_bits_deBruijn64tab), ("internal/strconv.uint64pow10", laid_internal_strconv_uint64pow10), ("unicode/utf8.acceptRanges", laid_unicode_utf8_acceptRanges), ("strconv.ErrRange", laid_strconv_ErrRange), ("strconv.ErrSyntax", laid_strconv_ErrSyntax), ("columnseven/pictures.floats", laid_columnseven_pictures_floats), ("columnseven/edits.shows", laid_columnseven_edits_shows), ("columnseven/moves.legal", laid_columnseven_moves_legal), ("unicode/utf8.first", laid_unicode_utf8_first)] }
def MovesMoveSaid : Prop := movesMoveRow.holds Tryz.pinned (OpenSpec.ofChange movesMoveSpec)

/-- ITS FALSE NEIGHBOUR: 'it returns false'. Refute it at one input. -/
def movesMoveWrong : ChangeSpec := { name := "movesMove", fn := fun _ => fun
  | [d1, d2] => { results := [.lit (.bool false)], args := [d1, d2] }
  | _ => none }
def MovesMoveWrongFalsely : Prop := movesMoveRow.holds Tryz.pinned (OpenSpec.ofChange movesMoveWrong)

/-- 'columnsevenlaw16.MovesErrors': WHATEVER THE INPUT: true; the input reads as it did. -/
def movesErrorsSpec : ChangeSpec := { name := "movesErrors", fn := fun _ => fun
  | [d1, d2, d3] => { results := [.lit (.bool true)], args := [d1, d2, d3] }
  | _ => none }
def movesErrorsRow : OpenClaim := { program := "ytpghlpmkljkakaagreatdoor", sum := "ff5ac08f3f9c5d24a81ad718f38e8e62cded956046d102c1e08e8f5376f20a60", func := "columnseven/columnsevenlaw16.MovesErrors", spec := "movesErrors", inPlace := ["internal/bytealg.IndexByteString", "internal/abi.NoEscape", "internal/bytealg.MakeNoZero", "internal/bytealg.IndexString", "internal/bytealg.CountString"], unfollowed := true, recurses := true, named := ["strconv.ErrSyntax", "strconv.ErrRange", "internal/strconv.uint64pow10", "math/bits.deBruijn32tab", "math/bits.deBruijn64tab", "internal/bytealg.MaxLen", "unicode/utf8.first", "unicode/utf8.acceptRanges", "columnseven/pictures.floats", "columnseven/moves.legal", "columnseven/edits.shows"], apart := false, laid := [("math/bits.deBruijn32tab", laid_math_bits_deBruijn32tab), ("math/bits.deBruijn64tab", laid_math_bits_deBruijn64tab), ("internal/strconv.uint64pow10", laid_internal_strconv_uint64pow10), ("unicode/utf8.acceptRanges", laid_unicode_utf8_acceptRanges), ("strconv.ErrRange", laid_strconv_ErrRange), ("strconv.ErrSyntax", laid_strconv_ErrSyntax), ("columnseven/pictures.floats", laid_columnseven_pictures_floats), ("columnseven/edits.shows", laid_columnseven_edits_shows), ("columnseven/moves.legal", laid_columnseven_moves_legal), ("unicode/utf8.first", laid_unicode_utf8_first)] }
def MovesErrorsSaid : Prop := movesErrorsRow.holds Tryz.pinned (OpenSpec.ofChange movesErrorsSpec)

/-- ITS FALSE NEIGHBOUR: 'it returns false'. Refute it at one input. -/
def movesErrorsWrong : ChangeSpec := { name := "movesErrors", fn := fun _ => fun
  | [d1, d2, d3] => { results := [.lit (.bool false)], args := [d1, d2, d3] }
  | _ => none }
def MovesErrorsWrongFalsely : Prop := movesErrorsRow.holds Tryz.pinned (OpenSpec.ofChange movesErrorsWrong)

/-- 'columnsevenlaw16.MovesConstant': WHATEVER THE INPUT: true; the input reads as it did. -/
def movesConstantSpec : ChangeSpec := { name := "movesConstant", fn := fun _ => fun
  | [d1, d2, d3] => { results := [.lit (.bool true)], args := [d1, d2, d3] }
  | _ => none }
def movesConstantRow : OpenClaim := { program := "ytpghlpmkljkakaagreatdoor", sum := "ff5ac08f3f9c5d24a81ad718f38e8e62cded956046d102c1e08e8f5376f20a60", func := "columnseven/columnsevenlaw16.MovesConstant", spec := "movesConstant", inPlace := ["internal/bytealg.IndexByteString", "internal/abi.NoEscape", "internal/bytealg.MakeNoZero", "internal/bytealg.IndexString", "internal/bytealg.CountString"], unfollowed := true, recurses := true, named := ["strconv.ErrSyntax", "strconv.ErrRange", "internal/strconv.uint64pow10", "math/bits.deBruijn32tab", "math/bits.deBruijn64tab", "internal/bytealg.MaxLen", "unicode/utf8.first", "unicode/utf8.acceptRanges", "columnseven/pictures.floats", "columnseven/moves.legal", "columnseven/edits.shows"], apart := false, laid := [("math/bits.deBruijn32tab", laid_math_bits_deBruijn32tab), ("math/bits.deBruijn64tab", laid_math_bits_deBruijn64tab), ("internal/strconv.uint64pow10", laid_internal_strconv_uint64pow10), ("unicode/utf8.acceptRanges", laid_unicode_utf8_acceptRanges), ("strconv.ErrRange", laid_strconv_ErrRange), ("strconv.ErrSyntax", laid_strconv_ErrSyntax), ("columnseven/pictures.floats", laid_columnseven_pictures_floats), ("columnseven/edits.shows", laid_columnseven_edits_shows), ("columnseven/moves.legal", laid_columnseven_moves_legal), ("unicode/utf8.first", laid_unicode_utf8_first)] }
def MovesConstantSaid : Prop := movesConstantRow.holds Tryz.pinned (OpenSpec.ofChange movesConstantSpec)

/-- ITS FALSE NEIGHBOUR: 'it returns false'. Refute it at one input. -/
def movesConstantWrong : ChangeSpec := { name := "movesConstant", fn := fun _ => fun
  | [d1, d2, d3] => { results := [.lit (.bool false)], args := [d1, d2, d3] }
  | _ => none }
def MovesConstantWrongFalsely : Prop := movesConstantRow.holds Tryz.pinned (OpenSpec.ofChange movesConstantWrong)

/- THE SECOND FORM. 'bulk': how many values and letters a reading holds, each counted each time it is reached (what is shared counts as often as it is met; a slice's spare places count too). A statement '..UptoSaid' is the law's where the arguments, and the package variables that the reading takes, are together of bulk at most 1048576: NARROWER than '..Said'. Prove '..Said' where nothing that the law and all that it calls make is longer than what came in: it says more and counts as full. Else prove '..UptoSaid'. A law counts once. -/
mutual
def uptoBulk {H : Type} : DataW H → Nat
  | .lit (.string bytes) => bytes.length + 1
  | .lit _ => 1
  | .nil => 1
  | .ptr d => uptoBulk d + 1
  | .slice elems spare => uptoBulkAll elems + uptoBulkAll spare + 1
  | .agg parts => uptoBulkAll parts + 1
  | .iface _ d => uptoBulk d + 1
  | .map entries => uptoBulkEntries entries + 1
  | .held _ => 1
def uptoBulkAll {H : Type} : List (DataW H) → Nat
  | [] => 0
  | d :: r => uptoBulk d + uptoBulkAll r
def uptoBulkEntries {H : Type} : List (Lit × DataW H) → Nat
  | [] => 0
  | x :: r => uptoBulkEntry x + uptoBulkEntries r
def uptoBulkEntry {H : Type} : Lit × DataW H → Nat
  | (.string bytes, d) => bytes.length + uptoBulk d + 1
  | (_, d) => uptoBulk d + 1
 end
def uptoSmall : (H : Type) → List (DataW H) → Bool := fun _ ds => decide (uptoBulkAll ds ≤ 1048576)
def OpenSpec.upto (s : _root_.Go.ChangeSpec) : _root_.Go.OpenSpec := { _root_.Go.OpenSpec.ofChange s with cond := some uptoSmall }

/-- 'columnsevenlaw15.EditsShown', WHERE WHAT IT READS IS OF BULK AT MOST 1048576: true; the input reads as it did. -/
def editsShownUptoRow : OpenClaim := { program := "ytpghlpmkljkakaagreatdoor", sum := "ff5ac08f3f9c5d24a81ad718f38e8e62cded956046d102c1e08e8f5376f20a60", func := "columnseven/columnsevenlaw15.EditsShown", spec := "editsShown", inPlace := ["internal/bytealg.IndexByteString", "internal/bytealg.IndexString", "internal/abi.NoEscape", "internal/bytealg.MakeNoZero", "internal/bytealg.CountString"], unfollowed := true, recurses := true, named := ["internal/strconv.uint64pow10", "math/bits.deBruijn32tab", "math/bits.deBruijn64tab", "unicode/utf8.first", "unicode/utf8.acceptRanges", "internal/bytealg.MaxLen", "strconv.ErrSyntax", "strconv.ErrRange", "columnseven/pictures.floats", "columnseven/edits.shows"], apart := false, laid := [("math/bits.deBruijn32tab", laid_math_bits_deBruijn32tab), ("math/bits.deBruijn64tab", laid_math_bits_deBruijn64tab), ("internal/strconv.uint64pow10", laid_internal_strconv_uint64pow10), ("unicode/utf8.acceptRanges", laid_unicode_utf8_acceptRanges), ("strconv.ErrRange", laid_strconv_ErrRange), ("strconv.ErrSyntax", laid_strconv_ErrSyntax), ("columnseven/pictures.floats", laid_columnseven_pictures_floats), ("columnseven/edits.shows", laid_columnseven_edits_shows), ("unicode/utf8.first", laid_unicode_utf8_first)], narrowed := true }
def EditsShownUptoSaid : Prop := editsShownUptoRow.holds Tryz.pinned (OpenSpec.upto editsShownSpec)

/-- 'columnsevenlaw15.EditsAny', WHERE WHAT IT READS IS OF BULK AT MOST 1048576: true; the input reads as it did. -/
def editsAnyUptoRow : OpenClaim := { program := "ytpghlpmkljkakaagreatdoor", sum := "ff5ac08f3f9c5d24a81ad718f38e8e62cded956046d102c1e08e8f5376f20a60", func := "columnseven/columnsevenlaw15.EditsAny", spec := "editsAny", inPlace := ["internal/bytealg.IndexByteString", "internal/abi.NoEscape", "internal/bytealg.MakeNoZero", "internal/bytealg.IndexString", "internal/bytealg.CountString"], unfollowed := true, recurses := true, named := ["strconv.ErrSyntax", "strconv.ErrRange", "internal/strconv.uint64pow10", "math/bits.deBruijn32tab", "math/bits.deBruijn64tab", "internal/bytealg.MaxLen", "unicode/utf8.first", "unicode/utf8.acceptRanges", "columnseven/pictures.floats", "columnseven/edits.shows"], apart := false, laid := [("math/bits.deBruijn32tab", laid_math_bits_deBruijn32tab), ("math/bits.deBruijn64tab", laid_math_bits_deBruijn64tab), ("internal/strconv.uint64pow10", laid_internal_strconv_uint64pow10), ("unicode/utf8.acceptRanges", laid_unicode_utf8_acceptRanges), ("strconv.ErrRange", laid_strconv_ErrRange), ("strconv.ErrSyntax", laid_strconv_ErrSyntax), ("columnseven/pictures.floats", laid_columnseven_pictures_floats), ("columnseven/edits.shows", laid_columnseven_edits_shows), ("unicode/utf8.first", laid_unicode_utf8_first)], narrowed := true }
def EditsAnyUptoSaid : Prop := editsAnyUptoRow.holds Tryz.pinned (OpenSpec.upto editsAnySpec)

/-- 'columnsevenlaw16.MovesNumbers', WHERE WHAT IT READS IS OF BULK AT MOST 1048576: true; the input reads as it did. -/
def movesNumbersUptoRow : OpenClaim := { program := "ytpghlpmkljkakaagreatdoor", sum := "ff5ac08f3f9c5d24a81ad718f38e8e62cded956046d102c1e08e8f5376f20a60", func := "columnseven/columnsevenlaw16.MovesNumbers", spec := "movesNumbers", inPlace := ["internal/bytealg.CountString", "internal/bytealg.IndexByteString", "internal/bytealg.IndexString", "internal/abi.NoEscape", "internal/bytealg.MakeNoZero"], unfollowed := true, recurses := true, named := ["internal/bytealg.MaxLen", "strconv.ErrSyntax", "strconv.ErrRange", "internal/strconv.uint64pow10", "math/bits.deBruijn32tab", "math/bits.deBruijn64tab", "unicode/utf8.first", "unicode/utf8.acceptRanges", "columnseven/pictures.floats", "columnseven/moves.legal", "columnseven/edits.shows"], apart := false, laid := [("math/bits.deBruijn32tab", laid_math_bits_deBruijn32tab), ("math/bits.deBruijn64tab", laid_math_bits_deBruijn64tab), ("internal/strconv.uint64pow10", laid_internal_strconv_uint64pow10), ("unicode/utf8.acceptRanges", laid_unicode_utf8_acceptRanges), ("strconv.ErrRange", laid_strconv_ErrRange), ("strconv.ErrSyntax", laid_strconv_ErrSyntax), ("columnseven/pictures.floats", laid_columnseven_pictures_floats), ("columnseven/edits.shows", laid_columnseven_edits_shows), ("columnseven/moves.legal", laid_columnseven_moves_legal), ("unicode/utf8.first", laid_unicode_utf8_first)], narrowed := true }
def MovesNumbersUptoSaid : Prop := movesNumbersUptoRow.holds Tryz.pinned (OpenSpec.upto movesNumbersSpec)

/-- 'columnsevenlaw16.MovesTwice', WHERE WHAT IT READS IS OF BULK AT MOST 1048576: true; the input reads as it did. -/
def movesTwiceUptoRow : OpenClaim := { program := "ytpghlpmkljkakaagreatdoor", sum := "ff5ac08f3f9c5d24a81ad718f38e8e62cded956046d102c1e08e8f5376f20a60", func := "columnseven/columnsevenlaw16.MovesTwice", spec := "movesTwice", inPlace := ["internal/bytealg.CountString", "internal/bytealg.IndexByteString", "internal/bytealg.IndexString", "internal/abi.NoEscape", "internal/bytealg.MakeNoZero"], unfollowed := true, recurses := true, named := ["internal/bytealg.MaxLen", "strconv.ErrSyntax", "strconv.ErrRange", "internal/strconv.uint64pow10", "math/bits.deBruijn32tab", "math/bits.deBruijn64tab", "unicode/utf8.first", "unicode/utf8.acceptRanges", "columnseven/pictures.floats", "columnseven/edits.shows", "columnseven/moves.legal"], apart := false, laid := [("math/bits.deBruijn32tab", laid_math_bits_deBruijn32tab), ("math/bits.deBruijn64tab", laid_math_bits_deBruijn64tab), ("internal/strconv.uint64pow10", laid_internal_strconv_uint64pow10), ("unicode/utf8.acceptRanges", laid_unicode_utf8_acceptRanges), ("strconv.ErrRange", laid_strconv_ErrRange), ("strconv.ErrSyntax", laid_strconv_ErrSyntax), ("columnseven/pictures.floats", laid_columnseven_pictures_floats), ("columnseven/edits.shows", laid_columnseven_edits_shows), ("columnseven/moves.legal", laid_columnseven_moves_legal), ("unicode/utf8.first", laid_unicode_utf8_first)], narrowed := true }
def MovesTwiceUptoSaid : Prop := movesTwiceUptoRow.holds Tryz.pinned (OpenSpec.upto movesTwiceSpec)

/-- 'columnsevenlaw16.MovesTexts', WHERE WHAT IT READS IS OF BULK AT MOST 1048576: true; the input reads as it did. -/
def movesTextsUptoRow : OpenClaim := { program := "ytpghlpmkljkakaagreatdoor", sum := "ff5ac08f3f9c5d24a81ad718f38e8e62cded956046d102c1e08e8f5376f20a60", func := "columnseven/columnsevenlaw16.MovesTexts", spec := "movesTexts", inPlace := ["internal/bytealg.IndexByteString", "internal/abi.NoEscape", "internal/bytealg.MakeNoZero", "internal/bytealg.IndexString", "internal/bytealg.CountString"], unfollowed := true, recurses := true, named := ["strconv.ErrSyntax", "strconv.ErrRange", "internal/strconv.uint64pow10", "math/bits.deBruijn32tab", "math/bits.deBruijn64tab", "internal/bytealg.MaxLen", "unicode/utf8.first", "unicode/utf8.acceptRanges", "columnseven/pictures.floats", "columnseven/moves.legal", "columnseven/edits.shows"], apart := false, laid := [("math/bits.deBruijn32tab", laid_math_bits_deBruijn32tab), ("math/bits.deBruijn64tab", laid_math_bits_deBruijn64tab), ("internal/strconv.uint64pow10", laid_internal_strconv_uint64pow10), ("unicode/utf8.acceptRanges", laid_unicode_utf8_acceptRanges), ("strconv.ErrRange", laid_strconv_ErrRange), ("strconv.ErrSyntax", laid_strconv_ErrSyntax), ("columnseven/pictures.floats", laid_columnseven_pictures_floats), ("columnseven/edits.shows", laid_columnseven_edits_shows), ("columnseven/moves.legal", laid_columnseven_moves_legal), ("unicode/utf8.first", laid_unicode_utf8_first)], narrowed := true }
def MovesTextsUptoSaid : Prop := movesTextsUptoRow.holds Tryz.pinned (OpenSpec.upto movesTextsSpec)

/-- 'columnsevenlaw16.MovesRepeat', WHERE WHAT IT READS IS OF BULK AT MOST 1048576: true; the input reads as it did. -/
def movesRepeatUptoRow : OpenClaim := { program := "ytpghlpmkljkakaagreatdoor", sum := "ff5ac08f3f9c5d24a81ad718f38e8e62cded956046d102c1e08e8f5376f20a60", func := "columnseven/columnsevenlaw16.MovesRepeat", spec := "movesRepeat", inPlace := ["internal/bytealg.CountString", "internal/bytealg.IndexByteString", "internal/bytealg.IndexString", "internal/abi.NoEscape", "internal/bytealg.MakeNoZero"], unfollowed := true, recurses := true, named := ["internal/bytealg.MaxLen", "strconv.ErrSyntax", "strconv.ErrRange", "internal/strconv.uint64pow10", "math/bits.deBruijn32tab", "math/bits.deBruijn64tab", "unicode/utf8.first", "unicode/utf8.acceptRanges", "columnseven/pictures.floats", "columnseven/edits.shows", "columnseven/moves.legal"], apart := false, laid := [("math/bits.deBruijn32tab", laid_math_bits_deBruijn32tab), ("math/bits.deBruijn64tab", laid_math_bits_deBruijn64tab), ("internal/strconv.uint64pow10", laid_internal_strconv_uint64pow10), ("unicode/utf8.acceptRanges", laid_unicode_utf8_acceptRanges), ("strconv.ErrRange", laid_strconv_ErrRange), ("strconv.ErrSyntax", laid_strconv_ErrSyntax), ("columnseven/pictures.floats", laid_columnseven_pictures_floats), ("columnseven/edits.shows", laid_columnseven_edits_shows), ("columnseven/moves.legal", laid_columnseven_moves_legal), ("unicode/utf8.first", laid_unicode_utf8_first)], narrowed := true }
def MovesRepeatUptoSaid : Prop := movesRepeatUptoRow.holds Tryz.pinned (OpenSpec.upto movesRepeatSpec)

/-- 'columnsevenlaw16.MovesMove', WHERE WHAT IT READS IS OF BULK AT MOST 1048576: true; the input reads as it did. -/
def movesMoveUptoRow : OpenClaim := { program := "ytpghlpmkljkakaagreatdoor", sum := "ff5ac08f3f9c5d24a81ad718f38e8e62cded956046d102c1e08e8f5376f20a60", func := "columnseven/columnsevenlaw16.MovesMove", spec := "movesMove", inPlace := ["internal/bytealg.CountString", "internal/bytealg.IndexByteString", "internal/bytealg.IndexString", "internal/abi.NoEscape", "internal/bytealg.MakeNoZero"], unfollowed := true, recurses := true, named := ["internal/bytealg.MaxLen", "strconv.ErrSyntax", "strconv.ErrRange", "internal/strconv.uint64pow10", "math/bits.deBruijn32tab", "math/bits.deBruijn64tab", "unicode/utf8.first", "unicode/utf8.acceptRanges", "columnseven/pictures.floats", "columnseven/edits.shows", "columnseven/moves.legal"], apart := false, laid := [("math/bits.deBruijn32tab", laid_math_bits_deBruijn32tab), ("math/bits.deBruijn64tab", laid_math_bits_deBruijn64tab), ("internal/strconv.uint64pow10", laid_internal_strconv_uint64pow10), ("unicode/utf8.acceptRanges", laid_unicode_utf8_acceptRanges), ("strconv.ErrRange", laid_strconv_ErrRange), ("strconv.ErrSyntax", laid_strconv_ErrSyntax), ("columnseven/pictures.floats", laid_columnseven_pictures_floats), ("columnseven/edits.shows", laid_columnseven_edits_shows), ("columnseven/moves.legal", laid_columnseven_moves_legal), ("unicode/utf8.first", laid_unicode_utf8_first)], narrowed := true }
def MovesMoveUptoSaid : Prop := movesMoveUptoRow.holds Tryz.pinned (OpenSpec.upto movesMoveSpec)

/-- 'columnsevenlaw16.MovesErrors', WHERE WHAT IT READS IS OF BULK AT MOST 1048576: true; the input reads as it did. -/
def movesErrorsUptoRow : OpenClaim := { program := "ytpghlpmkljkakaagreatdoor", sum := "ff5ac08f3f9c5d24a81ad718f38e8e62cded956046d102c1e08e8f5376f20a60", func := "columnseven/columnsevenlaw16.MovesErrors", spec := "movesErrors", inPlace := ["internal/bytealg.IndexByteString", "internal/abi.NoEscape", "internal/bytealg.MakeNoZero", "internal/bytealg.IndexString", "internal/bytealg.CountString"], unfollowed := true, recurses := true, named := ["strconv.ErrSyntax", "strconv.ErrRange", "internal/strconv.uint64pow10", "math/bits.deBruijn32tab", "math/bits.deBruijn64tab", "internal/bytealg.MaxLen", "unicode/utf8.first", "unicode/utf8.acceptRanges", "columnseven/pictures.floats", "columnseven/moves.legal", "columnseven/edits.shows"], apart := false, laid := [("math/bits.deBruijn32tab", laid_math_bits_deBruijn32tab), ("math/bits.deBruijn64tab", laid_math_bits_deBruijn64tab), ("internal/strconv.uint64pow10", laid_internal_strconv_uint64pow10), ("unicode/utf8.acceptRanges", laid_unicode_utf8_acceptRanges), ("strconv.ErrRange", laid_strconv_ErrRange), ("strconv.ErrSyntax", laid_strconv_ErrSyntax), ("columnseven/pictures.floats", laid_columnseven_pictures_floats), ("columnseven/edits.shows", laid_columnseven_edits_shows), ("columnseven/moves.legal", laid_columnseven_moves_legal), ("unicode/utf8.first", laid_unicode_utf8_first)], narrowed := true }
def MovesErrorsUptoSaid : Prop := movesErrorsUptoRow.holds Tryz.pinned (OpenSpec.upto movesErrorsSpec)

/-- 'columnsevenlaw16.MovesConstant', WHERE WHAT IT READS IS OF BULK AT MOST 1048576: true; the input reads as it did. -/
def movesConstantUptoRow : OpenClaim := { program := "ytpghlpmkljkakaagreatdoor", sum := "ff5ac08f3f9c5d24a81ad718f38e8e62cded956046d102c1e08e8f5376f20a60", func := "columnseven/columnsevenlaw16.MovesConstant", spec := "movesConstant", inPlace := ["internal/bytealg.IndexByteString", "internal/abi.NoEscape", "internal/bytealg.MakeNoZero", "internal/bytealg.IndexString", "internal/bytealg.CountString"], unfollowed := true, recurses := true, named := ["strconv.ErrSyntax", "strconv.ErrRange", "internal/strconv.uint64pow10", "math/bits.deBruijn32tab", "math/bits.deBruijn64tab", "internal/bytealg.MaxLen", "unicode/utf8.first", "unicode/utf8.acceptRanges", "columnseven/pictures.floats", "columnseven/moves.legal", "columnseven/edits.shows"], apart := false, laid := [("math/bits.deBruijn32tab", laid_math_bits_deBruijn32tab), ("math/bits.deBruijn64tab", laid_math_bits_deBruijn64tab), ("internal/strconv.uint64pow10", laid_internal_strconv_uint64pow10), ("unicode/utf8.acceptRanges", laid_unicode_utf8_acceptRanges), ("strconv.ErrRange", laid_strconv_ErrRange), ("strconv.ErrSyntax", laid_strconv_ErrSyntax), ("columnseven/pictures.floats", laid_columnseven_pictures_floats), ("columnseven/edits.shows", laid_columnseven_edits_shows), ("columnseven/moves.legal", laid_columnseven_moves_legal), ("unicode/utf8.first", laid_unicode_utf8_first)], narrowed := true }
def MovesConstantUptoSaid : Prop := movesConstantUptoRow.holds Tryz.pinned (OpenSpec.upto movesConstantSpec)

end Rows
end Go.Proofs.YtpghlpmkljkakaaGreatDoor
