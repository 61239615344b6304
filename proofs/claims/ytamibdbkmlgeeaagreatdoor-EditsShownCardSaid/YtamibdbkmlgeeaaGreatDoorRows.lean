/-
  NARROWER THAN 'FOR EVERY INPUT', by the rows' own cells (each row's printed sentence says how): UsagesAny: laid · UsagesPut: laid · UsagesErrors: laid · UsagesLeast: laid · UsagesGet: laid · EditsEdit: laid · EditsShown: laid · EditsBack: laid · EditsAny: laid · EditsText: laid · EditsErrors: laid.
  DERIVED. THE GIVEN ROWS OF THIS SEAT. 11 by the template 'for every input the law returns true; each argument reads behind the call as it read before'; 0 by the template 'total and deterministic' (their statements: YtamibdbkmlgeeaaGreatDoorTotals.lean).
  GIVEN WITH THE SEED: the statements are not yours to turn. If you find one false, say at which input.
  Laid BY PROGRAM, IN A SANDBOX (cutbox-rows.mjs): the forced cells as the released guide's own fill.sh prints them over the translation cae47dbc83fe7889… (all of the seat's roots in one cut). By AI agents, Wed Nov 11 2026. No macro, syntax, notation, axiom, sorry.
-/
import Derived.Test.YtamibdbkmlgeeaaGreatDoorChecked
import GoSem.PinnedTables
import GoSem.Claim
import GoSem.ClaimJoined
import GoSem.ClaimMapViews
import Derived.JoinedTies
import Derived.KernelRfl
namespace Go.Proofs.YtamibdbkmlgeeaaGreatDoor
/- THE CELL 'sum', in the pinned program and in every row, IS THE sha256 OF THE DUMP (.gsa) THAT YtamibdbkmlgeeaaGreatDoorProg.lean LOADS. Nothing in Lean hashes anything: it is a label: what it is worth is what the hold of that sum in a sandbox is worth. -/
noncomputable def Tryz.pinned : Pinned := { name := "ytamibdbkmlgeeaagreatdoor", sum := "cae47dbc83fe7889c9313749e483f710b638e2683b118cd417bec2539e11d4cf", checked := Tryz.checked }
namespace Rows
def none {H : Type} : Left H := { results := [], args := [] }

/- WHAT THE LISTED PACKAGE-LEVEL VARIABLES READ AS WHEN THE CALL BEGINS. Each datum BY PROGRAM (the guide's laid-datum.mjs) off the statement by which the dump's own 'gosem.cut.vars' lays the variable. In a bare row this is a premise. The card (YtamibdbkmlgeeaaGreatDoorCards.lean) ties it to the program's text. -/
def laid_math_bits_deBruijn32tab {H : Type} : DataW H := .agg [.lit (.int .u8 0), .lit (.int .u8 1), .lit (.int .u8 28), .lit (.int .u8 2), .lit (.int .u8 29), .lit (.int .u8 14), .lit (.int .u8 24), .lit (.int .u8 3), .lit (.int .u8 30), .lit (.int .u8 22), .lit (.int .u8 20), .lit (.int .u8 15), .lit (.int .u8 25), .lit (.int .u8 17), .lit (.int .u8 4), .lit (.int .u8 8), .lit (.int .u8 31), .lit (.int .u8 27), .lit (.int .u8 13), .lit (.int .u8 23), .lit (.int .u8 21), .lit (.int .u8 19), .lit (.int .u8 16), .lit (.int .u8 7), .lit (.int .u8 26), .lit (.int .u8 12), .lit (.int .u8 18), .lit (.int .u8 6), .lit (.int .u8 11), .lit (.int .u8 5), .lit (.int .u8 10), .lit (.int .u8 9)]
def laid_math_bits_deBruijn64tab {H : Type} : DataW H := .agg [.lit (.int .u8 0), .lit (.int .u8 1), .lit (.int .u8 56), .lit (.int .u8 2), .lit (.int .u8 57), .lit (.int .u8 49), .lit (.int .u8 28), .lit (.int .u8 3), .lit (.int .u8 61), .lit (.int .u8 58), .lit (.int .u8 42), .lit (.int .u8 50), .lit (.int .u8 38), .lit (.int .u8 29), .lit (.int .u8 17), .lit (.int .u8 4), .lit (.int .u8 62), .lit (.int .u8 47), .lit (.int .u8 59), .lit (.int .u8 36), .lit (.int .u8 45), .lit (.int .u8 43), .lit (.int .u8 51), .lit (.int .u8 22), .lit (.int .u8 53), .lit (.int .u8 39), .lit (.int .u8 33), .lit (.int .u8 30), .lit (.int .u8 24), .lit (.int .u8 18), .lit (.int .u8 12), .lit (.int .u8 5), .lit (.int .u8 63), .lit (.int .u8 55), .lit (.int .u8 48), .lit (.int .u8 27), .lit (.int .u8 60), .lit (.int .u8 41), .lit (.int .u8 37), .lit (.int .u8 16), .lit (.int .u8 46), .lit (.int .u8 35), .lit (.int .u8 44), .lit (.int .u8 21), .lit (.int .u8 52), .lit (.int .u8 32), .lit (.int .u8 23), .lit (.int .u8 11), .lit (.int .u8 54), .lit (.int .u8 26), .lit (.int .u8 40), .lit (.int .u8 15), .lit (.int .u8 34), .lit (.int .u8 20), .lit (.int .u8 31), .lit (.int .u8 10), .lit (.int .u8 25), .lit (.int .u8 14), .lit (.int .u8 19), .lit (.int .u8 9), .lit (.int .u8 13), .lit (.int .u8 8), .lit (.int .u8 7), .lit (.int .u8 6)]
def laid_internal_strconv_uint64pow10 {H : Type} : DataW H := .agg [.lit (.int .u64 1), .lit (.int .u64 10), .lit (.int .u64 100), .lit (.int .u64 1000), .lit (.int .u64 10000), .lit (.int .u64 100000), .lit (.int .u64 1000000), .lit (.int .u64 10000000), .lit (.int .u64 100000000), .lit (.int .u64 1000000000), .lit (.int .u64 10000000000), .lit (.int .u64 100000000000), .lit (.int .u64 1000000000000), .lit (.int .u64 10000000000000), .lit (.int .u64 100000000000000), .lit (.int .u64 1000000000000000), .lit (.int .u64 10000000000000000), .lit (.int .u64 100000000000000000), .lit (.int .u64 1000000000000000000), .lit (.int .u64 10000000000000000000)]
def laid_unicode_utf8_acceptRanges {H : Type} : DataW H := .agg [.agg [.lit (.int .u8 128), .lit (.int .u8 191)], .agg [.lit (.int .u8 160), .lit (.int .u8 191)], .agg [.lit (.int .u8 128), .lit (.int .u8 159)], .agg [.lit (.int .u8 144), .lit (.int .u8 191)], .agg [.lit (.int .u8 128), .lit (.int .u8 143)], .agg [.lit (.int .u8 0), .lit (.int .u8 0)], .agg [.lit (.int .u8 0), .lit (.int .u8 0)], .agg [.lit (.int .u8 0), .lit (.int .u8 0)], .agg [.lit (.int .u8 0), .lit (.int .u8 0)], .agg [.lit (.int .u8 0), .lit (.int .u8 0)], .agg [.lit (.int .u8 0), .lit (.int .u8 0)], .agg [.lit (.int .u8 0), .lit (.int .u8 0)], .agg [.lit (.int .u8 0), .lit (.int .u8 0)], .agg [.lit (.int .u8 0), .lit (.int .u8 0)], .agg [.lit (.int .u8 0), .lit (.int .u8 0)], .agg [.lit (.int .u8 0), .lit (.int .u8 0)]]
def laid_strconv_ErrRange {H : Type} : DataW H := .iface "*errors.errorString" (.ptr (.agg [.lit (.string [118, 97, 108, 117, 101, 32, 111, 117, 116, 32, 111, 102, 32, 114, 97, 110, 103, 101])]))
def laid_strconv_ErrSyntax {H : Type} : DataW H := .iface "*errors.errorString" (.ptr (.agg [.lit (.string [105, 110, 118, 97, 108, 105, 100, 32, 115, 121, 110, 116, 97, 120])]))
def laid_columnseven_pictures_floats {H : Type} : DataW H := .agg [.lit (.int .u8 36), .lit (.int .u8 43), .lit (.int .u8 45)]
/-- One of Go's own tables, pinned by name: the form's constant. -/
def laid_unicode_utf8_first : DataW Unit := Go.Pinned.utf8First
def laid_columnseven_edits_shows {H : Type} : DataW H := .agg [.agg [.lit (.int .u8 66), .lit (.int .u8 32)], .agg [.lit (.int .u8 48), .lit (.int .u8 48)], .agg [.lit (.int .u8 47), .lit (.int .u8 47)], .agg [.lit (.int .u8 44), .lit (.int .u8 44)], .agg [.lit (.int .u8 46), .lit (.int .u8 46)], .agg [.lit (.int .u8 36), .lit (.int .u8 36)]]

/-- 'columnsevenlaw14.UsagesAny': WHATEVER THE INPUT: true; the input reads as it did. -/
def usagesAnySpec : ChangeSpec := { name := "usagesAny", fn := fun _ => fun
  | [d1, d2] => { results := [.lit (.bool true)], args := [d1, d2] }
  | _ => none }
def usagesAnyRow : OpenClaim := { program := "ytamibdbkmlgeeaagreatdoor", sum := "cae47dbc83fe7889c9313749e483f710b638e2683b118cd417bec2539e11d4cf", func := "columnseven/columnsevenlaw14.UsagesAny", spec := "usagesAny", inPlace := ["internal/bytealg.CountString", "internal/bytealg.IndexByteString", "internal/bytealg.IndexString", "internal/abi.NoEscape", "internal/bytealg.MakeNoZero"], unfollowed := true, recurses := true, named := ["internal/strconv.uint64pow10", "math/bits.deBruijn32tab", "math/bits.deBruijn64tab", "internal/bytealg.MaxLen", "strconv.ErrSyntax", "strconv.ErrRange", "unicode/utf8.first", "unicode/utf8.acceptRanges", "columnseven/pictures.floats"], apart := false, laid := [("math/bits.deBruijn32tab", laid_math_bits_deBruijn32tab), ("math/bits.deBruijn64tab", laid_math_bits_deBruijn64tab), ("internal/strconv.uint64pow10", laid_internal_strconv_uint64pow10), ("unicode/utf8.acceptRanges", laid_unicode_utf8_acceptRanges), ("strconv.ErrRange", laid_strconv_ErrRange), ("strconv.ErrSyntax", laid_strconv_ErrSyntax), ("columnseven/pictures.floats", laid_columnseven_pictures_floats), ("unicode/utf8.first", laid_unicode_utf8_first)] }
def UsagesAnySaid : Prop := usagesAnyRow.holds Tryz.pinned (OpenSpec.ofChange usagesAnySpec)

/-- ITS FALSE NEIGHBOUR: 'it returns false'. Refute it at one input. -/
def usagesAnyWrong : ChangeSpec := { name := "usagesAny", fn := fun _ => fun
  | [d1, d2] => { results := [.lit (.bool false)], args := [d1, d2] }
  | _ => none }
def UsagesAnyWrongFalsely : Prop := usagesAnyRow.holds Tryz.pinned (OpenSpec.ofChange usagesAnyWrong)

/-- 'columnsevenlaw14.UsagesPut': WHATEVER THE INPUT: true; the input reads as it did. -/
def usagesPutSpec : ChangeSpec := { name := "usagesPut", fn := fun _ => fun
  | [d] => { results := [.lit (.bool true)], args := [d] }
  | _ => none }
def usagesPutRow : OpenClaim := { program := "ytamibdbkmlgeeaagreatdoor", sum := "cae47dbc83fe7889c9313749e483f710b638e2683b118cd417bec2539e11d4cf", func := "columnseven/columnsevenlaw14.UsagesPut", spec := "usagesPut", inPlace := ["internal/bytealg.CountString", "internal/bytealg.IndexByteString", "internal/bytealg.IndexString", "internal/abi.NoEscape", "internal/bytealg.MakeNoZero"], unfollowed := true, recurses := true, named := ["internal/bytealg.MaxLen", "strconv.ErrSyntax", "strconv.ErrRange", "internal/strconv.uint64pow10", "math/bits.deBruijn32tab", "math/bits.deBruijn64tab", "unicode/utf8.first", "unicode/utf8.acceptRanges", "columnseven/pictures.floats"], apart := false, laid := [("math/bits.deBruijn32tab", laid_math_bits_deBruijn32tab), ("math/bits.deBruijn64tab", laid_math_bits_deBruijn64tab), ("internal/strconv.uint64pow10", laid_internal_strconv_uint64pow10), ("unicode/utf8.acceptRanges", laid_unicode_utf8_acceptRanges), ("strconv.ErrRange", laid_strconv_ErrRange), ("strconv.ErrSyntax", laid_strconv_ErrSyntax), ("columnseven/pictures.floats", laid_columnseven_pictures_floats), ("unicode/utf8.first", laid_unicode_utf8_first)] }
def UsagesPutSaid : Prop := usagesPutRow.holds Tryz.pinned (OpenSpec.ofChange usagesPutSpec)

/-- ITS FALSE NEIGHBOUR: 'it returns false'. Refute it at one input. -/
def usagesPutWrong : ChangeSpec := { name := "usagesPut", fn := fun _ => fun
  | [d] => { results := [.lit (.bool false)], args := [d] }
  | _ => none }
def UsagesPutWrongFalsely : Prop := usagesPutRow.holds Tryz.pinned (OpenSpec.ofChange usagesPutWrong)

/-- 'columnsevenlaw14.UsagesErrors': WHATEVER THE INPUT: true; the input reads as it did. -/
def usagesErrorsSpec : ChangeSpec := { name := "usagesErrors", fn := fun _ => fun
  | [d1, d2] => { results := [.lit (.bool true)], args := [d1, d2] }
  | _ => none }
def usagesErrorsRow : OpenClaim := { program := "ytamibdbkmlgeeaagreatdoor", sum := "cae47dbc83fe7889c9313749e483f710b638e2683b118cd417bec2539e11d4cf", func := "columnseven/columnsevenlaw14.UsagesErrors", spec := "usagesErrors", inPlace := ["internal/bytealg.CountString", "internal/bytealg.IndexByteString", "internal/bytealg.IndexString", "internal/abi.NoEscape", "internal/bytealg.MakeNoZero"], unfollowed := true, recurses := true, named := ["internal/bytealg.MaxLen", "strconv.ErrSyntax", "strconv.ErrRange", "internal/strconv.uint64pow10", "math/bits.deBruijn32tab", "math/bits.deBruijn64tab", "unicode/utf8.first", "unicode/utf8.acceptRanges", "columnseven/pictures.floats"], apart := false, laid := [("math/bits.deBruijn32tab", laid_math_bits_deBruijn32tab), ("math/bits.deBruijn64tab", laid_math_bits_deBruijn64tab), ("internal/strconv.uint64pow10", laid_internal_strconv_uint64pow10), ("unicode/utf8.acceptRanges", laid_unicode_utf8_acceptRanges), ("strconv.ErrRange", laid_strconv_ErrRange), ("strconv.ErrSyntax", laid_strconv_ErrSyntax), ("columnseven/pictures.floats", laid_columnseven_pictures_floats), ("unicode/utf8.first", laid_unicode_utf8_first)] }
def UsagesErrorsSaid : Prop := usagesErrorsRow.holds Tryz.pinned (OpenSpec.ofChange usagesErrorsSpec)

/-- ITS FALSE NEIGHBOUR: 'it returns false'. Refute it at one input. -/
def usagesErrorsWrong : ChangeSpec := { name := "usagesErrors", fn := fun _ => fun
  | [d1, d2] => { results := [.lit (.bool false)], args := [d1, d2] }
  | _ => none }
def UsagesErrorsWrongFalsely : Prop := usagesErrorsRow.holds Tryz.pinned (OpenSpec.ofChange usagesErrorsWrong)

/-- 'columnsevenlaw14.UsagesLeast': WHATEVER THE INPUT: true; the input reads as it did. -/
def usagesLeastSpec : ChangeSpec := { name := "usagesLeast", fn := fun _ => fun
  | [d] => { results := [.lit (.bool true)], args := [d] }
  | _ => none }
def usagesLeastRow : OpenClaim := { program := "ytamibdbkmlgeeaagreatdoor", sum := "cae47dbc83fe7889c9313749e483f710b638e2683b118cd417bec2539e11d4cf", func := "columnseven/columnsevenlaw14.UsagesLeast", spec := "usagesLeast", inPlace := ["internal/bytealg.CountString", "internal/bytealg.IndexByteString", "internal/bytealg.IndexString", "internal/abi.NoEscape", "internal/bytealg.MakeNoZero"], unfollowed := true, recurses := true, named := ["internal/bytealg.MaxLen", "strconv.ErrSyntax", "strconv.ErrRange", "internal/strconv.uint64pow10", "math/bits.deBruijn32tab", "math/bits.deBruijn64tab", "unicode/utf8.first", "unicode/utf8.acceptRanges", "columnseven/pictures.floats"], apart := false, laid := [("math/bits.deBruijn32tab", laid_math_bits_deBruijn32tab), ("math/bits.deBruijn64tab", laid_math_bits_deBruijn64tab), ("internal/strconv.uint64pow10", laid_internal_strconv_uint64pow10), ("unicode/utf8.acceptRanges", laid_unicode_utf8_acceptRanges), ("strconv.ErrRange", laid_strconv_ErrRange), ("strconv.ErrSyntax", laid_strconv_ErrSyntax), ("columnseven/pictures.floats", laid_columnseven_pictures_floats), ("unicode/utf8.first", laid_unicode_utf8_first)] }
def UsagesLeastSaid : Prop := usagesLeastRow.holds Tryz.pinned (OpenSpec.ofChange usagesLeastSpec)

/-- ITS FALSE NEIGHBOUR: 'it returns false'. Refute it at one input. -/
def usagesLeastWrong : ChangeSpec := { name := "usagesLeast", fn := fun _ => fun
  | [d] => { results := [.lit (.bool false)], args := [d] }
  | _ => none }
def UsagesLeastWrongFalsely : Prop := usagesLeastRow.holds Tryz.pinned (OpenSpec.ofChange usagesLeastWrong)

/-- 'columnsevenlaw14.UsagesGet': WHATEVER THE INPUT: true; the input reads as it did. -/
def usagesGetSpec : ChangeSpec := { name := "usagesGet", fn := fun _ => fun
  | [d1, d2] => { results := [.lit (.bool true)], args := [d1, d2] }
  | _ => none }
def usagesGetRow : OpenClaim := { program := "ytamibdbkmlgeeaagreatdoor", sum := "cae47dbc83fe7889c9313749e483f710b638e2683b118cd417bec2539e11d4cf", func := "columnseven/columnsevenlaw14.UsagesGet", spec := "usagesGet", inPlace := ["internal/bytealg.CountString", "internal/bytealg.IndexByteString", "internal/bytealg.IndexString", "internal/abi.NoEscape", "internal/bytealg.MakeNoZero"], unfollowed := true, recurses := true, named := ["internal/bytealg.MaxLen", "strconv.ErrSyntax", "strconv.ErrRange", "internal/strconv.uint64pow10", "math/bits.deBruijn32tab", "math/bits.deBruijn64tab", "unicode/utf8.first", "unicode/utf8.acceptRanges", "columnseven/pictures.floats"], apart := false, laid := [("math/bits.deBruijn32tab", laid_math_bits_deBruijn32tab), ("math/bits.deBruijn64tab", laid_math_bits_deBruijn64tab), ("internal/strconv.uint64pow10", laid_internal_strconv_uint64pow10), ("unicode/utf8.acceptRanges", laid_unicode_utf8_acceptRanges), ("strconv.ErrRange", laid_strconv_ErrRange), ("strconv.ErrSyntax", laid_strconv_ErrSyntax), ("columnseven/pictures.floats", laid_columnseven_pictures_floats), ("unicode/utf8.first", laid_unicode_utf8_first)] }
def UsagesGetSaid : Prop := usagesGetRow.holds Tryz.pinned (OpenSpec.ofChange usagesGetSpec)

/-- ITS FALSE NEIGHBOUR: 'it returns false'. Refute it at one input. -/
def usagesGetWrong : ChangeSpec := { name := "usagesGet", fn := fun _ => fun
  | [d1, d2] => { results := [.lit (.bool false)], args := [d1, d2] }
  | _ => none }
def UsagesGetWrongFalsely : Prop := usagesGetRow.holds Tryz.pinned (OpenSpec.ofChange usagesGetWrong)

/-- 'columnsevenlaw15.EditsEdit': WHATEVER THE INPUT: true; the input reads as it did. -/
def editsEditSpec : ChangeSpec := { name := "editsEdit", fn := fun _ => fun
  | [d1, d2] => { results := [.lit (.bool true)], args := [d1, d2] }
  | _ => none }
def editsEditRow : OpenClaim := { program := "ytamibdbkmlgeeaagreatdoor", sum := "cae47dbc83fe7889c9313749e483f710b638e2683b118cd417bec2539e11d4cf", func := "columnseven/columnsevenlaw15.EditsEdit", spec := "editsEdit", inPlace := ["internal/bytealg.CountString", "internal/bytealg.IndexByteString", "internal/bytealg.IndexString", "internal/abi.NoEscape", "internal/bytealg.MakeNoZero"], unfollowed := true, recurses := true, named := ["internal/bytealg.MaxLen", "strconv.ErrSyntax", "strconv.ErrRange", "internal/strconv.uint64pow10", "math/bits.deBruijn32tab", "math/bits.deBruijn64tab", "unicode/utf8.first", "unicode/utf8.acceptRanges", "columnseven/pictures.floats", "columnseven/edits.shows"], apart := false, laid := [("math/bits.deBruijn32tab", laid_math_bits_deBruijn32tab), ("math/bits.deBruijn64tab", laid_math_bits_deBruijn64tab), ("internal/strconv.uint64pow10", laid_internal_strconv_uint64pow10), ("unicode/utf8.acceptRanges", laid_unicode_utf8_acceptRanges), ("strconv.ErrRange", laid_strconv_ErrRange), ("strconv.ErrSyntax", laid_strconv_ErrSyntax), ("columnseven/pictures.floats", laid_columnseven_pictures_floats), ("columnseven/edits.shows", laid_columnseven_edits_shows), ("unicode/utf8.first", laid_unicode_utf8_first)] }
def EditsEditSaid : Prop := editsEditRow.holds Tryz.pinned (OpenSpec.ofChange editsEditSpec)

/-- ITS FALSE NEIGHBOUR: 'it returns false'. Refute it at one input. -/
def editsEditWrong : ChangeSpec := { name := "editsEdit", fn := fun _ => fun
  | [d1, d2] => { results := [.lit (.bool false)], args := [d1, d2] }
  | _ => none }
def EditsEditWrongFalsely : Prop := editsEditRow.holds Tryz.pinned (OpenSpec.ofChange editsEditWrong)

/-- 'columnsevenlaw15.EditsShown': WHATEVER THE INPUT: true; the input reads as it did. -/
def editsShownSpec : ChangeSpec := { name := "editsShown", fn := fun _ => fun
  | [d1, d2] => { results := [.lit (.bool true)], args := [d1, d2] }
  | _ => none }
def editsShownRow : OpenClaim := { program := "ytamibdbkmlgeeaagreatdoor", sum := "cae47dbc83fe7889c9313749e483f710b638e2683b118cd417bec2539e11d4cf", func := "columnseven/columnsevenlaw15.EditsShown", spec := "editsShown", inPlace := ["internal/bytealg.IndexByteString", "internal/bytealg.IndexString", "internal/abi.NoEscape", "internal/bytealg.MakeNoZero", "internal/bytealg.CountString"], unfollowed := true, recurses := true, named := ["internal/strconv.uint64pow10", "math/bits.deBruijn32tab", "math/bits.deBruijn64tab", "unicode/utf8.first", "unicode/utf8.acceptRanges", "internal/bytealg.MaxLen", "strconv.ErrSyntax", "strconv.ErrRange", "columnseven/pictures.floats", "columnseven/edits.shows"], apart := false, laid := [("math/bits.deBruijn32tab", laid_math_bits_deBruijn32tab), ("math/bits.deBruijn64tab", laid_math_bits_deBruijn64tab), ("internal/strconv.uint64pow10", laid_internal_strconv_uint64pow10), ("unicode/utf8.acceptRanges", laid_unicode_utf8_acceptRanges), ("strconv.ErrRange", laid_strconv_ErrRange), ("strconv.ErrSyntax", laid_strconv_ErrSyntax), ("columnseven/pictures.floats", laid_columnseven_pictures_floats), ("columnseven/edits.shows", laid_columnseven_edits_shows), ("unicode/utf8.first", laid_unicode_utf8_first)] }
def EditsShownSaid : Prop := editsShownRow.holds Tryz.pinned (OpenSpec.ofChange editsShownSpec)

/-- ITS FALSE NEIGHBOUR: 'it returns false'. Refute it at one input. -/
def editsShownWrong : ChangeSpec := { name := "editsShown", fn := fun _ => fun
  | [d1, d2] => { results := [.lit (.bool false)], args := [d1, d2] }
  | _ => none }
def EditsShownWrongFalsely : Prop := editsShownRow.holds Tryz.pinned (OpenSpec.ofChange editsShownWrong)

/-- 'columnsevenlaw15.EditsBack': WHATEVER THE INPUT: true; the input reads as it did. -/
def editsBackSpec : ChangeSpec := { name := "editsBack", fn := fun _ => fun
  | [d1, d2] => { results := [.lit (.bool true)], args := [d1, d2] }
  | _ => none }
def editsBackRow : OpenClaim := { program := "ytamibdbkmlgeeaagreatdoor", sum := "cae47dbc83fe7889c9313749e483f710b638e2683b118cd417bec2539e11d4cf", func := "columnseven/columnsevenlaw15.EditsBack", spec := "editsBack", inPlace := ["internal/bytealg.CountString", "internal/bytealg.IndexByteString", "internal/bytealg.IndexString", "internal/abi.NoEscape", "internal/bytealg.MakeNoZero"], unfollowed := true, recurses := true, named := ["internal/bytealg.MaxLen", "strconv.ErrSyntax", "strconv.ErrRange", "internal/strconv.uint64pow10", "math/bits.deBruijn32tab", "math/bits.deBruijn64tab", "unicode/utf8.first", "unicode/utf8.acceptRanges", "columnseven/pictures.floats", "columnseven/edits.shows"], apart := false, laid := [("math/bits.deBruijn32tab", laid_math_bits_deBruijn32tab), ("math/bits.deBruijn64tab", laid_math_bits_deBruijn64tab), ("internal/strconv.uint64pow10", laid_internal_strconv_uint64pow10), ("unicode/utf8.acceptRanges", laid_unicode_utf8_acceptRanges), ("strconv.ErrRange", laid_strconv_ErrRange), ("strconv.ErrSyntax", laid_strconv_ErrSyntax), ("columnseven/pictures.floats", laid_columnseven_pictures_floats), ("columnseven/edits.shows", laid_columnseven_edits_shows), ("unicode/utf8.first", laid_unicode_utf8_first)] }
def EditsBackSaid : Prop := editsBackRow.holds Tryz.pinned (OpenSpec.ofChange editsBackSpec)

/-- ITS FALSE NEIGHBOUR: 'it returns false'. Refute it at one input. -/
def editsBackWrong : ChangeSpec := { name := "editsBack", fn := fun _ => fun
  | [d1, d2] => { results := [.lit (.bool false)], args := [d1, d2] }
  | _ => none }
def EditsBackWrongFalsely : Prop := editsBackRow.holds Tryz.pinned (OpenSpec.ofChange editsBackWrong)

/-- 'columnsevenlaw15.EditsAny': WHATEVER THE INPUT: true; the input reads as it did. -/
def editsAnySpec : ChangeSpec := { name := "editsAny", fn := fun _ => fun
  | [d1, d2, d3] => { results := [.lit (.bool true)], args := [d1, d2, d3] }
  | _ => none }
def editsAnyRow : OpenClaim := { program := "ytamibdbkmlgeeaagreatdoor", sum := "cae47dbc83fe7889c9313749e483f710b638e2683b118cd417bec2539e11d4cf", func := "columnseven/columnsevenlaw15.EditsAny", spec := "editsAny", inPlace := ["internal/bytealg.IndexByteString", "internal/abi.NoEscape", "internal/bytealg.MakeNoZero", "internal/bytealg.IndexString", "internal/bytealg.CountString"], unfollowed := true, recurses := true, named := ["strconv.ErrSyntax", "strconv.ErrRange", "internal/strconv.uint64pow10", "math/bits.deBruijn32tab", "math/bits.deBruijn64tab", "internal/bytealg.MaxLen", "unicode/utf8.first", "unicode/utf8.acceptRanges", "columnseven/pictures.floats", "columnseven/edits.shows"], apart := false, laid := [("math/bits.deBruijn32tab", laid_math_bits_deBruijn32tab), ("math/bits.deBruijn64tab", laid_math_bits_deBruijn64tab), ("internal/strconv.uint64pow10", laid_internal_strconv_uint64pow10), ("unicode/utf8.acceptRanges", laid_unicode_utf8_acceptRanges), ("strconv.ErrRange", laid_strconv_ErrRange), ("strconv.ErrSyntax", laid_strconv_ErrSyntax), ("columnseven/pictures.floats", laid_columnseven_pictures_floats), ("columnseven/edits.shows", laid_columnseven_edits_shows), ("unicode/utf8.first", laid_unicode_utf8_first)] }
def EditsAnySaid : Prop := editsAnyRow.holds Tryz.pinned (OpenSpec.ofChange editsAnySpec)

/-- ITS FALSE NEIGHBOUR: 'it returns false'. Refute it at one input. -/
def editsAnyWrong : ChangeSpec := { name := "editsAny", fn := fun _ => fun
  | [d1, d2, d3] => { results := [.lit (.bool false)], args := [d1, d2, d3] }
  | _ => none }
def EditsAnyWrongFalsely : Prop := editsAnyRow.holds Tryz.pinned (OpenSpec.ofChange editsAnyWrong)

/-- 'columnsevenlaw15.EditsText': WHATEVER THE INPUT: true; the input reads as it did. -/
def editsTextSpec : ChangeSpec := { name := "editsText", fn := fun _ => fun
  | [d1, d2] => { results := [.lit (.bool true)], args := [d1, d2] }
  | _ => none }
def editsTextRow : OpenClaim := { program := "ytamibdbkmlgeeaagreatdoor", sum := "cae47dbc83fe7889c9313749e483f710b638e2683b118cd417bec2539e11d4cf", func := "columnseven/columnsevenlaw15.EditsText", spec := "editsText", inPlace := ["internal/bytealg.IndexByteString", "internal/abi.NoEscape", "internal/bytealg.MakeNoZero", "internal/bytealg.IndexString", "internal/bytealg.CountString"], unfollowed := true, recurses := true, named := ["strconv.ErrSyntax", "strconv.ErrRange", "internal/strconv.uint64pow10", "math/bits.deBruijn32tab", "math/bits.deBruijn64tab", "internal/bytealg.MaxLen", "unicode/utf8.first", "unicode/utf8.acceptRanges", "columnseven/pictures.floats", "columnseven/edits.shows"], apart := false, laid := [("math/bits.deBruijn32tab", laid_math_bits_deBruijn32tab), ("math/bits.deBruijn64tab", laid_math_bits_deBruijn64tab), ("internal/strconv.uint64pow10", laid_internal_strconv_uint64pow10), ("unicode/utf8.acceptRanges", laid_unicode_utf8_acceptRanges), ("strconv.ErrRange", laid_strconv_ErrRange), ("strconv.ErrSyntax", laid_strconv_ErrSyntax), ("columnseven/pictures.floats", laid_columnseven_pictures_floats), ("columnseven/edits.shows", laid_columnseven_edits_shows), ("unicode/utf8.first", laid_unicode_utf8_first)] }
def EditsTextSaid : Prop := editsTextRow.holds Tryz.pinned (OpenSpec.ofChange editsTextSpec)

/-- ITS FALSE NEIGHBOUR: 'it returns false'. Refute it at one input. -/
def editsTextWrong : ChangeSpec := { name := "editsText", fn := fun _ => fun
  | [d1, d2] => { results := [.lit (.bool false)], args := [d1, d2] }
  | _ => none }
def EditsTextWrongFalsely : Prop := editsTextRow.holds Tryz.pinned (OpenSpec.ofChange editsTextWrong)

/-- 'columnsevenlaw15.EditsErrors': WHATEVER THE INPUT: true; the input reads as it did. -/
def editsErrorsSpec : ChangeSpec := { name := "editsErrors", fn := fun _ => fun
  | [d1, d2] => { results := [.lit (.bool true)], args := [d1, d2] }
  | _ => none }
def editsErrorsRow : OpenClaim := { program := "ytamibdbkmlgeeaagreatdoor", sum := "cae47dbc83fe7889c9313749e483f710b638e2683b118cd417bec2539e11d4cf", func := "columnseven/columnsevenlaw15.EditsErrors", spec := "editsErrors", inPlace := ["internal/bytealg.IndexByteString", "internal/abi.NoEscape", "internal/bytealg.MakeNoZero", "internal/bytealg.IndexString", "internal/bytealg.CountString"], unfollowed := true, recurses := true, named := ["strconv.ErrSyntax", "strconv.ErrRange", "internal/strconv.uint64pow10", "math/bits.deBruijn32tab", "math/bits.deBruijn64tab", "internal/bytealg.MaxLen", "unicode/utf8.first", "unicode/utf8.acceptRanges", "columnseven/pictures.floats", "columnseven/edits.shows"], apart := false, laid := [("math/bits.deBruijn32tab", laid_math_bits_deBruijn32tab), ("math/bits.deBruijn64tab", laid_math_bits_deBruijn64tab), ("internal/strconv.uint64pow10", laid_internal_strconv_uint64pow10), ("unicode/utf8.acceptRanges", laid_unicode_utf8_acceptRanges), ("strconv.ErrRange", laid_strconv_ErrRange), ("strconv.ErrSyntax", laid_strconv_ErrSyntax), ("columnseven/pictures.floats", laid_columnseven_pictures_floats), ("columnseven/edits.shows", laid_columnseven_edits_shows), ("unicode/utf8.first", laid_unicode_utf8_first)] }
def EditsErrorsSaid : Prop := editsErrorsRow.holds Tryz.pinned (OpenSpec.ofChange editsErrorsSpec)

/-- ITS FALSE NEIGHBOUR: 'it returns false'. Refute it at one input. -/
def editsErrorsWrong : ChangeSpec := { name := "editsErrors", fn := fun _ => fun
  | [d1, d2] => { results := [.lit (.bool false)], args := [d1, d2] }
  | _ => none }
def EditsErrorsWrongFalsely : Prop := editsErrorsRow.holds Tryz.pinned (OpenSpec.ofChange editsErrorsWrong)

/- THE SECOND FORM. 'bulk': how many values and letters a reading holds, each counted each time it is reached (what is shared counts as often as it is met; a slice's spare places count too). A statement '..UptoSaid' is the law's where the arguments, and the package variables that the reading takes, are together of bulk at most 1048576: NARROWER than '..Said'. Prove '..Said' where nothing that the law and all that it calls make is longer than what came in: it says more and counts as full. Else prove '..UptoSaid'. A law counts once. -/
mutual
def uptoBulk {H : Type} : DataW H → Nat
  | .lit (.string bytes) => bytes.length + 1
  | .lit _ => 1
  | .nil => 1
  | .ptr d => uptoBulk d + 1
  | .slice elems spare => uptoBulkAll elems + uptoBulkAll spare + 1
  | .agg parts => uptoBulkAll parts + 1
  | .iface _ d => uptoBulk d + 1
  | .map entries => uptoBulkEntries entries + 1
  | .held _ => 1
def uptoBulkAll {H : Type} : List (DataW H) → Nat
  | [] => 0
  | d :: r => uptoBulk d + uptoBulkAll r
def uptoBulkEntries {H : Type} : List (Lit × DataW H) → Nat
  | [] => 0
  | x :: r => uptoBulkEntry x + uptoBulkEntries r
def uptoBulkEntry {H : Type} : Lit × DataW H → Nat
  | (.string bytes, d) => bytes.length + uptoBulk d + 1
  | (_, d) => uptoBulk d + 1
 end
def uptoSmall : (H : Type) → List (DataW H) → Bool := fun _ ds => decide (uptoBulkAll ds ≤ 1048576)
def OpenSpec.upto (s : _root_.Go.ChangeSpec) : _root_.Go.OpenSpec := { _root_.Go.OpenSpec.ofChange s with cond := some uptoSmall }

/-- 'columnsevenlaw14.UsagesAny', WHERE WHAT IT READS IS OF BULK AT MOST 1048576: true; the input reads as it did. -/
def usagesAnyUptoRow : OpenClaim := { program := "ytamibdbkmlgeeaagreatdoor", sum := "cae47dbc83fe7889c9313749e483f710b638e2683b118cd417bec2539e11d4cf", func := "columnseven/columnsevenlaw14.UsagesAny", spec := "usagesAny", inPlace := ["internal/bytealg.CountString", "internal/bytealg.IndexByteString", "internal/bytealg.IndexString", "internal/abi.NoEscape", "internal/bytealg.MakeNoZero"], unfollowed := true, recurses := true, named := ["internal/strconv.uint64pow10", "math/bits.deBruijn32tab", "math/bits.deBruijn64tab", "internal/bytealg.MaxLen", "strconv.ErrSyntax", "strconv.ErrRange", "unicode/utf8.first", "unicode/utf8.acceptRanges", "columnseven/pictures.floats"], apart := false, laid := [("math/bits.deBruijn32tab", laid_math_bits_deBruijn32tab), ("math/bits.deBruijn64tab", laid_math_bits_deBruijn64tab), ("internal/strconv.uint64pow10", laid_internal_strconv_uint64pow10), ("unicode/utf8.acceptRanges", laid_unicode_utf8_acceptRanges), ("strconv.ErrRange", laid_strconv_ErrRange), ("strconv.ErrSyntax", laid_strconv_ErrSyntax), ("columnseven/pictures.floats", laid_columnseven_pictures_floats), ("unicode/utf8.first", laid_unicode_utf8_first)], narrowed := true }
def UsagesAnyUptoSaid : Prop := usagesAnyUptoRow.holds Tryz.pinned (OpenSpec.upto usagesAnySpec)

/-- 'columnsevenlaw14.UsagesPut', WHERE WHAT IT READS IS OF BULK AT MOST 1048576: true; the input reads as it did. -/
def usagesPutUptoRow : OpenClaim := { program := "ytamibdbkmlgeeaagreatdoor", sum := "cae47dbc83fe7889c9313749e483f710b638e2683b118cd417bec2539e11d4cf", func := "columnseven/columnsevenlaw14.UsagesPut", spec := "usagesPut", inPlace := ["internal/bytealg.CountString", "internal/bytealg.IndexByteString", "internal/bytealg.IndexString", "internal/abi.NoEscape", "internal/bytealg.MakeNoZero"], unfollowed := true, recurses := true, named := ["internal/bytealg.MaxLen", "strconv.ErrSyntax", "strconv.ErrRange", "internal/strconv.uint64pow10", "math/bits.deBruijn32tab", "math/bits.deBruijn64tab", "unicode/utf8.first", "unicode/utf8.acceptRanges", "columnseven/pictures.floats"], apart := false, laid := [("math/bits.deBruijn32tab", laid_math_bits_deBruijn32tab), ("math/bits.deBruijn64tab", laid_math_bits_deBruijn64tab), ("internal/strconv.uint64pow10", laid_internal_strconv_uint64pow10), ("unicode/utf8.acceptRanges", laid_unicode_utf8_acceptRanges), ("strconv.ErrRange", laid_strconv_ErrRange), ("strconv.ErrSyntax", laid_strconv_ErrSyntax), ("columnseven/pictures.floats", laid_columnseven_pictures_floats), ("unicode/utf8.first", laid_unicode_utf8_first)], narrowed := true }
def UsagesPutUptoSaid : Prop := usagesPutUptoRow.holds Tryz.pinned (OpenSpec.upto usagesPutSpec)

/-- 'columnsevenlaw14.UsagesErrors', WHERE WHAT IT READS IS OF BULK AT MOST 1048576: true; the input reads as it did. -/
def usagesErrorsUptoRow : OpenClaim := { program := "ytamibdbkmlgeeaagreatdoor", sum := "cae47dbc83fe7889c9313749e483f710b638e2683b118cd417bec2539e11d4cf", func := "columnseven/columnsevenlaw14.UsagesErrors", spec := "usagesErrors", inPlace := ["internal/bytealg.CountString", "internal/bytealg.IndexByteString", "internal/bytealg.IndexString", "internal/abi.NoEscape", "internal/bytealg.MakeNoZero"], unfollowed := true, recurses := true, named := ["internal/bytealg.MaxLen", "strconv.ErrSyntax", "strconv.ErrRange", "internal/strconv.uint64pow10", "math/bits.deBruijn32tab", "math/bits.deBruijn64tab", "unicode/utf8.first", "unicode/utf8.acceptRanges", "columnseven/pictures.floats"], apart := false, laid := [("math/bits.deBruijn32tab", laid_math_bits_deBruijn32tab), ("math/bits.deBruijn64tab", laid_math_bits_deBruijn64tab), ("internal/strconv.uint64pow10", laid_internal_strconv_uint64pow10), ("unicode/utf8.acceptRanges", laid_unicode_utf8_acceptRanges), ("strconv.ErrRange", laid_strconv_ErrRange), ("strconv.ErrSyntax", laid_strconv_ErrSyntax), ("columnseven/pictures.floats", laid_columnseven_pictures_floats), ("unicode/utf8.first", laid_unicode_utf8_first)], narrowed := true }
def UsagesErrorsUptoSaid : Prop := usagesErrorsUptoRow.holds Tryz.pinned (OpenSpec.upto usagesErrorsSpec)

/-- 'columnsevenlaw14.UsagesLeast', WHERE WHAT IT READS IS OF BULK AT MOST 1048576: true; the input reads as it did. -/
def usagesLeastUptoRow : OpenClaim := { program := "ytamibdbkmlgeeaagreatdoor", sum := "cae47dbc83fe7889c9313749e483f710b638e2683b118cd417bec2539e11d4cf", func := "columnseven/columnsevenlaw14.UsagesLeast", spec := "usagesLeast", inPlace := ["internal/bytealg.CountString", "internal/bytealg.IndexByteString", "internal/bytealg.IndexString", "internal/abi.NoEscape", "internal/bytealg.MakeNoZero"], unfollowed := true, recurses := true, named := ["internal/bytealg.MaxLen", "strconv.ErrSyntax", "strconv.ErrRange", "internal/strconv.uint64pow10", "math/bits.deBruijn32tab", "math/bits.deBruijn64tab", "unicode/utf8.first", "unicode/utf8.acceptRanges", "columnseven/pictures.floats"], apart := false, laid := [("math/bits.deBruijn32tab", laid_math_bits_deBruijn32tab), ("math/bits.deBruijn64tab", laid_math_bits_deBruijn64tab), ("internal/strconv.uint64pow10", laid_internal_strconv_uint64pow10), ("unicode/utf8.acceptRanges", laid_unicode_utf8_acceptRanges), ("strconv.ErrRange", laid_strconv_ErrRange), ("strconv.ErrSyntax", laid_strconv_ErrSyntax), ("columnseven/pictures.floats", laid_columnseven_pictures_floats), ("unicode/utf8.first", laid_unicode_utf8_first)], narrowed := true }
def UsagesLeastUptoSaid : Prop := usagesLeastUptoRow.holds Tryz.pinned (OpenSpec.upto usagesLeastSpec)

/-- 'columnsevenlaw14.UsagesGet', WHERE WHAT IT READS IS OF BULK AT MOST 1048576: true; the input reads as it did. -/
def usagesGetUptoRow : OpenClaim := { program := "ytamibdbkmlgeeaagreatdoor", sum := "cae47dbc83fe7889c9313749e483f710b638e2683b118cd417bec2539e11d4cf", func := "columnseven/columnsevenlaw14.UsagesGet", spec := "usagesGet", inPlace := ["internal/bytealg.CountString", "internal/bytealg.IndexByteString", "internal/bytealg.IndexString", "internal/abi.NoEscape", "internal/bytealg.MakeNoZero"], unfollowed := true, recurses := true, named := ["internal/bytealg.MaxLen", "strconv.ErrSyntax", "strconv.ErrRange", "internal/strconv.uint64pow10", "math/bits.deBruijn32tab", "math/bits.deBruijn64tab", "unicode/utf8.first", "unicode/utf8.acceptRanges", "columnseven/pictures.floats"], apart := false, laid := [("math/bits.deBruijn32tab", laid_math_bits_deBruijn32tab), ("math/bits.deBruijn64tab", laid_math_bits_deBruijn64tab), ("internal/strconv.uint64pow10", laid_internal_strconv_uint64pow10), ("unicode/utf8.acceptRanges", laid_unicode_utf8_acceptRanges), ("strconv.ErrRange", laid_strconv_ErrRange), ("strconv.ErrSyntax", laid_strconv_ErrSyntax), ("columnseven/pictures.floats", laid_columnseven_pictures_floats), ("unicode/utf8.first", laid_unicode_utf8_first)], narrowed := true }
def UsagesGetUptoSaid : Prop := usagesGetUptoRow.holds Tryz.pinned (OpenSpec.upto usagesGetSpec)

/-- 'columnsevenlaw15.EditsEdit', WHERE WHAT IT READS IS OF BULK AT MOST 1048576: true; the input reads as it did. -/
def editsEditUptoRow : OpenClaim := { program := "ytamibdbkmlgeeaagreatdoor", sum := "cae47dbc83fe7889c9313749e483f710b638e2683b118cd417bec2539e11d4cf", func := "columnseven/columnsevenlaw15.EditsEdit", spec := "editsEdit", inPlace := ["internal/bytealg.CountString", "internal/bytealg.IndexByteString", "internal/bytealg.IndexString", "internal/abi.NoEscape", "internal/bytealg.MakeNoZero"], unfollowed := true, recurses := true, named := ["internal/bytealg.MaxLen", "strconv.ErrSyntax", "strconv.ErrRange", "internal/strconv.uint64pow10", "math/bits.deBruijn32tab", "math/bits.deBruijn64tab", "unicode/utf8.first", "unicode/utf8.acceptRanges", "columnseven/pictures.floats", "columnseven/edits.shows"], apart := false, laid := [("math/bits.deBruijn32tab", laid_math_bits_deBruijn32tab), ("math/bits.deBruijn64tab", laid_math_bits_deBruijn64tab), ("internal/strconv.uint64pow10", laid_internal_strconv_uint64pow10), ("unicode/utf8.acceptRanges", laid_unicode_utf8_acceptRanges), ("strconv.ErrRange", laid_strconv_ErrRange), ("strconv.ErrSyntax", laid_strconv_ErrSyntax), ("columnseven/pictures.floats", laid_columnseven_pictures_floats), ("columnseven/edits.shows", laid_columnseven_edits_shows), ("unicode/utf8.first", laid_unicode_utf8_first)], narrowed := true }
def EditsEditUptoSaid : Prop := editsEditUptoRow.holds Tryz.pinned (OpenSpec.upto editsEditSpec)

/-- 'columnsevenlaw15.EditsShown', WHERE WHAT IT READS IS OF BULK AT MOST 1048576: true; the input reads as it did. -/
def editsShownUptoRow : OpenClaim := { program := "ytamibdbkmlgeeaagreatdoor", sum := "cae47dbc83fe7889c9313749e483f710b638e2683b118cd417bec2539e11d4cf", func := "columnseven/columnsevenlaw15.EditsShown", spec := "editsShown", inPlace := ["internal/bytealg.IndexByteString", "internal/bytealg.IndexString", "internal/abi.NoEscape", "internal/bytealg.MakeNoZero", "internal/bytealg.CountString"], unfollowed := true, recurses := true, named := ["internal/strconv.uint64pow10", "math/bits.deBruijn32tab", "math/bits.deBruijn64tab", "unicode/utf8.first", "unicode/utf8.acceptRanges", "internal/bytealg.MaxLen", "strconv.ErrSyntax", "strconv.ErrRange", "columnseven/pictures.floats", "columnseven/edits.shows"], apart := false, laid := [("math/bits.deBruijn32tab", laid_math_bits_deBruijn32tab), ("math/bits.deBruijn64tab", laid_math_bits_deBruijn64tab), ("internal/strconv.uint64pow10", laid_internal_strconv_uint64pow10), ("unicode/utf8.acceptRanges", laid_unicode_utf8_acceptRanges), ("strconv.ErrRange", laid_strconv_ErrRange), ("strconv.ErrSyntax", laid_strconv_ErrSyntax), ("columnseven/pictures.floats", laid_columnseven_pictures_floats), ("columnseven/edits.shows", laid_columnseven_edits_shows), ("unicode/utf8.first", laid_unicode_utf8_first)], narrowed := true }
def EditsShownUptoSaid : Prop := editsShownUptoRow.holds Tryz.pinned (OpenSpec.upto editsShownSpec)

/-- 'columnsevenlaw15.EditsBack', WHERE WHAT IT READS IS OF BULK AT MOST 1048576: true; the input reads as it did. -/
def editsBackUptoRow : OpenClaim := { program := "ytamibdbkmlgeeaagreatdoor", sum := "cae47dbc83fe7889c9313749e483f710b638e2683b118cd417bec2539e11d4cf", func := "columnseven/columnsevenlaw15.EditsBack", spec := "editsBack", inPlace := ["internal/bytealg.CountString", "internal/bytealg.IndexByteString", "internal/bytealg.IndexString", "internal/abi.NoEscape", "internal/bytealg.MakeNoZero"], unfollowed := true, recurses := true, named := ["internal/bytealg.MaxLen", "strconv.ErrSyntax", "strconv.ErrRange", "internal/strconv.uint64pow10", "math/bits.deBruijn32tab", "math/bits.deBruijn64tab", "unicode/utf8.first", "unicode/utf8.acceptRanges", "columnseven/pictures.floats", "columnseven/edits.shows"], apart := false, laid := [("math/bits.deBruijn32tab", laid_math_bits_deBruijn32tab), ("math/bits.deBruijn64tab", laid_math_bits_deBruijn64tab), ("internal/strconv.uint64pow10", laid_internal_strconv_uint64pow10), ("unicode/utf8.acceptRanges", laid_unicode_utf8_acceptRanges), ("strconv.ErrRange", laid_strconv_ErrRange), ("strconv.ErrSyntax", laid_strconv_ErrSyntax), ("columnseven/pictures.floats", laid_columnseven_pictures_floats), ("columnseven/edits.shows", laid_columnseven_edits_shows), ("unicode/utf8.first", laid_unicode_utf8_first)], narrowed := true }
def EditsBackUptoSaid : Prop := editsBackUptoRow.holds Tryz.pinned (OpenSpec.upto editsBackSpec)

/-- 'columnsevenlaw15.EditsAny', WHERE WHAT IT READS IS OF BULK AT MOST 1048576: true; the input reads as it did. -/
def editsAnyUptoRow : OpenClaim := { program := "ytamibdbkmlgeeaagreatdoor", sum := "cae47dbc83fe7889c9313749e483f710b638e2683b118cd417bec2539e11d4cf", func := "columnseven/columnsevenlaw15.EditsAny", spec := "editsAny", inPlace := ["internal/bytealg.IndexByteString", "internal/abi.NoEscape", "internal/bytealg.MakeNoZero", "internal/bytealg.IndexString", "internal/bytealg.CountString"], unfollowed := true, recurses := true, named := ["strconv.ErrSyntax", "strconv.ErrRange", "internal/strconv.uint64pow10", "math/bits.deBruijn32tab", "math/bits.deBruijn64tab", "internal/bytealg.MaxLen", "unicode/utf8.first", "unicode/utf8.acceptRanges", "columnseven/pictures.floats", "columnseven/edits.shows"], apart := false, laid := [("math/bits.deBruijn32tab", laid_math_bits_deBruijn32tab), ("math/bits.deBruijn64tab", laid_math_bits_deBruijn64tab), ("internal/strconv.uint64pow10", laid_internal_strconv_uint64pow10), ("unicode/utf8.acceptRanges", laid_unicode_utf8_acceptRanges), ("strconv.ErrRange", laid_strconv_ErrRange), ("strconv.ErrSyntax", laid_strconv_ErrSyntax), ("columnseven/pictures.floats", laid_columnseven_pictures_floats), ("columnseven/edits.shows", laid_columnseven_edits_shows), ("unicode/utf8.first", laid_unicode_utf8_first)], narrowed := true }
def EditsAnyUptoSaid : Prop := editsAnyUptoRow.holds Tryz.pinned (OpenSpec.upto editsAnySpec)

/-- 'columnsevenlaw15.EditsText', WHERE WHAT IT READS IS OF BULK AT MOST 1048576: true; the input reads as it did. -/
def editsTextUptoRow : OpenClaim := { program := "ytamibdbkmlgeeaagreatdoor", sum := "cae47dbc83fe7889c9313749e483f710b638e2683b118cd417bec2539e11d4cf", func := "columnseven/columnsevenlaw15.EditsText", spec := "editsText", inPlace := ["internal/bytealg.IndexByteString", "internal/abi.NoEscape", "internal/bytealg.MakeNoZero", "internal/bytealg.IndexString", "internal/bytealg.CountString"], unfollowed := true, recurses := true, named := ["strconv.ErrSyntax", "strconv.ErrRange", "internal/strconv.uint64pow10", "math/bits.deBruijn32tab", "math/bits.deBruijn64tab", "internal/bytealg.MaxLen", "unicode/utf8.first", "unicode/utf8.acceptRanges", "columnseven/pictures.floats", "columnseven/edits.shows"], apart := false, laid := [("math/bits.deBruijn32tab", laid_math_bits_deBruijn32tab), ("math/bits.deBruijn64tab", laid_math_bits_deBruijn64tab), ("internal/strconv.uint64pow10", laid_internal_strconv_uint64pow10), ("unicode/utf8.acceptRanges", laid_unicode_utf8_acceptRanges), ("strconv.ErrRange", laid_strconv_ErrRange), ("strconv.ErrSyntax", laid_strconv_ErrSyntax), ("columnseven/pictures.floats", laid_columnseven_pictures_floats), ("columnseven/edits.shows", laid_columnseven_edits_shows), ("unicode/utf8.first", laid_unicode_utf8_first)], narrowed := true }
def EditsTextUptoSaid : Prop := editsTextUptoRow.holds Tryz.pinned (OpenSpec.upto editsTextSpec)

/-- 'columnsevenlaw15.EditsErrors', WHERE WHAT IT READS IS OF BULK AT MOST 1048576: true; the input reads as it did. -/
def editsErrorsUptoRow : OpenClaim := { program := "ytamibdbkmlgeeaagreatdoor", sum := "cae47dbc83fe7889c9313749e483f710b638e2683b118cd417bec2539e11d4cf", func := "columnseven/columnsevenlaw15.EditsErrors", spec := "editsErrors", inPlace := ["internal/bytealg.IndexByteString", "internal/abi.NoEscape", "internal/bytealg.MakeNoZero", "internal/bytealg.IndexString", "internal/bytealg.CountString"], unfollowed := true, recurses := true, named := ["strconv.ErrSyntax", "strconv.ErrRange", "internal/strconv.uint64pow10", "math/bits.deBruijn32tab", "math/bits.deBruijn64tab", "internal/bytealg.MaxLen", "unicode/utf8.first", "unicode/utf8.acceptRanges", "columnseven/pictures.floats", "columnseven/edits.shows"], apart := false, laid := [("math/bits.deBruijn32tab", laid_math_bits_deBruijn32tab), ("math/bits.deBruijn64tab", laid_math_bits_deBruijn64tab), ("internal/strconv.uint64pow10", laid_internal_strconv_uint64pow10), ("unicode/utf8.acceptRanges", laid_unicode_utf8_acceptRanges), ("strconv.ErrRange", laid_strconv_ErrRange), ("strconv.ErrSyntax", laid_strconv_ErrSyntax), ("columnseven/pictures.floats", laid_columnseven_pictures_floats), ("columnseven/edits.shows", laid_columnseven_edits_shows), ("unicode/utf8.first", laid_unicode_utf8_first)], narrowed := true }
def EditsErrorsUptoSaid : Prop := editsErrorsUptoRow.holds Tryz.pinned (OpenSpec.upto editsErrorsSpec)

end Rows
end Go.Proofs.YtamibdbkmlgeeaaGreatDoor
