/-
  NARROWER THAN 'FOR EVERY INPUT', by the rows' own cells (each row's printed sentence says how): Known: laid · Lists: laid · Reckons: laid · Cuts: laid · Twice: laid · Canon: laid.
  DERIVED. THE GIVEN ROWS OF THIS SEAT. 6 by the template 'for every input the law returns true; each argument reads behind the call as it read before'; 0 by the template 'total and deterministic' (their statements: YtoegidfbnkaabaaGreatDoorTotals.lean).
  GIVEN WITH THE SEED: the statements are not yours to turn. If you find one false, say at which input.
  Laid BY PROGRAM, IN A SANDBOX (cutbox-rows.mjs): the forced cells as the released guide's own fill.sh prints them over the translation 06a09ec79dffacbe… (all of the seat's roots in one cut). By AI agents, Wed Nov 11 2026. No macro, syntax, notation, axiom, sorry.
-/
import Derived.Test.YtoegidfbnkaabaaGreatDoorChecked
import GoSem.PinnedTables
import GoSem.Claim
import GoSem.ClaimJoined
import GoSem.ClaimMapViews
import Derived.JoinedTies
import Derived.KernelRfl
namespace Go.Proofs.YtoegidfbnkaabaaGreatDoor
/- THE CELL 'sum', in the pinned program and in every row, IS THE sha256 OF THE DUMP (.gsa) THAT YtoegidfbnkaabaaGreatDoorProg.lean LOADS. Nothing in Lean hashes anything: it is a label: what it is worth is what the hold of that sum in a sandbox is worth. -/
noncomputable def Tryz.pinned : Pinned := { name := "ytoegidfbnkaabaagreatdoor", sum := "06a09ec79dffacbedb4dc14024390c229e40d4342de69a366059cbd649f5fb81", checked := Tryz.checked }
namespace Rows
def none {H : Type} : Left H := { results := [], args := [] }

/- WHAT THE LISTED PACKAGE-LEVEL VARIABLES READ AS WHEN THE CALL BEGINS. Each datum BY PROGRAM (the guide's laid-datum.mjs) off the statement by which the dump's own 'gosem.cut.vars' lays the variable. In a bare row this is a premise. The card (YtoegidfbnkaabaaGreatDoorCards.lean) ties it to the program's text. -/
def laid_math_bits_deBruijn32tab {H : Type} : DataW H := .agg [.lit (.int .u8 0), .lit (.int .u8 1), .lit (.int .u8 28), .lit (.int .u8 2), .lit (.int .u8 29), .lit (.int .u8 14), .lit (.int .u8 24), .lit (.int .u8 3), .lit (.int .u8 30), .lit (.int .u8 22), .lit (.int .u8 20), .lit (.int .u8 15), .lit (.int .u8 25), .lit (.int .u8 17), .lit (.int .u8 4), .lit (.int .u8 8), .lit (.int .u8 31), .lit (.int .u8 27), .lit (.int .u8 13), .lit (.int .u8 23), .lit (.int .u8 21), .lit (.int .u8 19), .lit (.int .u8 16), .lit (.int .u8 7), .lit (.int .u8 26), .lit (.int .u8 12), .lit (.int .u8 18), .lit (.int .u8 6), .lit (.int .u8 11), .lit (.int .u8 5), .lit (.int .u8 10), .lit (.int .u8 9)]
def laid_math_bits_deBruijn64tab {H : Type} : DataW H := .agg [.lit (.int .u8 0), .lit (.int .u8 1), .lit (.int .u8 56), .lit (.int .u8 2), .lit (.int .u8 57), .lit (.int .u8 49), .lit (.int .u8 28), .lit (.int .u8 3), .lit (.int .u8 61), .lit (.int .u8 58), .lit (.int .u8 42), .lit (.int .u8 50), .lit (.int .u8 38), .lit (.int .u8 29), .lit (.int .u8 17), .lit (.int .u8 4), .lit (.int .u8 62), .lit (.int .u8 47), .lit (.int .u8 59), .lit (.int .u8 36), .lit (.int .u8 45), .lit (.int .u8 43), .lit (.int .u8 51), .lit (.int .u8 22), .lit (.int .u8 53), .lit (.int .u8 39), .lit (.int .u8 33), .lit (.int .u8 30), .lit (.int .u8 24), .lit (.int .u8 18), .lit (.int .u8 12), .lit (.int .u8 5), .lit (.int .u8 63), .lit (.int .u8 55), .lit (.int .u8 48), .lit (.int .u8 27), .lit (.int .u8 60), .lit (.int .u8 41), .lit (.int .u8 37), .lit (.int .u8 16), .lit (.int .u8 46), .lit (.int .u8 35), .lit (.int .u8 44), .lit (.int .u8 21), .lit (.int .u8 52), .lit (.int .u8 32), .lit (.int .u8 23), .lit (.int .u8 11), .lit (.int .u8 54), .lit (.int .u8 26), .lit (.int .u8 40), .lit (.int .u8 15), .lit (.int .u8 34), .lit (.int .u8 20), .lit (.int .u8 31), .lit (.int .u8 10), .lit (.int .u8 25), .lit (.int .u8 14), .lit (.int .u8 19), .lit (.int .u8 9), .lit (.int .u8 13), .lit (.int .u8 8), .lit (.int .u8 7), .lit (.int .u8 6)]
def laid_internal_strconv_uint64pow10 {H : Type} : DataW H := .agg [.lit (.int .u64 1), .lit (.int .u64 10), .lit (.int .u64 100), .lit (.int .u64 1000), .lit (.int .u64 10000), .lit (.int .u64 100000), .lit (.int .u64 1000000), .lit (.int .u64 10000000), .lit (.int .u64 100000000), .lit (.int .u64 1000000000), .lit (.int .u64 10000000000), .lit (.int .u64 100000000000), .lit (.int .u64 1000000000000), .lit (.int .u64 10000000000000), .lit (.int .u64 100000000000000), .lit (.int .u64 1000000000000000), .lit (.int .u64 10000000000000000), .lit (.int .u64 100000000000000000), .lit (.int .u64 1000000000000000000), .lit (.int .u64 10000000000000000000)]
def laid_unicode_utf8_acceptRanges {H : Type} : DataW H := .agg [.agg [.lit (.int .u8 128), .lit (.int .u8 191)], .agg [.lit (.int .u8 160), .lit (.int .u8 191)], .agg [.lit (.int .u8 128), .lit (.int .u8 159)], .agg [.lit (.int .u8 144), .lit (.int .u8 191)], .agg [.lit (.int .u8 128), .lit (.int .u8 143)], .agg [.lit (.int .u8 0), .lit (.int .u8 0)], .agg [.lit (.int .u8 0), .lit (.int .u8 0)], .agg [.lit (.int .u8 0), .lit (.int .u8 0)], .agg [.lit (.int .u8 0), .lit (.int .u8 0)], .agg [.lit (.int .u8 0), .lit (.int .u8 0)], .agg [.lit (.int .u8 0), .lit (.int .u8 0)], .agg [.lit (.int .u8 0), .lit (.int .u8 0)], .agg [.lit (.int .u8 0), .lit (.int .u8 0)], .agg [.lit (.int .u8 0), .lit (.int .u8 0)], .agg [.lit (.int .u8 0), .lit (.int .u8 0)], .agg [.lit (.int .u8 0), .lit (.int .u8 0)]]
def laid_errors_errorType {H : Type} : DataW H := .iface "internal/reflectlite.rtype" (.agg [.ptr (.lit (.string [101, 114, 114, 111, 114]))])
def laid_strconv_ErrRange {H : Type} : DataW H := .iface "*errors.errorString" (.ptr (.agg [.lit (.string [118, 97, 108, 117, 101, 32, 111, 117, 116, 32, 111, 102, 32, 114, 97, 110, 103, 101])]))
def laid_strconv_ErrSyntax {H : Type} : DataW H := .iface "*errors.errorString" (.ptr (.agg [.lit (.string [105, 110, 118, 97, 108, 105, 100, 32, 115, 121, 110, 116, 97, 120])]))
def laid_horn_syntax_signs {H : Type} : DataW H := .agg [.lit (.string [61, 58, 61]), .lit (.string [58, 45]), .lit (.string [45, 62]), .lit (.string [92, 43]), .lit (.string [92, 61]), .lit (.string [61, 61]), .lit (.string [61, 60]), .lit (.string [62, 61]), .lit (.string [47, 47]), .lit (.string [40]), .lit (.string [41]), .lit (.string [91]), .lit (.string [93]), .lit (.string [44]), .lit (.string [124]), .lit (.string [59]), .lit (.string [33]), .lit (.string [61]), .lit (.string [60]), .lit (.string [62]), .lit (.string [43]), .lit (.string [45]), .lit (.string [42])]
def laid_horn_syntax_levels {H : Type} : DataW H := .agg [.slice [.lit (.string [43]), .lit (.string [45])] [], .slice [.lit (.string [42]), .lit (.string [47, 47]), .lit (.string [109, 111, 100])] []]
def laid_horn_syntax_compare {H : Type} : DataW H := .agg [.lit (.string [61]), .lit (.string [92, 61]), .lit (.string [61, 61]), .lit (.string [105, 115]), .lit (.string [60]), .lit (.string [62]), .lit (.string [61, 60]), .lit (.string [62, 61]), .lit (.string [61, 58, 61])]
/-- One of Go's own tables, pinned by name: the form's constant. -/
def laid_unicode_utf8_first : DataW Unit := Go.Pinned.utf8First

/-- 'hornkeep.Known': WHATEVER THE INPUT: true; the input reads as it did. -/
def knownSpec : ChangeSpec := { name := "known", fn := fun _ => fun
  | [d1, d2] => { results := [.lit (.bool true)], args := [d1, d2] }
  | _ => none }
def knownRow : OpenClaim := { program := "ytoegidfbnkaabaagreatdoor", sum := "06a09ec79dffacbedb4dc14024390c229e40d4342de69a366059cbd649f5fb81", func := "horn/hornkeep.Known", spec := "known", inPlace := ["internal/bytealg.IndexByteString", "internal/bytealg.IndexString", "internal/reflectlite.ValueOf", "(internal/reflectlite.Value).Type", "(internal/reflectlite.Value).IsNil", "internal/reflectlite.TypeOf", "(internal/reflectlite.Value).Elem", "(internal/reflectlite.Value).Set", "internal/abi.NoEscape", "internal/bytealg.CountString"], unfollowed := true, recurses := true, named := ["horn/syntax.signs", "unicode/utf8.first", "unicode/utf8.acceptRanges", "horn/syntax.levels", "strconv.ErrSyntax", "strconv.ErrRange", "internal/strconv.uint64pow10", "math/bits.deBruijn32tab", "math/bits.deBruijn64tab", "horn/syntax.compare", "errors.errorType", "internal/bytealg.MaxLen"], apart := false, laid := [("math/bits.deBruijn32tab", laid_math_bits_deBruijn32tab), ("math/bits.deBruijn64tab", laid_math_bits_deBruijn64tab), ("internal/strconv.uint64pow10", laid_internal_strconv_uint64pow10), ("unicode/utf8.acceptRanges", laid_unicode_utf8_acceptRanges), ("errors.errorType", laid_errors_errorType), ("strconv.ErrRange", laid_strconv_ErrRange), ("strconv.ErrSyntax", laid_strconv_ErrSyntax), ("horn/syntax.signs", laid_horn_syntax_signs), ("horn/syntax.levels", laid_horn_syntax_levels), ("horn/syntax.compare", laid_horn_syntax_compare), ("unicode/utf8.first", laid_unicode_utf8_first)] }
def KnownSaid : Prop := knownRow.holds Tryz.pinned (OpenSpec.ofChange knownSpec)

/-- ITS FALSE NEIGHBOUR: 'it returns false'. Refute it at one input. -/
def knownWrong : ChangeSpec := { name := "known", fn := fun _ => fun
  | [d1, d2] => { results := [.lit (.bool false)], args := [d1, d2] }
  | _ => none }
def KnownWrongFalsely : Prop := knownRow.holds Tryz.pinned (OpenSpec.ofChange knownWrong)

/-- 'hornkeep.Lists': WHATEVER THE INPUT: true; the input reads as it did. -/
def listsSpec : ChangeSpec := { name := "lists", fn := fun _ => fun
  | [d1, d2, d3] => { results := [.lit (.bool true)], args := [d1, d2, d3] }
  | _ => none }
def listsRow : OpenClaim := { program := "ytoegidfbnkaabaagreatdoor", sum := "06a09ec79dffacbedb4dc14024390c229e40d4342de69a366059cbd649f5fb81", func := "horn/hornkeep.Lists", spec := "lists", inPlace := ["internal/bytealg.IndexByteString", "internal/bytealg.IndexString", "internal/reflectlite.ValueOf", "(internal/reflectlite.Value).Type", "(internal/reflectlite.Value).IsNil", "internal/reflectlite.TypeOf", "(internal/reflectlite.Value).Elem", "(internal/reflectlite.Value).Set", "internal/abi.NoEscape", "internal/bytealg.CountString"], unfollowed := true, recurses := true, named := ["horn/syntax.signs", "unicode/utf8.first", "unicode/utf8.acceptRanges", "horn/syntax.levels", "strconv.ErrSyntax", "strconv.ErrRange", "internal/strconv.uint64pow10", "math/bits.deBruijn32tab", "math/bits.deBruijn64tab", "horn/syntax.compare", "errors.errorType", "internal/bytealg.MaxLen"], apart := false, laid := [("math/bits.deBruijn32tab", laid_math_bits_deBruijn32tab), ("math/bits.deBruijn64tab", laid_math_bits_deBruijn64tab), ("internal/strconv.uint64pow10", laid_internal_strconv_uint64pow10), ("unicode/utf8.acceptRanges", laid_unicode_utf8_acceptRanges), ("errors.errorType", laid_errors_errorType), ("strconv.ErrRange", laid_strconv_ErrRange), ("strconv.ErrSyntax", laid_strconv_ErrSyntax), ("horn/syntax.signs", laid_horn_syntax_signs), ("horn/syntax.levels", laid_horn_syntax_levels), ("horn/syntax.compare", laid_horn_syntax_compare), ("unicode/utf8.first", laid_unicode_utf8_first)] }
def ListsSaid : Prop := listsRow.holds Tryz.pinned (OpenSpec.ofChange listsSpec)

/-- ITS FALSE NEIGHBOUR: 'it returns false'. Refute it at one input. -/
def listsWrong : ChangeSpec := { name := "lists", fn := fun _ => fun
  | [d1, d2, d3] => { results := [.lit (.bool false)], args := [d1, d2, d3] }
  | _ => none }
def ListsWrongFalsely : Prop := listsRow.holds Tryz.pinned (OpenSpec.ofChange listsWrong)

/-- 'hornkeep.Reckons': WHATEVER THE INPUT: true; the input reads as it did. -/
def reckonsSpec : ChangeSpec := { name := "reckons", fn := fun _ => fun
  | [d1, d2, d3, d4, d5] => { results := [.lit (.bool true)], args := [d1, d2, d3, d4, d5] }
  | _ => none }
def reckonsRow : OpenClaim := { program := "ytoegidfbnkaabaagreatdoor", sum := "06a09ec79dffacbedb4dc14024390c229e40d4342de69a366059cbd649f5fb81", func := "horn/hornkeep.Reckons", spec := "reckons", inPlace := ["internal/bytealg.IndexByteString", "internal/bytealg.IndexString", "internal/reflectlite.ValueOf", "(internal/reflectlite.Value).Type", "(internal/reflectlite.Value).IsNil", "internal/reflectlite.TypeOf", "(internal/reflectlite.Value).Elem", "(internal/reflectlite.Value).Set", "internal/abi.NoEscape", "internal/bytealg.CountString"], unfollowed := true, recurses := true, named := ["horn/syntax.signs", "unicode/utf8.first", "unicode/utf8.acceptRanges", "horn/syntax.levels", "strconv.ErrSyntax", "strconv.ErrRange", "internal/strconv.uint64pow10", "math/bits.deBruijn32tab", "math/bits.deBruijn64tab", "horn/syntax.compare", "errors.errorType", "internal/bytealg.MaxLen"], apart := false, laid := [("math/bits.deBruijn32tab", laid_math_bits_deBruijn32tab), ("math/bits.deBruijn64tab", laid_math_bits_deBruijn64tab), ("internal/strconv.uint64pow10", laid_internal_strconv_uint64pow10), ("unicode/utf8.acceptRanges", laid_unicode_utf8_acceptRanges), ("errors.errorType", laid_errors_errorType), ("strconv.ErrRange", laid_strconv_ErrRange), ("strconv.ErrSyntax", laid_strconv_ErrSyntax), ("horn/syntax.signs", laid_horn_syntax_signs), ("horn/syntax.levels", laid_horn_syntax_levels), ("horn/syntax.compare", laid_horn_syntax_compare), ("unicode/utf8.first", laid_unicode_utf8_first)] }
def ReckonsSaid : Prop := reckonsRow.holds Tryz.pinned (OpenSpec.ofChange reckonsSpec)

/-- ITS FALSE NEIGHBOUR: 'it returns false'. Refute it at one input. -/
def reckonsWrong : ChangeSpec := { name := "reckons", fn := fun _ => fun
  | [d1, d2, d3, d4, d5] => { results := [.lit (.bool false)], args := [d1, d2, d3, d4, d5] }
  | _ => none }
def ReckonsWrongFalsely : Prop := reckonsRow.holds Tryz.pinned (OpenSpec.ofChange reckonsWrong)

/-- 'hornkeep.Cuts': WHATEVER THE INPUT: true; the input reads as it did. -/
def cutsSpec : ChangeSpec := { name := "cuts", fn := fun _ => fun
  | [d1, d2, d3] => { results := [.lit (.bool true)], args := [d1, d2, d3] }
  | _ => none }
def cutsRow : OpenClaim := { program := "ytoegidfbnkaabaagreatdoor", sum := "06a09ec79dffacbedb4dc14024390c229e40d4342de69a366059cbd649f5fb81", func := "horn/hornkeep.Cuts", spec := "cuts", inPlace := ["internal/bytealg.IndexByteString", "internal/bytealg.IndexString", "internal/reflectlite.ValueOf", "(internal/reflectlite.Value).Type", "(internal/reflectlite.Value).IsNil", "internal/reflectlite.TypeOf", "(internal/reflectlite.Value).Elem", "(internal/reflectlite.Value).Set", "internal/abi.NoEscape", "internal/bytealg.CountString"], unfollowed := true, recurses := true, named := ["horn/syntax.signs", "unicode/utf8.first", "unicode/utf8.acceptRanges", "horn/syntax.levels", "strconv.ErrSyntax", "strconv.ErrRange", "internal/strconv.uint64pow10", "math/bits.deBruijn32tab", "math/bits.deBruijn64tab", "horn/syntax.compare", "errors.errorType", "internal/bytealg.MaxLen"], apart := false, laid := [("math/bits.deBruijn32tab", laid_math_bits_deBruijn32tab), ("math/bits.deBruijn64tab", laid_math_bits_deBruijn64tab), ("internal/strconv.uint64pow10", laid_internal_strconv_uint64pow10), ("unicode/utf8.acceptRanges", laid_unicode_utf8_acceptRanges), ("errors.errorType", laid_errors_errorType), ("strconv.ErrRange", laid_strconv_ErrRange), ("strconv.ErrSyntax", laid_strconv_ErrSyntax), ("horn/syntax.signs", laid_horn_syntax_signs), ("horn/syntax.levels", laid_horn_syntax_levels), ("horn/syntax.compare", laid_horn_syntax_compare), ("unicode/utf8.first", laid_unicode_utf8_first)] }
def CutsSaid : Prop := cutsRow.holds Tryz.pinned (OpenSpec.ofChange cutsSpec)

/-- ITS FALSE NEIGHBOUR: 'it returns false'. Refute it at one input. -/
def cutsWrong : ChangeSpec := { name := "cuts", fn := fun _ => fun
  | [d1, d2, d3] => { results := [.lit (.bool false)], args := [d1, d2, d3] }
  | _ => none }
def CutsWrongFalsely : Prop := cutsRow.holds Tryz.pinned (OpenSpec.ofChange cutsWrong)

/-- 'hornkeep.Twice': WHATEVER THE INPUT: true; the input reads as it did. -/
def twiceSpec : ChangeSpec := { name := "twice", fn := fun _ => fun
  | [d1, d2, d3] => { results := [.lit (.bool true)], args := [d1, d2, d3] }
  | _ => none }
def twiceRow : OpenClaim := { program := "ytoegidfbnkaabaagreatdoor", sum := "06a09ec79dffacbedb4dc14024390c229e40d4342de69a366059cbd649f5fb81", func := "horn/hornkeep.Twice", spec := "twice", inPlace := ["internal/bytealg.IndexByteString", "internal/bytealg.IndexString", "internal/reflectlite.ValueOf", "(internal/reflectlite.Value).Type", "(internal/reflectlite.Value).IsNil", "internal/reflectlite.TypeOf", "(internal/reflectlite.Value).Elem", "(internal/reflectlite.Value).Set", "internal/abi.NoEscape", "internal/bytealg.CountString"], unfollowed := true, recurses := true, named := ["horn/syntax.signs", "unicode/utf8.first", "unicode/utf8.acceptRanges", "horn/syntax.levels", "strconv.ErrSyntax", "strconv.ErrRange", "internal/strconv.uint64pow10", "math/bits.deBruijn32tab", "math/bits.deBruijn64tab", "horn/syntax.compare", "errors.errorType", "internal/bytealg.MaxLen"], apart := false, laid := [("math/bits.deBruijn32tab", laid_math_bits_deBruijn32tab), ("math/bits.deBruijn64tab", laid_math_bits_deBruijn64tab), ("internal/strconv.uint64pow10", laid_internal_strconv_uint64pow10), ("unicode/utf8.acceptRanges", laid_unicode_utf8_acceptRanges), ("errors.errorType", laid_errors_errorType), ("strconv.ErrRange", laid_strconv_ErrRange), ("strconv.ErrSyntax", laid_strconv_ErrSyntax), ("horn/syntax.signs", laid_horn_syntax_signs), ("horn/syntax.levels", laid_horn_syntax_levels), ("horn/syntax.compare", laid_horn_syntax_compare), ("unicode/utf8.first", laid_unicode_utf8_first)] }
def TwiceSaid : Prop := twiceRow.holds Tryz.pinned (OpenSpec.ofChange twiceSpec)

/-- ITS FALSE NEIGHBOUR: 'it returns false'. Refute it at one input. -/
def twiceWrong : ChangeSpec := { name := "twice", fn := fun _ => fun
  | [d1, d2, d3] => { results := [.lit (.bool false)], args := [d1, d2, d3] }
  | _ => none }
def TwiceWrongFalsely : Prop := twiceRow.holds Tryz.pinned (OpenSpec.ofChange twiceWrong)

/-- 'hornkeep.Canon': WHATEVER THE INPUT: true; the input reads as it did. -/
def canonSpec : ChangeSpec := { name := "canon", fn := fun _ => fun
  | [d] => { results := [.lit (.bool true)], args := [d] }
  | _ => none }
def canonRow : OpenClaim := { program := "ytoegidfbnkaabaagreatdoor", sum := "06a09ec79dffacbedb4dc14024390c229e40d4342de69a366059cbd649f5fb81", func := "horn/hornkeep.Canon", spec := "canon", inPlace := ["internal/bytealg.IndexByteString", "internal/bytealg.IndexString", "internal/reflectlite.ValueOf", "(internal/reflectlite.Value).Type", "(internal/reflectlite.Value).IsNil", "internal/reflectlite.TypeOf", "(internal/reflectlite.Value).Elem", "(internal/reflectlite.Value).Set", "internal/abi.NoEscape", "internal/bytealg.CountString"], unfollowed := true, recurses := true, named := ["horn/syntax.signs", "unicode/utf8.first", "unicode/utf8.acceptRanges", "horn/syntax.levels", "strconv.ErrSyntax", "strconv.ErrRange", "internal/strconv.uint64pow10", "math/bits.deBruijn32tab", "math/bits.deBruijn64tab", "horn/syntax.compare", "errors.errorType", "internal/bytealg.MaxLen"], apart := false, laid := [("math/bits.deBruijn32tab", laid_math_bits_deBruijn32tab), ("math/bits.deBruijn64tab", laid_math_bits_deBruijn64tab), ("internal/strconv.uint64pow10", laid_internal_strconv_uint64pow10), ("unicode/utf8.acceptRanges", laid_unicode_utf8_acceptRanges), ("errors.errorType", laid_errors_errorType), ("strconv.ErrRange", laid_strconv_ErrRange), ("strconv.ErrSyntax", laid_strconv_ErrSyntax), ("horn/syntax.signs", laid_horn_syntax_signs), ("horn/syntax.levels", laid_horn_syntax_levels), ("horn/syntax.compare", laid_horn_syntax_compare), ("unicode/utf8.first", laid_unicode_utf8_first)] }
def CanonSaid : Prop := canonRow.holds Tryz.pinned (OpenSpec.ofChange canonSpec)

/-- ITS FALSE NEIGHBOUR: 'it returns false'. Refute it at one input. -/
def canonWrong : ChangeSpec := { name := "canon", fn := fun _ => fun
  | [d] => { results := [.lit (.bool false)], args := [d] }
  | _ => none }
def CanonWrongFalsely : Prop := canonRow.holds Tryz.pinned (OpenSpec.ofChange canonWrong)

/- THE SECOND FORM. 'bulk': how many values and letters a reading holds, each counted each time it is reached (what is shared counts as often as it is met; a slice's spare places count too). A statement '..UptoSaid' is the law's where the arguments, and the package variables that the reading takes, are together of bulk at most 1048576: NARROWER than '..Said'. Prove '..Said' where nothing that the law and all that it calls make is longer than what came in: it says more and counts as full. Else prove '..UptoSaid'. A law counts once. -/
mutual
def uptoBulk {H : Type} : DataW H → Nat
  | .lit (.string bytes) => bytes.length + 1
  | .lit _ => 1
  | .nil => 1
  | .ptr d => uptoBulk d + 1
  | .slice elems spare => uptoBulkAll elems + uptoBulkAll spare + 1
  | .agg parts => uptoBulkAll parts + 1
  | .iface _ d => uptoBulk d + 1
  | .map entries => uptoBulkEntries entries + 1
  | .held _ => 1
def uptoBulkAll {H : Type} : List (DataW H) → Nat
  | [] => 0
  | d :: r => uptoBulk d + uptoBulkAll r
def uptoBulkEntries {H : Type} : List (Lit × DataW H) → Nat
  | [] => 0
  | x :: r => uptoBulkEntry x + uptoBulkEntries r
def uptoBulkEntry {H : Type} : Lit × DataW H → Nat
  | (.string bytes, d) => bytes.length + uptoBulk d + 1
  | (_, d) => uptoBulk d + 1
 end
def uptoSmall : (H : Type) → List (DataW H) → Bool := fun _ ds => decide (uptoBulkAll ds ≤ 1048576)
def OpenSpec.upto (s : _root_.Go.ChangeSpec) : _root_.Go.OpenSpec := { _root_.Go.OpenSpec.ofChange s with cond := some uptoSmall }

/-- 'hornkeep.Known', WHERE WHAT IT READS IS OF BULK AT MOST 1048576: true; the input reads as it did. -/
def knownUptoRow : OpenClaim := { program := "ytoegidfbnkaabaagreatdoor", sum := "06a09ec79dffacbedb4dc14024390c229e40d4342de69a366059cbd649f5fb81", func := "horn/hornkeep.Known", spec := "known", inPlace := ["internal/bytealg.IndexByteString", "internal/bytealg.IndexString", "internal/reflectlite.ValueOf", "(internal/reflectlite.Value).Type", "(internal/reflectlite.Value).IsNil", "internal/reflectlite.TypeOf", "(internal/reflectlite.Value).Elem", "(internal/reflectlite.Value).Set", "internal/abi.NoEscape", "internal/bytealg.CountString"], unfollowed := true, recurses := true, named := ["horn/syntax.signs", "unicode/utf8.first", "unicode/utf8.acceptRanges", "horn/syntax.levels", "strconv.ErrSyntax", "strconv.ErrRange", "internal/strconv.uint64pow10", "math/bits.deBruijn32tab", "math/bits.deBruijn64tab", "horn/syntax.compare", "errors.errorType", "internal/bytealg.MaxLen"], apart := false, laid := [("math/bits.deBruijn32tab", laid_math_bits_deBruijn32tab), ("math/bits.deBruijn64tab", laid_math_bits_deBruijn64tab), ("internal/strconv.uint64pow10", laid_internal_strconv_uint64pow10), ("unicode/utf8.acceptRanges", laid_unicode_utf8_acceptRanges), ("errors.errorType", laid_errors_errorType), ("strconv.ErrRange", laid_strconv_ErrRange), ("strconv.ErrSyntax", laid_strconv_ErrSyntax), ("horn/syntax.signs", laid_horn_syntax_signs), ("horn/syntax.levels", laid_horn_syntax_levels), ("horn/syntax.compare", laid_horn_syntax_compare), ("unicode/utf8.first", laid_unicode_utf8_first)], narrowed := true }
def KnownUptoSaid : Prop := knownUptoRow.holds Tryz.pinned (OpenSpec.upto knownSpec)

/-- 'hornkeep.Lists', WHERE WHAT IT READS IS OF BULK AT MOST 1048576: true; the input reads as it did. -/
def listsUptoRow : OpenClaim := { program := "ytoegidfbnkaabaagreatdoor", sum := "06a09ec79dffacbedb4dc14024390c229e40d4342de69a366059cbd649f5fb81", func := "horn/hornkeep.Lists", spec := "lists", inPlace := ["internal/bytealg.IndexByteString", "internal/bytealg.IndexString", "internal/reflectlite.ValueOf", "(internal/reflectlite.Value).Type", "(internal/reflectlite.Value).IsNil", "internal/reflectlite.TypeOf", "(internal/reflectlite.Value).Elem", "(internal/reflectlite.Value).Set", "internal/abi.NoEscape", "internal/bytealg.CountString"], unfollowed := true, recurses := true, named := ["horn/syntax.signs", "unicode/utf8.first", "unicode/utf8.acceptRanges", "horn/syntax.levels", "strconv.ErrSyntax", "strconv.ErrRange", "internal/strconv.uint64pow10", "math/bits.deBruijn32tab", "math/bits.deBruijn64tab", "horn/syntax.compare", "errors.errorType", "internal/bytealg.MaxLen"], apart := false, laid := [("math/bits.deBruijn32tab", laid_math_bits_deBruijn32tab), ("math/bits.deBruijn64tab", laid_math_bits_deBruijn64tab), ("internal/strconv.uint64pow10", laid_internal_strconv_uint64pow10), ("unicode/utf8.acceptRanges", laid_unicode_utf8_acceptRanges), ("errors.errorType", laid_errors_errorType), ("strconv.ErrRange", laid_strconv_ErrRange), ("strconv.ErrSyntax", laid_strconv_ErrSyntax), ("horn/syntax.signs", laid_horn_syntax_signs), ("horn/syntax.levels", laid_horn_syntax_levels), ("horn/syntax.compare", laid_horn_syntax_compare), ("unicode/utf8.first", laid_unicode_utf8_first)], narrowed := true }
def ListsUptoSaid : Prop := listsUptoRow.holds Tryz.pinned (OpenSpec.upto listsSpec)

/-- 'hornkeep.Reckons', WHERE WHAT IT READS IS OF BULK AT MOST 1048576: true; the input reads as it did. -/
def reckonsUptoRow : OpenClaim := { program := "ytoegidfbnkaabaagreatdoor", sum := "06a09ec79dffacbedb4dc14024390c229e40d4342de69a366059cbd649f5fb81", func := "horn/hornkeep.Reckons", spec := "reckons", inPlace := ["internal/bytealg.IndexByteString", "internal/bytealg.IndexString", "internal/reflectlite.ValueOf", "(internal/reflectlite.Value).Type", "(internal/reflectlite.Value).IsNil", "internal/reflectlite.TypeOf", "(internal/reflectlite.Value).Elem", "(internal/reflectlite.Value).Set", "internal/abi.NoEscape", "internal/bytealg.CountString"], unfollowed := true, recurses := true, named := ["horn/syntax.signs", "unicode/utf8.first", "unicode/utf8.acceptRanges", "horn/syntax.levels", "strconv.ErrSyntax", "strconv.ErrRange", "internal/strconv.uint64pow10", "math/bits.deBruijn32tab", "math/bits.deBruijn64tab", "horn/syntax.compare", "errors.errorType", "internal/bytealg.MaxLen"], apart := false, laid := [("math/bits.deBruijn32tab", laid_math_bits_deBruijn32tab), ("math/bits.deBruijn64tab", laid_math_bits_deBruijn64tab), ("internal/strconv.uint64pow10", laid_internal_strconv_uint64pow10), ("unicode/utf8.acceptRanges", laid_unicode_utf8_acceptRanges), ("errors.errorType", laid_errors_errorType), ("strconv.ErrRange", laid_strconv_ErrRange), ("strconv.ErrSyntax", laid_strconv_ErrSyntax), ("horn/syntax.signs", laid_horn_syntax_signs), ("horn/syntax.levels", laid_horn_syntax_levels), ("horn/syntax.compare", laid_horn_syntax_compare), ("unicode/utf8.first", laid_unicode_utf8_first)], narrowed := true }
def ReckonsUptoSaid : Prop := reckonsUptoRow.holds Tryz.pinned (OpenSpec.upto reckonsSpec)

/-- 'hornkeep.Cuts', WHERE WHAT IT READS IS OF BULK AT MOST 1048576: true; the input reads as it did. -/
def cutsUptoRow : OpenClaim := { program := "ytoegidfbnkaabaagreatdoor", sum := "06a09ec79dffacbedb4dc14024390c229e40d4342de69a366059cbd649f5fb81", func := "horn/hornkeep.Cuts", spec := "cuts", inPlace := ["internal/bytealg.IndexByteString", "internal/bytealg.IndexString", "internal/reflectlite.ValueOf", "(internal/reflectlite.Value).Type", "(internal/reflectlite.Value).IsNil", "internal/reflectlite.TypeOf", "(internal/reflectlite.Value).Elem", "(internal/reflectlite.Value).Set", "internal/abi.NoEscape", "internal/bytealg.CountString"], unfollowed := true, recurses := true, named := ["horn/syntax.signs", "unicode/utf8.first", "unicode/utf8.acceptRanges", "horn/syntax.levels", "strconv.ErrSyntax", "strconv.ErrRange", "internal/strconv.uint64pow10", "math/bits.deBruijn32tab", "math/bits.deBruijn64tab", "horn/syntax.compare", "errors.errorType", "internal/bytealg.MaxLen"], apart := false, laid := [("math/bits.deBruijn32tab", laid_math_bits_deBruijn32tab), ("math/bits.deBruijn64tab", laid_math_bits_deBruijn64tab), ("internal/strconv.uint64pow10", laid_internal_strconv_uint64pow10), ("unicode/utf8.acceptRanges", laid_unicode_utf8_acceptRanges), ("errors.errorType", laid_errors_errorType), ("strconv.ErrRange", laid_strconv_ErrRange), ("strconv.ErrSyntax", laid_strconv_ErrSyntax), ("horn/syntax.signs", laid_horn_syntax_signs), ("horn/syntax.levels", laid_horn_syntax_levels), ("horn/syntax.compare", laid_horn_syntax_compare), ("unicode/utf8.first", laid_unicode_utf8_first)], narrowed := true }
def CutsUptoSaid : Prop := cutsUptoRow.holds Tryz.pinned (OpenSpec.upto cutsSpec)

/-- 'hornkeep.Twice', WHERE WHAT IT READS IS OF BULK AT MOST 1048576: true; the input reads as it did. -/
def twiceUptoRow : OpenClaim := { program := "ytoegidfbnkaabaagreatdoor", sum := "06a09ec79dffacbedb4dc14024390c229e40d4342de69a366059cbd649f5fb81", func := "horn/hornkeep.Twice", spec := "twice", inPlace := ["internal/bytealg.IndexByteString", "internal/bytealg.IndexString", "internal/reflectlite.ValueOf", "(internal/reflectlite.Value).Type", "(internal/reflectlite.Value).IsNil", "internal/reflectlite.TypeOf", "(internal/reflectlite.Value).Elem", "(internal/reflectlite.Value).Set", "internal/abi.NoEscape", "internal/bytealg.CountString"], unfollowed := true, recurses := true, named := ["horn/syntax.signs", "unicode/utf8.first", "unicode/utf8.acceptRanges", "horn/syntax.levels", "strconv.ErrSyntax", "strconv.ErrRange", "internal/strconv.uint64pow10", "math/bits.deBruijn32tab", "math/bits.deBruijn64tab", "horn/syntax.compare", "errors.errorType", "internal/bytealg.MaxLen"], apart := false, laid := [("math/bits.deBruijn32tab", laid_math_bits_deBruijn32tab), ("math/bits.deBruijn64tab", laid_math_bits_deBruijn64tab), ("internal/strconv.uint64pow10", laid_internal_strconv_uint64pow10), ("unicode/utf8.acceptRanges", laid_unicode_utf8_acceptRanges), ("errors.errorType", laid_errors_errorType), ("strconv.ErrRange", laid_strconv_ErrRange), ("strconv.ErrSyntax", laid_strconv_ErrSyntax), ("horn/syntax.signs", laid_horn_syntax_signs), ("horn/syntax.levels", laid_horn_syntax_levels), ("horn/syntax.compare", laid_horn_syntax_compare), ("unicode/utf8.first", laid_unicode_utf8_first)], narrowed := true }
def TwiceUptoSaid : Prop := twiceUptoRow.holds Tryz.pinned (OpenSpec.upto twiceSpec)

/-- 'hornkeep.Canon', WHERE WHAT IT READS IS OF BULK AT MOST 1048576: true; the input reads as it did. -/
def canonUptoRow : OpenClaim := { program := "ytoegidfbnkaabaagreatdoor", sum := "06a09ec79dffacbedb4dc14024390c229e40d4342de69a366059cbd649f5fb81", func := "horn/hornkeep.Canon", spec := "canon", inPlace := ["internal/bytealg.IndexByteString", "internal/bytealg.IndexString", "internal/reflectlite.ValueOf", "(internal/reflectlite.Value).Type", "(internal/reflectlite.Value).IsNil", "internal/reflectlite.TypeOf", "(internal/reflectlite.Value).Elem", "(internal/reflectlite.Value).Set", "internal/abi.NoEscape", "internal/bytealg.CountString"], unfollowed := true, recurses := true, named := ["horn/syntax.signs", "unicode/utf8.first", "unicode/utf8.acceptRanges", "horn/syntax.levels", "strconv.ErrSyntax", "strconv.ErrRange", "internal/strconv.uint64pow10", "math/bits.deBruijn32tab", "math/bits.deBruijn64tab", "horn/syntax.compare", "errors.errorType", "internal/bytealg.MaxLen"], apart := false, laid := [("math/bits.deBruijn32tab", laid_math_bits_deBruijn32tab), ("math/bits.deBruijn64tab", laid_math_bits_deBruijn64tab), ("internal/strconv.uint64pow10", laid_internal_strconv_uint64pow10), ("unicode/utf8.acceptRanges", laid_unicode_utf8_acceptRanges), ("errors.errorType", laid_errors_errorType), ("strconv.ErrRange", laid_strconv_ErrRange), ("strconv.ErrSyntax", laid_strconv_ErrSyntax), ("horn/syntax.signs", laid_horn_syntax_signs), ("horn/syntax.levels", laid_horn_syntax_levels), ("horn/syntax.compare", laid_horn_syntax_compare), ("unicode/utf8.first", laid_unicode_utf8_first)], narrowed := true }
def CanonUptoSaid : Prop := canonUptoRow.holds Tryz.pinned (OpenSpec.upto canonSpec)

end Rows
end Go.Proofs.YtoegidfbnkaabaaGreatDoor
