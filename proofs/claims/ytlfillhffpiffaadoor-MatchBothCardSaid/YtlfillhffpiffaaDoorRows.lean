/-
  NARROWER THAN 'FOR EVERY INPUT', by the rows' own cells (each row's printed sentence says how): Rows: laid · RowSolves: laid · RowForms: laid · RowSwap: laid · RowTexts: laid · RowPure: laid · Matches: laid · MatchBoth: laid · MatchRows: laid · MatchKinds: laid · Types: laid · TypeNames: laid · TypForms: laid · TypGrows: laid · MatchMade: laid.
  DERIVED. THE GIVEN ROWS OF THIS SEAT. 15 by the template 'for every input the law returns true; each argument reads behind the call as it read before'; 0 by the template 'total and deterministic' (their statements: YtlfillhffpiffaaDoorTotals.lean).
  GIVEN WITH THE SEED: the statements are not yours to turn. If you find one false, say at which input.
  Laid BY PROGRAM, IN A SANDBOX (cutbox-rows.mjs): the forced cells as the released guide's own fill.sh prints them over the translation f51637642292e492… (all of the seat's roots in one cut). By AI agents, Wed Nov 11 2026. No macro, syntax, notation, axiom, sorry.
-/
import Derived.Test.YtlfillhffpiffaaDoorChecked
import GoSem.Claim
import GoSem.ClaimJoined
import GoSem.ClaimMapViews
import Derived.JoinedTies
import Derived.KernelRfl
namespace Go.Proofs.YtlfillhffpiffaaDoor
/- THE CELL 'sum', in the pinned program and in every row, IS THE sha256 OF THE DUMP (.gsa) THAT YtlfillhffpiffaaDoorProg.lean LOADS. Nothing in Lean hashes anything: it is a label: what it is worth is what the hold of that sum in a sandbox is worth. -/
noncomputable def Tryd.pinned : Pinned := { name := "ytlfillhffpiffaadoor", sum := "f51637642292e492e49865aeb5aaf481ca8ed3ad450c9dd4dfa08b78c7afac2d", checked := Tryd.checked }
namespace Rows
def none {H : Type} : Left H := { results := [], args := [] }

/- WHAT THE LISTED PACKAGE-LEVEL VARIABLES READ AS WHEN THE CALL BEGINS. Each datum BY PROGRAM (the guide's laid-datum.mjs) off the statement by which the dump's own 'gosem.cut.vars' lays the variable. In a bare row this is a premise. The card (YtlfillhffpiffaaDoorCards.lean) ties it to the program's text. -/
def laid_math_bits_deBruijn32tab {H : Type} : DataW H := .agg [.lit (.int .u8 0), .lit (.int .u8 1), .lit (.int .u8 28), .lit (.int .u8 2), .lit (.int .u8 29), .lit (.int .u8 14), .lit (.int .u8 24), .lit (.int .u8 3), .lit (.int .u8 30), .lit (.int .u8 22), .lit (.int .u8 20), .lit (.int .u8 15), .lit (.int .u8 25), .lit (.int .u8 17), .lit (.int .u8 4), .lit (.int .u8 8), .lit (.int .u8 31), .lit (.int .u8 27), .lit (.int .u8 13), .lit (.int .u8 23), .lit (.int .u8 21), .lit (.int .u8 19), .lit (.int .u8 16), .lit (.int .u8 7), .lit (.int .u8 26), .lit (.int .u8 12), .lit (.int .u8 18), .lit (.int .u8 6), .lit (.int .u8 11), .lit (.int .u8 5), .lit (.int .u8 10), .lit (.int .u8 9)]
def laid_math_bits_deBruijn64tab {H : Type} : DataW H := .agg [.lit (.int .u8 0), .lit (.int .u8 1), .lit (.int .u8 56), .lit (.int .u8 2), .lit (.int .u8 57), .lit (.int .u8 49), .lit (.int .u8 28), .lit (.int .u8 3), .lit (.int .u8 61), .lit (.int .u8 58), .lit (.int .u8 42), .lit (.int .u8 50), .lit (.int .u8 38), .lit (.int .u8 29), .lit (.int .u8 17), .lit (.int .u8 4), .lit (.int .u8 62), .lit (.int .u8 47), .lit (.int .u8 59), .lit (.int .u8 36), .lit (.int .u8 45), .lit (.int .u8 43), .lit (.int .u8 51), .lit (.int .u8 22), .lit (.int .u8 53), .lit (.int .u8 39), .lit (.int .u8 33), .lit (.int .u8 30), .lit (.int .u8 24), .lit (.int .u8 18), .lit (.int .u8 12), .lit (.int .u8 5), .lit (.int .u8 63), .lit (.int .u8 55), .lit (.int .u8 48), .lit (.int .u8 27), .lit (.int .u8 60), .lit (.int .u8 41), .lit (.int .u8 37), .lit (.int .u8 16), .lit (.int .u8 46), .lit (.int .u8 35), .lit (.int .u8 44), .lit (.int .u8 21), .lit (.int .u8 52), .lit (.int .u8 32), .lit (.int .u8 23), .lit (.int .u8 11), .lit (.int .u8 54), .lit (.int .u8 26), .lit (.int .u8 40), .lit (.int .u8 15), .lit (.int .u8 34), .lit (.int .u8 20), .lit (.int .u8 31), .lit (.int .u8 10), .lit (.int .u8 25), .lit (.int .u8 14), .lit (.int .u8 19), .lit (.int .u8 9), .lit (.int .u8 13), .lit (.int .u8 8), .lit (.int .u8 7), .lit (.int .u8 6)]
def laid_internal_strconv_uint64pow10 {H : Type} : DataW H := .agg [.lit (.int .u64 1), .lit (.int .u64 10), .lit (.int .u64 100), .lit (.int .u64 1000), .lit (.int .u64 10000), .lit (.int .u64 100000), .lit (.int .u64 1000000), .lit (.int .u64 10000000), .lit (.int .u64 100000000), .lit (.int .u64 1000000000), .lit (.int .u64 10000000000), .lit (.int .u64 100000000000), .lit (.int .u64 1000000000000), .lit (.int .u64 10000000000000), .lit (.int .u64 100000000000000), .lit (.int .u64 1000000000000000), .lit (.int .u64 10000000000000000), .lit (.int .u64 100000000000000000), .lit (.int .u64 1000000000000000000), .lit (.int .u64 10000000000000000000)]

/-- 'trammellaw8.Rows': WHATEVER THE INPUT: true; the input reads as it did. -/
def rowsSpec : ChangeSpec := { name := "rows", fn := fun _ => fun
  | [d1, d2, d3, d4] => { results := [.lit (.bool true)], args := [d1, d2, d3, d4] }
  | _ => none }
def rowsRow : OpenClaim := { program := "ytlfillhffpiffaadoor", sum := "f51637642292e492e49865aeb5aaf481ca8ed3ad450c9dd4dfa08b78c7afac2d", func := "trammel/trammellaw8.Rows", spec := "rows", inPlace := ["internal/abi.NoEscape", "internal/bytealg.MakeNoZero"], unfollowed := true, recurses := true, named := ["internal/strconv.uint64pow10", "math/bits.deBruijn32tab", "math/bits.deBruijn64tab"], apart := false, laid := [("math/bits.deBruijn32tab", laid_math_bits_deBruijn32tab), ("math/bits.deBruijn64tab", laid_math_bits_deBruijn64tab), ("internal/strconv.uint64pow10", laid_internal_strconv_uint64pow10)] }
def RowsSaid : Prop := rowsRow.holds Tryd.pinned (OpenSpec.ofChange rowsSpec)

/-- ITS FALSE NEIGHBOUR: 'it returns false'. Refute it at one input. -/
def rowsWrong : ChangeSpec := { name := "rows", fn := fun _ => fun
  | [d1, d2, d3, d4] => { results := [.lit (.bool false)], args := [d1, d2, d3, d4] }
  | _ => none }
def RowsWrongFalsely : Prop := rowsRow.holds Tryd.pinned (OpenSpec.ofChange rowsWrong)

/-- 'trammellaw8.RowSolves': WHATEVER THE INPUT: true; the input reads as it did. -/
def rowSolvesSpec : ChangeSpec := { name := "rowSolves", fn := fun _ => fun
  | [d1, d2] => { results := [.lit (.bool true)], args := [d1, d2] }
  | _ => none }
def rowSolvesRow : OpenClaim := { program := "ytlfillhffpiffaadoor", sum := "f51637642292e492e49865aeb5aaf481ca8ed3ad450c9dd4dfa08b78c7afac2d", func := "trammel/trammellaw8.RowSolves", spec := "rowSolves", inPlace := ["internal/abi.NoEscape", "internal/bytealg.MakeNoZero"], unfollowed := true, recurses := true, named := ["internal/strconv.uint64pow10", "math/bits.deBruijn32tab", "math/bits.deBruijn64tab"], apart := false, laid := [("math/bits.deBruijn32tab", laid_math_bits_deBruijn32tab), ("math/bits.deBruijn64tab", laid_math_bits_deBruijn64tab), ("internal/strconv.uint64pow10", laid_internal_strconv_uint64pow10)] }
def RowSolvesSaid : Prop := rowSolvesRow.holds Tryd.pinned (OpenSpec.ofChange rowSolvesSpec)

/-- ITS FALSE NEIGHBOUR: 'it returns false'. Refute it at one input. -/
def rowSolvesWrong : ChangeSpec := { name := "rowSolves", fn := fun _ => fun
  | [d1, d2] => { results := [.lit (.bool false)], args := [d1, d2] }
  | _ => none }
def RowSolvesWrongFalsely : Prop := rowSolvesRow.holds Tryd.pinned (OpenSpec.ofChange rowSolvesWrong)

/-- 'trammellaw8.RowForms': WHATEVER THE INPUT: true; the input reads as it did. -/
def rowFormsSpec : ChangeSpec := { name := "rowForms", fn := fun _ => fun
  | [d1, d2] => { results := [.lit (.bool true)], args := [d1, d2] }
  | _ => none }
def rowFormsRow : OpenClaim := { program := "ytlfillhffpiffaadoor", sum := "f51637642292e492e49865aeb5aaf481ca8ed3ad450c9dd4dfa08b78c7afac2d", func := "trammel/trammellaw8.RowForms", spec := "rowForms", inPlace := ["internal/abi.NoEscape", "internal/bytealg.MakeNoZero"], unfollowed := true, recurses := true, named := ["internal/strconv.uint64pow10", "math/bits.deBruijn32tab", "math/bits.deBruijn64tab"], apart := false, laid := [("math/bits.deBruijn32tab", laid_math_bits_deBruijn32tab), ("math/bits.deBruijn64tab", laid_math_bits_deBruijn64tab), ("internal/strconv.uint64pow10", laid_internal_strconv_uint64pow10)] }
def RowFormsSaid : Prop := rowFormsRow.holds Tryd.pinned (OpenSpec.ofChange rowFormsSpec)

/-- ITS FALSE NEIGHBOUR: 'it returns false'. Refute it at one input. -/
def rowFormsWrong : ChangeSpec := { name := "rowForms", fn := fun _ => fun
  | [d1, d2] => { results := [.lit (.bool false)], args := [d1, d2] }
  | _ => none }
def RowFormsWrongFalsely : Prop := rowFormsRow.holds Tryd.pinned (OpenSpec.ofChange rowFormsWrong)

/-- 'trammellaw8.RowSwap': WHATEVER THE INPUT: true; the input reads as it did. -/
def rowSwapSpec : ChangeSpec := { name := "rowSwap", fn := fun _ => fun
  | [d1, d2, d3] => { results := [.lit (.bool true)], args := [d1, d2, d3] }
  | _ => none }
def rowSwapRow : OpenClaim := { program := "ytlfillhffpiffaadoor", sum := "f51637642292e492e49865aeb5aaf481ca8ed3ad450c9dd4dfa08b78c7afac2d", func := "trammel/trammellaw8.RowSwap", spec := "rowSwap", inPlace := ["internal/abi.NoEscape", "internal/bytealg.MakeNoZero"], unfollowed := true, recurses := true, named := ["internal/strconv.uint64pow10", "math/bits.deBruijn32tab", "math/bits.deBruijn64tab"], apart := false, laid := [("math/bits.deBruijn32tab", laid_math_bits_deBruijn32tab), ("math/bits.deBruijn64tab", laid_math_bits_deBruijn64tab), ("internal/strconv.uint64pow10", laid_internal_strconv_uint64pow10)] }
def RowSwapSaid : Prop := rowSwapRow.holds Tryd.pinned (OpenSpec.ofChange rowSwapSpec)

/-- ITS FALSE NEIGHBOUR: 'it returns false'. Refute it at one input. -/
def rowSwapWrong : ChangeSpec := { name := "rowSwap", fn := fun _ => fun
  | [d1, d2, d3] => { results := [.lit (.bool false)], args := [d1, d2, d3] }
  | _ => none }
def RowSwapWrongFalsely : Prop := rowSwapRow.holds Tryd.pinned (OpenSpec.ofChange rowSwapWrong)

/-- 'trammellaw8.RowTexts': WHATEVER THE INPUT: true; the input reads as it did. -/
def rowTextsSpec : ChangeSpec := { name := "rowTexts", fn := fun _ => fun
  | [d1, d2] => { results := [.lit (.bool true)], args := [d1, d2] }
  | _ => none }
def rowTextsRow : OpenClaim := { program := "ytlfillhffpiffaadoor", sum := "f51637642292e492e49865aeb5aaf481ca8ed3ad450c9dd4dfa08b78c7afac2d", func := "trammel/trammellaw8.RowTexts", spec := "rowTexts", inPlace := ["internal/abi.NoEscape", "internal/bytealg.MakeNoZero"], unfollowed := true, recurses := true, named := ["internal/strconv.uint64pow10", "math/bits.deBruijn32tab", "math/bits.deBruijn64tab"], apart := false, laid := [("math/bits.deBruijn32tab", laid_math_bits_deBruijn32tab), ("math/bits.deBruijn64tab", laid_math_bits_deBruijn64tab), ("internal/strconv.uint64pow10", laid_internal_strconv_uint64pow10)] }
def RowTextsSaid : Prop := rowTextsRow.holds Tryd.pinned (OpenSpec.ofChange rowTextsSpec)

/-- ITS FALSE NEIGHBOUR: 'it returns false'. Refute it at one input. -/
def rowTextsWrong : ChangeSpec := { name := "rowTexts", fn := fun _ => fun
  | [d1, d2] => { results := [.lit (.bool false)], args := [d1, d2] }
  | _ => none }
def RowTextsWrongFalsely : Prop := rowTextsRow.holds Tryd.pinned (OpenSpec.ofChange rowTextsWrong)

/-- 'trammellaw8.RowPure': WHATEVER THE INPUT: true; the input reads as it did. -/
def rowPureSpec : ChangeSpec := { name := "rowPure", fn := fun _ => fun
  | [d1, d2] => { results := [.lit (.bool true)], args := [d1, d2] }
  | _ => none }
def rowPureRow : OpenClaim := { program := "ytlfillhffpiffaadoor", sum := "f51637642292e492e49865aeb5aaf481ca8ed3ad450c9dd4dfa08b78c7afac2d", func := "trammel/trammellaw8.RowPure", spec := "rowPure", inPlace := ["internal/abi.NoEscape", "internal/bytealg.MakeNoZero"], unfollowed := true, recurses := true, named := ["internal/strconv.uint64pow10", "math/bits.deBruijn32tab", "math/bits.deBruijn64tab"], apart := false, laid := [("math/bits.deBruijn32tab", laid_math_bits_deBruijn32tab), ("math/bits.deBruijn64tab", laid_math_bits_deBruijn64tab), ("internal/strconv.uint64pow10", laid_internal_strconv_uint64pow10)] }
def RowPureSaid : Prop := rowPureRow.holds Tryd.pinned (OpenSpec.ofChange rowPureSpec)

/-- ITS FALSE NEIGHBOUR: 'it returns false'. Refute it at one input. -/
def rowPureWrong : ChangeSpec := { name := "rowPure", fn := fun _ => fun
  | [d1, d2] => { results := [.lit (.bool false)], args := [d1, d2] }
  | _ => none }
def RowPureWrongFalsely : Prop := rowPureRow.holds Tryd.pinned (OpenSpec.ofChange rowPureWrong)

/-- 'trammellaw11.Matches': WHATEVER THE INPUT: true; the input reads as it did. -/
def matchesSpec : ChangeSpec := { name := "matches", fn := fun _ => fun
  | [d1, d2] => { results := [.lit (.bool true)], args := [d1, d2] }
  | _ => none }
def matchesRow : OpenClaim := { program := "ytlfillhffpiffaadoor", sum := "f51637642292e492e49865aeb5aaf481ca8ed3ad450c9dd4dfa08b78c7afac2d", func := "trammel/trammellaw11.Matches", spec := "matches", inPlace := ["internal/abi.NoEscape", "internal/bytealg.MakeNoZero"], unfollowed := true, recurses := true, named := ["internal/strconv.uint64pow10", "math/bits.deBruijn32tab", "math/bits.deBruijn64tab"], apart := false, laid := [("math/bits.deBruijn32tab", laid_math_bits_deBruijn32tab), ("math/bits.deBruijn64tab", laid_math_bits_deBruijn64tab), ("internal/strconv.uint64pow10", laid_internal_strconv_uint64pow10)] }
def MatchesSaid : Prop := matchesRow.holds Tryd.pinned (OpenSpec.ofChange matchesSpec)

/-- ITS FALSE NEIGHBOUR: 'it returns false'. Refute it at one input. -/
def matchesWrong : ChangeSpec := { name := "matches", fn := fun _ => fun
  | [d1, d2] => { results := [.lit (.bool false)], args := [d1, d2] }
  | _ => none }
def MatchesWrongFalsely : Prop := matchesRow.holds Tryd.pinned (OpenSpec.ofChange matchesWrong)

/-- 'trammellaw11.MatchBoth': WHATEVER THE INPUT: true; the input reads as it did. -/
def matchBothSpec : ChangeSpec := { name := "matchBoth", fn := fun _ => fun
  | [d1, d2] => { results := [.lit (.bool true)], args := [d1, d2] }
  | _ => none }
def matchBothRow : OpenClaim := { program := "ytlfillhffpiffaadoor", sum := "f51637642292e492e49865aeb5aaf481ca8ed3ad450c9dd4dfa08b78c7afac2d", func := "trammel/trammellaw11.MatchBoth", spec := "matchBoth", inPlace := ["internal/abi.NoEscape", "internal/bytealg.MakeNoZero"], unfollowed := true, recurses := true, named := ["internal/strconv.uint64pow10", "math/bits.deBruijn32tab", "math/bits.deBruijn64tab"], apart := false, laid := [("math/bits.deBruijn32tab", laid_math_bits_deBruijn32tab), ("math/bits.deBruijn64tab", laid_math_bits_deBruijn64tab), ("internal/strconv.uint64pow10", laid_internal_strconv_uint64pow10)] }
def MatchBothSaid : Prop := matchBothRow.holds Tryd.pinned (OpenSpec.ofChange matchBothSpec)

/-- ITS FALSE NEIGHBOUR: 'it returns false'. Refute it at one input. -/
def matchBothWrong : ChangeSpec := { name := "matchBoth", fn := fun _ => fun
  | [d1, d2] => { results := [.lit (.bool false)], args := [d1, d2] }
  | _ => none }
def MatchBothWrongFalsely : Prop := matchBothRow.holds Tryd.pinned (OpenSpec.ofChange matchBothWrong)

/-- 'trammellaw11.MatchRows': WHATEVER THE INPUT: true; the input reads as it did. -/
def matchRowsSpec : ChangeSpec := { name := "matchRows", fn := fun _ => fun
  | [d1, d2] => { results := [.lit (.bool true)], args := [d1, d2] }
  | _ => none }
def matchRowsRow : OpenClaim := { program := "ytlfillhffpiffaadoor", sum := "f51637642292e492e49865aeb5aaf481ca8ed3ad450c9dd4dfa08b78c7afac2d", func := "trammel/trammellaw11.MatchRows", spec := "matchRows", inPlace := ["internal/abi.NoEscape", "internal/bytealg.MakeNoZero"], unfollowed := true, recurses := true, named := ["internal/strconv.uint64pow10", "math/bits.deBruijn32tab", "math/bits.deBruijn64tab"], apart := false, laid := [("math/bits.deBruijn32tab", laid_math_bits_deBruijn32tab), ("math/bits.deBruijn64tab", laid_math_bits_deBruijn64tab), ("internal/strconv.uint64pow10", laid_internal_strconv_uint64pow10)] }
def MatchRowsSaid : Prop := matchRowsRow.holds Tryd.pinned (OpenSpec.ofChange matchRowsSpec)

/-- ITS FALSE NEIGHBOUR: 'it returns false'. Refute it at one input. -/
def matchRowsWrong : ChangeSpec := { name := "matchRows", fn := fun _ => fun
  | [d1, d2] => { results := [.lit (.bool false)], args := [d1, d2] }
  | _ => none }
def MatchRowsWrongFalsely : Prop := matchRowsRow.holds Tryd.pinned (OpenSpec.ofChange matchRowsWrong)

/-- 'trammellaw11.MatchKinds': WHATEVER THE INPUT: true; the input reads as it did. -/
def matchKindsSpec : ChangeSpec := { name := "matchKinds", fn := fun _ => fun
  | [d1, d2] => { results := [.lit (.bool true)], args := [d1, d2] }
  | _ => none }
def matchKindsRow : OpenClaim := { program := "ytlfillhffpiffaadoor", sum := "f51637642292e492e49865aeb5aaf481ca8ed3ad450c9dd4dfa08b78c7afac2d", func := "trammel/trammellaw11.MatchKinds", spec := "matchKinds", inPlace := ["internal/abi.NoEscape", "internal/bytealg.MakeNoZero"], unfollowed := true, recurses := true, named := ["internal/strconv.uint64pow10", "math/bits.deBruijn32tab", "math/bits.deBruijn64tab"], apart := false, laid := [("math/bits.deBruijn32tab", laid_math_bits_deBruijn32tab), ("math/bits.deBruijn64tab", laid_math_bits_deBruijn64tab), ("internal/strconv.uint64pow10", laid_internal_strconv_uint64pow10)] }
def MatchKindsSaid : Prop := matchKindsRow.holds Tryd.pinned (OpenSpec.ofChange matchKindsSpec)

/-- ITS FALSE NEIGHBOUR: 'it returns false'. Refute it at one input. -/
def matchKindsWrong : ChangeSpec := { name := "matchKinds", fn := fun _ => fun
  | [d1, d2] => { results := [.lit (.bool false)], args := [d1, d2] }
  | _ => none }
def MatchKindsWrongFalsely : Prop := matchKindsRow.holds Tryd.pinned (OpenSpec.ofChange matchKindsWrong)

/-- 'trammellaw7.Types': WHATEVER THE INPUT: true; the input reads as it did. -/
def typesSpec : ChangeSpec := { name := "types", fn := fun _ => fun
  | [d1, d2, d3] => { results := [.lit (.bool true)], args := [d1, d2, d3] }
  | _ => none }
def typesRow : OpenClaim := { program := "ytlfillhffpiffaadoor", sum := "f51637642292e492e49865aeb5aaf481ca8ed3ad450c9dd4dfa08b78c7afac2d", func := "trammel/trammellaw7.Types", spec := "types", inPlace := ["internal/abi.NoEscape", "internal/bytealg.MakeNoZero"], unfollowed := true, recurses := true, named := ["internal/strconv.uint64pow10", "math/bits.deBruijn32tab", "math/bits.deBruijn64tab"], apart := false, laid := [("math/bits.deBruijn32tab", laid_math_bits_deBruijn32tab), ("math/bits.deBruijn64tab", laid_math_bits_deBruijn64tab), ("internal/strconv.uint64pow10", laid_internal_strconv_uint64pow10)] }
def TypesSaid : Prop := typesRow.holds Tryd.pinned (OpenSpec.ofChange typesSpec)

/-- ITS FALSE NEIGHBOUR: 'it returns false'. Refute it at one input. -/
def typesWrong : ChangeSpec := { name := "types", fn := fun _ => fun
  | [d1, d2, d3] => { results := [.lit (.bool false)], args := [d1, d2, d3] }
  | _ => none }
def TypesWrongFalsely : Prop := typesRow.holds Tryd.pinned (OpenSpec.ofChange typesWrong)

/-- 'trammellaw7.TypeNames': WHATEVER THE INPUT: true; the input reads as it did. -/
def typeNamesSpec : ChangeSpec := { name := "typeNames", fn := fun _ => fun
  | [d1, d2] => { results := [.lit (.bool true)], args := [d1, d2] }
  | _ => none }
def typeNamesRow : OpenClaim := { program := "ytlfillhffpiffaadoor", sum := "f51637642292e492e49865aeb5aaf481ca8ed3ad450c9dd4dfa08b78c7afac2d", func := "trammel/trammellaw7.TypeNames", spec := "typeNames", inPlace := ["internal/abi.NoEscape", "internal/bytealg.MakeNoZero"], unfollowed := true, recurses := true, named := ["internal/strconv.uint64pow10", "math/bits.deBruijn32tab", "math/bits.deBruijn64tab"], apart := false, laid := [("math/bits.deBruijn32tab", laid_math_bits_deBruijn32tab), ("math/bits.deBruijn64tab", laid_math_bits_deBruijn64tab), ("internal/strconv.uint64pow10", laid_internal_strconv_uint64pow10)] }
def TypeNamesSaid : Prop := typeNamesRow.holds Tryd.pinned (OpenSpec.ofChange typeNamesSpec)

/-- ITS FALSE NEIGHBOUR: 'it returns false'. Refute it at one input. -/
def typeNamesWrong : ChangeSpec := { name := "typeNames", fn := fun _ => fun
  | [d1, d2] => { results := [.lit (.bool false)], args := [d1, d2] }
  | _ => none }
def TypeNamesWrongFalsely : Prop := typeNamesRow.holds Tryd.pinned (OpenSpec.ofChange typeNamesWrong)

/-- 'trammellaw7.TypForms': WHATEVER THE INPUT: true; the input reads as it did. -/
def typFormsSpec : ChangeSpec := { name := "typForms", fn := fun _ => fun
  | [d1, d2] => { results := [.lit (.bool true)], args := [d1, d2] }
  | _ => none }
def typFormsRow : OpenClaim := { program := "ytlfillhffpiffaadoor", sum := "f51637642292e492e49865aeb5aaf481ca8ed3ad450c9dd4dfa08b78c7afac2d", func := "trammel/trammellaw7.TypForms", spec := "typForms", inPlace := ["internal/abi.NoEscape", "internal/bytealg.MakeNoZero"], unfollowed := true, recurses := true, named := ["internal/strconv.uint64pow10", "math/bits.deBruijn32tab", "math/bits.deBruijn64tab"], apart := false, laid := [("math/bits.deBruijn32tab", laid_math_bits_deBruijn32tab), ("math/bits.deBruijn64tab", laid_math_bits_deBruijn64tab), ("internal/strconv.uint64pow10", laid_internal_strconv_uint64pow10)] }
def TypFormsSaid : Prop := typFormsRow.holds Tryd.pinned (OpenSpec.ofChange typFormsSpec)

/-- ITS FALSE NEIGHBOUR: 'it returns false'. Refute it at one input. -/
def typFormsWrong : ChangeSpec := { name := "typForms", fn := fun _ => fun
  | [d1, d2] => { results := [.lit (.bool false)], args := [d1, d2] }
  | _ => none }
def TypFormsWrongFalsely : Prop := typFormsRow.holds Tryd.pinned (OpenSpec.ofChange typFormsWrong)

/-- 'trammellaw7.TypGrows': WHATEVER THE INPUT: true; the input reads as it did. -/
def typGrowsSpec : ChangeSpec := { name := "typGrows", fn := fun _ => fun
  | [d1, d2, d3] => { results := [.lit (.bool true)], args := [d1, d2, d3] }
  | _ => none }
def typGrowsRow : OpenClaim := { program := "ytlfillhffpiffaadoor", sum := "f51637642292e492e49865aeb5aaf481ca8ed3ad450c9dd4dfa08b78c7afac2d", func := "trammel/trammellaw7.TypGrows", spec := "typGrows", inPlace := ["internal/abi.NoEscape", "internal/bytealg.MakeNoZero"], unfollowed := true, recurses := true, named := ["internal/strconv.uint64pow10", "math/bits.deBruijn32tab", "math/bits.deBruijn64tab"], apart := false, laid := [("math/bits.deBruijn32tab", laid_math_bits_deBruijn32tab), ("math/bits.deBruijn64tab", laid_math_bits_deBruijn64tab), ("internal/strconv.uint64pow10", laid_internal_strconv_uint64pow10)] }
def TypGrowsSaid : Prop := typGrowsRow.holds Tryd.pinned (OpenSpec.ofChange typGrowsSpec)

/-- ITS FALSE NEIGHBOUR: 'it returns false'. Refute it at one input. -/
def typGrowsWrong : ChangeSpec := { name := "typGrows", fn := fun _ => fun
  | [d1, d2, d3] => { results := [.lit (.bool false)], args := [d1, d2, d3] }
  | _ => none }
def TypGrowsWrongFalsely : Prop := typGrowsRow.holds Tryd.pinned (OpenSpec.ofChange typGrowsWrong)

/-- 'trammellaw11.MatchMade': WHATEVER THE INPUT: true; the input reads as it did. -/
def matchMadeSpec : ChangeSpec := { name := "matchMade", fn := fun _ => fun
  | [d1, d2, d3] => { results := [.lit (.bool true)], args := [d1, d2, d3] }
  | _ => none }
def matchMadeRow : OpenClaim := { program := "ytlfillhffpiffaadoor", sum := "f51637642292e492e49865aeb5aaf481ca8ed3ad450c9dd4dfa08b78c7afac2d", func := "trammel/trammellaw11.MatchMade", spec := "matchMade", inPlace := ["internal/abi.NoEscape", "internal/bytealg.MakeNoZero"], unfollowed := true, recurses := true, named := ["internal/strconv.uint64pow10", "math/bits.deBruijn32tab", "math/bits.deBruijn64tab"], apart := false, laid := [("math/bits.deBruijn32tab", laid_math_bits_deBruijn32tab), ("math/bits.deBruijn64tab", laid_math_bits_deBruijn64tab), ("internal/strconv.uint64pow10", laid_internal_strconv_uint64pow10)] }
def MatchMadeSaid : Prop := matchMadeRow.holds Tryd.pinned (OpenSpec.ofChange matchMadeSpec)

/-- ITS FALSE NEIGHBOUR: 'it returns false'. Refute it at one input. -/
def matchMadeWrong : ChangeSpec := { name := "matchMade", fn := fun _ => fun
  | [d1, d2, d3] => { results := [.lit (.bool false)], args := [d1, d2, d3] }
  | _ => none }
def MatchMadeWrongFalsely : Prop := matchMadeRow.holds Tryd.pinned (OpenSpec.ofChange matchMadeWrong)

/- THE SECOND FORM. 'bulk': how many values and letters a reading holds, each counted each time it is reached (what is shared counts as often as it is met; a slice's spare places count too). A statement '..UptoSaid' is the law's where the arguments, and the package variables that the reading takes, are together of bulk at most 1048576: NARROWER than '..Said'. Prove '..Said' where nothing that the law and all that it calls make is longer than what came in: it says more and counts as full. Else prove '..UptoSaid'. A law counts once. -/
mutual
def uptoBulk {H : Type} : DataW H → Nat
  | .lit (.string bytes) => bytes.length + 1
  | .lit _ => 1
  | .nil => 1
  | .ptr d => uptoBulk d + 1
  | .slice elems spare => uptoBulkAll elems + uptoBulkAll spare + 1
  | .agg parts => uptoBulkAll parts + 1
  | .iface _ d => uptoBulk d + 1
  | .map entries => uptoBulkEntries entries + 1
  | .held _ => 1
def uptoBulkAll {H : Type} : List (DataW H) → Nat
  | [] => 0
  | d :: r => uptoBulk d + uptoBulkAll r
def uptoBulkEntries {H : Type} : List (Lit × DataW H) → Nat
  | [] => 0
  | x :: r => uptoBulkEntry x + uptoBulkEntries r
def uptoBulkEntry {H : Type} : Lit × DataW H → Nat
  | (.string bytes, d) => bytes.length + uptoBulk d + 1
  | (_, d) => uptoBulk d + 1
 end
def uptoSmall : (H : Type) → List (DataW H) → Bool := fun _ ds => decide (uptoBulkAll ds ≤ 1048576)
def OpenSpec.upto (s : _root_.Go.ChangeSpec) : _root_.Go.OpenSpec := { _root_.Go.OpenSpec.ofChange s with cond := some uptoSmall }

/-- 'trammellaw8.Rows', WHERE WHAT IT READS IS OF BULK AT MOST 1048576: true; the input reads as it did. -/
def rowsUptoRow : OpenClaim := { program := "ytlfillhffpiffaadoor", sum := "f51637642292e492e49865aeb5aaf481ca8ed3ad450c9dd4dfa08b78c7afac2d", func := "trammel/trammellaw8.Rows", spec := "rows", inPlace := ["internal/abi.NoEscape", "internal/bytealg.MakeNoZero"], unfollowed := true, recurses := true, named := ["internal/strconv.uint64pow10", "math/bits.deBruijn32tab", "math/bits.deBruijn64tab"], apart := false, laid := [("math/bits.deBruijn32tab", laid_math_bits_deBruijn32tab), ("math/bits.deBruijn64tab", laid_math_bits_deBruijn64tab), ("internal/strconv.uint64pow10", laid_internal_strconv_uint64pow10)], narrowed := true }
def RowsUptoSaid : Prop := rowsUptoRow.holds Tryd.pinned (OpenSpec.upto rowsSpec)

/-- 'trammellaw8.RowSolves', WHERE WHAT IT READS IS OF BULK AT MOST 1048576: true; the input reads as it did. -/
def rowSolvesUptoRow : OpenClaim := { program := "ytlfillhffpiffaadoor", sum := "f51637642292e492e49865aeb5aaf481ca8ed3ad450c9dd4dfa08b78c7afac2d", func := "trammel/trammellaw8.RowSolves", spec := "rowSolves", inPlace := ["internal/abi.NoEscape", "internal/bytealg.MakeNoZero"], unfollowed := true, recurses := true, named := ["internal/strconv.uint64pow10", "math/bits.deBruijn32tab", "math/bits.deBruijn64tab"], apart := false, laid := [("math/bits.deBruijn32tab", laid_math_bits_deBruijn32tab), ("math/bits.deBruijn64tab", laid_math_bits_deBruijn64tab), ("internal/strconv.uint64pow10", laid_internal_strconv_uint64pow10)], narrowed := true }
def RowSolvesUptoSaid : Prop := rowSolvesUptoRow.holds Tryd.pinned (OpenSpec.upto rowSolvesSpec)

/-- 'trammellaw8.RowForms', WHERE WHAT IT READS IS OF BULK AT MOST 1048576: true; the input reads as it did. -/
def rowFormsUptoRow : OpenClaim := { program := "ytlfillhffpiffaadoor", sum := "f51637642292e492e49865aeb5aaf481ca8ed3ad450c9dd4dfa08b78c7afac2d", func := "trammel/trammellaw8.RowForms", spec := "rowForms", inPlace := ["internal/abi.NoEscape", "internal/bytealg.MakeNoZero"], unfollowed := true, recurses := true, named := ["internal/strconv.uint64pow10", "math/bits.deBruijn32tab", "math/bits.deBruijn64tab"], apart := false, laid := [("math/bits.deBruijn32tab", laid_math_bits_deBruijn32tab), ("math/bits.deBruijn64tab", laid_math_bits_deBruijn64tab), ("internal/strconv.uint64pow10", laid_internal_strconv_uint64pow10)], narrowed := true }
def RowFormsUptoSaid : Prop := rowFormsUptoRow.holds Tryd.pinned (OpenSpec.upto rowFormsSpec)

/-- 'trammellaw8.RowSwap', WHERE WHAT IT READS IS OF BULK AT MOST 1048576: true; the input reads as it did. -/
def rowSwapUptoRow : OpenClaim := { program := "ytlfillhffpiffaadoor", sum := "f51637642292e492e49865aeb5aaf481ca8ed3ad450c9dd4dfa08b78c7afac2d", func := "trammel/trammellaw8.RowSwap", spec := "rowSwap", inPlace := ["internal/abi.NoEscape", "internal/bytealg.MakeNoZero"], unfollowed := true, recurses := true, named := ["internal/strconv.uint64pow10", "math/bits.deBruijn32tab", "math/bits.deBruijn64tab"], apart := false, laid := [("math/bits.deBruijn32tab", laid_math_bits_deBruijn32tab), ("math/bits.deBruijn64tab", laid_math_bits_deBruijn64tab), ("internal/strconv.uint64pow10", laid_internal_strconv_uint64pow10)], narrowed := true }
def RowSwapUptoSaid : Prop := rowSwapUptoRow.holds Tryd.pinned (OpenSpec.upto rowSwapSpec)

/-- 'trammellaw8.RowTexts', WHERE WHAT IT READS IS OF BULK AT MOST 1048576: true; the input reads as it did. -/
def rowTextsUptoRow : OpenClaim := { program := "ytlfillhffpiffaadoor", sum := "f51637642292e492e49865aeb5aaf481ca8ed3ad450c9dd4dfa08b78c7afac2d", func := "trammel/trammellaw8.RowTexts", spec := "rowTexts", inPlace := ["internal/abi.NoEscape", "internal/bytealg.MakeNoZero"], unfollowed := true, recurses := true, named := ["internal/strconv.uint64pow10", "math/bits.deBruijn32tab", "math/bits.deBruijn64tab"], apart := false, laid := [("math/bits.deBruijn32tab", laid_math_bits_deBruijn32tab), ("math/bits.deBruijn64tab", laid_math_bits_deBruijn64tab), ("internal/strconv.uint64pow10", laid_internal_strconv_uint64pow10)], narrowed := true }
def RowTextsUptoSaid : Prop := rowTextsUptoRow.holds Tryd.pinned (OpenSpec.upto rowTextsSpec)

/-- 'trammellaw8.RowPure', WHERE WHAT IT READS IS OF BULK AT MOST 1048576: true; the input reads as it did. -/
def rowPureUptoRow : OpenClaim := { program := "ytlfillhffpiffaadoor", sum := "f51637642292e492e49865aeb5aaf481ca8ed3ad450c9dd4dfa08b78c7afac2d", func := "trammel/trammellaw8.RowPure", spec := "rowPure", inPlace := ["internal/abi.NoEscape", "internal/bytealg.MakeNoZero"], unfollowed := true, recurses := true, named := ["internal/strconv.uint64pow10", "math/bits.deBruijn32tab", "math/bits.deBruijn64tab"], apart := false, laid := [("math/bits.deBruijn32tab", laid_math_bits_deBruijn32tab), ("math/bits.deBruijn64tab", laid_math_bits_deBruijn64tab), ("internal/strconv.uint64pow10", laid_internal_strconv_uint64pow10)], narrowed := true }
def RowPureUptoSaid : Prop := rowPureUptoRow.holds Tryd.pinned (OpenSpec.upto rowPureSpec)

/-- 'trammellaw11.Matches', WHERE WHAT IT READS IS OF BULK AT MOST 1048576: true; the input reads as it did. -/
def matchesUptoRow : OpenClaim := { program := "ytlfillhffpiffaadoor", sum := "f51637642292e492e49865aeb5aaf481ca8ed3ad450c9dd4dfa08b78c7afac2d", func := "trammel/trammellaw11.Matches", spec := "matches", inPlace := ["internal/abi.NoEscape", "internal/bytealg.MakeNoZero"], unfollowed := true, recurses := true, named := ["internal/strconv.uint64pow10", "math/bits.deBruijn32tab", "math/bits.deBruijn64tab"], apart := false, laid := [("math/bits.deBruijn32tab", laid_math_bits_deBruijn32tab), ("math/bits.deBruijn64tab", laid_math_bits_deBruijn64tab), ("internal/strconv.uint64pow10", laid_internal_strconv_uint64pow10)], narrowed := true }
def MatchesUptoSaid : Prop := matchesUptoRow.holds Tryd.pinned (OpenSpec.upto matchesSpec)

/-- 'trammellaw11.MatchBoth', WHERE WHAT IT READS IS OF BULK AT MOST 1048576: true; the input reads as it did. -/
def matchBothUptoRow : OpenClaim := { program := "ytlfillhffpiffaadoor", sum := "f51637642292e492e49865aeb5aaf481ca8ed3ad450c9dd4dfa08b78c7afac2d", func := "trammel/trammellaw11.MatchBoth", spec := "matchBoth", inPlace := ["internal/abi.NoEscape", "internal/bytealg.MakeNoZero"], unfollowed := true, recurses := true, named := ["internal/strconv.uint64pow10", "math/bits.deBruijn32tab", "math/bits.deBruijn64tab"], apart := false, laid := [("math/bits.deBruijn32tab", laid_math_bits_deBruijn32tab), ("math/bits.deBruijn64tab", laid_math_bits_deBruijn64tab), ("internal/strconv.uint64pow10", laid_internal_strconv_uint64pow10)], narrowed := true }
def MatchBothUptoSaid : Prop := matchBothUptoRow.holds Tryd.pinned (OpenSpec.upto matchBothSpec)

/-- 'trammellaw11.MatchRows', WHERE WHAT IT READS IS OF BULK AT MOST 1048576: true; the input reads as it did. -/
def matchRowsUptoRow : OpenClaim := { program := "ytlfillhffpiffaadoor", sum := "f51637642292e492e49865aeb5aaf481ca8ed3ad450c9dd4dfa08b78c7afac2d", func := "trammel/trammellaw11.MatchRows", spec := "matchRows", inPlace := ["internal/abi.NoEscape", "internal/bytealg.MakeNoZero"], unfollowed := true, recurses := true, named := ["internal/strconv.uint64pow10", "math/bits.deBruijn32tab", "math/bits.deBruijn64tab"], apart := false, laid := [("math/bits.deBruijn32tab", laid_math_bits_deBruijn32tab), ("math/bits.deBruijn64tab", laid_math_bits_deBruijn64tab), ("internal/strconv.uint64pow10", laid_internal_strconv_uint64pow10)], narrowed := true }
def MatchRowsUptoSaid : Prop := matchRowsUptoRow.holds Tryd.pinned (OpenSpec.upto matchRowsSpec)

/-- 'trammellaw11.MatchKinds', WHERE WHAT IT READS IS OF BULK AT MOST 1048576: true; the input reads as it did. -/
def matchKindsUptoRow : OpenClaim := { program := "ytlfillhffpiffaadoor", sum := "f51637642292e492e49865aeb5aaf481ca8ed3ad450c9dd4dfa08b78c7afac2d", func := "trammel/trammellaw11.MatchKinds", spec := "matchKinds", inPlace := ["internal/abi.NoEscape", "internal/bytealg.MakeNoZero"], unfollowed := true, recurses := true, named := ["internal/strconv.uint64pow10", "math/bits.deBruijn32tab", "math/bits.deBruijn64tab"], apart := false, laid := [("math/bits.deBruijn32tab", laid_math_bits_deBruijn32tab), ("math/bits.deBruijn64tab", laid_math_bits_deBruijn64tab), ("internal/strconv.uint64pow10", laid_internal_strconv_uint64pow10)], narrowed := true }
def MatchKindsUptoSaid : Prop := matchKindsUptoRow.holds Tryd.pinned (OpenSpec.upto matchKindsSpec)

/-- 'trammellaw7.Types', WHERE WHAT IT READS IS OF BULK AT MOST 1048576: true; the input reads as it did. -/
def typesUptoRow : OpenClaim := { program := "ytlfillhffpiffaadoor", sum := "f51637642292e492e49865aeb5aaf481ca8ed3ad450c9dd4dfa08b78c7afac2d", func := "trammel/trammellaw7.Types", spec := "types", inPlace := ["internal/abi.NoEscape", "internal/bytealg.MakeNoZero"], unfollowed := true, recurses := true, named := ["internal/strconv.uint64pow10", "math/bits.deBruijn32tab", "math/bits.deBruijn64tab"], apart := false, laid := [("math/bits.deBruijn32tab", laid_math_bits_deBruijn32tab), ("math/bits.deBruijn64tab", laid_math_bits_deBruijn64tab), ("internal/strconv.uint64pow10", laid_internal_strconv_uint64pow10)], narrowed := true }
def TypesUptoSaid : Prop := typesUptoRow.holds Tryd.pinned (OpenSpec.upto typesSpec)

/-- 'trammellaw7.TypeNames', WHERE WHAT IT READS IS OF BULK AT MOST 1048576: true; the input reads as it did. -/
def typeNamesUptoRow : OpenClaim := { program := "ytlfillhffpiffaadoor", sum := "f51637642292e492e49865aeb5aaf481ca8ed3ad450c9dd4dfa08b78c7afac2d", func := "trammel/trammellaw7.TypeNames", spec := "typeNames", inPlace := ["internal/abi.NoEscape", "internal/bytealg.MakeNoZero"], unfollowed := true, recurses := true, named := ["internal/strconv.uint64pow10", "math/bits.deBruijn32tab", "math/bits.deBruijn64tab"], apart := false, laid := [("math/bits.deBruijn32tab", laid_math_bits_deBruijn32tab), ("math/bits.deBruijn64tab", laid_math_bits_deBruijn64tab), ("internal/strconv.uint64pow10", laid_internal_strconv_uint64pow10)], narrowed := true }
def TypeNamesUptoSaid : Prop := typeNamesUptoRow.holds Tryd.pinned (OpenSpec.upto typeNamesSpec)

/-- 'trammellaw7.TypForms', WHERE WHAT IT READS IS OF BULK AT MOST 1048576: true; the input reads as it did. -/
def typFormsUptoRow : OpenClaim := { program := "ytlfillhffpiffaadoor", sum := "f51637642292e492e49865aeb5aaf481ca8ed3ad450c9dd4dfa08b78c7afac2d", func := "trammel/trammellaw7.TypForms", spec := "typForms", inPlace := ["internal/abi.NoEscape", "internal/bytealg.MakeNoZero"], unfollowed := true, recurses := true, named := ["internal/strconv.uint64pow10", "math/bits.deBruijn32tab", "math/bits.deBruijn64tab"], apart := false, laid := [("math/bits.deBruijn32tab", laid_math_bits_deBruijn32tab), ("math/bits.deBruijn64tab", laid_math_bits_deBruijn64tab), ("internal/strconv.uint64pow10", laid_internal_strconv_uint64pow10)], narrowed := true }
def TypFormsUptoSaid : Prop := typFormsUptoRow.holds Tryd.pinned (OpenSpec.upto typFormsSpec)

/-- 'trammellaw7.TypGrows', WHERE WHAT IT READS IS OF BULK AT MOST 1048576: true; the input reads as it did. -/
def typGrowsUptoRow : OpenClaim := { program := "ytlfillhffpiffaadoor", sum := "f51637642292e492e49865aeb5aaf481ca8ed3ad450c9dd4dfa08b78c7afac2d", func := "trammel/trammellaw7.TypGrows", spec := "typGrows", inPlace := ["internal/abi.NoEscape", "internal/bytealg.MakeNoZero"], unfollowed := true, recurses := true, named := ["internal/strconv.uint64pow10", "math/bits.deBruijn32tab", "math/bits.deBruijn64tab"], apart := false, laid := [("math/bits.deBruijn32tab", laid_math_bits_deBruijn32tab), ("math/bits.deBruijn64tab", laid_math_bits_deBruijn64tab), ("internal/strconv.uint64pow10", laid_internal_strconv_uint64pow10)], narrowed := true }
def TypGrowsUptoSaid : Prop := typGrowsUptoRow.holds Tryd.pinned (OpenSpec.upto typGrowsSpec)

/-- 'trammellaw11.MatchMade', WHERE WHAT IT READS IS OF BULK AT MOST 1048576: true; the input reads as it did. -/
def matchMadeUptoRow : OpenClaim := { program := "ytlfillhffpiffaadoor", sum := "f51637642292e492e49865aeb5aaf481ca8ed3ad450c9dd4dfa08b78c7afac2d", func := "trammel/trammellaw11.MatchMade", spec := "matchMade", inPlace := ["internal/abi.NoEscape", "internal/bytealg.MakeNoZero"], unfollowed := true, recurses := true, named := ["internal/strconv.uint64pow10", "math/bits.deBruijn32tab", "math/bits.deBruijn64tab"], apart := false, laid := [("math/bits.deBruijn32tab", laid_math_bits_deBruijn32tab), ("math/bits.deBruijn64tab", laid_math_bits_deBruijn64tab), ("internal/strconv.uint64pow10", laid_internal_strconv_uint64pow10)], narrowed := true }
def MatchMadeUptoSaid : Prop := matchMadeUptoRow.holds Tryd.pinned (OpenSpec.upto matchMadeSpec)

end Rows
end Go.Proofs.YtlfillhffpiffaaDoor
