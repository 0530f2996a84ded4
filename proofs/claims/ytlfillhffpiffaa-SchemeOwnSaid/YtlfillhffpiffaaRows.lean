/-
  No cell of these rows narrows 'for every input' (looked for: loops, veiled, ifaces, maps, wideKeys, modest, calm, conditions, laid).
  DERIVED. THE GIVEN ROWS OF THIS SEAT. 15 by the template 'for every input the law returns true; each argument reads behind the call as it read before'; 0 by the template 'total and deterministic' (their statements: YtlfillhffpiffaaTotals.lean).
  GIVEN WITH THE SEED: the statements are not yours to turn. If you find one false, say at which input.
  Laid BY PROGRAM, IN A SANDBOX (cutbox-rows.mjs): the forced cells as the released guide's own fill.sh prints them over the translation d113a4a842e06d74… (all of the seat's roots in one cut). By AI agents, Wed Nov 11 2026. No macro, syntax, notation, axiom, sorry.
-/
import Derived.Test.YtlfillhffpiffaaChecked
import GoSem.Claim
import GoSem.ClaimJoined
import GoSem.ClaimMapViews
import Derived.JoinedTies
import Derived.KernelRfl
namespace Go.Proofs.Ytlfillhffpiffaa
/- THE CELL 'sum', in the pinned program and in every row, IS THE sha256 OF THE DUMP (.gsa) THAT YtlfillhffpiffaaProg.lean LOADS. Nothing in Lean hashes anything: it is a label: what it is worth is what the hold of that sum in a sandbox is worth. -/
noncomputable def Try.pinned : Pinned := { name := "ytlfillhffpiffaa", sum := "d113a4a842e06d74c642b0e69c42e1b27de0fa69225c63bf0027e3f835a4c167", checked := Try.checked }
namespace Rows
def none {H : Type} : Left H := { results := [], args := [] }

/-- 'trammellaw9.Substs': WHATEVER THE INPUT: true; the input reads as it did. -/
def substsSpec : ChangeSpec := { name := "substs", fn := fun _ => fun
  | [d1, d2, d3] => { results := [.lit (.bool true)], args := [d1, d2, d3] }
  | _ => none }
def substsRow : OpenClaim := { program := "ytlfillhffpiffaa", sum := "d113a4a842e06d74c642b0e69c42e1b27de0fa69225c63bf0027e3f835a4c167", func := "trammel/trammellaw9.Substs", spec := "substs", unfollowed := true, recurses := true, apart := false }
def SubstsSaid : Prop := substsRow.holds Try.pinned (OpenSpec.ofChange substsSpec)

/-- ITS FALSE NEIGHBOUR: 'it returns false'. Refute it at one input. -/
def substsWrong : ChangeSpec := { name := "substs", fn := fun _ => fun
  | [d1, d2, d3] => { results := [.lit (.bool false)], args := [d1, d2, d3] }
  | _ => none }
def SubstsWrongFalsely : Prop := substsRow.holds Try.pinned (OpenSpec.ofChange substsWrong)

/-- 'trammellaw9.SubstNone': WHATEVER THE INPUT: true; the input reads as it did. -/
def substNoneSpec : ChangeSpec := { name := "substNone", fn := fun _ => fun
  | [d1, d2] => { results := [.lit (.bool true)], args := [d1, d2] }
  | _ => none }
def substNoneRow : OpenClaim := { program := "ytlfillhffpiffaa", sum := "d113a4a842e06d74c642b0e69c42e1b27de0fa69225c63bf0027e3f835a4c167", func := "trammel/trammellaw9.SubstNone", spec := "substNone", unfollowed := true, recurses := true, apart := false }
def SubstNoneSaid : Prop := substNoneRow.holds Try.pinned (OpenSpec.ofChange substNoneSpec)

/-- ITS FALSE NEIGHBOUR: 'it returns false'. Refute it at one input. -/
def substNoneWrong : ChangeSpec := { name := "substNone", fn := fun _ => fun
  | [d1, d2] => { results := [.lit (.bool false)], args := [d1, d2] }
  | _ => none }
def SubstNoneWrongFalsely : Prop := substNoneRow.holds Try.pinned (OpenSpec.ofChange substNoneWrong)

/-- 'trammellaw9.SubstForms': WHATEVER THE INPUT: true; the input reads as it did. -/
def substFormsSpec : ChangeSpec := { name := "substForms", fn := fun _ => fun
  | [d1, d2] => { results := [.lit (.bool true)], args := [d1, d2] }
  | _ => none }
def substFormsRow : OpenClaim := { program := "ytlfillhffpiffaa", sum := "d113a4a842e06d74c642b0e69c42e1b27de0fa69225c63bf0027e3f835a4c167", func := "trammel/trammellaw9.SubstForms", spec := "substForms", unfollowed := true, recurses := true, apart := false }
def SubstFormsSaid : Prop := substFormsRow.holds Try.pinned (OpenSpec.ofChange substFormsSpec)

/-- ITS FALSE NEIGHBOUR: 'it returns false'. Refute it at one input. -/
def substFormsWrong : ChangeSpec := { name := "substForms", fn := fun _ => fun
  | [d1, d2] => { results := [.lit (.bool false)], args := [d1, d2] }
  | _ => none }
def SubstFormsWrongFalsely : Prop := substFormsRow.holds Try.pinned (OpenSpec.ofChange substFormsWrong)

/-- 'trammellaw9.SubstFirst': WHATEVER THE INPUT: true; the input reads as it did. -/
def substFirstSpec : ChangeSpec := { name := "substFirst", fn := fun _ => fun
  | [d1, d2, d3, d4] => { results := [.lit (.bool true)], args := [d1, d2, d3, d4] }
  | _ => none }
def substFirstRow : OpenClaim := { program := "ytlfillhffpiffaa", sum := "d113a4a842e06d74c642b0e69c42e1b27de0fa69225c63bf0027e3f835a4c167", func := "trammel/trammellaw9.SubstFirst", spec := "substFirst", unfollowed := true, recurses := true, apart := false }
def SubstFirstSaid : Prop := substFirstRow.holds Try.pinned (OpenSpec.ofChange substFirstSpec)

/-- ITS FALSE NEIGHBOUR: 'it returns false'. Refute it at one input. -/
def substFirstWrong : ChangeSpec := { name := "substFirst", fn := fun _ => fun
  | [d1, d2, d3, d4] => { results := [.lit (.bool false)], args := [d1, d2, d3, d4] }
  | _ => none }
def SubstFirstWrongFalsely : Prop := substFirstRow.holds Try.pinned (OpenSpec.ofChange substFirstWrong)

/-- 'trammellaw12.Schemes': WHATEVER THE INPUT: true; the input reads as it did. -/
def schemesSpec : ChangeSpec := { name := "schemes", fn := fun _ => fun
  | [d1, d2, d3, d4, d5, d6] => { results := [.lit (.bool true)], args := [d1, d2, d3, d4, d5, d6] }
  | _ => none }
def schemesRow : OpenClaim := { program := "ytlfillhffpiffaa", sum := "d113a4a842e06d74c642b0e69c42e1b27de0fa69225c63bf0027e3f835a4c167", func := "trammel/trammellaw12.Schemes", spec := "schemes", inPlace := ["internal/reflectlite.TypeOf"], unfollowed := true, recurses := true, apart := false }
def SchemesSaid : Prop := schemesRow.holds Try.pinned (OpenSpec.ofChange schemesSpec)

/-- ITS FALSE NEIGHBOUR: 'it returns false'. Refute it at one input. -/
def schemesWrong : ChangeSpec := { name := "schemes", fn := fun _ => fun
  | [d1, d2, d3, d4, d5, d6] => { results := [.lit (.bool false)], args := [d1, d2, d3, d4, d5, d6] }
  | _ => none }
def SchemesWrongFalsely : Prop := schemesRow.holds Try.pinned (OpenSpec.ofChange schemesWrong)

/-- 'trammellaw12.SchemeForms': WHATEVER THE INPUT: true; the input reads as it did. -/
def schemeFormsSpec : ChangeSpec := { name := "schemeForms", fn := fun _ => fun
  | [d1, d2] => { results := [.lit (.bool true)], args := [d1, d2] }
  | _ => none }
def schemeFormsRow : OpenClaim := { program := "ytlfillhffpiffaa", sum := "d113a4a842e06d74c642b0e69c42e1b27de0fa69225c63bf0027e3f835a4c167", func := "trammel/trammellaw12.SchemeForms", spec := "schemeForms", inPlace := ["internal/reflectlite.TypeOf"], unfollowed := true, recurses := true, apart := false }
def SchemeFormsSaid : Prop := schemeFormsRow.holds Try.pinned (OpenSpec.ofChange schemeFormsSpec)

/-- ITS FALSE NEIGHBOUR: 'it returns false'. Refute it at one input. -/
def schemeFormsWrong : ChangeSpec := { name := "schemeForms", fn := fun _ => fun
  | [d1, d2] => { results := [.lit (.bool false)], args := [d1, d2] }
  | _ => none }
def SchemeFormsWrongFalsely : Prop := schemeFormsRow.holds Try.pinned (OpenSpec.ofChange schemeFormsWrong)

/-- 'trammellaw12.SchemeKeeps': WHATEVER THE INPUT: true; the input reads as it did. -/
def schemeKeepsSpec : ChangeSpec := { name := "schemeKeeps", fn := fun _ => fun
  | [d1, d2, d3] => { results := [.lit (.bool true)], args := [d1, d2, d3] }
  | _ => none }
def schemeKeepsRow : OpenClaim := { program := "ytlfillhffpiffaa", sum := "d113a4a842e06d74c642b0e69c42e1b27de0fa69225c63bf0027e3f835a4c167", func := "trammel/trammellaw12.SchemeKeeps", spec := "schemeKeeps", inPlace := ["internal/reflectlite.TypeOf"], unfollowed := true, recurses := true, apart := false }
def SchemeKeepsSaid : Prop := schemeKeepsRow.holds Try.pinned (OpenSpec.ofChange schemeKeepsSpec)

/-- ITS FALSE NEIGHBOUR: 'it returns false'. Refute it at one input. -/
def schemeKeepsWrong : ChangeSpec := { name := "schemeKeeps", fn := fun _ => fun
  | [d1, d2, d3] => { results := [.lit (.bool false)], args := [d1, d2, d3] }
  | _ => none }
def SchemeKeepsWrongFalsely : Prop := schemeKeepsRow.holds Try.pinned (OpenSpec.ofChange schemeKeepsWrong)

/-- 'trammellaw12.SchemeTakes': WHATEVER THE INPUT: true; the input reads as it did. -/
def schemeTakesSpec : ChangeSpec := { name := "schemeTakes", fn := fun _ => fun
  | [d1, d2] => { results := [.lit (.bool true)], args := [d1, d2] }
  | _ => none }
def schemeTakesRow : OpenClaim := { program := "ytlfillhffpiffaa", sum := "d113a4a842e06d74c642b0e69c42e1b27de0fa69225c63bf0027e3f835a4c167", func := "trammel/trammellaw12.SchemeTakes", spec := "schemeTakes", inPlace := ["internal/reflectlite.TypeOf"], unfollowed := true, recurses := true, apart := false }
def SchemeTakesSaid : Prop := schemeTakesRow.holds Try.pinned (OpenSpec.ofChange schemeTakesSpec)

/-- ITS FALSE NEIGHBOUR: 'it returns false'. Refute it at one input. -/
def schemeTakesWrong : ChangeSpec := { name := "schemeTakes", fn := fun _ => fun
  | [d1, d2] => { results := [.lit (.bool false)], args := [d1, d2] }
  | _ => none }
def SchemeTakesWrongFalsely : Prop := schemeTakesRow.holds Try.pinned (OpenSpec.ofChange schemeTakesWrong)

/-- 'trammellaw10.Unifies': WHATEVER THE INPUT: true; the input reads as it did. -/
def unifiesSpec : ChangeSpec := { name := "unifies", fn := fun _ => fun
  | [d1, d2, d3] => { results := [.lit (.bool true)], args := [d1, d2, d3] }
  | _ => none }
def unifiesRow : OpenClaim := { program := "ytlfillhffpiffaa", sum := "d113a4a842e06d74c642b0e69c42e1b27de0fa69225c63bf0027e3f835a4c167", func := "trammel/trammellaw10.Unifies", spec := "unifies", inPlace := ["internal/reflectlite.TypeOf"], unfollowed := true, recurses := true, apart := false }
def UnifiesSaid : Prop := unifiesRow.holds Try.pinned (OpenSpec.ofChange unifiesSpec)

/-- ITS FALSE NEIGHBOUR: 'it returns false'. Refute it at one input. -/
def unifiesWrong : ChangeSpec := { name := "unifies", fn := fun _ => fun
  | [d1, d2, d3] => { results := [.lit (.bool false)], args := [d1, d2, d3] }
  | _ => none }
def UnifiesWrongFalsely : Prop := unifiesRow.holds Try.pinned (OpenSpec.ofChange unifiesWrong)

/-- 'trammellaw10.UnifySelf': WHATEVER THE INPUT: true; the input reads as it did. -/
def unifySelfSpec : ChangeSpec := { name := "unifySelf", fn := fun _ => fun
  | [d1, d2] => { results := [.lit (.bool true)], args := [d1, d2] }
  | _ => none }
def unifySelfRow : OpenClaim := { program := "ytlfillhffpiffaa", sum := "d113a4a842e06d74c642b0e69c42e1b27de0fa69225c63bf0027e3f835a4c167", func := "trammel/trammellaw10.UnifySelf", spec := "unifySelf", inPlace := ["internal/reflectlite.TypeOf"], unfollowed := true, recurses := true, apart := false }
def UnifySelfSaid : Prop := unifySelfRow.holds Try.pinned (OpenSpec.ofChange unifySelfSpec)

/-- ITS FALSE NEIGHBOUR: 'it returns false'. Refute it at one input. -/
def unifySelfWrong : ChangeSpec := { name := "unifySelf", fn := fun _ => fun
  | [d1, d2] => { results := [.lit (.bool false)], args := [d1, d2] }
  | _ => none }
def UnifySelfWrongFalsely : Prop := unifySelfRow.holds Try.pinned (OpenSpec.ofChange unifySelfWrong)

/-- 'trammellaw10.UnifyForms': WHATEVER THE INPUT: true; the input reads as it did. -/
def unifyFormsSpec : ChangeSpec := { name := "unifyForms", fn := fun _ => fun
  | [d1, d2] => { results := [.lit (.bool true)], args := [d1, d2] }
  | _ => none }
def unifyFormsRow : OpenClaim := { program := "ytlfillhffpiffaa", sum := "d113a4a842e06d74c642b0e69c42e1b27de0fa69225c63bf0027e3f835a4c167", func := "trammel/trammellaw10.UnifyForms", spec := "unifyForms", inPlace := ["internal/reflectlite.TypeOf"], unfollowed := true, recurses := true, apart := false }
def UnifyFormsSaid : Prop := unifyFormsRow.holds Try.pinned (OpenSpec.ofChange unifyFormsSpec)

/-- ITS FALSE NEIGHBOUR: 'it returns false'. Refute it at one input. -/
def unifyFormsWrong : ChangeSpec := { name := "unifyForms", fn := fun _ => fun
  | [d1, d2] => { results := [.lit (.bool false)], args := [d1, d2] }
  | _ => none }
def UnifyFormsWrongFalsely : Prop := unifyFormsRow.holds Try.pinned (OpenSpec.ofChange unifyFormsWrong)

/-- 'trammellaw12.SchemeOwn': WHATEVER THE INPUT: true; the input reads as it did. -/
def schemeOwnSpec : ChangeSpec := { name := "schemeOwn", fn := fun _ => fun
  | [d1, d2, d3, d4, d5] => { results := [.lit (.bool true)], args := [d1, d2, d3, d4, d5] }
  | _ => none }
def schemeOwnRow : OpenClaim := { program := "ytlfillhffpiffaa", sum := "d113a4a842e06d74c642b0e69c42e1b27de0fa69225c63bf0027e3f835a4c167", func := "trammel/trammellaw12.SchemeOwn", spec := "schemeOwn", inPlace := ["internal/reflectlite.TypeOf"], unfollowed := true, recurses := true, apart := false }
def SchemeOwnSaid : Prop := schemeOwnRow.holds Try.pinned (OpenSpec.ofChange schemeOwnSpec)

/-- ITS FALSE NEIGHBOUR: 'it returns false'. Refute it at one input. -/
def schemeOwnWrong : ChangeSpec := { name := "schemeOwn", fn := fun _ => fun
  | [d1, d2, d3, d4, d5] => { results := [.lit (.bool false)], args := [d1, d2, d3, d4, d5] }
  | _ => none }
def SchemeOwnWrongFalsely : Prop := schemeOwnRow.holds Try.pinned (OpenSpec.ofChange schemeOwnWrong)

/-- 'trammellaw10.UnifySolves': WHATEVER THE INPUT: true; the input reads as it did. -/
def unifySolvesSpec : ChangeSpec := { name := "unifySolves", fn := fun _ => fun
  | [d1, d2] => { results := [.lit (.bool true)], args := [d1, d2] }
  | _ => none }
def unifySolvesRow : OpenClaim := { program := "ytlfillhffpiffaa", sum := "d113a4a842e06d74c642b0e69c42e1b27de0fa69225c63bf0027e3f835a4c167", func := "trammel/trammellaw10.UnifySolves", spec := "unifySolves", inPlace := ["internal/reflectlite.TypeOf"], unfollowed := true, recurses := true, apart := false }
def UnifySolvesSaid : Prop := unifySolvesRow.holds Try.pinned (OpenSpec.ofChange unifySolvesSpec)

/-- ITS FALSE NEIGHBOUR: 'it returns false'. Refute it at one input. -/
def unifySolvesWrong : ChangeSpec := { name := "unifySolves", fn := fun _ => fun
  | [d1, d2] => { results := [.lit (.bool false)], args := [d1, d2] }
  | _ => none }
def UnifySolvesWrongFalsely : Prop := unifySolvesRow.holds Try.pinned (OpenSpec.ofChange unifySolvesWrong)

/-- 'trammellaw10.UnifyFinds': WHATEVER THE INPUT: true; the input reads as it did. -/
def unifyFindsSpec : ChangeSpec := { name := "unifyFinds", fn := fun _ => fun
  | [d1, d2, d3] => { results := [.lit (.bool true)], args := [d1, d2, d3] }
  | _ => none }
def unifyFindsRow : OpenClaim := { program := "ytlfillhffpiffaa", sum := "d113a4a842e06d74c642b0e69c42e1b27de0fa69225c63bf0027e3f835a4c167", func := "trammel/trammellaw10.UnifyFinds", spec := "unifyFinds", inPlace := ["internal/reflectlite.TypeOf"], unfollowed := true, recurses := true, apart := false }
def UnifyFindsSaid : Prop := unifyFindsRow.holds Try.pinned (OpenSpec.ofChange unifyFindsSpec)

/-- ITS FALSE NEIGHBOUR: 'it returns false'. Refute it at one input. -/
def unifyFindsWrong : ChangeSpec := { name := "unifyFinds", fn := fun _ => fun
  | [d1, d2, d3] => { results := [.lit (.bool false)], args := [d1, d2, d3] }
  | _ => none }
def UnifyFindsWrongFalsely : Prop := unifyFindsRow.holds Try.pinned (OpenSpec.ofChange unifyFindsWrong)

/-- 'trammellaw10.UnifySwap': WHATEVER THE INPUT: true; the input reads as it did. -/
def unifySwapSpec : ChangeSpec := { name := "unifySwap", fn := fun _ => fun
  | [d1, d2] => { results := [.lit (.bool true)], args := [d1, d2] }
  | _ => none }
def unifySwapRow : OpenClaim := { program := "ytlfillhffpiffaa", sum := "d113a4a842e06d74c642b0e69c42e1b27de0fa69225c63bf0027e3f835a4c167", func := "trammel/trammellaw10.UnifySwap", spec := "unifySwap", inPlace := ["internal/reflectlite.TypeOf"], unfollowed := true, recurses := true, apart := false }
def UnifySwapSaid : Prop := unifySwapRow.holds Try.pinned (OpenSpec.ofChange unifySwapSpec)

/-- ITS FALSE NEIGHBOUR: 'it returns false'. Refute it at one input. -/
def unifySwapWrong : ChangeSpec := { name := "unifySwap", fn := fun _ => fun
  | [d1, d2] => { results := [.lit (.bool false)], args := [d1, d2] }
  | _ => none }
def UnifySwapWrongFalsely : Prop := unifySwapRow.holds Try.pinned (OpenSpec.ofChange unifySwapWrong)

/- THE SECOND FORM. 'bulk': how many values and letters a reading holds, each counted each time it is reached (what is shared counts as often as it is met; a slice's spare places count too). A statement '..UptoSaid' is the law's where the arguments, and the package variables that the reading takes, are together of bulk at most 1048576: NARROWER than '..Said'. Prove '..Said' where nothing that the law and all that it calls make is longer than what came in: it says more and counts as full. Else prove '..UptoSaid'. A law counts once. -/
mutual
def uptoBulk {H : Type} : DataW H → Nat
  | .lit (.string bytes) => bytes.length + 1
  | .lit _ => 1
  | .nil => 1
  | .ptr d => uptoBulk d + 1
  | .slice elems spare => uptoBulkAll elems + uptoBulkAll spare + 1
  | .agg parts => uptoBulkAll parts + 1
  | .iface _ d => uptoBulk d + 1
  | .map entries => uptoBulkEntries entries + 1
  | .held _ => 1
def uptoBulkAll {H : Type} : List (DataW H) → Nat
  | [] => 0
  | d :: r => uptoBulk d + uptoBulkAll r
def uptoBulkEntries {H : Type} : List (Lit × DataW H) → Nat
  | [] => 0
  | x :: r => uptoBulkEntry x + uptoBulkEntries r
def uptoBulkEntry {H : Type} : Lit × DataW H → Nat
  | (.string bytes, d) => bytes.length + uptoBulk d + 1
  | (_, d) => uptoBulk d + 1
 end
def uptoSmall : (H : Type) → List (DataW H) → Bool := fun _ ds => decide (uptoBulkAll ds ≤ 1048576)
def OpenSpec.upto (s : _root_.Go.ChangeSpec) : _root_.Go.OpenSpec := { _root_.Go.OpenSpec.ofChange s with cond := some uptoSmall }

/-- 'trammellaw9.Substs', WHERE WHAT IT READS IS OF BULK AT MOST 1048576: true; the input reads as it did. -/
def substsUptoRow : OpenClaim := { program := "ytlfillhffpiffaa", sum := "d113a4a842e06d74c642b0e69c42e1b27de0fa69225c63bf0027e3f835a4c167", func := "trammel/trammellaw9.Substs", spec := "substs", unfollowed := true, recurses := true, apart := false, narrowed := true }
def SubstsUptoSaid : Prop := substsUptoRow.holds Try.pinned (OpenSpec.upto substsSpec)

/-- 'trammellaw9.SubstNone', WHERE WHAT IT READS IS OF BULK AT MOST 1048576: true; the input reads as it did. -/
def substNoneUptoRow : OpenClaim := { program := "ytlfillhffpiffaa", sum := "d113a4a842e06d74c642b0e69c42e1b27de0fa69225c63bf0027e3f835a4c167", func := "trammel/trammellaw9.SubstNone", spec := "substNone", unfollowed := true, recurses := true, apart := false, narrowed := true }
def SubstNoneUptoSaid : Prop := substNoneUptoRow.holds Try.pinned (OpenSpec.upto substNoneSpec)

/-- 'trammellaw9.SubstForms', WHERE WHAT IT READS IS OF BULK AT MOST 1048576: true; the input reads as it did. -/
def substFormsUptoRow : OpenClaim := { program := "ytlfillhffpiffaa", sum := "d113a4a842e06d74c642b0e69c42e1b27de0fa69225c63bf0027e3f835a4c167", func := "trammel/trammellaw9.SubstForms", spec := "substForms", unfollowed := true, recurses := true, apart := false, narrowed := true }
def SubstFormsUptoSaid : Prop := substFormsUptoRow.holds Try.pinned (OpenSpec.upto substFormsSpec)

/-- 'trammellaw9.SubstFirst', WHERE WHAT IT READS IS OF BULK AT MOST 1048576: true; the input reads as it did. -/
def substFirstUptoRow : OpenClaim := { program := "ytlfillhffpiffaa", sum := "d113a4a842e06d74c642b0e69c42e1b27de0fa69225c63bf0027e3f835a4c167", func := "trammel/trammellaw9.SubstFirst", spec := "substFirst", unfollowed := true, recurses := true, apart := false, narrowed := true }
def SubstFirstUptoSaid : Prop := substFirstUptoRow.holds Try.pinned (OpenSpec.upto substFirstSpec)

/-- 'trammellaw12.Schemes', WHERE WHAT IT READS IS OF BULK AT MOST 1048576: true; the input reads as it did. -/
def schemesUptoRow : OpenClaim := { program := "ytlfillhffpiffaa", sum := "d113a4a842e06d74c642b0e69c42e1b27de0fa69225c63bf0027e3f835a4c167", func := "trammel/trammellaw12.Schemes", spec := "schemes", inPlace := ["internal/reflectlite.TypeOf"], unfollowed := true, recurses := true, apart := false, narrowed := true }
def SchemesUptoSaid : Prop := schemesUptoRow.holds Try.pinned (OpenSpec.upto schemesSpec)

/-- 'trammellaw12.SchemeForms', WHERE WHAT IT READS IS OF BULK AT MOST 1048576: true; the input reads as it did. -/
def schemeFormsUptoRow : OpenClaim := { program := "ytlfillhffpiffaa", sum := "d113a4a842e06d74c642b0e69c42e1b27de0fa69225c63bf0027e3f835a4c167", func := "trammel/trammellaw12.SchemeForms", spec := "schemeForms", inPlace := ["internal/reflectlite.TypeOf"], unfollowed := true, recurses := true, apart := false, narrowed := true }
def SchemeFormsUptoSaid : Prop := schemeFormsUptoRow.holds Try.pinned (OpenSpec.upto schemeFormsSpec)

/-- 'trammellaw12.SchemeKeeps', WHERE WHAT IT READS IS OF BULK AT MOST 1048576: true; the input reads as it did. -/
def schemeKeepsUptoRow : OpenClaim := { program := "ytlfillhffpiffaa", sum := "d113a4a842e06d74c642b0e69c42e1b27de0fa69225c63bf0027e3f835a4c167", func := "trammel/trammellaw12.SchemeKeeps", spec := "schemeKeeps", inPlace := ["internal/reflectlite.TypeOf"], unfollowed := true, recurses := true, apart := false, narrowed := true }
def SchemeKeepsUptoSaid : Prop := schemeKeepsUptoRow.holds Try.pinned (OpenSpec.upto schemeKeepsSpec)

/-- 'trammellaw12.SchemeTakes', WHERE WHAT IT READS IS OF BULK AT MOST 1048576: true; the input reads as it did. -/
def schemeTakesUptoRow : OpenClaim := { program := "ytlfillhffpiffaa", sum := "d113a4a842e06d74c642b0e69c42e1b27de0fa69225c63bf0027e3f835a4c167", func := "trammel/trammellaw12.SchemeTakes", spec := "schemeTakes", inPlace := ["internal/reflectlite.TypeOf"], unfollowed := true, recurses := true, apart := false, narrowed := true }
def SchemeTakesUptoSaid : Prop := schemeTakesUptoRow.holds Try.pinned (OpenSpec.upto schemeTakesSpec)

/-- 'trammellaw10.Unifies', WHERE WHAT IT READS IS OF BULK AT MOST 1048576: true; the input reads as it did. -/
def unifiesUptoRow : OpenClaim := { program := "ytlfillhffpiffaa", sum := "d113a4a842e06d74c642b0e69c42e1b27de0fa69225c63bf0027e3f835a4c167", func := "trammel/trammellaw10.Unifies", spec := "unifies", inPlace := ["internal/reflectlite.TypeOf"], unfollowed := true, recurses := true, apart := false, narrowed := true }
def UnifiesUptoSaid : Prop := unifiesUptoRow.holds Try.pinned (OpenSpec.upto unifiesSpec)

/-- 'trammellaw10.UnifySelf', WHERE WHAT IT READS IS OF BULK AT MOST 1048576: true; the input reads as it did. -/
def unifySelfUptoRow : OpenClaim := { program := "ytlfillhffpiffaa", sum := "d113a4a842e06d74c642b0e69c42e1b27de0fa69225c63bf0027e3f835a4c167", func := "trammel/trammellaw10.UnifySelf", spec := "unifySelf", inPlace := ["internal/reflectlite.TypeOf"], unfollowed := true, recurses := true, apart := false, narrowed := true }
def UnifySelfUptoSaid : Prop := unifySelfUptoRow.holds Try.pinned (OpenSpec.upto unifySelfSpec)

/-- 'trammellaw10.UnifyForms', WHERE WHAT IT READS IS OF BULK AT MOST 1048576: true; the input reads as it did. -/
def unifyFormsUptoRow : OpenClaim := { program := "ytlfillhffpiffaa", sum := "d113a4a842e06d74c642b0e69c42e1b27de0fa69225c63bf0027e3f835a4c167", func := "trammel/trammellaw10.UnifyForms", spec := "unifyForms", inPlace := ["internal/reflectlite.TypeOf"], unfollowed := true, recurses := true, apart := false, narrowed := true }
def UnifyFormsUptoSaid : Prop := unifyFormsUptoRow.holds Try.pinned (OpenSpec.upto unifyFormsSpec)

/-- 'trammellaw12.SchemeOwn', WHERE WHAT IT READS IS OF BULK AT MOST 1048576: true; the input reads as it did. -/
def schemeOwnUptoRow : OpenClaim := { program := "ytlfillhffpiffaa", sum := "d113a4a842e06d74c642b0e69c42e1b27de0fa69225c63bf0027e3f835a4c167", func := "trammel/trammellaw12.SchemeOwn", spec := "schemeOwn", inPlace := ["internal/reflectlite.TypeOf"], unfollowed := true, recurses := true, apart := false, narrowed := true }
def SchemeOwnUptoSaid : Prop := schemeOwnUptoRow.holds Try.pinned (OpenSpec.upto schemeOwnSpec)

/-- 'trammellaw10.UnifySolves', WHERE WHAT IT READS IS OF BULK AT MOST 1048576: true; the input reads as it did. -/
def unifySolvesUptoRow : OpenClaim := { program := "ytlfillhffpiffaa", sum := "d113a4a842e06d74c642b0e69c42e1b27de0fa69225c63bf0027e3f835a4c167", func := "trammel/trammellaw10.UnifySolves", spec := "unifySolves", inPlace := ["internal/reflectlite.TypeOf"], unfollowed := true, recurses := true, apart := false, narrowed := true }
def UnifySolvesUptoSaid : Prop := unifySolvesUptoRow.holds Try.pinned (OpenSpec.upto unifySolvesSpec)

/-- 'trammellaw10.UnifyFinds', WHERE WHAT IT READS IS OF BULK AT MOST 1048576: true; the input reads as it did. -/
def unifyFindsUptoRow : OpenClaim := { program := "ytlfillhffpiffaa", sum := "d113a4a842e06d74c642b0e69c42e1b27de0fa69225c63bf0027e3f835a4c167", func := "trammel/trammellaw10.UnifyFinds", spec := "unifyFinds", inPlace := ["internal/reflectlite.TypeOf"], unfollowed := true, recurses := true, apart := false, narrowed := true }
def UnifyFindsUptoSaid : Prop := unifyFindsUptoRow.holds Try.pinned (OpenSpec.upto unifyFindsSpec)

/-- 'trammellaw10.UnifySwap', WHERE WHAT IT READS IS OF BULK AT MOST 1048576: true; the input reads as it did. -/
def unifySwapUptoRow : OpenClaim := { program := "ytlfillhffpiffaa", sum := "d113a4a842e06d74c642b0e69c42e1b27de0fa69225c63bf0027e3f835a4c167", func := "trammel/trammellaw10.UnifySwap", spec := "unifySwap", inPlace := ["internal/reflectlite.TypeOf"], unfollowed := true, recurses := true, apart := false, narrowed := true }
def UnifySwapUptoSaid : Prop := unifySwapUptoRow.holds Try.pinned (OpenSpec.upto unifySwapSpec)

end Rows
end Go.Proofs.Ytlfillhffpiffaa
