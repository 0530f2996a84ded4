/-
  No cell of these rows narrows 'for every input' (looked for: loops, veiled, ifaces, maps, wideKeys, modest, calm, conditions, laid).
  DERIVED. THE GIVEN ROWS OF THIS SEAT. 4 by the template 'for every input the law returns true; each argument reads behind the call as it read before'; 0 by the template 'total and deterministic' (their statements: YtjhkmebmbopfoaaTotals.lean).
  GIVEN WITH THE SEED: the statements are not yours to turn. If you find one false, say at which input.
  Laid BY PROGRAM, IN A SANDBOX (cutbox-rows.mjs): the forced cells as the released guide's own fill.sh prints them over the translation edaebb34ddcbd962… (all of the seat's roots in one cut). By AI agents, Wed Nov 11 2026. No macro, syntax, notation, axiom, sorry.
-/
import Derived.Test.YtjhkmebmbopfoaaChecked
import GoSem.Claim
import GoSem.ClaimJoined
import GoSem.ClaimMapViews
import Derived.JoinedTies
import Derived.KernelRfl
namespace Go.Proofs.Ytjhkmebmbopfoaa
/- THE CELL 'sum', in the pinned program and in every row, IS THE sha256 OF THE DUMP (.gsa) THAT YtjhkmebmbopfoaaProg.lean LOADS. Nothing in Lean hashes anything: it is a label: what it is worth is what the hold of that sum in a sandbox is worth. -/
noncomputable def Try.pinned : Pinned := { name := "ytjhkmebmbopfoaa", sum := "edaebb34ddcbd962dee566f38b6571482a55c2068b8c8ab3d15c2304af32a6ee", checked := Try.checked }
namespace Rows
def none {H : Type} : Left H := { results := [], args := [] }

/-- 'trammellaw21.Targeted': WHATEVER THE INPUT: true; the input reads as it did. -/
def targetedSpec : ChangeSpec := { name := "targeted", fn := fun _ => fun
  | [d1, d2] => { results := [.lit (.bool true)], args := [d1, d2] }
  | _ => none }
def targetedRow : OpenClaim := { program := "ytjhkmebmbopfoaa", sum := "edaebb34ddcbd962dee566f38b6571482a55c2068b8c8ab3d15c2304af32a6ee", func := "trammel/trammellaw21.Targeted", spec := "targeted", unfollowed := true, recurses := true, apart := false }
def TargetedSaid : Prop := targetedRow.holds Try.pinned (OpenSpec.ofChange targetedSpec)

/-- ITS FALSE NEIGHBOUR: 'it returns false'. Refute it at one input. -/
def targetedWrong : ChangeSpec := { name := "targeted", fn := fun _ => fun
  | [d1, d2] => { results := [.lit (.bool false)], args := [d1, d2] }
  | _ => none }
def TargetedWrongFalsely : Prop := targetedRow.holds Try.pinned (OpenSpec.ofChange targetedWrong)

/-- 'trammellaw21.TargetFuel': WHATEVER THE INPUT: true; the input reads as it did. -/
def targetFuelSpec : ChangeSpec := { name := "targetFuel", fn := fun _ => fun
  | [d1, d2, d3] => { results := [.lit (.bool true)], args := [d1, d2, d3] }
  | _ => none }
def targetFuelRow : OpenClaim := { program := "ytjhkmebmbopfoaa", sum := "edaebb34ddcbd962dee566f38b6571482a55c2068b8c8ab3d15c2304af32a6ee", func := "trammel/trammellaw21.TargetFuel", spec := "targetFuel", unfollowed := true, recurses := true, apart := false }
def TargetFuelSaid : Prop := targetFuelRow.holds Try.pinned (OpenSpec.ofChange targetFuelSpec)

/-- ITS FALSE NEIGHBOUR: 'it returns false'. Refute it at one input. -/
def targetFuelWrong : ChangeSpec := { name := "targetFuel", fn := fun _ => fun
  | [d1, d2, d3] => { results := [.lit (.bool false)], args := [d1, d2, d3] }
  | _ => none }
def TargetFuelWrongFalsely : Prop := targetFuelRow.holds Try.pinned (OpenSpec.ofChange targetFuelWrong)

/-- 'trammellaw21.TargetTexts': WHATEVER THE INPUT: true; the input reads as it did. -/
def targetTextsSpec : ChangeSpec := { name := "targetTexts", fn := fun _ => fun
  | [d1, d2] => { results := [.lit (.bool true)], args := [d1, d2] }
  | _ => none }
def targetTextsRow : OpenClaim := { program := "ytjhkmebmbopfoaa", sum := "edaebb34ddcbd962dee566f38b6571482a55c2068b8c8ab3d15c2304af32a6ee", func := "trammel/trammellaw21.TargetTexts", spec := "targetTexts", unfollowed := true, recurses := true, apart := false }
def TargetTextsSaid : Prop := targetTextsRow.holds Try.pinned (OpenSpec.ofChange targetTextsSpec)

/-- ITS FALSE NEIGHBOUR: 'it returns false'. Refute it at one input. -/
def targetTextsWrong : ChangeSpec := { name := "targetTexts", fn := fun _ => fun
  | [d1, d2] => { results := [.lit (.bool false)], args := [d1, d2] }
  | _ => none }
def TargetTextsWrongFalsely : Prop := targetTextsRow.holds Try.pinned (OpenSpec.ofChange targetTextsWrong)

/-- 'trammellaw21.TargetRises': WHATEVER THE INPUT: true; the input reads as it did. -/
def targetRisesSpec : ChangeSpec := { name := "targetRises", fn := fun _ => fun
  | [d1, d2] => { results := [.lit (.bool true)], args := [d1, d2] }
  | _ => none }
def targetRisesRow : OpenClaim := { program := "ytjhkmebmbopfoaa", sum := "edaebb34ddcbd962dee566f38b6571482a55c2068b8c8ab3d15c2304af32a6ee", func := "trammel/trammellaw21.TargetRises", spec := "targetRises", unfollowed := true, recurses := true, apart := false }
def TargetRisesSaid : Prop := targetRisesRow.holds Try.pinned (OpenSpec.ofChange targetRisesSpec)

/-- ITS FALSE NEIGHBOUR: 'it returns false'. Refute it at one input. -/
def targetRisesWrong : ChangeSpec := { name := "targetRises", fn := fun _ => fun
  | [d1, d2] => { results := [.lit (.bool false)], args := [d1, d2] }
  | _ => none }
def TargetRisesWrongFalsely : Prop := targetRisesRow.holds Try.pinned (OpenSpec.ofChange targetRisesWrong)

/- THE SECOND FORM. 'bulk': how many values and letters a reading holds, each counted each time it is reached (what is shared counts as often as it is met; a slice's spare places count too). A statement '..UptoSaid' is the law's where the arguments, and the package variables that the reading takes, are together of bulk at most 1048576: NARROWER than '..Said'. Prove '..Said' where nothing that the law and all that it calls make is longer than what came in: it says more and counts as full. Else prove '..UptoSaid'. A law counts once. -/
mutual
def uptoBulk {H : Type} : DataW H → Nat
  | .lit (.string bytes) => bytes.length + 1
  | .lit _ => 1
  | .nil => 1
  | .ptr d => uptoBulk d + 1
  | .slice elems spare => uptoBulkAll elems + uptoBulkAll spare + 1
  | .agg parts => uptoBulkAll parts + 1
  | .iface _ d => uptoBulk d + 1
  | .map entries => uptoBulkEntries entries + 1
  | .held _ => 1
def uptoBulkAll {H : Type} : List (DataW H) → Nat
  | [] => 0
  | d :: r => uptoBulk d + uptoBulkAll r
def uptoBulkEntries {H : Type} : List (Lit × DataW H) → Nat
  | [] => 0
  | x :: r => uptoBulkEntry x + uptoBulkEntries r
def uptoBulkEntry {H : Type} : Lit × DataW H → Nat
  | (.string bytes, d) => bytes.length + uptoBulk d + 1
  | (_, d) => uptoBulk d + 1
 end
def uptoSmall : (H : Type) → List (DataW H) → Bool := fun _ ds => decide (uptoBulkAll ds ≤ 1048576)
def OpenSpec.upto (s : _root_.Go.ChangeSpec) : _root_.Go.OpenSpec := { _root_.Go.OpenSpec.ofChange s with cond := some uptoSmall }

/-- 'trammellaw21.Targeted', WHERE WHAT IT READS IS OF BULK AT MOST 1048576: true; the input reads as it did. -/
def targetedUptoRow : OpenClaim := { program := "ytjhkmebmbopfoaa", sum := "edaebb34ddcbd962dee566f38b6571482a55c2068b8c8ab3d15c2304af32a6ee", func := "trammel/trammellaw21.Targeted", spec := "targeted", unfollowed := true, recurses := true, apart := false, narrowed := true }
def TargetedUptoSaid : Prop := targetedUptoRow.holds Try.pinned (OpenSpec.upto targetedSpec)

/-- 'trammellaw21.TargetFuel', WHERE WHAT IT READS IS OF BULK AT MOST 1048576: true; the input reads as it did. -/
def targetFuelUptoRow : OpenClaim := { program := "ytjhkmebmbopfoaa", sum := "edaebb34ddcbd962dee566f38b6571482a55c2068b8c8ab3d15c2304af32a6ee", func := "trammel/trammellaw21.TargetFuel", spec := "targetFuel", unfollowed := true, recurses := true, apart := false, narrowed := true }
def TargetFuelUptoSaid : Prop := targetFuelUptoRow.holds Try.pinned (OpenSpec.upto targetFuelSpec)

/-- 'trammellaw21.TargetTexts', WHERE WHAT IT READS IS OF BULK AT MOST 1048576: true; the input reads as it did. -/
def targetTextsUptoRow : OpenClaim := { program := "ytjhkmebmbopfoaa", sum := "edaebb34ddcbd962dee566f38b6571482a55c2068b8c8ab3d15c2304af32a6ee", func := "trammel/trammellaw21.TargetTexts", spec := "targetTexts", unfollowed := true, recurses := true, apart := false, narrowed := true }
def TargetTextsUptoSaid : Prop := targetTextsUptoRow.holds Try.pinned (OpenSpec.upto targetTextsSpec)

/-- 'trammellaw21.TargetRises', WHERE WHAT IT READS IS OF BULK AT MOST 1048576: true; the input reads as it did. -/
def targetRisesUptoRow : OpenClaim := { program := "ytjhkmebmbopfoaa", sum := "edaebb34ddcbd962dee566f38b6571482a55c2068b8c8ab3d15c2304af32a6ee", func := "trammel/trammellaw21.TargetRises", spec := "targetRises", unfollowed := true, recurses := true, apart := false, narrowed := true }
def TargetRisesUptoSaid : Prop := targetRisesUptoRow.holds Try.pinned (OpenSpec.upto targetRisesSpec)

end Rows
end Go.Proofs.Ytjhkmebmbopfoaa
