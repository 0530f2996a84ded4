/-
  No cell of these rows narrows 'for every input' (looked for: loops, veiled, ifaces, maps, wideKeys, modest, calm, conditions, laid).
  DERIVED. THE GIVEN ROWS OF THIS SEAT. 7 by the template 'for every input the law returns true; each argument reads behind the call as it read before'; 0 by the template 'total and deterministic' (their statements: YtkniihjfcagdbaaTotals.lean).
  GIVEN WITH THE SEED: the statements are not yours to turn. If you find one false, say at which input.
  Laid BY PROGRAM, IN A SANDBOX (cutbox-rows.mjs): the forced cells as the released guide's own fill.sh prints them over the translation 2c3dec4c4792aab4… (all of the seat's roots in one cut). By AI agents, Wed Nov 11 2026. No macro, syntax, notation, axiom, sorry.
-/
import Derived.Test.YtkniihjfcagdbaaChecked
import GoSem.Claim
import GoSem.ClaimJoined
import GoSem.ClaimMapViews
import Derived.JoinedTies
import Derived.KernelRfl
namespace Go.Proofs.Ytkniihjfcagdbaa
/- THE CELL 'sum', in the pinned program and in every row, IS THE sha256 OF THE DUMP (.gsa) THAT YtkniihjfcagdbaaProg.lean LOADS. Nothing in Lean hashes anything: it is a label: what it is worth is what the hold of that sum in a sandbox is worth. -/
noncomputable def Try.pinned : Pinned := { name := "ytkniihjfcagdbaa", sum := "2c3dec4c4792aab457e66a3f8f799011366ac8b919f7aae4485c02a583830e2a", checked := Try.checked }
namespace Rows
def none {H : Type} : Left H := { results := [], args := [] }

/-- 'trammellaw0.TrammelNames': WHATEVER THE INPUT: true; the input reads as it did. -/
def trammelNamesSpec : ChangeSpec := { name := "trammelNames", fn := fun _ => fun
  | [] => { results := [.lit (.bool true)], args := [] }
  | _ => none }
def trammelNamesRow : OpenClaim := { program := "ytkniihjfcagdbaa", sum := "2c3dec4c4792aab457e66a3f8f799011366ac8b919f7aae4485c02a583830e2a", func := "trammel/trammellaw0.TrammelNames", spec := "trammelNames", apart := false }
def TrammelNamesSaid : Prop := trammelNamesRow.holds Try.pinned (OpenSpec.ofChange trammelNamesSpec)

/-- ITS FALSE NEIGHBOUR: 'it returns false'. Refute it at one input. -/
def trammelNamesWrong : ChangeSpec := { name := "trammelNames", fn := fun _ => fun
  | [] => { results := [.lit (.bool false)], args := [] }
  | _ => none }
def TrammelNamesWrongFalsely : Prop := trammelNamesRow.holds Try.pinned (OpenSpec.ofChange trammelNamesWrong)

/-- 'trammellaw22.Agrees': WHATEVER THE INPUT: true; the input reads as it did. -/
def agreesSpec : ChangeSpec := { name := "agrees", fn := fun _ => fun
  | [d1, d2, d3] => { results := [.lit (.bool true)], args := [d1, d2, d3] }
  | _ => none }
def agreesRow : OpenClaim := { program := "ytkniihjfcagdbaa", sum := "2c3dec4c4792aab457e66a3f8f799011366ac8b919f7aae4485c02a583830e2a", func := "trammel/trammellaw22.Agrees", spec := "agrees", apart := false }
def AgreesSaid : Prop := agreesRow.holds Try.pinned (OpenSpec.ofChange agreesSpec)

/-- ITS FALSE NEIGHBOUR: 'it returns false'. Refute it at one input. -/
def agreesWrong : ChangeSpec := { name := "agrees", fn := fun _ => fun
  | [d1, d2, d3] => { results := [.lit (.bool false)], args := [d1, d2, d3] }
  | _ => none }
def AgreesWrongFalsely : Prop := agreesRow.holds Try.pinned (OpenSpec.ofChange agreesWrong)

/-- 'trammellaw22.AgreeBoth': WHATEVER THE INPUT: true; the input reads as it did. -/
def agreeBothSpec : ChangeSpec := { name := "agreeBoth", fn := fun _ => fun
  | [d1, d2, d3] => { results := [.lit (.bool true)], args := [d1, d2, d3] }
  | _ => none }
def agreeBothRow : OpenClaim := { program := "ytkniihjfcagdbaa", sum := "2c3dec4c4792aab457e66a3f8f799011366ac8b919f7aae4485c02a583830e2a", func := "trammel/trammellaw22.AgreeBoth", spec := "agreeBoth", apart := false }
def AgreeBothSaid : Prop := agreeBothRow.holds Try.pinned (OpenSpec.ofChange agreeBothSpec)

/-- ITS FALSE NEIGHBOUR: 'it returns false'. Refute it at one input. -/
def agreeBothWrong : ChangeSpec := { name := "agreeBoth", fn := fun _ => fun
  | [d1, d2, d3] => { results := [.lit (.bool false)], args := [d1, d2, d3] }
  | _ => none }
def AgreeBothWrongFalsely : Prop := agreeBothRow.holds Try.pinned (OpenSpec.ofChange agreeBothWrong)

/-- 'trammellaw22.AgreeForms': WHATEVER THE INPUT: true; the input reads as it did. -/
def agreeFormsSpec : ChangeSpec := { name := "agreeForms", fn := fun _ => fun
  | [d1, d2] => { results := [.lit (.bool true)], args := [d1, d2] }
  | _ => none }
def agreeFormsRow : OpenClaim := { program := "ytkniihjfcagdbaa", sum := "2c3dec4c4792aab457e66a3f8f799011366ac8b919f7aae4485c02a583830e2a", func := "trammel/trammellaw22.AgreeForms", spec := "agreeForms", apart := false }
def AgreeFormsSaid : Prop := agreeFormsRow.holds Try.pinned (OpenSpec.ofChange agreeFormsSpec)

/-- ITS FALSE NEIGHBOUR: 'it returns false'. Refute it at one input. -/
def agreeFormsWrong : ChangeSpec := { name := "agreeForms", fn := fun _ => fun
  | [d1, d2] => { results := [.lit (.bool false)], args := [d1, d2] }
  | _ => none }
def AgreeFormsWrongFalsely : Prop := agreeFormsRow.holds Try.pinned (OpenSpec.ofChange agreeFormsWrong)

/-- 'trammellaw19.Targets': WHATEVER THE INPUT: true; the input reads as it did. -/
def targetsSpec : ChangeSpec := { name := "targets", fn := fun _ => fun
  | [d] => { results := [.lit (.bool true)], args := [d] }
  | _ => none }
def targetsRow : OpenClaim := { program := "ytkniihjfcagdbaa", sum := "2c3dec4c4792aab457e66a3f8f799011366ac8b919f7aae4485c02a583830e2a", func := "trammel/trammellaw19.Targets", spec := "targets", unfollowed := true, recurses := true, apart := false }
def TargetsSaid : Prop := targetsRow.holds Try.pinned (OpenSpec.ofChange targetsSpec)

/-- ITS FALSE NEIGHBOUR: 'it returns false'. Refute it at one input. -/
def targetsWrong : ChangeSpec := { name := "targets", fn := fun _ => fun
  | [d] => { results := [.lit (.bool false)], args := [d] }
  | _ => none }
def TargetsWrongFalsely : Prop := targetsRow.holds Try.pinned (OpenSpec.ofChange targetsWrong)

/-- 'trammellaw19.TargetForms': WHATEVER THE INPUT: true; the input reads as it did. -/
def targetFormsSpec : ChangeSpec := { name := "targetForms", fn := fun _ => fun
  | [d1, d2] => { results := [.lit (.bool true)], args := [d1, d2] }
  | _ => none }
def targetFormsRow : OpenClaim := { program := "ytkniihjfcagdbaa", sum := "2c3dec4c4792aab457e66a3f8f799011366ac8b919f7aae4485c02a583830e2a", func := "trammel/trammellaw19.TargetForms", spec := "targetForms", unfollowed := true, recurses := true, apart := false }
def TargetFormsSaid : Prop := targetFormsRow.holds Try.pinned (OpenSpec.ofChange targetFormsSpec)

/-- ITS FALSE NEIGHBOUR: 'it returns false'. Refute it at one input. -/
def targetFormsWrong : ChangeSpec := { name := "targetForms", fn := fun _ => fun
  | [d1, d2] => { results := [.lit (.bool false)], args := [d1, d2] }
  | _ => none }
def TargetFormsWrongFalsely : Prop := targetFormsRow.holds Try.pinned (OpenSpec.ofChange targetFormsWrong)

/-- 'trammellaw19.TargetNest': WHATEVER THE INPUT: true; the input reads as it did. -/
def targetNestSpec : ChangeSpec := { name := "targetNest", fn := fun _ => fun
  | [d1, d2] => { results := [.lit (.bool true)], args := [d1, d2] }
  | _ => none }
def targetNestRow : OpenClaim := { program := "ytkniihjfcagdbaa", sum := "2c3dec4c4792aab457e66a3f8f799011366ac8b919f7aae4485c02a583830e2a", func := "trammel/trammellaw19.TargetNest", spec := "targetNest", unfollowed := true, recurses := true, apart := false }
def TargetNestSaid : Prop := targetNestRow.holds Try.pinned (OpenSpec.ofChange targetNestSpec)

/-- ITS FALSE NEIGHBOUR: 'it returns false'. Refute it at one input. -/
def targetNestWrong : ChangeSpec := { name := "targetNest", fn := fun _ => fun
  | [d1, d2] => { results := [.lit (.bool false)], args := [d1, d2] }
  | _ => none }
def TargetNestWrongFalsely : Prop := targetNestRow.holds Try.pinned (OpenSpec.ofChange targetNestWrong)

/- THE SECOND FORM. 'bulk': how many values and letters a reading holds, each counted each time it is reached (what is shared counts as often as it is met; a slice's spare places count too). A statement '..UptoSaid' is the law's where the arguments, and the package variables that the reading takes, are together of bulk at most 1048576: NARROWER than '..Said'. Prove '..Said' where nothing that the law and all that it calls make is longer than what came in: it says more and counts as full. Else prove '..UptoSaid'. A law counts once. -/
mutual
def uptoBulk {H : Type} : DataW H → Nat
  | .lit (.string bytes) => bytes.length + 1
  | .lit _ => 1
  | .nil => 1
  | .ptr d => uptoBulk d + 1
  | .slice elems spare => uptoBulkAll elems + uptoBulkAll spare + 1
  | .agg parts => uptoBulkAll parts + 1
  | .iface _ d => uptoBulk d + 1
  | .map entries => uptoBulkEntries entries + 1
  | .held _ => 1
def uptoBulkAll {H : Type} : List (DataW H) → Nat
  | [] => 0
  | d :: r => uptoBulk d + uptoBulkAll r
def uptoBulkEntries {H : Type} : List (Lit × DataW H) → Nat
  | [] => 0
  | x :: r => uptoBulkEntry x + uptoBulkEntries r
def uptoBulkEntry {H : Type} : Lit × DataW H → Nat
  | (.string bytes, d) => bytes.length + uptoBulk d + 1
  | (_, d) => uptoBulk d + 1
 end
def uptoSmall : (H : Type) → List (DataW H) → Bool := fun _ ds => decide (uptoBulkAll ds ≤ 1048576)
def OpenSpec.upto (s : _root_.Go.ChangeSpec) : _root_.Go.OpenSpec := { _root_.Go.OpenSpec.ofChange s with cond := some uptoSmall }

/-- 'trammellaw0.TrammelNames', WHERE WHAT IT READS IS OF BULK AT MOST 1048576: true; the input reads as it did. -/
def trammelNamesUptoRow : OpenClaim := { program := "ytkniihjfcagdbaa", sum := "2c3dec4c4792aab457e66a3f8f799011366ac8b919f7aae4485c02a583830e2a", func := "trammel/trammellaw0.TrammelNames", spec := "trammelNames", apart := false, narrowed := true }
def TrammelNamesUptoSaid : Prop := trammelNamesUptoRow.holds Try.pinned (OpenSpec.upto trammelNamesSpec)

/-- 'trammellaw22.Agrees', WHERE WHAT IT READS IS OF BULK AT MOST 1048576: true; the input reads as it did. -/
def agreesUptoRow : OpenClaim := { program := "ytkniihjfcagdbaa", sum := "2c3dec4c4792aab457e66a3f8f799011366ac8b919f7aae4485c02a583830e2a", func := "trammel/trammellaw22.Agrees", spec := "agrees", apart := false, narrowed := true }
def AgreesUptoSaid : Prop := agreesUptoRow.holds Try.pinned (OpenSpec.upto agreesSpec)

/-- 'trammellaw22.AgreeBoth', WHERE WHAT IT READS IS OF BULK AT MOST 1048576: true; the input reads as it did. -/
def agreeBothUptoRow : OpenClaim := { program := "ytkniihjfcagdbaa", sum := "2c3dec4c4792aab457e66a3f8f799011366ac8b919f7aae4485c02a583830e2a", func := "trammel/trammellaw22.AgreeBoth", spec := "agreeBoth", apart := false, narrowed := true }
def AgreeBothUptoSaid : Prop := agreeBothUptoRow.holds Try.pinned (OpenSpec.upto agreeBothSpec)

/-- 'trammellaw22.AgreeForms', WHERE WHAT IT READS IS OF BULK AT MOST 1048576: true; the input reads as it did. -/
def agreeFormsUptoRow : OpenClaim := { program := "ytkniihjfcagdbaa", sum := "2c3dec4c4792aab457e66a3f8f799011366ac8b919f7aae4485c02a583830e2a", func := "trammel/trammellaw22.AgreeForms", spec := "agreeForms", apart := false, narrowed := true }
def AgreeFormsUptoSaid : Prop := agreeFormsUptoRow.holds Try.pinned (OpenSpec.upto agreeFormsSpec)

/-- 'trammellaw19.Targets', WHERE WHAT IT READS IS OF BULK AT MOST 1048576: true; the input reads as it did. -/
def targetsUptoRow : OpenClaim := { program := "ytkniihjfcagdbaa", sum := "2c3dec4c4792aab457e66a3f8f799011366ac8b919f7aae4485c02a583830e2a", func := "trammel/trammellaw19.Targets", spec := "targets", unfollowed := true, recurses := true, apart := false, narrowed := true }
def TargetsUptoSaid : Prop := targetsUptoRow.holds Try.pinned (OpenSpec.upto targetsSpec)

/-- 'trammellaw19.TargetForms', WHERE WHAT IT READS IS OF BULK AT MOST 1048576: true; the input reads as it did. -/
def targetFormsUptoRow : OpenClaim := { program := "ytkniihjfcagdbaa", sum := "2c3dec4c4792aab457e66a3f8f799011366ac8b919f7aae4485c02a583830e2a", func := "trammel/trammellaw19.TargetForms", spec := "targetForms", unfollowed := true, recurses := true, apart := false, narrowed := true }
def TargetFormsUptoSaid : Prop := targetFormsUptoRow.holds Try.pinned (OpenSpec.upto targetFormsSpec)

/-- 'trammellaw19.TargetNest', WHERE WHAT IT READS IS OF BULK AT MOST 1048576: true; the input reads as it did. -/
def targetNestUptoRow : OpenClaim := { program := "ytkniihjfcagdbaa", sum := "2c3dec4c4792aab457e66a3f8f799011366ac8b919f7aae4485c02a583830e2a", func := "trammel/trammellaw19.TargetNest", spec := "targetNest", unfollowed := true, recurses := true, apart := false, narrowed := true }
def TargetNestUptoSaid : Prop := targetNestUptoRow.holds Try.pinned (OpenSpec.upto targetNestSpec)

end Rows
end Go.Proofs.Ytkniihjfcagdbaa
