/-
  What all cards of this seat share.
-/
import Derived.Test.YtjhkmebmbopfoaaDoorFxS
import Derived.Test.YtjhkmebmbopfoaaDoorProg
import Derived.Test.YtjhkmebmbopfoaaDoorRows
import Derived.Test.YtjhkmebmbopfoaaDoorCards
import Derived.Test.YtjhkmebmbopfoaaDoorTie
import Derived.ProofKit
import Derived.ChangeSame
import Derived.ChangeVars
import Derived.JoinedOf
import Derived.LaidLaws
import Derived.Handed
import Derived.SevenTiedAt
import Derived.SizedLaws
namespace Go.Proofs.YtjhkmebmbopfoaaDoor
set_option linter.unusedSimpArgs false
set_option linter.unusedVariables false
set_option maxRecDepth 100000
open Go Go.Fx Go.Proofs

theorem own : ownKnob Tryd.prog.godebug = none := by kernel_rfl
theorem laidOut : laidOutB Tryd.prog = true := by kernel_rfl
def lit1 : DataW Unit → List Value
  | .lit (.int k n) => [Value.int k n]
  | .agg l => l.map fun | .lit (.int k n) => Value.int k n | _ => undef
  | _ => []
def litsOf : DataW Unit → Array Value
  | .agg l => (l.flatMap lit1).toArray
  | _ => #[]
def put (a : Array Value) : Obj → Obj
  | .cells _ t fr => .cells a t fr
  | o => o
noncomputable def laidWorld (os : Os) : World :=
  let w0 := World.holding Tryd.prog os ⟨#[], #[], []⟩
  { w0 with heap := (w0.heap.modify 5 (put (litsOf Rows.laid_unicode_utf8_acceptRanges))).modify 4 (put (litsOf Rows.laid_unicode_utf8_first)) }
theorem laid_met (os : Os) (args : Array Value) : laidMet Tryd.prog Rows.directsRow.laid ((laidWorld os).forCall (fun _ _ => 0) ⟨#[], args, []⟩).memory :=
  laidMet_of_run' 8 (by kernel_rfl) (by kernel_rfl)
/-- these laws look at no table -/
def Tens (H : Heap) : Prop := True
theorem tens_of {p : Prop} (h : p) {W : World} : Tens W.heap := trivial
end Go.Proofs.YtjhkmebmbopfoaaDoor
