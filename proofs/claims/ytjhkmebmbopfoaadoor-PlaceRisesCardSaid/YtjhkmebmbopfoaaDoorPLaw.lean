/-
  What all cards of this seat share.
-/
import Derived.Test.YtjhkmebmbopfoaaDoorPlcC
import Derived.Test.YtjhkmebmbopfoaaDoorRows
import Derived.Test.YtjhkmebmbopfoaaDoorCards
import Derived.Test.YtjhkmebmbopfoaaDoorTie
import Derived.ProofKit
import Derived.ChangeSame
import Derived.ChangeVars
import Derived.JoinedOf
import Derived.LaidLaws
import Derived.Handed
import Derived.SevenTiedAt
import Derived.SizedLaws
namespace Go.Proofs.YtjhkmebmbopfoaaDoor
set_option linter.unusedSimpArgs false
set_option linter.unusedVariables false
set_option maxRecDepth 100000
open Go Go.Fx Go.Proofs

theorem own : ownKnob Tryd.prog.godebug = none := by kernel_rfl
theorem laidOut : laidOutB Tryd.prog = true := by kernel_rfl
def litsOf : DataW Unit → Array Value
  | .agg l => (l.map fun | .lit (.int k n) => Value.int k n | _ => undef).toArray
  | _ => #[]
def put (a : Array Value) : Obj → Obj
  | .cells _ t fr => .cells a t fr
  | o => o
noncomputable def laidWorld (os : Os) : World :=
  let w0 := World.holding Tryd.prog os ⟨#[], #[], []⟩
  { w0 with heap := ((w0.heap.modify 1 (put (litsOf Rows.laid_internal_strconv_uint64pow10))).modify 2 (put (litsOf Rows.laid_math_bits_deBruijn32tab))).modify 3 (put (litsOf Rows.laid_math_bits_deBruijn64tab)) }
theorem laid_met (os : Os) (args : Array Value) : laidMet Tryd.prog Rows.placesRow.laid ((laidWorld os).forCall (fun _ _ => 0) ⟨#[], args, []⟩).memory :=
  laidMet_of_run' 8 (by kernel_rfl) (by kernel_rfl)
theorem tab_eq : (Rows.laid_internal_strconv_uint64pow10 : DataW Unit) = Lib.tabData .u64 Lib.pow10Tab := by kernel_rfl
theorem tens_of {W : World} (h : laidMet Tryd.prog Rows.placesRow.laid W) : Tens W.heap := by
  obtain ⟨g, t, cs, fuel, p, hg, hty, hvar, hd⟩ := Lib.laidMet.reads h (.tail _ (.tail _ (.head _)))
  obtain rfl := Option.some.inj ((show Tryd.prog.globalNamed _ = some 1 by kernel_rfl).symm.trans hg)
  obtain rfl := Option.some.inj ((show (Tryd.prog.globals[1]?).map (·.type) = some 140 by kernel_rfl).symm.trans hty)
  rw [tab_eq] at hd
  have hcs := Lib.cells_of_tab Tryd.underlying140 Tryd.underlying68 (by kernel_rfl) (by kernel_rfl) hd
  unfold World.var? at hvar
  rw [hg] at hvar
  simp only [Option.bind_some] at hvar
  cases hx : W.heap[1]? with
  | none => rw [hx] at hvar; cases hvar
  | some ob =>
    rw [hx] at hvar
    cases ob with
    | cells c T fr =>
      simp only [Option.some.injEq] at hvar
      subst hvar
      exact ⟨T, fr, by rw [hx, tens, ← hcs]⟩
    | _ => cases hvar
end Go.Proofs.YtjhkmebmbopfoaaDoor
