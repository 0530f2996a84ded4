/-
  Further rules: cuts of slices and strings.
-/
import Derived.Test.YtjhkmebmbopfoaaDoorFxF
namespace Go.Fx
set_option linter.unusedSimpArgs false
set_option linter.unusedVariables false
open Go

section
variable {P : Program} {dst : Option Tmp} {ty : TypeId} {pos : String} {aft : Array Edge} {gd : Option (Nat × Bool)} {e : Env} {H : Heap}
/-- s[l:] of a slice -/
theorem Pur.cutL {t : TypeId} {x y : Operand} {b o : Nat} {l c s : Nat} {k : IntKind} {h : Int} (hs : esz P t = some s) (hx : ev e x = some (.slice (some ⟨b, o, none⟩) l c)) (hy : ev e y = some (.int k h)) (h0 : 0 ≤ h) (h1 : h ≤ l) (h2 : h < c) :
    Pur P ⟨dst, .slice t x (some y) none none, ty, pos, aft, gd⟩ e (.slice (some ⟨b, o + h.toNat * s, none⟩) (l - h.toNat) (c - h.toNat)) := by
  intro a w hA
  have e1 := hA.ev hx
  have e2 := hA.ev hy
  unfold esz at hs
  split at hs
  case h_2 => cases hs
  rename_i el hu
  simp only [Option.map_eq_some_iff] at hs
  obtain ⟨i, hi, rfl⟩ := hs
  simp only [execOp, e1, e2, Option.map_some, Option.map_none, Instr.sliceAt, Sem.run_bind, run_underlying hu, Result.andThen_ok, Instr.slice, Instr.sliceBounds, Sem.run_pure, Instr.sliceBound, asIntOf, run_sizeOf' hi]
  have hne : c ≠ h.toNat := by omega
  simp [h0, h1, Addr.add, hne]
end
end Go.Fx
