/-
  Rule: makeSlice of one-cell elements.
-/
import Derived.Test.YtjhkmebmbopfoaaDoorFxJ
import Derived.Laws.MakeOwn
namespace Go.Fx
set_option linter.unusedSimpArgs false
set_option linter.unusedVariables false
open Go
def mkT (P : Program) (t : TypeId) : Option (TypeId × Value × Nat) :=
  match P.underlying t with
  | some (.slice el) => match P.info? el with
    | some i => match i.zero with
      | some z => match i.size, z.cells.toList with
        | 1, [v] => some (el, v, i.bytes)
        | _, _ => none
      | none => none
    | none => none
  | _ => none
section
variable {P : Program} {dst : Option Tmp} {ty : TypeId} {pos : String} {aft : Array Edge} {gd : Option (Nat × Bool)} {e : Env} {H : Heap} {t : TypeId} {x y : Operand}
theorem made_one (v : Value) (n : Nat) : madeCells #[v] n = (List.replicate n v).toArray := by
  unfold madeCells
  apply Array.ext'
  simp only [Array.toList_map, Array.toList_range]
  apply List.ext_getElem
  · simp
  · intro i h1 h2
    simp [Nat.mod_one]
theorem Does.mks {el : TypeId} {v : Value} {by' : Nat} {k k' : IntKind} {n : Nat} (ht : mkT P t = some (el, v, by')) (hx : ev e x = some (.int k (n : Int))) (hy : ev e y = some (.int k' (n : Int)))
    (hb : by' * n ≤ 281474976710656) (h63 : n ≤ 9223372036854775807) :
    Does P ⟨dst, .makeSlice t x y, ty, pos, aft, gd⟩ e H (fun u H' => u = .slice (some ⟨H.size, 0, none⟩) n n ∧ H' = H.push (.cells (List.replicate n v).toArray el (0, 0))) := by
  intro w0 nn a hA K Q hK
  unfold mkT at ht
  split at ht
  case h_2 => cases ht
  rename_i el' hu
  split at ht
  case h_2 => cases ht
  rename_i i hi
  split at ht
  case h_2 => cases ht
  rename_i z hz
  split at ht
  case h_2 => cases ht
  rename_i v' hs hc
  cases ht
  have hb' : (i.bytes : Int) * (n : Int) ≤ 281474976710656 := by
    have h : ((i.bytes * n : Nat) : Int) ≤ 281474976710656 := by omega
    rwa [Int.natCast_mul] at h
  have hr := run_make (P := P) (mk w0 H nn) t _ i z hu hi hz k k' n n (by omega) (Int.le_refl _) hb' (by omega)
  have hc' : z.cells = #[_] := Array.ext' hc
  simp only [Int.toNat_natCast, hs, Nat.mul_one, hc', made_one] at hr
  unfold Oper.wp
  simp only [execOp, hA.ev hx, hA.ev hy, Sem.run_bind, hr, Result.andThen_ok, Sem.run_pure]
  exact hK _ _ nn ⟨rfl, rfl⟩
end
end Go.Fx
