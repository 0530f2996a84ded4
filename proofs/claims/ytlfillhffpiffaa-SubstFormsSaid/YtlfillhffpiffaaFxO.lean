/-
  Rule: makeSlice of elements of several cells.
-/
import Derived.Test.YtlfillhffpiffaaFxK
namespace Go.Fx
set_option linter.unusedSimpArgs false
set_option linter.unusedVariables false
open Go
def mkN (P : Program) (t : TypeId) : Option (TypeId × List Value × Nat) :=
  match P.underlying t with
  | some (.slice el) => match P.info? el with
    | some i => match i.zero with
      | some z => if z.cells.size == i.size && Nat.blt 0 i.size then some (el, z.cells.toList, i.bytes) else none
      | none => none
    | none => none
  | _ => none
theorem rep_at (zs : List Value) : ∀ (n k : Nat), k < n * zs.length → (List.replicate n zs).flatten[k]? = zs[k % zs.length]?
  | 0, k, h => by omega
  | n + 1, k, h => by
    rw [List.replicate_succ, List.flatten_cons]
    by_cases hk : k < zs.length
    · rw [List.getElem?_append_left hk, Nat.mod_eq_of_lt hk]
    · have hk' : zs.length ≤ k := by omega
      rw [List.getElem?_append_right hk', rep_at zs n (k - zs.length) (by rw [Nat.add_mul] at h; omega), Nat.mod_eq_sub_mod hk']
theorem made_n (z : Array Value) (n : Nat) (hz : 0 < z.size) : madeCells z (n * z.size) = ((List.replicate n z.toList).flatten).toArray := by
  unfold madeCells
  apply Array.ext'
  simp only [Array.toList_map, Array.toList_range]
  apply List.ext_getElem?
  intro k
  by_cases hk : k < n * z.size
  · have h1 := rep_at z.toList n k (by simpa using hk)
    rw [h1, List.getElem?_map, List.getElem?_range hk]
    have hm : k % z.size < z.size := Nat.mod_lt _ hz
    simp [hm]
  · rw [List.getElem?_eq_none (by simp; omega), List.getElem?_eq_none (by simp; omega)]
section
variable {P : Program} {dst : Option Tmp} {ty : TypeId} {pos : String} {aft : Array Edge} {gd : Option (Nat × Bool)} {e : Env} {H : Heap} {t : TypeId} {x y : Operand}
theorem Does.mksN {el : TypeId} {zs : List Value} {by' : Nat} {k k' : IntKind} {n : Nat} (ht : mkN P t = some (el, zs, by')) (hx : ev e x = some (.int k (n : Int))) (hy : ev e y = some (.int k' (n : Int)))
    (hb : by' * n ≤ 281474976710656) (h63 : n ≤ 9223372036854775807) :
    Does P ⟨dst, .makeSlice t x y, ty, pos, aft, gd⟩ e H (fun u H' => u = .slice (some ⟨H.size, 0, none⟩) n n ∧ H' = H.push (.cells ((List.replicate n zs).flatten).toArray el (0, 0))) := by
  intro w0 nn a hA K Q hK
  unfold mkN at ht
  split at ht
  case h_2 => cases ht
  rename_i el' hu
  split at ht
  case h_2 => cases ht
  rename_i i hi
  split at ht
  case h_2 => cases ht
  rename_i z hz
  split at ht
  case isFalse => cases ht
  rename_i hs
  cases ht
  simp only [Bool.and_eq_true, beq_iff_eq, Nat.blt_eq] at hs
  have hb' : (i.bytes : Int) * (n : Int) ≤ 281474976710656 := by
    have h : ((i.bytes * n : Nat) : Int) ≤ 281474976710656 := by omega
    rwa [Int.natCast_mul] at h
  have hr := run_make (P := P) (mk w0 H nn) t _ i z hu hi hz k k' n n (by omega) (Int.le_refl _) hb' (by omega)
  rw [Int.toNat_natCast, ← hs.1, made_n _ _ (by omega)] at hr
  unfold Oper.wp
  simp only [execOp, hA.ev hx, hA.ev hy, Sem.run_bind, hr, Result.andThen_ok, Sem.run_pure]
  exact hK _ _ nn ⟨rfl, rfl⟩
end
end Go.Fx
