/-
  Law 19: TargetNest.
-/
import Derived.Test.YtkniihjfcagdbaaTgtK
namespace Go.Proofs.Ytkniihjfcagdbaa
set_option linter.unusedSimpArgs false
set_option linter.unusedVariables false
open Go Go.Fx Go.Proofs
namespace FactsTgtL

end FactsTgtL
open FactsTgtL

theorem bgK_congr {g g' : Int → Int} : ∀ (cs : List Int) (z : Int), 0 ≤ z → (∀ y, 0 ≤ y → y < z → g y = g' y) → (∀ y, 0 ≤ y → g y ≤ y) → bgK g cs z = bgK g' cs z
  | [], z, _, _, _ => rfl
  | c :: cs, z, hz, h, hle => by
    simp only [bgK]
    by_cases h1 : z - 1 < 0 ∨ c ≠ z - 1
    · rw [if_pos h1, if_pos h1]
    · rw [if_neg h1, if_neg h1, ← h (z - 1) (by omega) (by omega)]
      by_cases h2 : g (z - 1) < 0
      · rw [if_pos h2, if_pos h2]
      · rw [if_neg h2, if_neg h2]
        have := hle (z - 1) (by omega)
        exact bgK_congr cs _ (by omega) (fun y h3 h4 => h y h3 (by omega)) hle
theorem bg_congr {L L' : List (List Int)} : ∀ (f f' : Nat) (z : Int), 0 ≤ z → z < f → z < f' → (∀ i : Int, 0 ≤ i → i ≤ z → el L i = el L' i) → bg L f z = bg L' f' z
  | 0, _, z, h, h1, _, _ => by omega
  | _, 0, z, h, _, h1, _ => by omega
  | f + 1, f' + 1, z, h0, h1, h2, h => by
    simp only [bg]
    rw [h z h0 (Int.le_refl _)]
    exact bgK_congr _ z h0 (fun y h3 h4 => bg_congr f f' y h3 (by omega) (by omega) (fun i h5 h6 => h i h5 (by omega))) (bg_le L f)

theorem bg_succ (L : List (List Int)) (f : Nat) (z : Int) : bg L (f + 1) z = bgK (bg L f) (kv (el L z)) z := rfl
/-- n is well nested: its last thing reaches back to its first -/
structure Nest (L : List (List Int)) (m : Int) : Prop where
  len : ∀ x ∈ L, x.length = 9
  pos : 2 ≤ L.length
  may : ∀ x ∈ L, mayT x = true
  back : bg L L.length ((L.length : Int) - 1) = 0
  nam : nms L 0 = m + 1
  m0 : 0 ≤ m
  m1 : m ≤ 4095

theorem may3 {p c : Int} (h : 0 ≤ c ∧ c ≤ 4095) : mayT [3, p, 0, 0, 0, c, 0, 0, 0] = true := by
  simp [mayT, namesGo, nameOffs, kidOffs, zeroT, mostT]
  rw [if_neg (by omega)]; simp
theorem may9 {p : Int} : mayT [9, p, 0, 0, 0, 0, 0, 0, 0] = true := by
  simp [mayT, namesGo, nameOffs, kidOffs, zeroT, mostT]
theorem may0 {c : Int} (h : 0 ≤ c ∧ c ≤ 4095) : mayT [0, 0, 0, 0, c, 0, 0, 0, 0] = true := by
  simp [mayT, namesGo, nameOffs, kidOffs, zeroT, mostT]
  rw [if_neg (by omega)]; simp
theorem nm3 {p c m : Int} (h : 0 ≤ c ∧ c ≤ 4095) : nm [3, p, 0, 0, 0, c, 0, 0, 0] m = max m (c + 1) := by
  simp [nm, nmO, nameOffs]; rw [wrap_in (by omega)]
theorem nm9 {p m : Int} : nm [9, p, 0, 0, 0, 0, 0, 0, 0] m = m := by simp [nm, nmO, nameOffs]
theorem nm0 {c m : Int} (h : 0 ≤ c ∧ c ≤ 4095) : nm [0, 0, 0, 0, c, 0, 0, 0, 0] m = max m (c + 1) := by
  simp [nm, nmO, nameOffs]; rw [wrap_in (by omega)]

theorem nest_base {y : Int} (h : 0 ≤ y ∧ y ≤ 1023) : Nest [[0, 0, 0, 0, y, 0, 0, 0, 0], [9, 0, 0, 0, 0, 0, 0, 0, 0]] y where
  len := by simp
  pos := by simp
  may := by
    intro x hx
    simp only [List.mem_cons, List.not_mem_nil, or_false] at hx
    rcases hx with rfl | rfl
    · exact may0 (by omega)
    · exact may9
  back := by simp [bg, bgK, kv, el, kidOffs]
  nam := by simp only [nms, List.foldl_cons, List.foldl_nil]; rw [nm0 (by omega), nm9]; omega
  m0 := h.1
  m1 := by omega

theorem el_app {L M : List (List Int)} {i : Int} (h0 : 0 ≤ i) (h : i < L.length) : el (L ++ M) i = el L i := by
  simp only [el, List.getD_eq_getElem?_getD]
  rw [List.getElem?_append_left (by omega)]

theorem nest_step {L : List (List Int)} {m c : Int} (hN : Nest L m) (hc : 0 ≤ c ∧ c ≤ 4095) :
    Nest (L ++ [[3, (L.length : Int) - 1, 0, 0, 0, c, 0, 0, 0], [9, L.length, 0, 0, 0, 0, 0, 0, 0]]) (max m c) where
  len := by
    intro x hx
    rw [List.mem_append] at hx
    rcases hx with hx | hx
    · exact hN.len x hx
    · simp only [List.mem_cons, List.not_mem_nil, or_false] at hx
      rcases hx with rfl | rfl <;> rfl
  pos := by have := hN.pos; simp
  may := by
    intro x hx
    rw [List.mem_append] at hx
    rcases hx with hx | hx
    · exact hN.may x hx
    · simp only [List.mem_cons, List.not_mem_nil, or_false] at hx
      rcases hx with rfl | rfl
      · exact may3 hc
      · exact may9
  back := by
    have hp := hN.pos
    have hb := hN.back
    generalize hM : L ++ [[3, (L.length : Int) - 1, 0, 0, 0, c, 0, 0, 0], [9, L.length, 0, 0, 0, 0, 0, 0, 0]] = M
    have hl : M.length = L.length + 2 := by rw [← hM]; simp
    have e1 : el M ((M.length : Int) - 1) = [9, (L.length : Int), 0, 0, 0, 0, 0, 0, 0] := by
      rw [hl, ← hM, el, show (((L.length + 2 : Nat) : Int) - 1).toNat = L.length + 1 from by omega, List.getD_eq_getElem?_getD, List.getElem?_append_right (by omega)]; simp
    have e2 : el M (L.length : Int) = [3, (L.length : Int) - 1, 0, 0, 0, c, 0, 0, 0] := by
      rw [← hM, el, show ((L.length : Nat) : Int).toNat = L.length from by omega, List.getD_eq_getElem?_getD, List.getElem?_append_right (by omega)]; simp
    have h2 : bg M L.length ((L.length : Int) - 1) = 0 := by
      rw [← hb]
      exact bg_congr _ _ _ (by omega) (by omega) (by omega) (fun i h0 h1 => by rw [← hM]; exact el_app h0 (by omega))
    have k9 : kv [9, (L.length : Int), 0, 0, 0, 0, 0, 0, 0] = [(L.length : Int)] := by simp [kv, kidOffs]
    have k3 : kv [3, (L.length : Int) - 1, 0, 0, 0, c, 0, 0, 0] = [(L.length : Int) - 1] := by simp [kv, kidOffs]
    have h3 : bg M (L.length + 1) (L.length : Int) = 0 := by
      rw [bg_succ, e2, k3]
      simp only [bgK]
      rw [if_neg (by omega), h2, if_neg (by omega)]
    rw [hl] at e1 ⊢
    rw [bg_succ, e1, k9]
    simp only [bgK]
    rw [if_neg (by omega), show ((L.length + 2 : Nat) : Int) - 1 - 1 = L.length from by omega, h3, if_neg (by omega)]
  nam := by
    have := hN.nam
    rw [nms] at *
    rw [List.foldl_append, this, List.foldl_cons, List.foldl_cons, List.foldl_nil, nm3 hc, nm9]
    omega
  m0 := by have := hN.m0; omega
  m1 := by have := hN.m1; omega

theorem Nest.mayS {L : List (List Int)} {m : Int} (h : Nest L m) (hl : L.length ≤ 8192) : mayS L = true := by
  unfold Proofs.Ytkniihjfcagdbaa.mayS
  have := h.pos
  rw [decide_eq_true (p := 1 ≤ L.length ∧ L.length ≤ 8192) (by omega), decide_eq_true h.back, List.all_eq_true.2 h.may]; rfl
end Go.Proofs.Ytkniihjfcagdbaa
