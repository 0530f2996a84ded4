/-
  In a type that may be, every function's parts stand before it.
-/
import Derived.Test.YtlfillhffpiffaaSubH
namespace Go.Proofs.Ytlfillhffpiffaa
set_option linter.unusedSimpArgs false
set_option linter.unusedVariables false
set_option maxRecDepth 8000
open Go Go.Fx Go.Proofs

theorem bgn_all (L : List (List Int)) : ∀ (f : Nat) (z : Int), 0 ≤ z → 0 ≤ bgn L f z → ∀ i : Int, bgn L f z ≤ i → i ≤ z → (el L i).getD 0 0 = 3 →
    (el L i).getD 3 0 = i - 1 ∧ 0 ≤ (el L i).getD 2 0 ∧ (el L i).getD 2 0 < i - 1 ∧ 1 ≤ i
  | 0, z, h0, h, i, _, _, _ => by simp only [bgn] at h; omega
  | f + 1, z, h0, h, i, h1, h2, h3 => by
    rw [bgn_succ] at h h1
    by_cases hk : (el L z).getD 0 0 ≠ 3
    · rw [if_pos hk] at h1
      have : i = z := by omega
      subst this; exact (hk h3).elim
    · rw [if_neg hk] at h h1
      by_cases hb : z = 0 ∨ (el L z).getD 3 0 ≠ z - 1
      · rw [if_pos hb] at h; omega
      · rw [if_neg hb] at h h1
        by_cases hc : bgn L f ((el L z).getD 3 0) < 1 ∨ (el L z).getD 2 0 ≠ bgn L f ((el L z).getD 3 0) - 1
        · rw [if_pos hc] at h; omega
        · rw [if_neg hc] at h h1
          have hB : (el L z).getD 3 0 = z - 1 := by omega
          have hle := bgn_le L f ((el L z).getD 3 0) (by omega)
          by_cases hi : i = z
          · subst hi; omega
          · by_cases hi2 : bgn L f ((el L z).getD 3 0) ≤ i
            · exact bgn_all L f _ (by omega) (by omega) i hi2 (by omega) h3
            · exact bgn_all L f _ (by omega) h i h1 (by omega) h3

theorem typM_all {L : List (List Int)} (h : typM L = true) {i : Nat} (hi : i < L.length) (hk : L[i].getD 0 0 = 3) :
    L[i].getD 3 0 = (i : Int) - 1 ∧ 0 ≤ L[i].getD 2 0 ∧ L[i].getD 2 0 < (i : Int) - 1 ∧ 1 ≤ i := by
  unfold typM at h
  simp only [Bool.and_eq_true, decide_eq_true_eq] at h
  obtain ⟨⟨h1, _⟩, h2⟩ := h
  have hel : el L (i : Int) = L[i] := by simp [el, List.getD_eq_getElem?_getD, List.getElem?_eq_getElem hi]
  have := bgn_all L L.length ((L.length : Int) - 1) (by omega) (by omega) i (by omega) (by omega) (by rw [hel]; exact hk)
  rw [hel] at this
  omega
theorem typM_nod {L : List (List Int)} (h : typM L = true) {i : Nat} (hi : i < L.length) : nodM L[i] = true := by
  unfold typM at h
  simp only [Bool.and_eq_true, decide_eq_true_eq, List.all_eq_true] at h
  exact h.1.2 _ (List.getElem_mem hi)
end Go.Proofs.Ytlfillhffpiffaa
