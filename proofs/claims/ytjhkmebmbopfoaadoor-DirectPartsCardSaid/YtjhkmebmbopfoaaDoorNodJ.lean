/-
  Nodes: a node may be by the program just if by the reference.
-/
import Derived.Test.YtjhkmebmbopfoaaDoorNodI
namespace Go.Proofs.YtjhkmebmbopfoaaDoor
set_option linter.unusedSimpArgs false
set_option linter.unusedVariables false
set_option maxRecDepth 8000
set_option maxHeartbeats 1000000
open Go Go.Fx Go.Proofs

theorem may_ref (named : Bool) (x : Nd) : mayN named x = (fldR named x && numsR x) := by
  obtain ⟨k, a, b, c, num, nm, x, y, z, p⟩ := x
  by_cases hp : 0 ≤ p ∧ p ≤ 4096
  · by_cases hk : 0 ≤ k ∧ k ≤ 10
    · have h1 : ¬ p < 0 := by omega
      have h2 : ¬ 4096 < p := by omega
      rw [Bool.eq_iff_iff]
      obtain rfl | rfl | rfl | rfl | rfl | rfl | rfl | rfl | rfl | rfl | rfl : k = 0 ∨ k = 1 ∨ k = 2 ∨ k = 3 ∨ k = 4 ∨ k = 5 ∨ k = 6 ∨ k = 7 ∨ k = 8 ∨ k = 9 ∨ k = 10 := by omega
      all_goals cases named
      all_goals simp [mayN, nMost, namesN, nnOffs, nkOffs, sget, sclr, clrN, iclr, lastN, nNum, fldR, fldY, bndV, bndY, kidN, numsR, h1, h2, hp.1, hp.2]
      all_goals first | grind | skip
      all_goals cases nmMay nm <;> cases nmMay x <;> cases nmMay y <;> cases nmMay z <;> simp
      all_goals grind
    · rw [mayN_k (by simp only; omega), fldR]
      have : kidN k = -1 := by unfold kidN; rw [if_neg (by omega), if_neg (by omega), if_neg (by omega), if_neg (by omega)]
      simp [this]
  · rw [mayN_k (by simp only; omega), fldR]
    have h : (decide (0 ≤ p) && decide (p ≤ 4096)) = false := by
      by_cases h0 : 0 ≤ p
      · rw [decide_eq_false (p := p ≤ 4096) (by omega), Bool.and_false]
      · rw [decide_eq_false h0, Bool.false_and]
    simp only [Bool.and_assoc, h, Bool.and_false, Bool.false_and]
end Go.Proofs.YtjhkmebmbopfoaaDoor
