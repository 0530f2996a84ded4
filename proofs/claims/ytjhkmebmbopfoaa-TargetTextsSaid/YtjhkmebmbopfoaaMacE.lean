/-
  Chapter 21, plain: more fuel; terms by hand.
-/
import Derived.Test.YtjhkmebmbopfoaaMacD
namespace Go.Proofs.Ytjhkmebmbopfoaa
set_option linter.unusedSimpArgs false
set_option linter.unusedVariables false
set_option maxRecDepth 8000
open Go Go.Fx Go.Proofs
namespace FactsMacE

end FactsMacE
open FactsMacE

theorem runM_stop {L : List (List Int)} {f k : Nat} {s : St} (h : 4096 < s.frs.length) : runM L f k s = ((4, 0), k) := by
  unfold runM; rw [if_pos h]
theorem runM_over {L : List (List Int)} {f k : Nat} {v : T} : runM L f k (.gv [] v) = (toldM v, k) := by
  unfold runM; rw [if_neg (by simp [St.frs])]
/-- is it a state of which a step is made? -/
def St.goes : St → Bool
  | .gv [] _ => false
  | _ => true
theorem runM_zero {L : List (List Int)} {k : Nat} {s : St} (h : s.frs.length ≤ 4096) (hs : s.goes = true) : runM L 0 k s = ((4, 0), k) := by
  unfold runM; rw [if_neg (by omega)]
  match s, hs with
  | .ev _ _ _, _ => rfl
  | .gv (_ :: _) _, _ => rfl
theorem runM_succ {L : List (List Int)} {f k : Nat} {s : St} (h : s.frs.length ≤ 4096) (hs : s.goes = true) :
    runM L (f + 1) k s = match stepM L s with | .fin a b => ((a, b), k + 1) | .go s' => runM L f (k + 1) s' := by
  conv => lhs; unfold runM
  rw [if_neg (by omega)]
  match s, hs with
  | .ev _ _ _, _ => rfl
  | .gv (_ :: _) _, _ => rfl
theorem runM_more (L : List (List Int)) (d : Nat) : ∀ (f k : Nat) (s : St),
    k ≤ (runM L f k s).2 ∧ (runM L f k s).2 ≤ k + f ∧ (runM L f k s).2 ≤ (runM L (f + d) k s).2 ∧ ((runM L f k s).1.1 = 4 ∨ runM L (f + d) k s = runM L f k s) := by
  have ge : ∀ (f k : Nat) (s : St), k ≤ (runM L f k s).2 := by
    intro f
    induction f with
    | zero =>
      intro k s
      by_cases h : 4096 < s.frs.length
      · rw [runM_stop h]; exact Nat.le_refl _
      · cases hs : s.goes with
        | true => rw [runM_zero (by omega) hs]; exact Nat.le_refl _
        | false =>
          match s, hs with
          | .gv [] v, _ => rw [runM_over]; exact Nat.le_refl _
    | succ f ih =>
      intro k s
      by_cases h : 4096 < s.frs.length
      · rw [runM_stop h]; exact Nat.le_refl _
      · cases hs : s.goes with
        | true =>
          rw [runM_succ (by omega) hs]
          split
          · exact Nat.le_succ _
          · exact Nat.le_trans (Nat.le_succ _) (ih _ _)
        | false =>
          match s, hs with
          | .gv [] v, _ => rw [runM_over]; exact Nat.le_refl _
  intro f
  induction f with
  | zero =>
    intro k s
    by_cases h : 4096 < s.frs.length
    · rw [runM_stop h, runM_stop h]; exact ⟨Nat.le_refl _, Nat.le_refl _, Nat.le_refl _, .inl rfl⟩
    · cases hs : s.goes with
      | true => rw [runM_zero (by omega) hs]; exact ⟨Nat.le_refl _, Nat.le_refl _, ge _ _ _, .inl rfl⟩
      | false =>
        match s, hs with
        | .gv [] v, _ => rw [runM_over, runM_over]; exact ⟨Nat.le_refl _, Nat.le_refl _, Nat.le_refl _, .inr rfl⟩
  | succ f ih =>
    intro k s
    by_cases h : 4096 < s.frs.length
    · rw [runM_stop h, runM_stop h]; exact ⟨Nat.le_refl _, Nat.le_add_right _ _, Nat.le_refl _, .inl rfl⟩
    · cases hs : s.goes with
      | true =>
        rw [runM_succ (by omega) hs, show f + 1 + d = f + d + 1 by omega, runM_succ (by omega) hs]
        split
        · exact ⟨Nat.le_succ _, by dsimp only; omega, Nat.le_refl _, .inr rfl⟩
        · rename_i s' _
          obtain ⟨h1, h2, h3, h4⟩ := ih (k + 1) s'
          exact ⟨by omega, by omega, h3, h4⟩
      | false =>
        match s, hs with
        | .gv [] v, _ => rw [runM_over, runM_over]; exact ⟨Nat.le_refl _, Nat.le_add_right _ _, Nat.le_refl _, .inr rfl⟩
/-- what Run answers -/
def runS (L : List (List Int)) (fuel : Int) : (Int × Int) × Int × Int :=
  if mayS L = true ∧ 0 ≤ fuel ∧ fuel ≤ 1048576 then ((runM L fuel.toNat 0 (.ev [] ((L.length : Int) - 1) .nil)).1, ((runM L fuel.toNat 0 (.ev [] ((L.length : Int) - 1) .nil)).2 : Nat), 0) else ((0, 0), 0, 2100)
end Go.Proofs.Ytjhkmebmbopfoaa
