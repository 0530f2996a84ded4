/-
  Chapter 21, plain: terms by hand, and what comes of them.
-/
import Derived.Test.YtjhkmebmbopfoaaMacL
namespace Go.Proofs.Ytjhkmebmbopfoaa
set_option linter.unusedSimpArgs false
set_option linter.unusedVariables false
set_option maxRecDepth 8000
open Go Go.Fx Go.Proofs
namespace FactsMacS

end FactsMacS
open FactsMacS

abbrev rk (k : Int) : List Int := [1, 0, 0, 0, k, 0, 0, 0, 0]
abbrev rt : List Int := [2, 0, 0, 0, 1, 0, 0, 0, 0]
abbrev rr (a : Int) : List Int := [9, a, 0, 0, 0, 0, 0, 0, 0]
abbrev rv (n : Int) : List Int := [0, 0, 0, 0, n, 0, 0, 0, 0]
def Ts (k : Int) : List (List (List Int)) :=
  [[rk k, rr 0], [rk k], [rt, rr 0], [rv 0, rr 0], [rv 0, [3, 0, 0, 0, 0, 0, 0, 0, 0], rr 1],
   [rk k, rv 1, rr 1, [3, 2, 0, 0, 0, 1, 0, 0, 0], [10, 0, 3, 0, 0, 0, 0, 0, 0]],
   [rk k, rr 0, rv 7, rr 2, [6, 1, 3, 0, 0, 7, 0, 0, 0]],
   [rk k, rt, [8, 0, 1, 0, 0, 0, 0, 0, 0], rr 2],
   [rt, rk k, rk k, [7, 0, 1, 2, 0, 0, 0, 0, 0], rr 3],
   [rk k, rk k, [8, 0, 1, 0, 1, 0, 0, 0, 0], rr 2],
   [rk k, rk k, [5, 0, 1, 0, 0, 0, 0, 0, 0]],
   [rk k, rv 4, [11, 0, 1, 0, 0, 4, 0, 0, 0]]]
def Ws (k : Int) : List (Int × Int) := [(0, k), (5, 0), (1, 1), (5, 0), (2, 0), (5, 0), (5, 0), (5, 0), (0, k), (0, 0), (5, 0), (5, 0)]
theorem may_rk {k : Int} (h0 : 0 ≤ k) (h1 : k ≤ 1023) : mayT (rk k) = true := by
  simp [mayT, namesGo, nameOffs, kidOffs, zeroT, mostT]; omega
theorem mayS_of {L : List (List Int)} (h : 1 ≤ L.length ∧ L.length ≤ 8192) (hm : ∀ x ∈ L, mayT x = true) (hb : bg L L.length ((L.length : Int) - 1) = 0) : mayS L = true := by
  unfold mayS
  rw [decide_eq_true h, decide_eq_true hb, List.all_eq_true.2 hm]; rfl
theorem runS_of {L : List (List Int)} {o : Int × Int} {n : Nat} (hm : mayS L = true) (hr : runM L 99 0 (.ev [] ((L.length : Int) - 1) .nil) = (o, n)) : runS L 99 = (o, (n : Int), 0) := by
  rw [runS_yes ⟨hm, by decide, by decide⟩, show (99 : Int).toNat = 99 from rfl, hr]
theorem runS_one {L : List (List Int)} {o : Int × Int} (hm : mayS L = true) (hr : (runM L 99 0 (.ev [] ((L.length : Int) - 1) .nil)).1 = o) : (runS L 99).1 = o ∧ (runS L 99).2.2 = 0 := by
  rw [runS_yes ⟨hm, by decide, by decide⟩]
  exact ⟨hr, rfl⟩
theorem sub_same (k : Int) : prm 1 k k = (0, 0) := by
  rw [prm_num (by decide) (by decide) (fun h => absurd h.1 (by decide)), show rkn 1 k k = wrp (k - k) from rfl, Int.sub_self]; rfl
theorem Ts_run {k : Int} (h0 : 0 ≤ k) (h1 : k ≤ 1023) {i : Nat} {L : List (List Int)} (hL : (Ts k)[i]? = some L) : (∀ x ∈ L, x.length = 9) ∧ L.length ≤ 5 ∧ ∃ (o : Int × Int) (n : Nat), (Ws k)[i]? = some o ∧ runS L 99 = (o, (n : Int), 0) ∧ 0 < (n : Int) ∧ n ≤ 99 := by
  have hk := may_rk h0 h1
  have key : ∀ {L : List (List Int)} {o : Int × Int} {n : Nat}, (∀ x ∈ L, x.length = 9) → L.length ≤ 5 → 1 ≤ L.length → (∀ x ∈ L, mayT x = true) → bg L L.length ((L.length : Int) - 1) = 0 → runM L 99 0 (.ev [] ((L.length : Int) - 1) .nil) = (o, n) → 0 < (n : Int) → n ≤ 99 →
      (∀ x ∈ L, x.length = 9) ∧ L.length ≤ 5 ∧ ∃ (o' : Int × Int) (n' : Nat), some o = some o' ∧ runS L 99 = (o', (n' : Int), 0) ∧ 0 < (n' : Int) ∧ n' ≤ 99 := by
    intro L o n a b c d e f g h
    exact ⟨a, b, o, n, rfl, runS_of (mayS_of ⟨c, by omega⟩ d e) f, g, h⟩
  unfold Ts at hL
  rcases i with _ | _ | _ | _ | _ | _ | _ | _ | _ | _ | _ | _ | i
  · cases hL; exact key (o := (0, k)) (n := 3) (by simp) (by simp) (by simp) (by simp only [List.forall_mem_cons]; exact ⟨hk, by decide, by simp⟩) (by kernel_rfl) (by kernel_rfl) (by decide) (by decide)
  · cases hL; exact key (o := (5, 0)) (n := 1) (by simp) (by simp) (by simp) (by simp only [List.forall_mem_cons]; exact ⟨hk, by simp⟩) (by kernel_rfl) (by kernel_rfl) (by decide) (by decide)
  · cases hL; exact key (o := (1, 1)) (n := 3) (by simp) (by simp) (by simp) (by decide) (by kernel_rfl) (by kernel_rfl) (by decide) (by decide)
  · cases hL; exact key (o := (5, 0)) (n := 2) (by simp) (by simp) (by simp) (by decide) (by kernel_rfl) (by kernel_rfl) (by decide) (by decide)
  · cases hL; exact key (o := (2, 0)) (n := 3) (by simp) (by simp) (by simp) (by decide) (by kernel_rfl) (by kernel_rfl) (by decide) (by decide)
  · cases hL; exact key (o := (5, 0)) (n := 5) (by simp) (by simp) (by simp) (by simp only [List.forall_mem_cons]; exact ⟨hk, by decide, by decide, by decide, by decide, by simp⟩) (by kernel_rfl) (by kernel_rfl) (by decide) (by decide)
  · cases hL; exact key (o := (5, 0)) (n := 8) (by simp) (by simp) (by simp) (by simp only [List.forall_mem_cons]; exact ⟨hk, by decide, by decide, by decide, by decide, by simp⟩) (by kernel_rfl) (by kernel_rfl) (by decide) (by decide)
  · cases hL; exact key (o := (5, 0)) (n := 6) (by simp) (by simp) (by simp) (by simp only [List.forall_mem_cons]; exact ⟨hk, by decide, by decide, by decide, by simp⟩) (by kernel_rfl) (by kernel_rfl) (by decide) (by decide)
  · cases hL; exact key (o := (0, k)) (n := 6) (by simp) (by simp) (by simp) (by simp only [List.forall_mem_cons]; exact ⟨by decide, hk, hk, by decide, by decide, by simp⟩) (by kernel_rfl) (by kernel_rfl) (by decide) (by decide)
  · cases hL
    refine key (o := (0, 0)) (n := 7) (by simp) (by simp) (by simp) (by simp only [List.forall_mem_cons]; exact ⟨hk, hk, by decide, by decide, by simp⟩) (by kernel_rfl) ?_ (by decide) (by decide)
    have e1 : runM [rk k, rk k, [8, 0, 1, 0, 1, 0, 0, 0, 0], rr 2] 99 0 (.ev [] (([rk k, rk k, [8, 0, 1, 0, 1, 0, 0, 0, 0], rr 2].length : Int) - 1) .nil) = runM [rk k, rk k, [8, 0, 1, 0, 1, 0, 0, 0, 0], rr 2] 94 5 (.gv [⟨1, 2, .nil, .num k⟩, ⟨0, 3, .nil, .nil⟩] (.num k)) := by kernel_rfl
    have e2 : stepM [rk k, rk k, [8, 0, 1, 0, 1, 0, 0, 0, 0], rr 2] (.gv [⟨1, 2, .nil, .num k⟩, ⟨0, 3, .nil, .nil⟩] (.num k)) = .go (.gv [⟨0, 3, .nil, .nil⟩] (.num 0)) := by
      show (if (prm 1 k k).1 = 3 then Ou.fin 3 (prm 1 k k).2 else if (prm 1 k k).1 = 1 then .go (.gv _ (.tru (prm 1 k k).2)) else .go (.gv _ (.num (prm 1 k k).2))) = _
      rw [sub_same]; rfl
    rw [e1, show (94 : Nat) = 93 + 1 from rfl, runM_succ (by simp [St.frs]) rfl, e2]
    exact (show runM [rk k, rk k, [8, 0, 1, 0, 1, 0, 0, 0, 0], rr 2] 93 6 (.gv [⟨0, 3, .nil, .nil⟩] (.num 0)) = ((0, 0), 7) by kernel_rfl)
  · cases hL; exact key (o := (5, 0)) (n := 5) (by simp) (by simp) (by simp) (by simp only [List.forall_mem_cons]; exact ⟨hk, hk, by decide, by simp⟩) (by kernel_rfl) (by kernel_rfl) (by decide) (by decide)
  · cases hL; exact key (o := (5, 0)) (n := 3) (by simp) (by simp) (by simp) (by simp only [List.forall_mem_cons]; exact ⟨hk, by decide, by decide, by simp⟩) (by kernel_rfl) (by kernel_rfl) (by decide) (by decide)
  · cases hL
/-- an operation, and a handler -/
def Rs (o k : Int) : List (List Int) := [rv 1, rv 2, [1, 0, 0, 0, 1, 0, 0, 0, 0], [8, 1, 2, 0, 0, 0, 0, 0, 0], rr 3, rv 3, rr 5, [12, 0, 4, 6, 0, 2, 3, 4, 0], [4, 7, 0, 0, 0, 0, 1, 0, 0], rk k, rv 5, rr 10, [3, 11, 0, 0, 0, 5, 0, 0, 0], [10, 9, 12, 0, o, 0, 0, 0, 0], [5, 8, 13, 0, 0, 0, 0, 0, 0]]
theorem Rs9 (o k : Int) : ∀ x ∈ Rs o k, x.length = 9 := by simp [Rs]
theorem Rs_run {o k : Int} (h0 : 0 ≤ k) (h1 : k ≤ 1023) (ho : o = 0 ∨ o = 1) : (runS (Rs o k) 99).1 = (if o = 0 then (0, k) else (5, 0)) ∧ (runS (Rs o k) 99).2.2 = 0 := by
  have hk := may_rk h0 h1
  rcases ho with rfl | rfl
  · have hm : mayS (Rs 0 k) = true := mayS_of (by simp [Rs]) (by unfold Rs; simp only [List.forall_mem_cons]; exact ⟨by decide, by decide, by decide, by decide, by decide, by decide, by decide, by decide, by decide, hk, by decide, by decide, by decide, by decide, by decide, by simp⟩) (by kernel_rfl)
    exact runS_one hm (show _ = ((0, k) : Int × Int) by kernel_rfl)
  · have hm : mayS (Rs 1 k) = true := mayS_of (by simp [Rs]) (by unfold Rs; simp only [List.forall_mem_cons]; exact ⟨by decide, by decide, by decide, by decide, by decide, by decide, by decide, by decide, by decide, hk, by decide, by decide, by decide, by decide, by decide, by simp⟩) (by kernel_rfl)
    exact runS_one hm (show _ = ((5, 0) : Int × Int) by kernel_rfl)
end Go.Proofs.Ytjhkmebmbopfoaa
