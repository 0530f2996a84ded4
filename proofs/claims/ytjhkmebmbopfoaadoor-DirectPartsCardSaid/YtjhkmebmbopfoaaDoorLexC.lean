/-
  Names: NameMay of both.
-/
import Derived.Test.YtjhkmebmbopfoaaDoorLexB
namespace Go.Proofs.YtjhkmebmbopfoaaDoor
set_option linter.unusedSimpArgs false
set_option linter.unusedVariables false
set_option maxRecDepth 8000
set_option maxHeartbeats 1000000
open Go Go.Fx Go.Proofs
namespace FactsLexC

end FactsLexC
open FactsLexC

theorem late_low {b : UInt8} (h : low b = true) : late b = true := by rw [late, h]; rfl
theorem low_more (l : BS) (h : lets l = true) : l.all moreL.contains = true := by
  have e : moreL.contains = late := funext moreL_has
  rw [e]
  cases l with
  | nil => rfl
  | cons b l => rw [lets, Bool.and_eq_true] at h; rw [List.all_cons, late_low h.1, h.2]; rfl
theorem more_low (b : UInt8) (l : BS) (h : (b :: l).all moreL.contains = true) (h0 : lowL.contains b = true) : lets (b :: l) = true := by
  have e : moreL.contains = late := funext moreL_has
  rw [e, List.all_cons, Bool.and_eq_true] at h
  rw [lowL_has] at h0
  rw [lets, h0, h.2]; rfl
theorem take_eq {l : BS} {n : Nat} (h : n ≤ l.length) : l.take n = l ↔ n = l.length := by
  constructor
  · intro hh; have := congrArg List.length hh; rw [List.length_take] at this; omega
  · intro hh; rw [hh, List.take_length]
theorem nm_empty : nmMay [] = false := rfl
theorem nm_long {l : BS} (h : ¬ l.length ≤ 16) : nmMay l = false := by rw [nmMay, decide_eq_false h]; rfl
theorem nm_first {b : UInt8} {l : BS} (h : lowL.contains b = false) : nmMay (b :: l) = false := by
  rw [lowL_has] at h
  rw [nmMay, lets, h]; simp
theorem nm_run {b : UInt8} {l : BS} (h : (b :: l).take (runN moreL (b :: l)) ≠ b :: l) : nmMay (b :: l) = false := by
  cases hl : lets (b :: l) with
  | false => rw [nmMay, hl]; simp
  | true =>
    have h1 := low_more _ hl
    rw [← runN_all] at h1
    exact absurd ((take_eq (runN_le _ _)).2 (of_decide_eq_true h1)) h
theorem nm_yes {b : UInt8} {l : BS} (h1 : (b :: l).length ≤ 16) (h2 : lowL.contains b = true) (h3 : (b :: l).take (runN moreL (b :: l)) = b :: l) : nmMay (b :: l) = !isKw (b :: l) := by
  have h4 := (take_eq (runN_le _ _)).1 h3
  have h5 : (b :: l).all moreL.contains = true := by rw [← runN_all]; exact decide_eq_true h4
  rw [nmMay, more_low b l h5 h2, decide_eq_true h1]; rfl
theorem bs_size (l : BS) : (bs l).size = l.length := rfl
theorem bang0 (b : UInt8) (l : BS) : (bs (b :: l)).data[((0 : Int)).toNat]! = b := rfl
theorem ne_cons {l : BS} (h : l ≠ []) : ∃ b r, l = b :: r := by
  cases l with
  | nil => exact absurd rfl h
  | cons b r => exact ⟨b, r, rfl⟩

theorem nameMay_ok (l : BS) (hl : l.length ≤ 140737488355328) (H : Heap) : Ret Tryd.prog 62 [S l] H (fun v H' => v = .bool (nmMay l) ∧ Ext H H') := by
  refine Ret.of_at (N := 26) Tryd.call62 Tryd.func62 rfl rfl rfl ?_
  have hE := Ext.refl H
  refine At.region rfl rfl ?_
  refine Reg.pur rfl rfl rfl rfl (Pur.asg rfl) ?_
  refine Reg.nil ?_
  refine At.region rfl rfl ?_
  refine Reg.pur rfl rfl rfl rfl (Pur.mv rfl) ?_
  refine Reg.pur rfl rfl rfl rfl (Pur.neS rfl rfl) ?_
  refine Reg.pur rfl rfl rfl rfl (Pur.mv rfl) ?_
  refine Reg.case 5 rfl (fun q5 => ?_) (fun q5 => ?_)
  · first | (simp only [decide_eq_true_eq, decide_eq_false_iff_not, Bool.not_eq_true', Bool.not_eq_false', ne_eq, Decidable.not_not, Bool.not_eq_true, Bool.not_eq_false] at q5) | (dsimp only at q5) | skip
    refine Reg.gpur rfl rfl rfl rfl rfl rfl (Pur.mv rfl) ?_
    refine Reg.gpur rfl rfl rfl rfl rfl rfl (Pur.lenT rfl rfl) ?_
    refine Reg.gpur rfl rfl rfl rfl rfl rfl (Pur.leq rfl rfl) ?_
    refine Reg.pur rfl rfl rfl rfl (Pur.pickT rfl rfl) ?_
    refine Reg.pur rfl rfl rfl rfl (Pur.mv rfl) ?_
    refine Reg.case 10 rfl (fun q10 => ?_) (fun q10 => ?_)
    · first | (simp only [decide_eq_true_eq, decide_eq_false_iff_not, Bool.not_eq_true', Bool.not_eq_false', ne_eq, Decidable.not_not, Bool.not_eq_true, Bool.not_eq_false] at q10) | (dsimp only at q10) | skip
      refine Reg.gpur rfl rfl rfl rfl rfl rfl (Pur.mv rfl) ?_
      obtain ⟨b, r, rfl⟩ := ne_cons (bs_ne (b := []) q5)
      refine Reg.gpur rfl rfl rfl rfl rfl rfl (Pur.idxS Tryd.underlying9 rfl rfl (by omega) (by rw [bs_size, List.length_cons]; omega)) ?_
      refine Reg.gop rfl rfl rfl rfl rfl rfl (Does.call rfl (of_ok b _ _)) ?_
      rintro _ H ⟨rfl, rfl⟩
      refine Reg.pur rfl rfl rfl rfl (Pur.pickT rfl rfl) ?_
      refine Reg.pur rfl rfl rfl rfl (Pur.mv rfl) ?_
      refine Reg.case 15 rfl (fun q15 => ?_) (fun q15 => ?_)
      · first | (simp only [decide_eq_true_eq, decide_eq_false_iff_not, Bool.not_eq_true', Bool.not_eq_false', ne_eq, Decidable.not_not, Bool.not_eq_true, Bool.not_eq_false] at q15) | (dsimp only at q15) | skip
        refine Reg.gpur rfl rfl rfl rfl rfl rfl (Pur.mv rfl) ?_
        refine Reg.gop rfl rfl rfl rfl rfl rfl (Does.call rfl (run_ok (bs (b :: r)) _ hl _)) ?_
        rintro _ H ⟨rfl, rfl⟩
        refine Reg.gpur rfl rfl rfl rfl rfl rfl (Pur.mv rfl) ?_
        refine Reg.gpur rfl rfl rfl rfl rfl rfl (Pur.eqS rfl rfl) ?_
        refine Reg.pur rfl rfl rfl rfl (Pur.pickT rfl rfl) ?_
        refine Reg.pur rfl rfl rfl rfl (Pur.mv rfl) ?_
        refine Reg.case 21 rfl (fun q21 => ?_) (fun q21 => ?_)
        · first | (simp only [decide_eq_true_eq, decide_eq_false_iff_not, Bool.not_eq_true', Bool.not_eq_false', ne_eq, Decidable.not_not, Bool.not_eq_true, Bool.not_eq_false] at q21) | (dsimp only at q21) | skip
          refine Reg.gpur rfl rfl rfl rfl rfl rfl (Pur.mv rfl) ?_
          refine Reg.gop rfl rfl rfl rfl rfl rfl (Does.call rfl (keyword_ok (b :: r) _)) ?_
          rintro _ H1_20 ⟨rfl, hE1_20⟩
          have z1_20 := hE1_20.lt
          replace hE := hE.ext hE1_20
          refine Reg.gpur rfl rfl rfl rfl rfl rfl (Pur.not rfl) ?_
          refine Reg.pur rfl rfl rfl rfl (Pur.pickT rfl rfl) ?_
          refine Reg.pur rfl rfl rfl rfl (Pur.asg rfl) ?_
          refine Reg.nil ?_
          refine At.ret rfl Tryd.func62 rfl ?_
          refine ⟨congrArg Value.bool ?_, hE⟩
          first | exact (nm_yes (by have : (((b :: r).length : Nat) : Int) ≤ 16 := q10; omega) q15 (bs_eq (by rw [← bs_take]; exact q21))).symm | exact (nm_run (fun hh => absurd (show ((bs (b :: r)).extract 0 (runN moreL (b :: r))).toList == (bs (b :: r)).toList by rw [bs_take, hh]; exact beq_self_eq_true _) (nt q21))).symm | exact (nm_first q15).symm | exact (nm_long (fun hh => q10 (by show (((b :: r).length : Nat) : Int) ≤ 16; omega))).symm | (rw [bs_eq (b := []) q5]; exact nm_empty.symm)
        first | (simp only [decide_eq_true_eq, decide_eq_false_iff_not, Bool.not_eq_true', Bool.not_eq_false', ne_eq, Decidable.not_not, Bool.not_eq_true, Bool.not_eq_false] at q21) | (dsimp only at q21) | skip
        refine Reg.skip rfl rfl rfl rfl rfl rfl rfl ?_
        refine Reg.skip rfl rfl rfl rfl rfl rfl rfl ?_
        refine Reg.skip rfl rfl rfl rfl rfl rfl rfl ?_
        refine Reg.pur rfl rfl rfl rfl (Pur.pickF rfl rfl) ?_
        refine Reg.pur rfl rfl rfl rfl (Pur.asg rfl) ?_
        refine Reg.nil ?_
        refine At.ret rfl Tryd.func62 rfl ?_
        refine ⟨congrArg Value.bool ?_, hE⟩
        first | exact (nm_yes (by have : (((b :: r).length : Nat) : Int) ≤ 16 := q10; omega) q15 (bs_eq (by rw [← bs_take]; exact q21))).symm | exact (nm_run (fun hh => absurd (show ((bs (b :: r)).extract 0 (runN moreL (b :: r))).toList == (bs (b :: r)).toList by rw [bs_take, hh]; exact beq_self_eq_true _) (nt q21))).symm | exact (nm_first q15).symm | exact (nm_long (fun hh => q10 (by show (((b :: r).length : Nat) : Int) ≤ 16; omega))).symm | (rw [bs_eq (b := []) q5]; exact nm_empty.symm)
      first | (simp only [decide_eq_true_eq, decide_eq_false_iff_not, Bool.not_eq_true', Bool.not_eq_false', ne_eq, Decidable.not_not, Bool.not_eq_true, Bool.not_eq_false] at q15) | (dsimp only at q15) | skip
      refine Reg.skip rfl rfl rfl rfl rfl rfl rfl ?_
      refine Reg.skip rfl rfl rfl rfl rfl rfl rfl ?_
      refine Reg.skip rfl rfl rfl rfl rfl rfl rfl ?_
      refine Reg.skip rfl rfl rfl rfl rfl rfl rfl ?_
      refine Reg.pur rfl rfl rfl rfl (Pur.pickF rfl rfl) ?_
      refine Reg.pur rfl rfl rfl rfl (Pur.mv rfl) ?_
      refine Reg.skip rfl rfl rfl rfl rfl rfl rfl ?_
      refine Reg.skip rfl rfl rfl rfl rfl rfl rfl ?_
      refine Reg.skip rfl rfl rfl rfl rfl rfl rfl ?_
      refine Reg.pur rfl rfl rfl rfl (Pur.pickF rfl rfl) ?_
      refine Reg.pur rfl rfl rfl rfl (Pur.asg rfl) ?_
      refine Reg.nil ?_
      refine At.ret rfl Tryd.func62 rfl ?_
      refine ⟨congrArg Value.bool ?_, hE⟩
      first | exact (nm_yes (by have : (((b :: r).length : Nat) : Int) ≤ 16 := q10; omega) q15 (bs_eq (by rw [← bs_take]; exact q21))).symm | exact (nm_run (fun hh => absurd (show ((bs (b :: r)).extract 0 (runN moreL (b :: r))).toList == (bs (b :: r)).toList by rw [bs_take, hh]; exact beq_self_eq_true _) (nt q21))).symm | exact (nm_first q15).symm | exact (nm_long (fun hh => q10 (by show (((b :: r).length : Nat) : Int) ≤ 16; omega))).symm | (rw [bs_eq (b := []) q5]; exact nm_empty.symm)
    first | (simp only [decide_eq_true_eq, decide_eq_false_iff_not, Bool.not_eq_true', Bool.not_eq_false', ne_eq, Decidable.not_not, Bool.not_eq_true, Bool.not_eq_false] at q10) | (dsimp only at q10) | skip
    refine Reg.skip rfl rfl rfl rfl rfl rfl rfl ?_
    obtain ⟨b, r, rfl⟩ := ne_cons (bs_ne (b := []) q5)
    refine Reg.skip rfl rfl rfl rfl rfl rfl rfl ?_
    refine Reg.skip rfl rfl rfl rfl rfl rfl rfl ?_
    refine Reg.pur rfl rfl rfl rfl (Pur.pickF rfl rfl) ?_
    refine Reg.pur rfl rfl rfl rfl (Pur.mv rfl) ?_
    refine Reg.skip rfl rfl rfl rfl rfl rfl rfl ?_
    refine Reg.skip rfl rfl rfl rfl rfl rfl rfl ?_
    refine Reg.skip rfl rfl rfl rfl rfl rfl rfl ?_
    refine Reg.skip rfl rfl rfl rfl rfl rfl rfl ?_
    refine Reg.pur rfl rfl rfl rfl (Pur.pickF rfl rfl) ?_
    refine Reg.pur rfl rfl rfl rfl (Pur.mv rfl) ?_
    refine Reg.skip rfl rfl rfl rfl rfl rfl rfl ?_
    refine Reg.skip rfl rfl rfl rfl rfl rfl rfl ?_
    refine Reg.skip rfl rfl rfl rfl rfl rfl rfl ?_
    refine Reg.pur rfl rfl rfl rfl (Pur.pickF rfl rfl) ?_
    refine Reg.pur rfl rfl rfl rfl (Pur.asg rfl) ?_
    refine Reg.nil ?_
    refine At.ret rfl Tryd.func62 rfl ?_
    refine ⟨congrArg Value.bool ?_, hE⟩
    first | exact (nm_yes (by have : (((b :: r).length : Nat) : Int) ≤ 16 := q10; omega) q15 (bs_eq (by rw [← bs_take]; exact q21))).symm | exact (nm_run (fun hh => absurd (show ((bs (b :: r)).extract 0 (runN moreL (b :: r))).toList == (bs (b :: r)).toList by rw [bs_take, hh]; exact beq_self_eq_true _) (nt q21))).symm | exact (nm_first q15).symm | exact (nm_long (fun hh => q10 (by show (((b :: r).length : Nat) : Int) ≤ 16; omega))).symm | (rw [bs_eq (b := []) q5]; exact nm_empty.symm)
  first | (simp only [decide_eq_true_eq, decide_eq_false_iff_not, Bool.not_eq_true', Bool.not_eq_false', ne_eq, Decidable.not_not, Bool.not_eq_true, Bool.not_eq_false] at q5) | (dsimp only at q5) | skip
  refine Reg.skip rfl rfl rfl rfl rfl rfl rfl ?_
  refine Reg.skip rfl rfl rfl rfl rfl rfl rfl ?_
  refine Reg.skip rfl rfl rfl rfl rfl rfl rfl ?_
  refine Reg.pur rfl rfl rfl rfl (Pur.pickF rfl rfl) ?_
  refine Reg.pur rfl rfl rfl rfl (Pur.mv rfl) ?_
  refine Reg.skip rfl rfl rfl rfl rfl rfl rfl ?_
  refine Reg.skip rfl rfl rfl rfl rfl rfl rfl ?_
  refine Reg.skip rfl rfl rfl rfl rfl rfl rfl ?_
  refine Reg.pur rfl rfl rfl rfl (Pur.pickF rfl rfl) ?_
  refine Reg.pur rfl rfl rfl rfl (Pur.mv rfl) ?_
  refine Reg.skip rfl rfl rfl rfl rfl rfl rfl ?_
  refine Reg.skip rfl rfl rfl rfl rfl rfl rfl ?_
  refine Reg.skip rfl rfl rfl rfl rfl rfl rfl ?_
  refine Reg.skip rfl rfl rfl rfl rfl rfl rfl ?_
  refine Reg.pur rfl rfl rfl rfl (Pur.pickF rfl rfl) ?_
  refine Reg.pur rfl rfl rfl rfl (Pur.mv rfl) ?_
  refine Reg.skip rfl rfl rfl rfl rfl rfl rfl ?_
  refine Reg.skip rfl rfl rfl rfl rfl rfl rfl ?_
  refine Reg.skip rfl rfl rfl rfl rfl rfl rfl ?_
  refine Reg.pur rfl rfl rfl rfl (Pur.pickF rfl rfl) ?_
  refine Reg.pur rfl rfl rfl rfl (Pur.asg rfl) ?_
  refine Reg.nil ?_
  refine At.ret rfl Tryd.func62 rfl ?_
  refine ⟨congrArg Value.bool ?_, hE⟩
  first | exact (nm_yes (by have : (((b :: r).length : Nat) : Int) ≤ 16 := q10; omega) q15 (bs_eq (by rw [← bs_take]; exact q21))).symm | exact (nm_run (fun hh => absurd (show ((bs (b :: r)).extract 0 (runN moreL (b :: r))).toList == (bs (b :: r)).toList by rw [bs_take, hh]; exact beq_self_eq_true _) (nt q21))).symm | exact (nm_first q15).symm | exact (nm_long (fun hh => q10 (by show (((b :: r).length : Nat) : Int) ≤ 16; omega))).symm | (rw [bs_eq (b := []) q5]; exact nm_empty.symm)
theorem first_ok (b : UInt8) (H : Heap) : Ret Tryd.prog 117 [.int .u8 (b.toNat : Nat)] H (fun v H' => v = .bool (low b) ∧ H' = H) := by
  refine Ret.of_at (N := 9) Tryd.call117 Tryd.func117 rfl rfl rfl ?_
  have hE := Ext.refl H
  refine At.region rfl rfl ?_
  refine Reg.pur rfl rfl rfl rfl (Pur.asg rfl) ?_
  refine Reg.nil ?_
  refine At.region rfl rfl ?_
  refine Reg.pur rfl rfl rfl rfl (Pur.mv rfl) ?_
  refine Reg.pur rfl rfl rfl rfl (Pur.geq rfl rfl) ?_
  refine Reg.pur rfl rfl rfl rfl (Pur.mv rfl) ?_
  refine Reg.case 5 rfl (fun q5 => ?_) (fun q5 => ?_)
  · first | (simp only [decide_eq_true_eq, decide_eq_false_iff_not, Bool.not_eq_true', Bool.not_eq_false', ne_eq, Decidable.not_not, Bool.not_eq_true, Bool.not_eq_false] at q5) | (dsimp only at q5) | skip
    refine Reg.gpur rfl rfl rfl rfl rfl rfl (Pur.mv rfl) ?_
    refine Reg.gpur rfl rfl rfl rfl rfl rfl (Pur.leq rfl rfl) ?_
    refine Reg.pur rfl rfl rfl rfl (Pur.pickT rfl rfl) ?_
    refine Reg.pur rfl rfl rfl rfl (Pur.asg rfl) ?_
    refine Reg.nil ?_
    refine At.ret rfl Tryd.func117 rfl ?_
    refine ⟨congrArg Value.bool ?_, rfl⟩
    unfold low
    first | (rw [decide_eq_false (by omega)]; done) | (apply decide_eq_decide.2; omega)
  first | (simp only [decide_eq_true_eq, decide_eq_false_iff_not, Bool.not_eq_true', Bool.not_eq_false', ne_eq, Decidable.not_not, Bool.not_eq_true, Bool.not_eq_false] at q5) | (dsimp only at q5) | skip
  refine Reg.skip rfl rfl rfl rfl rfl rfl rfl ?_
  refine Reg.skip rfl rfl rfl rfl rfl rfl rfl ?_
  refine Reg.pur rfl rfl rfl rfl (Pur.pickF rfl rfl) ?_
  refine Reg.pur rfl rfl rfl rfl (Pur.asg rfl) ?_
  refine Reg.nil ?_
  refine At.ret rfl Tryd.func117 rfl ?_
  refine ⟨congrArg Value.bool ?_, rfl⟩
  unfold low
  first | (rw [decide_eq_false (by omega)]; done) | (apply decide_eq_decide.2; omega)
theorem digit_ok (b : UInt8) (H : Heap) : Ret Tryd.prog 120 [.int .u8 (b.toNat : Nat)] H (fun v H' => v = .bool (dgt b) ∧ H' = H) := by
  refine Ret.of_at (N := 9) Tryd.call120 Tryd.func120 rfl rfl rfl ?_
  have hE := Ext.refl H
  refine At.region rfl rfl ?_
  refine Reg.pur rfl rfl rfl rfl (Pur.asg rfl) ?_
  refine Reg.nil ?_
  refine At.region rfl rfl ?_
  refine Reg.pur rfl rfl rfl rfl (Pur.mv rfl) ?_
  refine Reg.pur rfl rfl rfl rfl (Pur.geq rfl rfl) ?_
  refine Reg.pur rfl rfl rfl rfl (Pur.mv rfl) ?_
  refine Reg.case 5 rfl (fun q5 => ?_) (fun q5 => ?_)
  · first | (simp only [decide_eq_true_eq, decide_eq_false_iff_not, Bool.not_eq_true', Bool.not_eq_false', ne_eq, Decidable.not_not, Bool.not_eq_true, Bool.not_eq_false] at q5) | (dsimp only at q5) | skip
    refine Reg.gpur rfl rfl rfl rfl rfl rfl (Pur.mv rfl) ?_
    refine Reg.gpur rfl rfl rfl rfl rfl rfl (Pur.leq rfl rfl) ?_
    refine Reg.pur rfl rfl rfl rfl (Pur.pickT rfl rfl) ?_
    refine Reg.pur rfl rfl rfl rfl (Pur.asg rfl) ?_
    refine Reg.nil ?_
    refine At.ret rfl Tryd.func120 rfl ?_
    refine ⟨congrArg Value.bool ?_, rfl⟩
    unfold dgt
    first | (rw [decide_eq_false (by omega)]; done) | (apply decide_eq_decide.2; omega)
  first | (simp only [decide_eq_true_eq, decide_eq_false_iff_not, Bool.not_eq_true', Bool.not_eq_false', ne_eq, Decidable.not_not, Bool.not_eq_true, Bool.not_eq_false] at q5) | (dsimp only at q5) | skip
  refine Reg.skip rfl rfl rfl rfl rfl rfl rfl ?_
  refine Reg.skip rfl rfl rfl rfl rfl rfl rfl ?_
  refine Reg.pur rfl rfl rfl rfl (Pur.pickF rfl rfl) ?_
  refine Reg.pur rfl rfl rfl rfl (Pur.asg rfl) ?_
  refine Reg.nil ?_
  refine At.ret rfl Tryd.func120 rfl ?_
  refine ⟨congrArg Value.bool ?_, rfl⟩
  unfold dgt
  first | (rw [decide_eq_false (by omega)]; done) | (apply decide_eq_decide.2; omega)
theorem later_ok (b : UInt8) (H : Heap) : Ret Tryd.prog 118 [.int .u8 (b.toNat : Nat)] H (fun v H' => v = .bool (late b) ∧ H' = H) := by
  refine Ret.of_at (N := 13) Tryd.call118 Tryd.func118 rfl rfl rfl ?_
  have hE := Ext.refl H
  refine At.region rfl rfl ?_
  refine Reg.pur rfl rfl rfl rfl (Pur.asg rfl) ?_
  refine Reg.nil ?_
  refine At.region rfl rfl ?_
  refine Reg.pur rfl rfl rfl rfl (Pur.mv rfl) ?_
  refine Reg.op rfl rfl rfl rfl (Does.call rfl (first_ok _ _)) ?_
  rintro _ H ⟨rfl, rfl⟩
  refine Reg.pur rfl rfl rfl rfl (Pur.mv rfl) ?_
  refine Reg.case 5 rfl (fun q5 => ?_) (fun q5 => ?_)
  · first | (simp only [decide_eq_true_eq, decide_eq_false_iff_not, Bool.not_eq_true', Bool.not_eq_false', ne_eq, Decidable.not_not, Bool.not_eq_true, Bool.not_eq_false] at q5) | (dsimp only at q5) | skip
    refine Reg.skip rfl rfl rfl rfl rfl rfl rfl ?_
    refine Reg.skip rfl rfl rfl rfl rfl rfl rfl ?_
    refine Reg.pur rfl rfl rfl rfl (Pur.pickT rfl rfl) ?_
    refine Reg.pur rfl rfl rfl rfl (Pur.mv rfl) ?_
    refine Reg.skip rfl rfl rfl rfl rfl rfl rfl ?_
    refine Reg.skip rfl rfl rfl rfl rfl rfl rfl ?_
    refine Reg.pur rfl rfl rfl rfl (Pur.pickT rfl rfl) ?_
    refine Reg.pur rfl rfl rfl rfl (Pur.asg rfl) ?_
    refine Reg.nil ?_
    refine At.ret rfl Tryd.func118 rfl ?_
    refine ⟨congrArg Value.bool ?_, rfl⟩
    unfold late
    simp only [*, Bool.true_or, Bool.or_true, Bool.false_or]
    first | done | (apply decide_eq_decide.2; omega)
  first | (simp only [decide_eq_true_eq, decide_eq_false_iff_not, Bool.not_eq_true', Bool.not_eq_false', ne_eq, Decidable.not_not, Bool.not_eq_true, Bool.not_eq_false] at q5) | (dsimp only at q5) | skip
  refine Reg.gpur rfl rfl rfl rfl rfl rfl (Pur.mv rfl) ?_
  refine Reg.gop rfl rfl rfl rfl rfl rfl (Does.call rfl (digit_ok _ _)) ?_
  rintro _ H ⟨rfl, rfl⟩
  refine Reg.pur rfl rfl rfl rfl (Pur.pickF rfl rfl) ?_
  refine Reg.pur rfl rfl rfl rfl (Pur.mv rfl) ?_
  refine Reg.case 9 rfl (fun q9 => ?_) (fun q9 => ?_)
  · first | (simp only [decide_eq_true_eq, decide_eq_false_iff_not, Bool.not_eq_true', Bool.not_eq_false', ne_eq, Decidable.not_not, Bool.not_eq_true, Bool.not_eq_false] at q9) | (dsimp only at q9) | skip
    refine Reg.skip rfl rfl rfl rfl rfl rfl rfl ?_
    refine Reg.skip rfl rfl rfl rfl rfl rfl rfl ?_
    refine Reg.pur rfl rfl rfl rfl (Pur.pickT rfl rfl) ?_
    refine Reg.pur rfl rfl rfl rfl (Pur.asg rfl) ?_
    refine Reg.nil ?_
    refine At.ret rfl Tryd.func118 rfl ?_
    refine ⟨congrArg Value.bool ?_, rfl⟩
    unfold late
    simp only [*, Bool.true_or, Bool.or_true, Bool.false_or]
    first | done | (apply decide_eq_decide.2; omega)
  first | (simp only [decide_eq_true_eq, decide_eq_false_iff_not, Bool.not_eq_true', Bool.not_eq_false', ne_eq, Decidable.not_not, Bool.not_eq_true, Bool.not_eq_false] at q9) | (dsimp only at q9) | skip
  refine Reg.gpur rfl rfl rfl rfl rfl rfl (Pur.mv rfl) ?_
  refine Reg.gpur rfl rfl rfl rfl rfl rfl (Pur.eql rfl rfl) ?_
  refine Reg.pur rfl rfl rfl rfl (Pur.pickF rfl rfl) ?_
  refine Reg.pur rfl rfl rfl rfl (Pur.asg rfl) ?_
  refine Reg.nil ?_
  refine At.ret rfl Tryd.func118 rfl ?_
  refine ⟨congrArg Value.bool ?_, rfl⟩
  unfold late
  simp only [*, Bool.true_or, Bool.or_true, Bool.false_or]
  first | done | (apply decide_eq_decide.2; omega)
theorem bang_succ {b : UInt8} {r : BS} {i : Nat} (h : i < r.length) : (bs (b :: r)).data[((i : Int) + 1).toNat]! = r[i] := by
  rw [show ((i : Int) + 1).toNat = i + 1 from by omega, bang_get (s := bs (b :: r)) (by rw [bs_data, List.length_cons]; omega)]; rfl
theorem lett_ok (l : BS) (hl : l.length ≤ 140737488355328) (H : Heap) : Ret Tryd.prog 114 [S l] H (fun v H' => v = .bool (lets l) ∧ H' = H) := by
  refine Ret.of_at (N := 23) Tryd.call114 Tryd.func114 rfl rfl rfl ?_
  have hE := Ext.refl H
  refine At.region rfl rfl ?_
  refine Reg.pur rfl rfl rfl rfl (Pur.asg rfl) ?_
  refine Reg.nil ?_
  refine At.region rfl rfl ?_
  refine Reg.pur rfl rfl rfl rfl (Pur.mv rfl) ?_
  refine Reg.pur rfl rfl rfl rfl (Pur.eqS rfl rfl) ?_
  refine Reg.pur rfl rfl rfl rfl (Pur.mv rfl) ?_
  refine Reg.case 6 rfl (fun q6 => ?_) (fun q6 => ?_)
  · first | (simp only [decide_eq_true_eq, decide_eq_false_iff_not, Bool.not_eq_true', Bool.not_eq_false', ne_eq, Decidable.not_not, Bool.not_eq_true, Bool.not_eq_false] at q6) | (dsimp only at q6) | skip
    refine Reg.skip rfl rfl rfl rfl rfl rfl rfl ?_
    refine Reg.skip rfl rfl rfl rfl rfl rfl rfl ?_
    refine Reg.skip rfl rfl rfl rfl rfl rfl rfl ?_
    refine Reg.skip rfl rfl rfl rfl rfl rfl rfl ?_
    refine Reg.pur rfl rfl rfl rfl (Pur.pickT rfl rfl) ?_
    refine Reg.nil ?_
    refine At.condT rfl rfl rfl ?_
    refine At.region rfl rfl ?_
    refine Reg.pur rfl rfl rfl rfl (Pur.asg rfl) ?_
    refine Reg.nil ?_
    refine At.ret rfl Tryd.func114 rfl ?_
    refine ⟨congrArg Value.bool ?_, rfl⟩
    first | (rw [bs_eq (b := []) q6]; rfl) | (rw [lets, ‹low b = false›]; rfl)
  first | (simp only [decide_eq_true_eq, decide_eq_false_iff_not, Bool.not_eq_true', Bool.not_eq_false', ne_eq, Decidable.not_not, Bool.not_eq_true, Bool.not_eq_false] at q6) | (dsimp only at q6) | skip
  refine Reg.gpur rfl rfl rfl rfl rfl rfl (Pur.mv rfl) ?_
  obtain ⟨b, r, rfl⟩ := ne_cons (bs_ne (b := []) q6)
  refine Reg.gpur rfl rfl rfl rfl rfl rfl (Pur.idxS Tryd.underlying9 rfl rfl (by omega) (by rw [bs_size, List.length_cons]; omega)) ?_
  refine Reg.gop rfl rfl rfl rfl rfl rfl (Does.call rfl (first_ok b _)) ?_
  rintro _ H ⟨rfl, rfl⟩
  refine Reg.gpur rfl rfl rfl rfl rfl rfl (Pur.not rfl) ?_
  refine Reg.pur rfl rfl rfl rfl (Pur.pickF rfl rfl) ?_
  refine Reg.nil ?_
  refine At.cond rfl rfl (fun q11 => ?_) (fun q11 => ?_)
  · first | (simp only [decide_eq_true_eq, decide_eq_false_iff_not, Bool.not_eq_true', Bool.not_eq_false', ne_eq, Decidable.not_not, Bool.not_eq_true, Bool.not_eq_false] at q11) | (dsimp only at q11) | skip
    refine At.region rfl rfl ?_
    refine Reg.pur rfl rfl rfl rfl (Pur.asg rfl) ?_
    refine Reg.nil ?_
    refine At.ret rfl Tryd.func114 rfl ?_
    refine ⟨congrArg Value.bool ?_, rfl⟩
    first | (rw [bs_eq (b := []) q6]; rfl) | (rw [lets, ‹low b = false›]; rfl)
  first | (simp only [decide_eq_true_eq, decide_eq_false_iff_not, Bool.not_eq_true', Bool.not_eq_false', ne_eq, Decidable.not_not, Bool.not_eq_true, Bool.not_eq_false] at q11) | (dsimp only at q11) | skip
  refine At.region rfl rfl ?_
  refine Reg.pur rfl rfl rfl rfl (Pur.asg rfl) ?_
  refine Reg.nil ?_
  refine At.loop (σ := Nat) (fun i => [(3, I (i + 1)), (0, S (b :: r))]) (fun i H' => i ≤ r.length ∧ (r.take i).all late = true ∧ H' = H) (fun i => r.length - i) 0 rfl ⟨rfl, rfl, trivial⟩ ⟨by omega, rfl, rfl⟩ ?_
  rintro i H ⟨hi, hgo, rfl⟩ ih
  refine At.region rfl rfl ?_
  refine Reg.pur rfl rfl rfl rfl (Pur.mv rfl) ?_
  refine Reg.pur rfl rfl rfl rfl (Pur.mv rfl) ?_
  refine Reg.pur rfl rfl rfl rfl (Pur.lenT rfl rfl) ?_
  refine Reg.pur rfl rfl rfl rfl (Pur.lss rfl rfl) ?_
  refine Reg.nil ?_
  refine At.cond rfl rfl (fun q15 => ?_) (fun q15 => ?_)
  · first | (simp only [decide_eq_true_eq, decide_eq_false_iff_not, Bool.not_eq_true', Bool.not_eq_false', ne_eq, Decidable.not_not, Bool.not_eq_true, Bool.not_eq_false] at q15) | (dsimp only at q15) | skip
    have hir : i < r.length := by have : (i : Int) + 1 < (((b :: r).length : Nat) : Int) := ‹_›; rw [List.length_cons] at this; omega
    have hbg : (bs (b :: r)).data[((i : Int) + 1).toNat]! = r[i] := bang_succ hir
    refine At.region rfl rfl ?_
    refine Reg.pur rfl rfl rfl rfl (Pur.mv rfl) ?_
    refine Reg.pur rfl rfl rfl rfl (Pur.mv rfl) ?_
    refine Reg.pur rfl rfl rfl rfl (Pur.idxS Tryd.underlying9 rfl rfl (by omega) (by rw [bs_size, List.length_cons]; omega)) ?_
    refine Reg.op rfl rfl rfl rfl (Does.call rfl (later_ok ((bs (b :: r)).data[((i : Int) + 1).toNat]!) _)) ?_
    rintro _ H ⟨rfl, rfl⟩
    refine Reg.pur rfl rfl rfl rfl (Pur.not rfl) ?_
    refine Reg.nil ?_
    refine At.cond rfl rfl (fun q22 => ?_) (fun q22 => ?_)
    · first | (simp only [decide_eq_true_eq, decide_eq_false_iff_not, Bool.not_eq_true', Bool.not_eq_false', ne_eq, Decidable.not_not, Bool.not_eq_true, Bool.not_eq_false] at q22) | (dsimp only at q22) | skip
      refine At.region rfl rfl ?_
      refine Reg.pur rfl rfl rfl rfl (Pur.asg rfl) ?_
      refine Reg.nil ?_
      refine At.ret rfl Tryd.func114 rfl ?_
      refine ⟨congrArg Value.bool ?_, rfl⟩
      rw [hbg] at *
      rw [lets, ← List.take_append_drop (i + 1) r, List.all_append, List.take_succ_eq_append_getElem hir, List.all_append]
      simp only [List.all_cons, ‹late r[i] = false›, Bool.false_and, Bool.and_false]
    first | (simp only [decide_eq_true_eq, decide_eq_false_iff_not, Bool.not_eq_true', Bool.not_eq_false', ne_eq, Decidable.not_not, Bool.not_eq_true, Bool.not_eq_false] at q22) | (dsimp only at q22) | skip
    refine At.region rfl rfl ?_
    refine Reg.pur rfl rfl rfl rfl (Pur.mv rfl) ?_
    refine Reg.pur rfl rfl rfl rfl (Pur.add64 rfl rfl (by rw [List.length_cons] at hl; omega)) ?_
    refine Reg.pur rfl rfl rfl rfl (Pur.asg rfl) ?_
    refine Reg.nil ?_
    rw [hbg] at *
    refine At.meets rfl (ih (i + 1) _ ⟨by omega, ?_, rfl⟩ (by omega)) ⟨rfl, rfl, trivial⟩
    rw [List.take_succ_eq_append_getElem hir, List.all_append, hgo]; simpa using ‹late r[i] = true›
  first | (simp only [decide_eq_true_eq, decide_eq_false_iff_not, Bool.not_eq_true', Bool.not_eq_false', ne_eq, Decidable.not_not, Bool.not_eq_true, Bool.not_eq_false] at q15) | (dsimp only at q15) | skip
  refine At.region rfl rfl ?_
  refine Reg.pur rfl rfl rfl rfl (Pur.asg rfl) ?_
  refine Reg.nil ?_
  refine At.ret rfl Tryd.func114 rfl ?_
  refine ⟨congrArg Value.bool ?_, rfl⟩
  have hir : ¬ ((i : Int) + 1 < (((b :: r).length : Nat) : Int)) := ‹_›
  rw [List.length_cons] at hir
  rw [List.take_of_length_le (by omega)] at hgo
  rw [lets, hgo, ‹low b = true›]; rfl
/-- the reference's text of keywords -/
def wT : BS := 32 :: kwT ++ [32]
theorem word_in (l : BS) (h : lets l = true) (hl : l.length ≤ 76) (i : Nat) (hi : i + (l.length + 2) ≤ 78) (he : (wT.drop i).take (l.length + 2) = 32 :: l ++ [32]) : isKw l = true := by
  have key : ((List.range 78).all fun i => (List.range 77).all fun n => !lets ((wT.drop i).take (n + 2)).tail.dropLast || !((wT.drop i).take (n + 2) == 32 :: ((wT.drop i).take (n + 2)).tail.dropLast ++ [32]) || isKw ((wT.drop i).take (n + 2)).tail.dropLast) = true := by kernel_rfl
  rw [List.all_eq_true] at key
  have k1 := key i (List.mem_range.2 (by omega))
  rw [List.all_eq_true] at k1
  have k2 := k1 l.length (List.mem_range.2 (by omega))
  have e : ((wT.drop i).take (l.length + 2)).tail.dropLast = l := by rw [he]; simp
  rw [e, he, h] at k2
  simpa using k2
theorem in_word (l : BS) (h : isKw l = true) : ∃ i, i + (l.length + 2) ≤ 78 ∧ (wT.drop i).take (l.length + 2) = 32 :: l ++ [32] := by
  have key : (kws.all fun w => (List.range 78).any fun i => decide (i + (w.length + 2) ≤ 78) && ((wT.drop i).take (w.length + 2) == 32 :: w ++ [32])) = true := by kernel_rfl
  rw [List.all_eq_true] at key
  have k1 := key l (List.contains_iff_mem.1 h)
  rw [List.any_eq_true] at k1
  obtain ⟨i, _, hi⟩ := k1
  rw [Bool.and_eq_true, beq_iff_eq] at hi
  exact ⟨i, of_decide_eq_true hi.1, hi.2⟩
section rules
variable {P : Program} {dst : Option Tmp} {ty : TypeId} {pos : String} {aft : Array Edge} {gd : Option (Nat × Bool)} {e : Env} {H : Heap}
theorem addK {t t' : TypeId} {x y : Operand} {a b : BS} (hx : ev e x = some (S a)) (hy : ev e y = some (S b)) (h : a.length + b.length ≤ 9223372036854775807) :
    Pur P ⟨dst, .binOp .add t x y t', ty, pos, aft, gd⟩ e (S (a ++ b)) := by
  have := Pur.addS (P := P) (dst := dst) (ty := ty) (pos := pos) (aft := aft) (gd := gd) (t := t) (t' := t') hx hy h
  rwa [show bs a ++ bs b = bs (a ++ b) from str_eq (by simp [bs])] at this
theorem cutK2 {t : TypeId} {x y z : Operand} {w : BS} {l n : Nat} {m : Int} (hu : P.underlying t = some .string) (hx : ev e x = some (S w)) (hz : ev e z = some (I l)) (hy : ev e y = some (I m)) (hm : m = ((l + n : Nat) : Int)) (h1 : l + n ≤ w.length) :
    Pur P ⟨dst, .slice t x (some z) (some y) none, ty, pos, aft, gd⟩ e (S ((w.drop l).take n)) := by
  subst hm
  have := Pur.cutS2 (P := P) (dst := dst) (ty := ty) (pos := pos) (aft := aft) (gd := gd) hu hx hz hy (by omega) h1
  rwa [show (bs w).extract l (l + n) = bs ((w.drop l).take n) from str_eq (by simp [bs])] at this
end rules
theorem keyR_ok (l : BS) (hl : l.length ≤ 140737488355328) (H : Heap) : Ret Tryd.prog 115 [S l] H (fun v H' => v = .bool (lets l && isKw l) ∧ H' = H) := by
  refine Ret.of_at (N := 26) Tryd.call115 Tryd.func115 rfl rfl rfl ?_
  have hE := Ext.refl H
  refine At.region rfl rfl ?_
  refine Reg.pur rfl rfl rfl rfl (Pur.asg rfl) ?_
  refine Reg.nil ?_
  refine At.region rfl rfl ?_
  refine Reg.pur rfl rfl rfl rfl (Pur.mv rfl) ?_
  refine Reg.op rfl rfl rfl rfl (Does.call rfl (lett_ok l hl _)) ?_
  rintro _ H ⟨rfl, rfl⟩
  refine Reg.pur rfl rfl rfl rfl (Pur.not rfl) ?_
  refine Reg.nil ?_
  refine At.cond rfl rfl (fun q7 => ?_) (fun q7 => ?_)
  · first | (simp only [decide_eq_true_eq, decide_eq_false_iff_not, Bool.not_eq_true', Bool.not_eq_false', ne_eq, Decidable.not_not, Bool.not_eq_true, Bool.not_eq_false] at q7) | (dsimp only at q7) | skip
    refine At.region rfl rfl ?_
    refine Reg.pur rfl rfl rfl rfl (Pur.asg rfl) ?_
    refine Reg.nil ?_
    refine At.ret rfl Tryd.func115 rfl ?_
    exact ⟨by rw [‹lets l = false›]; rfl, rfl⟩
  first | (simp only [decide_eq_true_eq, decide_eq_false_iff_not, Bool.not_eq_true', Bool.not_eq_false', ne_eq, Decidable.not_not, Bool.not_eq_true, Bool.not_eq_false] at q7) | (dsimp only at q7) | skip
  refine At.region rfl rfl ?_
  refine Reg.pur rfl rfl rfl rfl (Pur.mv rfl) ?_
  refine Reg.pur rfl rfl rfl rfl (addK (a := [32]) (b := l) rfl rfl (by show 1 + l.length ≤ _; omega)) ?_
  refine Reg.pur rfl rfl rfl rfl (addK (a := [32] ++ l) (b := [32]) rfl rfl (by rw [List.length_append]; show (1 + l.length) + 1 ≤ _; omega)) ?_
  refine Reg.pur rfl rfl rfl rfl (Pur.asg rfl) ?_
  refine Reg.nil ?_
  refine At.region rfl rfl ?_
  refine Reg.pur rfl rfl rfl rfl (Pur.asg rfl) ?_
  refine Reg.nil ?_
  have e0 : (bs ([32] ++ l ++ [32])).size = l.length + 2 := by rw [bs_size]; simp
  refine At.loop (σ := Nat) (fun i => [(4, I i), (3, S ([32] ++ l ++ [32]))]) (fun i H' => i ≤ 78 ∧ (∀ j, j < i → ¬ (wT.drop j).take (l.length + 2) = 32 :: l ++ [32]) ∧ H' = H) (fun i => 78 - i) 0 rfl ⟨rfl, rfl, trivial⟩ ⟨by omega, fun j h => by omega, rfl⟩ ?_
  rintro i H ⟨hi, hgo, rfl⟩ ih
  refine At.region rfl rfl ?_
  refine Reg.pur rfl rfl rfl rfl (Pur.mv rfl) ?_
  refine Reg.pur rfl rfl rfl rfl (Pur.mv rfl) ?_
  refine Reg.pur rfl rfl rfl rfl (Pur.lenT rfl rfl) ?_
  refine Reg.pur rfl rfl rfl rfl (Pur.add64 rfl rfl (by omega)) ?_
  refine Reg.pur rfl rfl rfl rfl (Pur.leq rfl rfl) ?_
  refine Reg.nil ?_
  refine At.cond rfl rfl (fun q15 => ?_) (fun q15 => ?_)
  · first | (simp only [decide_eq_true_eq, decide_eq_false_iff_not, Bool.not_eq_true', Bool.not_eq_false', ne_eq, Decidable.not_not, Bool.not_eq_true, Bool.not_eq_false] at q15) | (dsimp only at q15) | skip
    refine At.region rfl rfl ?_
    refine Reg.pur rfl rfl rfl rfl (Pur.mv rfl) ?_
    refine Reg.pur rfl rfl rfl rfl (Pur.mv rfl) ?_
    refine Reg.pur rfl rfl rfl rfl (Pur.mv rfl) ?_
    refine Reg.pur rfl rfl rfl rfl (Pur.lenT rfl rfl) ?_
    refine Reg.pur rfl rfl rfl rfl (Pur.add64 rfl rfl (by omega)) ?_
    refine Reg.pur rfl rfl rfl rfl (cutK2 (w := wT) (l := i) (n := l.length + 2) Tryd.underlying9 rfl rfl rfl (by rw [e0]; omega) (by show i + (l.length + 2) ≤ 78; rw [e0] at *; omega)) ?_
    refine Reg.pur rfl rfl rfl rfl (Pur.mv rfl) ?_
    refine Reg.pur rfl rfl rfl rfl (Pur.eqS rfl rfl) ?_
    refine Reg.nil ?_
    refine At.cond rfl rfl (fun q25 => ?_) (fun q25 => ?_)
    · first | (simp only [decide_eq_true_eq, decide_eq_false_iff_not, Bool.not_eq_true', Bool.not_eq_false', ne_eq, Decidable.not_not, Bool.not_eq_true, Bool.not_eq_false] at q25) | (dsimp only at q25) | skip
      refine At.region rfl rfl ?_
      refine Reg.pur rfl rfl rfl rfl (Pur.asg rfl) ?_
      refine Reg.nil ?_
      refine At.ret rfl Tryd.func115 rfl ?_
      have := bs_eq q25
      rw [e0] at *
      exact ⟨by rw [‹lets l = true›, word_in l ‹_› (by omega) i (by omega) this]; rfl, rfl⟩
    first | (simp only [decide_eq_true_eq, decide_eq_false_iff_not, Bool.not_eq_true', Bool.not_eq_false', ne_eq, Decidable.not_not, Bool.not_eq_true, Bool.not_eq_false] at q25) | (dsimp only at q25) | skip
    refine At.region rfl rfl ?_
    refine Reg.pur rfl rfl rfl rfl (Pur.mv rfl) ?_
    refine Reg.pur rfl rfl rfl rfl (Pur.add64 rfl rfl (by omega)) ?_
    refine Reg.pur rfl rfl rfl rfl (Pur.asg rfl) ?_
    refine Reg.nil ?_
    refine At.meets rfl (ih (i + 1) _ ⟨by rw [e0] at *; omega, fun j hj => ?_, rfl⟩ (by rw [e0] at *; omega)) ⟨rfl, rfl, trivial⟩
    by_cases hji : j = i
    · subst hji; exact bs_ne q25
    · exact hgo j (by omega)
  first | (simp only [decide_eq_true_eq, decide_eq_false_iff_not, Bool.not_eq_true', Bool.not_eq_false', ne_eq, Decidable.not_not, Bool.not_eq_true, Bool.not_eq_false] at q15) | (dsimp only at q15) | skip
  refine At.region rfl rfl ?_
  refine Reg.pur rfl rfl rfl rfl (Pur.asg rfl) ?_
  refine Reg.nil ?_
  refine At.ret rfl Tryd.func115 rfl ?_
  rw [e0] at *
  refine ⟨congrArg Value.bool ?_, rfl⟩
  cases hk : isKw l with
  | false => rw [‹lets l = true›]; rfl
  | true =>
    obtain ⟨j, h1, h2⟩ := in_word l hk
    exact absurd h2 (hgo j (by omega))
theorem nameMayR_ok (l : BS) (hl : l.length ≤ 140737488355328) (H : Heap) : Ret Tryd.prog 109 [S l] H (fun v H' => v = .bool (nmMay l) ∧ H' = H) := by
  have e0 : (bs l).size = l.length := rfl
  refine Ret.of_at (N := 15) Tryd.call109 Tryd.func109 rfl rfl rfl ?_
  have hE := Ext.refl H
  refine At.region rfl rfl ?_
  refine Reg.pur rfl rfl rfl rfl (Pur.asg rfl) ?_
  refine Reg.nil ?_
  refine At.region rfl rfl ?_
  refine Reg.pur rfl rfl rfl rfl (Pur.mv rfl) ?_
  refine Reg.pur rfl rfl rfl rfl (Pur.lenT rfl rfl) ?_
  refine Reg.pur rfl rfl rfl rfl (Pur.leq rfl rfl) ?_
  refine Reg.pur rfl rfl rfl rfl (Pur.mv rfl) ?_
  refine Reg.case 6 rfl (fun q6 => ?_) (fun q6 => ?_)
  · first | (simp only [decide_eq_true_eq, decide_eq_false_iff_not, Bool.not_eq_true', Bool.not_eq_false', ne_eq, Decidable.not_not, Bool.not_eq_true, Bool.not_eq_false] at q6) | (dsimp only at q6) | skip
    refine Reg.gpur rfl rfl rfl rfl rfl rfl (Pur.mv rfl) ?_
    refine Reg.gop rfl rfl rfl rfl rfl rfl (Does.call rfl (lett_ok l hl _)) ?_
    rintro _ H ⟨rfl, rfl⟩
    refine Reg.pur rfl rfl rfl rfl (Pur.pickT rfl rfl) ?_
    refine Reg.pur rfl rfl rfl rfl (Pur.mv rfl) ?_
    refine Reg.case 10 rfl (fun q10 => ?_) (fun q10 => ?_)
    · first | (simp only [decide_eq_true_eq, decide_eq_false_iff_not, Bool.not_eq_true', Bool.not_eq_false', ne_eq, Decidable.not_not, Bool.not_eq_true, Bool.not_eq_false] at q10) | (dsimp only at q10) | skip
      refine Reg.gpur rfl rfl rfl rfl rfl rfl (Pur.mv rfl) ?_
      refine Reg.gop rfl rfl rfl rfl rfl rfl (Does.call rfl (keyR_ok l hl _)) ?_
      rintro _ H ⟨rfl, rfl⟩
      refine Reg.gpur rfl rfl rfl rfl rfl rfl (Pur.not rfl) ?_
      refine Reg.pur rfl rfl rfl rfl (Pur.pickT rfl rfl) ?_
      refine Reg.pur rfl rfl rfl rfl (Pur.asg rfl) ?_
      refine Reg.nil ?_
      refine At.ret rfl Tryd.func109 rfl ?_
      refine ⟨congrArg Value.bool ?_, rfl⟩
      rw [e0] at *
      first | exact (nm_long (by omega)).symm | (rw [nmMay, ‹lets l = false›]; simp; done) | (rw [nmMay, ‹lets l = true›, decide_eq_true (by omega)]; rfl)
    first | (simp only [decide_eq_true_eq, decide_eq_false_iff_not, Bool.not_eq_true', Bool.not_eq_false', ne_eq, Decidable.not_not, Bool.not_eq_true, Bool.not_eq_false] at q10) | (dsimp only at q10) | skip
    refine Reg.skip rfl rfl rfl rfl rfl rfl rfl ?_
    refine Reg.skip rfl rfl rfl rfl rfl rfl rfl ?_
    refine Reg.skip rfl rfl rfl rfl rfl rfl rfl ?_
    refine Reg.pur rfl rfl rfl rfl (Pur.pickF rfl rfl) ?_
    refine Reg.pur rfl rfl rfl rfl (Pur.asg rfl) ?_
    refine Reg.nil ?_
    refine At.ret rfl Tryd.func109 rfl ?_
    refine ⟨congrArg Value.bool ?_, rfl⟩
    rw [e0] at *
    first | exact (nm_long (by omega)).symm | (rw [nmMay, ‹lets l = false›]; simp; done) | (rw [nmMay, ‹lets l = true›, decide_eq_true (by omega)]; rfl)
  first | (simp only [decide_eq_true_eq, decide_eq_false_iff_not, Bool.not_eq_true', Bool.not_eq_false', ne_eq, Decidable.not_not, Bool.not_eq_true, Bool.not_eq_false] at q6) | (dsimp only at q6) | skip
  refine Reg.skip rfl rfl rfl rfl rfl rfl rfl ?_
  refine Reg.skip rfl rfl rfl rfl rfl rfl rfl ?_
  refine Reg.pur rfl rfl rfl rfl (Pur.pickF rfl rfl) ?_
  refine Reg.pur rfl rfl rfl rfl (Pur.mv rfl) ?_
  refine Reg.skip rfl rfl rfl rfl rfl rfl rfl ?_
  refine Reg.skip rfl rfl rfl rfl rfl rfl rfl ?_
  refine Reg.skip rfl rfl rfl rfl rfl rfl rfl ?_
  refine Reg.pur rfl rfl rfl rfl (Pur.pickF rfl rfl) ?_
  refine Reg.pur rfl rfl rfl rfl (Pur.asg rfl) ?_
  refine Reg.nil ?_
  refine At.ret rfl Tryd.func109 rfl ?_
  refine ⟨congrArg Value.bool ?_, rfl⟩
  rw [e0] at *
  first | exact (nm_long (by omega)).symm | (rw [nmMay, ‹lets l = false›]; simp; done) | (rw [nmMay, ‹lets l = true›, decide_eq_true (by omega)]; rfl)
end Go.Proofs.YtjhkmebmbopfoaaDoor
