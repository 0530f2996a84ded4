/-
  Places: what a person reads, of package place and of its reference.
-/
import Derived.Test.YtjhkmebmbopfoaaDoorPlcB
namespace Go.Proofs.YtjhkmebmbopfoaaDoor
set_option linter.unusedSimpArgs false
set_option linter.unusedVariables false
set_option maxRecDepth 8000
set_option maxHeartbeats 1000000
open Go Go.Fx Go.Proofs
namespace FactsPlcC
theorem ag37 : ag Tryd.prog 37 = some 2 := by kernel_rfl
theorem es54 : esz Tryd.prog 54 = some 1 := by kernel_rfl
theorem fo37_0 : foff Tryd.prog 37 0 = some 0 := by kernel_rfl
theorem fo37_1 : foff Tryd.prog 37 1 = some 1 := by kernel_rfl
theorem fo39_0 : foff Tryd.prog 39 0 = some 0 := by kernel_rfl
theorem fo39_1 : foff Tryd.prog 39 1 = some 1 := by kernel_rfl
theorem fo39_2 : foff Tryd.prog 39 2 = some 2 := by kernel_rfl
theorem fo39_3 : foff Tryd.prog 39 3 = some 3 := by kernel_rfl
theorem fo39_4 : foff Tryd.prog 39 4 = some 5 := by kernel_rfl
theorem mixed : Tryd.prog.follows .mixedOrders = true := by kernel_rfl
theorem sc3 : sc Tryd.prog 3 = true := by kernel_rfl
theorem sc9 : sc Tryd.prog 9 = true := by kernel_rfl
theorem sl1_54 : Go.Fx.sl1 Tryd.prog 54 = true := by kernel_rfl
end FactsPlcC
open FactsPlcC

abbrev fitsI (n : Int) : Prop := -9223372036854775808 ≤ n ∧ n ≤ 9223372036854775807
theorem num_ok (n : Int) (H : Heap) (h : fitsI n) : Ret Tryd.prog 13 [I n] H (fun v H' => v = I n ∧ H' = H) := by
  refine Ret.of_at (N := 4) Tryd.call13 Tryd.func13 rfl rfl rfl ?_
  refine At.region rfl rfl ?_
  refine Reg.pur rfl rfl rfl rfl (Pur.asg rfl) ?_
  refine Reg.nil ?_
  refine At.region rfl rfl ?_
  refine Reg.pur rfl rfl rfl rfl (Pur.mv rfl) ?_
  refine Reg.pur rfl rfl rfl rfl (Pur.asg rfl) ?_
  refine Reg.nil ?_
  refine At.ret rfl Tryd.func13 rfl ?_
  exact ⟨rfl, rfl⟩

/-- an outcome may be -/
abbrev mayP (k n : Int) : Prop := (k = 0 ∧ -1073741824 ≤ n ∧ n ≤ 1073741823) ∨ ((k = 1 ∨ k = 3) ∧ 0 ≤ n ∧ n ≤ 1) ∨ ((k = 2 ∨ k = 4 ∨ k = 5) ∧ n = 0)
def mayO (k n : Int) : Bool := decide (mayP k n)
theorem omay_ok (k n : Int) (H : Heap) : Ret Tryd.prog 28 [.agg (Is [k, n]).toArray] H (fun v H' => v = .bool (mayO k n) ∧ Ext H H') := by
  refine Ret.of_at (N := 33) Tryd.call28 Tryd.func28 rfl rfl rfl ?_
  refine At.region rfl rfl ?_
  refine Reg.op rfl rfl rfl rfl (Does.box rfl rfl) ?_
  rintro _ H1 ⟨rfl, hn1⟩
  refine Reg.pur rfl rfl rfl rfl (Pur.asg rfl) ?_
  refine Reg.nil ?_
  have hB := hn1.own.blk
  refine At.region rfl rfl ?_
  refine Reg.pur rfl rfl rfl rfl (Pur.asg rfl) ?_
  refine Reg.pur rfl rfl rfl rfl (Pur.asg rfl) ?_
  refine Reg.nil ?_
  refine At.region rfl rfl ?_
  refine Reg.pur rfl rfl rfl rfl (Pur.fld _ fo37_0 rfl) ?_
  refine Reg.lod rfl rfl rfl rfl (Lod.ld sc3 rfl hB rfl) ?_
  refine Reg.nil ?_
  refine At.region rfl rfl ?_
  refine Reg.pur rfl rfl rfl rfl (Pur.eql rfl rfl) ?_
  refine Reg.pur rfl rfl rfl rfl (Pur.asg rfl) ?_
  refine Reg.nil ?_
  refine At.cond rfl rfl (fun hb1 => ?_) (fun hb1 => ?_)
  · refine At.region rfl rfl ?_
    refine Reg.pur rfl rfl rfl rfl (Pur.asg rfl) ?_
    refine Reg.pur rfl rfl rfl rfl (Pur.asg rfl) ?_
    refine Reg.nil ?_
    refine At.region rfl rfl ?_
    refine Reg.pur rfl rfl rfl rfl (Pur.fld _ fo37_0 rfl) ?_
    refine Reg.lod rfl rfl rfl rfl (Lod.ld sc3 rfl hB rfl) ?_
    refine Reg.pur rfl rfl rfl rfl (Pur.geq rfl rfl) ?_
    refine Reg.pur rfl rfl rfl rfl (Pur.mv rfl) ?_
    refine Reg.case 16 rfl (fun hc2 => ?_) (fun hc2 => ?_)
    · refine Reg.gpur rfl rfl rfl rfl rfl rfl (Pur.fld _ fo37_0 rfl) ?_
      refine Reg.glod rfl rfl rfl rfl rfl rfl (Lod.ld sc3 rfl hB rfl) ?_
      refine Reg.gpur rfl rfl rfl rfl rfl rfl (Pur.leq rfl rfl) ?_
      refine Reg.pur rfl rfl rfl rfl (Pur.pickT rfl rfl) ?_
      refine Reg.pur rfl rfl rfl rfl (Pur.mv rfl) ?_
      refine Reg.case 21 rfl (fun hc3 => ?_) (fun hc3 => ?_)
      · refine Reg.gpur rfl rfl rfl rfl rfl rfl (Pur.fld _ fo37_1 rfl) ?_
        refine Reg.glod rfl rfl rfl rfl rfl rfl (Lod.ld sc3 rfl hB rfl) ?_
        refine Reg.gpur rfl rfl rfl rfl rfl rfl (Pur.mv rfl) ?_
        refine Reg.gpur rfl rfl rfl rfl rfl rfl (Pur.geq rfl rfl) ?_
        refine Reg.pur rfl rfl rfl rfl (Pur.pickT rfl rfl) ?_
        refine Reg.pur rfl rfl rfl rfl (Pur.mv rfl) ?_
        refine Reg.case 27 rfl (fun hc4 => ?_) (fun hc4 => ?_)
        · refine Reg.gpur rfl rfl rfl rfl rfl rfl (Pur.fld _ fo37_1 rfl) ?_
          refine Reg.glod rfl rfl rfl rfl rfl rfl (Lod.ld sc3 rfl hB rfl) ?_
          refine Reg.gpur rfl rfl rfl rfl rfl rfl (Pur.mv rfl) ?_
          refine Reg.gpur rfl rfl rfl rfl rfl rfl (Pur.leq rfl rfl) ?_
          refine Reg.pur rfl rfl rfl rfl (Pur.pickT rfl rfl) ?_
          refine Reg.pur rfl rfl rfl rfl (Pur.asg rfl) ?_
          refine Reg.nil ?_
          refine At.ret rfl Tryd.func28 rfl ?_
          refine ⟨congrArg Value.bool ?_, hn1.ext⟩
          simp only [decide_eq_true_eq, decide_eq_false_iff_not] at *
          first | exact (decide_eq_true (by omega)).symm | exact (decide_eq_false (by omega)).symm | exact decide_eq_decide.2 (by omega)
        refine Reg.skip rfl rfl rfl rfl rfl rfl rfl ?_
        refine Reg.skip rfl rfl rfl rfl rfl rfl rfl ?_
        refine Reg.skip rfl rfl rfl rfl rfl rfl rfl ?_
        refine Reg.skip rfl rfl rfl rfl rfl rfl rfl ?_
        refine Reg.pur rfl rfl rfl rfl (Pur.pickF rfl rfl) ?_
        refine Reg.pur rfl rfl rfl rfl (Pur.asg rfl) ?_
        refine Reg.nil ?_
        refine At.ret rfl Tryd.func28 rfl ?_
        refine ⟨congrArg Value.bool ?_, hn1.ext⟩
        simp only [decide_eq_true_eq, decide_eq_false_iff_not] at *
        first | exact (decide_eq_true (by omega)).symm | exact (decide_eq_false (by omega)).symm | exact decide_eq_decide.2 (by omega)
      refine Reg.skip rfl rfl rfl rfl rfl rfl rfl ?_
      refine Reg.skip rfl rfl rfl rfl rfl rfl rfl ?_
      refine Reg.skip rfl rfl rfl rfl rfl rfl rfl ?_
      refine Reg.skip rfl rfl rfl rfl rfl rfl rfl ?_
      refine Reg.pur rfl rfl rfl rfl (Pur.pickF rfl rfl) ?_
      refine Reg.pur rfl rfl rfl rfl (Pur.mv rfl) ?_
      refine Reg.skip rfl rfl rfl rfl rfl rfl rfl ?_
      refine Reg.skip rfl rfl rfl rfl rfl rfl rfl ?_
      refine Reg.skip rfl rfl rfl rfl rfl rfl rfl ?_
      refine Reg.skip rfl rfl rfl rfl rfl rfl rfl ?_
      refine Reg.pur rfl rfl rfl rfl (Pur.pickF rfl rfl) ?_
      refine Reg.pur rfl rfl rfl rfl (Pur.asg rfl) ?_
      refine Reg.nil ?_
      refine At.ret rfl Tryd.func28 rfl ?_
      refine ⟨congrArg Value.bool ?_, hn1.ext⟩
      simp only [decide_eq_true_eq, decide_eq_false_iff_not] at *
      first | exact (decide_eq_true (by omega)).symm | exact (decide_eq_false (by omega)).symm | exact decide_eq_decide.2 (by omega)
    refine Reg.skip rfl rfl rfl rfl rfl rfl rfl ?_
    refine Reg.skip rfl rfl rfl rfl rfl rfl rfl ?_
    refine Reg.skip rfl rfl rfl rfl rfl rfl rfl ?_
    refine Reg.pur rfl rfl rfl rfl (Pur.pickF rfl rfl) ?_
    refine Reg.pur rfl rfl rfl rfl (Pur.mv rfl) ?_
    refine Reg.skip rfl rfl rfl rfl rfl rfl rfl ?_
    refine Reg.skip rfl rfl rfl rfl rfl rfl rfl ?_
    refine Reg.skip rfl rfl rfl rfl rfl rfl rfl ?_
    refine Reg.skip rfl rfl rfl rfl rfl rfl rfl ?_
    refine Reg.pur rfl rfl rfl rfl (Pur.pickF rfl rfl) ?_
    refine Reg.pur rfl rfl rfl rfl (Pur.mv rfl) ?_
    refine Reg.skip rfl rfl rfl rfl rfl rfl rfl ?_
    refine Reg.skip rfl rfl rfl rfl rfl rfl rfl ?_
    refine Reg.skip rfl rfl rfl rfl rfl rfl rfl ?_
    refine Reg.skip rfl rfl rfl rfl rfl rfl rfl ?_
    refine Reg.pur rfl rfl rfl rfl (Pur.pickF rfl rfl) ?_
    refine Reg.pur rfl rfl rfl rfl (Pur.asg rfl) ?_
    refine Reg.nil ?_
    refine At.ret rfl Tryd.func28 rfl ?_
    refine ⟨congrArg Value.bool ?_, hn1.ext⟩
    simp only [decide_eq_true_eq, decide_eq_false_iff_not] at *
    first | exact (decide_eq_true (by omega)).symm | exact (decide_eq_false (by omega)).symm | exact decide_eq_decide.2 (by omega)
  refine At.region rfl rfl ?_
  refine Reg.pur rfl rfl rfl rfl (Pur.eql rfl rfl) ?_
  refine Reg.pur rfl rfl rfl rfl (Pur.asg rfl) ?_
  refine Reg.nil ?_
  refine At.cond rfl rfl (fun hb5 => ?_) (fun hb5 => ?_)
  · refine At.region rfl rfl ?_
    refine Reg.pur rfl rfl rfl rfl (Pur.asg rfl) ?_
    refine Reg.nil ?_
    refine At.region rfl rfl ?_
    refine Reg.pur rfl rfl rfl rfl (Pur.fld _ fo37_0 rfl) ?_
    refine Reg.lod rfl rfl rfl rfl (Lod.ld sc3 rfl hB rfl) ?_
    refine Reg.pur rfl rfl rfl rfl (Pur.geq rfl rfl) ?_
    refine Reg.pur rfl rfl rfl rfl (Pur.mv rfl) ?_
    refine Reg.case 16 rfl (fun hc6 => ?_) (fun hc6 => ?_)
    · refine Reg.gpur rfl rfl rfl rfl rfl rfl (Pur.fld _ fo37_0 rfl) ?_
      refine Reg.glod rfl rfl rfl rfl rfl rfl (Lod.ld sc3 rfl hB rfl) ?_
      refine Reg.gpur rfl rfl rfl rfl rfl rfl (Pur.leq rfl rfl) ?_
      refine Reg.pur rfl rfl rfl rfl (Pur.pickT rfl rfl) ?_
      refine Reg.pur rfl rfl rfl rfl (Pur.mv rfl) ?_
      refine Reg.case 21 rfl (fun hc7 => ?_) (fun hc7 => ?_)
      · refine Reg.gpur rfl rfl rfl rfl rfl rfl (Pur.fld _ fo37_1 rfl) ?_
        refine Reg.glod rfl rfl rfl rfl rfl rfl (Lod.ld sc3 rfl hB rfl) ?_
        refine Reg.gpur rfl rfl rfl rfl rfl rfl (Pur.mv rfl) ?_
        refine Reg.gpur rfl rfl rfl rfl rfl rfl (Pur.geq rfl rfl) ?_
        refine Reg.pur rfl rfl rfl rfl (Pur.pickT rfl rfl) ?_
        refine Reg.pur rfl rfl rfl rfl (Pur.mv rfl) ?_
        refine Reg.case 27 rfl (fun hc8 => ?_) (fun hc8 => ?_)
        · refine Reg.gpur rfl rfl rfl rfl rfl rfl (Pur.fld _ fo37_1 rfl) ?_
          refine Reg.glod rfl rfl rfl rfl rfl rfl (Lod.ld sc3 rfl hB rfl) ?_
          refine Reg.gpur rfl rfl rfl rfl rfl rfl (Pur.mv rfl) ?_
          refine Reg.gpur rfl rfl rfl rfl rfl rfl (Pur.leq rfl rfl) ?_
          refine Reg.pur rfl rfl rfl rfl (Pur.pickT rfl rfl) ?_
          refine Reg.pur rfl rfl rfl rfl (Pur.asg rfl) ?_
          refine Reg.nil ?_
          refine At.ret rfl Tryd.func28 rfl ?_
          refine ⟨congrArg Value.bool ?_, hn1.ext⟩
          simp only [decide_eq_true_eq, decide_eq_false_iff_not] at *
          first | exact (decide_eq_true (by omega)).symm | exact (decide_eq_false (by omega)).symm | exact decide_eq_decide.2 (by omega)
        refine Reg.skip rfl rfl rfl rfl rfl rfl rfl ?_
        refine Reg.skip rfl rfl rfl rfl rfl rfl rfl ?_
        refine Reg.skip rfl rfl rfl rfl rfl rfl rfl ?_
        refine Reg.skip rfl rfl rfl rfl rfl rfl rfl ?_
        refine Reg.pur rfl rfl rfl rfl (Pur.pickF rfl rfl) ?_
        refine Reg.pur rfl rfl rfl rfl (Pur.asg rfl) ?_
        refine Reg.nil ?_
        refine At.ret rfl Tryd.func28 rfl ?_
        refine ⟨congrArg Value.bool ?_, hn1.ext⟩
        simp only [decide_eq_true_eq, decide_eq_false_iff_not] at *
        first | exact (decide_eq_true (by omega)).symm | exact (decide_eq_false (by omega)).symm | exact decide_eq_decide.2 (by omega)
      refine Reg.skip rfl rfl rfl rfl rfl rfl rfl ?_
      refine Reg.skip rfl rfl rfl rfl rfl rfl rfl ?_
      refine Reg.skip rfl rfl rfl rfl rfl rfl rfl ?_
      refine Reg.skip rfl rfl rfl rfl rfl rfl rfl ?_
      refine Reg.pur rfl rfl rfl rfl (Pur.pickF rfl rfl) ?_
      refine Reg.pur rfl rfl rfl rfl (Pur.mv rfl) ?_
      refine Reg.skip rfl rfl rfl rfl rfl rfl rfl ?_
      refine Reg.skip rfl rfl rfl rfl rfl rfl rfl ?_
      refine Reg.skip rfl rfl rfl rfl rfl rfl rfl ?_
      refine Reg.skip rfl rfl rfl rfl rfl rfl rfl ?_
      refine Reg.pur rfl rfl rfl rfl (Pur.pickF rfl rfl) ?_
      refine Reg.pur rfl rfl rfl rfl (Pur.asg rfl) ?_
      refine Reg.nil ?_
      refine At.ret rfl Tryd.func28 rfl ?_
      refine ⟨congrArg Value.bool ?_, hn1.ext⟩
      simp only [decide_eq_true_eq, decide_eq_false_iff_not] at *
      first | exact (decide_eq_true (by omega)).symm | exact (decide_eq_false (by omega)).symm | exact decide_eq_decide.2 (by omega)
    refine Reg.skip rfl rfl rfl rfl rfl rfl rfl ?_
    refine Reg.skip rfl rfl rfl rfl rfl rfl rfl ?_
    refine Reg.skip rfl rfl rfl rfl rfl rfl rfl ?_
    refine Reg.pur rfl rfl rfl rfl (Pur.pickF rfl rfl) ?_
    refine Reg.pur rfl rfl rfl rfl (Pur.mv rfl) ?_
    refine Reg.skip rfl rfl rfl rfl rfl rfl rfl ?_
    refine Reg.skip rfl rfl rfl rfl rfl rfl rfl ?_
    refine Reg.skip rfl rfl rfl rfl rfl rfl rfl ?_
    refine Reg.skip rfl rfl rfl rfl rfl rfl rfl ?_
    refine Reg.pur rfl rfl rfl rfl (Pur.pickF rfl rfl) ?_
    refine Reg.pur rfl rfl rfl rfl (Pur.mv rfl) ?_
    refine Reg.skip rfl rfl rfl rfl rfl rfl rfl ?_
    refine Reg.skip rfl rfl rfl rfl rfl rfl rfl ?_
    refine Reg.skip rfl rfl rfl rfl rfl rfl rfl ?_
    refine Reg.skip rfl rfl rfl rfl rfl rfl rfl ?_
    refine Reg.pur rfl rfl rfl rfl (Pur.pickF rfl rfl) ?_
    refine Reg.pur rfl rfl rfl rfl (Pur.asg rfl) ?_
    refine Reg.nil ?_
    refine At.ret rfl Tryd.func28 rfl ?_
    refine ⟨congrArg Value.bool ?_, hn1.ext⟩
    simp only [decide_eq_true_eq, decide_eq_false_iff_not] at *
    first | exact (decide_eq_true (by omega)).symm | exact (decide_eq_false (by omega)).symm | exact decide_eq_decide.2 (by omega)
  refine At.region rfl rfl ?_
  refine Reg.pur rfl rfl rfl rfl (Pur.eql rfl rfl) ?_
  refine Reg.pur rfl rfl rfl rfl (Pur.asg rfl) ?_
  refine Reg.nil ?_
  refine At.cond rfl rfl (fun hb9 => ?_) (fun hb9 => ?_)
  · refine At.region rfl rfl ?_
    refine Reg.pur rfl rfl rfl rfl (Pur.asg rfl) ?_
    refine Reg.nil ?_
    refine At.region rfl rfl ?_
    refine Reg.pur rfl rfl rfl rfl (Pur.fld _ fo37_0 rfl) ?_
    refine Reg.lod rfl rfl rfl rfl (Lod.ld sc3 rfl hB rfl) ?_
    refine Reg.pur rfl rfl rfl rfl (Pur.geq rfl rfl) ?_
    refine Reg.pur rfl rfl rfl rfl (Pur.mv rfl) ?_
    refine Reg.case 16 rfl (fun hc10 => ?_) (fun hc10 => ?_)
    · refine Reg.gpur rfl rfl rfl rfl rfl rfl (Pur.fld _ fo37_0 rfl) ?_
      refine Reg.glod rfl rfl rfl rfl rfl rfl (Lod.ld sc3 rfl hB rfl) ?_
      refine Reg.gpur rfl rfl rfl rfl rfl rfl (Pur.leq rfl rfl) ?_
      refine Reg.pur rfl rfl rfl rfl (Pur.pickT rfl rfl) ?_
      refine Reg.pur rfl rfl rfl rfl (Pur.mv rfl) ?_
      refine Reg.case 21 rfl (fun hc11 => ?_) (fun hc11 => ?_)
      · refine Reg.gpur rfl rfl rfl rfl rfl rfl (Pur.fld _ fo37_1 rfl) ?_
        refine Reg.glod rfl rfl rfl rfl rfl rfl (Lod.ld sc3 rfl hB rfl) ?_
        refine Reg.gpur rfl rfl rfl rfl rfl rfl (Pur.mv rfl) ?_
        refine Reg.gpur rfl rfl rfl rfl rfl rfl (Pur.geq rfl rfl) ?_
        refine Reg.pur rfl rfl rfl rfl (Pur.pickT rfl rfl) ?_
        refine Reg.pur rfl rfl rfl rfl (Pur.mv rfl) ?_
        refine Reg.case 27 rfl (fun hc12 => ?_) (fun hc12 => ?_)
        · refine Reg.gpur rfl rfl rfl rfl rfl rfl (Pur.fld _ fo37_1 rfl) ?_
          refine Reg.glod rfl rfl rfl rfl rfl rfl (Lod.ld sc3 rfl hB rfl) ?_
          refine Reg.gpur rfl rfl rfl rfl rfl rfl (Pur.mv rfl) ?_
          refine Reg.gpur rfl rfl rfl rfl rfl rfl (Pur.leq rfl rfl) ?_
          refine Reg.pur rfl rfl rfl rfl (Pur.pickT rfl rfl) ?_
          refine Reg.pur rfl rfl rfl rfl (Pur.asg rfl) ?_
          refine Reg.nil ?_
          refine At.ret rfl Tryd.func28 rfl ?_
          refine ⟨congrArg Value.bool ?_, hn1.ext⟩
          simp only [decide_eq_true_eq, decide_eq_false_iff_not] at *
          first | exact (decide_eq_true (by omega)).symm | exact (decide_eq_false (by omega)).symm | exact decide_eq_decide.2 (by omega)
        refine Reg.skip rfl rfl rfl rfl rfl rfl rfl ?_
        refine Reg.skip rfl rfl rfl rfl rfl rfl rfl ?_
        refine Reg.skip rfl rfl rfl rfl rfl rfl rfl ?_
        refine Reg.skip rfl rfl rfl rfl rfl rfl rfl ?_
        refine Reg.pur rfl rfl rfl rfl (Pur.pickF rfl rfl) ?_
        refine Reg.pur rfl rfl rfl rfl (Pur.asg rfl) ?_
        refine Reg.nil ?_
        refine At.ret rfl Tryd.func28 rfl ?_
        refine ⟨congrArg Value.bool ?_, hn1.ext⟩
        simp only [decide_eq_true_eq, decide_eq_false_iff_not] at *
        first | exact (decide_eq_true (by omega)).symm | exact (decide_eq_false (by omega)).symm | exact decide_eq_decide.2 (by omega)
      refine Reg.skip rfl rfl rfl rfl rfl rfl rfl ?_
      refine Reg.skip rfl rfl rfl rfl rfl rfl rfl ?_
      refine Reg.skip rfl rfl rfl rfl rfl rfl rfl ?_
      refine Reg.skip rfl rfl rfl rfl rfl rfl rfl ?_
      refine Reg.pur rfl rfl rfl rfl (Pur.pickF rfl rfl) ?_
      refine Reg.pur rfl rfl rfl rfl (Pur.mv rfl) ?_
      refine Reg.skip rfl rfl rfl rfl rfl rfl rfl ?_
      refine Reg.skip rfl rfl rfl rfl rfl rfl rfl ?_
      refine Reg.skip rfl rfl rfl rfl rfl rfl rfl ?_
      refine Reg.skip rfl rfl rfl rfl rfl rfl rfl ?_
      refine Reg.pur rfl rfl rfl rfl (Pur.pickF rfl rfl) ?_
      refine Reg.pur rfl rfl rfl rfl (Pur.asg rfl) ?_
      refine Reg.nil ?_
      refine At.ret rfl Tryd.func28 rfl ?_
      refine ⟨congrArg Value.bool ?_, hn1.ext⟩
      simp only [decide_eq_true_eq, decide_eq_false_iff_not] at *
      first | exact (decide_eq_true (by omega)).symm | exact (decide_eq_false (by omega)).symm | exact decide_eq_decide.2 (by omega)
    refine Reg.skip rfl rfl rfl rfl rfl rfl rfl ?_
    refine Reg.skip rfl rfl rfl rfl rfl rfl rfl ?_
    refine Reg.skip rfl rfl rfl rfl rfl rfl rfl ?_
    refine Reg.pur rfl rfl rfl rfl (Pur.pickF rfl rfl) ?_
    refine Reg.pur rfl rfl rfl rfl (Pur.mv rfl) ?_
    refine Reg.skip rfl rfl rfl rfl rfl rfl rfl ?_
    refine Reg.skip rfl rfl rfl rfl rfl rfl rfl ?_
    refine Reg.skip rfl rfl rfl rfl rfl rfl rfl ?_
    refine Reg.skip rfl rfl rfl rfl rfl rfl rfl ?_
    refine Reg.pur rfl rfl rfl rfl (Pur.pickF rfl rfl) ?_
    refine Reg.pur rfl rfl rfl rfl (Pur.mv rfl) ?_
    refine Reg.skip rfl rfl rfl rfl rfl rfl rfl ?_
    refine Reg.skip rfl rfl rfl rfl rfl rfl rfl ?_
    refine Reg.skip rfl rfl rfl rfl rfl rfl rfl ?_
    refine Reg.skip rfl rfl rfl rfl rfl rfl rfl ?_
    refine Reg.pur rfl rfl rfl rfl (Pur.pickF rfl rfl) ?_
    refine Reg.pur rfl rfl rfl rfl (Pur.asg rfl) ?_
    refine Reg.nil ?_
    refine At.ret rfl Tryd.func28 rfl ?_
    refine ⟨congrArg Value.bool ?_, hn1.ext⟩
    simp only [decide_eq_true_eq, decide_eq_false_iff_not] at *
    first | exact (decide_eq_true (by omega)).symm | exact (decide_eq_false (by omega)).symm | exact decide_eq_decide.2 (by omega)
  refine At.region rfl rfl ?_
  refine Reg.pur rfl rfl rfl rfl (Pur.fld _ fo37_0 rfl) ?_
  refine Reg.lod rfl rfl rfl rfl (Lod.ld sc3 rfl hB rfl) ?_
  refine Reg.pur rfl rfl rfl rfl (Pur.geq rfl rfl) ?_
  refine Reg.pur rfl rfl rfl rfl (Pur.mv rfl) ?_
  refine Reg.case 16 rfl (fun hc13 => ?_) (fun hc13 => ?_)
  · refine Reg.gpur rfl rfl rfl rfl rfl rfl (Pur.fld _ fo37_0 rfl) ?_
    refine Reg.glod rfl rfl rfl rfl rfl rfl (Lod.ld sc3 rfl hB rfl) ?_
    refine Reg.gpur rfl rfl rfl rfl rfl rfl (Pur.leq rfl rfl) ?_
    refine Reg.pur rfl rfl rfl rfl (Pur.pickT rfl rfl) ?_
    refine Reg.pur rfl rfl rfl rfl (Pur.mv rfl) ?_
    refine Reg.case 21 rfl (fun hc14 => ?_) (fun hc14 => ?_)
    · refine Reg.gpur rfl rfl rfl rfl rfl rfl (Pur.fld _ fo37_1 rfl) ?_
      refine Reg.glod rfl rfl rfl rfl rfl rfl (Lod.ld sc3 rfl hB rfl) ?_
      refine Reg.gpur rfl rfl rfl rfl rfl rfl (Pur.mv rfl) ?_
      refine Reg.gpur rfl rfl rfl rfl rfl rfl (Pur.geq rfl rfl) ?_
      refine Reg.pur rfl rfl rfl rfl (Pur.pickT rfl rfl) ?_
      refine Reg.pur rfl rfl rfl rfl (Pur.mv rfl) ?_
      refine Reg.case 27 rfl (fun hc15 => ?_) (fun hc15 => ?_)
      · refine Reg.gpur rfl rfl rfl rfl rfl rfl (Pur.fld _ fo37_1 rfl) ?_
        refine Reg.glod rfl rfl rfl rfl rfl rfl (Lod.ld sc3 rfl hB rfl) ?_
        refine Reg.gpur rfl rfl rfl rfl rfl rfl (Pur.mv rfl) ?_
        refine Reg.gpur rfl rfl rfl rfl rfl rfl (Pur.leq rfl rfl) ?_
        refine Reg.pur rfl rfl rfl rfl (Pur.pickT rfl rfl) ?_
        refine Reg.pur rfl rfl rfl rfl (Pur.asg rfl) ?_
        refine Reg.nil ?_
        refine At.ret rfl Tryd.func28 rfl ?_
        refine ⟨congrArg Value.bool ?_, hn1.ext⟩
        simp only [decide_eq_true_eq, decide_eq_false_iff_not] at *
        first | exact (decide_eq_true (by omega)).symm | exact (decide_eq_false (by omega)).symm | exact decide_eq_decide.2 (by omega)
      refine Reg.skip rfl rfl rfl rfl rfl rfl rfl ?_
      refine Reg.skip rfl rfl rfl rfl rfl rfl rfl ?_
      refine Reg.skip rfl rfl rfl rfl rfl rfl rfl ?_
      refine Reg.skip rfl rfl rfl rfl rfl rfl rfl ?_
      refine Reg.pur rfl rfl rfl rfl (Pur.pickF rfl rfl) ?_
      refine Reg.pur rfl rfl rfl rfl (Pur.asg rfl) ?_
      refine Reg.nil ?_
      refine At.ret rfl Tryd.func28 rfl ?_
      refine ⟨congrArg Value.bool ?_, hn1.ext⟩
      simp only [decide_eq_true_eq, decide_eq_false_iff_not] at *
      first | exact (decide_eq_true (by omega)).symm | exact (decide_eq_false (by omega)).symm | exact decide_eq_decide.2 (by omega)
    refine Reg.skip rfl rfl rfl rfl rfl rfl rfl ?_
    refine Reg.skip rfl rfl rfl rfl rfl rfl rfl ?_
    refine Reg.skip rfl rfl rfl rfl rfl rfl rfl ?_
    refine Reg.skip rfl rfl rfl rfl rfl rfl rfl ?_
    refine Reg.pur rfl rfl rfl rfl (Pur.pickF rfl rfl) ?_
    refine Reg.pur rfl rfl rfl rfl (Pur.mv rfl) ?_
    refine Reg.skip rfl rfl rfl rfl rfl rfl rfl ?_
    refine Reg.skip rfl rfl rfl rfl rfl rfl rfl ?_
    refine Reg.skip rfl rfl rfl rfl rfl rfl rfl ?_
    refine Reg.skip rfl rfl rfl rfl rfl rfl rfl ?_
    refine Reg.pur rfl rfl rfl rfl (Pur.pickF rfl rfl) ?_
    refine Reg.pur rfl rfl rfl rfl (Pur.asg rfl) ?_
    refine Reg.nil ?_
    refine At.ret rfl Tryd.func28 rfl ?_
    refine ⟨congrArg Value.bool ?_, hn1.ext⟩
    simp only [decide_eq_true_eq, decide_eq_false_iff_not] at *
    first | exact (decide_eq_true (by omega)).symm | exact (decide_eq_false (by omega)).symm | exact decide_eq_decide.2 (by omega)
  refine Reg.skip rfl rfl rfl rfl rfl rfl rfl ?_
  refine Reg.skip rfl rfl rfl rfl rfl rfl rfl ?_
  refine Reg.skip rfl rfl rfl rfl rfl rfl rfl ?_
  refine Reg.pur rfl rfl rfl rfl (Pur.pickF rfl rfl) ?_
  refine Reg.pur rfl rfl rfl rfl (Pur.mv rfl) ?_
  refine Reg.skip rfl rfl rfl rfl rfl rfl rfl ?_
  refine Reg.skip rfl rfl rfl rfl rfl rfl rfl ?_
  refine Reg.skip rfl rfl rfl rfl rfl rfl rfl ?_
  refine Reg.skip rfl rfl rfl rfl rfl rfl rfl ?_
  refine Reg.pur rfl rfl rfl rfl (Pur.pickF rfl rfl) ?_
  refine Reg.pur rfl rfl rfl rfl (Pur.mv rfl) ?_
  refine Reg.skip rfl rfl rfl rfl rfl rfl rfl ?_
  refine Reg.skip rfl rfl rfl rfl rfl rfl rfl ?_
  refine Reg.skip rfl rfl rfl rfl rfl rfl rfl ?_
  refine Reg.skip rfl rfl rfl rfl rfl rfl rfl ?_
  refine Reg.pur rfl rfl rfl rfl (Pur.pickF rfl rfl) ?_
  refine Reg.pur rfl rfl rfl rfl (Pur.asg rfl) ?_
  refine Reg.nil ?_
  refine At.ret rfl Tryd.func28 rfl ?_
  refine ⟨congrArg Value.bool ?_, hn1.ext⟩
  simp only [decide_eq_true_eq, decide_eq_false_iff_not] at *
  first | exact (decide_eq_true (by omega)).symm | exact (decide_eq_false (by omega)).symm | exact decide_eq_decide.2 (by omega)
theorem omayR_ok (k n : Int) (H : Heap) : Ret Tryd.prog 31 [.agg (Is [k, n]).toArray] H (fun v H' => v = .bool (mayO k n) ∧ Ext H H') := by
  refine Ret.of_at (N := 48) Tryd.call31 Tryd.func31 rfl rfl rfl ?_
  refine At.region rfl rfl ?_
  refine Reg.op rfl rfl rfl rfl (Does.box rfl rfl) ?_
  rintro _ H1 ⟨rfl, hn1⟩
  refine Reg.pur rfl rfl rfl rfl (Pur.asg rfl) ?_
  refine Reg.nil ?_
  have hB := hn1.own.blk
  refine At.region rfl rfl ?_
  refine Reg.pur rfl rfl rfl rfl (Pur.fld _ fo37_0 rfl) ?_
  refine Reg.lod rfl rfl rfl rfl (Lod.ld sc3 rfl hB rfl) ?_
  refine Reg.nil ?_
  refine At.region rfl rfl ?_
  refine Reg.pur rfl rfl rfl rfl (Pur.eql rfl rfl) ?_
  refine Reg.pur rfl rfl rfl rfl (Pur.asg rfl) ?_
  refine Reg.nil ?_
  refine At.cond rfl rfl (fun hb1 => ?_) (fun hb1 => ?_)
  · refine At.region rfl rfl ?_
    refine Reg.pur rfl rfl rfl rfl (Pur.fld _ fo37_1 rfl) ?_
    refine Reg.lod rfl rfl rfl rfl (Lod.ld sc3 rfl hB rfl) ?_
    refine Reg.pur rfl rfl rfl rfl (Pur.geq rfl rfl) ?_
    refine Reg.pur rfl rfl rfl rfl (Pur.mv rfl) ?_
    refine Reg.case 10 rfl (fun hc2 => ?_) (fun hc2 => ?_)
    · refine Reg.gpur rfl rfl rfl rfl rfl rfl (Pur.fld _ fo37_1 rfl) ?_
      refine Reg.glod rfl rfl rfl rfl rfl rfl (Lod.ld sc3 rfl hB rfl) ?_
      refine Reg.gpur rfl rfl rfl rfl rfl rfl (Pur.leq rfl rfl) ?_
      refine Reg.pur rfl rfl rfl rfl (Pur.pickT rfl rfl) ?_
      refine Reg.pur rfl rfl rfl rfl (Pur.asg rfl) ?_
      refine Reg.nil ?_
      refine At.ret rfl Tryd.func31 rfl ?_
      refine ⟨congrArg Value.bool ?_, hn1.ext⟩
      simp only [decide_eq_true_eq, decide_eq_false_iff_not] at *
      first | exact (decide_eq_true (by omega)).symm | exact (decide_eq_false (by omega)).symm | exact decide_eq_decide.2 (by omega)
    refine Reg.skip rfl rfl rfl rfl rfl rfl rfl ?_
    refine Reg.skip rfl rfl rfl rfl rfl rfl rfl ?_
    refine Reg.skip rfl rfl rfl rfl rfl rfl rfl ?_
    refine Reg.pur rfl rfl rfl rfl (Pur.pickF rfl rfl) ?_
    refine Reg.pur rfl rfl rfl rfl (Pur.asg rfl) ?_
    refine Reg.nil ?_
    refine At.ret rfl Tryd.func31 rfl ?_
    refine ⟨congrArg Value.bool ?_, hn1.ext⟩
    simp only [decide_eq_true_eq, decide_eq_false_iff_not] at *
    first | exact (decide_eq_true (by omega)).symm | exact (decide_eq_false (by omega)).symm | exact decide_eq_decide.2 (by omega)
  refine At.region rfl rfl ?_
  refine Reg.pur rfl rfl rfl rfl (Pur.eql rfl rfl) ?_
  refine Reg.pur rfl rfl rfl rfl (Pur.asg rfl) ?_
  refine Reg.nil ?_
  refine At.cond rfl rfl (fun hb3 => ?_) (fun hb3 => ?_)
  · refine At.region rfl rfl ?_
    refine Reg.pur rfl rfl rfl rfl (Pur.fld _ fo37_1 rfl) ?_
    refine Reg.lod rfl rfl rfl rfl (Lod.ld sc3 rfl hB rfl) ?_
    refine Reg.pur rfl rfl rfl rfl (Pur.eql rfl rfl) ?_
    refine Reg.pur rfl rfl rfl rfl (Pur.mv rfl) ?_
    refine Reg.case 20 rfl (fun hc4 => ?_) (fun hc4 => ?_)
    · refine Reg.skip rfl rfl rfl rfl rfl rfl rfl ?_
      refine Reg.skip rfl rfl rfl rfl rfl rfl rfl ?_
      refine Reg.skip rfl rfl rfl rfl rfl rfl rfl ?_
      refine Reg.pur rfl rfl rfl rfl (Pur.pickT rfl rfl) ?_
      refine Reg.pur rfl rfl rfl rfl (Pur.asg rfl) ?_
      refine Reg.nil ?_
      refine At.ret rfl Tryd.func31 rfl ?_
      refine ⟨congrArg Value.bool ?_, hn1.ext⟩
      simp only [decide_eq_true_eq, decide_eq_false_iff_not] at *
      first | exact (decide_eq_true (by omega)).symm | exact (decide_eq_false (by omega)).symm | exact decide_eq_decide.2 (by omega)
    refine Reg.gpur rfl rfl rfl rfl rfl rfl (Pur.fld _ fo37_1 rfl) ?_
    refine Reg.glod rfl rfl rfl rfl rfl rfl (Lod.ld sc3 rfl hB rfl) ?_
    refine Reg.gpur rfl rfl rfl rfl rfl rfl (Pur.eql rfl rfl) ?_
    refine Reg.pur rfl rfl rfl rfl (Pur.pickF rfl rfl) ?_
    refine Reg.pur rfl rfl rfl rfl (Pur.asg rfl) ?_
    refine Reg.nil ?_
    refine At.ret rfl Tryd.func31 rfl ?_
    refine ⟨congrArg Value.bool ?_, hn1.ext⟩
    simp only [decide_eq_true_eq, decide_eq_false_iff_not] at *
    first | exact (decide_eq_true (by omega)).symm | exact (decide_eq_false (by omega)).symm | exact decide_eq_decide.2 (by omega)
  refine At.region rfl rfl ?_
  refine Reg.pur rfl rfl rfl rfl (Pur.eql rfl rfl) ?_
  refine Reg.pur rfl rfl rfl rfl (Pur.asg rfl) ?_
  refine Reg.nil ?_
  refine At.cond rfl rfl (fun hb5 => ?_) (fun hb5 => ?_)
  · refine At.region rfl rfl ?_
    refine Reg.pur rfl rfl rfl rfl (Pur.fld _ fo37_1 rfl) ?_
    refine Reg.lod rfl rfl rfl rfl (Lod.ld sc3 rfl hB rfl) ?_
    refine Reg.pur rfl rfl rfl rfl (Pur.geq rfl rfl) ?_
    refine Reg.pur rfl rfl rfl rfl (Pur.mv rfl) ?_
    refine Reg.case 30 rfl (fun hc6 => ?_) (fun hc6 => ?_)
    · refine Reg.gpur rfl rfl rfl rfl rfl rfl (Pur.fld _ fo37_1 rfl) ?_
      refine Reg.glod rfl rfl rfl rfl rfl rfl (Lod.ld sc3 rfl hB rfl) ?_
      refine Reg.gpur rfl rfl rfl rfl rfl rfl (Pur.leq rfl rfl) ?_
      refine Reg.pur rfl rfl rfl rfl (Pur.pickT rfl rfl) ?_
      refine Reg.pur rfl rfl rfl rfl (Pur.asg rfl) ?_
      refine Reg.nil ?_
      refine At.ret rfl Tryd.func31 rfl ?_
      refine ⟨congrArg Value.bool ?_, hn1.ext⟩
      simp only [decide_eq_true_eq, decide_eq_false_iff_not] at *
      first | exact (decide_eq_true (by omega)).symm | exact (decide_eq_false (by omega)).symm | exact decide_eq_decide.2 (by omega)
    refine Reg.skip rfl rfl rfl rfl rfl rfl rfl ?_
    refine Reg.skip rfl rfl rfl rfl rfl rfl rfl ?_
    refine Reg.skip rfl rfl rfl rfl rfl rfl rfl ?_
    refine Reg.pur rfl rfl rfl rfl (Pur.pickF rfl rfl) ?_
    refine Reg.pur rfl rfl rfl rfl (Pur.asg rfl) ?_
    refine Reg.nil ?_
    refine At.ret rfl Tryd.func31 rfl ?_
    refine ⟨congrArg Value.bool ?_, hn1.ext⟩
    simp only [decide_eq_true_eq, decide_eq_false_iff_not] at *
    first | exact (decide_eq_true (by omega)).symm | exact (decide_eq_false (by omega)).symm | exact decide_eq_decide.2 (by omega)
  refine At.region rfl rfl ?_
  refine Reg.pur rfl rfl rfl rfl (Pur.fld _ fo37_0 rfl) ?_
  refine Reg.lod rfl rfl rfl rfl (Lod.ld sc3 rfl hB rfl) ?_
  refine Reg.pur rfl rfl rfl rfl (Pur.geq rfl rfl) ?_
  refine Reg.pur rfl rfl rfl rfl (Pur.mv rfl) ?_
  refine Reg.case 38 rfl (fun hc7 => ?_) (fun hc7 => ?_)
  · refine Reg.gpur rfl rfl rfl rfl rfl rfl (Pur.fld _ fo37_0 rfl) ?_
    refine Reg.glod rfl rfl rfl rfl rfl rfl (Lod.ld sc3 rfl hB rfl) ?_
    refine Reg.gpur rfl rfl rfl rfl rfl rfl (Pur.leq rfl rfl) ?_
    refine Reg.pur rfl rfl rfl rfl (Pur.pickT rfl rfl) ?_
    refine Reg.pur rfl rfl rfl rfl (Pur.mv rfl) ?_
    refine Reg.case 43 rfl (fun hc8 => ?_) (fun hc8 => ?_)
    · refine Reg.gpur rfl rfl rfl rfl rfl rfl (Pur.fld _ fo37_1 rfl) ?_
      refine Reg.glod rfl rfl rfl rfl rfl rfl (Lod.ld sc3 rfl hB rfl) ?_
      refine Reg.gpur rfl rfl rfl rfl rfl rfl (Pur.eql rfl rfl) ?_
      refine Reg.pur rfl rfl rfl rfl (Pur.pickT rfl rfl) ?_
      refine Reg.pur rfl rfl rfl rfl (Pur.asg rfl) ?_
      refine Reg.nil ?_
      refine At.ret rfl Tryd.func31 rfl ?_
      refine ⟨congrArg Value.bool ?_, hn1.ext⟩
      simp only [decide_eq_true_eq, decide_eq_false_iff_not] at *
      first | exact (decide_eq_true (by omega)).symm | exact (decide_eq_false (by omega)).symm | exact decide_eq_decide.2 (by omega)
    refine Reg.skip rfl rfl rfl rfl rfl rfl rfl ?_
    refine Reg.skip rfl rfl rfl rfl rfl rfl rfl ?_
    refine Reg.skip rfl rfl rfl rfl rfl rfl rfl ?_
    refine Reg.pur rfl rfl rfl rfl (Pur.pickF rfl rfl) ?_
    refine Reg.pur rfl rfl rfl rfl (Pur.asg rfl) ?_
    refine Reg.nil ?_
    refine At.ret rfl Tryd.func31 rfl ?_
    refine ⟨congrArg Value.bool ?_, hn1.ext⟩
    simp only [decide_eq_true_eq, decide_eq_false_iff_not] at *
    first | exact (decide_eq_true (by omega)).symm | exact (decide_eq_false (by omega)).symm | exact decide_eq_decide.2 (by omega)
  refine Reg.skip rfl rfl rfl rfl rfl rfl rfl ?_
  refine Reg.skip rfl rfl rfl rfl rfl rfl rfl ?_
  refine Reg.skip rfl rfl rfl rfl rfl rfl rfl ?_
  refine Reg.pur rfl rfl rfl rfl (Pur.pickF rfl rfl) ?_
  refine Reg.pur rfl rfl rfl rfl (Pur.mv rfl) ?_
  refine Reg.skip rfl rfl rfl rfl rfl rfl rfl ?_
  refine Reg.skip rfl rfl rfl rfl rfl rfl rfl ?_
  refine Reg.skip rfl rfl rfl rfl rfl rfl rfl ?_
  refine Reg.pur rfl rfl rfl rfl (Pur.pickF rfl rfl) ?_
  refine Reg.pur rfl rfl rfl rfl (Pur.asg rfl) ?_
  refine Reg.nil ?_
  refine At.ret rfl Tryd.func31 rfl ?_
  refine ⟨congrArg Value.bool ?_, hn1.ext⟩
  simp only [decide_eq_true_eq, decide_eq_false_iff_not] at *
  first | exact (decide_eq_true (by omega)).symm | exact (decide_eq_false (by omega)).symm | exact decide_eq_decide.2 (by omega)

theorem num_len (n : Nat) : (num n).size ≤ 20 := num_size n
theorem numS_len (n : Int) : (numS n).size ≤ 21 := by
  unfold numS; split
  · rw [ByteArray.size_append]; have := num_size (-n).toNat; show 1 + _ ≤ 21; omega
  · have := num_size n.toNat; omega
theorem numS_pos {n : Int} (h : 0 ≤ n) : numS n = num n.toNat := by unfold numS; rw [if_neg (by omega)]
theorem numS_neg {n : Int} (h : n < 0) : numS n = ⟨#[45]⟩ ++ num (-n).toNat := by unfold numS; rw [if_pos h]
abbrev sFalse : ByteArray := ⟨#[102, 97, 108, 115, 101]⟩
abbrev sTrue : ByteArray := ⟨#[116, 114, 117, 101]⟩
abbrev sFun : ByteArray := ⟨#[102, 117, 110, 99, 116, 105, 111, 110]⟩
abbrev sFault : ByteArray := ⟨#[102, 97, 117, 108, 116, 32]⟩
abbrev sFuel : ByteArray := ⟨#[102, 117, 101, 108]⟩
abbrev sStuck : ByteArray := ⟨#[115, 116, 117, 99, 107]⟩
abbrev sCol : ByteArray := ⟨#[58]⟩
abbrev sErr : ByteArray := ⟨#[58, 32, 101, 114, 114, 111, 114, 32]⟩
abbrev sEq : ByteArray := ⟨#[32, 61, 32]⟩
abbrev sBar : ByteArray := ⟨#[32, 124, 32]⟩
theorem len_of {a : Array UInt8} {n : Nat} (h : a.size = n) : (ByteArray.mk a).size = n := h
/-- an outcome's text -/
def toldS (k n : Int) : ByteArray :=
  if k = 0 then numS n else if k = 1 then boolS (decide (n = 1)) else if k = 2 then sFun else if k = 3 then sFault ++ numS n else if k = 4 then sFuel else sStuck
theorem toldS_len (k n : Int) : (toldS k n).size ≤ 40 := by
  have h1 := numS_len n
  unfold toldS
  split
  · omega
  · split
    · unfold boolS; split <;> decide
    · split
      · decide
      · split
        · rw [ByteArray.size_append]; show 6 + _ ≤ 40; omega
        · split <;> decide
theorem told_ok (k n : Int) (h : -9223372036854775808 ≤ n ∧ n ≤ 9223372036854775807) {H : Heap} (hT : Tens H) : Ret Tryd.prog 29 [.agg (Is [k, n]).toArray] H (fun v H' => v = .string (toldS k n) ∧ Ext H H') := by
  have hn := numS_len n
  refine Ret.of_at (N := 26) Tryd.call29 Tryd.func29 rfl rfl rfl ?_
  have hE := Ext.refl H
  have z_hE := hE.lt
  have z_hT := hT.lt
  refine At.region rfl rfl ?_
  refine Reg.op rfl rfl rfl rfl (Does.box rfl rfl) ?_
  rintro _ H0_0 ⟨rfl, hn0_0⟩
  have z0_0 := hn0_0.size
  replace hE := hE.ext hn0_0.ext
  replace hT := hT.ext hn0_0.ext
  have o0_0 := hn0_0.own
  refine Reg.pur rfl rfl rfl rfl (Pur.asg rfl) ?_
  refine Reg.nil ?_
  refine At.region rfl rfl ?_
  refine Reg.pur rfl rfl rfl rfl (Pur.fld _ fo37_1 rfl) ?_
  refine Reg.lod rfl rfl rfl rfl (Lod.ld sc3 rfl o0_0.blk (by first | rfl | (simp; done))) ?_
  refine Reg.op rfl rfl rfl rfl (Does.call rfl (itoaS_ok n h hT)) ?_
  rintro _ H1_2 ⟨rfl, hE1_2⟩
  have z1_2 := hE1_2.lt
  replace hE := hE.ext hE1_2
  replace hT := hT.ext hE1_2
  replace o0_0 := o0_0.ext hE1_2
  refine Reg.pur rfl rfl rfl rfl (Pur.asg rfl) ?_
  refine Reg.nil ?_
  refine At.region rfl rfl ?_
  refine Reg.pur rfl rfl rfl rfl (Pur.fld _ fo37_0 rfl) ?_
  refine Reg.lod rfl rfl rfl rfl (Lod.ld sc3 rfl o0_0.blk (by first | rfl | (simp; done))) ?_
  refine Reg.nil ?_
  refine At.region rfl rfl ?_
  refine Reg.pur rfl rfl rfl rfl (Pur.eql rfl rfl) ?_
  refine Reg.pur rfl rfl rfl rfl (Pur.asg rfl) ?_
  refine Reg.nil ?_
  refine At.cond rfl rfl (fun q9 => ?_) (fun q9 => ?_)
  · first | (simp only [decide_eq_true_eq, decide_eq_false_iff_not, Bool.not_eq_true', Bool.not_eq_false', ne_eq, Decidable.not_not, Bool.not_eq_true, Bool.not_eq_false] at q9) | (dsimp only at q9) | skip
    refine At.region rfl rfl ?_
    refine Reg.pur rfl rfl rfl rfl (Pur.mv rfl) ?_
    refine Reg.pur rfl rfl rfl rfl (Pur.asg rfl) ?_
    refine Reg.nil ?_
    refine At.ret rfl Tryd.func29 rfl ?_
    exact ⟨by simp [toldS, *], hE⟩
  first | (simp only [decide_eq_true_eq, decide_eq_false_iff_not, Bool.not_eq_true', Bool.not_eq_false', ne_eq, Decidable.not_not, Bool.not_eq_true, Bool.not_eq_false] at q9) | (dsimp only at q9) | skip
  refine At.region rfl rfl ?_
  refine Reg.pur rfl rfl rfl rfl (Pur.eql rfl rfl) ?_
  refine Reg.pur rfl rfl rfl rfl (Pur.asg rfl) ?_
  refine Reg.nil ?_
  refine At.cond rfl rfl (fun q12 => ?_) (fun q12 => ?_)
  · first | (simp only [decide_eq_true_eq, decide_eq_false_iff_not, Bool.not_eq_true', Bool.not_eq_false', ne_eq, Decidable.not_not, Bool.not_eq_true, Bool.not_eq_false] at q12) | (dsimp only at q12) | skip
    refine At.region rfl rfl ?_
    refine Reg.pur rfl rfl rfl rfl (Pur.fld _ fo37_1 rfl) ?_
    refine Reg.lod rfl rfl rfl rfl (Lod.ld sc3 rfl o0_0.blk (by first | rfl | (simp; done))) ?_
    refine Reg.pur rfl rfl rfl rfl (Pur.eql rfl rfl) ?_
    refine Reg.op rfl rfl rfl rfl (Does.call rfl (fmtB_ok _ _)) ?_
    rintro _ H1_2 ⟨rfl, rfl⟩
    refine Reg.pur rfl rfl rfl rfl (Pur.asg rfl) ?_
    refine Reg.nil ?_
    refine At.ret rfl Tryd.func29 rfl ?_
    exact ⟨by simp [toldS, *], hE⟩
  first | (simp only [decide_eq_true_eq, decide_eq_false_iff_not, Bool.not_eq_true', Bool.not_eq_false', ne_eq, Decidable.not_not, Bool.not_eq_true, Bool.not_eq_false] at q12) | (dsimp only at q12) | skip
  refine At.region rfl rfl ?_
  refine Reg.pur rfl rfl rfl rfl (Pur.eql rfl rfl) ?_
  refine Reg.pur rfl rfl rfl rfl (Pur.asg rfl) ?_
  refine Reg.nil ?_
  refine At.cond rfl rfl (fun q18 => ?_) (fun q18 => ?_)
  · first | (simp only [decide_eq_true_eq, decide_eq_false_iff_not, Bool.not_eq_true', Bool.not_eq_false', ne_eq, Decidable.not_not, Bool.not_eq_true, Bool.not_eq_false] at q18) | (dsimp only at q18) | skip
    refine At.region rfl rfl ?_
    refine Reg.pur rfl rfl rfl rfl (Pur.asg rfl) ?_
    refine Reg.nil ?_
    refine At.ret rfl Tryd.func29 rfl ?_
    exact ⟨by simp [toldS, *], hE⟩
  first | (simp only [decide_eq_true_eq, decide_eq_false_iff_not, Bool.not_eq_true', Bool.not_eq_false', ne_eq, Decidable.not_not, Bool.not_eq_true, Bool.not_eq_false] at q18) | (dsimp only at q18) | skip
  refine At.region rfl rfl ?_
  refine Reg.pur rfl rfl rfl rfl (Pur.eql rfl rfl) ?_
  refine Reg.pur rfl rfl rfl rfl (Pur.asg rfl) ?_
  refine Reg.nil ?_
  refine At.cond rfl rfl (fun q20 => ?_) (fun q20 => ?_)
  · first | (simp only [decide_eq_true_eq, decide_eq_false_iff_not, Bool.not_eq_true', Bool.not_eq_false', ne_eq, Decidable.not_not, Bool.not_eq_true, Bool.not_eq_false] at q20) | (dsimp only at q20) | skip
    refine At.region rfl rfl ?_
    refine Reg.pur rfl rfl rfl rfl (Pur.mv rfl) ?_
    refine Reg.pur rfl rfl rfl rfl (Pur.addS rfl rfl (by rw [len_of (n := 6) rfl]; omega)) ?_
    refine Reg.pur rfl rfl rfl rfl (Pur.asg rfl) ?_
    refine Reg.nil ?_
    refine At.ret rfl Tryd.func29 rfl ?_
    exact ⟨by simp [toldS, *], hE⟩
  first | (simp only [decide_eq_true_eq, decide_eq_false_iff_not, Bool.not_eq_true', Bool.not_eq_false', ne_eq, Decidable.not_not, Bool.not_eq_true, Bool.not_eq_false] at q20) | (dsimp only at q20) | skip
  refine At.region rfl rfl ?_
  refine Reg.pur rfl rfl rfl rfl (Pur.eql rfl rfl) ?_
  refine Reg.pur rfl rfl rfl rfl (Pur.asg rfl) ?_
  refine Reg.nil ?_
  refine At.cond rfl rfl (fun q24 => ?_) (fun q24 => ?_)
  · first | (simp only [decide_eq_true_eq, decide_eq_false_iff_not, Bool.not_eq_true', Bool.not_eq_false', ne_eq, Decidable.not_not, Bool.not_eq_true, Bool.not_eq_false] at q24) | (dsimp only at q24) | skip
    refine At.region rfl rfl ?_
    refine Reg.pur rfl rfl rfl rfl (Pur.asg rfl) ?_
    refine Reg.nil ?_
    refine At.ret rfl Tryd.func29 rfl ?_
    exact ⟨by simp [toldS, *], hE⟩
  first | (simp only [decide_eq_true_eq, decide_eq_false_iff_not, Bool.not_eq_true', Bool.not_eq_false', ne_eq, Decidable.not_not, Bool.not_eq_true, Bool.not_eq_false] at q24) | (dsimp only at q24) | skip
  refine At.region rfl rfl ?_
  refine Reg.pur rfl rfl rfl rfl (Pur.asg rfl) ?_
  refine Reg.nil ?_
  refine At.ret rfl Tryd.func29 rfl ?_
  exact ⟨by simp [toldS, *], hE⟩
theorem decimalI_ok (x : Int) (h0 : 0 ≤ x) (h : x < 9223372036854775808) (H : Heap) : Ret Tryd.prog 20 [I x] H (fun r H' => r = .string (num x.toNat) ∧ Ext H H') := by
  have := decimal_ok x.toNat (by omega) H
  rwa [show ((x.toNat : Nat) : Int) = x by omega] at this
theorem tellR_ok (k n : Int) (h : mayP k n) (H : Heap) : Ret Tryd.prog 32 [.agg (Is [k, n]).toArray] H (fun v H' => v = .string (toldS k n) ∧ Ext H H') := by
  have hnl := num_size n.toNat
  have hnl2 := num_size (-n).toNat
  by_cases h0 : n < 0
  · obtain ⟨hk, hb⟩ : k = 0 ∧ -1073741824 ≤ n := by omega
    subst hk
    refine Ret.of_at (N := 35) Tryd.call32 Tryd.func32 rfl rfl rfl ?_
    have hE := Ext.refl H
    refine At.region rfl rfl ?_
    refine Reg.op rfl rfl rfl rfl (Does.box rfl rfl) ?_
    rintro _ H0_0 ⟨rfl, hn0_0⟩
    have z0_0 := hn0_0.size
    replace hE := hE.ext hn0_0.ext
    have o0_0 := hn0_0.own
    refine Reg.pur rfl rfl rfl rfl (Pur.asg rfl) ?_
    refine Reg.nil ?_
    refine At.region rfl rfl ?_
    refine Reg.pur rfl rfl rfl rfl (Pur.fld _ fo37_1 rfl) ?_
    refine Reg.lod rfl rfl rfl rfl (Lod.ld sc3 rfl o0_0.blk (by first | rfl | (simp; done))) ?_
    refine Reg.op rfl rfl rfl rfl (Does.call rfl (decimalN_ok n (by omega) h0 _)) ?_
    rintro _ H1_2 ⟨⟨s1, rfl⟩, hE1_2⟩
    have z1_2 := hE1_2.lt
    replace hE := hE.ext hE1_2
    replace o0_0 := o0_0.ext hE1_2
    refine Reg.pur rfl rfl rfl rfl (Pur.asg rfl) ?_
    refine Reg.nil ?_
    refine At.region rfl rfl ?_
    refine Reg.pur rfl rfl rfl rfl (Pur.fld _ fo37_1 rfl) ?_
    refine Reg.lod rfl rfl rfl rfl (Lod.ld sc3 rfl o0_0.blk (by first | rfl | (simp; done))) ?_
    refine Reg.pur rfl rfl rfl rfl (Pur.lss rfl rfl) ?_
    refine Reg.nil ?_
    refine At.condT rfl rfl (decide_eq_true h0) ?_
    refine At.region rfl rfl ?_
    refine Reg.pur rfl rfl rfl rfl (Pur.fld _ fo37_1 rfl) ?_
    refine Reg.lod rfl rfl rfl rfl (Lod.ld sc3 rfl o0_0.blk (by first | rfl | (simp; done))) ?_
    first | refine Reg.pur rfl rfl rfl rfl (Pur.neg64 rfl (by omega)) ?_ | refine Reg.pur rfl rfl rfl rfl (Pur.neg rfl) ?_
    refine Reg.op rfl rfl rfl rfl (Does.call rfl (decimalI_ok (-n) (by omega) (by omega) _)) ?_
    rintro _ H3_3 ⟨rfl, hE3_3⟩
    have z3_3 := hE3_3.lt
    replace hE := hE.ext hE3_3
    replace o0_0 := o0_0.ext hE3_3
    refine Reg.pur rfl rfl rfl rfl (Pur.addS rfl rfl (by rw [len_of (n := 1) rfl]; omega)) ?_
    refine Reg.pur rfl rfl rfl rfl (Pur.asg rfl) ?_
    refine Reg.nil ?_
    refine At.region rfl rfl ?_
    refine Reg.pur rfl rfl rfl rfl (Pur.fld _ fo37_0 rfl) ?_
    refine Reg.lod rfl rfl rfl rfl (Lod.ld sc3 rfl o0_0.blk (by first | rfl | (simp; done))) ?_
    refine Reg.nil ?_
    refine At.region rfl rfl ?_
    refine Reg.pur rfl rfl rfl rfl (Pur.eql rfl rfl) ?_
    refine Reg.pur rfl rfl rfl rfl (Pur.asg rfl) ?_
    refine Reg.nil ?_
    refine At.condT rfl rfl rfl ?_
    refine At.region rfl rfl ?_
    refine Reg.pur rfl rfl rfl rfl (Pur.mv rfl) ?_
    refine Reg.pur rfl rfl rfl rfl (Pur.asg rfl) ?_
    refine Reg.nil ?_
    refine At.ret rfl Tryd.func32 rfl ?_
    exact ⟨by simp [toldS, numS_neg h0], hE⟩
  · obtain ⟨m, rfl⟩ : ∃ m : Nat, n = m := ⟨n.toNat, by omega⟩
    refine Ret.of_at (N := 35) Tryd.call32 Tryd.func32 rfl rfl rfl ?_
    have hE := Ext.refl H
    refine At.region rfl rfl ?_
    refine Reg.op rfl rfl rfl rfl (Does.box rfl rfl) ?_
    rintro _ H0_0 ⟨rfl, hn0_0⟩
    have z0_0 := hn0_0.size
    replace hE := hE.ext hn0_0.ext
    have o0_0 := hn0_0.own
    refine Reg.pur rfl rfl rfl rfl (Pur.asg rfl) ?_
    refine Reg.nil ?_
    refine At.region rfl rfl ?_
    refine Reg.pur rfl rfl rfl rfl (Pur.fld _ fo37_1 rfl) ?_
    refine Reg.lod rfl rfl rfl rfl (Lod.ld sc3 rfl o0_0.blk (by first | rfl | (simp; done))) ?_
    refine Reg.op rfl rfl rfl rfl (Does.call rfl (decimal_ok m (by omega) _)) ?_
    rintro _ H1_2 ⟨rfl, hE1_2⟩
    have z1_2 := hE1_2.lt
    replace hE := hE.ext hE1_2
    replace o0_0 := o0_0.ext hE1_2
    refine Reg.pur rfl rfl rfl rfl (Pur.asg rfl) ?_
    refine Reg.nil ?_
    refine At.region rfl rfl ?_
    refine Reg.pur rfl rfl rfl rfl (Pur.fld _ fo37_1 rfl) ?_
    refine Reg.lod rfl rfl rfl rfl (Lod.ld sc3 rfl o0_0.blk (by first | rfl | (simp; done))) ?_
    refine Reg.pur rfl rfl rfl rfl (Pur.lss rfl rfl) ?_
    refine Reg.nil ?_
    refine At.condF rfl rfl (decide_eq_false (by omega)) ?_
    refine At.region rfl rfl ?_
    refine Reg.pur rfl rfl rfl rfl (Pur.fld _ fo37_0 rfl) ?_
    refine Reg.lod rfl rfl rfl rfl (Lod.ld sc3 rfl o0_0.blk (by first | rfl | (simp; done))) ?_
    refine Reg.nil ?_
    refine At.region rfl rfl ?_
    refine Reg.pur rfl rfl rfl rfl (Pur.eql rfl rfl) ?_
    refine Reg.pur rfl rfl rfl rfl (Pur.asg rfl) ?_
    refine Reg.nil ?_
    refine At.cond rfl rfl (fun q17 => ?_) (fun q17 => ?_)
    · first | (simp only [decide_eq_true_eq, decide_eq_false_iff_not, Bool.not_eq_true', Bool.not_eq_false', ne_eq, Decidable.not_not, Bool.not_eq_true, Bool.not_eq_false] at q17) | (dsimp only at q17) | skip
      refine At.region rfl rfl ?_
      refine Reg.pur rfl rfl rfl rfl (Pur.mv rfl) ?_
      refine Reg.pur rfl rfl rfl rfl (Pur.asg rfl) ?_
      refine Reg.nil ?_
      refine At.ret rfl Tryd.func32 rfl ?_
      exact ⟨by simp [toldS, numS_pos (show (0 : Int) ≤ m by omega), *], hE⟩
    first | (simp only [decide_eq_true_eq, decide_eq_false_iff_not, Bool.not_eq_true', Bool.not_eq_false', ne_eq, Decidable.not_not, Bool.not_eq_true, Bool.not_eq_false] at q17) | (dsimp only at q17) | skip
    refine At.region rfl rfl ?_
    refine Reg.pur rfl rfl rfl rfl (Pur.eql rfl rfl) ?_
    refine Reg.pur rfl rfl rfl rfl (Pur.asg rfl) ?_
    refine Reg.nil ?_
    refine At.cond rfl rfl (fun q20 => ?_) (fun q20 => ?_)
    · first | (simp only [decide_eq_true_eq, decide_eq_false_iff_not, Bool.not_eq_true', Bool.not_eq_false', ne_eq, Decidable.not_not, Bool.not_eq_true, Bool.not_eq_false] at q20) | (dsimp only at q20) | skip
      refine At.region rfl rfl ?_
      refine Reg.op rfl rfl rfl rfl (Does.bsl1T sl1_54 Tryd.underlying54 rfl rfl rfl rfl rfl) ?_
      rintro _ H8_0 ⟨rfl, hp8_0⟩
      have hn8_0 := New.of_eq hp8_0
      have z8_0 := hn8_0.size
      replace hE := hE.ext hn8_0.ext
      replace o0_0 := o0_0.ext hn8_0.ext
      have o8_0 := hn8_0.own
      refine Reg.pur rfl rfl rfl rfl (Pur.fld _ fo37_1 rfl) ?_
      refine Reg.lod rfl rfl rfl rfl (Lod.ld sc3 rfl o0_0.blk (by first | rfl | (simp; done))) ?_
      refine Reg.pur rfl rfl rfl rfl (Pur.idx _ es54 rfl rfl (by omega) (by omega)) ?_
      refine Reg.lod rfl rfl rfl rfl (Lod.ld sc9 rfl o8_0.blk (show _ = some (Value.string (boolS (decide ((m : Int) = 1)))) by (rcases (show m = 0 ∨ m = 1 by omega) with rfl | rfl <;> rfl))) ?_
      refine Reg.pur rfl rfl rfl rfl (Pur.asg rfl) ?_
      refine Reg.nil ?_
      refine At.ret rfl Tryd.func32 rfl ?_
      exact ⟨by simp [toldS, numS_pos (show (0 : Int) ≤ m by omega), *], hE⟩
    first | (simp only [decide_eq_true_eq, decide_eq_false_iff_not, Bool.not_eq_true', Bool.not_eq_false', ne_eq, Decidable.not_not, Bool.not_eq_true, Bool.not_eq_false] at q20) | (dsimp only at q20) | skip
    refine At.region rfl rfl ?_
    refine Reg.pur rfl rfl rfl rfl (Pur.eql rfl rfl) ?_
    refine Reg.pur rfl rfl rfl rfl (Pur.asg rfl) ?_
    refine Reg.nil ?_
    refine At.cond rfl rfl (fun q27 => ?_) (fun q27 => ?_)
    · first | (simp only [decide_eq_true_eq, decide_eq_false_iff_not, Bool.not_eq_true', Bool.not_eq_false', ne_eq, Decidable.not_not, Bool.not_eq_true, Bool.not_eq_false] at q27) | (dsimp only at q27) | skip
      refine At.region rfl rfl ?_
      refine Reg.pur rfl rfl rfl rfl (Pur.asg rfl) ?_
      refine Reg.nil ?_
      refine At.ret rfl Tryd.func32 rfl ?_
      exact ⟨by simp [toldS, numS_pos (show (0 : Int) ≤ m by omega), *], hE⟩
    first | (simp only [decide_eq_true_eq, decide_eq_false_iff_not, Bool.not_eq_true', Bool.not_eq_false', ne_eq, Decidable.not_not, Bool.not_eq_true, Bool.not_eq_false] at q27) | (dsimp only at q27) | skip
    refine At.region rfl rfl ?_
    refine Reg.pur rfl rfl rfl rfl (Pur.eql rfl rfl) ?_
    refine Reg.pur rfl rfl rfl rfl (Pur.asg rfl) ?_
    refine Reg.nil ?_
    refine At.cond rfl rfl (fun q29 => ?_) (fun q29 => ?_)
    · first | (simp only [decide_eq_true_eq, decide_eq_false_iff_not, Bool.not_eq_true', Bool.not_eq_false', ne_eq, Decidable.not_not, Bool.not_eq_true, Bool.not_eq_false] at q29) | (dsimp only at q29) | skip
      refine At.region rfl rfl ?_
      refine Reg.pur rfl rfl rfl rfl (Pur.mv rfl) ?_
      refine Reg.pur rfl rfl rfl rfl (Pur.addS rfl rfl (by rw [len_of (n := 6) rfl]; rw [Int.toNat_natCast] at hnl; omega)) ?_
      refine Reg.pur rfl rfl rfl rfl (Pur.asg rfl) ?_
      refine Reg.nil ?_
      refine At.ret rfl Tryd.func32 rfl ?_
      exact ⟨by simp [toldS, numS_pos (show (0 : Int) ≤ m by omega), *], hE⟩
    first | (simp only [decide_eq_true_eq, decide_eq_false_iff_not, Bool.not_eq_true', Bool.not_eq_false', ne_eq, Decidable.not_not, Bool.not_eq_true, Bool.not_eq_false] at q29) | (dsimp only at q29) | skip
    refine At.region rfl rfl ?_
    refine Reg.pur rfl rfl rfl rfl (Pur.eql rfl rfl) ?_
    refine Reg.pur rfl rfl rfl rfl (Pur.asg rfl) ?_
    refine Reg.nil ?_
    refine At.cond rfl rfl (fun q33 => ?_) (fun q33 => ?_)
    · first | (simp only [decide_eq_true_eq, decide_eq_false_iff_not, Bool.not_eq_true', Bool.not_eq_false', ne_eq, Decidable.not_not, Bool.not_eq_true, Bool.not_eq_false] at q33) | (dsimp only at q33) | skip
      refine At.region rfl rfl ?_
      refine Reg.pur rfl rfl rfl rfl (Pur.asg rfl) ?_
      refine Reg.nil ?_
      refine At.ret rfl Tryd.func32 rfl ?_
      exact ⟨by simp [toldS, numS_pos (show (0 : Int) ≤ m by omega), *], hE⟩
    first | (simp only [decide_eq_true_eq, decide_eq_false_iff_not, Bool.not_eq_true', Bool.not_eq_false', ne_eq, Decidable.not_not, Bool.not_eq_true, Bool.not_eq_false] at q33) | (dsimp only at q33) | skip
    refine At.region rfl rfl ?_
    refine Reg.pur rfl rfl rfl rfl (Pur.asg rfl) ?_
    refine Reg.nil ?_
    refine At.ret rfl Tryd.func32 rfl ?_
    exact ⟨by simp [toldS, numS_pos (show (0 : Int) ≤ m by omega), *], hE⟩
abbrev resC (cd x : Int) (ty : ByteArray) (k1 n1 k2 n2 : Int) : List Value := [I cd, I x, .string ty, I k1, I n1, I k2, I n2]
def tellB (s ty : ByteArray) (cd x k1 n1 k2 n2 : Int) : ByteArray × Int :=
  if ¬ (mayO k1 n1 = true ∧ mayO k2 n2 = true ∧ 0 ≤ cd) then (⟨#[]⟩, 2400)
  else if cd = 0 then (ty ++ sEq ++ toldS k1 n1 ++ sBar ++ toldS k2 n2, 0)
  else if 0 ≤ x ∧ x ≤ s.size then (num (lnAt s x.toNat).1 ++ sCol ++ num (lnAt s x.toNat).2 ++ sErr ++ num cd.toNat, 0)
  else (⟨#[]⟩, 2400)
theorem tellB_bad {s ty : ByteArray} {cd x k1 n1 k2 n2 : Int} (h : ¬ (mayO k1 n1 = true ∧ mayO k2 n2 = true ∧ 0 ≤ cd)) : tellB s ty cd x k1 n1 k2 n2 = (⟨#[]⟩, 2400) := if_pos h
theorem tellB_zero {s ty : ByteArray} {cd x k1 n1 k2 n2 : Int} (h : mayO k1 n1 = true ∧ mayO k2 n2 = true ∧ 0 ≤ cd) (hc : cd = 0) : tellB s ty cd x k1 n1 k2 n2 = (ty ++ sEq ++ toldS k1 n1 ++ sBar ++ toldS k2 n2, 0) := by
  unfold tellB; rw [if_neg (not_not_intro h), if_pos hc]
theorem tellB_at {s ty : ByteArray} {cd x k1 n1 k2 n2 : Int} (h : mayO k1 n1 = true ∧ mayO k2 n2 = true ∧ 0 ≤ cd) (hc : cd ≠ 0) (hx : 0 ≤ x ∧ x ≤ s.size) : tellB s ty cd x k1 n1 k2 n2 = (num (lnAt s x.toNat).1 ++ sCol ++ num (lnAt s x.toNat).2 ++ sErr ++ num cd.toNat, 0) := by
  unfold tellB; rw [if_neg (not_not_intro h), if_neg hc, if_pos hx]
theorem tellB_off {s ty : ByteArray} {cd x k1 n1 k2 n2 : Int} (h : mayO k1 n1 = true ∧ mayO k2 n2 = true ∧ 0 ≤ cd) (hc : cd ≠ 0) (hx : ¬ (0 ≤ x ∧ x ≤ s.size)) : tellB s ty cd x k1 n1 k2 n2 = (⟨#[]⟩, 2400) := by
  unfold tellB; rw [if_neg (not_not_intro h), if_neg hc, if_neg hx]
theorem lnV_no {s : ByteArray} {x : Int} (h : ¬ (0 ≤ x ∧ x ≤ s.size)) : lnV s x = .tuple #[I 0, I 0, I 2400] := if_neg h
theorem mayO_fits {k n : Int} (h : mayO k n = true) : -1073741824 ≤ n ∧ n ≤ 1073741823 := by
  have : mayP k n := of_decide_eq_true h
  omega
theorem sz5 {a b c d e : ByteArray} {m : Nat} (ha : a.size ≤ m) (hb : b.size ≤ 10) (hc : c.size ≤ 40) (hd : d.size ≤ 10) (he : e.size ≤ 40) (hm : m ≤ 140737488355328) :
    a.size + b.size ≤ 9223372036854775807 ∧ (a ++ b).size + c.size ≤ 9223372036854775807 ∧ (a ++ b ++ c).size + d.size ≤ 9223372036854775807 ∧ (a ++ b ++ c ++ d).size + e.size ≤ 9223372036854775807 := by
  simp only [ByteArray.size_append]; omega
def lnL (s : ByteArray) (x : Int) : Int := if 0 ≤ x ∧ x ≤ s.size then ((lnAt s x.toNat).1 : Nat) else 0
def lnC (s : ByteArray) (x : Int) : Int := if 0 ≤ x ∧ x ≤ s.size then ((lnAt s x.toNat).2 : Nat) else 0
def lnE (s : ByteArray) (x : Int) : Int := if 0 ≤ x ∧ x ≤ s.size then 0 else 2400
theorem lnV_T (s : ByteArray) (x : Int) : lnV s x = .tuple #[I (lnL s x), I (lnC s x), I (lnE s x)] := by
  unfold lnV lnL lnC lnE; split <;> rfl
theorem lineT_ok (s : ByteArray) (hs : s.size ≤ 140737488355328) (x : Int) (H : Heap) : Ret Tryd.prog 15 [.string s, I x] H (fun v H' => v = .tuple #[I (lnL s x), I (lnC s x), I (lnE s x)] ∧ H' = H) := by
  have := line_ok s hs x H; rwa [lnV_T] at this
theorem lineTR_ok (s : ByteArray) (hs : s.size ≤ 140737488355328) (x : Int) (H : Heap) : Ret Tryd.prog 16 [.string s, I x] H (fun v H' => v = .tuple #[I (lnL s x), I (lnC s x), I (lnE s x)] ∧ H' = H) := by
  have := lineR_ok s hs x H; rwa [lnV_T] at this
theorem ln_yes {s : ByteArray} {x : Int} (h : 0 ≤ x ∧ x ≤ s.size) : lnL s x = ((lnAt s x.toNat).1 : Nat) ∧ lnC s x = ((lnAt s x.toNat).2 : Nat) ∧ lnE s x = 0 := ⟨if_pos h, if_pos h, if_pos h⟩
theorem ln_no {s : ByteArray} {x : Int} (h : ¬ (0 ≤ x ∧ x ≤ s.size)) : lnL s x = 0 ∧ lnC s x = 0 ∧ lnE s x = 2400 := ⟨if_neg h, if_neg h, if_neg h⟩
theorem lnE_two (s : ByteArray) (x : Int) : (lnE s x = 0 ∧ 0 ≤ x ∧ x ≤ s.size) ∨ (lnE s x = 2400 ∧ ¬ (0 ≤ x ∧ x ≤ s.size)) := by
  by_cases h : 0 ≤ x ∧ x ≤ s.size
  · exact .inl ⟨if_pos h, h⟩
  · exact .inr ⟨if_neg h, h⟩
theorem tell_ok (s ty : ByteArray) (cd x k1 n1 k2 n2 : Int) (hs : s.size ≤ 140737488355328) (ht : ty.size ≤ 140737488355328) (hc : fitsI cd) {H : Heap} (hT : Tens H) :
    Ret Tryd.prog 17 [.string s, .agg (resC cd x ty k1 n1 k2 n2).toArray] H (fun v H' => v = .tuple #[.string (tellB s ty cd x k1 n1 k2 n2).1, I (tellB s ty cd x k1 n1 k2 n2).2] ∧ Ext H H') := by
  unfold fitsI at hc
  have zz := sz5 (a := ty) (b := sEq) (c := toldS k1 n1) (d := sBar) (e := toldS k2 n2) ht (by decide) (toldS_len _ _) (by decide) (toldS_len _ _) (by omega)
  have hp := ln_pos s x.toNat
  have zl := sz5 (a := num (lnAt s x.toNat).1) (b := sCol) (c := num (lnAt s x.toNat).2) (d := sErr) (e := num cd.toNat) (m := 20) (num_size _) (by decide) (by have := num_size (lnAt s x.toNat).2; omega) (by decide) (by have := num_size cd.toNat; omega) (by omega)
  refine Ret.of_at (N := 60) Tryd.call17 Tryd.func17 rfl rfl rfl ?_
  have hE := Ext.refl H
  have z_hE := hE.lt
  have z_hT := hT.lt
  refine At.region rfl rfl ?_
  refine Reg.op rfl rfl rfl rfl (Does.box rfl rfl) ?_
  rintro _ H0_0 ⟨rfl, hn0_0⟩
  have z0_0 := hn0_0.size
  replace hE := hE.ext hn0_0.ext
  replace hT := hT.ext hn0_0.ext
  have o0_0 := hn0_0.own
  refine Reg.pur rfl rfl rfl rfl (Pur.asg rfl) ?_
  refine Reg.pur rfl rfl rfl rfl (Pur.asg rfl) ?_
  refine Reg.nil ?_
  refine At.region rfl rfl ?_
  refine Reg.pur rfl rfl rfl rfl (Pur.fld _ fo39_3 rfl) ?_
  refine Reg.lod rfl rfl rfl rfl (Lod.ldn ag37 rfl o0_0.blk (by first | exact whole rfl | rfl | (simp only [List.drop_succ_cons, List.drop_zero, List.take_succ_cons, List.take_zero]; rfl)) (by first | rfl | (simp [*]; done))) ?_
  refine Reg.op rfl rfl rfl rfl (Does.call rfl (omay_ok _ _ _)) ?_
  rintro _ H1_2 ⟨rfl, hE1_2⟩
  have z1_2 := hE1_2.lt
  replace hE := hE.ext hE1_2
  replace hT := hT.ext hE1_2
  replace o0_0 := o0_0.ext hE1_2
  refine Reg.pur rfl rfl rfl rfl (Pur.not rfl) ?_
  refine Reg.pur rfl rfl rfl rfl (Pur.mv rfl) ?_
  refine Reg.case 13 rfl (fun q13 => ?_) (fun q13 => ?_)
  · first | (simp only [decide_eq_true_eq, decide_eq_false_iff_not, Bool.not_eq_true', Bool.not_eq_false', ne_eq, Decidable.not_not, Bool.not_eq_true, Bool.not_eq_false] at q13) | (dsimp only at q13) | skip
    refine Reg.skip rfl rfl rfl rfl rfl rfl rfl ?_
    refine Reg.skip rfl rfl rfl rfl rfl rfl rfl ?_
    refine Reg.skip rfl rfl rfl rfl rfl rfl rfl ?_
    refine Reg.skip rfl rfl rfl rfl rfl rfl rfl ?_
    refine Reg.pur rfl rfl rfl rfl (Pur.pickT rfl rfl) ?_
    refine Reg.pur rfl rfl rfl rfl (Pur.mv rfl) ?_
    refine Reg.skip rfl rfl rfl rfl rfl rfl rfl ?_
    refine Reg.skip rfl rfl rfl rfl rfl rfl rfl ?_
    refine Reg.skip rfl rfl rfl rfl rfl rfl rfl ?_
    refine Reg.pur rfl rfl rfl rfl (Pur.pickT rfl rfl) ?_
    refine Reg.nil ?_
    refine At.condT rfl rfl rfl ?_
    have hbad : ¬ (mayO k1 n1 = true ∧ mayO k2 n2 = true ∧ 0 ≤ cd) := by simp_all
    refine At.region rfl rfl ?_
    refine Reg.pur rfl rfl rfl rfl (Pur.asg rfl) ?_
    refine Reg.pur rfl rfl rfl rfl (Pur.asg rfl) ?_
    refine Reg.nil ?_
    refine At.ret rfl Tryd.func17 rfl ?_
    rw [tellB_bad hbad]
    exact ⟨rfl, hE⟩
  first | (simp only [decide_eq_true_eq, decide_eq_false_iff_not, Bool.not_eq_true', Bool.not_eq_false', ne_eq, Decidable.not_not, Bool.not_eq_true, Bool.not_eq_false] at q13) | (dsimp only at q13) | skip
  refine Reg.gpur rfl rfl rfl rfl rfl rfl (Pur.fld _ fo39_4 rfl) ?_
  refine Reg.glod rfl rfl rfl rfl rfl rfl (Lod.ldn ag37 rfl o0_0.blk (by first | exact whole rfl | rfl | (simp only [List.drop_succ_cons, List.drop_zero, List.take_succ_cons, List.take_zero]; rfl)) (by first | rfl | (simp [*]; done))) ?_
  refine Reg.gop rfl rfl rfl rfl rfl rfl (Does.call rfl (omay_ok _ _ _)) ?_
  rintro _ H1_7 ⟨rfl, hE1_7⟩
  have z1_7 := hE1_7.lt
  replace hE := hE.ext hE1_7
  replace hT := hT.ext hE1_7
  replace o0_0 := o0_0.ext hE1_7
  refine Reg.gpur rfl rfl rfl rfl rfl rfl (Pur.not rfl) ?_
  refine Reg.pur rfl rfl rfl rfl (Pur.pickF rfl rfl) ?_
  refine Reg.pur rfl rfl rfl rfl (Pur.mv rfl) ?_
  refine Reg.case 19 rfl (fun q19 => ?_) (fun q19 => ?_)
  · first | (simp only [decide_eq_true_eq, decide_eq_false_iff_not, Bool.not_eq_true', Bool.not_eq_false', ne_eq, Decidable.not_not, Bool.not_eq_true, Bool.not_eq_false] at q19) | (dsimp only at q19) | skip
    refine Reg.skip rfl rfl rfl rfl rfl rfl rfl ?_
    refine Reg.skip rfl rfl rfl rfl rfl rfl rfl ?_
    refine Reg.skip rfl rfl rfl rfl rfl rfl rfl ?_
    refine Reg.pur rfl rfl rfl rfl (Pur.pickT rfl rfl) ?_
    refine Reg.nil ?_
    refine At.condT rfl rfl rfl ?_
    have hbad : ¬ (mayO k1 n1 = true ∧ mayO k2 n2 = true ∧ 0 ≤ cd) := by simp_all
    refine At.region rfl rfl ?_
    refine Reg.pur rfl rfl rfl rfl (Pur.asg rfl) ?_
    refine Reg.pur rfl rfl rfl rfl (Pur.asg rfl) ?_
    refine Reg.nil ?_
    refine At.ret rfl Tryd.func17 rfl ?_
    rw [tellB_bad hbad]
    exact ⟨rfl, hE⟩
  first | (simp only [decide_eq_true_eq, decide_eq_false_iff_not, Bool.not_eq_true', Bool.not_eq_false', ne_eq, Decidable.not_not, Bool.not_eq_true, Bool.not_eq_false] at q19) | (dsimp only at q19) | skip
  refine Reg.gpur rfl rfl rfl rfl rfl rfl (Pur.fld _ fo39_0 rfl) ?_
  refine Reg.glod rfl rfl rfl rfl rfl rfl (Lod.ld sc3 rfl o0_0.blk (by first | rfl | (simp; done))) ?_
  refine Reg.gpur rfl rfl rfl rfl rfl rfl (Pur.lss rfl rfl) ?_
  refine Reg.pur rfl rfl rfl rfl (Pur.pickF rfl rfl) ?_
  refine Reg.nil ?_
  refine At.cond rfl rfl (fun q23 => ?_) (fun q23 => ?_)
  · first | (simp only [decide_eq_true_eq, decide_eq_false_iff_not, Bool.not_eq_true', Bool.not_eq_false', ne_eq, Decidable.not_not, Bool.not_eq_true, Bool.not_eq_false] at q23) | (dsimp only at q23) | skip
    have hbad : ¬ (mayO k1 n1 = true ∧ mayO k2 n2 = true ∧ 0 ≤ cd) := by simp_all
    refine At.region rfl rfl ?_
    refine Reg.pur rfl rfl rfl rfl (Pur.asg rfl) ?_
    refine Reg.pur rfl rfl rfl rfl (Pur.asg rfl) ?_
    refine Reg.nil ?_
    refine At.ret rfl Tryd.func17 rfl ?_
    rw [tellB_bad hbad]
    exact ⟨rfl, hE⟩
  first | (simp only [decide_eq_true_eq, decide_eq_false_iff_not, Bool.not_eq_true', Bool.not_eq_false', ne_eq, Decidable.not_not, Bool.not_eq_true, Bool.not_eq_false] at q23) | (dsimp only at q23) | skip
  have hgood : mayO k1 n1 = true ∧ mayO k2 n2 = true ∧ 0 ≤ cd := by simp_all
  refine At.region rfl rfl ?_
  refine Reg.pur rfl rfl rfl rfl (Pur.fld _ fo39_0 rfl) ?_
  refine Reg.lod rfl rfl rfl rfl (Lod.ld sc3 rfl o0_0.blk (by first | rfl | (simp; done))) ?_
  refine Reg.pur rfl rfl rfl rfl (Pur.eql rfl rfl) ?_
  refine Reg.nil ?_
  refine At.cond rfl rfl (fun q26 => ?_) (fun q26 => ?_)
  · first | (simp only [decide_eq_true_eq, decide_eq_false_iff_not, Bool.not_eq_true', Bool.not_eq_false', ne_eq, Decidable.not_not, Bool.not_eq_true, Bool.not_eq_false] at q26) | (dsimp only at q26) | skip
    have hf1 := mayO_fits hgood.1
    have hf2 := mayO_fits hgood.2.1
    refine At.drawE ((Bks.cons o0_0.blk Bks.nil)) [] mixed rfl rfl ?_
    refine RegD.tpur (i := 0) rfl rfl rfl rfl (by kernel_rfl) (Pur.fld _ fo39_2 rfl) ?_
    refine RegD.take (i := 1) rfl rfl rfl rfl (by kernel_rfl) (Bks.cons o0_0.blk Bks.nil) (fun H hS => Lod.ld sc9 rfl hS.hd (by first | rfl | (simp; done))) ?_
    refine RegD.tpur (i := 2) rfl rfl rfl rfl (by kernel_rfl) (Pur.addS rfl rfl zz.1) ?_
    refine RegD.tpur (i := 3) rfl rfl rfl rfl (by kernel_rfl) (Pur.fld _ fo39_3 rfl) ?_
    refine RegD.take (i := 4) rfl rfl rfl rfl (by kernel_rfl) (Bks.cons o0_0.blk Bks.nil) (fun H hS => Lod.ldn ag37 rfl hS.hd (by first | exact whole rfl | rfl | (simp only [List.drop_succ_cons, List.drop_zero, List.take_succ_cons, List.take_zero]; rfl)) (by first | rfl | (simp [*]; done))) ?_
    refine RegD.tpur (i := 8) rfl rfl rfl rfl (by kernel_rfl) (Pur.fld _ fo39_4 rfl) ?_
    refine RegD.take (i := 9) rfl rfl rfl rfl (by kernel_rfl) (Bks.cons o0_0.blk Bks.nil) (fun H hS => Lod.ldn ag37 rfl hS.hd (by first | exact whole rfl | rfl | (simp only [List.drop_succ_cons, List.drop_zero, List.take_succ_cons, List.take_zero]; rfl)) (by first | rfl | (simp [*]; done))) ?_
    refine RegD.one (i := 5) (by kernel_rfl) rfl rfl rfl rfl (Does.call rfl (told_ok k1 n1 (by omega) hT)) ?_
    rintro _ H4_5 ⟨rfl, hE4_5⟩
    have z4_5 := hE4_5.lt
    replace hE := hE.ext hE4_5
    replace hT := hT.ext hE4_5
    replace o0_0 := o0_0.ext hE4_5
    refine ⟨fun _ _ => (Bks.cons o0_0.blk Bks.nil), ?_⟩
    refine RegD.tpur (i := 6) rfl rfl rfl rfl (by kernel_rfl) (Pur.addS rfl rfl zz.2.1) ?_
    refine RegD.tpur (i := 7) rfl rfl rfl rfl (by kernel_rfl) (Pur.addS rfl rfl zz.2.2.1) ?_
    refine RegD.one (i := 10) (by kernel_rfl) rfl rfl rfl rfl (Does.call rfl (told_ok k2 n2 (by omega) hT)) ?_
    rintro _ H4_10 ⟨rfl, hE4_10⟩
    have z4_10 := hE4_10.lt
    replace hE := hE.ext hE4_10
    replace hT := hT.ext hE4_10
    replace o0_0 := o0_0.ext hE4_10
    refine ⟨fun _ _ => (Bks.cons o0_0.blk Bks.nil), ?_⟩
    refine RegD.tpur (i := 11) rfl rfl rfl rfl (by kernel_rfl) (Pur.addS rfl rfl zz.2.2.2) ?_
    refine RegD.tpur (i := 12) rfl rfl rfl rfl (by kernel_rfl) (Pur.asg rfl) ?_
    refine RegD.tpur (i := 13) rfl rfl rfl rfl (by kernel_rfl) (Pur.asg rfl) ?_
    refine RegD.done (by kernel_rfl) ?_
    refine At.ret rfl Tryd.func17 rfl ?_
    rw [tellB_zero hgood (by assumption)]
    exact ⟨rfl, hE⟩
  first | (simp only [decide_eq_true_eq, decide_eq_false_iff_not, Bool.not_eq_true', Bool.not_eq_false', ne_eq, Decidable.not_not, Bool.not_eq_true, Bool.not_eq_false] at q26) | (dsimp only at q26) | skip
  refine At.region rfl rfl ?_
  refine Reg.pur rfl rfl rfl rfl (Pur.mv rfl) ?_
  refine Reg.pur rfl rfl rfl rfl (Pur.fld _ fo39_1 rfl) ?_
  refine Reg.lod rfl rfl rfl rfl (Lod.ld sc3 rfl o0_0.blk (by first | rfl | (simp; done))) ?_
  refine Reg.op rfl rfl rfl rfl (Does.call rfl (lineT_ok s hs x _)) ?_
  rintro _ H1_7 ⟨rfl, rfl⟩
  refine Reg.pur rfl rfl rfl rfl (Pur.mv rfl) ?_
  refine Reg.pur rfl rfl rfl rfl (Pur.ext rfl rfl) ?_
  refine Reg.pur rfl rfl rfl rfl (Pur.ext rfl rfl) ?_
  refine Reg.pur rfl rfl rfl rfl (Pur.ext rfl rfl) ?_
  refine Reg.pur rfl rfl rfl rfl (Pur.asg rfl) ?_
  refine Reg.pur rfl rfl rfl rfl (Pur.asg rfl) ?_
  refine Reg.pur rfl rfl rfl rfl (Pur.asg rfl) ?_
  refine Reg.nil ?_
  have he2 := lnE_two s x
  refine At.region rfl rfl ?_
  refine Reg.pur rfl rfl rfl rfl (Pur.mv rfl) ?_
  refine Reg.pur rfl rfl rfl rfl (Pur.neq rfl rfl) ?_
  refine Reg.nil ?_
  refine At.cond rfl rfl (fun q48 => ?_) (fun q48 => ?_)
  · first | (simp only [decide_eq_true_eq, decide_eq_false_iff_not, Bool.not_eq_true', Bool.not_eq_false', ne_eq, Decidable.not_not, Bool.not_eq_true, Bool.not_eq_false] at q48) | (dsimp only at q48) | skip
    have hx : ¬ (0 ≤ x ∧ x ≤ s.size) := by omega
    refine At.region rfl rfl ?_
    refine Reg.pur rfl rfl rfl rfl (Pur.asg rfl) ?_
    refine Reg.pur rfl rfl rfl rfl (Pur.asg rfl) ?_
    refine Reg.nil ?_
    refine At.ret rfl Tryd.func17 rfl ?_
    rw [tellB_off hgood (by assumption) hx]
    exact ⟨rfl, hE⟩
  first | (simp only [decide_eq_true_eq, decide_eq_false_iff_not, Bool.not_eq_true', Bool.not_eq_false', ne_eq, Decidable.not_not, Bool.not_eq_true, Bool.not_eq_false] at q48) | (dsimp only at q48) | skip
  have hx : 0 ≤ x ∧ x ≤ s.size := by omega
  have hll := (ln_yes hx).1
  have hlc := (ln_yes hx).2.1
  have hn1 : numS (lnL s x) = num (lnAt s x.toNat).1 := by rw [hll, numS_pos (by omega), Int.toNat_natCast]
  have hn2 : numS (lnC s x) = num (lnAt s x.toNat).2 := by rw [hlc, numS_pos (by omega), Int.toNat_natCast]
  have hn3 : numS cd = num cd.toNat := by rw [numS_pos (by omega)]
  refine At.drawE ((Bks.cons o0_0.blk Bks.nil)) [9] mixed rfl rfl ?_
  refine RegD.tpur (i := 0) rfl rfl rfl rfl (by kernel_rfl) (Pur.mv rfl) ?_
  refine RegD.tpur (i := 3) rfl rfl rfl rfl (by kernel_rfl) (Pur.mv rfl) ?_
  refine RegD.tpur (i := 7) rfl rfl rfl rfl (by kernel_rfl) (Pur.fld _ fo39_0 rfl) ?_
  refine RegD.take (i := 8) rfl rfl rfl rfl (by kernel_rfl) (Bks.cons o0_0.blk Bks.nil) (fun H hS => Lod.ld sc3 rfl hS.hd (by first | rfl | (simp; done))) ?_
  refine RegD.one (i := 1) (by kernel_rfl) rfl rfl rfl rfl (Does.call rfl (itoaS_ok _ (by omega) hT)) ?_
  rintro _ H8_1 ⟨rfl, hE8_1⟩
  have z8_1 := hE8_1.lt
  replace hE := hE.ext hE8_1
  replace hT := hT.ext hE8_1
  replace o0_0 := o0_0.ext hE8_1
  rw [hn1]
  refine ⟨fun _ _ => (Bks.cons o0_0.blk Bks.nil), ?_⟩
  refine RegD.tpur (i := 2) rfl rfl rfl rfl (by kernel_rfl) (Pur.addS rfl rfl zl.1) ?_
  refine RegD.one (i := 4) (by kernel_rfl) rfl rfl rfl rfl (Does.call rfl (itoaS_ok _ (by omega) hT)) ?_
  rintro _ H8_4 ⟨rfl, hE8_4⟩
  have z8_4 := hE8_4.lt
  replace hE := hE.ext hE8_4
  replace hT := hT.ext hE8_4
  replace o0_0 := o0_0.ext hE8_4
  rw [hn2]
  refine ⟨fun _ _ => (Bks.cons o0_0.blk Bks.nil), ?_⟩
  refine RegD.tpur (i := 5) rfl rfl rfl rfl (by kernel_rfl) (Pur.addS rfl rfl zl.2.1) ?_
  refine RegD.tpur (i := 6) rfl rfl rfl rfl (by kernel_rfl) (Pur.addS rfl rfl zl.2.2.1) ?_
  refine RegD.one (i := 9) (by kernel_rfl) rfl rfl rfl rfl (Does.call rfl (itoaS_ok _ (by omega) hT)) ?_
  rintro _ H8_9 ⟨rfl, hE8_9⟩
  have z8_9 := hE8_9.lt
  replace hE := hE.ext hE8_9
  replace hT := hT.ext hE8_9
  replace o0_0 := o0_0.ext hE8_9
  rw [hn3]
  refine ⟨fun h => (by cases h), ?_⟩
  refine RegD.tpur (i := 10) rfl rfl rfl rfl (by kernel_rfl) (Pur.addS rfl rfl zl.2.2.2) ?_
  refine RegD.tpur (i := 11) rfl rfl rfl rfl (by kernel_rfl) (Pur.asg rfl) ?_
  refine RegD.tpur (i := 12) rfl rfl rfl rfl (by kernel_rfl) (Pur.asg rfl) ?_
  refine RegD.done (by kernel_rfl) ?_
  refine At.ret rfl Tryd.func17 rfl ?_
  rw [tellB_at hgood (by assumption) hx]
  exact ⟨rfl, hE⟩
theorem tellT_ok (s ty : ByteArray) (cd x k1 n1 k2 n2 : Int) (hs : s.size ≤ 140737488355328) (ht : ty.size ≤ 140737488355328) (hc : fitsI cd) (H : Heap) :
    Ret Tryd.prog 18 [.string s, .agg (resC cd x ty k1 n1 k2 n2).toArray] H (fun v H' => v = .tuple #[.string (tellB s ty cd x k1 n1 k2 n2).1, I (tellB s ty cd x k1 n1 k2 n2).2] ∧ Ext H H') := by
  unfold fitsI at hc
  have zz := sz5 (a := ty) (b := sEq) (c := toldS k1 n1) (d := sBar) (e := toldS k2 n2) ht (by decide) (toldS_len _ _) (by decide) (toldS_len _ _) (by omega)
  have hp := ln_pos s x.toNat
  have zl := sz5 (a := num (lnAt s x.toNat).1) (b := sCol) (c := num (lnAt s x.toNat).2) (d := sErr) (e := num cd.toNat) (m := 20) (num_size _) (by decide) (by have := num_size (lnAt s x.toNat).2; omega) (by decide) (by have := num_size cd.toNat; omega) (by omega)
  refine Ret.of_at (N := 60) Tryd.call18 Tryd.func18 rfl rfl rfl ?_
  have hE := Ext.refl H
  have z_hE := hE.lt
  refine At.region rfl rfl ?_
  refine Reg.op rfl rfl rfl rfl (Does.box rfl rfl) ?_
  rintro _ H0_0 ⟨rfl, hn0_0⟩
  have z0_0 := hn0_0.size
  replace hE := hE.ext hn0_0.ext
  have o0_0 := hn0_0.own
  refine Reg.pur rfl rfl rfl rfl (Pur.asg rfl) ?_
  refine Reg.pur rfl rfl rfl rfl (Pur.asg rfl) ?_
  refine Reg.nil ?_
  refine At.region rfl rfl ?_
  refine Reg.pur rfl rfl rfl rfl (Pur.fld _ fo39_3 rfl) ?_
  refine Reg.lod rfl rfl rfl rfl (Lod.ldn ag37 rfl o0_0.blk (by first | exact whole rfl | rfl | (simp only [List.drop_succ_cons, List.drop_zero, List.take_succ_cons, List.take_zero]; rfl)) (by first | rfl | (simp [*]; done))) ?_
  refine Reg.op rfl rfl rfl rfl (Does.call rfl (omayR_ok _ _ _)) ?_
  rintro _ H1_2 ⟨rfl, hE1_2⟩
  have z1_2 := hE1_2.lt
  replace hE := hE.ext hE1_2
  replace o0_0 := o0_0.ext hE1_2
  refine Reg.pur rfl rfl rfl rfl (Pur.not rfl) ?_
  refine Reg.pur rfl rfl rfl rfl (Pur.mv rfl) ?_
  refine Reg.case 13 rfl (fun q13 => ?_) (fun q13 => ?_)
  · first | (simp only [decide_eq_true_eq, decide_eq_false_iff_not, Bool.not_eq_true', Bool.not_eq_false', ne_eq, Decidable.not_not, Bool.not_eq_true, Bool.not_eq_false] at q13) | (dsimp only at q13) | skip
    refine Reg.skip rfl rfl rfl rfl rfl rfl rfl ?_
    refine Reg.skip rfl rfl rfl rfl rfl rfl rfl ?_
    refine Reg.skip rfl rfl rfl rfl rfl rfl rfl ?_
    refine Reg.skip rfl rfl rfl rfl rfl rfl rfl ?_
    refine Reg.pur rfl rfl rfl rfl (Pur.pickT rfl rfl) ?_
    refine Reg.pur rfl rfl rfl rfl (Pur.mv rfl) ?_
    refine Reg.skip rfl rfl rfl rfl rfl rfl rfl ?_
    refine Reg.skip rfl rfl rfl rfl rfl rfl rfl ?_
    refine Reg.skip rfl rfl rfl rfl rfl rfl rfl ?_
    refine Reg.pur rfl rfl rfl rfl (Pur.pickT rfl rfl) ?_
    refine Reg.nil ?_
    refine At.condT rfl rfl rfl ?_
    have hbad : ¬ (mayO k1 n1 = true ∧ mayO k2 n2 = true ∧ 0 ≤ cd) := by simp_all
    refine At.region rfl rfl ?_
    refine Reg.pur rfl rfl rfl rfl (Pur.asg rfl) ?_
    refine Reg.pur rfl rfl rfl rfl (Pur.asg rfl) ?_
    refine Reg.nil ?_
    refine At.ret rfl Tryd.func18 rfl ?_
    rw [tellB_bad hbad]
    exact ⟨rfl, hE⟩
  first | (simp only [decide_eq_true_eq, decide_eq_false_iff_not, Bool.not_eq_true', Bool.not_eq_false', ne_eq, Decidable.not_not, Bool.not_eq_true, Bool.not_eq_false] at q13) | (dsimp only at q13) | skip
  refine Reg.gpur rfl rfl rfl rfl rfl rfl (Pur.fld _ fo39_4 rfl) ?_
  refine Reg.glod rfl rfl rfl rfl rfl rfl (Lod.ldn ag37 rfl o0_0.blk (by first | exact whole rfl | rfl | (simp only [List.drop_succ_cons, List.drop_zero, List.take_succ_cons, List.take_zero]; rfl)) (by first | rfl | (simp [*]; done))) ?_
  refine Reg.gop rfl rfl rfl rfl rfl rfl (Does.call rfl (omayR_ok _ _ _)) ?_
  rintro _ H1_7 ⟨rfl, hE1_7⟩
  have z1_7 := hE1_7.lt
  replace hE := hE.ext hE1_7
  replace o0_0 := o0_0.ext hE1_7
  refine Reg.gpur rfl rfl rfl rfl rfl rfl (Pur.not rfl) ?_
  refine Reg.pur rfl rfl rfl rfl (Pur.pickF rfl rfl) ?_
  refine Reg.pur rfl rfl rfl rfl (Pur.mv rfl) ?_
  refine Reg.case 19 rfl (fun q19 => ?_) (fun q19 => ?_)
  · first | (simp only [decide_eq_true_eq, decide_eq_false_iff_not, Bool.not_eq_true', Bool.not_eq_false', ne_eq, Decidable.not_not, Bool.not_eq_true, Bool.not_eq_false] at q19) | (dsimp only at q19) | skip
    refine Reg.skip rfl rfl rfl rfl rfl rfl rfl ?_
    refine Reg.skip rfl rfl rfl rfl rfl rfl rfl ?_
    refine Reg.skip rfl rfl rfl rfl rfl rfl rfl ?_
    refine Reg.pur rfl rfl rfl rfl (Pur.pickT rfl rfl) ?_
    refine Reg.nil ?_
    refine At.condT rfl rfl rfl ?_
    have hbad : ¬ (mayO k1 n1 = true ∧ mayO k2 n2 = true ∧ 0 ≤ cd) := by simp_all
    refine At.region rfl rfl ?_
    refine Reg.pur rfl rfl rfl rfl (Pur.asg rfl) ?_
    refine Reg.pur rfl rfl rfl rfl (Pur.asg rfl) ?_
    refine Reg.nil ?_
    refine At.ret rfl Tryd.func18 rfl ?_
    rw [tellB_bad hbad]
    exact ⟨rfl, hE⟩
  first | (simp only [decide_eq_true_eq, decide_eq_false_iff_not, Bool.not_eq_true', Bool.not_eq_false', ne_eq, Decidable.not_not, Bool.not_eq_true, Bool.not_eq_false] at q19) | (dsimp only at q19) | skip
  refine Reg.gpur rfl rfl rfl rfl rfl rfl (Pur.fld _ fo39_0 rfl) ?_
  refine Reg.glod rfl rfl rfl rfl rfl rfl (Lod.ld sc3 rfl o0_0.blk (by first | rfl | (simp; done))) ?_
  refine Reg.gpur rfl rfl rfl rfl rfl rfl (Pur.lss rfl rfl) ?_
  refine Reg.pur rfl rfl rfl rfl (Pur.pickF rfl rfl) ?_
  refine Reg.nil ?_
  refine At.cond rfl rfl (fun q23 => ?_) (fun q23 => ?_)
  · first | (simp only [decide_eq_true_eq, decide_eq_false_iff_not, Bool.not_eq_true', Bool.not_eq_false', ne_eq, Decidable.not_not, Bool.not_eq_true, Bool.not_eq_false] at q23) | (dsimp only at q23) | skip
    have hbad : ¬ (mayO k1 n1 = true ∧ mayO k2 n2 = true ∧ 0 ≤ cd) := by simp_all
    refine At.region rfl rfl ?_
    refine Reg.pur rfl rfl rfl rfl (Pur.asg rfl) ?_
    refine Reg.pur rfl rfl rfl rfl (Pur.asg rfl) ?_
    refine Reg.nil ?_
    refine At.ret rfl Tryd.func18 rfl ?_
    rw [tellB_bad hbad]
    exact ⟨rfl, hE⟩
  first | (simp only [decide_eq_true_eq, decide_eq_false_iff_not, Bool.not_eq_true', Bool.not_eq_false', ne_eq, Decidable.not_not, Bool.not_eq_true, Bool.not_eq_false] at q23) | (dsimp only at q23) | skip
  have hgood : mayO k1 n1 = true ∧ mayO k2 n2 = true ∧ 0 ≤ cd := by simp_all
  refine At.region rfl rfl ?_
  refine Reg.pur rfl rfl rfl rfl (Pur.fld _ fo39_0 rfl) ?_
  refine Reg.lod rfl rfl rfl rfl (Lod.ld sc3 rfl o0_0.blk (by first | rfl | (simp; done))) ?_
  refine Reg.pur rfl rfl rfl rfl (Pur.neq rfl rfl) ?_
  refine Reg.nil ?_
  refine At.cond rfl rfl (fun q26 => ?_) (fun q26 => ?_)
  · first | (simp only [decide_eq_true_eq, decide_eq_false_iff_not, Bool.not_eq_true', Bool.not_eq_false', ne_eq, Decidable.not_not, Bool.not_eq_true, Bool.not_eq_false] at q26) | (dsimp only at q26) | skip
    refine At.region rfl rfl ?_
    refine Reg.pur rfl rfl rfl rfl (Pur.mv rfl) ?_
    refine Reg.pur rfl rfl rfl rfl (Pur.fld _ fo39_1 rfl) ?_
    refine Reg.lod rfl rfl rfl rfl (Lod.ld sc3 rfl o0_0.blk (by first | rfl | (simp; done))) ?_
    refine Reg.op rfl rfl rfl rfl (Does.call rfl (lineTR_ok s hs x _)) ?_
    rintro _ H1_7 ⟨rfl, rfl⟩
    refine Reg.pur rfl rfl rfl rfl (Pur.mv rfl) ?_
    refine Reg.pur rfl rfl rfl rfl (Pur.ext rfl rfl) ?_
    refine Reg.pur rfl rfl rfl rfl (Pur.ext rfl rfl) ?_
    refine Reg.pur rfl rfl rfl rfl (Pur.ext rfl rfl) ?_
    refine Reg.pur rfl rfl rfl rfl (Pur.asg rfl) ?_
    refine Reg.pur rfl rfl rfl rfl (Pur.asg rfl) ?_
    refine Reg.pur rfl rfl rfl rfl (Pur.asg rfl) ?_
    refine Reg.nil ?_
    have he2 := lnE_two s x
    refine At.region rfl rfl ?_
    refine Reg.pur rfl rfl rfl rfl (Pur.mv rfl) ?_
    refine Reg.pur rfl rfl rfl rfl (Pur.neq rfl rfl) ?_
    refine Reg.nil ?_
    refine At.cond rfl rfl (fun q36 => ?_) (fun q36 => ?_)
    · first | (simp only [decide_eq_true_eq, decide_eq_false_iff_not, Bool.not_eq_true', Bool.not_eq_false', ne_eq, Decidable.not_not, Bool.not_eq_true, Bool.not_eq_false] at q36) | (dsimp only at q36) | skip
      have hx : ¬ (0 ≤ x ∧ x ≤ s.size) := by omega
      refine At.region rfl rfl ?_
      refine Reg.pur rfl rfl rfl rfl (Pur.asg rfl) ?_
      refine Reg.pur rfl rfl rfl rfl (Pur.asg rfl) ?_
      refine Reg.nil ?_
      refine At.ret rfl Tryd.func18 rfl ?_
      rw [tellB_off hgood (by assumption) hx]
      exact ⟨rfl, hE⟩
    first | (simp only [decide_eq_true_eq, decide_eq_false_iff_not, Bool.not_eq_true', Bool.not_eq_false', ne_eq, Decidable.not_not, Bool.not_eq_true, Bool.not_eq_false] at q36) | (dsimp only at q36) | skip
    have hx : 0 ≤ x ∧ x ≤ s.size := by omega
    have hll := (ln_yes hx).1
    have hlc := (ln_yes hx).2.1
    have hn1 : num (lnL s x).toNat = num (lnAt s x.toNat).1 := by rw [hll, Int.toNat_natCast]
    have hn2 : num (lnC s x).toNat = num (lnAt s x.toNat).2 := by rw [hlc, Int.toNat_natCast]
    refine At.drawE ((Bks.cons o0_0.blk Bks.nil)) [9] mixed rfl rfl ?_
    refine RegD.tpur (i := 0) rfl rfl rfl rfl (by kernel_rfl) (Pur.mv rfl) ?_
    refine RegD.tpur (i := 3) rfl rfl rfl rfl (by kernel_rfl) (Pur.mv rfl) ?_
    refine RegD.tpur (i := 7) rfl rfl rfl rfl (by kernel_rfl) (Pur.fld _ fo39_0 rfl) ?_
    refine RegD.take (i := 8) rfl rfl rfl rfl (by kernel_rfl) (Bks.cons o0_0.blk Bks.nil) (fun H hS => Lod.ld sc3 rfl hS.hd (by first | rfl | (simp; done))) ?_
    refine RegD.one (i := 1) (by kernel_rfl) rfl rfl rfl rfl (Does.call rfl (decimalI_ok _ (by omega) (by omega) _)) ?_
    rintro _ H7_1 ⟨rfl, hE7_1⟩
    have z7_1 := hE7_1.lt
    replace hE := hE.ext hE7_1
    replace o0_0 := o0_0.ext hE7_1
    rw [hn1]
    refine ⟨fun _ _ => (Bks.cons o0_0.blk Bks.nil), ?_⟩
    refine RegD.tpur (i := 2) rfl rfl rfl rfl (by kernel_rfl) (Pur.addS rfl rfl zl.1) ?_
    refine RegD.one (i := 4) (by kernel_rfl) rfl rfl rfl rfl (Does.call rfl (decimalI_ok _ (by omega) (by omega) _)) ?_
    rintro _ H7_4 ⟨rfl, hE7_4⟩
    have z7_4 := hE7_4.lt
    replace hE := hE.ext hE7_4
    replace o0_0 := o0_0.ext hE7_4
    rw [hn2]
    refine ⟨fun _ _ => (Bks.cons o0_0.blk Bks.nil), ?_⟩
    refine RegD.tpur (i := 5) rfl rfl rfl rfl (by kernel_rfl) (Pur.addS rfl rfl zl.2.1) ?_
    refine RegD.tpur (i := 6) rfl rfl rfl rfl (by kernel_rfl) (Pur.addS rfl rfl zl.2.2.1) ?_
    refine RegD.one (i := 9) (by kernel_rfl) rfl rfl rfl rfl (Does.call rfl (decimalI_ok _ (by omega) (by omega) _)) ?_
    rintro _ H7_9 ⟨rfl, hE7_9⟩
    have z7_9 := hE7_9.lt
    replace hE := hE.ext hE7_9
    replace o0_0 := o0_0.ext hE7_9
    refine ⟨fun h => (by cases h), ?_⟩
    refine RegD.tpur (i := 10) rfl rfl rfl rfl (by kernel_rfl) (Pur.addS rfl rfl zl.2.2.2) ?_
    refine RegD.tpur (i := 11) rfl rfl rfl rfl (by kernel_rfl) (Pur.asg rfl) ?_
    refine RegD.tpur (i := 12) rfl rfl rfl rfl (by kernel_rfl) (Pur.asg rfl) ?_
    refine RegD.done (by kernel_rfl) ?_
    refine At.ret rfl Tryd.func18 rfl ?_
    rw [tellB_at hgood (by assumption) hx]
    exact ⟨rfl, hE⟩
  first | (simp only [decide_eq_true_eq, decide_eq_false_iff_not, Bool.not_eq_true', Bool.not_eq_false', ne_eq, Decidable.not_not, Bool.not_eq_true, Bool.not_eq_false] at q26) | (dsimp only at q26) | skip
  have hf1 : mayP k1 n1 := of_decide_eq_true hgood.1
  have hf2 : mayP k2 n2 := of_decide_eq_true hgood.2.1
  refine At.drawE ((Bks.cons o0_0.blk Bks.nil)) [] mixed rfl rfl ?_
  refine RegD.tpur (i := 0) rfl rfl rfl rfl (by kernel_rfl) (Pur.fld _ fo39_2 rfl) ?_
  refine RegD.take (i := 1) rfl rfl rfl rfl (by kernel_rfl) (Bks.cons o0_0.blk Bks.nil) (fun H hS => Lod.ld sc9 rfl hS.hd (by first | rfl | (simp; done))) ?_
  refine RegD.tpur (i := 2) rfl rfl rfl rfl (by kernel_rfl) (Pur.addS rfl rfl zz.1) ?_
  refine RegD.tpur (i := 3) rfl rfl rfl rfl (by kernel_rfl) (Pur.fld _ fo39_3 rfl) ?_
  refine RegD.take (i := 4) rfl rfl rfl rfl (by kernel_rfl) (Bks.cons o0_0.blk Bks.nil) (fun H hS => Lod.ldn ag37 rfl hS.hd (by first | exact whole rfl | rfl | (simp only [List.drop_succ_cons, List.drop_zero, List.take_succ_cons, List.take_zero]; rfl)) (by first | rfl | (simp [*]; done))) ?_
  refine RegD.tpur (i := 8) rfl rfl rfl rfl (by kernel_rfl) (Pur.fld _ fo39_4 rfl) ?_
  refine RegD.take (i := 9) rfl rfl rfl rfl (by kernel_rfl) (Bks.cons o0_0.blk Bks.nil) (fun H hS => Lod.ldn ag37 rfl hS.hd (by first | exact whole rfl | rfl | (simp only [List.drop_succ_cons, List.drop_zero, List.take_succ_cons, List.take_zero]; rfl)) (by first | rfl | (simp [*]; done))) ?_
  refine RegD.one (i := 5) (by kernel_rfl) rfl rfl rfl rfl (Does.call rfl (tellR_ok k1 n1 hf1 _)) ?_
  rintro _ H8_5 ⟨rfl, hE8_5⟩
  have z8_5 := hE8_5.lt
  replace hE := hE.ext hE8_5
  replace o0_0 := o0_0.ext hE8_5
  refine ⟨fun _ _ => (Bks.cons o0_0.blk Bks.nil), ?_⟩
  refine RegD.tpur (i := 6) rfl rfl rfl rfl (by kernel_rfl) (Pur.addS rfl rfl zz.2.1) ?_
  refine RegD.tpur (i := 7) rfl rfl rfl rfl (by kernel_rfl) (Pur.addS rfl rfl zz.2.2.1) ?_
  refine RegD.one (i := 10) (by kernel_rfl) rfl rfl rfl rfl (Does.call rfl (tellR_ok k2 n2 hf2 _)) ?_
  rintro _ H8_10 ⟨rfl, hE8_10⟩
  have z8_10 := hE8_10.lt
  replace hE := hE.ext hE8_10
  replace o0_0 := o0_0.ext hE8_10
  refine ⟨fun _ _ => (Bks.cons o0_0.blk Bks.nil), ?_⟩
  refine RegD.tpur (i := 11) rfl rfl rfl rfl (by kernel_rfl) (Pur.addS rfl rfl zz.2.2.2) ?_
  refine RegD.tpur (i := 12) rfl rfl rfl rfl (by kernel_rfl) (Pur.asg rfl) ?_
  refine RegD.tpur (i := 13) rfl rfl rfl rfl (by kernel_rfl) (Pur.asg rfl) ?_
  refine RegD.done (by kernel_rfl) ?_
  refine At.ret rfl Tryd.func18 rfl ?_
  rw [tellB_zero hgood (by assumption)]
  exact ⟨rfl, hE⟩
end Go.Proofs.YtjhkmebmbopfoaaDoor
