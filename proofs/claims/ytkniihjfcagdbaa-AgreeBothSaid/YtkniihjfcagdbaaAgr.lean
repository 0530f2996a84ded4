/-
  Package agree, and its reference.
-/
import Derived.Test.YtkniihjfcagdbaaFxS
import Derived.Test.YtkniihjfcagdbaaProg
namespace Go.Proofs.Ytkniihjfcagdbaa
set_option linter.unusedSimpArgs false
set_option linter.unusedVariables false
open Go Go.Fx Go.Proofs
namespace FactsAgr
theorem ag24 : ag Try.prog 24 = some 2 := by kernel_rfl
theorem eqt24 : eqT Try.prog 24 = some [.int .i64, .int .i64] := by kernel_rfl
theorem fo24_0 : foff Try.prog 24 0 = some 0 := by kernel_rfl
theorem fo24_1 : foff Try.prog 24 1 = some 1 := by kernel_rfl
theorem sc3 : sc Try.prog 3 = true := by kernel_rfl
end FactsAgr
open FactsAgr
abbrev I (n : Int) : Value := .int .i64 n
abbrev Is (xs : List Int) : List Value := xs.map (Value.int .i64)
abbrev fitsI (n : Int) : Prop := -9223372036854775808 ≤ n ∧ n ≤ 9223372036854775807

theorem num_ok (n : Int) (H : Heap) (h : fitsI n) : Ret Try.prog 22 [I n] H (fun v H' => v = I n ∧ H' = H) := by
  refine Ret.of_at (N := 4) Try.call22 Try.func22 rfl rfl rfl ?_
  refine At.region rfl rfl ?_
  refine Reg.pur rfl rfl rfl rfl (Pur.asg rfl) ?_
  refine Reg.nil ?_
  refine At.region rfl rfl ?_
  refine Reg.pur rfl rfl rfl rfl (Pur.mv rfl) ?_
  refine Reg.pur rfl rfl rfl rfl (Pur.asg rfl) ?_
  refine Reg.nil ?_
  refine At.ret rfl Try.func22 rfl ?_
  exact ⟨rfl, rfl⟩

/-- P22.1 -/
def fuelA (s : Int) : Int := if s < 0 ∨ 30 < s then 0 else 1024 * (s + 1) * (s + 1)
def fuelE (s : Int) : Int := if s < 0 ∨ 30 < s then 2200 else 0
theorem sq_bd {s : Int} (h : ¬ (s < 0 ∨ 30 < s)) : -9223372036854775808 ≤ 1024 * (s + 1) * (s + 1) ∧ 1024 * (s + 1) * (s + 1) ≤ 9223372036854775807 := by
  have h1 : 0 ≤ 1024 * (s + 1) * (s + 1) := Int.mul_nonneg (by omega) (by omega)
  have h2 : 1024 * (s + 1) * (s + 1) ≤ 31744 * 31 := Int.mul_le_mul (by omega) (by omega) (by omega) (by omega)
  omega
theorem fuel_ok (s : Int) (hs : fitsI s) (H : Heap) : Ret Try.prog 18 [I s] H (fun v H' => v = .tuple #[I (fuelA s), I (fuelE s)] ∧ H' = H) := by
  unfold fitsI at hs
  refine Ret.of_at (N := 16) Try.call18 Try.func18 rfl rfl rfl ?_
  refine At.region rfl rfl ?_
  refine Reg.pur rfl rfl rfl rfl (Pur.asg rfl) ?_
  refine Reg.pur rfl rfl rfl rfl (Pur.asg rfl) ?_
  refine Reg.nil ?_
  refine At.region rfl rfl ?_
  refine Reg.pur rfl rfl rfl rfl (Pur.mv rfl) ?_
  refine Reg.pur rfl rfl rfl rfl (Pur.lss rfl rfl) ?_
  refine Reg.pur rfl rfl rfl rfl (Pur.mv rfl) ?_
  refine Reg.case 6 rfl (fun hc1 => ?_) (fun hc1 => ?_)
  · refine Reg.skip rfl rfl rfl rfl rfl rfl rfl ?_
    refine Reg.skip rfl rfl rfl rfl rfl rfl rfl ?_
    refine Reg.pur rfl rfl rfl rfl (Pur.pickT rfl rfl) ?_
    refine Reg.nil ?_
    refine At.condT rfl rfl rfl ?_
    have hb : s < 0 ∨ 30 < s := by simp only [decide_eq_true_eq] at *; omega
    refine At.region rfl rfl ?_
    refine Reg.pur rfl rfl rfl rfl (Pur.asg rfl) ?_
    refine Reg.pur rfl rfl rfl rfl (Pur.asg rfl) ?_
    refine Reg.nil ?_
    refine At.ret rfl Try.func18 rfl ?_
    exact ⟨by simp only [fuelA, fuelE, hb, if_true, if_false], rfl⟩
  · refine Reg.gpur rfl rfl rfl rfl rfl rfl (Pur.mv rfl) ?_
    refine Reg.gpur rfl rfl rfl rfl rfl rfl (Pur.gtr rfl rfl) ?_
    refine Reg.pur rfl rfl rfl rfl (Pur.pickF rfl rfl) ?_
    refine Reg.nil ?_
    refine At.cond rfl rfl (fun hb2 => ?_) (fun hb2 => ?_)
    · have hb : s < 0 ∨ 30 < s := by simp only [decide_eq_true_eq] at *; omega
      refine At.region rfl rfl ?_
      refine Reg.pur rfl rfl rfl rfl (Pur.asg rfl) ?_
      refine Reg.pur rfl rfl rfl rfl (Pur.asg rfl) ?_
      refine Reg.nil ?_
      refine At.ret rfl Try.func18 rfl ?_
      exact ⟨by simp only [fuelA, fuelE, hb, if_true, if_false], rfl⟩
    · have hb : ¬ (s < 0 ∨ 30 < s) := by simp only [decide_eq_false_iff_not] at *; omega
      have hq := sq_bd hb
      refine At.region rfl rfl ?_
      refine Reg.pur rfl rfl rfl rfl (Pur.mv rfl) ?_
      first | refine Reg.pur rfl rfl rfl rfl (Pur.add64 rfl rfl (by omega)) ?_ | refine Reg.pur rfl rfl rfl rfl (Pur.add64 rfl rfl (by assumption)) ?_ | refine Reg.pur rfl rfl rfl rfl (Pur.add rfl rfl) ?_
      first | refine Reg.pur rfl rfl rfl rfl (Pur.mul64 rfl rfl (by omega)) ?_ | refine Reg.pur rfl rfl rfl rfl (Pur.mul64 rfl rfl (by assumption)) ?_ | refine Reg.pur rfl rfl rfl rfl (Pur.mul rfl rfl) ?_
      refine Reg.pur rfl rfl rfl rfl (Pur.mv rfl) ?_
      first | refine Reg.pur rfl rfl rfl rfl (Pur.add64 rfl rfl (by omega)) ?_ | refine Reg.pur rfl rfl rfl rfl (Pur.add64 rfl rfl (by assumption)) ?_ | refine Reg.pur rfl rfl rfl rfl (Pur.add rfl rfl) ?_
      first | refine Reg.pur rfl rfl rfl rfl (Pur.mul64 rfl rfl (by omega)) ?_ | refine Reg.pur rfl rfl rfl rfl (Pur.mul64 rfl rfl (by assumption)) ?_ | refine Reg.pur rfl rfl rfl rfl (Pur.mul rfl rfl) ?_
      refine Reg.pur rfl rfl rfl rfl (Pur.asg rfl) ?_
      refine Reg.pur rfl rfl rfl rfl (Pur.asg rfl) ?_
      refine Reg.nil ?_
      refine At.ret rfl Try.func18 rfl ?_
      exact ⟨by simp only [fuelA, fuelE, hb, if_true, if_false], rfl⟩
theorem fuelR_ok (s : Int) (hs : fitsI s) (H : Heap) : Ret Try.prog 19 [I s] H (fun v H' => v = .tuple #[I (fuelA s), I (fuelE s)] ∧ H' = H) := by
  unfold fitsI at hs
  refine Ret.of_at (N := 16) Try.call19 Try.func19 rfl rfl rfl ?_
  refine At.region rfl rfl ?_
  refine Reg.pur rfl rfl rfl rfl (Pur.asg rfl) ?_
  refine Reg.pur rfl rfl rfl rfl (Pur.asg rfl) ?_
  refine Reg.nil ?_
  refine At.region rfl rfl ?_
  refine Reg.pur rfl rfl rfl rfl (Pur.mv rfl) ?_
  refine Reg.pur rfl rfl rfl rfl (Pur.lss rfl rfl) ?_
  refine Reg.pur rfl rfl rfl rfl (Pur.mv rfl) ?_
  refine Reg.case 6 rfl (fun hc1 => ?_) (fun hc1 => ?_)
  · refine Reg.skip rfl rfl rfl rfl rfl rfl rfl ?_
    refine Reg.skip rfl rfl rfl rfl rfl rfl rfl ?_
    refine Reg.pur rfl rfl rfl rfl (Pur.pickT rfl rfl) ?_
    refine Reg.nil ?_
    refine At.condT rfl rfl rfl ?_
    have hb : s < 0 ∨ 30 < s := by simp only [decide_eq_true_eq] at *; omega
    refine At.region rfl rfl ?_
    refine Reg.pur rfl rfl rfl rfl (Pur.asg rfl) ?_
    refine Reg.pur rfl rfl rfl rfl (Pur.asg rfl) ?_
    refine Reg.nil ?_
    refine At.ret rfl Try.func19 rfl ?_
    exact ⟨by simp only [fuelA, fuelE, hb, if_true, if_false], rfl⟩
  · refine Reg.gpur rfl rfl rfl rfl rfl rfl (Pur.mv rfl) ?_
    refine Reg.gpur rfl rfl rfl rfl rfl rfl (Pur.gtr rfl rfl) ?_
    refine Reg.pur rfl rfl rfl rfl (Pur.pickF rfl rfl) ?_
    refine Reg.nil ?_
    refine At.cond rfl rfl (fun hb2 => ?_) (fun hb2 => ?_)
    · have hb : s < 0 ∨ 30 < s := by simp only [decide_eq_true_eq] at *; omega
      refine At.region rfl rfl ?_
      refine Reg.pur rfl rfl rfl rfl (Pur.asg rfl) ?_
      refine Reg.pur rfl rfl rfl rfl (Pur.asg rfl) ?_
      refine Reg.nil ?_
      refine At.ret rfl Try.func19 rfl ?_
      exact ⟨by simp only [fuelA, fuelE, hb, if_true, if_false], rfl⟩
    · have hb : ¬ (s < 0 ∨ 30 < s) := by simp only [decide_eq_false_iff_not] at *; omega
      have hq := sq_bd hb
      refine At.region rfl rfl ?_
      refine Reg.pur rfl rfl rfl rfl (Pur.mv rfl) ?_
      first | refine Reg.pur rfl rfl rfl rfl (Pur.add64 rfl rfl (by omega)) ?_ | refine Reg.pur rfl rfl rfl rfl (Pur.add64 rfl rfl (by assumption)) ?_ | refine Reg.pur rfl rfl rfl rfl (Pur.add rfl rfl) ?_
      first | refine Reg.pur rfl rfl rfl rfl (Pur.mul64 rfl rfl (by omega)) ?_ | refine Reg.pur rfl rfl rfl rfl (Pur.mul64 rfl rfl (by assumption)) ?_ | refine Reg.pur rfl rfl rfl rfl (Pur.mul rfl rfl) ?_
      refine Reg.pur rfl rfl rfl rfl (Pur.mv rfl) ?_
      first | refine Reg.pur rfl rfl rfl rfl (Pur.add64 rfl rfl (by omega)) ?_ | refine Reg.pur rfl rfl rfl rfl (Pur.add64 rfl rfl (by assumption)) ?_ | refine Reg.pur rfl rfl rfl rfl (Pur.add rfl rfl) ?_
      first | refine Reg.pur rfl rfl rfl rfl (Pur.mul64 rfl rfl (by omega)) ?_ | refine Reg.pur rfl rfl rfl rfl (Pur.mul64 rfl rfl (by assumption)) ?_ | refine Reg.pur rfl rfl rfl rfl (Pur.mul rfl rfl) ?_
      refine Reg.pur rfl rfl rfl rfl (Pur.asg rfl) ?_
      refine Reg.pur rfl rfl rfl rfl (Pur.asg rfl) ?_
      refine Reg.nil ?_
      refine At.ret rfl Try.func19 rfl ?_
      exact ⟨by simp only [fuelA, fuelE, hb, if_true, if_false], rfl⟩

/-- an outcome may be -/
abbrev mayP (k n : Int) : Prop := (k = 0 ∧ -1073741824 ≤ n ∧ n ≤ 1073741823) ∨ ((k = 1 ∨ k = 3) ∧ 0 ≤ n ∧ n ≤ 1) ∨ ((k = 2 ∨ k = 4 ∨ k = 5) ∧ n = 0)
def mayO (k n : Int) : Bool := decide (mayP k n)
theorem omay_ok (k n : Int) (H : Heap) : Ret Try.prog 31 [.agg (Is [k, n]).toArray] H (fun v H' => v = .bool (mayO k n) ∧ Ext H H') := by
  refine Ret.of_at (N := 33) Try.call31 Try.func31 rfl rfl rfl ?_
  refine At.region rfl rfl ?_
  refine Reg.op rfl rfl rfl rfl (Does.box rfl rfl) ?_
  rintro _ H1 ⟨rfl, hn1⟩
  refine Reg.pur rfl rfl rfl rfl (Pur.asg rfl) ?_
  refine Reg.nil ?_
  have hB := hn1.own.blk
  refine At.region rfl rfl ?_
  refine Reg.pur rfl rfl rfl rfl (Pur.asg rfl) ?_
  refine Reg.pur rfl rfl rfl rfl (Pur.asg rfl) ?_
  refine Reg.nil ?_
  refine At.region rfl rfl ?_
  refine Reg.pur rfl rfl rfl rfl (Pur.fld _ fo24_0 rfl) ?_
  refine Reg.lod rfl rfl rfl rfl (Lod.ld sc3 rfl hB rfl) ?_
  refine Reg.nil ?_
  refine At.region rfl rfl ?_
  refine Reg.pur rfl rfl rfl rfl (Pur.eql rfl rfl) ?_
  refine Reg.pur rfl rfl rfl rfl (Pur.asg rfl) ?_
  refine Reg.nil ?_
  refine At.cond rfl rfl (fun hb1 => ?_) (fun hb1 => ?_)
  · refine At.region rfl rfl ?_
    refine Reg.pur rfl rfl rfl rfl (Pur.asg rfl) ?_
    refine Reg.pur rfl rfl rfl rfl (Pur.asg rfl) ?_
    refine Reg.nil ?_
    refine At.region rfl rfl ?_
    refine Reg.pur rfl rfl rfl rfl (Pur.fld _ fo24_0 rfl) ?_
    refine Reg.lod rfl rfl rfl rfl (Lod.ld sc3 rfl hB rfl) ?_
    refine Reg.pur rfl rfl rfl rfl (Pur.geq rfl rfl) ?_
    refine Reg.pur rfl rfl rfl rfl (Pur.mv rfl) ?_
    refine Reg.case 16 rfl (fun hc2 => ?_) (fun hc2 => ?_)
    · refine Reg.gpur rfl rfl rfl rfl rfl rfl (Pur.fld _ fo24_0 rfl) ?_
      refine Reg.glod rfl rfl rfl rfl rfl rfl (Lod.ld sc3 rfl hB rfl) ?_
      refine Reg.gpur rfl rfl rfl rfl rfl rfl (Pur.leq rfl rfl) ?_
      refine Reg.pur rfl rfl rfl rfl (Pur.pickT rfl rfl) ?_
      refine Reg.pur rfl rfl rfl rfl (Pur.mv rfl) ?_
      refine Reg.case 21 rfl (fun hc3 => ?_) (fun hc3 => ?_)
      · refine Reg.gpur rfl rfl rfl rfl rfl rfl (Pur.fld _ fo24_1 rfl) ?_
        refine Reg.glod rfl rfl rfl rfl rfl rfl (Lod.ld sc3 rfl hB rfl) ?_
        refine Reg.gpur rfl rfl rfl rfl rfl rfl (Pur.mv rfl) ?_
        refine Reg.gpur rfl rfl rfl rfl rfl rfl (Pur.geq rfl rfl) ?_
        refine Reg.pur rfl rfl rfl rfl (Pur.pickT rfl rfl) ?_
        refine Reg.pur rfl rfl rfl rfl (Pur.mv rfl) ?_
        refine Reg.case 27 rfl (fun hc4 => ?_) (fun hc4 => ?_)
        · refine Reg.gpur rfl rfl rfl rfl rfl rfl (Pur.fld _ fo24_1 rfl) ?_
          refine Reg.glod rfl rfl rfl rfl rfl rfl (Lod.ld sc3 rfl hB rfl) ?_
          refine Reg.gpur rfl rfl rfl rfl rfl rfl (Pur.mv rfl) ?_
          refine Reg.gpur rfl rfl rfl rfl rfl rfl (Pur.leq rfl rfl) ?_
          refine Reg.pur rfl rfl rfl rfl (Pur.pickT rfl rfl) ?_
          refine Reg.pur rfl rfl rfl rfl (Pur.asg rfl) ?_
          refine Reg.nil ?_
          refine At.ret rfl Try.func31 rfl ?_
          refine ⟨congrArg Value.bool ?_, hn1.ext⟩
          simp only [decide_eq_true_eq, decide_eq_false_iff_not] at *
          first | exact (decide_eq_true (by omega)).symm | exact (decide_eq_false (by omega)).symm | exact decide_eq_decide.2 (by omega)
        · refine Reg.skip rfl rfl rfl rfl rfl rfl rfl ?_
          refine Reg.skip rfl rfl rfl rfl rfl rfl rfl ?_
          refine Reg.skip rfl rfl rfl rfl rfl rfl rfl ?_
          refine Reg.skip rfl rfl rfl rfl rfl rfl rfl ?_
          refine Reg.pur rfl rfl rfl rfl (Pur.pickF rfl rfl) ?_
          refine Reg.pur rfl rfl rfl rfl (Pur.asg rfl) ?_
          refine Reg.nil ?_
          refine At.ret rfl Try.func31 rfl ?_
          refine ⟨congrArg Value.bool ?_, hn1.ext⟩
          simp only [decide_eq_true_eq, decide_eq_false_iff_not] at *
          first | exact (decide_eq_true (by omega)).symm | exact (decide_eq_false (by omega)).symm | exact decide_eq_decide.2 (by omega)
      · refine Reg.skip rfl rfl rfl rfl rfl rfl rfl ?_
        refine Reg.skip rfl rfl rfl rfl rfl rfl rfl ?_
        refine Reg.skip rfl rfl rfl rfl rfl rfl rfl ?_
        refine Reg.skip rfl rfl rfl rfl rfl rfl rfl ?_
        refine Reg.pur rfl rfl rfl rfl (Pur.pickF rfl rfl) ?_
        refine Reg.pur rfl rfl rfl rfl (Pur.mv rfl) ?_
        refine Reg.skip rfl rfl rfl rfl rfl rfl rfl ?_
        refine Reg.skip rfl rfl rfl rfl rfl rfl rfl ?_
        refine Reg.skip rfl rfl rfl rfl rfl rfl rfl ?_
        refine Reg.skip rfl rfl rfl rfl rfl rfl rfl ?_
        refine Reg.pur rfl rfl rfl rfl (Pur.pickF rfl rfl) ?_
        refine Reg.pur rfl rfl rfl rfl (Pur.asg rfl) ?_
        refine Reg.nil ?_
        refine At.ret rfl Try.func31 rfl ?_
        refine ⟨congrArg Value.bool ?_, hn1.ext⟩
        simp only [decide_eq_true_eq, decide_eq_false_iff_not] at *
        first | exact (decide_eq_true (by omega)).symm | exact (decide_eq_false (by omega)).symm | exact decide_eq_decide.2 (by omega)
    · refine Reg.skip rfl rfl rfl rfl rfl rfl rfl ?_
      refine Reg.skip rfl rfl rfl rfl rfl rfl rfl ?_
      refine Reg.skip rfl rfl rfl rfl rfl rfl rfl ?_
      refine Reg.pur rfl rfl rfl rfl (Pur.pickF rfl rfl) ?_
      refine Reg.pur rfl rfl rfl rfl (Pur.mv rfl) ?_
      refine Reg.skip rfl rfl rfl rfl rfl rfl rfl ?_
      refine Reg.skip rfl rfl rfl rfl rfl rfl rfl ?_
      refine Reg.skip rfl rfl rfl rfl rfl rfl rfl ?_
      refine Reg.skip rfl rfl rfl rfl rfl rfl rfl ?_
      refine Reg.pur rfl rfl rfl rfl (Pur.pickF rfl rfl) ?_
      refine Reg.pur rfl rfl rfl rfl (Pur.mv rfl) ?_
      refine Reg.skip rfl rfl rfl rfl rfl rfl rfl ?_
      refine Reg.skip rfl rfl rfl rfl rfl rfl rfl ?_
      refine Reg.skip rfl rfl rfl rfl rfl rfl rfl ?_
      refine Reg.skip rfl rfl rfl rfl rfl rfl rfl ?_
      refine Reg.pur rfl rfl rfl rfl (Pur.pickF rfl rfl) ?_
      refine Reg.pur rfl rfl rfl rfl (Pur.asg rfl) ?_
      refine Reg.nil ?_
      refine At.ret rfl Try.func31 rfl ?_
      refine ⟨congrArg Value.bool ?_, hn1.ext⟩
      simp only [decide_eq_true_eq, decide_eq_false_iff_not] at *
      first | exact (decide_eq_true (by omega)).symm | exact (decide_eq_false (by omega)).symm | exact decide_eq_decide.2 (by omega)
  · refine At.region rfl rfl ?_
    refine Reg.pur rfl rfl rfl rfl (Pur.eql rfl rfl) ?_
    refine Reg.pur rfl rfl rfl rfl (Pur.asg rfl) ?_
    refine Reg.nil ?_
    refine At.cond rfl rfl (fun hb5 => ?_) (fun hb5 => ?_)
    · refine At.region rfl rfl ?_
      refine Reg.pur rfl rfl rfl rfl (Pur.asg rfl) ?_
      refine Reg.nil ?_
      refine At.region rfl rfl ?_
      refine Reg.pur rfl rfl rfl rfl (Pur.fld _ fo24_0 rfl) ?_
      refine Reg.lod rfl rfl rfl rfl (Lod.ld sc3 rfl hB rfl) ?_
      refine Reg.pur rfl rfl rfl rfl (Pur.geq rfl rfl) ?_
      refine Reg.pur rfl rfl rfl rfl (Pur.mv rfl) ?_
      refine Reg.case 16 rfl (fun hc6 => ?_) (fun hc6 => ?_)
      · refine Reg.gpur rfl rfl rfl rfl rfl rfl (Pur.fld _ fo24_0 rfl) ?_
        refine Reg.glod rfl rfl rfl rfl rfl rfl (Lod.ld sc3 rfl hB rfl) ?_
        refine Reg.gpur rfl rfl rfl rfl rfl rfl (Pur.leq rfl rfl) ?_
        refine Reg.pur rfl rfl rfl rfl (Pur.pickT rfl rfl) ?_
        refine Reg.pur rfl rfl rfl rfl (Pur.mv rfl) ?_
        refine Reg.case 21 rfl (fun hc7 => ?_) (fun hc7 => ?_)
        · refine Reg.gpur rfl rfl rfl rfl rfl rfl (Pur.fld _ fo24_1 rfl) ?_
          refine Reg.glod rfl rfl rfl rfl rfl rfl (Lod.ld sc3 rfl hB rfl) ?_
          refine Reg.gpur rfl rfl rfl rfl rfl rfl (Pur.mv rfl) ?_
          refine Reg.gpur rfl rfl rfl rfl rfl rfl (Pur.geq rfl rfl) ?_
          refine Reg.pur rfl rfl rfl rfl (Pur.pickT rfl rfl) ?_
          refine Reg.pur rfl rfl rfl rfl (Pur.mv rfl) ?_
          refine Reg.case 27 rfl (fun hc8 => ?_) (fun hc8 => ?_)
          · refine Reg.gpur rfl rfl rfl rfl rfl rfl (Pur.fld _ fo24_1 rfl) ?_
            refine Reg.glod rfl rfl rfl rfl rfl rfl (Lod.ld sc3 rfl hB rfl) ?_
            refine Reg.gpur rfl rfl rfl rfl rfl rfl (Pur.mv rfl) ?_
            refine Reg.gpur rfl rfl rfl rfl rfl rfl (Pur.leq rfl rfl) ?_
            refine Reg.pur rfl rfl rfl rfl (Pur.pickT rfl rfl) ?_
            refine Reg.pur rfl rfl rfl rfl (Pur.asg rfl) ?_
            refine Reg.nil ?_
            refine At.ret rfl Try.func31 rfl ?_
            refine ⟨congrArg Value.bool ?_, hn1.ext⟩
            simp only [decide_eq_true_eq, decide_eq_false_iff_not] at *
            first | exact (decide_eq_true (by omega)).symm | exact (decide_eq_false (by omega)).symm | exact decide_eq_decide.2 (by omega)
          · refine Reg.skip rfl rfl rfl rfl rfl rfl rfl ?_
            refine Reg.skip rfl rfl rfl rfl rfl rfl rfl ?_
            refine Reg.skip rfl rfl rfl rfl rfl rfl rfl ?_
            refine Reg.skip rfl rfl rfl rfl rfl rfl rfl ?_
            refine Reg.pur rfl rfl rfl rfl (Pur.pickF rfl rfl) ?_
            refine Reg.pur rfl rfl rfl rfl (Pur.asg rfl) ?_
            refine Reg.nil ?_
            refine At.ret rfl Try.func31 rfl ?_
            refine ⟨congrArg Value.bool ?_, hn1.ext⟩
            simp only [decide_eq_true_eq, decide_eq_false_iff_not] at *
            first | exact (decide_eq_true (by omega)).symm | exact (decide_eq_false (by omega)).symm | exact decide_eq_decide.2 (by omega)
        · refine Reg.skip rfl rfl rfl rfl rfl rfl rfl ?_
          refine Reg.skip rfl rfl rfl rfl rfl rfl rfl ?_
          refine Reg.skip rfl rfl rfl rfl rfl rfl rfl ?_
          refine Reg.skip rfl rfl rfl rfl rfl rfl rfl ?_
          refine Reg.pur rfl rfl rfl rfl (Pur.pickF rfl rfl) ?_
          refine Reg.pur rfl rfl rfl rfl (Pur.mv rfl) ?_
          refine Reg.skip rfl rfl rfl rfl rfl rfl rfl ?_
          refine Reg.skip rfl rfl rfl rfl rfl rfl rfl ?_
          refine Reg.skip rfl rfl rfl rfl rfl rfl rfl ?_
          refine Reg.skip rfl rfl rfl rfl rfl rfl rfl ?_
          refine Reg.pur rfl rfl rfl rfl (Pur.pickF rfl rfl) ?_
          refine Reg.pur rfl rfl rfl rfl (Pur.asg rfl) ?_
          refine Reg.nil ?_
          refine At.ret rfl Try.func31 rfl ?_
          refine ⟨congrArg Value.bool ?_, hn1.ext⟩
          simp only [decide_eq_true_eq, decide_eq_false_iff_not] at *
          first | exact (decide_eq_true (by omega)).symm | exact (decide_eq_false (by omega)).symm | exact decide_eq_decide.2 (by omega)
      · refine Reg.skip rfl rfl rfl rfl rfl rfl rfl ?_
        refine Reg.skip rfl rfl rfl rfl rfl rfl rfl ?_
        refine Reg.skip rfl rfl rfl rfl rfl rfl rfl ?_
        refine Reg.pur rfl rfl rfl rfl (Pur.pickF rfl rfl) ?_
        refine Reg.pur rfl rfl rfl rfl (Pur.mv rfl) ?_
        refine Reg.skip rfl rfl rfl rfl rfl rfl rfl ?_
        refine Reg.skip rfl rfl rfl rfl rfl rfl rfl ?_
        refine Reg.skip rfl rfl rfl rfl rfl rfl rfl ?_
        refine Reg.skip rfl rfl rfl rfl rfl rfl rfl ?_
        refine Reg.pur rfl rfl rfl rfl (Pur.pickF rfl rfl) ?_
        refine Reg.pur rfl rfl rfl rfl (Pur.mv rfl) ?_
        refine Reg.skip rfl rfl rfl rfl rfl rfl rfl ?_
        refine Reg.skip rfl rfl rfl rfl rfl rfl rfl ?_
        refine Reg.skip rfl rfl rfl rfl rfl rfl rfl ?_
        refine Reg.skip rfl rfl rfl rfl rfl rfl rfl ?_
        refine Reg.pur rfl rfl rfl rfl (Pur.pickF rfl rfl) ?_
        refine Reg.pur rfl rfl rfl rfl (Pur.asg rfl) ?_
        refine Reg.nil ?_
        refine At.ret rfl Try.func31 rfl ?_
        refine ⟨congrArg Value.bool ?_, hn1.ext⟩
        simp only [decide_eq_true_eq, decide_eq_false_iff_not] at *
        first | exact (decide_eq_true (by omega)).symm | exact (decide_eq_false (by omega)).symm | exact decide_eq_decide.2 (by omega)
    · refine At.region rfl rfl ?_
      refine Reg.pur rfl rfl rfl rfl (Pur.eql rfl rfl) ?_
      refine Reg.pur rfl rfl rfl rfl (Pur.asg rfl) ?_
      refine Reg.nil ?_
      refine At.cond rfl rfl (fun hb9 => ?_) (fun hb9 => ?_)
      · refine At.region rfl rfl ?_
        refine Reg.pur rfl rfl rfl rfl (Pur.asg rfl) ?_
        refine Reg.nil ?_
        refine At.region rfl rfl ?_
        refine Reg.pur rfl rfl rfl rfl (Pur.fld _ fo24_0 rfl) ?_
        refine Reg.lod rfl rfl rfl rfl (Lod.ld sc3 rfl hB rfl) ?_
        refine Reg.pur rfl rfl rfl rfl (Pur.geq rfl rfl) ?_
        refine Reg.pur rfl rfl rfl rfl (Pur.mv rfl) ?_
        refine Reg.case 16 rfl (fun hc10 => ?_) (fun hc10 => ?_)
        · refine Reg.gpur rfl rfl rfl rfl rfl rfl (Pur.fld _ fo24_0 rfl) ?_
          refine Reg.glod rfl rfl rfl rfl rfl rfl (Lod.ld sc3 rfl hB rfl) ?_
          refine Reg.gpur rfl rfl rfl rfl rfl rfl (Pur.leq rfl rfl) ?_
          refine Reg.pur rfl rfl rfl rfl (Pur.pickT rfl rfl) ?_
          refine Reg.pur rfl rfl rfl rfl (Pur.mv rfl) ?_
          refine Reg.case 21 rfl (fun hc11 => ?_) (fun hc11 => ?_)
          · refine Reg.gpur rfl rfl rfl rfl rfl rfl (Pur.fld _ fo24_1 rfl) ?_
            refine Reg.glod rfl rfl rfl rfl rfl rfl (Lod.ld sc3 rfl hB rfl) ?_
            refine Reg.gpur rfl rfl rfl rfl rfl rfl (Pur.mv rfl) ?_
            refine Reg.gpur rfl rfl rfl rfl rfl rfl (Pur.geq rfl rfl) ?_
            refine Reg.pur rfl rfl rfl rfl (Pur.pickT rfl rfl) ?_
            refine Reg.pur rfl rfl rfl rfl (Pur.mv rfl) ?_
            refine Reg.case 27 rfl (fun hc12 => ?_) (fun hc12 => ?_)
            · refine Reg.gpur rfl rfl rfl rfl rfl rfl (Pur.fld _ fo24_1 rfl) ?_
              refine Reg.glod rfl rfl rfl rfl rfl rfl (Lod.ld sc3 rfl hB rfl) ?_
              refine Reg.gpur rfl rfl rfl rfl rfl rfl (Pur.mv rfl) ?_
              refine Reg.gpur rfl rfl rfl rfl rfl rfl (Pur.leq rfl rfl) ?_
              refine Reg.pur rfl rfl rfl rfl (Pur.pickT rfl rfl) ?_
              refine Reg.pur rfl rfl rfl rfl (Pur.asg rfl) ?_
              refine Reg.nil ?_
              refine At.ret rfl Try.func31 rfl ?_
              refine ⟨congrArg Value.bool ?_, hn1.ext⟩
              simp only [decide_eq_true_eq, decide_eq_false_iff_not] at *
              first | exact (decide_eq_true (by omega)).symm | exact (decide_eq_false (by omega)).symm | exact decide_eq_decide.2 (by omega)
            · refine Reg.skip rfl rfl rfl rfl rfl rfl rfl ?_
              refine Reg.skip rfl rfl rfl rfl rfl rfl rfl ?_
              refine Reg.skip rfl rfl rfl rfl rfl rfl rfl ?_
              refine Reg.skip rfl rfl rfl rfl rfl rfl rfl ?_
              refine Reg.pur rfl rfl rfl rfl (Pur.pickF rfl rfl) ?_
              refine Reg.pur rfl rfl rfl rfl (Pur.asg rfl) ?_
              refine Reg.nil ?_
              refine At.ret rfl Try.func31 rfl ?_
              refine ⟨congrArg Value.bool ?_, hn1.ext⟩
              simp only [decide_eq_true_eq, decide_eq_false_iff_not] at *
              first | exact (decide_eq_true (by omega)).symm | exact (decide_eq_false (by omega)).symm | exact decide_eq_decide.2 (by omega)
          · refine Reg.skip rfl rfl rfl rfl rfl rfl rfl ?_
            refine Reg.skip rfl rfl rfl rfl rfl rfl rfl ?_
            refine Reg.skip rfl rfl rfl rfl rfl rfl rfl ?_
            refine Reg.skip rfl rfl rfl rfl rfl rfl rfl ?_
            refine Reg.pur rfl rfl rfl rfl (Pur.pickF rfl rfl) ?_
            refine Reg.pur rfl rfl rfl rfl (Pur.mv rfl) ?_
            refine Reg.skip rfl rfl rfl rfl rfl rfl rfl ?_
            refine Reg.skip rfl rfl rfl rfl rfl rfl rfl ?_
            refine Reg.skip rfl rfl rfl rfl rfl rfl rfl ?_
            refine Reg.skip rfl rfl rfl rfl rfl rfl rfl ?_
            refine Reg.pur rfl rfl rfl rfl (Pur.pickF rfl rfl) ?_
            refine Reg.pur rfl rfl rfl rfl (Pur.asg rfl) ?_
            refine Reg.nil ?_
            refine At.ret rfl Try.func31 rfl ?_
            refine ⟨congrArg Value.bool ?_, hn1.ext⟩
            simp only [decide_eq_true_eq, decide_eq_false_iff_not] at *
            first | exact (decide_eq_true (by omega)).symm | exact (decide_eq_false (by omega)).symm | exact decide_eq_decide.2 (by omega)
        · refine Reg.skip rfl rfl rfl rfl rfl rfl rfl ?_
          refine Reg.skip rfl rfl rfl rfl rfl rfl rfl ?_
          refine Reg.skip rfl rfl rfl rfl rfl rfl rfl ?_
          refine Reg.pur rfl rfl rfl rfl (Pur.pickF rfl rfl) ?_
          refine Reg.pur rfl rfl rfl rfl (Pur.mv rfl) ?_
          refine Reg.skip rfl rfl rfl rfl rfl rfl rfl ?_
          refine Reg.skip rfl rfl rfl rfl rfl rfl rfl ?_
          refine Reg.skip rfl rfl rfl rfl rfl rfl rfl ?_
          refine Reg.skip rfl rfl rfl rfl rfl rfl rfl ?_
          refine Reg.pur rfl rfl rfl rfl (Pur.pickF rfl rfl) ?_
          refine Reg.pur rfl rfl rfl rfl (Pur.mv rfl) ?_
          refine Reg.skip rfl rfl rfl rfl rfl rfl rfl ?_
          refine Reg.skip rfl rfl rfl rfl rfl rfl rfl ?_
          refine Reg.skip rfl rfl rfl rfl rfl rfl rfl ?_
          refine Reg.skip rfl rfl rfl rfl rfl rfl rfl ?_
          refine Reg.pur rfl rfl rfl rfl (Pur.pickF rfl rfl) ?_
          refine Reg.pur rfl rfl rfl rfl (Pur.asg rfl) ?_
          refine Reg.nil ?_
          refine At.ret rfl Try.func31 rfl ?_
          refine ⟨congrArg Value.bool ?_, hn1.ext⟩
          simp only [decide_eq_true_eq, decide_eq_false_iff_not] at *
          first | exact (decide_eq_true (by omega)).symm | exact (decide_eq_false (by omega)).symm | exact decide_eq_decide.2 (by omega)
      · refine At.region rfl rfl ?_
        refine Reg.pur rfl rfl rfl rfl (Pur.fld _ fo24_0 rfl) ?_
        refine Reg.lod rfl rfl rfl rfl (Lod.ld sc3 rfl hB rfl) ?_
        refine Reg.pur rfl rfl rfl rfl (Pur.geq rfl rfl) ?_
        refine Reg.pur rfl rfl rfl rfl (Pur.mv rfl) ?_
        refine Reg.case 16 rfl (fun hc13 => ?_) (fun hc13 => ?_)
        · refine Reg.gpur rfl rfl rfl rfl rfl rfl (Pur.fld _ fo24_0 rfl) ?_
          refine Reg.glod rfl rfl rfl rfl rfl rfl (Lod.ld sc3 rfl hB rfl) ?_
          refine Reg.gpur rfl rfl rfl rfl rfl rfl (Pur.leq rfl rfl) ?_
          refine Reg.pur rfl rfl rfl rfl (Pur.pickT rfl rfl) ?_
          refine Reg.pur rfl rfl rfl rfl (Pur.mv rfl) ?_
          refine Reg.case 21 rfl (fun hc14 => ?_) (fun hc14 => ?_)
          · refine Reg.gpur rfl rfl rfl rfl rfl rfl (Pur.fld _ fo24_1 rfl) ?_
            refine Reg.glod rfl rfl rfl rfl rfl rfl (Lod.ld sc3 rfl hB rfl) ?_
            refine Reg.gpur rfl rfl rfl rfl rfl rfl (Pur.mv rfl) ?_
            refine Reg.gpur rfl rfl rfl rfl rfl rfl (Pur.geq rfl rfl) ?_
            refine Reg.pur rfl rfl rfl rfl (Pur.pickT rfl rfl) ?_
            refine Reg.pur rfl rfl rfl rfl (Pur.mv rfl) ?_
            refine Reg.case 27 rfl (fun hc15 => ?_) (fun hc15 => ?_)
            · refine Reg.gpur rfl rfl rfl rfl rfl rfl (Pur.fld _ fo24_1 rfl) ?_
              refine Reg.glod rfl rfl rfl rfl rfl rfl (Lod.ld sc3 rfl hB rfl) ?_
              refine Reg.gpur rfl rfl rfl rfl rfl rfl (Pur.mv rfl) ?_
              refine Reg.gpur rfl rfl rfl rfl rfl rfl (Pur.leq rfl rfl) ?_
              refine Reg.pur rfl rfl rfl rfl (Pur.pickT rfl rfl) ?_
              refine Reg.pur rfl rfl rfl rfl (Pur.asg rfl) ?_
              refine Reg.nil ?_
              refine At.ret rfl Try.func31 rfl ?_
              refine ⟨congrArg Value.bool ?_, hn1.ext⟩
              simp only [decide_eq_true_eq, decide_eq_false_iff_not] at *
              first | exact (decide_eq_true (by omega)).symm | exact (decide_eq_false (by omega)).symm | exact decide_eq_decide.2 (by omega)
            · refine Reg.skip rfl rfl rfl rfl rfl rfl rfl ?_
              refine Reg.skip rfl rfl rfl rfl rfl rfl rfl ?_
              refine Reg.skip rfl rfl rfl rfl rfl rfl rfl ?_
              refine Reg.skip rfl rfl rfl rfl rfl rfl rfl ?_
              refine Reg.pur rfl rfl rfl rfl (Pur.pickF rfl rfl) ?_
              refine Reg.pur rfl rfl rfl rfl (Pur.asg rfl) ?_
              refine Reg.nil ?_
              refine At.ret rfl Try.func31 rfl ?_
              refine ⟨congrArg Value.bool ?_, hn1.ext⟩
              simp only [decide_eq_true_eq, decide_eq_false_iff_not] at *
              first | exact (decide_eq_true (by omega)).symm | exact (decide_eq_false (by omega)).symm | exact decide_eq_decide.2 (by omega)
          · refine Reg.skip rfl rfl rfl rfl rfl rfl rfl ?_
            refine Reg.skip rfl rfl rfl rfl rfl rfl rfl ?_
            refine Reg.skip rfl rfl rfl rfl rfl rfl rfl ?_
            refine Reg.skip rfl rfl rfl rfl rfl rfl rfl ?_
            refine Reg.pur rfl rfl rfl rfl (Pur.pickF rfl rfl) ?_
            refine Reg.pur rfl rfl rfl rfl (Pur.mv rfl) ?_
            refine Reg.skip rfl rfl rfl rfl rfl rfl rfl ?_
            refine Reg.skip rfl rfl rfl rfl rfl rfl rfl ?_
            refine Reg.skip rfl rfl rfl rfl rfl rfl rfl ?_
            refine Reg.skip rfl rfl rfl rfl rfl rfl rfl ?_
            refine Reg.pur rfl rfl rfl rfl (Pur.pickF rfl rfl) ?_
            refine Reg.pur rfl rfl rfl rfl (Pur.asg rfl) ?_
            refine Reg.nil ?_
            refine At.ret rfl Try.func31 rfl ?_
            refine ⟨congrArg Value.bool ?_, hn1.ext⟩
            simp only [decide_eq_true_eq, decide_eq_false_iff_not] at *
            first | exact (decide_eq_true (by omega)).symm | exact (decide_eq_false (by omega)).symm | exact decide_eq_decide.2 (by omega)
        · refine Reg.skip rfl rfl rfl rfl rfl rfl rfl ?_
          refine Reg.skip rfl rfl rfl rfl rfl rfl rfl ?_
          refine Reg.skip rfl rfl rfl rfl rfl rfl rfl ?_
          refine Reg.pur rfl rfl rfl rfl (Pur.pickF rfl rfl) ?_
          refine Reg.pur rfl rfl rfl rfl (Pur.mv rfl) ?_
          refine Reg.skip rfl rfl rfl rfl rfl rfl rfl ?_
          refine Reg.skip rfl rfl rfl rfl rfl rfl rfl ?_
          refine Reg.skip rfl rfl rfl rfl rfl rfl rfl ?_
          refine Reg.skip rfl rfl rfl rfl rfl rfl rfl ?_
          refine Reg.pur rfl rfl rfl rfl (Pur.pickF rfl rfl) ?_
          refine Reg.pur rfl rfl rfl rfl (Pur.mv rfl) ?_
          refine Reg.skip rfl rfl rfl rfl rfl rfl rfl ?_
          refine Reg.skip rfl rfl rfl rfl rfl rfl rfl ?_
          refine Reg.skip rfl rfl rfl rfl rfl rfl rfl ?_
          refine Reg.skip rfl rfl rfl rfl rfl rfl rfl ?_
          refine Reg.pur rfl rfl rfl rfl (Pur.pickF rfl rfl) ?_
          refine Reg.pur rfl rfl rfl rfl (Pur.asg rfl) ?_
          refine Reg.nil ?_
          refine At.ret rfl Try.func31 rfl ?_
          refine ⟨congrArg Value.bool ?_, hn1.ext⟩
          simp only [decide_eq_true_eq, decide_eq_false_iff_not] at *
          first | exact (decide_eq_true (by omega)).symm | exact (decide_eq_false (by omega)).symm | exact decide_eq_decide.2 (by omega)
theorem omayR_ok (k n : Int) (H : Heap) : Ret Try.prog 32 [.agg (Is [k, n]).toArray] H (fun v H' => v = .bool (mayO k n) ∧ Ext H H') := by
  refine Ret.of_at (N := 48) Try.call32 Try.func32 rfl rfl rfl ?_
  refine At.region rfl rfl ?_
  refine Reg.op rfl rfl rfl rfl (Does.box rfl rfl) ?_
  rintro _ H1 ⟨rfl, hn1⟩
  refine Reg.pur rfl rfl rfl rfl (Pur.asg rfl) ?_
  refine Reg.nil ?_
  have hB := hn1.own.blk
  refine At.region rfl rfl ?_
  refine Reg.pur rfl rfl rfl rfl (Pur.fld _ fo24_0 rfl) ?_
  refine Reg.lod rfl rfl rfl rfl (Lod.ld sc3 rfl hB rfl) ?_
  refine Reg.nil ?_
  refine At.region rfl rfl ?_
  refine Reg.pur rfl rfl rfl rfl (Pur.eql rfl rfl) ?_
  refine Reg.pur rfl rfl rfl rfl (Pur.asg rfl) ?_
  refine Reg.nil ?_
  refine At.cond rfl rfl (fun hb1 => ?_) (fun hb1 => ?_)
  · refine At.region rfl rfl ?_
    refine Reg.pur rfl rfl rfl rfl (Pur.fld _ fo24_1 rfl) ?_
    refine Reg.lod rfl rfl rfl rfl (Lod.ld sc3 rfl hB rfl) ?_
    refine Reg.pur rfl rfl rfl rfl (Pur.geq rfl rfl) ?_
    refine Reg.pur rfl rfl rfl rfl (Pur.mv rfl) ?_
    refine Reg.case 10 rfl (fun hc2 => ?_) (fun hc2 => ?_)
    · refine Reg.gpur rfl rfl rfl rfl rfl rfl (Pur.fld _ fo24_1 rfl) ?_
      refine Reg.glod rfl rfl rfl rfl rfl rfl (Lod.ld sc3 rfl hB rfl) ?_
      refine Reg.gpur rfl rfl rfl rfl rfl rfl (Pur.leq rfl rfl) ?_
      refine Reg.pur rfl rfl rfl rfl (Pur.pickT rfl rfl) ?_
      refine Reg.pur rfl rfl rfl rfl (Pur.asg rfl) ?_
      refine Reg.nil ?_
      refine At.ret rfl Try.func32 rfl ?_
      refine ⟨congrArg Value.bool ?_, hn1.ext⟩
      simp only [decide_eq_true_eq, decide_eq_false_iff_not] at *
      first | exact (decide_eq_true (by omega)).symm | exact (decide_eq_false (by omega)).symm | exact decide_eq_decide.2 (by omega)
    · refine Reg.skip rfl rfl rfl rfl rfl rfl rfl ?_
      refine Reg.skip rfl rfl rfl rfl rfl rfl rfl ?_
      refine Reg.skip rfl rfl rfl rfl rfl rfl rfl ?_
      refine Reg.pur rfl rfl rfl rfl (Pur.pickF rfl rfl) ?_
      refine Reg.pur rfl rfl rfl rfl (Pur.asg rfl) ?_
      refine Reg.nil ?_
      refine At.ret rfl Try.func32 rfl ?_
      refine ⟨congrArg Value.bool ?_, hn1.ext⟩
      simp only [decide_eq_true_eq, decide_eq_false_iff_not] at *
      first | exact (decide_eq_true (by omega)).symm | exact (decide_eq_false (by omega)).symm | exact decide_eq_decide.2 (by omega)
  · refine At.region rfl rfl ?_
    refine Reg.pur rfl rfl rfl rfl (Pur.eql rfl rfl) ?_
    refine Reg.pur rfl rfl rfl rfl (Pur.asg rfl) ?_
    refine Reg.nil ?_
    refine At.cond rfl rfl (fun hb3 => ?_) (fun hb3 => ?_)
    · refine At.region rfl rfl ?_
      refine Reg.pur rfl rfl rfl rfl (Pur.fld _ fo24_1 rfl) ?_
      refine Reg.lod rfl rfl rfl rfl (Lod.ld sc3 rfl hB rfl) ?_
      refine Reg.pur rfl rfl rfl rfl (Pur.eql rfl rfl) ?_
      refine Reg.pur rfl rfl rfl rfl (Pur.mv rfl) ?_
      refine Reg.case 20 rfl (fun hc4 => ?_) (fun hc4 => ?_)
      · refine Reg.skip rfl rfl rfl rfl rfl rfl rfl ?_
        refine Reg.skip rfl rfl rfl rfl rfl rfl rfl ?_
        refine Reg.skip rfl rfl rfl rfl rfl rfl rfl ?_
        refine Reg.pur rfl rfl rfl rfl (Pur.pickT rfl rfl) ?_
        refine Reg.pur rfl rfl rfl rfl (Pur.asg rfl) ?_
        refine Reg.nil ?_
        refine At.ret rfl Try.func32 rfl ?_
        refine ⟨congrArg Value.bool ?_, hn1.ext⟩
        simp only [decide_eq_true_eq, decide_eq_false_iff_not] at *
        first | exact (decide_eq_true (by omega)).symm | exact (decide_eq_false (by omega)).symm | exact decide_eq_decide.2 (by omega)
      · refine Reg.gpur rfl rfl rfl rfl rfl rfl (Pur.fld _ fo24_1 rfl) ?_
        refine Reg.glod rfl rfl rfl rfl rfl rfl (Lod.ld sc3 rfl hB rfl) ?_
        refine Reg.gpur rfl rfl rfl rfl rfl rfl (Pur.eql rfl rfl) ?_
        refine Reg.pur rfl rfl rfl rfl (Pur.pickF rfl rfl) ?_
        refine Reg.pur rfl rfl rfl rfl (Pur.asg rfl) ?_
        refine Reg.nil ?_
        refine At.ret rfl Try.func32 rfl ?_
        refine ⟨congrArg Value.bool ?_, hn1.ext⟩
        simp only [decide_eq_true_eq, decide_eq_false_iff_not] at *
        first | exact (decide_eq_true (by omega)).symm | exact (decide_eq_false (by omega)).symm | exact decide_eq_decide.2 (by omega)
    · refine At.region rfl rfl ?_
      refine Reg.pur rfl rfl rfl rfl (Pur.eql rfl rfl) ?_
      refine Reg.pur rfl rfl rfl rfl (Pur.asg rfl) ?_
      refine Reg.nil ?_
      refine At.cond rfl rfl (fun hb5 => ?_) (fun hb5 => ?_)
      · refine At.region rfl rfl ?_
        refine Reg.pur rfl rfl rfl rfl (Pur.fld _ fo24_1 rfl) ?_
        refine Reg.lod rfl rfl rfl rfl (Lod.ld sc3 rfl hB rfl) ?_
        refine Reg.pur rfl rfl rfl rfl (Pur.geq rfl rfl) ?_
        refine Reg.pur rfl rfl rfl rfl (Pur.mv rfl) ?_
        refine Reg.case 30 rfl (fun hc6 => ?_) (fun hc6 => ?_)
        · refine Reg.gpur rfl rfl rfl rfl rfl rfl (Pur.fld _ fo24_1 rfl) ?_
          refine Reg.glod rfl rfl rfl rfl rfl rfl (Lod.ld sc3 rfl hB rfl) ?_
          refine Reg.gpur rfl rfl rfl rfl rfl rfl (Pur.leq rfl rfl) ?_
          refine Reg.pur rfl rfl rfl rfl (Pur.pickT rfl rfl) ?_
          refine Reg.pur rfl rfl rfl rfl (Pur.asg rfl) ?_
          refine Reg.nil ?_
          refine At.ret rfl Try.func32 rfl ?_
          refine ⟨congrArg Value.bool ?_, hn1.ext⟩
          simp only [decide_eq_true_eq, decide_eq_false_iff_not] at *
          first | exact (decide_eq_true (by omega)).symm | exact (decide_eq_false (by omega)).symm | exact decide_eq_decide.2 (by omega)
        · refine Reg.skip rfl rfl rfl rfl rfl rfl rfl ?_
          refine Reg.skip rfl rfl rfl rfl rfl rfl rfl ?_
          refine Reg.skip rfl rfl rfl rfl rfl rfl rfl ?_
          refine Reg.pur rfl rfl rfl rfl (Pur.pickF rfl rfl) ?_
          refine Reg.pur rfl rfl rfl rfl (Pur.asg rfl) ?_
          refine Reg.nil ?_
          refine At.ret rfl Try.func32 rfl ?_
          refine ⟨congrArg Value.bool ?_, hn1.ext⟩
          simp only [decide_eq_true_eq, decide_eq_false_iff_not] at *
          first | exact (decide_eq_true (by omega)).symm | exact (decide_eq_false (by omega)).symm | exact decide_eq_decide.2 (by omega)
      · refine At.region rfl rfl ?_
        refine Reg.pur rfl rfl rfl rfl (Pur.fld _ fo24_0 rfl) ?_
        refine Reg.lod rfl rfl rfl rfl (Lod.ld sc3 rfl hB rfl) ?_
        refine Reg.pur rfl rfl rfl rfl (Pur.geq rfl rfl) ?_
        refine Reg.pur rfl rfl rfl rfl (Pur.mv rfl) ?_
        refine Reg.case 38 rfl (fun hc7 => ?_) (fun hc7 => ?_)
        · refine Reg.gpur rfl rfl rfl rfl rfl rfl (Pur.fld _ fo24_0 rfl) ?_
          refine Reg.glod rfl rfl rfl rfl rfl rfl (Lod.ld sc3 rfl hB rfl) ?_
          refine Reg.gpur rfl rfl rfl rfl rfl rfl (Pur.leq rfl rfl) ?_
          refine Reg.pur rfl rfl rfl rfl (Pur.pickT rfl rfl) ?_
          refine Reg.pur rfl rfl rfl rfl (Pur.mv rfl) ?_
          refine Reg.case 43 rfl (fun hc8 => ?_) (fun hc8 => ?_)
          · refine Reg.gpur rfl rfl rfl rfl rfl rfl (Pur.fld _ fo24_1 rfl) ?_
            refine Reg.glod rfl rfl rfl rfl rfl rfl (Lod.ld sc3 rfl hB rfl) ?_
            refine Reg.gpur rfl rfl rfl rfl rfl rfl (Pur.eql rfl rfl) ?_
            refine Reg.pur rfl rfl rfl rfl (Pur.pickT rfl rfl) ?_
            refine Reg.pur rfl rfl rfl rfl (Pur.asg rfl) ?_
            refine Reg.nil ?_
            refine At.ret rfl Try.func32 rfl ?_
            refine ⟨congrArg Value.bool ?_, hn1.ext⟩
            simp only [decide_eq_true_eq, decide_eq_false_iff_not] at *
            first | exact (decide_eq_true (by omega)).symm | exact (decide_eq_false (by omega)).symm | exact decide_eq_decide.2 (by omega)
          · refine Reg.skip rfl rfl rfl rfl rfl rfl rfl ?_
            refine Reg.skip rfl rfl rfl rfl rfl rfl rfl ?_
            refine Reg.skip rfl rfl rfl rfl rfl rfl rfl ?_
            refine Reg.pur rfl rfl rfl rfl (Pur.pickF rfl rfl) ?_
            refine Reg.pur rfl rfl rfl rfl (Pur.asg rfl) ?_
            refine Reg.nil ?_
            refine At.ret rfl Try.func32 rfl ?_
            refine ⟨congrArg Value.bool ?_, hn1.ext⟩
            simp only [decide_eq_true_eq, decide_eq_false_iff_not] at *
            first | exact (decide_eq_true (by omega)).symm | exact (decide_eq_false (by omega)).symm | exact decide_eq_decide.2 (by omega)
        · refine Reg.skip rfl rfl rfl rfl rfl rfl rfl ?_
          refine Reg.skip rfl rfl rfl rfl rfl rfl rfl ?_
          refine Reg.skip rfl rfl rfl rfl rfl rfl rfl ?_
          refine Reg.pur rfl rfl rfl rfl (Pur.pickF rfl rfl) ?_
          refine Reg.pur rfl rfl rfl rfl (Pur.mv rfl) ?_
          refine Reg.skip rfl rfl rfl rfl rfl rfl rfl ?_
          refine Reg.skip rfl rfl rfl rfl rfl rfl rfl ?_
          refine Reg.skip rfl rfl rfl rfl rfl rfl rfl ?_
          refine Reg.pur rfl rfl rfl rfl (Pur.pickF rfl rfl) ?_
          refine Reg.pur rfl rfl rfl rfl (Pur.asg rfl) ?_
          refine Reg.nil ?_
          refine At.ret rfl Try.func32 rfl ?_
          refine ⟨congrArg Value.bool ?_, hn1.ext⟩
          simp only [decide_eq_true_eq, decide_eq_false_iff_not] at *
          first | exact (decide_eq_true (by omega)).symm | exact (decide_eq_false (by omega)).symm | exact decide_eq_decide.2 (by omega)

/-- P22.2 -/
def sameO (k n k' n' : Int) : Bool := if mayO k n && mayO k' n' then decide ((k = k' ∧ n = n') ∨ k = 4 ∨ k' = 4) else false
def sameE (k n k' n' : Int) : Int := if mayO k n && mayO k' n' then 0 else 2200
theorem same_ok (k n k' n' : Int) (H : Heap) : Ret Try.prog 20 [.agg (Is [k, n]).toArray, .agg (Is [k', n']).toArray] H (fun v H' => v = .tuple #[.bool (sameO k n k' n'), I (sameE k n k' n')] ∧ Ext H H') := by
  refine Ret.of_at (N := 27) Try.call20 Try.func20 rfl rfl rfl ?_
  refine At.region rfl rfl ?_
  refine Reg.op rfl rfl rfl rfl (Does.box rfl rfl) ?_
  rintro _ H1 ⟨rfl, hn1⟩
  refine Reg.op rfl rfl rfl rfl (Does.box rfl rfl) ?_
  rintro _ H2 ⟨rfl, hn2⟩
  refine Reg.pur rfl rfl rfl rfl (Pur.asg rfl) ?_
  refine Reg.pur rfl rfl rfl rfl (Pur.asg rfl) ?_
  refine Reg.nil ?_
  have hB := (hn1.own.ext hn2.ext).blk
  have hC := hn2.own.blk
  have hE := hn1.ext.trans hn2.ext
  refine At.region rfl rfl ?_
  refine Reg.lod rfl rfl rfl rfl (Lod.ldn ag24 rfl hB (by simp only [List.drop_succ_cons, List.drop_zero, List.take_succ_cons, List.take_zero]; rfl) rfl) ?_
  refine Reg.op rfl rfl rfl rfl (Does.call rfl (omay_ok k n _)) ?_
  rintro _ H3 ⟨rfl, hE3⟩
  refine Reg.pur rfl rfl rfl rfl (Pur.not rfl) ?_
  refine Reg.pur rfl rfl rfl rfl (Pur.mv rfl) ?_
  refine Reg.case 9 rfl (fun hc1 => ?_) (fun hc1 => ?_)
  · refine Reg.skip rfl rfl rfl rfl rfl rfl rfl ?_
    refine Reg.skip rfl rfl rfl rfl rfl rfl rfl ?_
    refine Reg.skip rfl rfl rfl rfl rfl rfl rfl ?_
    refine Reg.pur rfl rfl rfl rfl (Pur.pickT rfl rfl) ?_
    refine Reg.nil ?_
    refine At.condT rfl rfl rfl ?_
    refine At.region rfl rfl ?_
    refine Reg.pur rfl rfl rfl rfl (Pur.asg rfl) ?_
    refine Reg.pur rfl rfl rfl rfl (Pur.asg rfl) ?_
    refine Reg.nil ?_
    refine At.ret rfl Try.func20 rfl ?_
    refine ⟨?_, by first | exact (hE.trans hE3).trans hE4 | exact hE.trans hE3⟩
    cases h1 : mayO k n <;> cases h2 : mayO k' n' <;> simp_all [sameO, sameE, eqs, eqv]
  · refine Reg.glod rfl rfl rfl rfl rfl rfl (Lod.ldn ag24 rfl (hC.ext hE3) (by simp only [List.drop_succ_cons, List.drop_zero, List.take_succ_cons, List.take_zero]; rfl) rfl) ?_
    refine Reg.gop rfl rfl rfl rfl rfl rfl (Does.call rfl (omay_ok k' n' _)) ?_
    rintro _ H4 ⟨rfl, hE4⟩
    refine Reg.gpur rfl rfl rfl rfl rfl rfl (Pur.not rfl) ?_
    refine Reg.pur rfl rfl rfl rfl (Pur.pickF rfl rfl) ?_
    refine Reg.nil ?_
    refine At.cond rfl rfl (fun hb2 => ?_) (fun hb2 => ?_)
    · refine At.region rfl rfl ?_
      refine Reg.pur rfl rfl rfl rfl (Pur.asg rfl) ?_
      refine Reg.pur rfl rfl rfl rfl (Pur.asg rfl) ?_
      refine Reg.nil ?_
      refine At.ret rfl Try.func20 rfl ?_
      refine ⟨?_, by first | exact (hE.trans hE3).trans hE4 | exact hE.trans hE3⟩
      cases h1 : mayO k n <;> cases h2 : mayO k' n' <;> simp_all [sameO, sameE, eqs, eqv]
    · have hB := (hB.ext hE3).ext hE4
      have hC := (hC.ext hE3).ext hE4
      refine At.region rfl rfl ?_
      refine Reg.lod rfl rfl rfl rfl (Lod.ldn ag24 rfl hB (by simp only [List.drop_succ_cons, List.drop_zero, List.take_succ_cons, List.take_zero]; rfl) rfl) ?_
      refine Reg.lod rfl rfl rfl rfl (Lod.ldn ag24 rfl hC (by simp only [List.drop_succ_cons, List.drop_zero, List.take_succ_cons, List.take_zero]; rfl) rfl) ?_
      refine Reg.pur rfl rfl rfl rfl (Pur.eqA eqt24 rfl rfl (⟨⟨_, rfl⟩, ⟨_, rfl⟩, trivial⟩ ) (⟨⟨_, rfl⟩, ⟨_, rfl⟩, trivial⟩)) ?_
      refine Reg.pur rfl rfl rfl rfl (Pur.mv rfl) ?_
      refine Reg.case 17 rfl (fun hc3 => ?_) (fun hc3 => ?_)
      · refine Reg.skip rfl rfl rfl rfl rfl rfl rfl ?_
        refine Reg.skip rfl rfl rfl rfl rfl rfl rfl ?_
        refine Reg.skip rfl rfl rfl rfl rfl rfl rfl ?_
        refine Reg.pur rfl rfl rfl rfl (Pur.pickT rfl rfl) ?_
        refine Reg.pur rfl rfl rfl rfl (Pur.mv rfl) ?_
        refine Reg.skip rfl rfl rfl rfl rfl rfl rfl ?_
        refine Reg.skip rfl rfl rfl rfl rfl rfl rfl ?_
        refine Reg.skip rfl rfl rfl rfl rfl rfl rfl ?_
        refine Reg.pur rfl rfl rfl rfl (Pur.pickT rfl rfl) ?_
        refine Reg.pur rfl rfl rfl rfl (Pur.asg rfl) ?_
        refine Reg.pur rfl rfl rfl rfl (Pur.asg rfl) ?_
        refine Reg.nil ?_
        refine At.ret rfl Try.func20 rfl ?_
        refine ⟨?_, by first | exact (hE.trans hE3).trans hE4 | exact hE.trans hE3⟩
        cases h1 : mayO k n <;> cases h2 : mayO k' n' <;> simp_all [sameO, sameE, eqs, eqv]
      · refine Reg.gpur rfl rfl rfl rfl rfl rfl (Pur.fld _ fo24_0 rfl) ?_
        refine Reg.glod rfl rfl rfl rfl rfl rfl (Lod.ld sc3 rfl hB rfl) ?_
        refine Reg.gpur rfl rfl rfl rfl rfl rfl (Pur.eql rfl rfl) ?_
        refine Reg.pur rfl rfl rfl rfl (Pur.pickF rfl rfl) ?_
        refine Reg.pur rfl rfl rfl rfl (Pur.mv rfl) ?_
        refine Reg.case 22 rfl (fun hc4 => ?_) (fun hc4 => ?_)
        · refine Reg.skip rfl rfl rfl rfl rfl rfl rfl ?_
          refine Reg.skip rfl rfl rfl rfl rfl rfl rfl ?_
          refine Reg.skip rfl rfl rfl rfl rfl rfl rfl ?_
          refine Reg.pur rfl rfl rfl rfl (Pur.pickT rfl rfl) ?_
          refine Reg.pur rfl rfl rfl rfl (Pur.asg rfl) ?_
          refine Reg.pur rfl rfl rfl rfl (Pur.asg rfl) ?_
          refine Reg.nil ?_
          refine At.ret rfl Try.func20 rfl ?_
          refine ⟨?_, by first | exact (hE.trans hE3).trans hE4 | exact hE.trans hE3⟩
          cases h1 : mayO k n <;> cases h2 : mayO k' n' <;> simp_all [sameO, sameE, eqs, eqv]
        · refine Reg.gpur rfl rfl rfl rfl rfl rfl (Pur.fld _ fo24_0 rfl) ?_
          refine Reg.glod rfl rfl rfl rfl rfl rfl (Lod.ld sc3 rfl hC rfl) ?_
          refine Reg.gpur rfl rfl rfl rfl rfl rfl (Pur.eql rfl rfl) ?_
          refine Reg.pur rfl rfl rfl rfl (Pur.pickF rfl rfl) ?_
          refine Reg.pur rfl rfl rfl rfl (Pur.asg rfl) ?_
          refine Reg.pur rfl rfl rfl rfl (Pur.asg rfl) ?_
          refine Reg.nil ?_
          refine At.ret rfl Try.func20 rfl ?_
          refine ⟨?_, by first | exact (hE.trans hE3).trans hE4 | exact hE.trans hE3⟩
          cases h1 : mayO k n <;> cases h2 : mayO k' n' <;> simp_all [sameO, sameE, eqs, eqv]
theorem sameR_ok (k n k' n' : Int) (H : Heap) : Ret Try.prog 21 [.agg (Is [k, n]).toArray, .agg (Is [k', n']).toArray] H (fun v H' => v = .tuple #[.bool (sameO k n k' n'), I (sameE k n k' n')] ∧ Ext H H') := by
  refine Ret.of_at (N := 27) Try.call21 Try.func21 rfl rfl rfl ?_
  refine At.region rfl rfl ?_
  refine Reg.op rfl rfl rfl rfl (Does.box rfl rfl) ?_
  rintro _ H1 ⟨rfl, hn1⟩
  refine Reg.op rfl rfl rfl rfl (Does.box rfl rfl) ?_
  rintro _ H2 ⟨rfl, hn2⟩
  refine Reg.pur rfl rfl rfl rfl (Pur.asg rfl) ?_
  refine Reg.pur rfl rfl rfl rfl (Pur.asg rfl) ?_
  refine Reg.nil ?_
  have hB := (hn1.own.ext hn2.ext).blk
  have hC := hn2.own.blk
  have hE := hn1.ext.trans hn2.ext
  refine At.region rfl rfl ?_
  refine Reg.lod rfl rfl rfl rfl (Lod.ldn ag24 rfl hB (by simp only [List.drop_succ_cons, List.drop_zero, List.take_succ_cons, List.take_zero]; rfl) rfl) ?_
  refine Reg.op rfl rfl rfl rfl (Does.call rfl (omayR_ok k n _)) ?_
  rintro _ H3 ⟨rfl, hE3⟩
  refine Reg.pur rfl rfl rfl rfl (Pur.not rfl) ?_
  refine Reg.pur rfl rfl rfl rfl (Pur.mv rfl) ?_
  refine Reg.case 9 rfl (fun hc1 => ?_) (fun hc1 => ?_)
  · refine Reg.skip rfl rfl rfl rfl rfl rfl rfl ?_
    refine Reg.skip rfl rfl rfl rfl rfl rfl rfl ?_
    refine Reg.skip rfl rfl rfl rfl rfl rfl rfl ?_
    refine Reg.pur rfl rfl rfl rfl (Pur.pickT rfl rfl) ?_
    refine Reg.nil ?_
    refine At.condT rfl rfl rfl ?_
    refine At.region rfl rfl ?_
    refine Reg.pur rfl rfl rfl rfl (Pur.asg rfl) ?_
    refine Reg.pur rfl rfl rfl rfl (Pur.asg rfl) ?_
    refine Reg.nil ?_
    refine At.ret rfl Try.func21 rfl ?_
    refine ⟨?_, by first | exact (hE.trans hE3).trans hE4 | exact hE.trans hE3⟩
    cases h1 : mayO k n <;> cases h2 : mayO k' n' <;> simp_all [sameO, sameE, eqs, eqv]
  · refine Reg.glod rfl rfl rfl rfl rfl rfl (Lod.ldn ag24 rfl (hC.ext hE3) (by simp only [List.drop_succ_cons, List.drop_zero, List.take_succ_cons, List.take_zero]; rfl) rfl) ?_
    refine Reg.gop rfl rfl rfl rfl rfl rfl (Does.call rfl (omayR_ok k' n' _)) ?_
    rintro _ H4 ⟨rfl, hE4⟩
    refine Reg.gpur rfl rfl rfl rfl rfl rfl (Pur.not rfl) ?_
    refine Reg.pur rfl rfl rfl rfl (Pur.pickF rfl rfl) ?_
    refine Reg.nil ?_
    refine At.cond rfl rfl (fun hb2 => ?_) (fun hb2 => ?_)
    · refine At.region rfl rfl ?_
      refine Reg.pur rfl rfl rfl rfl (Pur.asg rfl) ?_
      refine Reg.pur rfl rfl rfl rfl (Pur.asg rfl) ?_
      refine Reg.nil ?_
      refine At.ret rfl Try.func21 rfl ?_
      refine ⟨?_, by first | exact (hE.trans hE3).trans hE4 | exact hE.trans hE3⟩
      cases h1 : mayO k n <;> cases h2 : mayO k' n' <;> simp_all [sameO, sameE, eqs, eqv]
    · have hB := (hB.ext hE3).ext hE4
      have hC := (hC.ext hE3).ext hE4
      refine At.region rfl rfl ?_
      refine Reg.lod rfl rfl rfl rfl (Lod.ldn ag24 rfl hB (by simp only [List.drop_succ_cons, List.drop_zero, List.take_succ_cons, List.take_zero]; rfl) rfl) ?_
      refine Reg.lod rfl rfl rfl rfl (Lod.ldn ag24 rfl hC (by simp only [List.drop_succ_cons, List.drop_zero, List.take_succ_cons, List.take_zero]; rfl) rfl) ?_
      refine Reg.pur rfl rfl rfl rfl (Pur.eqA eqt24 rfl rfl (⟨⟨_, rfl⟩, ⟨_, rfl⟩, trivial⟩ ) (⟨⟨_, rfl⟩, ⟨_, rfl⟩, trivial⟩)) ?_
      refine Reg.pur rfl rfl rfl rfl (Pur.mv rfl) ?_
      refine Reg.case 17 rfl (fun hc3 => ?_) (fun hc3 => ?_)
      · refine Reg.skip rfl rfl rfl rfl rfl rfl rfl ?_
        refine Reg.skip rfl rfl rfl rfl rfl rfl rfl ?_
        refine Reg.skip rfl rfl rfl rfl rfl rfl rfl ?_
        refine Reg.pur rfl rfl rfl rfl (Pur.pickT rfl rfl) ?_
        refine Reg.pur rfl rfl rfl rfl (Pur.mv rfl) ?_
        refine Reg.skip rfl rfl rfl rfl rfl rfl rfl ?_
        refine Reg.skip rfl rfl rfl rfl rfl rfl rfl ?_
        refine Reg.skip rfl rfl rfl rfl rfl rfl rfl ?_
        refine Reg.pur rfl rfl rfl rfl (Pur.pickT rfl rfl) ?_
        refine Reg.pur rfl rfl rfl rfl (Pur.asg rfl) ?_
        refine Reg.pur rfl rfl rfl rfl (Pur.asg rfl) ?_
        refine Reg.nil ?_
        refine At.ret rfl Try.func21 rfl ?_
        refine ⟨?_, by first | exact (hE.trans hE3).trans hE4 | exact hE.trans hE3⟩
        cases h1 : mayO k n <;> cases h2 : mayO k' n' <;> simp_all [sameO, sameE, eqs, eqv]
      · refine Reg.gpur rfl rfl rfl rfl rfl rfl (Pur.fld _ fo24_0 rfl) ?_
        refine Reg.glod rfl rfl rfl rfl rfl rfl (Lod.ld sc3 rfl hB rfl) ?_
        refine Reg.gpur rfl rfl rfl rfl rfl rfl (Pur.eql rfl rfl) ?_
        refine Reg.pur rfl rfl rfl rfl (Pur.pickF rfl rfl) ?_
        refine Reg.pur rfl rfl rfl rfl (Pur.mv rfl) ?_
        refine Reg.case 22 rfl (fun hc4 => ?_) (fun hc4 => ?_)
        · refine Reg.skip rfl rfl rfl rfl rfl rfl rfl ?_
          refine Reg.skip rfl rfl rfl rfl rfl rfl rfl ?_
          refine Reg.skip rfl rfl rfl rfl rfl rfl rfl ?_
          refine Reg.pur rfl rfl rfl rfl (Pur.pickT rfl rfl) ?_
          refine Reg.pur rfl rfl rfl rfl (Pur.asg rfl) ?_
          refine Reg.pur rfl rfl rfl rfl (Pur.asg rfl) ?_
          refine Reg.nil ?_
          refine At.ret rfl Try.func21 rfl ?_
          refine ⟨?_, by first | exact (hE.trans hE3).trans hE4 | exact hE.trans hE3⟩
          cases h1 : mayO k n <;> cases h2 : mayO k' n' <;> simp_all [sameO, sameE, eqs, eqv]
        · refine Reg.gpur rfl rfl rfl rfl rfl rfl (Pur.fld _ fo24_0 rfl) ?_
          refine Reg.glod rfl rfl rfl rfl rfl rfl (Lod.ld sc3 rfl hC rfl) ?_
          refine Reg.gpur rfl rfl rfl rfl rfl rfl (Pur.eql rfl rfl) ?_
          refine Reg.pur rfl rfl rfl rfl (Pur.pickF rfl rfl) ?_
          refine Reg.pur rfl rfl rfl rfl (Pur.asg rfl) ?_
          refine Reg.pur rfl rfl rfl rfl (Pur.asg rfl) ?_
          refine Reg.nil ?_
          refine At.ret rfl Try.func21 rfl ?_
          refine ⟨?_, by first | exact (hE.trans hE3).trans hE4 | exact hE.trans hE3⟩
          cases h1 : mayO k n <;> cases h2 : mayO k' n' <;> simp_all [sameO, sameE, eqs, eqv]
end Go.Proofs.Ytkniihjfcagdbaa
