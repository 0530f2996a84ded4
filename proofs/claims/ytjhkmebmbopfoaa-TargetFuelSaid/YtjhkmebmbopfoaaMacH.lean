/-
  Chapter 21: prims; what comes of a function and a value.
-/
import Derived.Test.YtjhkmebmbopfoaaMacG
namespace Go.Proofs.Ytjhkmebmbopfoaa
set_option linter.unusedSimpArgs false
set_option linter.unusedVariables false
set_option maxRecDepth 8000
set_option maxHeartbeats 1000000
open Go Go.Fx Go.Proofs
namespace FactsMacH
theorem ag25 : ag Try.prog 25 = some 2 := by kernel_rfl
theorem pl25 : places Try.prog 25 = some [(0, 1), (1, 1)] := by kernel_rfl
theorem zc25 : zc Try.prog 25 = some [.int .i64 0, .int .i64 0] := by kernel_rfl
end FactsMacH
open FactsMacH

theorem told1_ok (b : Bool) (H : Heap) : Ret Try.prog 60 [.bool b] H (fun v H' => v = I (if b then 1 else 0) ∧ H' = H) := by
  refine Ret.of_at (N := 4) Try.call60 Try.func60 rfl rfl rfl ?_
  have hE := Ext.refl H
  refine At.region rfl rfl ?_
  refine Reg.pur rfl rfl rfl rfl (Pur.asg rfl) ?_
  refine Reg.nil ?_
  refine At.region rfl rfl ?_
  refine Reg.pur rfl rfl rfl rfl (Pur.mv rfl) ?_
  refine Reg.nil ?_
  refine At.cond rfl rfl (fun q3 => ?_) (fun q3 => ?_)
  · first | (simp only [decide_eq_true_eq, decide_eq_false_iff_not, Bool.not_eq_true', Bool.not_eq_false', ne_eq, Decidable.not_not, Bool.not_eq_true, Bool.not_eq_false] at q3) | (dsimp only at q3) | skip
    refine At.region rfl rfl ?_
    refine Reg.pur rfl rfl rfl rfl (Pur.asg rfl) ?_
    refine Reg.nil ?_
    refine At.ret rfl Try.func60 rfl ?_
    exact ⟨by simp [*], rfl⟩
  first | (simp only [decide_eq_true_eq, decide_eq_false_iff_not, Bool.not_eq_true', Bool.not_eq_false', ne_eq, Decidable.not_not, Bool.not_eq_true, Bool.not_eq_false] at q3) | (dsimp only at q3) | skip
  refine At.region rfl rfl ?_
  refine Reg.pur rfl rfl rfl rfl (Pur.asg rfl) ?_
  refine Reg.nil ?_
  refine At.ret rfl Try.func60 rfl ?_
  exact ⟨by simp [*], rfl⟩
theorem wrp_sub (a b : Int) : wrp (a + wrp (-b)) = wrp (a - b) := by
  unfold wrp IntKind.wrap
  simp [IntKind.bits, IntKind.signed]
  omega
theorem prm_eq (a b : Int) : prm 4 a b = (1, if a = b then 1 else 0) := rfl
theorem prm_lt (a b : Int) : prm 5 a b = (1, if a < b then 1 else 0) := rfl
theorem prm_dz (a b : Int) (h : b = 0) : prm 3 a b = (3, 1) := by subst h; rfl
/-- what is reckoned, of a prim that gives a number -/
def rkn (k a b : Int) : Int := if k = 3 then wrp (a.tdiv b) else if k = 2 then wrp (a * b) else if k = 1 then wrp (a - b) else wrp (a + b)
theorem prm_num {k a b : Int} (h4 : k ≠ 4) (h5 : k ≠ 5) (h3 : ¬ (k = 3 ∧ b = 0)) : prm k a b = if rkn k a b > 1073741823 ∨ rkn k a b < -1073741824 then (3, 0) else (0, rkn k a b) := by
  unfold prm rkn
  rw [if_neg h4, if_neg h5, if_neg h3]
theorem prim_ok (k a b : Int) (H : Heap) : Ret Try.prog 48 [I k, I a, I b] H (fun v H' => v = .agg (Is [(prm k a b).1, (prm k a b).2]).toArray ∧ Ext H H') := by
  refine Ret.of_at (N := 52) Try.call48 Try.func48 rfl rfl rfl ?_
  have hE := Ext.refl H
  refine At.region rfl rfl ?_
  refine Reg.op rfl rfl rfl rfl (Does.alloc zc25) ?_
  rintro _ H0_0 ⟨rfl, hn0_0⟩
  have z0_0 := hn0_0.size
  replace hE := hE.ext hn0_0.ext
  have o0_0 := hn0_0.own
  refine Reg.nil ?_
  refine At.region rfl rfl ?_
  refine Reg.pur rfl rfl rfl rfl (Pur.asg rfl) ?_
  refine Reg.nil ?_
  refine At.region rfl rfl ?_
  refine Reg.pur rfl rfl rfl rfl (Pur.mv rfl) ?_
  refine Reg.nil ?_
  refine At.region rfl rfl ?_
  refine Reg.pur rfl rfl rfl rfl (Pur.eql rfl rfl) ?_
  refine Reg.pur rfl rfl rfl rfl (Pur.asg rfl) ?_
  refine Reg.nil ?_
  refine At.cond rfl rfl (fun q9 => ?_) (fun q9 => ?_)
  · first | (simp only [decide_eq_true_eq, decide_eq_false_iff_not, Bool.not_eq_true', Bool.not_eq_false', ne_eq, Decidable.not_not, Bool.not_eq_true, Bool.not_eq_false] at q9) | (dsimp only at q9) | skip
    refine At.region rfl rfl ?_
    refine Reg.pur rfl rfl rfl rfl (Pur.mv rfl) ?_
    refine Reg.pur rfl rfl rfl rfl (Pur.mv rfl) ?_
    refine Reg.pur rfl rfl rfl rfl (Pur.eql rfl rfl) ?_
    refine Reg.op rfl rfl rfl rfl (Does.call rfl (told1_ok _ _)) ?_
    rintro _ H0_0 ⟨rfl, rfl⟩
    refine Reg.pur rfl rfl rfl rfl (Pur.bld (cs := [_, _]) pl25 zc25 rfl rfl ⟨rfl, rfl, rfl⟩) ?_
    refine Reg.op0 rfl rfl rfl (Does.stn ag25 rfl rfl (by first | rfl | exact ones_Is _) (by first | rfl | (simp [*]; done)) o0_0 (by first | decide | (simp; done) | (simp; omega) | omega)) ?_
    rintro _ H8_5 hu8_5
    have z8_5 := hu8_5.size
    replace hE := hE.upw hu8_5 (by omega)
    replace o0_0 := hu8_5.own
    first | rw [over (by first | rfl | (simp; done))] at o0_0 | skip
    refine Reg.nil ?_
    refine At.retC rfl Try.func48 ⟨_, _, _, _, rfl, rfl, ⟨_, o0_0.blk, .inr ⟨_, _, ag25, (by first | exact whole rfl | exact whole (by simp [*])), (by first | rfl | simp [*]), rfl⟩⟩, rfl⟩ ?_
    subst q9
    exact ⟨by rw [prm_eq]; by_cases h : a = b <;> simp [tupl, h], hE⟩
  first | (simp only [decide_eq_true_eq, decide_eq_false_iff_not, Bool.not_eq_true', Bool.not_eq_false', ne_eq, Decidable.not_not, Bool.not_eq_true, Bool.not_eq_false] at q9) | (dsimp only at q9) | skip
  refine At.region rfl rfl ?_
  refine Reg.pur rfl rfl rfl rfl (Pur.eql rfl rfl) ?_
  refine Reg.pur rfl rfl rfl rfl (Pur.asg rfl) ?_
  refine Reg.nil ?_
  refine At.cond rfl rfl (fun q11 => ?_) (fun q11 => ?_)
  · first | (simp only [decide_eq_true_eq, decide_eq_false_iff_not, Bool.not_eq_true', Bool.not_eq_false', ne_eq, Decidable.not_not, Bool.not_eq_true, Bool.not_eq_false] at q11) | (dsimp only at q11) | skip
    refine At.region rfl rfl ?_
    refine Reg.pur rfl rfl rfl rfl (Pur.mv rfl) ?_
    refine Reg.pur rfl rfl rfl rfl (Pur.mv rfl) ?_
    refine Reg.pur rfl rfl rfl rfl (Pur.lss rfl rfl) ?_
    refine Reg.op rfl rfl rfl rfl (Does.call rfl (told1_ok _ _)) ?_
    rintro _ H0_0 ⟨rfl, rfl⟩
    refine Reg.pur rfl rfl rfl rfl (Pur.bld (cs := [_, _]) pl25 zc25 rfl rfl ⟨rfl, rfl, rfl⟩) ?_
    refine Reg.op0 rfl rfl rfl (Does.stn ag25 rfl rfl (by first | rfl | exact ones_Is _) (by first | rfl | (simp [*]; done)) o0_0 (by first | decide | (simp; done) | (simp; omega) | omega)) ?_
    rintro _ H9_5 hu9_5
    have z9_5 := hu9_5.size
    replace hE := hE.upw hu9_5 (by omega)
    replace o0_0 := hu9_5.own
    first | rw [over (by first | rfl | (simp; done))] at o0_0 | skip
    refine Reg.nil ?_
    refine At.retC rfl Try.func48 ⟨_, _, _, _, rfl, rfl, ⟨_, o0_0.blk, .inr ⟨_, _, ag25, (by first | exact whole rfl | exact whole (by simp [*])), (by first | rfl | simp [*]), rfl⟩⟩, rfl⟩ ?_
    subst q11
    exact ⟨by rw [prm_lt]; by_cases h : a < b <;> simp [tupl, h], hE⟩
  first | (simp only [decide_eq_true_eq, decide_eq_false_iff_not, Bool.not_eq_true', Bool.not_eq_false', ne_eq, Decidable.not_not, Bool.not_eq_true, Bool.not_eq_false] at q11) | (dsimp only at q11) | skip
  refine At.region rfl rfl ?_
  refine Reg.pur rfl rfl rfl rfl (Pur.eql rfl rfl) ?_
  refine Reg.pur rfl rfl rfl rfl (Pur.asg rfl) ?_
  refine Reg.nil ?_
  refine At.cond rfl rfl (fun q13 => ?_) (fun q13 => ?_)
  · first | (simp only [decide_eq_true_eq, decide_eq_false_iff_not, Bool.not_eq_true', Bool.not_eq_false', ne_eq, Decidable.not_not, Bool.not_eq_true, Bool.not_eq_false] at q13) | (dsimp only at q13) | skip
    refine At.region rfl rfl ?_
    refine Reg.pur rfl rfl rfl rfl (Pur.mv rfl) ?_
    refine Reg.pur rfl rfl rfl rfl (Pur.eql rfl rfl) ?_
    refine Reg.nil ?_
    refine At.cond rfl rfl (fun q30 => ?_) (fun q30 => ?_)
    · first | (simp only [decide_eq_true_eq, decide_eq_false_iff_not, Bool.not_eq_true', Bool.not_eq_false', ne_eq, Decidable.not_not, Bool.not_eq_true, Bool.not_eq_false] at q30) | (dsimp only at q30) | skip
      refine At.region rfl rfl ?_
      refine Reg.pur rfl rfl rfl rfl (Pur.bld (cs := [_, _]) pl25 zc25 rfl rfl ⟨rfl, rfl, rfl⟩) ?_
      refine Reg.op0 rfl rfl rfl (Does.stn ag25 rfl rfl (by first | rfl | exact ones_Is _) (by first | rfl | (simp [*]; done)) o0_0 (by first | decide | (simp; done) | (simp; omega) | omega)) ?_
      rintro _ H11_1 hu11_1
      have z11_1 := hu11_1.size
      replace hE := hE.upw hu11_1 (by omega)
      replace o0_0 := hu11_1.own
      first | rw [over (by first | rfl | (simp; done))] at o0_0 | skip
      refine Reg.nil ?_
      refine At.retC rfl Try.func48 ⟨_, _, _, _, rfl, rfl, ⟨_, o0_0.blk, .inr ⟨_, _, ag25, (by first | exact whole rfl | exact whole (by simp [*])), (by first | rfl | simp [*]), rfl⟩⟩, rfl⟩ ?_
      subst q13
      exact ⟨by rw [prm_dz _ _ q30]; rfl, hE⟩
    first | (simp only [decide_eq_true_eq, decide_eq_false_iff_not, Bool.not_eq_true', Bool.not_eq_false', ne_eq, Decidable.not_not, Bool.not_eq_true, Bool.not_eq_false] at q30) | (dsimp only at q30) | skip
    refine At.region rfl rfl ?_
    refine Reg.pur rfl rfl rfl rfl (Pur.mv rfl) ?_
    refine Reg.pur rfl rfl rfl rfl (Pur.mv rfl) ?_
    refine Reg.pur rfl rfl rfl rfl (Pur.quo rfl rfl (by assumption)) ?_
    refine Reg.pur rfl rfl rfl rfl (Pur.asg rfl) ?_
    refine Reg.nil ?_
    refine At.region rfl rfl ?_
    refine Reg.pur rfl rfl rfl rfl (Pur.mv rfl) ?_
    refine Reg.pur rfl rfl rfl rfl (Pur.gtr rfl rfl) ?_
    refine Reg.pur rfl rfl rfl rfl (Pur.mv rfl) ?_
    refine Reg.case 45 rfl (fun q45 => ?_) (fun q45 => ?_)
    · first | (simp only [decide_eq_true_eq, decide_eq_false_iff_not, Bool.not_eq_true', Bool.not_eq_false', ne_eq, Decidable.not_not, Bool.not_eq_true, Bool.not_eq_false] at q45) | (dsimp only at q45) | skip
      refine Reg.skip rfl rfl rfl rfl rfl rfl rfl ?_
      refine Reg.skip rfl rfl rfl rfl rfl rfl rfl ?_
      refine Reg.pur rfl rfl rfl rfl (Pur.pickT rfl rfl) ?_
      refine Reg.nil ?_
      refine At.condT rfl rfl rfl ?_
      refine At.region rfl rfl ?_
      refine Reg.pur rfl rfl rfl rfl (Pur.bld (cs := [_, _]) pl25 zc25 rfl rfl ⟨rfl, rfl, rfl⟩) ?_
      refine Reg.op0 rfl rfl rfl (Does.stn ag25 rfl rfl (by first | rfl | exact ones_Is _) (by first | rfl | (simp [*]; done)) o0_0 (by first | decide | (simp; done) | (simp; omega) | omega)) ?_
      rintro _ H17_1 hu17_1
      have z17_1 := hu17_1.size
      replace hE := hE.upw hu17_1 (by omega)
      replace o0_0 := hu17_1.own
      first | rw [over (by first | rfl | (simp; done))] at o0_0 | skip
      refine Reg.nil ?_
      refine At.retC rfl Try.func48 ⟨_, _, _, _, rfl, rfl, ⟨_, o0_0.blk, .inr ⟨_, _, ag25, (by first | exact whole rfl | exact whole (by simp [*])), (by first | rfl | simp [*]), rfl⟩⟩, rfl⟩ ?_
      refine ⟨?_, hE⟩
      rw [prm_num q9 q11 (by omega), show rkn k a b = wrp (a.tdiv b) from if_pos q13]
      (try unfold wrp); first | (rw [if_pos (by omega)]; rfl) | (rw [if_neg (by omega)]; rfl)
    first | (simp only [decide_eq_true_eq, decide_eq_false_iff_not, Bool.not_eq_true', Bool.not_eq_false', ne_eq, Decidable.not_not, Bool.not_eq_true, Bool.not_eq_false] at q45) | (dsimp only at q45) | skip
    refine Reg.gpur rfl rfl rfl rfl rfl rfl (Pur.mv rfl) ?_
    refine Reg.gpur rfl rfl rfl rfl rfl rfl (Pur.lss rfl rfl) ?_
    refine Reg.pur rfl rfl rfl rfl (Pur.pickF rfl rfl) ?_
    refine Reg.nil ?_
    refine At.cond rfl rfl (fun q48 => ?_) (fun q48 => ?_)
    · first | (simp only [decide_eq_true_eq, decide_eq_false_iff_not, Bool.not_eq_true', Bool.not_eq_false', ne_eq, Decidable.not_not, Bool.not_eq_true, Bool.not_eq_false] at q48) | (dsimp only at q48) | skip
      refine At.region rfl rfl ?_
      refine Reg.pur rfl rfl rfl rfl (Pur.bld (cs := [_, _]) pl25 zc25 rfl rfl ⟨rfl, rfl, rfl⟩) ?_
      refine Reg.op0 rfl rfl rfl (Does.stn ag25 rfl rfl (by first | rfl | exact ones_Is _) (by first | rfl | (simp [*]; done)) o0_0 (by first | decide | (simp; done) | (simp; omega) | omega)) ?_
      rintro _ H17_1 hu17_1
      have z17_1 := hu17_1.size
      replace hE := hE.upw hu17_1 (by omega)
      replace o0_0 := hu17_1.own
      first | rw [over (by first | rfl | (simp; done))] at o0_0 | skip
      refine Reg.nil ?_
      refine At.retC rfl Try.func48 ⟨_, _, _, _, rfl, rfl, ⟨_, o0_0.blk, .inr ⟨_, _, ag25, (by first | exact whole rfl | exact whole (by simp [*])), (by first | rfl | simp [*]), rfl⟩⟩, rfl⟩ ?_
      refine ⟨?_, hE⟩
      rw [prm_num q9 q11 (by omega), show rkn k a b = wrp (a.tdiv b) from if_pos q13]
      (try unfold wrp); first | (rw [if_pos (by omega)]; rfl) | (rw [if_neg (by omega)]; rfl)
    first | (simp only [decide_eq_true_eq, decide_eq_false_iff_not, Bool.not_eq_true', Bool.not_eq_false', ne_eq, Decidable.not_not, Bool.not_eq_true, Bool.not_eq_false] at q48) | (dsimp only at q48) | skip
    refine At.region rfl rfl ?_
    refine Reg.pur rfl rfl rfl rfl (Pur.mv rfl) ?_
    refine Reg.pur rfl rfl rfl rfl (Pur.bld (cs := [_, _]) pl25 zc25 rfl rfl ⟨rfl, rfl, rfl⟩) ?_
    refine Reg.op0 rfl rfl rfl (Does.stn ag25 rfl rfl (by first | rfl | exact ones_Is _) (by first | rfl | (simp [*]; done)) o0_0 (by first | decide | (simp; done) | (simp; omega) | omega)) ?_
    rintro _ H18_2 hu18_2
    have z18_2 := hu18_2.size
    replace hE := hE.upw hu18_2 (by omega)
    replace o0_0 := hu18_2.own
    first | rw [over (by first | rfl | (simp; done))] at o0_0 | skip
    refine Reg.nil ?_
    refine At.retC rfl Try.func48 ⟨_, _, _, _, rfl, rfl, ⟨_, o0_0.blk, .inr ⟨_, _, ag25, (by first | exact whole rfl | exact whole (by simp [*])), (by first | rfl | simp [*]), rfl⟩⟩, rfl⟩ ?_
    refine ⟨?_, hE⟩
    rw [prm_num q9 q11 (by omega), show rkn k a b = wrp (a.tdiv b) from if_pos q13]
    (try unfold wrp); first | (rw [if_pos (by omega)]; rfl) | (rw [if_neg (by omega)]; rfl)
  first | (simp only [decide_eq_true_eq, decide_eq_false_iff_not, Bool.not_eq_true', Bool.not_eq_false', ne_eq, Decidable.not_not, Bool.not_eq_true, Bool.not_eq_false] at q13) | (dsimp only at q13) | skip
  refine At.region rfl rfl ?_
  refine Reg.pur rfl rfl rfl rfl (Pur.eql rfl rfl) ?_
  refine Reg.pur rfl rfl rfl rfl (Pur.asg rfl) ?_
  refine Reg.nil ?_
  refine At.cond rfl rfl (fun q15 => ?_) (fun q15 => ?_)
  · first | (simp only [decide_eq_true_eq, decide_eq_false_iff_not, Bool.not_eq_true', Bool.not_eq_false', ne_eq, Decidable.not_not, Bool.not_eq_true, Bool.not_eq_false] at q15) | (dsimp only at q15) | skip
    refine At.region rfl rfl ?_
    refine Reg.pur rfl rfl rfl rfl (Pur.mv rfl) ?_
    refine Reg.pur rfl rfl rfl rfl (Pur.mv rfl) ?_
    first | refine Reg.pur rfl rfl rfl rfl (Pur.mul64 rfl rfl (by omega)) ?_ | refine Reg.pur rfl rfl rfl rfl (Pur.mul64 rfl rfl (by assumption)) ?_ | refine Reg.pur rfl rfl rfl rfl (Pur.mul rfl rfl) ?_
    refine Reg.pur rfl rfl rfl rfl (Pur.asg rfl) ?_
    refine Reg.nil ?_
    refine At.region rfl rfl ?_
    refine Reg.pur rfl rfl rfl rfl (Pur.mv rfl) ?_
    refine Reg.pur rfl rfl rfl rfl (Pur.gtr rfl rfl) ?_
    refine Reg.pur rfl rfl rfl rfl (Pur.mv rfl) ?_
    refine Reg.case 45 rfl (fun q45 => ?_) (fun q45 => ?_)
    · first | (simp only [decide_eq_true_eq, decide_eq_false_iff_not, Bool.not_eq_true', Bool.not_eq_false', ne_eq, Decidable.not_not, Bool.not_eq_true, Bool.not_eq_false] at q45) | (dsimp only at q45) | skip
      refine Reg.skip rfl rfl rfl rfl rfl rfl rfl ?_
      refine Reg.skip rfl rfl rfl rfl rfl rfl rfl ?_
      refine Reg.pur rfl rfl rfl rfl (Pur.pickT rfl rfl) ?_
      refine Reg.nil ?_
      refine At.condT rfl rfl rfl ?_
      refine At.region rfl rfl ?_
      refine Reg.pur rfl rfl rfl rfl (Pur.bld (cs := [_, _]) pl25 zc25 rfl rfl ⟨rfl, rfl, rfl⟩) ?_
      refine Reg.op0 rfl rfl rfl (Does.stn ag25 rfl rfl (by first | rfl | exact ones_Is _) (by first | rfl | (simp [*]; done)) o0_0 (by first | decide | (simp; done) | (simp; omega) | omega)) ?_
      rintro _ H17_1 hu17_1
      have z17_1 := hu17_1.size
      replace hE := hE.upw hu17_1 (by omega)
      replace o0_0 := hu17_1.own
      first | rw [over (by first | rfl | (simp; done))] at o0_0 | skip
      refine Reg.nil ?_
      refine At.retC rfl Try.func48 ⟨_, _, _, _, rfl, rfl, ⟨_, o0_0.blk, .inr ⟨_, _, ag25, (by first | exact whole rfl | exact whole (by simp [*])), (by first | rfl | simp [*]), rfl⟩⟩, rfl⟩ ?_
      refine ⟨?_, hE⟩
      rw [prm_num q9 q11 (by omega), show rkn k a b = wrp (a * b) by unfold rkn; rw [if_neg q13, if_pos q15]]
      (try unfold wrp); first | (rw [if_pos (by omega)]; rfl) | (rw [if_neg (by omega)]; rfl)
    first | (simp only [decide_eq_true_eq, decide_eq_false_iff_not, Bool.not_eq_true', Bool.not_eq_false', ne_eq, Decidable.not_not, Bool.not_eq_true, Bool.not_eq_false] at q45) | (dsimp only at q45) | skip
    refine Reg.gpur rfl rfl rfl rfl rfl rfl (Pur.mv rfl) ?_
    refine Reg.gpur rfl rfl rfl rfl rfl rfl (Pur.lss rfl rfl) ?_
    refine Reg.pur rfl rfl rfl rfl (Pur.pickF rfl rfl) ?_
    refine Reg.nil ?_
    refine At.cond rfl rfl (fun q48 => ?_) (fun q48 => ?_)
    · first | (simp only [decide_eq_true_eq, decide_eq_false_iff_not, Bool.not_eq_true', Bool.not_eq_false', ne_eq, Decidable.not_not, Bool.not_eq_true, Bool.not_eq_false] at q48) | (dsimp only at q48) | skip
      refine At.region rfl rfl ?_
      refine Reg.pur rfl rfl rfl rfl (Pur.bld (cs := [_, _]) pl25 zc25 rfl rfl ⟨rfl, rfl, rfl⟩) ?_
      refine Reg.op0 rfl rfl rfl (Does.stn ag25 rfl rfl (by first | rfl | exact ones_Is _) (by first | rfl | (simp [*]; done)) o0_0 (by first | decide | (simp; done) | (simp; omega) | omega)) ?_
      rintro _ H17_1 hu17_1
      have z17_1 := hu17_1.size
      replace hE := hE.upw hu17_1 (by omega)
      replace o0_0 := hu17_1.own
      first | rw [over (by first | rfl | (simp; done))] at o0_0 | skip
      refine Reg.nil ?_
      refine At.retC rfl Try.func48 ⟨_, _, _, _, rfl, rfl, ⟨_, o0_0.blk, .inr ⟨_, _, ag25, (by first | exact whole rfl | exact whole (by simp [*])), (by first | rfl | simp [*]), rfl⟩⟩, rfl⟩ ?_
      refine ⟨?_, hE⟩
      rw [prm_num q9 q11 (by omega), show rkn k a b = wrp (a * b) by unfold rkn; rw [if_neg q13, if_pos q15]]
      (try unfold wrp); first | (rw [if_pos (by omega)]; rfl) | (rw [if_neg (by omega)]; rfl)
    first | (simp only [decide_eq_true_eq, decide_eq_false_iff_not, Bool.not_eq_true', Bool.not_eq_false', ne_eq, Decidable.not_not, Bool.not_eq_true, Bool.not_eq_false] at q48) | (dsimp only at q48) | skip
    refine At.region rfl rfl ?_
    refine Reg.pur rfl rfl rfl rfl (Pur.mv rfl) ?_
    refine Reg.pur rfl rfl rfl rfl (Pur.bld (cs := [_, _]) pl25 zc25 rfl rfl ⟨rfl, rfl, rfl⟩) ?_
    refine Reg.op0 rfl rfl rfl (Does.stn ag25 rfl rfl (by first | rfl | exact ones_Is _) (by first | rfl | (simp [*]; done)) o0_0 (by first | decide | (simp; done) | (simp; omega) | omega)) ?_
    rintro _ H18_2 hu18_2
    have z18_2 := hu18_2.size
    replace hE := hE.upw hu18_2 (by omega)
    replace o0_0 := hu18_2.own
    first | rw [over (by first | rfl | (simp; done))] at o0_0 | skip
    refine Reg.nil ?_
    refine At.retC rfl Try.func48 ⟨_, _, _, _, rfl, rfl, ⟨_, o0_0.blk, .inr ⟨_, _, ag25, (by first | exact whole rfl | exact whole (by simp [*])), (by first | rfl | simp [*]), rfl⟩⟩, rfl⟩ ?_
    refine ⟨?_, hE⟩
    rw [prm_num q9 q11 (by omega), show rkn k a b = wrp (a * b) by unfold rkn; rw [if_neg q13, if_pos q15]]
    (try unfold wrp); first | (rw [if_pos (by omega)]; rfl) | (rw [if_neg (by omega)]; rfl)
  first | (simp only [decide_eq_true_eq, decide_eq_false_iff_not, Bool.not_eq_true', Bool.not_eq_false', ne_eq, Decidable.not_not, Bool.not_eq_true, Bool.not_eq_false] at q15) | (dsimp only at q15) | skip
  refine At.region rfl rfl ?_
  refine Reg.pur rfl rfl rfl rfl (Pur.eql rfl rfl) ?_
  refine Reg.pur rfl rfl rfl rfl (Pur.asg rfl) ?_
  refine Reg.nil ?_
  refine At.cond rfl rfl (fun q17 => ?_) (fun q17 => ?_)
  · first | (simp only [decide_eq_true_eq, decide_eq_false_iff_not, Bool.not_eq_true', Bool.not_eq_false', ne_eq, Decidable.not_not, Bool.not_eq_true, Bool.not_eq_false] at q17) | (dsimp only at q17) | skip
    refine At.region rfl rfl ?_
    refine Reg.pur rfl rfl rfl rfl (Pur.mv rfl) ?_
    first | refine Reg.pur rfl rfl rfl rfl (Pur.neg64 rfl (by omega)) ?_ | refine Reg.pur rfl rfl rfl rfl (Pur.neg rfl) ?_
    refine Reg.pur rfl rfl rfl rfl (Pur.asg rfl) ?_
    refine Reg.nil ?_
    refine At.region rfl rfl ?_
    refine Reg.pur rfl rfl rfl rfl (Pur.mv rfl) ?_
    refine Reg.pur rfl rfl rfl rfl (Pur.mv rfl) ?_
    first | refine Reg.pur rfl rfl rfl rfl (Pur.add64 rfl rfl (by omega)) ?_ | refine Reg.pur rfl rfl rfl rfl (Pur.add64 rfl rfl (by assumption)) ?_ | refine Reg.pur rfl rfl rfl rfl (Pur.add rfl rfl) ?_
    refine Reg.pur rfl rfl rfl rfl (Pur.asg rfl) ?_
    refine Reg.nil ?_
    refine At.region rfl rfl ?_
    refine Reg.pur rfl rfl rfl rfl (Pur.mv rfl) ?_
    refine Reg.pur rfl rfl rfl rfl (Pur.gtr rfl rfl) ?_
    refine Reg.pur rfl rfl rfl rfl (Pur.mv rfl) ?_
    refine Reg.case 45 rfl (fun q45 => ?_) (fun q45 => ?_)
    · first | (simp only [decide_eq_true_eq, decide_eq_false_iff_not, Bool.not_eq_true', Bool.not_eq_false', ne_eq, Decidable.not_not, Bool.not_eq_true, Bool.not_eq_false] at q45) | (dsimp only at q45) | skip
      refine Reg.skip rfl rfl rfl rfl rfl rfl rfl ?_
      refine Reg.skip rfl rfl rfl rfl rfl rfl rfl ?_
      refine Reg.pur rfl rfl rfl rfl (Pur.pickT rfl rfl) ?_
      refine Reg.nil ?_
      refine At.condT rfl rfl rfl ?_
      refine At.region rfl rfl ?_
      refine Reg.pur rfl rfl rfl rfl (Pur.bld (cs := [_, _]) pl25 zc25 rfl rfl ⟨rfl, rfl, rfl⟩) ?_
      refine Reg.op0 rfl rfl rfl (Does.stn ag25 rfl rfl (by first | rfl | exact ones_Is _) (by first | rfl | (simp [*]; done)) o0_0 (by first | decide | (simp; done) | (simp; omega) | omega)) ?_
      rintro _ H17_1 hu17_1
      have z17_1 := hu17_1.size
      replace hE := hE.upw hu17_1 (by omega)
      replace o0_0 := hu17_1.own
      first | rw [over (by first | rfl | (simp; done))] at o0_0 | skip
      refine Reg.nil ?_
      refine At.retC rfl Try.func48 ⟨_, _, _, _, rfl, rfl, ⟨_, o0_0.blk, .inr ⟨_, _, ag25, (by first | exact whole rfl | exact whole (by simp [*])), (by first | rfl | simp [*]), rfl⟩⟩, rfl⟩ ?_
      refine ⟨?_, hE⟩
      rw [prm_num q9 q11 (by omega), show rkn k a b = wrp (a + wrp (-b)) by unfold rkn; rw [if_neg q13, if_neg q15, if_pos q17, wrp_sub]]
      (try unfold wrp); first | (rw [if_pos (by omega)]; rfl) | (rw [if_neg (by omega)]; rfl)
    first | (simp only [decide_eq_true_eq, decide_eq_false_iff_not, Bool.not_eq_true', Bool.not_eq_false', ne_eq, Decidable.not_not, Bool.not_eq_true, Bool.not_eq_false] at q45) | (dsimp only at q45) | skip
    refine Reg.gpur rfl rfl rfl rfl rfl rfl (Pur.mv rfl) ?_
    refine Reg.gpur rfl rfl rfl rfl rfl rfl (Pur.lss rfl rfl) ?_
    refine Reg.pur rfl rfl rfl rfl (Pur.pickF rfl rfl) ?_
    refine Reg.nil ?_
    refine At.cond rfl rfl (fun q48 => ?_) (fun q48 => ?_)
    · first | (simp only [decide_eq_true_eq, decide_eq_false_iff_not, Bool.not_eq_true', Bool.not_eq_false', ne_eq, Decidable.not_not, Bool.not_eq_true, Bool.not_eq_false] at q48) | (dsimp only at q48) | skip
      refine At.region rfl rfl ?_
      refine Reg.pur rfl rfl rfl rfl (Pur.bld (cs := [_, _]) pl25 zc25 rfl rfl ⟨rfl, rfl, rfl⟩) ?_
      refine Reg.op0 rfl rfl rfl (Does.stn ag25 rfl rfl (by first | rfl | exact ones_Is _) (by first | rfl | (simp [*]; done)) o0_0 (by first | decide | (simp; done) | (simp; omega) | omega)) ?_
      rintro _ H17_1 hu17_1
      have z17_1 := hu17_1.size
      replace hE := hE.upw hu17_1 (by omega)
      replace o0_0 := hu17_1.own
      first | rw [over (by first | rfl | (simp; done))] at o0_0 | skip
      refine Reg.nil ?_
      refine At.retC rfl Try.func48 ⟨_, _, _, _, rfl, rfl, ⟨_, o0_0.blk, .inr ⟨_, _, ag25, (by first | exact whole rfl | exact whole (by simp [*])), (by first | rfl | simp [*]), rfl⟩⟩, rfl⟩ ?_
      refine ⟨?_, hE⟩
      rw [prm_num q9 q11 (by omega), show rkn k a b = wrp (a + wrp (-b)) by unfold rkn; rw [if_neg q13, if_neg q15, if_pos q17, wrp_sub]]
      (try unfold wrp); first | (rw [if_pos (by omega)]; rfl) | (rw [if_neg (by omega)]; rfl)
    first | (simp only [decide_eq_true_eq, decide_eq_false_iff_not, Bool.not_eq_true', Bool.not_eq_false', ne_eq, Decidable.not_not, Bool.not_eq_true, Bool.not_eq_false] at q48) | (dsimp only at q48) | skip
    refine At.region rfl rfl ?_
    refine Reg.pur rfl rfl rfl rfl (Pur.mv rfl) ?_
    refine Reg.pur rfl rfl rfl rfl (Pur.bld (cs := [_, _]) pl25 zc25 rfl rfl ⟨rfl, rfl, rfl⟩) ?_
    refine Reg.op0 rfl rfl rfl (Does.stn ag25 rfl rfl (by first | rfl | exact ones_Is _) (by first | rfl | (simp [*]; done)) o0_0 (by first | decide | (simp; done) | (simp; omega) | omega)) ?_
    rintro _ H18_2 hu18_2
    have z18_2 := hu18_2.size
    replace hE := hE.upw hu18_2 (by omega)
    replace o0_0 := hu18_2.own
    first | rw [over (by first | rfl | (simp; done))] at o0_0 | skip
    refine Reg.nil ?_
    refine At.retC rfl Try.func48 ⟨_, _, _, _, rfl, rfl, ⟨_, o0_0.blk, .inr ⟨_, _, ag25, (by first | exact whole rfl | exact whole (by simp [*])), (by first | rfl | simp [*]), rfl⟩⟩, rfl⟩ ?_
    refine ⟨?_, hE⟩
    rw [prm_num q9 q11 (by omega), show rkn k a b = wrp (a + wrp (-b)) by unfold rkn; rw [if_neg q13, if_neg q15, if_pos q17, wrp_sub]]
    (try unfold wrp); first | (rw [if_pos (by omega)]; rfl) | (rw [if_neg (by omega)]; rfl)
  first | (simp only [decide_eq_true_eq, decide_eq_false_iff_not, Bool.not_eq_true', Bool.not_eq_false', ne_eq, Decidable.not_not, Bool.not_eq_true, Bool.not_eq_false] at q17) | (dsimp only at q17) | skip
  refine At.region rfl rfl ?_
  refine Reg.pur rfl rfl rfl rfl (Pur.mv rfl) ?_
  refine Reg.pur rfl rfl rfl rfl (Pur.mv rfl) ?_
  first | refine Reg.pur rfl rfl rfl rfl (Pur.add64 rfl rfl (by omega)) ?_ | refine Reg.pur rfl rfl rfl rfl (Pur.add64 rfl rfl (by assumption)) ?_ | refine Reg.pur rfl rfl rfl rfl (Pur.add rfl rfl) ?_
  refine Reg.pur rfl rfl rfl rfl (Pur.asg rfl) ?_
  refine Reg.nil ?_
  refine At.region rfl rfl ?_
  refine Reg.pur rfl rfl rfl rfl (Pur.mv rfl) ?_
  refine Reg.pur rfl rfl rfl rfl (Pur.gtr rfl rfl) ?_
  refine Reg.pur rfl rfl rfl rfl (Pur.mv rfl) ?_
  refine Reg.case 45 rfl (fun q45 => ?_) (fun q45 => ?_)
  · first | (simp only [decide_eq_true_eq, decide_eq_false_iff_not, Bool.not_eq_true', Bool.not_eq_false', ne_eq, Decidable.not_not, Bool.not_eq_true, Bool.not_eq_false] at q45) | (dsimp only at q45) | skip
    refine Reg.skip rfl rfl rfl rfl rfl rfl rfl ?_
    refine Reg.skip rfl rfl rfl rfl rfl rfl rfl ?_
    refine Reg.pur rfl rfl rfl rfl (Pur.pickT rfl rfl) ?_
    refine Reg.nil ?_
    refine At.condT rfl rfl rfl ?_
    refine At.region rfl rfl ?_
    refine Reg.pur rfl rfl rfl rfl (Pur.bld (cs := [_, _]) pl25 zc25 rfl rfl ⟨rfl, rfl, rfl⟩) ?_
    refine Reg.op0 rfl rfl rfl (Does.stn ag25 rfl rfl (by first | rfl | exact ones_Is _) (by first | rfl | (simp [*]; done)) o0_0 (by first | decide | (simp; done) | (simp; omega) | omega)) ?_
    rintro _ H17_1 hu17_1
    have z17_1 := hu17_1.size
    replace hE := hE.upw hu17_1 (by omega)
    replace o0_0 := hu17_1.own
    first | rw [over (by first | rfl | (simp; done))] at o0_0 | skip
    refine Reg.nil ?_
    refine At.retC rfl Try.func48 ⟨_, _, _, _, rfl, rfl, ⟨_, o0_0.blk, .inr ⟨_, _, ag25, (by first | exact whole rfl | exact whole (by simp [*])), (by first | rfl | simp [*]), rfl⟩⟩, rfl⟩ ?_
    refine ⟨?_, hE⟩
    rw [prm_num q9 q11 (by omega), show rkn k a b = wrp (a + b) by unfold rkn; rw [if_neg q13, if_neg q15, if_neg q17]]
    (try unfold wrp); first | (rw [if_pos (by omega)]; rfl) | (rw [if_neg (by omega)]; rfl)
  first | (simp only [decide_eq_true_eq, decide_eq_false_iff_not, Bool.not_eq_true', Bool.not_eq_false', ne_eq, Decidable.not_not, Bool.not_eq_true, Bool.not_eq_false] at q45) | (dsimp only at q45) | skip
  refine Reg.gpur rfl rfl rfl rfl rfl rfl (Pur.mv rfl) ?_
  refine Reg.gpur rfl rfl rfl rfl rfl rfl (Pur.lss rfl rfl) ?_
  refine Reg.pur rfl rfl rfl rfl (Pur.pickF rfl rfl) ?_
  refine Reg.nil ?_
  refine At.cond rfl rfl (fun q48 => ?_) (fun q48 => ?_)
  · first | (simp only [decide_eq_true_eq, decide_eq_false_iff_not, Bool.not_eq_true', Bool.not_eq_false', ne_eq, Decidable.not_not, Bool.not_eq_true, Bool.not_eq_false] at q48) | (dsimp only at q48) | skip
    refine At.region rfl rfl ?_
    refine Reg.pur rfl rfl rfl rfl (Pur.bld (cs := [_, _]) pl25 zc25 rfl rfl ⟨rfl, rfl, rfl⟩) ?_
    refine Reg.op0 rfl rfl rfl (Does.stn ag25 rfl rfl (by first | rfl | exact ones_Is _) (by first | rfl | (simp [*]; done)) o0_0 (by first | decide | (simp; done) | (simp; omega) | omega)) ?_
    rintro _ H17_1 hu17_1
    have z17_1 := hu17_1.size
    replace hE := hE.upw hu17_1 (by omega)
    replace o0_0 := hu17_1.own
    first | rw [over (by first | rfl | (simp; done))] at o0_0 | skip
    refine Reg.nil ?_
    refine At.retC rfl Try.func48 ⟨_, _, _, _, rfl, rfl, ⟨_, o0_0.blk, .inr ⟨_, _, ag25, (by first | exact whole rfl | exact whole (by simp [*])), (by first | rfl | simp [*]), rfl⟩⟩, rfl⟩ ?_
    refine ⟨?_, hE⟩
    rw [prm_num q9 q11 (by omega), show rkn k a b = wrp (a + b) by unfold rkn; rw [if_neg q13, if_neg q15, if_neg q17]]
    (try unfold wrp); first | (rw [if_pos (by omega)]; rfl) | (rw [if_neg (by omega)]; rfl)
  first | (simp only [decide_eq_true_eq, decide_eq_false_iff_not, Bool.not_eq_true', Bool.not_eq_false', ne_eq, Decidable.not_not, Bool.not_eq_true, Bool.not_eq_false] at q48) | (dsimp only at q48) | skip
  refine At.region rfl rfl ?_
  refine Reg.pur rfl rfl rfl rfl (Pur.mv rfl) ?_
  refine Reg.pur rfl rfl rfl rfl (Pur.bld (cs := [_, _]) pl25 zc25 rfl rfl ⟨rfl, rfl, rfl⟩) ?_
  refine Reg.op0 rfl rfl rfl (Does.stn ag25 rfl rfl (by first | rfl | exact ones_Is _) (by first | rfl | (simp [*]; done)) o0_0 (by first | decide | (simp; done) | (simp; omega) | omega)) ?_
  rintro _ H18_2 hu18_2
  have z18_2 := hu18_2.size
  replace hE := hE.upw hu18_2 (by omega)
  replace o0_0 := hu18_2.own
  first | rw [over (by first | rfl | (simp; done))] at o0_0 | skip
  refine Reg.nil ?_
  refine At.retC rfl Try.func48 ⟨_, _, _, _, rfl, rfl, ⟨_, o0_0.blk, .inr ⟨_, _, ag25, (by first | exact whole rfl | exact whole (by simp [*])), (by first | rfl | simp [*]), rfl⟩⟩, rfl⟩ ?_
  refine ⟨?_, hE⟩
  rw [prm_num q9 q11 (by omega), show rkn k a b = wrp (a + b) by unfold rkn; rw [if_neg q13, if_neg q15, if_neg q17]]
  (try unfold wrp); first | (rw [if_pos (by omega)]; rfl) | (rw [if_neg (by omega)]; rfl)
end Go.Proofs.Ytjhkmebmbopfoaa
