/-
  The reference's Unify.
-/
import Derived.Test.YtlfillhffpiffaaRUniRC
import Derived.Test.YtlfillhffpiffaaR6
namespace Go.Proofs.Ytlfillhffpiffaa
set_option linter.unusedSimpArgs false
set_option linter.unusedVariables false
set_option maxRecDepth 8000
set_option maxHeartbeats 1000000
open Go Go.Fx Go.Proofs
namespace FactsUniRD
theorem ag25 : ag Try.prog 25 = some 1 := by kernel_rfl
theorem fo127_0 : foff Try.prog 127 0 = some 0 := by kernel_rfl
theorem fo127_2 : foff Try.prog 127 2 = some 2 := by kernel_rfl
theorem mixed : Try.prog.follows .mixedOrders = true := by kernel_rfl
theorem pl127 : places Try.prog 127 = some [(0, 1), (1, 1), (2, 1)] := by kernel_rfl
theorem sc22 : sc Try.prog 22 = true := by kernel_rfl
theorem sc3 : sc Try.prog 3 = true := by kernel_rfl
theorem zc127 : zc Try.prog 127 = some [.slice none 0 0, .int .i64 0, .int .i64 0] := by kernel_rfl
end FactsUniRD
open FactsUniRD

theorem RfP.code' {H H' : Heap} {lo sb : Nat} {A : Option Addr} {r : Except Int Us} (h : RfP H lo sb A r H') : ∃ x y c, Own H' sb [x, y, I c] ∧ (c = 0 ↔ isOk r = true) ∧ ∀ c', r = .error c' → c = c' := by
  cases r with
  | ok u => obtain ⟨A', cap', Bs', _, h2, _⟩ := h; exact ⟨_, _, 0, h2, by simp [isOk], fun c hc => by cases hc⟩
  | error c => obtain ⟨⟨x, f, h1⟩, h2, _⟩ := h; exact ⟨x, f, c, h1, by simp [isOk, h2], fun c' hc => by cases hc; rfl⟩
theorem unifyR_ok {L M : List (List Int)} (hL : Nine L) (hM : Nine M) {f : Int} {A1 A2 : Option Addr} {c1 c2 : Nat} {H : Heap} (hS1 : SlT H Is 9 (.slice A1 L.length c1) L) (hS2 : SlT H Is 9 (.slice A2 M.length c2) M) (hl : L.length ≤ 9223372036854775807) (hm : M.length ≤ 9223372036854775807) {r : Except Int (List Bt)} (hr : Unf L M f r) :
    Ret Try.prog 44 [Ty A1 L.length c1, Ty A2 M.length c2, I f] H (UnfP H r) := by
  refine Ret.of_at (N := 57) Try.call44 Try.func44 rfl rfl rfl ?_
  have hE := Ext.refl H
  have z_hE := hE.lt
  refine At.region rfl rfl ?_
  refine Reg.op rfl rfl rfl rfl (Does.box rfl rfl) ?_
  rintro _ H0_0 ⟨rfl, hn0_0⟩
  have z0_0 := hn0_0.size
  replace hE := hE.ext hn0_0.ext
  have o0_0 := hn0_0.own
  refine Reg.op rfl rfl rfl rfl (Does.box rfl rfl) ?_
  rintro _ H0_1 ⟨rfl, hn0_1⟩
  have z0_1 := hn0_1.size
  replace hE := hE.ext hn0_1.ext
  replace o0_0 := o0_0.ext hn0_1.ext
  have o0_1 := hn0_1.own
  refine Reg.pur rfl rfl rfl rfl (Pur.asg rfl) ?_
  refine Reg.pur rfl rfl rfl rfl (Pur.asg rfl) ?_
  refine Reg.nil ?_
  refine At.region rfl rfl ?_
  refine Reg.lod rfl rfl rfl rfl (Lod.ldn ag25 rfl o0_0.blk (whole rfl) rfl) ?_
  refine Reg.op rfl rfl rfl rfl (Does.call rfl (typMayR_ok L hL (hS1.ext hE) hl)) ?_
  rintro _ H1_1 ⟨rfl, hE1_1⟩
  have z1_1 := hE1_1.lt
  replace hE := hE.ext hE1_1
  replace o0_0 := o0_0.ext hE1_1
  replace o0_1 := o0_1.ext hE1_1
  refine Reg.pur rfl rfl rfl rfl (Pur.not rfl) ?_
  refine Reg.pur rfl rfl rfl rfl (Pur.mv rfl) ?_
  refine Reg.case 12 rfl (fun q12 => ?_) (fun q12 => ?_)
  · first | (simp only [decide_eq_true_eq, decide_eq_false_iff_not, Bool.not_eq_true', Bool.not_eq_false', ne_eq, Decidable.not_not, Bool.not_eq_true, Bool.not_eq_false] at q12) | (dsimp only at q12) | skip
    refine Reg.skip rfl rfl rfl rfl rfl rfl rfl ?_
    refine Reg.skip rfl rfl rfl rfl rfl rfl rfl ?_
    refine Reg.skip rfl rfl rfl rfl rfl rfl rfl ?_
    refine Reg.pur rfl rfl rfl rfl (Pur.pickT rfl rfl) ?_
    refine Reg.pur rfl rfl rfl rfl (Pur.mv rfl) ?_
    refine Reg.skip rfl rfl rfl rfl rfl rfl rfl ?_
    refine Reg.skip rfl rfl rfl rfl rfl rfl rfl ?_
    refine Reg.pur rfl rfl rfl rfl (Pur.pickT rfl rfl) ?_
    refine Reg.pur rfl rfl rfl rfl (Pur.mv rfl) ?_
    refine Reg.skip rfl rfl rfl rfl rfl rfl rfl ?_
    refine Reg.skip rfl rfl rfl rfl rfl rfl rfl ?_
    refine Reg.pur rfl rfl rfl rfl (Pur.pickT rfl rfl) ?_
    refine Reg.pur rfl rfl rfl rfl (Pur.mv rfl) ?_
    refine Reg.skip rfl rfl rfl rfl rfl rfl rfl ?_
    refine Reg.skip rfl rfl rfl rfl rfl rfl rfl ?_
    refine Reg.skip rfl rfl rfl rfl rfl rfl rfl ?_
    refine Reg.skip rfl rfl rfl rfl rfl rfl rfl ?_
    refine Reg.pur rfl rfl rfl rfl (Pur.pickT rfl rfl) ?_
    refine Reg.pur rfl rfl rfl rfl (Pur.mv rfl) ?_
    refine Reg.skip rfl rfl rfl rfl rfl rfl rfl ?_
    refine Reg.skip rfl rfl rfl rfl rfl rfl rfl ?_
    refine Reg.skip rfl rfl rfl rfl rfl rfl rfl ?_
    refine Reg.skip rfl rfl rfl rfl rfl rfl rfl ?_
    refine Reg.pur rfl rfl rfl rfl (Pur.pickT rfl rfl) ?_
    refine Reg.nil ?_
    refine At.condT rfl rfl rfl ?_
    refine At.region rfl rfl ?_
    refine Reg.pur rfl rfl rfl rfl (Pur.asg rfl) ?_
    refine Reg.pur rfl rfl rfl rfl (Pur.asg rfl) ?_
    refine Reg.nil ?_
    refine At.ret rfl Try.func44 rfl ?_
    obtain rfl := unf_fun hr (.no (by unfold unfOk; generalize L.any (pLow f) = x1 at *; generalize M.any (pLow f) = x2 at *; simp_all; try omega))
    exact ⟨rfl, hE⟩
  first | (simp only [decide_eq_true_eq, decide_eq_false_iff_not, Bool.not_eq_true', Bool.not_eq_false', ne_eq, Decidable.not_not, Bool.not_eq_true, Bool.not_eq_false] at q12) | (dsimp only at q12) | skip
  refine Reg.glod rfl rfl rfl rfl rfl rfl (Lod.ldn ag25 rfl o0_1.blk (whole rfl) rfl) ?_
  refine Reg.gop rfl rfl rfl rfl rfl rfl (Does.call rfl (typMayR_ok M hM (hS2.ext hE) hm)) ?_
  rintro _ H1_5 ⟨rfl, hE1_5⟩
  have z1_5 := hE1_5.lt
  replace hE := hE.ext hE1_5
  replace o0_0 := o0_0.ext hE1_5
  replace o0_1 := o0_1.ext hE1_5
  refine Reg.gpur rfl rfl rfl rfl rfl rfl (Pur.not rfl) ?_
  refine Reg.pur rfl rfl rfl rfl (Pur.pickF rfl rfl) ?_
  refine Reg.pur rfl rfl rfl rfl (Pur.mv rfl) ?_
  refine Reg.case 17 rfl (fun q17 => ?_) (fun q17 => ?_)
  · first | (simp only [decide_eq_true_eq, decide_eq_false_iff_not, Bool.not_eq_true', Bool.not_eq_false', ne_eq, Decidable.not_not, Bool.not_eq_true, Bool.not_eq_false] at q17) | (dsimp only at q17) | skip
    refine Reg.skip rfl rfl rfl rfl rfl rfl rfl ?_
    refine Reg.skip rfl rfl rfl rfl rfl rfl rfl ?_
    refine Reg.pur rfl rfl rfl rfl (Pur.pickT rfl rfl) ?_
    refine Reg.pur rfl rfl rfl rfl (Pur.mv rfl) ?_
    refine Reg.skip rfl rfl rfl rfl rfl rfl rfl ?_
    refine Reg.skip rfl rfl rfl rfl rfl rfl rfl ?_
    refine Reg.pur rfl rfl rfl rfl (Pur.pickT rfl rfl) ?_
    refine Reg.pur rfl rfl rfl rfl (Pur.mv rfl) ?_
    refine Reg.skip rfl rfl rfl rfl rfl rfl rfl ?_
    refine Reg.skip rfl rfl rfl rfl rfl rfl rfl ?_
    refine Reg.skip rfl rfl rfl rfl rfl rfl rfl ?_
    refine Reg.skip rfl rfl rfl rfl rfl rfl rfl ?_
    refine Reg.pur rfl rfl rfl rfl (Pur.pickT rfl rfl) ?_
    refine Reg.pur rfl rfl rfl rfl (Pur.mv rfl) ?_
    refine Reg.skip rfl rfl rfl rfl rfl rfl rfl ?_
    refine Reg.skip rfl rfl rfl rfl rfl rfl rfl ?_
    refine Reg.skip rfl rfl rfl rfl rfl rfl rfl ?_
    refine Reg.skip rfl rfl rfl rfl rfl rfl rfl ?_
    refine Reg.pur rfl rfl rfl rfl (Pur.pickT rfl rfl) ?_
    refine Reg.nil ?_
    refine At.condT rfl rfl rfl ?_
    refine At.region rfl rfl ?_
    refine Reg.pur rfl rfl rfl rfl (Pur.asg rfl) ?_
    refine Reg.pur rfl rfl rfl rfl (Pur.asg rfl) ?_
    refine Reg.nil ?_
    refine At.ret rfl Try.func44 rfl ?_
    obtain rfl := unf_fun hr (.no (by unfold unfOk; generalize L.any (pLow f) = x1 at *; generalize M.any (pLow f) = x2 at *; simp_all; try omega))
    exact ⟨rfl, hE⟩
  first | (simp only [decide_eq_true_eq, decide_eq_false_iff_not, Bool.not_eq_true', Bool.not_eq_false', ne_eq, Decidable.not_not, Bool.not_eq_true, Bool.not_eq_false] at q17) | (dsimp only at q17) | skip
  refine Reg.gpur rfl rfl rfl rfl rfl rfl (Pur.mv rfl) ?_
  refine Reg.gpur rfl rfl rfl rfl rfl rfl (Pur.lss rfl rfl) ?_
  refine Reg.pur rfl rfl rfl rfl (Pur.pickF rfl rfl) ?_
  refine Reg.pur rfl rfl rfl rfl (Pur.mv rfl) ?_
  refine Reg.case 21 rfl (fun q21 => ?_) (fun q21 => ?_)
  · first | (simp only [decide_eq_true_eq, decide_eq_false_iff_not, Bool.not_eq_true', Bool.not_eq_false', ne_eq, Decidable.not_not, Bool.not_eq_true, Bool.not_eq_false] at q21) | (dsimp only at q21) | skip
    refine Reg.skip rfl rfl rfl rfl rfl rfl rfl ?_
    refine Reg.skip rfl rfl rfl rfl rfl rfl rfl ?_
    refine Reg.pur rfl rfl rfl rfl (Pur.pickT rfl rfl) ?_
    refine Reg.pur rfl rfl rfl rfl (Pur.mv rfl) ?_
    refine Reg.skip rfl rfl rfl rfl rfl rfl rfl ?_
    refine Reg.skip rfl rfl rfl rfl rfl rfl rfl ?_
    refine Reg.skip rfl rfl rfl rfl rfl rfl rfl ?_
    refine Reg.skip rfl rfl rfl rfl rfl rfl rfl ?_
    refine Reg.pur rfl rfl rfl rfl (Pur.pickT rfl rfl) ?_
    refine Reg.pur rfl rfl rfl rfl (Pur.mv rfl) ?_
    refine Reg.skip rfl rfl rfl rfl rfl rfl rfl ?_
    refine Reg.skip rfl rfl rfl rfl rfl rfl rfl ?_
    refine Reg.skip rfl rfl rfl rfl rfl rfl rfl ?_
    refine Reg.skip rfl rfl rfl rfl rfl rfl rfl ?_
    refine Reg.pur rfl rfl rfl rfl (Pur.pickT rfl rfl) ?_
    refine Reg.nil ?_
    refine At.condT rfl rfl rfl ?_
    refine At.region rfl rfl ?_
    refine Reg.pur rfl rfl rfl rfl (Pur.asg rfl) ?_
    refine Reg.pur rfl rfl rfl rfl (Pur.asg rfl) ?_
    refine Reg.nil ?_
    refine At.ret rfl Try.func44 rfl ?_
    obtain rfl := unf_fun hr (.no (by unfold unfOk; generalize L.any (pLow f) = x1 at *; generalize M.any (pLow f) = x2 at *; simp_all; try omega))
    exact ⟨rfl, hE⟩
  first | (simp only [decide_eq_true_eq, decide_eq_false_iff_not, Bool.not_eq_true', Bool.not_eq_false', ne_eq, Decidable.not_not, Bool.not_eq_true, Bool.not_eq_false] at q21) | (dsimp only at q21) | skip
  refine Reg.gpur rfl rfl rfl rfl rfl rfl (Pur.mv rfl) ?_
  refine Reg.gpur rfl rfl rfl rfl rfl rfl (Pur.geq rfl rfl) ?_
  refine Reg.pur rfl rfl rfl rfl (Pur.pickF rfl rfl) ?_
  refine Reg.pur rfl rfl rfl rfl (Pur.mv rfl) ?_
  refine Reg.case 25 rfl (fun q25 => ?_) (fun q25 => ?_)
  · first | (simp only [decide_eq_true_eq, decide_eq_false_iff_not, Bool.not_eq_true', Bool.not_eq_false', ne_eq, Decidable.not_not, Bool.not_eq_true, Bool.not_eq_false] at q25) | (dsimp only at q25) | skip
    refine Reg.skip rfl rfl rfl rfl rfl rfl rfl ?_
    refine Reg.skip rfl rfl rfl rfl rfl rfl rfl ?_
    refine Reg.skip rfl rfl rfl rfl rfl rfl rfl ?_
    refine Reg.skip rfl rfl rfl rfl rfl rfl rfl ?_
    refine Reg.pur rfl rfl rfl rfl (Pur.pickT rfl rfl) ?_
    refine Reg.pur rfl rfl rfl rfl (Pur.mv rfl) ?_
    refine Reg.skip rfl rfl rfl rfl rfl rfl rfl ?_
    refine Reg.skip rfl rfl rfl rfl rfl rfl rfl ?_
    refine Reg.skip rfl rfl rfl rfl rfl rfl rfl ?_
    refine Reg.skip rfl rfl rfl rfl rfl rfl rfl ?_
    refine Reg.pur rfl rfl rfl rfl (Pur.pickT rfl rfl) ?_
    refine Reg.nil ?_
    refine At.condT rfl rfl rfl ?_
    refine At.region rfl rfl ?_
    refine Reg.pur rfl rfl rfl rfl (Pur.asg rfl) ?_
    refine Reg.pur rfl rfl rfl rfl (Pur.asg rfl) ?_
    refine Reg.nil ?_
    refine At.ret rfl Try.func44 rfl ?_
    obtain rfl := unf_fun hr (.no (by unfold unfOk; generalize L.any (pLow f) = x1 at *; generalize M.any (pLow f) = x2 at *; simp_all; try omega))
    exact ⟨rfl, hE⟩
  first | (simp only [decide_eq_true_eq, decide_eq_false_iff_not, Bool.not_eq_true', Bool.not_eq_false', ne_eq, Decidable.not_not, Bool.not_eq_true, Bool.not_eq_false] at q25) | (dsimp only at q25) | skip
  refine Reg.glod rfl rfl rfl rfl rfl rfl (Lod.ldn ag25 rfl o0_0.blk (whole rfl) rfl) ?_
  refine Reg.gpur rfl rfl rfl rfl rfl rfl (Pur.mv rfl) ?_
  refine Reg.gop rfl rfl rfl rfl rfl rfl (Does.call rfl (belowR_ok hL (by have := typM256 q12; omega) (hS1.ext hE))) ?_
  rintro _ H1_19 ⟨rfl, hE1_19⟩
  have z1_19 := hE1_19.lt
  replace hE := hE.ext hE1_19
  replace o0_0 := o0_0.ext hE1_19
  replace o0_1 := o0_1.ext hE1_19
  refine Reg.gpur rfl rfl rfl rfl rfl rfl (Pur.not rfl) ?_
  refine Reg.pur rfl rfl rfl rfl (Pur.pickF rfl rfl) ?_
  refine Reg.pur rfl rfl rfl rfl (Pur.mv rfl) ?_
  refine Reg.case 31 rfl (fun q31 => ?_) (fun q31 => ?_)
  · first | (simp only [decide_eq_true_eq, decide_eq_false_iff_not, Bool.not_eq_true', Bool.not_eq_false', ne_eq, Decidable.not_not, Bool.not_eq_true, Bool.not_eq_false] at q31) | (dsimp only at q31) | skip
    refine Reg.skip rfl rfl rfl rfl rfl rfl rfl ?_
    refine Reg.skip rfl rfl rfl rfl rfl rfl rfl ?_
    refine Reg.skip rfl rfl rfl rfl rfl rfl rfl ?_
    refine Reg.skip rfl rfl rfl rfl rfl rfl rfl ?_
    refine Reg.pur rfl rfl rfl rfl (Pur.pickT rfl rfl) ?_
    refine Reg.nil ?_
    refine At.condT rfl rfl rfl ?_
    refine At.region rfl rfl ?_
    refine Reg.pur rfl rfl rfl rfl (Pur.asg rfl) ?_
    refine Reg.pur rfl rfl rfl rfl (Pur.asg rfl) ?_
    refine Reg.nil ?_
    refine At.ret rfl Try.func44 rfl ?_
    obtain rfl := unf_fun hr (.no (by unfold unfOk; generalize L.any (pLow f) = x1 at *; generalize M.any (pLow f) = x2 at *; simp_all; try omega))
    exact ⟨rfl, hE⟩
  first | (simp only [decide_eq_true_eq, decide_eq_false_iff_not, Bool.not_eq_true', Bool.not_eq_false', ne_eq, Decidable.not_not, Bool.not_eq_true, Bool.not_eq_false] at q31) | (dsimp only at q31) | skip
  refine Reg.glod rfl rfl rfl rfl rfl rfl (Lod.ldn ag25 rfl o0_1.blk (whole rfl) rfl) ?_
  refine Reg.gpur rfl rfl rfl rfl rfl rfl (Pur.mv rfl) ?_
  refine Reg.gop rfl rfl rfl rfl rfl rfl (Does.call rfl (belowR_ok hM (by have := typM256 q17; omega) (hS2.ext hE))) ?_
  rintro _ H1_25 ⟨rfl, hE1_25⟩
  have z1_25 := hE1_25.lt
  replace hE := hE.ext hE1_25
  replace o0_0 := o0_0.ext hE1_25
  replace o0_1 := o0_1.ext hE1_25
  refine Reg.gpur rfl rfl rfl rfl rfl rfl (Pur.not rfl) ?_
  refine Reg.pur rfl rfl rfl rfl (Pur.pickF rfl rfl) ?_
  refine Reg.nil ?_
  refine At.cond rfl rfl (fun q36 => ?_) (fun q36 => ?_)
  · first | (simp only [decide_eq_true_eq, decide_eq_false_iff_not, Bool.not_eq_true', Bool.not_eq_false', ne_eq, Decidable.not_not, Bool.not_eq_true, Bool.not_eq_false] at q36) | (dsimp only at q36) | skip
    refine At.region rfl rfl ?_
    refine Reg.pur rfl rfl rfl rfl (Pur.asg rfl) ?_
    refine Reg.pur rfl rfl rfl rfl (Pur.asg rfl) ?_
    refine Reg.nil ?_
    refine At.ret rfl Try.func44 rfl ?_
    obtain rfl := unf_fun hr (.no (by unfold unfOk; generalize L.any (pLow f) = x1 at *; generalize M.any (pLow f) = x2 at *; simp_all; try omega))
    exact ⟨rfl, hE⟩
  first | (simp only [decide_eq_true_eq, decide_eq_false_iff_not, Bool.not_eq_true', Bool.not_eq_false', ne_eq, Decidable.not_not, Bool.not_eq_true, Bool.not_eq_false] at q36) | (dsimp only at q36) | skip
  have hok : unfOk L M f = true := by unfold unfOk; generalize L.any (pLow f) = x1 at *; generalize M.any (pLow f) = x2 at *; simp_all; try omega
  obtain ⟨h0, h1, t, u, ht, htz, rfl, hu, huz, rfl, hlt, hlu⟩ := unf_tree hL hM hok
  obtain ⟨n, x, hx, _⟩ := uniU_total (s := ([], f)) inv_nil ht hu
  obtain rfl := unf_fun hr (.yes h0 h1 ht htz rfl hu huz rfl hlt hlu hx)
  refine At.region rfl rfl ?_
  refine Reg.pur rfl rfl rfl rfl (Pur.mv rfl) ?_
  refine Reg.pur rfl rfl rfl rfl (Pur.bld (cs := [_, _, _]) pl127 zc127 rfl rfl ⟨rfl, rfl, rfl, rfl⟩) ?_
  refine Reg.op rfl rfl rfl rfl (Does.box rfl rfl) ?_
  rintro _ H3_2 ⟨rfl, hn3_2⟩
  have z3_2 := hn3_2.size
  replace hE := hE.ext hn3_2.ext
  replace o0_0 := o0_0.ext hn3_2.ext
  replace o0_1 := o0_1.ext hn3_2.ext
  have o3_2 := hn3_2.own
  refine Reg.pur rfl rfl rfl rfl (Pur.asg rfl) ?_
  refine Reg.nil ?_
  refine At.region rfl rfl ?_
  refine Reg.pur rfl rfl rfl rfl (Pur.mv rfl) ?_
  refine Reg.lod rfl rfl rfl rfl (Lod.ldn ag25 rfl o0_0.blk (whole rfl) rfl) ?_
  refine Reg.lod rfl rfl rfl rfl (Lod.ldn ag25 rfl o0_1.blk (whole rfl) rfl) ?_
  refine Reg.op rfl rfl rfl rfl (Does.call rfl (typesR_ok n (lo := H.size) hx (good_nil h0 (by omega)) (slv_nil (by omega)) o3_2 ht htz hu huz hlt hlu (hS1.ext hE) (hS2.ext hE))) ?_
  rintro w4_3 H4_3 hP

  obtain ⟨x4, y4, c4, ho4, hc4, hce⟩ := hP.code'
  refine Reg.nil ?_
  refine At.region rfl rfl ?_
  refine Reg.pur rfl rfl rfl rfl (Pur.mv rfl) ?_
  refine Reg.pur rfl rfl rfl rfl (Pur.nilc rfl) ?_
  refine Reg.pur rfl rfl rfl rfl (Pur.fld _ fo127_2 rfl) ?_
  refine Reg.lod rfl rfl rfl rfl (Lod.ld sc3 rfl ho4.blk rfl) ?_
  refine Reg.pur rfl rfl rfl rfl (Pur.neq rfl rfl) ?_
  refine Reg.nil ?_
  refine At.cond rfl rfl (fun q48 => ?_) (fun q48 => ?_)
  · first | (simp only [decide_eq_true_eq, decide_eq_false_iff_not, Bool.not_eq_true', Bool.not_eq_false', ne_eq, Decidable.not_not, Bool.not_eq_true, Bool.not_eq_false] at q48) | (dsimp only at q48) | skip
    refine At.drawE ((Bks.cons ho4.blk Bks.nil)) [] mixed rfl rfl ?_
    refine RegD.tpur (i := 0) rfl rfl rfl rfl (by kernel_rfl) (Pur.mv rfl) ?_
    refine RegD.tpur (i := 1) rfl rfl rfl rfl (by kernel_rfl) (Pur.nilc rfl) ?_
    refine RegD.tpur (i := 2) rfl rfl rfl rfl (by kernel_rfl) (Pur.fld _ fo127_2 rfl) ?_
    refine RegD.take (i := 3) rfl rfl rfl rfl (by kernel_rfl) (Bks.cons ho4.blk Bks.nil) (fun H hS => Lod.ld sc3 rfl hS.hd rfl) ?_
    refine RegD.tpur (i := 4) rfl rfl rfl rfl (by kernel_rfl) (Pur.asg rfl) ?_
    refine RegD.tpur (i := 5) rfl rfl rfl rfl (by kernel_rfl) (Pur.asg rfl) ?_
    refine RegD.done (by kernel_rfl) ?_
    refine At.ret rfl Try.func44 rfl ?_
    cases x with
    | ok u => exact absurd (hc4.2 rfl) q48
    | error c =>
      obtain rfl := hce c rfl
      exact ⟨rfl, hE.via hP.2.2 (fun g hg h => by omega)⟩
  first | (simp only [decide_eq_true_eq, decide_eq_false_iff_not, Bool.not_eq_true', Bool.not_eq_false', ne_eq, Decidable.not_not, Bool.not_eq_true, Bool.not_eq_false] at q48) | (dsimp only at q48) | skip
  obtain ⟨s, rfl⟩ := ok_of (hc4.1 q48)
  clear ho4
  obtain ⟨A', cap', Bs', hSl, hs', hMd⟩ := hP
  refine At.region rfl rfl ?_
  refine Reg.pur rfl rfl rfl rfl (Pur.mv rfl) ?_
  refine Reg.pur rfl rfl rfl rfl (Pur.nilc rfl) ?_
  refine Reg.pur rfl rfl rfl rfl (Pur.fld _ fo127_0 rfl) ?_
  refine Reg.lod rfl rfl rfl rfl (Lod.ld sc22 rfl hs'.blk rfl) ?_
  refine Reg.pur rfl rfl rfl rfl (Pur.asg rfl) ?_
  refine Reg.pur rfl rfl rfl rfl (Pur.asg rfl) ?_
  refine Reg.nil ?_
  refine At.ret rfl Try.func44 rfl ?_
  exact ⟨⟨A', cap', Bs', _, rfl, hSl⟩, hE.via hMd.1 (fun g hg h => by rw [ob_none] at h; omega)⟩
end Go.Proofs.Ytlfillhffpiffaa
