/-
  Nodes: the reference's shaped, Depth, Direct.
-/
import Derived.Test.YtjhkmebmbopfoaaDoorNodJ
namespace Go.Proofs.YtjhkmebmbopfoaaDoor
set_option linter.unusedSimpArgs false
set_option linter.unusedVariables false
set_option maxRecDepth 8000
set_option maxHeartbeats 1000000
open Go Go.Fx Go.Proofs
namespace FactsNodK
theorem ag35 : ag Tryd.prog 35 = some 10 := by kernel_rfl
theorem es23 : esz Tryd.prog 23 = some 10 := by kernel_rfl
theorem isl23 : isSl Tryd.prog 23 = true := by kernel_rfl
end FactsNodK
open FactsNodK

theorem shapedR_ok {A : Option Addr} {cap : Nat} (L : List Nd) (hL : Shs L) (named : Bool) {H : Heap} (hS : SlT H eN 10 (.slice A L.length cap) L) (hm : L.length ≤ 9223372036854775807) :
    Ret Tryd.prog 55 [.slice A L.length cap, .bool named] H (fun v H' => v = .bool (shpN named L) ∧ Ext H H') := by
  refine Ret.of_at (N := 41) Tryd.call55 Tryd.func55 rfl rfl rfl ?_
  have hE := Ext.refl H
  refine At.region rfl rfl ?_
  refine Reg.pur rfl rfl rfl rfl (Pur.asg rfl) ?_
  refine Reg.nil ?_
  refine At.region rfl rfl ?_
  refine Reg.pur rfl rfl rfl rfl (Pur.mv rfl) ?_
  refine Reg.pur rfl rfl rfl rfl (Pur.lenS isl23 rfl) ?_
  refine Reg.pur rfl rfl rfl rfl (Pur.lss rfl rfl) ?_
  refine Reg.pur rfl rfl rfl rfl (Pur.mv rfl) ?_
  refine Reg.case 9 rfl (fun q9 => ?_) (fun q9 => ?_)
  · first | (simp only [decide_eq_true_eq, decide_eq_false_iff_not, Bool.not_eq_true', Bool.not_eq_false', ne_eq, Decidable.not_not, Bool.not_eq_true, Bool.not_eq_false] at q9) | (dsimp only at q9) | skip
    refine Reg.skip rfl rfl rfl rfl rfl rfl rfl ?_
    refine Reg.skip rfl rfl rfl rfl rfl rfl rfl ?_
    refine Reg.skip rfl rfl rfl rfl rfl rfl rfl ?_
    refine Reg.pur rfl rfl rfl rfl (Pur.pickT rfl rfl) ?_
    refine Reg.nil ?_
    refine At.condT rfl rfl rfl ?_
    refine At.region rfl rfl ?_
    refine Reg.pur rfl rfl rfl rfl (Pur.asg rfl) ?_
    refine Reg.nil ?_
    refine At.ret rfl Tryd.func55 rfl ?_
    exact ⟨congrArg Value.bool (by unfold shpN; rw [decide_eq_false (p := 1 ≤ L.length ∧ L.length ≤ 512) (by omega)]; rfl), hE⟩
  first | (simp only [decide_eq_true_eq, decide_eq_false_iff_not, Bool.not_eq_true', Bool.not_eq_false', ne_eq, Decidable.not_not, Bool.not_eq_true, Bool.not_eq_false] at q9) | (dsimp only at q9) | skip
  refine Reg.gpur rfl rfl rfl rfl rfl rfl (Pur.mv rfl) ?_
  refine Reg.gpur rfl rfl rfl rfl rfl rfl (Pur.lenS isl23 rfl) ?_
  refine Reg.gpur rfl rfl rfl rfl rfl rfl (Pur.gtr rfl rfl) ?_
  refine Reg.pur rfl rfl rfl rfl (Pur.pickF rfl rfl) ?_
  refine Reg.nil ?_
  refine At.cond rfl rfl (fun q13 => ?_) (fun q13 => ?_)
  · first | (simp only [decide_eq_true_eq, decide_eq_false_iff_not, Bool.not_eq_true', Bool.not_eq_false', ne_eq, Decidable.not_not, Bool.not_eq_true, Bool.not_eq_false] at q13) | (dsimp only at q13) | skip
    refine At.region rfl rfl ?_
    refine Reg.pur rfl rfl rfl rfl (Pur.asg rfl) ?_
    refine Reg.nil ?_
    refine At.ret rfl Tryd.func55 rfl ?_
    exact ⟨congrArg Value.bool (by unfold shpN; rw [decide_eq_false (p := 1 ≤ L.length ∧ L.length ≤ 512) (by omega)]; rfl), hE⟩
  first | (simp only [decide_eq_true_eq, decide_eq_false_iff_not, Bool.not_eq_true', Bool.not_eq_false', ne_eq, Decidable.not_not, Bool.not_eq_true, Bool.not_eq_false] at q13) | (dsimp only at q13) | skip
  refine At.region rfl rfl ?_
  refine Reg.pur rfl rfl rfl rfl (Pur.asg rfl) ?_
  refine Reg.nil ?_
  refine At.loop (σ := Nat) (fun i => [(5, I i), (0, .slice A L.length cap), (1, .bool named)]) (fun i H' => i ≤ L.length ∧ Ext H H' ∧ (L.take i).all (mayN named) = true) (fun i => L.length - i) 0 rfl ⟨rfl, rfl, rfl, trivial⟩ ⟨by omega, Ext.refl _, rfl⟩ ?_
  clear hE
  rintro i H1 ⟨hi, hE, hgo⟩ ih
  have zE := hE.1
  refine At.region rfl rfl ?_
  refine Reg.pur rfl rfl rfl rfl (Pur.mv rfl) ?_
  refine Reg.pur rfl rfl rfl rfl (Pur.mv rfl) ?_
  refine Reg.pur rfl rfl rfl rfl (Pur.lenS isl23 rfl) ?_
  refine Reg.pur rfl rfl rfl rfl (Pur.lss rfl rfl) ?_
  refine Reg.nil ?_
  refine At.cond rfl rfl (fun q17 => ?_) (fun q17 => ?_)
  · first | (simp only [decide_eq_true_eq, decide_eq_false_iff_not, Bool.not_eq_true', Bool.not_eq_false', ne_eq, Decidable.not_not, Bool.not_eq_true, Bool.not_eq_false] at q17) | (dsimp only at q17) | skip
    have hlt : i < L.length := by omega
    have hmr := may_ref named L[i]
    obtain ⟨b, o, c, rfl, hB, hd, h9⟩ := sl_at (wideN L) (hS.ext hE) hlt
    refine At.region rfl rfl ?_
    refine Reg.pur rfl rfl rfl rfl (Pur.mv rfl) ?_
    refine Reg.pur rfl rfl rfl rfl (Pur.mv rfl) ?_
    refine Reg.pur rfl rfl rfl rfl (Pur.idx _ es23 rfl rfl (by omega) (by omega)) ?_
    refine Reg.lod rfl rfl rfl rfl (Lod.ldn ag35 rfl hB hd rfl) ?_
    refine Reg.pur rfl rfl rfl rfl (Pur.mv rfl) ?_
    refine Reg.op rfl rfl rfl rfl (Does.call rfl (fields_ok L[i] (hL _ (List.getElem_mem hlt)) named _)) ?_
    rintro _ H6_5 ⟨rfl, hE6_5⟩
    have z6_5 := hE6_5.lt
    replace hE := hE.ext hE6_5
    refine Reg.pur rfl rfl rfl rfl (Pur.not rfl) ?_
    refine Reg.pur rfl rfl rfl rfl (Pur.mv rfl) ?_
    refine Reg.case 27 rfl (fun q27 => ?_) (fun q27 => ?_)
    · first | (simp only [decide_eq_true_eq, decide_eq_false_iff_not, Bool.not_eq_true', Bool.not_eq_false', ne_eq, Decidable.not_not, Bool.not_eq_true, Bool.not_eq_false] at q27) | (dsimp only at q27) | skip
      refine Reg.skip rfl rfl rfl rfl rfl rfl rfl ?_
      refine Reg.skip rfl rfl rfl rfl rfl rfl rfl ?_
      refine Reg.skip rfl rfl rfl rfl rfl rfl rfl ?_
      refine Reg.skip rfl rfl rfl rfl rfl rfl rfl ?_
      refine Reg.skip rfl rfl rfl rfl rfl rfl rfl ?_
      refine Reg.skip rfl rfl rfl rfl rfl rfl rfl ?_
      refine Reg.pur rfl rfl rfl rfl (Pur.pickT rfl rfl) ?_
      refine Reg.nil ?_
      refine At.condT rfl rfl rfl ?_
      refine At.region rfl rfl ?_
      refine Reg.pur rfl rfl rfl rfl (Pur.asg rfl) ?_
      refine Reg.nil ?_
      refine At.ret rfl Tryd.func55 rfl ?_
      have hf : mayN named L[i] = false := by first | (rw [hmr, ‹fldR named L[i] = false›]; rfl) | (rw [hmr, ‹numsR L[i] = false›, Bool.and_false])
      exact ⟨congrArg Value.bool (by unfold shpN; rw [all_of_take hlt hf]; simp), hE⟩
    first | (simp only [decide_eq_true_eq, decide_eq_false_iff_not, Bool.not_eq_true', Bool.not_eq_false', ne_eq, Decidable.not_not, Bool.not_eq_true, Bool.not_eq_false] at q27) | (dsimp only at q27) | skip
    refine Reg.gpur rfl rfl rfl rfl rfl rfl (Pur.mv rfl) ?_
    refine Reg.gpur rfl rfl rfl rfl rfl rfl (Pur.mv rfl) ?_
    refine Reg.gpur rfl rfl rfl rfl rfl rfl (Pur.idx _ es23 rfl rfl (by omega) (by omega)) ?_
    refine Reg.glod rfl rfl rfl rfl rfl rfl (Lod.ldn ag35 rfl (hB.ext hE6_5) hd rfl) ?_
    refine Reg.gop rfl rfl rfl rfl rfl rfl (Does.call rfl (nums_ok L[i] _)) ?_
    rintro _ H6_12 ⟨rfl, hE6_12⟩
    have z6_12 := hE6_12.lt
    replace hE := hE.ext hE6_12
    refine Reg.gpur rfl rfl rfl rfl rfl rfl (Pur.not rfl) ?_
    refine Reg.pur rfl rfl rfl rfl (Pur.pickF rfl rfl) ?_
    refine Reg.nil ?_
    refine At.cond rfl rfl (fun q34 => ?_) (fun q34 => ?_)
    · first | (simp only [decide_eq_true_eq, decide_eq_false_iff_not, Bool.not_eq_true', Bool.not_eq_false', ne_eq, Decidable.not_not, Bool.not_eq_true, Bool.not_eq_false] at q34) | (dsimp only at q34) | skip
      refine At.region rfl rfl ?_
      refine Reg.pur rfl rfl rfl rfl (Pur.asg rfl) ?_
      refine Reg.nil ?_
      refine At.ret rfl Tryd.func55 rfl ?_
      have hf : mayN named L[i] = false := by first | (rw [hmr, ‹fldR named L[i] = false›]; rfl) | (rw [hmr, ‹numsR L[i] = false›, Bool.and_false])
      exact ⟨congrArg Value.bool (by unfold shpN; rw [all_of_take hlt hf]; simp), hE⟩
    first | (simp only [decide_eq_true_eq, decide_eq_false_iff_not, Bool.not_eq_true', Bool.not_eq_false', ne_eq, Decidable.not_not, Bool.not_eq_true, Bool.not_eq_false] at q34) | (dsimp only at q34) | skip
    refine At.region rfl rfl ?_
    refine Reg.pur rfl rfl rfl rfl (Pur.mv rfl) ?_
    refine Reg.pur rfl rfl rfl rfl (Pur.add64 rfl rfl (by omega)) ?_
    refine Reg.pur rfl rfl rfl rfl (Pur.asg rfl) ?_
    refine Reg.nil ?_
    refine At.meets rfl (ih (i + 1) _ ⟨by omega, hE, ?_⟩ (by omega)) ⟨rfl, rfl, rfl, trivial⟩
    rw [all_take hlt, hgo, hmr, ‹fldR named L[i] = true›, ‹numsR L[i] = true›]; rfl
  first | (simp only [decide_eq_true_eq, decide_eq_false_iff_not, Bool.not_eq_true', Bool.not_eq_false', ne_eq, Decidable.not_not, Bool.not_eq_true, Bool.not_eq_false] at q17) | (dsimp only at q17) | skip
  have hlen : 1 ≤ L.length ∧ L.length ≤ 512 := by omega
  refine At.region rfl rfl ?_
  refine Reg.pur rfl rfl rfl rfl (Pur.mv rfl) ?_
  refine Reg.pur rfl rfl rfl rfl (Pur.mv rfl) ?_
  refine Reg.pur rfl rfl rfl rfl (Pur.lenS isl23 rfl) ?_
  refine Reg.pur rfl rfl rfl rfl (Pur.sub64 rfl rfl (by omega)) ?_
  refine Reg.op rfl rfl rfl rfl (Does.call rfl (begR_ok L (hS.ext hE) hm L.length _ (by omega) (by omega) (by omega))) ?_
  rintro _ H ⟨rfl, rfl⟩
  refine Reg.pur rfl rfl rfl rfl (Pur.eql rfl rfl) ?_
  refine Reg.pur rfl rfl rfl rfl (Pur.asg rfl) ?_
  refine Reg.nil ?_
  refine At.ret rfl Tryd.func55 rfl ?_
  rw [List.take_of_length_le (by omega)] at hgo
  exact ⟨congrArg Value.bool (by unfold shpN; rw [hgo, decide_eq_true (p := 1 ≤ L.length ∧ L.length ≤ 512) hlen]; rfl), hE⟩
theorem anyShape_ok {A : Option Addr} {cap : Nat} (L : List Nd) (hL : Shs L) {H : Heap} (hS : SlT H eN 10 (.slice A L.length cap) L) (hm : L.length ≤ 9223372036854775807) :
    Ret Tryd.prog 39 [.slice A L.length cap] H (fun v H' => v = .bool (shpN true L || shpN false L) ∧ Ext H H') := by
  refine Ret.of_at (N := 9) Tryd.call39 Tryd.func39 rfl rfl rfl ?_
  have hE := Ext.refl H
  refine At.region rfl rfl ?_
  refine Reg.pur rfl rfl rfl rfl (Pur.asg rfl) ?_
  refine Reg.nil ?_
  refine At.region rfl rfl ?_
  refine Reg.pur rfl rfl rfl rfl (Pur.mv rfl) ?_
  refine Reg.op rfl rfl rfl rfl (Does.call rfl (shapedR_ok L hL true hS hm)) ?_
  rintro _ H1_1 ⟨rfl, hE1_1⟩
  have z1_1 := hE1_1.lt
  replace hE := hE.ext hE1_1
  refine Reg.pur rfl rfl rfl rfl (Pur.mv rfl) ?_
  refine Reg.case 5 rfl (fun q5 => ?_) (fun q5 => ?_)
  · first | (simp only [decide_eq_true_eq, decide_eq_false_iff_not, Bool.not_eq_true', Bool.not_eq_false', ne_eq, Decidable.not_not, Bool.not_eq_true, Bool.not_eq_false] at q5) | (dsimp only at q5) | skip
    refine Reg.skip rfl rfl rfl rfl rfl rfl rfl ?_
    refine Reg.skip rfl rfl rfl rfl rfl rfl rfl ?_
    refine Reg.pur rfl rfl rfl rfl (Pur.pickT rfl rfl) ?_
    refine Reg.pur rfl rfl rfl rfl (Pur.asg rfl) ?_
    refine Reg.nil ?_
    refine At.ret rfl Tryd.func39 rfl ?_
    refine ⟨congrArg Value.bool ?_, hE⟩
    simp [*]
  first | (simp only [decide_eq_true_eq, decide_eq_false_iff_not, Bool.not_eq_true', Bool.not_eq_false', ne_eq, Decidable.not_not, Bool.not_eq_true, Bool.not_eq_false] at q5) | (dsimp only at q5) | skip
  refine Reg.gpur rfl rfl rfl rfl rfl rfl (Pur.mv rfl) ?_
  refine Reg.gop rfl rfl rfl rfl rfl rfl (Does.call rfl (shapedR_ok L hL false (hS.ext hE) hm)) ?_
  rintro _ H1_4 ⟨rfl, hE1_4⟩
  have z1_4 := hE1_4.lt
  replace hE := hE.ext hE1_4
  refine Reg.pur rfl rfl rfl rfl (Pur.pickF rfl rfl) ?_
  refine Reg.pur rfl rfl rfl rfl (Pur.asg rfl) ?_
  refine Reg.nil ?_
  refine At.ret rfl Tryd.func39 rfl ?_
  refine ⟨congrArg Value.bool ?_, hE⟩
  simp [*]
theorem depthTR_ok {A : Option Addr} {cap : Nat} (L : List Nd) (hL : Shs L) (z : Int) {H : Heap} (hS : SlT H eN 10 (.slice A L.length cap) L) (hm : L.length ≤ 9223372036854775807) :
    Ret Tryd.prog 24 [.slice A L.length cap, I z] H (fun v H' => v = depV L z ∧ Ext H H') := by
  refine Ret.of_at (N := 22) Tryd.call24 Tryd.func24 rfl rfl rfl ?_
  have hE := Ext.refl H
  refine At.region rfl rfl ?_
  refine Reg.pur rfl rfl rfl rfl (Pur.asg rfl) ?_
  refine Reg.pur rfl rfl rfl rfl (Pur.asg rfl) ?_
  refine Reg.nil ?_
  refine At.region rfl rfl ?_
  refine Reg.pur rfl rfl rfl rfl (Pur.mv rfl) ?_
  refine Reg.op rfl rfl rfl rfl (Does.call rfl (anyShape_ok L hL hS hm)) ?_
  rintro _ H1_1 ⟨rfl, hE1_1⟩
  have z1_1 := hE1_1.lt
  replace hE := hE.ext hE1_1
  refine Reg.pur rfl rfl rfl rfl (Pur.not rfl) ?_
  refine Reg.pur rfl rfl rfl rfl (Pur.mv rfl) ?_
  refine Reg.case 9 rfl (fun q9 => ?_) (fun q9 => ?_)
  · first | (simp only [decide_eq_true_eq, decide_eq_false_iff_not, Bool.not_eq_true', Bool.not_eq_false', ne_eq, Decidable.not_not, Bool.not_eq_true, Bool.not_eq_false] at q9) | (dsimp only at q9) | skip
    refine Reg.skip rfl rfl rfl rfl rfl rfl rfl ?_
    refine Reg.skip rfl rfl rfl rfl rfl rfl rfl ?_
    refine Reg.pur rfl rfl rfl rfl (Pur.pickT rfl rfl) ?_
    refine Reg.pur rfl rfl rfl rfl (Pur.mv rfl) ?_
    refine Reg.skip rfl rfl rfl rfl rfl rfl rfl ?_
    refine Reg.skip rfl rfl rfl rfl rfl rfl rfl ?_
    refine Reg.skip rfl rfl rfl rfl rfl rfl rfl ?_
    refine Reg.skip rfl rfl rfl rfl rfl rfl rfl ?_
    refine Reg.pur rfl rfl rfl rfl (Pur.pickT rfl rfl) ?_
    refine Reg.nil ?_
    refine At.condT rfl rfl rfl ?_
    refine At.region rfl rfl ?_
    refine Reg.pur rfl rfl rfl rfl (Pur.asg rfl) ?_
    refine Reg.pur rfl rfl rfl rfl (Pur.asg rfl) ?_
    refine Reg.nil ?_
    refine At.ret rfl Tryd.func24 rfl ?_
    have hth : thrN L z = false := by first | (rw [thrN, ‹(shpN true L || shpN false L) = false›]; rfl) | (rw [thrN, decide_eq_false (by omega), Bool.and_false])
    exact ⟨by unfold depV; rw [if_neg (nt hth)], hE⟩
  first | (simp only [decide_eq_true_eq, decide_eq_false_iff_not, Bool.not_eq_true', Bool.not_eq_false', ne_eq, Decidable.not_not, Bool.not_eq_true, Bool.not_eq_false] at q9) | (dsimp only at q9) | skip
  refine Reg.gpur rfl rfl rfl rfl rfl rfl (Pur.mv rfl) ?_
  refine Reg.gpur rfl rfl rfl rfl rfl rfl (Pur.lss rfl rfl) ?_
  refine Reg.pur rfl rfl rfl rfl (Pur.pickF rfl rfl) ?_
  refine Reg.pur rfl rfl rfl rfl (Pur.mv rfl) ?_
  refine Reg.case 13 rfl (fun q13 => ?_) (fun q13 => ?_)
  · first | (simp only [decide_eq_true_eq, decide_eq_false_iff_not, Bool.not_eq_true', Bool.not_eq_false', ne_eq, Decidable.not_not, Bool.not_eq_true, Bool.not_eq_false] at q13) | (dsimp only at q13) | skip
    refine Reg.skip rfl rfl rfl rfl rfl rfl rfl ?_
    refine Reg.skip rfl rfl rfl rfl rfl rfl rfl ?_
    refine Reg.skip rfl rfl rfl rfl rfl rfl rfl ?_
    refine Reg.skip rfl rfl rfl rfl rfl rfl rfl ?_
    refine Reg.pur rfl rfl rfl rfl (Pur.pickT rfl rfl) ?_
    refine Reg.nil ?_
    refine At.condT rfl rfl rfl ?_
    refine At.region rfl rfl ?_
    refine Reg.pur rfl rfl rfl rfl (Pur.asg rfl) ?_
    refine Reg.pur rfl rfl rfl rfl (Pur.asg rfl) ?_
    refine Reg.nil ?_
    refine At.ret rfl Tryd.func24 rfl ?_
    have hth : thrN L z = false := by first | (rw [thrN, ‹(shpN true L || shpN false L) = false›]; rfl) | (rw [thrN, decide_eq_false (by omega), Bool.and_false])
    exact ⟨by unfold depV; rw [if_neg (nt hth)], hE⟩
  first | (simp only [decide_eq_true_eq, decide_eq_false_iff_not, Bool.not_eq_true', Bool.not_eq_false', ne_eq, Decidable.not_not, Bool.not_eq_true, Bool.not_eq_false] at q13) | (dsimp only at q13) | skip
  refine Reg.gpur rfl rfl rfl rfl rfl rfl (Pur.mv rfl) ?_
  refine Reg.gpur rfl rfl rfl rfl rfl rfl (Pur.mv rfl) ?_
  refine Reg.gpur rfl rfl rfl rfl rfl rfl (Pur.lenS isl23 rfl) ?_
  refine Reg.gpur rfl rfl rfl rfl rfl rfl (Pur.geq rfl rfl) ?_
  refine Reg.pur rfl rfl rfl rfl (Pur.pickF rfl rfl) ?_
  refine Reg.nil ?_
  refine At.cond rfl rfl (fun q18 => ?_) (fun q18 => ?_)
  · first | (simp only [decide_eq_true_eq, decide_eq_false_iff_not, Bool.not_eq_true', Bool.not_eq_false', ne_eq, Decidable.not_not, Bool.not_eq_true, Bool.not_eq_false] at q18) | (dsimp only at q18) | skip
    refine At.region rfl rfl ?_
    refine Reg.pur rfl rfl rfl rfl (Pur.asg rfl) ?_
    refine Reg.pur rfl rfl rfl rfl (Pur.asg rfl) ?_
    refine Reg.nil ?_
    refine At.ret rfl Tryd.func24 rfl ?_
    have hth : thrN L z = false := by first | (rw [thrN, ‹(shpN true L || shpN false L) = false›]; rfl) | (rw [thrN, decide_eq_false (by omega), Bool.and_false])
    exact ⟨by unfold depV; rw [if_neg (nt hth)], hE⟩
  first | (simp only [decide_eq_true_eq, decide_eq_false_iff_not, Bool.not_eq_true', Bool.not_eq_false', ne_eq, Decidable.not_not, Bool.not_eq_true, Bool.not_eq_false] at q18) | (dsimp only at q18) | skip
  have hth : thrN L z = true := by rw [thrN, ‹(shpN true L || shpN false L) = true›, decide_eq_true (by omega)]; rfl
  obtain ⟨hT, hz0, hz1⟩ := tn_of hth
  have hn2 := hT.n2
  refine At.region rfl rfl ?_
  refine Reg.pur rfl rfl rfl rfl (Pur.mv rfl) ?_
  refine Reg.pur rfl rfl rfl rfl (Pur.mv rfl) ?_
  refine Reg.op rfl rfl rfl rfl (Does.call rfl (depR_ok L hT 1000 z _ (hS.ext hE) hz0 hz1 (by omega) (by decide))) ?_
  rintro _ H3_2 ⟨rfl, hE3_2⟩
  have z3_2 := hE3_2.lt
  replace hE := hE.ext hE3_2
  refine Reg.pur rfl rfl rfl rfl (Pur.asg rfl) ?_
  refine Reg.pur rfl rfl rfl rfl (Pur.asg rfl) ?_
  refine Reg.nil ?_
  refine At.ret rfl Tryd.func24 rfl ?_
  exact ⟨by unfold depV; rw [if_pos hth], hE⟩
theorem directR_ok {A : Option Addr} {cap : Nat} (L : List Nd) (hL : Shs L) (z : Int) {H : Heap} (hS : SlT H eN 10 (.slice A L.length cap) L) (hm : L.length ≤ 9223372036854775807) :
    Ret Tryd.prog 12 [.slice A L.length cap, I z] H (fun v H' => v = drV L z ∧ Ext H H') := by
  cases hth : thrN L z with
  | false =>
    refine Ret.of_at (N := 19) Tryd.call12 Tryd.func12 rfl rfl rfl ?_
    have hE := Ext.refl H
    refine At.region rfl rfl ?_
    refine Reg.pur rfl rfl rfl rfl (Pur.asg rfl) ?_
    refine Reg.pur rfl rfl rfl rfl (Pur.asg rfl) ?_
    refine Reg.nil ?_
    refine At.region rfl rfl ?_
    refine Reg.pur rfl rfl rfl rfl (Pur.mv rfl) ?_
    refine Reg.pur rfl rfl rfl rfl (Pur.mv rfl) ?_
    refine Reg.op rfl rfl rfl rfl (Does.call rfl (depthTR_ok L hL z hS hm)) ?_
    rintro _ H1_2 ⟨rfl, hE1_2⟩
    have z1_2 := hE1_2.lt
    replace hE := hE.ext hE1_2
    simp only [depV, hth]
    refine Reg.pur rfl rfl rfl rfl (Pur.mv rfl) ?_
    refine Reg.pur rfl rfl rfl rfl (Pur.ext rfl rfl) ?_
    refine Reg.pur rfl rfl rfl rfl (Pur.ext rfl rfl) ?_
    refine Reg.pur rfl rfl rfl rfl (Pur.asg rfl) ?_
    refine Reg.pur rfl rfl rfl rfl (Pur.asg rfl) ?_
    refine Reg.nil ?_
    refine At.region rfl rfl ?_
    refine Reg.pur rfl rfl rfl rfl (Pur.mv rfl) ?_
    refine Reg.pur rfl rfl rfl rfl (Pur.neq rfl rfl) ?_
    refine Reg.nil ?_
    refine At.condT rfl rfl (by decide) ?_
    refine At.region rfl rfl ?_
    refine Reg.pur rfl rfl rfl rfl (Pur.asg rfl) ?_
    refine Reg.pur rfl rfl rfl rfl (Pur.asg rfl) ?_
    refine Reg.nil ?_
    refine At.ret rfl Tryd.func12 rfl ?_
    exact ⟨by unfold drV; rw [hth]; rfl, hE⟩
  | true =>
    obtain ⟨hT, hz0, hz1⟩ := tn_of hth
    have hn2 := hT.n2
    refine Ret.of_at (N := 19) Tryd.call12 Tryd.func12 rfl rfl rfl ?_
    have hE := Ext.refl H
    refine At.region rfl rfl ?_
    refine Reg.pur rfl rfl rfl rfl (Pur.asg rfl) ?_
    refine Reg.pur rfl rfl rfl rfl (Pur.asg rfl) ?_
    refine Reg.nil ?_
    refine At.region rfl rfl ?_
    refine Reg.pur rfl rfl rfl rfl (Pur.mv rfl) ?_
    refine Reg.pur rfl rfl rfl rfl (Pur.mv rfl) ?_
    refine Reg.op rfl rfl rfl rfl (Does.call rfl (depthTR_ok L hL z hS hm)) ?_
    rintro _ H1_2 ⟨rfl, hE1_2⟩
    have z1_2 := hE1_2.lt
    replace hE := hE.ext hE1_2
    simp only [depV, hth]
    refine Reg.pur rfl rfl rfl rfl (Pur.mv rfl) ?_
    refine Reg.pur rfl rfl rfl rfl (Pur.ext rfl rfl) ?_
    refine Reg.pur rfl rfl rfl rfl (Pur.ext rfl rfl) ?_
    refine Reg.pur rfl rfl rfl rfl (Pur.asg rfl) ?_
    refine Reg.pur rfl rfl rfl rfl (Pur.asg rfl) ?_
    refine Reg.nil ?_
    refine At.region rfl rfl ?_
    refine Reg.pur rfl rfl rfl rfl (Pur.mv rfl) ?_
    refine Reg.pur rfl rfl rfl rfl (Pur.neq rfl rfl) ?_
    refine Reg.nil ?_
    refine At.condF rfl rfl (by decide) ?_
    refine At.region rfl rfl ?_
    refine Reg.pur rfl rfl rfl rfl (Pur.mv rfl) ?_
    refine Reg.pur rfl rfl rfl rfl (Pur.mv rfl) ?_
    refine Reg.op rfl rfl rfl rfl (Does.call rfl (dirR_ok L hT 1000 z _ (hS.ext hE) hz0 hz1 (by omega))) ?_
    rintro _ H4_2 ⟨rfl, hE4_2⟩
    have z4_2 := hE4_2.lt
    replace hE := hE.ext hE4_2
    refine Reg.pur rfl rfl rfl rfl (Pur.asg rfl) ?_
    refine Reg.pur rfl rfl rfl rfl (Pur.asg rfl) ?_
    refine Reg.nil ?_
    refine At.ret rfl Tryd.func12 rfl ?_
    exact ⟨by unfold drV; rw [hth]; rfl, hE⟩
end Go.Proofs.YtjhkmebmbopfoaaDoor
