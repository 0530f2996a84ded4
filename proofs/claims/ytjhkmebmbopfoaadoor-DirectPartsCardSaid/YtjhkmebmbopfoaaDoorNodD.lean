/-
  Nodes: tree.Shaped, tree.there, tree.Depth.
-/
import Derived.Test.YtjhkmebmbopfoaaDoorNodC
namespace Go.Proofs.YtjhkmebmbopfoaaDoor
set_option linter.unusedSimpArgs false
set_option linter.unusedVariables false
set_option maxRecDepth 8000
set_option maxHeartbeats 1000000
open Go Go.Fx Go.Proofs
namespace FactsNodD
theorem ag35 : ag Tryd.prog 35 = some 10 := by kernel_rfl
theorem es23 : esz Tryd.prog 23 = some 10 := by kernel_rfl
theorem es79 : esz Tryd.prog 79 = some 1 := by kernel_rfl
theorem isl23 : isSl Tryd.prog 23 = true := by kernel_rfl
theorem isl79 : isSl Tryd.prog 79 = true := by kernel_rfl
theorem sc3 : sc Tryd.prog 3 = true := by kernel_rfl
theorem sc82 : sc Tryd.prog 82 = true := by kernel_rfl
theorem zc35 : zc Tryd.prog 35 = some [.int .i64 0, .int .i64 0, .int .i64 0, .int .i64 0, .int .i64 0, .string ⟨#[]⟩, .string ⟨#[]⟩, .string ⟨#[]⟩, .string ⟨#[]⟩, .int .i64 0] := by kernel_rfl
end FactsNodD
open FactsNodD

/-- do nodes make a tree? -/
def shpN (named : Bool) (L : List Nd) : Bool := decide (1 ≤ L.length ∧ L.length ≤ 512) && L.all (mayN named) && decide (beN L L.length ((L.length : Int) - 1) = 0)
abbrev Shs (L : List Nd) : Prop := ∀ x ∈ L, Shr x
theorem shaped_ok {A : Option Addr} {cap : Nat} (L : List Nd) (hL : Shs L) (named : Bool) {H : Heap} (hS : SlT H eN 10 (.slice A L.length cap) L) (hm : L.length ≤ 9223372036854775807) :
    Ret Tryd.prog 50 [.slice A L.length cap, .bool named] H (fun v H' => v = .bool (shpN named L) ∧ Ext H H') := by
  refine Ret.of_at (N := 32) Tryd.call50 Tryd.func50 rfl rfl rfl ?_
  have hE := Ext.refl H
  refine At.region rfl rfl ?_
  refine Reg.pur rfl rfl rfl rfl (Pur.asg rfl) ?_
  refine Reg.nil ?_
  refine At.region rfl rfl ?_
  refine Reg.pur rfl rfl rfl rfl (Pur.mv rfl) ?_
  refine Reg.pur rfl rfl rfl rfl (Pur.lenS isl23 rfl) ?_
  refine Reg.pur rfl rfl rfl rfl (Pur.lss rfl rfl) ?_
  refine Reg.pur rfl rfl rfl rfl (Pur.mv rfl) ?_
  refine Reg.case 10 rfl (fun q10 => ?_) (fun q10 => ?_)
  · first | (simp only [decide_eq_true_eq, decide_eq_false_iff_not, Bool.not_eq_true', Bool.not_eq_false', ne_eq, Decidable.not_not, Bool.not_eq_true, Bool.not_eq_false] at q10) | (dsimp only at q10) | skip
    refine Reg.skip rfl rfl rfl rfl rfl rfl rfl ?_
    refine Reg.skip rfl rfl rfl rfl rfl rfl rfl ?_
    refine Reg.skip rfl rfl rfl rfl rfl rfl rfl ?_
    refine Reg.pur rfl rfl rfl rfl (Pur.pickT rfl rfl) ?_
    refine Reg.nil ?_
    refine At.condT rfl rfl rfl ?_
    refine At.region rfl rfl ?_
    refine Reg.pur rfl rfl rfl rfl (Pur.asg rfl) ?_
    refine Reg.nil ?_
    refine At.ret rfl Tryd.func50 rfl ?_
    exact ⟨congrArg Value.bool (by unfold shpN; rw [decide_eq_false (p := 1 ≤ L.length ∧ L.length ≤ 512) (by omega)]; rfl), hE⟩
  first | (simp only [decide_eq_true_eq, decide_eq_false_iff_not, Bool.not_eq_true', Bool.not_eq_false', ne_eq, Decidable.not_not, Bool.not_eq_true, Bool.not_eq_false] at q10) | (dsimp only at q10) | skip
  refine Reg.gpur rfl rfl rfl rfl rfl rfl (Pur.mv rfl) ?_
  refine Reg.gpur rfl rfl rfl rfl rfl rfl (Pur.lenS isl23 rfl) ?_
  refine Reg.gpur rfl rfl rfl rfl rfl rfl (Pur.gtr rfl rfl) ?_
  refine Reg.pur rfl rfl rfl rfl (Pur.pickF rfl rfl) ?_
  refine Reg.nil ?_
  refine At.cond rfl rfl (fun q14 => ?_) (fun q14 => ?_)
  · first | (simp only [decide_eq_true_eq, decide_eq_false_iff_not, Bool.not_eq_true', Bool.not_eq_false', ne_eq, Decidable.not_not, Bool.not_eq_true, Bool.not_eq_false] at q14) | (dsimp only at q14) | skip
    refine At.region rfl rfl ?_
    refine Reg.pur rfl rfl rfl rfl (Pur.asg rfl) ?_
    refine Reg.nil ?_
    refine At.ret rfl Tryd.func50 rfl ?_
    exact ⟨congrArg Value.bool (by unfold shpN; rw [decide_eq_false (p := 1 ≤ L.length ∧ L.length ≤ 512) (by omega)]; rfl), hE⟩
  first | (simp only [decide_eq_true_eq, decide_eq_false_iff_not, Bool.not_eq_true', Bool.not_eq_false', ne_eq, Decidable.not_not, Bool.not_eq_true, Bool.not_eq_false] at q14) | (dsimp only at q14) | skip
  refine At.region rfl rfl ?_
  refine Reg.pur rfl rfl rfl rfl (Pur.mv rfl) ?_
  refine Reg.pur rfl rfl rfl rfl (Pur.lenS isl23 rfl) ?_
  refine Reg.pur rfl rfl rfl rfl (Pur.mv rfl) ?_
  refine Reg.nil ?_
  refine At.loop (σ := Nat) (fun i => [(17, I i), (15, .slice A L.length cap), (16, I L.length), (0, .slice A L.length cap), (1, .bool named)]) (fun i H' => i ≤ L.length ∧ Ext H H' ∧ (L.take i).all (mayN named) = true) (fun i => L.length - i) 0 rfl ⟨rfl, rfl, rfl, rfl, rfl, trivial⟩ ⟨by omega, Ext.refl _, rfl⟩ ?_
  clear hE
  rintro i H1 ⟨hi, hE, hgo⟩ ih
  have zE := hE.1
  refine At.region rfl rfl ?_
  refine Reg.pur rfl rfl rfl rfl (Pur.lss rfl rfl) ?_
  refine Reg.nil ?_
  refine At.cond rfl rfl (fun q18 => ?_) (fun q18 => ?_)
  · first | (simp only [decide_eq_true_eq, decide_eq_false_iff_not, Bool.not_eq_true', Bool.not_eq_false', ne_eq, Decidable.not_not, Bool.not_eq_true, Bool.not_eq_false] at q18) | (dsimp only at q18) | skip
    have hlt : i < L.length := by omega
    obtain ⟨b, o, c, rfl, hB, hd, h9⟩ := sl_at (wideN L) (hS.ext hE) hlt
    refine At.region rfl rfl ?_
    refine Reg.pur rfl rfl rfl rfl (Pur.idx _ es23 rfl rfl (by omega) (by omega)) ?_
    refine Reg.lod rfl rfl rfl rfl (Lod.ldn ag35 rfl hB hd rfl) ?_
    refine Reg.op rfl rfl rfl rfl (Does.alloc zc35) ?_
    rintro _ H5_2 ⟨rfl, hn5_2⟩
    have z5_2 := hn5_2.size
    replace hE := hE.ext hn5_2.ext
    have o5_2 := hn5_2.own
    refine Reg.op0 rfl rfl rfl (Does.stn ag35 rfl rfl (by first | rfl | exact ones_Is _) (by first | rfl | (simp [*]; done)) o5_2 (by first | decide | (simp; done) | (simp; omega) | omega)) ?_
    rintro _ H5_3 hu5_3
    have z5_3 := hu5_3.size
    replace hE := hE.upw hu5_3 (by omega)
    replace o5_2 := hu5_3.own
    first | rw [over (by first | rfl | (simp; done))] at o5_2 | skip
    refine Reg.nil ?_
    refine At.region rfl rfl ?_
    refine Reg.lod rfl rfl rfl rfl (Lod.ldn ag35 rfl o5_2.blk (whole rfl) rfl) ?_
    refine Reg.pur rfl rfl rfl rfl (Pur.mv rfl) ?_
    refine Reg.op rfl rfl rfl rfl (Does.call rfl (nmay_ok L[i] (hL _ (List.getElem_mem hlt)) named _)) ?_
    rintro _ H6_2 ⟨rfl, hE6_2⟩
    have z6_2 := hE6_2.lt
    replace hE := hE.ext hE6_2
    replace o5_2 := o5_2.ext hE6_2
    refine Reg.pur rfl rfl rfl rfl (Pur.not rfl) ?_
    refine Reg.nil ?_
    refine At.cond rfl rfl (fun q24 => ?_) (fun q24 => ?_)
    · first | (simp only [decide_eq_true_eq, decide_eq_false_iff_not, Bool.not_eq_true', Bool.not_eq_false', ne_eq, Decidable.not_not, Bool.not_eq_true, Bool.not_eq_false] at q24) | (dsimp only at q24) | skip
      refine At.region rfl rfl ?_
      refine Reg.pur rfl rfl rfl rfl (Pur.asg rfl) ?_
      refine Reg.nil ?_
      refine At.ret rfl Tryd.func50 rfl ?_
      exact ⟨congrArg Value.bool (by unfold shpN; rw [all_of_take hlt ‹mayN named L[i] = false›]; simp), hE⟩
    first | (simp only [decide_eq_true_eq, decide_eq_false_iff_not, Bool.not_eq_true', Bool.not_eq_false', ne_eq, Decidable.not_not, Bool.not_eq_true, Bool.not_eq_false] at q24) | (dsimp only at q24) | skip
    refine At.region rfl rfl ?_
    refine Reg.pur rfl rfl rfl rfl (Pur.add64 rfl rfl (by omega)) ?_
    refine Reg.pur rfl rfl rfl rfl (Pur.mv rfl) ?_
    refine Reg.nil ?_
    refine At.meets rfl (ih (i + 1) _ ⟨by omega, hE, ?_⟩ (by omega)) ⟨rfl, rfl, rfl, rfl, rfl, trivial⟩
    rw [all_take hlt, hgo, ‹mayN named L[i] = true›]; rfl
  first | (simp only [decide_eq_true_eq, decide_eq_false_iff_not, Bool.not_eq_true', Bool.not_eq_false', ne_eq, Decidable.not_not, Bool.not_eq_true, Bool.not_eq_false] at q18) | (dsimp only at q18) | skip
  have hlen : 1 ≤ L.length ∧ L.length ≤ 512 := by omega
  refine At.region rfl rfl ?_
  refine Reg.pur rfl rfl rfl rfl (Pur.mv rfl) ?_
  refine Reg.pur rfl rfl rfl rfl (Pur.mv rfl) ?_
  refine Reg.pur rfl rfl rfl rfl (Pur.lenS isl23 rfl) ?_
  refine Reg.pur rfl rfl rfl rfl (Pur.sub64 rfl rfl (by omega)) ?_
  refine Reg.op rfl rfl rfl rfl (Does.call rfl (begN_ok L L.length _ _ (hS.ext hE) (by omega) (by omega) (by omega) hm)) ?_
  rintro _ H9_4 ⟨rfl, hE9_4⟩
  have z9_4 := hE9_4.lt
  replace hE := hE.ext hE9_4
  refine Reg.pur rfl rfl rfl rfl (Pur.eql rfl rfl) ?_
  refine Reg.pur rfl rfl rfl rfl (Pur.asg rfl) ?_
  refine Reg.nil ?_
  refine At.ret rfl Tryd.func50 rfl ?_
  rw [List.take_of_length_le (by omega)] at hgo
  exact ⟨congrArg Value.bool (by unfold shpN; rw [hgo, decide_eq_true (p := 1 ≤ L.length ∧ L.length ≤ 512) hlen]; rfl), hE⟩
/-- is there such a node in a tree? -/
def thrN (L : List Nd) (z : Int) : Bool := (shpN true L || shpN false L) && decide (0 ≤ z ∧ z < L.length)
theorem there_ok {A : Option Addr} {cap : Nat} (L : List Nd) (hL : Shs L) (z : Int) {H : Heap} (hS : SlT H eN 10 (.slice A L.length cap) L) (hm : L.length ≤ 9223372036854775807) :
    Ret Tryd.prog 36 [.slice A L.length cap, I z] H (fun v H' => v = .bool (thrN L z) ∧ Ext H H') := by
  refine Ret.of_at (N := 21) Tryd.call36 Tryd.func36 rfl rfl rfl ?_
  have hE := Ext.refl H
  refine At.region rfl rfl ?_
  refine Reg.pur rfl rfl rfl rfl (Pur.asg rfl) ?_
  refine Reg.nil ?_
  refine At.region rfl rfl ?_
  refine Reg.pur rfl rfl rfl rfl (Pur.mv rfl) ?_
  refine Reg.op rfl rfl rfl rfl (Does.call rfl (shaped_ok L hL true hS hm)) ?_
  rintro _ H1_1 ⟨rfl, hE1_1⟩
  have z1_1 := hE1_1.lt
  replace hE := hE.ext hE1_1
  refine Reg.pur rfl rfl rfl rfl (Pur.mv rfl) ?_
  refine Reg.case 7 rfl (fun q7 => ?_) (fun q7 => ?_)
  · first | (simp only [decide_eq_true_eq, decide_eq_false_iff_not, Bool.not_eq_true', Bool.not_eq_false', ne_eq, Decidable.not_not, Bool.not_eq_true, Bool.not_eq_false] at q7) | (dsimp only at q7) | skip
    refine Reg.skip rfl rfl rfl rfl rfl rfl rfl ?_
    refine Reg.skip rfl rfl rfl rfl rfl rfl rfl ?_
    refine Reg.pur rfl rfl rfl rfl (Pur.pickT rfl rfl) ?_
    refine Reg.pur rfl rfl rfl rfl (Pur.mv rfl) ?_
    refine Reg.gpur rfl rfl rfl rfl rfl rfl (Pur.mv rfl) ?_
    refine Reg.gpur rfl rfl rfl rfl rfl rfl (Pur.geq rfl rfl) ?_
    refine Reg.pur rfl rfl rfl rfl (Pur.pickT rfl rfl) ?_
    refine Reg.pur rfl rfl rfl rfl (Pur.mv rfl) ?_
    refine Reg.case 15 rfl (fun q15 => ?_) (fun q15 => ?_)
    · first | (simp only [decide_eq_true_eq, decide_eq_false_iff_not, Bool.not_eq_true', Bool.not_eq_false', ne_eq, Decidable.not_not, Bool.not_eq_true, Bool.not_eq_false] at q15) | (dsimp only at q15) | skip
      refine Reg.gpur rfl rfl rfl rfl rfl rfl (Pur.mv rfl) ?_
      refine Reg.gpur rfl rfl rfl rfl rfl rfl (Pur.mv rfl) ?_
      refine Reg.gpur rfl rfl rfl rfl rfl rfl (Pur.lenS isl23 rfl) ?_
      refine Reg.gpur rfl rfl rfl rfl rfl rfl (Pur.lss rfl rfl) ?_
      refine Reg.pur rfl rfl rfl rfl (Pur.pickT rfl rfl) ?_
      refine Reg.pur rfl rfl rfl rfl (Pur.asg rfl) ?_
      refine Reg.nil ?_
      refine At.ret rfl Tryd.func36 rfl ?_
      refine ⟨congrArg Value.bool ?_, hE⟩
      unfold thrN
      first | (rw [‹shpN true L = false›, ‹shpN false L = false›]; rfl) | (rw [decide_eq_false (p := 0 ≤ z ∧ z < L.length) (by omega), Bool.and_false]; done) | (rw [‹shpN true L = true›, Bool.true_or, Bool.true_and]; exact decide_eq_decide.2 (by omega)) | (rw [‹shpN false L = true›, Bool.or_true, Bool.true_and]; exact decide_eq_decide.2 (by omega))
    first | (simp only [decide_eq_true_eq, decide_eq_false_iff_not, Bool.not_eq_true', Bool.not_eq_false', ne_eq, Decidable.not_not, Bool.not_eq_true, Bool.not_eq_false] at q15) | (dsimp only at q15) | skip
    refine Reg.skip rfl rfl rfl rfl rfl rfl rfl ?_
    refine Reg.skip rfl rfl rfl rfl rfl rfl rfl ?_
    refine Reg.skip rfl rfl rfl rfl rfl rfl rfl ?_
    refine Reg.skip rfl rfl rfl rfl rfl rfl rfl ?_
    refine Reg.pur rfl rfl rfl rfl (Pur.pickF rfl rfl) ?_
    refine Reg.pur rfl rfl rfl rfl (Pur.asg rfl) ?_
    refine Reg.nil ?_
    refine At.ret rfl Tryd.func36 rfl ?_
    refine ⟨congrArg Value.bool ?_, hE⟩
    unfold thrN
    first | (rw [‹shpN true L = false›, ‹shpN false L = false›]; rfl) | (rw [decide_eq_false (p := 0 ≤ z ∧ z < L.length) (by omega), Bool.and_false]; done) | (rw [‹shpN true L = true›, Bool.true_or, Bool.true_and]; exact decide_eq_decide.2 (by omega)) | (rw [‹shpN false L = true›, Bool.or_true, Bool.true_and]; exact decide_eq_decide.2 (by omega))
  first | (simp only [decide_eq_true_eq, decide_eq_false_iff_not, Bool.not_eq_true', Bool.not_eq_false', ne_eq, Decidable.not_not, Bool.not_eq_true, Bool.not_eq_false] at q7) | (dsimp only at q7) | skip
  refine Reg.gpur rfl rfl rfl rfl rfl rfl (Pur.mv rfl) ?_
  refine Reg.gop rfl rfl rfl rfl rfl rfl (Does.call rfl (shaped_ok L hL false (hS.ext hE) hm)) ?_
  rintro _ H1_4 ⟨rfl, hE1_4⟩
  have z1_4 := hE1_4.lt
  replace hE := hE.ext hE1_4
  refine Reg.pur rfl rfl rfl rfl (Pur.pickF rfl rfl) ?_
  refine Reg.pur rfl rfl rfl rfl (Pur.mv rfl) ?_
  refine Reg.case 11 rfl (fun q11 => ?_) (fun q11 => ?_)
  · first | (simp only [decide_eq_true_eq, decide_eq_false_iff_not, Bool.not_eq_true', Bool.not_eq_false', ne_eq, Decidable.not_not, Bool.not_eq_true, Bool.not_eq_false] at q11) | (dsimp only at q11) | skip
    refine Reg.gpur rfl rfl rfl rfl rfl rfl (Pur.mv rfl) ?_
    refine Reg.gpur rfl rfl rfl rfl rfl rfl (Pur.geq rfl rfl) ?_
    refine Reg.pur rfl rfl rfl rfl (Pur.pickT rfl rfl) ?_
    refine Reg.pur rfl rfl rfl rfl (Pur.mv rfl) ?_
    refine Reg.case 15 rfl (fun q15 => ?_) (fun q15 => ?_)
    · first | (simp only [decide_eq_true_eq, decide_eq_false_iff_not, Bool.not_eq_true', Bool.not_eq_false', ne_eq, Decidable.not_not, Bool.not_eq_true, Bool.not_eq_false] at q15) | (dsimp only at q15) | skip
      refine Reg.gpur rfl rfl rfl rfl rfl rfl (Pur.mv rfl) ?_
      refine Reg.gpur rfl rfl rfl rfl rfl rfl (Pur.mv rfl) ?_
      refine Reg.gpur rfl rfl rfl rfl rfl rfl (Pur.lenS isl23 rfl) ?_
      refine Reg.gpur rfl rfl rfl rfl rfl rfl (Pur.lss rfl rfl) ?_
      refine Reg.pur rfl rfl rfl rfl (Pur.pickT rfl rfl) ?_
      refine Reg.pur rfl rfl rfl rfl (Pur.asg rfl) ?_
      refine Reg.nil ?_
      refine At.ret rfl Tryd.func36 rfl ?_
      refine ⟨congrArg Value.bool ?_, hE⟩
      unfold thrN
      first | (rw [‹shpN true L = false›, ‹shpN false L = false›]; rfl) | (rw [decide_eq_false (p := 0 ≤ z ∧ z < L.length) (by omega), Bool.and_false]; done) | (rw [‹shpN true L = true›, Bool.true_or, Bool.true_and]; exact decide_eq_decide.2 (by omega)) | (rw [‹shpN false L = true›, Bool.or_true, Bool.true_and]; exact decide_eq_decide.2 (by omega))
    first | (simp only [decide_eq_true_eq, decide_eq_false_iff_not, Bool.not_eq_true', Bool.not_eq_false', ne_eq, Decidable.not_not, Bool.not_eq_true, Bool.not_eq_false] at q15) | (dsimp only at q15) | skip
    refine Reg.skip rfl rfl rfl rfl rfl rfl rfl ?_
    refine Reg.skip rfl rfl rfl rfl rfl rfl rfl ?_
    refine Reg.skip rfl rfl rfl rfl rfl rfl rfl ?_
    refine Reg.skip rfl rfl rfl rfl rfl rfl rfl ?_
    refine Reg.pur rfl rfl rfl rfl (Pur.pickF rfl rfl) ?_
    refine Reg.pur rfl rfl rfl rfl (Pur.asg rfl) ?_
    refine Reg.nil ?_
    refine At.ret rfl Tryd.func36 rfl ?_
    refine ⟨congrArg Value.bool ?_, hE⟩
    unfold thrN
    first | (rw [‹shpN true L = false›, ‹shpN false L = false›]; rfl) | (rw [decide_eq_false (p := 0 ≤ z ∧ z < L.length) (by omega), Bool.and_false]; done) | (rw [‹shpN true L = true›, Bool.true_or, Bool.true_and]; exact decide_eq_decide.2 (by omega)) | (rw [‹shpN false L = true›, Bool.or_true, Bool.true_and]; exact decide_eq_decide.2 (by omega))
  first | (simp only [decide_eq_true_eq, decide_eq_false_iff_not, Bool.not_eq_true', Bool.not_eq_false', ne_eq, Decidable.not_not, Bool.not_eq_true, Bool.not_eq_false] at q11) | (dsimp only at q11) | skip
  refine Reg.skip rfl rfl rfl rfl rfl rfl rfl ?_
  refine Reg.skip rfl rfl rfl rfl rfl rfl rfl ?_
  refine Reg.pur rfl rfl rfl rfl (Pur.pickF rfl rfl) ?_
  refine Reg.pur rfl rfl rfl rfl (Pur.mv rfl) ?_
  refine Reg.skip rfl rfl rfl rfl rfl rfl rfl ?_
  refine Reg.skip rfl rfl rfl rfl rfl rfl rfl ?_
  refine Reg.skip rfl rfl rfl rfl rfl rfl rfl ?_
  refine Reg.skip rfl rfl rfl rfl rfl rfl rfl ?_
  refine Reg.pur rfl rfl rfl rfl (Pur.pickF rfl rfl) ?_
  refine Reg.pur rfl rfl rfl rfl (Pur.asg rfl) ?_
  refine Reg.nil ?_
  refine At.ret rfl Tryd.func36 rfl ?_
  refine ⟨congrArg Value.bool ?_, hE⟩
  unfold thrN
  first | (rw [‹shpN true L = false›, ‹shpN false L = false›]; rfl) | (rw [decide_eq_false (p := 0 ≤ z ∧ z < L.length) (by omega), Bool.and_false]; done) | (rw [‹shpN true L = true›, Bool.true_or, Bool.true_and]; exact decide_eq_decide.2 (by omega)) | (rw [‹shpN false L = true›, Bool.or_true, Bool.true_and]; exact decide_eq_decide.2 (by omega))
/-- a tree -/
structure Tn (L : List Nd) : Prop where
  n1 : 1 ≤ L.length
  n2 : L.length ≤ 512
  kid : ∀ i : Int, 0 ≤ i → i < L.length → ∀ c ∈ kvn (eln L i), 0 ≤ c ∧ c < i
  knd : ∀ i : Int, 0 ≤ i → i < L.length → 0 ≤ (eln L i).k ∧ (eln L i).k ≤ 10
theorem mayN_knd {named : Bool} {x : Nd} (h : mayN named x = true) : 0 ≤ x.k ∧ x.k ≤ 10 := by
  by_cases h1 : x.k < 0 ∨ 10 < x.k ∨ x.p < 0 ∨ 4096 < x.p
  · rw [mayN_k h1] at h; cases h
  · omega
theorem tn_shp {named : Bool} {L : List Nd} (h : shpN named L = true) : Tn L := by
  unfold shpN at h
  simp only [Bool.and_eq_true, decide_eq_true_eq] at h
  obtain ⟨⟨⟨h1, h2⟩, h3⟩, h4⟩ := h
  exact ⟨h1, h2, fun i hi hl => beN_in L L.length ((L.length : Int) - 1) (by omega) (by omega) i (by omega) (by omega), fun i hi hl => by
    have hz : i.toNat < L.length := by omega
    rw [eln_get hz]
    exact mayN_knd (List.all_eq_true.1 h3 _ (List.getElem_mem hz))⟩
theorem tn_of {L : List Nd} {z : Int} (h : thrN L z = true) : Tn L ∧ 0 ≤ z ∧ z < L.length := by
  unfold thrN at h
  simp only [Bool.and_eq_true, Bool.or_eq_true, decide_eq_true_eq] at h
  exact ⟨h.1.elim tn_shp tn_shp, h.2⟩
theorem kv_mem {x : Nd} {i : Nat} (h : i < (nkOffs x.k).length) : iget x ((nkOffs x.k).getD i 0) ∈ kvn x := by
  unfold kvn
  refine List.mem_map_of_mem (List.mem_reverse.2 ?_)
  rw [List.getD_eq_getElem?_getD, List.getElem?_eq_getElem h]
  exact List.getElem_mem h
/-- how deep a node is -/
def dpN (L : List Nd) : Nat → Int → Int
  | 0, _ => 0
  | f + 1, z => ((nkOffs (eln L z).k).map fun o => dpN L f (iget (eln L z) o)).foldl max 0 + 1
theorem fold_le {M : Int} : ∀ (l : List Int) (a : Int), 0 ≤ a → a ≤ M → (∀ x ∈ l, x ≤ M) → 0 ≤ l.foldl max a ∧ l.foldl max a ≤ M
  | [], a, h0, h1, _ => ⟨h0, h1⟩
  | x :: l, a, h0, h1, h => fold_le l (max a x) (by omega) (by have := h x List.mem_cons_self; omega) fun y hy => h y (List.mem_cons_of_mem _ hy)
theorem dpN_le (L : List Nd) : ∀ (f : Nat) (z : Int), 0 ≤ dpN L f z ∧ dpN L f z ≤ f
  | 0, z => ⟨Int.le_refl _, Int.le_refl _⟩
  | f + 1, z => by
    have := fold_le (M := f) ((nkOffs (eln L z).k).map fun o => dpN L f (iget (eln L z) o)) 0 (by omega) (by omega) (fun x hx => by
      obtain ⟨o, _, rfl⟩ := List.mem_map.1 hx
      exact (dpN_le L f _).2)
    simp only [dpN]; omega
theorem depth_ok {A : Option Addr} {cap : Nat} (L : List Nd) (hT : Tn L) : ∀ (f : Nat) (z : Int) (H : Heap), SlT H eN 10 (.slice A L.length cap) L → 0 ≤ z → z < L.length → z.toNat < f → f ≤ 100000 →
    Ret Tryd.prog 37 [.slice A L.length cap, I z] H (fun v H' => v = I (dpN L f z) ∧ Ext H H') := by
  intro f
  induction f with
  | zero => intro z H _ _ _ h; omega
  | succ f ihf =>
  intro z H hS hz0 hzl hzf hf5
  have hzn : z.toNat < L.length := by omega
  have hm := hT.n2
  have hkid := hT.kid z hz0 hzl
  obtain ⟨b0, o0, c0, rfl, hb0, hbl, hbd⟩ := hS.at hzn
  have hfin : dpN L (f + 1) z = ((nkOffs (L[z.toNat]).k).map fun o => dpN L f (iget L[z.toNat] o)).foldl max 0 + 1 := by simp only [dpN]; rw [eln_get hzn]
  rw [eln_get hzn] at hkid
  generalize L[z.toNat] = x at hbd hfin hkid
  have hk4 := nk_len x.k
  refine Ret.of_at (N := 29) Tryd.call37 Tryd.func37 rfl rfl rfl ?_
  have hE := Ext.refl H
  refine At.region rfl rfl ?_
  refine Reg.pur rfl rfl rfl rfl (Pur.asg rfl) ?_
  refine Reg.nil ?_
  refine At.region rfl rfl ?_
  refine Reg.pur rfl rfl rfl rfl (Pur.mv rfl) ?_
  refine Reg.pur rfl rfl rfl rfl (Pur.mv rfl) ?_
  refine Reg.pur rfl rfl rfl rfl (Pur.idx _ es23 rfl rfl (by omega) (by omega)) ?_
  refine Reg.lod rfl rfl rfl rfl (Lod.ldn ag35 rfl hb0 hbd rfl) ?_
  refine Reg.op rfl rfl rfl rfl (Does.alloc zc35) ?_
  rintro _ H1_4 ⟨rfl, hn1_4⟩
  have z1_4 := hn1_4.size
  replace hE := hE.ext hn1_4.ext
  have o1_4 := hn1_4.own
  refine Reg.op0 rfl rfl rfl (Does.stn ag35 rfl rfl (by first | rfl | exact ones_Is _) (by first | rfl | (simp [*]; done)) o1_4 (by first | decide | (simp; done) | (simp; omega) | omega)) ?_
  rintro _ H1_5 hu1_5
  have z1_5 := hu1_5.size
  replace hE := hE.upw hu1_5 (by omega)
  replace o1_4 := hu1_5.own
  first | rw [over (by first | rfl | (simp; done))] at o1_4 | skip
  refine Reg.nil ?_
  refine At.region rfl rfl ?_
  refine Reg.pur rfl rfl rfl rfl (Pur.asg rfl) ?_
  refine Reg.nil ?_
  refine At.region rfl rfl ?_
  refine Reg.op rfl rfl rfl rfl (Does.call rfl (nkids_ok0 (k := x.k) o1_4.blk rfl)) ?_
  rintro _ H3_0 ⟨A2, rfl, hA, hE3_0⟩
  have z3_0 := hE3_0.lt
  replace hE := hE.ext hE3_0
  replace o1_4 := o1_4.ext hE3_0
  have z_hA := hA.lt
  refine Reg.pur rfl rfl rfl rfl (Pur.lenS isl79 rfl) ?_
  refine Reg.pur rfl rfl rfl rfl (Pur.mv rfl) ?_
  refine Reg.nil ?_
  refine At.loop (σ := Nat × Int) (fun s => [(15, I s.1), (13, .slice A2 (nkOffs x.k).length (nkOffs x.k).length), (14, I (nkOffs x.k).length), (6, I s.2), (0, .slice (some ⟨b0, o0, none⟩) L.length cap)]) (fun s H' => s.1 ≤ (nkOffs x.k).length ∧ (0 ≤ s.2 ∧ s.2 ≤ f) ∧ Own H' H.size (eN x) ∧ PtrO H' H1_5.size A2 ((nkOffs x.k).map (ptr H.size)) ∧ Ext H H' ∧ (((nkOffs x.k).drop s.1).map fun o => dpN L f (iget x o)).foldl max s.2 + 1 = dpN L (f + 1) z) (fun s => (nkOffs x.k).length - s.1) (0, 0) rfl ⟨rfl, rfl, rfl, rfl, rfl, trivial⟩ ⟨by omega, ⟨by simp, by simp⟩, o1_4, hA, hE, by rw [hfin]; rfl⟩ ?_
  clear hA o1_4 hE
  rintro ⟨i, y⟩ H6 ⟨hi, hy, o1_4, hA, hE, hgo⟩ ih
  dsimp only at hi hy o1_4 hA hE hgo ⊢
  refine At.region rfl rfl ?_
  refine Reg.pur rfl rfl rfl rfl (Pur.lss rfl rfl) ?_
  refine Reg.nil ?_
  refine At.cond rfl rfl (fun q16 => ?_) (fun q16 => ?_)
  · first | (simp only [decide_eq_true_eq, decide_eq_false_iff_not, Bool.not_eq_true', Bool.not_eq_false', ne_eq, Decidable.not_not, Bool.not_eq_true, Bool.not_eq_false] at q16) | (dsimp only at q16) | skip
    have hlt : i < (nkOffs x.k).length := by omega
    have ho := nk_in x.k i hlt
    have hkd := hkid _ (kv_mem hlt)
    rw [drop_getD hlt, List.map_cons, List.foldl_cons] at hgo
    obtain ⟨B, hlo, rfl, hO, hg⟩ := hA.get hlt
    refine At.region rfl rfl ?_
    refine Reg.pur rfl rfl rfl rfl (Pur.idx _ es79 rfl rfl (by omega) (by omega)) ?_
    refine Reg.lod rfl rfl rfl rfl (Lod.ld sc82 rfl hO.blk hg) ?_
    refine Reg.pur rfl rfl rfl rfl (Pur.asg rfl) ?_
    refine Reg.nil ?_
    refine At.region rfl rfl ?_
    refine Reg.pur rfl rfl rfl rfl (Pur.mv rfl) ?_
    refine Reg.pur rfl rfl rfl rfl (Pur.mv rfl) ?_
    refine Reg.pur rfl rfl rfl rfl (Pur.mv rfl) ?_
    refine Reg.pur rfl rfl rfl rfl (Pur.nilc rfl) ?_
    refine Reg.lod rfl rfl rfl rfl (Lod.ld sc3 rfl o1_4.blk (eN_int ho)) ?_
    refine Reg.op rfl rfl rfl rfl (Does.call rfl (ihf (iget x ((nkOffs x.k).getD i 0)) _ (hS.ext hE) (by omega) (by omega) (by omega) (by omega))) ?_
    rintro _ H6_5 ⟨rfl, hE6_5⟩
    have z6_5 := hE6_5.lt
    replace hE := hE.ext hE6_5
    replace o1_4 := o1_4.ext hE6_5
    replace hA := hA.ext hE6_5
    refine Reg.pur rfl rfl rfl rfl (Pur.max2 rfl rfl) ?_
    refine Reg.pur rfl rfl rfl rfl (Pur.asg rfl) ?_
    refine Reg.nil ?_
    refine At.region rfl rfl ?_
    refine Reg.pur rfl rfl rfl rfl (Pur.add64 rfl rfl (by omega)) ?_
    refine Reg.pur rfl rfl rfl rfl (Pur.mv rfl) ?_
    refine Reg.nil ?_
    have hle := dpN_le L f (iget x ((nkOffs x.k).getD i 0))
    exact At.meets rfl (ih (i + 1, max y (dpN L f (iget x ((nkOffs x.k).getD i 0)))) _ ⟨by omega, by simp only; omega, o1_4, hA, hE, hgo⟩ (by simp only; omega)) ⟨rfl, rfl, rfl, rfl, rfl, trivial⟩
  first | (simp only [decide_eq_true_eq, decide_eq_false_iff_not, Bool.not_eq_true', Bool.not_eq_false', ne_eq, Decidable.not_not, Bool.not_eq_true, Bool.not_eq_false] at q16) | (dsimp only at q16) | skip
  refine At.region rfl rfl ?_
  refine Reg.pur rfl rfl rfl rfl (Pur.mv rfl) ?_
  refine Reg.pur rfl rfl rfl rfl (Pur.add64 rfl rfl (by omega)) ?_
  refine Reg.pur rfl rfl rfl rfl (Pur.asg rfl) ?_
  refine Reg.nil ?_
  refine At.ret rfl Tryd.func37 rfl ?_
  rw [List.drop_of_length_le (by omega)] at hgo
  exact ⟨by rw [← hgo]; rfl, hE⟩
abbrev depV (L : List Nd) (z : Int) : Value := if thrN L z then .tuple #[I (dpN L 1000 z), I 0] else .tuple #[I 0, I 300]
theorem depthT_ok {A : Option Addr} {cap : Nat} (L : List Nd) (hL : Shs L) (z : Int) {H : Heap} (hS : SlT H eN 10 (.slice A L.length cap) L) (hm : L.length ≤ 9223372036854775807) :
    Ret Tryd.prog 22 [.slice A L.length cap, I z] H (fun v H' => v = depV L z ∧ Ext H H') := by
  refine Ret.of_at (N := 13) Tryd.call22 Tryd.func22 rfl rfl rfl ?_
  have hE := Ext.refl H
  refine At.region rfl rfl ?_
  refine Reg.pur rfl rfl rfl rfl (Pur.asg rfl) ?_
  refine Reg.pur rfl rfl rfl rfl (Pur.asg rfl) ?_
  refine Reg.nil ?_
  refine At.region rfl rfl ?_
  refine Reg.pur rfl rfl rfl rfl (Pur.mv rfl) ?_
  refine Reg.pur rfl rfl rfl rfl (Pur.mv rfl) ?_
  refine Reg.op rfl rfl rfl rfl (Does.call rfl (there_ok L hL z hS hm)) ?_
  rintro _ H1_2 ⟨rfl, hE1_2⟩
  have z1_2 := hE1_2.lt
  replace hE := hE.ext hE1_2
  refine Reg.pur rfl rfl rfl rfl (Pur.not rfl) ?_
  refine Reg.nil ?_
  refine At.cond rfl rfl (fun q9 => ?_) (fun q9 => ?_)
  · first | (simp only [decide_eq_true_eq, decide_eq_false_iff_not, Bool.not_eq_true', Bool.not_eq_false', ne_eq, Decidable.not_not, Bool.not_eq_true, Bool.not_eq_false] at q9) | (dsimp only at q9) | skip
    refine At.region rfl rfl ?_
    refine Reg.pur rfl rfl rfl rfl (Pur.asg rfl) ?_
    refine Reg.pur rfl rfl rfl rfl (Pur.asg rfl) ?_
    refine Reg.nil ?_
    refine At.ret rfl Tryd.func22 rfl ?_
    exact ⟨by unfold depV; rw [if_neg (nt ‹thrN L z = false›)], hE⟩
  first | (simp only [decide_eq_true_eq, decide_eq_false_iff_not, Bool.not_eq_true', Bool.not_eq_false', ne_eq, Decidable.not_not, Bool.not_eq_true, Bool.not_eq_false] at q9) | (dsimp only at q9) | skip
  obtain ⟨hT, hz0, hz1⟩ := tn_of ‹thrN L z = true›
  have hn2 := hT.n2
  refine At.region rfl rfl ?_
  refine Reg.pur rfl rfl rfl rfl (Pur.mv rfl) ?_
  refine Reg.pur rfl rfl rfl rfl (Pur.mv rfl) ?_
  refine Reg.op rfl rfl rfl rfl (Does.call rfl (depth_ok L hT 1000 z _ (hS.ext hE) hz0 hz1 (by omega) (by decide))) ?_
  rintro _ H3_2 ⟨rfl, hE3_2⟩
  have z3_2 := hE3_2.lt
  replace hE := hE.ext hE3_2
  refine Reg.pur rfl rfl rfl rfl (Pur.asg rfl) ?_
  refine Reg.pur rfl rfl rfl rfl (Pur.asg rfl) ?_
  refine Reg.nil ?_
  refine At.ret rfl Tryd.func22 rfl ?_
  exact ⟨by unfold depV; rw [if_pos ‹thrN L z = true›], hE⟩
end Go.Proofs.YtjhkmebmbopfoaaDoor
