/-
  Nodes: the reference's bound, fields, nums.
-/
import Derived.Test.YtjhkmebmbopfoaaDoorNodG
namespace Go.Proofs.YtjhkmebmbopfoaaDoor
set_option linter.unusedSimpArgs false
set_option linter.unusedVariables false
set_option maxRecDepth 8000
set_option maxHeartbeats 1000000
open Go Go.Fx Go.Proofs
namespace FactsNodH
theorem fo35_0 : foff Tryd.prog 35 0 = some 0 := by kernel_rfl
theorem fo35_4 : foff Tryd.prog 35 4 = some 4 := by kernel_rfl
theorem fo35_5 : foff Tryd.prog 35 5 = some 5 := by kernel_rfl
theorem fo35_6 : foff Tryd.prog 35 6 = some 6 := by kernel_rfl
theorem fo35_7 : foff Tryd.prog 35 7 = some 7 := by kernel_rfl
theorem fo35_8 : foff Tryd.prog 35 8 = some 8 := by kernel_rfl
theorem sc3 : sc Tryd.prog 3 = true := by kernel_rfl
theorem sc9 : sc Tryd.prog 9 = true := by kernel_rfl
end FactsNodH
open FactsNodH

/-- all but one block is as it was -/
def But1 (b : Nat) (H H' : Heap) : Prop := H.size ≤ H'.size ∧ ∀ c, c < H.size → c ≠ b → H'[c]? = H[c]?
theorem But1.refl (b : Nat) (H : Heap) : But1 b H H := ⟨Nat.le_refl _, fun _ _ _ => rfl⟩
theorem But1.ext {b : Nat} {H H' H2 : Heap} (h : But1 b H H') (he : Ext H' H2) : But1 b H H2 :=
  ⟨Nat.le_trans h.1 he.1, fun c hc hb => (he.2 c (Nat.lt_of_lt_of_le hc h.1)).trans (h.2 c hc hb)⟩
theorem But1.upw {b b' : Nat} {H H' H2 : Heap} {c' : List Value} (h : But1 b H H') (u : Upd H' H2 b' c') (hb : b' = b ∨ H.size ≤ b') : But1 b H H2 :=
  ⟨Nat.le_trans h.1 u.but.1, fun c hc hn => (u.but.2 c (Nat.lt_of_lt_of_le hc h.1) (by omega)).trans (h.2 c hc hn)⟩
theorem But1.lt {b : Nat} {H H' : Heap} (h : But1 b H H') : H.size ≤ H'.size := h.1
theorem But1.but {b : Nat} {H H' : Heap} (h : But1 b H H') : But (· = b) H H' := ⟨h.1, fun c hc hn => h.2 c hc hn⟩

def bndV (x : Nd) : Bool := if x.k = 0 ∨ x.k = 9 then nmMay x.nm else if x.k = 3 ∨ x.k = 5 then nmMay x.x else if x.k = 6 then nmMay x.x && nmMay x.y else if x.k = 10 then nmMay x.nm && nmMay x.x && nmMay x.y && nmMay x.z else true
def bndY (x y : Nd) : Nd := if x.k = 3 ∨ x.k = 5 then { y with x := x.x } else if x.k = 6 then { y with x := x.x, y := x.y } else if x.k = 10 then { y with x := x.x, y := x.y, z := x.z } else y
theorem eN_set {n : Nd} {l : List Value} {m : Nd} (h : l = eN m) {H : Heap} {b : Nat} (hO : Own H b l) : Own H b (eN m) := by subst h; exact hO
theorem bound_ok (x y : Nd) (hx : Shr x) (b : Nat) {H : Heap} (hy : Own H b (eN y)) :
    Ret Tryd.prog 98 [.agg (eN x).toArray, ptr b 0] H (fun v H' => v = .bool (bndV x) ∧ Own H' b (eN (bndY x y)) ∧ But1 b H H') := by
  have hbt := But1.refl b H
  have hlt := hy.lt
  obtain ⟨s1, s2, s3, s4⟩ := hx
  refine Ret.of_at (N := 81) Tryd.call98 Tryd.func98 rfl rfl rfl ?_
  have hE := Ext.refl H
  have z_hy := hy.lt
  have z_hbt := hbt.lt
  refine At.region rfl rfl ?_
  refine Reg.op rfl rfl rfl rfl (Does.box rfl rfl) ?_
  rintro _ H0_0 ⟨rfl, hn0_0⟩
  have z0_0 := hn0_0.size
  replace hy := hy.ext hn0_0.ext
  replace hbt := hbt.ext hn0_0.ext
  have o0_0 := hn0_0.own
  refine Reg.pur rfl rfl rfl rfl (Pur.asg rfl) ?_
  refine Reg.nil ?_
  refine At.region rfl rfl ?_
  refine Reg.pur rfl rfl rfl rfl (Pur.asg rfl) ?_
  refine Reg.nil ?_
  refine At.region rfl rfl ?_
  refine Reg.pur rfl rfl rfl rfl (Pur.fld _ fo35_0 rfl) ?_
  refine Reg.lod rfl rfl rfl rfl (Lod.ld sc3 rfl o0_0.blk (by first | rfl | (simp; done))) ?_
  refine Reg.nil ?_
  refine At.region rfl rfl ?_
  refine Reg.pur rfl rfl rfl rfl (Pur.eql rfl rfl) ?_
  refine Reg.pur rfl rfl rfl rfl (Pur.asg rfl) ?_
  refine Reg.nil ?_
  refine At.cond rfl rfl (fun q8 => ?_) (fun q8 => ?_)
  · first | (simp only [decide_eq_true_eq, decide_eq_false_iff_not, Bool.not_eq_true', Bool.not_eq_false', ne_eq, Decidable.not_not, Bool.not_eq_true, Bool.not_eq_false] at q8) | (dsimp only at q8) | skip
    refine At.condT rfl rfl (by first | exact q8 | exact decide_eq_true q8 | exact decide_eq_false q8 | simpa using q8) ?_
    refine At.region rfl rfl ?_
    refine Reg.pur rfl rfl rfl rfl (Pur.fld _ fo35_5 rfl) ?_
    refine Reg.lod rfl rfl rfl rfl (Lod.ld sc9 rfl o0_0.blk (by first | rfl | (simp; done))) ?_
    refine Reg.op rfl rfl rfl rfl (Does.call rfl (nameMayR_ok x.nm s1 _)) ?_
    rintro _ H0_0 ⟨rfl, rfl⟩
    refine Reg.pur rfl rfl rfl rfl (Pur.asg rfl) ?_
    refine Reg.nil ?_
    refine At.region rfl rfl ?_
    refine Reg.pur rfl rfl rfl rfl (Pur.mv rfl) ?_
    refine Reg.pur rfl rfl rfl rfl (Pur.asg rfl) ?_
    refine Reg.nil ?_
    refine At.ret rfl Tryd.func98 rfl ?_
    refine ⟨congrArg Value.bool ?_, eN_set (n := y) ?_ hy, hbt⟩
    · simp [bndV, *]
    · simp [bndY, *, eN]
  first | (simp only [decide_eq_true_eq, decide_eq_false_iff_not, Bool.not_eq_true', Bool.not_eq_false', ne_eq, Decidable.not_not, Bool.not_eq_true, Bool.not_eq_false] at q8) | (dsimp only at q8) | skip
  refine At.region rfl rfl ?_
  refine Reg.pur rfl rfl rfl rfl (Pur.eql rfl rfl) ?_
  refine Reg.pur rfl rfl rfl rfl (Pur.asg rfl) ?_
  refine Reg.nil ?_
  refine At.cond rfl rfl (fun q8 => ?_) (fun q8 => ?_)
  · first | (simp only [decide_eq_true_eq, decide_eq_false_iff_not, Bool.not_eq_true', Bool.not_eq_false', ne_eq, Decidable.not_not, Bool.not_eq_true, Bool.not_eq_false] at q8) | (dsimp only at q8) | skip
    refine At.region rfl rfl ?_
    refine Reg.pur rfl rfl rfl rfl (Pur.fld _ fo35_5 rfl) ?_
    refine Reg.lod rfl rfl rfl rfl (Lod.ld sc9 rfl o0_0.blk (by first | rfl | (simp; done))) ?_
    refine Reg.op rfl rfl rfl rfl (Does.call rfl (nameMayR_ok x.nm s1 _)) ?_
    rintro _ H0_0 ⟨rfl, rfl⟩
    refine Reg.pur rfl rfl rfl rfl (Pur.asg rfl) ?_
    refine Reg.nil ?_
    refine At.region rfl rfl ?_
    refine Reg.pur rfl rfl rfl rfl (Pur.mv rfl) ?_
    refine Reg.pur rfl rfl rfl rfl (Pur.asg rfl) ?_
    refine Reg.nil ?_
    refine At.ret rfl Tryd.func98 rfl ?_
    refine ⟨congrArg Value.bool ?_, eN_set (n := y) ?_ hy, hbt⟩
    · simp [bndV, *]
    · simp [bndY, *, eN]
  first | (simp only [decide_eq_true_eq, decide_eq_false_iff_not, Bool.not_eq_true', Bool.not_eq_false', ne_eq, Decidable.not_not, Bool.not_eq_true, Bool.not_eq_false] at q8) | (dsimp only at q8) | skip
  refine At.region rfl rfl ?_
  refine Reg.pur rfl rfl rfl rfl (Pur.eql rfl rfl) ?_
  refine Reg.pur rfl rfl rfl rfl (Pur.asg rfl) ?_
  refine Reg.nil ?_
  refine At.cond rfl rfl (fun q14 => ?_) (fun q14 => ?_)
  · first | (simp only [decide_eq_true_eq, decide_eq_false_iff_not, Bool.not_eq_true', Bool.not_eq_false', ne_eq, Decidable.not_not, Bool.not_eq_true, Bool.not_eq_false] at q14) | (dsimp only at q14) | skip
    refine At.condT rfl rfl (by first | exact q14 | exact decide_eq_true q14 | exact decide_eq_false q14 | simpa using q14) ?_
    refine At.region rfl rfl ?_
    refine Reg.pur rfl rfl rfl rfl (Pur.mv rfl) ?_
    refine Reg.pur rfl rfl rfl rfl (Pur.fld _ fo35_6 rfl) ?_
    refine Reg.lod rfl rfl rfl rfl (Lod.ld sc9 rfl o0_0.blk (by first | rfl | (simp; done))) ?_
    refine Reg.pur rfl rfl rfl rfl (Pur.nilc rfl) ?_
    refine Reg.pur rfl rfl rfl rfl (Pur.fld _ fo35_6 rfl) ?_
    refine Reg.op0 rfl rfl rfl (Does.st sc9 rfl rfl rfl hy (by rw [eN_len]; decide)) ?_
    rintro _ H8_5 hu8_5
    have z8_5 := hu8_5.size
    replace hbt := hbt.upw hu8_5 (by omega)
    replace o0_0 := o0_0.upw hu8_5 (by omega)
    replace hy := hu8_5.own
    refine Reg.nil ?_
    refine At.region rfl rfl ?_
    refine Reg.pur rfl rfl rfl rfl (Pur.fld _ fo35_6 rfl) ?_
    refine Reg.lod rfl rfl rfl rfl (Lod.ld sc9 rfl o0_0.blk (by first | rfl | (simp; done))) ?_
    refine Reg.op rfl rfl rfl rfl (Does.call rfl (nameMayR_ok x.x s2 _)) ?_
    rintro _ H8_5 ⟨rfl, rfl⟩
    refine Reg.pur rfl rfl rfl rfl (Pur.asg rfl) ?_
    refine Reg.nil ?_
    refine At.region rfl rfl ?_
    refine Reg.pur rfl rfl rfl rfl (Pur.mv rfl) ?_
    refine Reg.pur rfl rfl rfl rfl (Pur.asg rfl) ?_
    refine Reg.nil ?_
    refine At.ret rfl Tryd.func98 rfl ?_
    refine ⟨congrArg Value.bool ?_, eN_set (n := y) ?_ hy, hbt⟩
    · simp [bndV, *]
    · simp [bndY, *, eN]
  first | (simp only [decide_eq_true_eq, decide_eq_false_iff_not, Bool.not_eq_true', Bool.not_eq_false', ne_eq, Decidable.not_not, Bool.not_eq_true, Bool.not_eq_false] at q14) | (dsimp only at q14) | skip
  refine At.region rfl rfl ?_
  refine Reg.pur rfl rfl rfl rfl (Pur.eql rfl rfl) ?_
  refine Reg.pur rfl rfl rfl rfl (Pur.asg rfl) ?_
  refine Reg.nil ?_
  refine At.cond rfl rfl (fun q14 => ?_) (fun q14 => ?_)
  · first | (simp only [decide_eq_true_eq, decide_eq_false_iff_not, Bool.not_eq_true', Bool.not_eq_false', ne_eq, Decidable.not_not, Bool.not_eq_true, Bool.not_eq_false] at q14) | (dsimp only at q14) | skip
    refine At.region rfl rfl ?_
    refine Reg.pur rfl rfl rfl rfl (Pur.mv rfl) ?_
    refine Reg.pur rfl rfl rfl rfl (Pur.fld _ fo35_6 rfl) ?_
    refine Reg.lod rfl rfl rfl rfl (Lod.ld sc9 rfl o0_0.blk (by first | rfl | (simp; done))) ?_
    refine Reg.pur rfl rfl rfl rfl (Pur.nilc rfl) ?_
    refine Reg.pur rfl rfl rfl rfl (Pur.fld _ fo35_6 rfl) ?_
    refine Reg.op0 rfl rfl rfl (Does.st sc9 rfl rfl rfl hy (by rw [eN_len]; decide)) ?_
    rintro _ H8_5 hu8_5
    have z8_5 := hu8_5.size
    replace hbt := hbt.upw hu8_5 (by omega)
    replace o0_0 := o0_0.upw hu8_5 (by omega)
    replace hy := hu8_5.own
    refine Reg.nil ?_
    refine At.region rfl rfl ?_
    refine Reg.pur rfl rfl rfl rfl (Pur.fld _ fo35_6 rfl) ?_
    refine Reg.lod rfl rfl rfl rfl (Lod.ld sc9 rfl o0_0.blk (by first | rfl | (simp; done))) ?_
    refine Reg.op rfl rfl rfl rfl (Does.call rfl (nameMayR_ok x.x s2 _)) ?_
    rintro _ H8_5 ⟨rfl, rfl⟩
    refine Reg.pur rfl rfl rfl rfl (Pur.asg rfl) ?_
    refine Reg.nil ?_
    refine At.region rfl rfl ?_
    refine Reg.pur rfl rfl rfl rfl (Pur.mv rfl) ?_
    refine Reg.pur rfl rfl rfl rfl (Pur.asg rfl) ?_
    refine Reg.nil ?_
    refine At.ret rfl Tryd.func98 rfl ?_
    refine ⟨congrArg Value.bool ?_, eN_set (n := y) ?_ hy, hbt⟩
    · simp [bndV, *]
    · simp [bndY, *, eN]
  first | (simp only [decide_eq_true_eq, decide_eq_false_iff_not, Bool.not_eq_true', Bool.not_eq_false', ne_eq, Decidable.not_not, Bool.not_eq_true, Bool.not_eq_false] at q14) | (dsimp only at q14) | skip
  refine At.region rfl rfl ?_
  refine Reg.pur rfl rfl rfl rfl (Pur.eql rfl rfl) ?_
  refine Reg.pur rfl rfl rfl rfl (Pur.asg rfl) ?_
  refine Reg.nil ?_
  refine At.cond rfl rfl (fun q25 => ?_) (fun q25 => ?_)
  · first | (simp only [decide_eq_true_eq, decide_eq_false_iff_not, Bool.not_eq_true', Bool.not_eq_false', ne_eq, Decidable.not_not, Bool.not_eq_true, Bool.not_eq_false] at q25) | (dsimp only at q25) | skip
    refine At.region rfl rfl ?_
    refine Reg.pur rfl rfl rfl rfl (Pur.mv rfl) ?_
    refine Reg.pur rfl rfl rfl rfl (Pur.fld _ fo35_6 rfl) ?_
    refine Reg.lod rfl rfl rfl rfl (Lod.ld sc9 rfl o0_0.blk (by first | rfl | (simp; done))) ?_
    refine Reg.pur rfl rfl rfl rfl (Pur.nilc rfl) ?_
    refine Reg.pur rfl rfl rfl rfl (Pur.fld _ fo35_6 rfl) ?_
    refine Reg.op0 rfl rfl rfl (Does.st sc9 rfl rfl rfl hy (by rw [eN_len]; decide)) ?_
    rintro _ H11_5 hu11_5
    have z11_5 := hu11_5.size
    replace hbt := hbt.upw hu11_5 (by omega)
    replace o0_0 := o0_0.upw hu11_5 (by omega)
    replace hy := hu11_5.own
    refine Reg.nil ?_
    refine At.region rfl rfl ?_
    refine Reg.pur rfl rfl rfl rfl (Pur.mv rfl) ?_
    refine Reg.pur rfl rfl rfl rfl (Pur.fld _ fo35_7 rfl) ?_
    refine Reg.lod rfl rfl rfl rfl (Lod.ld sc9 rfl o0_0.blk (by first | rfl | (simp; done))) ?_
    refine Reg.pur rfl rfl rfl rfl (Pur.nilc rfl) ?_
    refine Reg.pur rfl rfl rfl rfl (Pur.fld _ fo35_7 rfl) ?_
    refine Reg.op0 rfl rfl rfl (Does.st sc9 rfl rfl rfl hy (by simp [eN])) ?_
    rintro _ H12_5 hu12_5
    have z12_5 := hu12_5.size
    replace hbt := hbt.upw hu12_5 (by omega)
    replace o0_0 := o0_0.upw hu12_5 (by omega)
    replace hy := hu12_5.own
    refine Reg.nil ?_
    refine At.region rfl rfl ?_
    refine Reg.pur rfl rfl rfl rfl (Pur.fld _ fo35_6 rfl) ?_
    refine Reg.lod rfl rfl rfl rfl (Lod.ld sc9 rfl o0_0.blk (by first | rfl | (simp; done))) ?_
    refine Reg.op rfl rfl rfl rfl (Does.call rfl (nameMayR_ok x.x s2 _)) ?_
    rintro _ H12_5 ⟨rfl, rfl⟩
    refine Reg.pur rfl rfl rfl rfl (Pur.mv rfl) ?_
    refine Reg.case 40 rfl (fun q40 => ?_) (fun q40 => ?_)
    · first | (simp only [decide_eq_true_eq, decide_eq_false_iff_not, Bool.not_eq_true', Bool.not_eq_false', ne_eq, Decidable.not_not, Bool.not_eq_true, Bool.not_eq_false] at q40) | (dsimp only at q40) | skip
      refine Reg.gpur rfl rfl rfl rfl rfl rfl (Pur.fld _ fo35_7 rfl) ?_
      refine Reg.glod rfl rfl rfl rfl rfl rfl (Lod.ld sc9 rfl o0_0.blk (by first | rfl | (simp; done))) ?_
      refine Reg.gop rfl rfl rfl rfl rfl rfl (Does.call rfl (nameMayR_ok x.y s3 _)) ?_
      rintro _ H12_5 ⟨rfl, rfl⟩
      refine Reg.pur rfl rfl rfl rfl (Pur.pickT rfl rfl) ?_
      refine Reg.pur rfl rfl rfl rfl (Pur.asg rfl) ?_
      refine Reg.nil ?_
      refine At.region rfl rfl ?_
      refine Reg.pur rfl rfl rfl rfl (Pur.mv rfl) ?_
      refine Reg.pur rfl rfl rfl rfl (Pur.asg rfl) ?_
      refine Reg.nil ?_
      refine At.ret rfl Tryd.func98 rfl ?_
      refine ⟨congrArg Value.bool ?_, eN_set (n := y) ?_ hy, hbt⟩
      · simp [bndV, *]
      · simp [bndY, *, eN]
    first | (simp only [decide_eq_true_eq, decide_eq_false_iff_not, Bool.not_eq_true', Bool.not_eq_false', ne_eq, Decidable.not_not, Bool.not_eq_true, Bool.not_eq_false] at q40) | (dsimp only at q40) | skip
    refine Reg.skip rfl rfl rfl rfl rfl rfl rfl ?_
    refine Reg.skip rfl rfl rfl rfl rfl rfl rfl ?_
    refine Reg.skip rfl rfl rfl rfl rfl rfl rfl ?_
    refine Reg.pur rfl rfl rfl rfl (Pur.pickF rfl rfl) ?_
    refine Reg.pur rfl rfl rfl rfl (Pur.asg rfl) ?_
    refine Reg.nil ?_
    refine At.region rfl rfl ?_
    refine Reg.pur rfl rfl rfl rfl (Pur.mv rfl) ?_
    refine Reg.pur rfl rfl rfl rfl (Pur.asg rfl) ?_
    refine Reg.nil ?_
    refine At.ret rfl Tryd.func98 rfl ?_
    refine ⟨congrArg Value.bool ?_, eN_set (n := y) ?_ hy, hbt⟩
    · simp [bndV, *]
    · simp [bndY, *, eN]
  first | (simp only [decide_eq_true_eq, decide_eq_false_iff_not, Bool.not_eq_true', Bool.not_eq_false', ne_eq, Decidable.not_not, Bool.not_eq_true, Bool.not_eq_false] at q25) | (dsimp only at q25) | skip
  refine At.region rfl rfl ?_
  refine Reg.pur rfl rfl rfl rfl (Pur.eql rfl rfl) ?_
  refine Reg.pur rfl rfl rfl rfl (Pur.asg rfl) ?_
  refine Reg.nil ?_
  refine At.cond rfl rfl (fun q45 => ?_) (fun q45 => ?_)
  · first | (simp only [decide_eq_true_eq, decide_eq_false_iff_not, Bool.not_eq_true', Bool.not_eq_false', ne_eq, Decidable.not_not, Bool.not_eq_true, Bool.not_eq_false] at q45) | (dsimp only at q45) | skip
    refine At.region rfl rfl ?_
    refine Reg.pur rfl rfl rfl rfl (Pur.mv rfl) ?_
    refine Reg.pur rfl rfl rfl rfl (Pur.fld _ fo35_6 rfl) ?_
    refine Reg.lod rfl rfl rfl rfl (Lod.ld sc9 rfl o0_0.blk (by first | rfl | (simp; done))) ?_
    refine Reg.pur rfl rfl rfl rfl (Pur.nilc rfl) ?_
    refine Reg.pur rfl rfl rfl rfl (Pur.fld _ fo35_6 rfl) ?_
    refine Reg.op0 rfl rfl rfl (Does.st sc9 rfl rfl rfl hy (by rw [eN_len]; decide)) ?_
    rintro _ H15_5 hu15_5
    have z15_5 := hu15_5.size
    replace hbt := hbt.upw hu15_5 (by omega)
    replace o0_0 := o0_0.upw hu15_5 (by omega)
    replace hy := hu15_5.own
    refine Reg.nil ?_
    refine At.region rfl rfl ?_
    refine Reg.pur rfl rfl rfl rfl (Pur.mv rfl) ?_
    refine Reg.pur rfl rfl rfl rfl (Pur.fld _ fo35_7 rfl) ?_
    refine Reg.lod rfl rfl rfl rfl (Lod.ld sc9 rfl o0_0.blk (by first | rfl | (simp; done))) ?_
    refine Reg.pur rfl rfl rfl rfl (Pur.nilc rfl) ?_
    refine Reg.pur rfl rfl rfl rfl (Pur.fld _ fo35_7 rfl) ?_
    refine Reg.op0 rfl rfl rfl (Does.st sc9 rfl rfl rfl hy (by simp [eN])) ?_
    rintro _ H16_5 hu16_5
    have z16_5 := hu16_5.size
    replace hbt := hbt.upw hu16_5 (by omega)
    replace o0_0 := o0_0.upw hu16_5 (by omega)
    replace hy := hu16_5.own
    refine Reg.nil ?_
    refine At.region rfl rfl ?_
    refine Reg.pur rfl rfl rfl rfl (Pur.mv rfl) ?_
    refine Reg.pur rfl rfl rfl rfl (Pur.fld _ fo35_8 rfl) ?_
    refine Reg.lod rfl rfl rfl rfl (Lod.ld sc9 rfl o0_0.blk (by first | rfl | (simp; done))) ?_
    refine Reg.pur rfl rfl rfl rfl (Pur.nilc rfl) ?_
    refine Reg.pur rfl rfl rfl rfl (Pur.fld _ fo35_8 rfl) ?_
    refine Reg.op0 rfl rfl rfl (Does.st sc9 rfl rfl rfl hy (by simp [eN])) ?_
    rintro _ H17_5 hu17_5
    have z17_5 := hu17_5.size
    replace hbt := hbt.upw hu17_5 (by omega)
    replace o0_0 := o0_0.upw hu17_5 (by omega)
    replace hy := hu17_5.own
    refine Reg.nil ?_
    refine At.region rfl rfl ?_
    refine Reg.pur rfl rfl rfl rfl (Pur.fld _ fo35_5 rfl) ?_
    refine Reg.lod rfl rfl rfl rfl (Lod.ld sc9 rfl o0_0.blk (by first | rfl | (simp; done))) ?_
    refine Reg.op rfl rfl rfl rfl (Does.call rfl (nameMayR_ok x.nm s1 _)) ?_
    rintro _ H17_5 ⟨rfl, rfl⟩
    refine Reg.pur rfl rfl rfl rfl (Pur.mv rfl) ?_
    refine Reg.case 65 rfl (fun q65 => ?_) (fun q65 => ?_)
    · first | (simp only [decide_eq_true_eq, decide_eq_false_iff_not, Bool.not_eq_true', Bool.not_eq_false', ne_eq, Decidable.not_not, Bool.not_eq_true, Bool.not_eq_false] at q65) | (dsimp only at q65) | skip
      refine Reg.gpur rfl rfl rfl rfl rfl rfl (Pur.fld _ fo35_6 rfl) ?_
      refine Reg.glod rfl rfl rfl rfl rfl rfl (Lod.ld sc9 rfl o0_0.blk (by first | rfl | (simp; done))) ?_
      refine Reg.gop rfl rfl rfl rfl rfl rfl (Does.call rfl (nameMayR_ok x.x s2 _)) ?_
      rintro _ H17_5 ⟨rfl, rfl⟩
      refine Reg.pur rfl rfl rfl rfl (Pur.pickT rfl rfl) ?_
      refine Reg.pur rfl rfl rfl rfl (Pur.mv rfl) ?_
      refine Reg.case 70 rfl (fun q70 => ?_) (fun q70 => ?_)
      · first | (simp only [decide_eq_true_eq, decide_eq_false_iff_not, Bool.not_eq_true', Bool.not_eq_false', ne_eq, Decidable.not_not, Bool.not_eq_true, Bool.not_eq_false] at q70) | (dsimp only at q70) | skip
        refine Reg.gpur rfl rfl rfl rfl rfl rfl (Pur.fld _ fo35_7 rfl) ?_
        refine Reg.glod rfl rfl rfl rfl rfl rfl (Lod.ld sc9 rfl o0_0.blk (by first | rfl | (simp; done))) ?_
        refine Reg.gop rfl rfl rfl rfl rfl rfl (Does.call rfl (nameMayR_ok x.y s3 _)) ?_
        rintro _ H17_5 ⟨rfl, rfl⟩
        refine Reg.pur rfl rfl rfl rfl (Pur.pickT rfl rfl) ?_
        refine Reg.pur rfl rfl rfl rfl (Pur.mv rfl) ?_
        refine Reg.case 75 rfl (fun q75 => ?_) (fun q75 => ?_)
        · first | (simp only [decide_eq_true_eq, decide_eq_false_iff_not, Bool.not_eq_true', Bool.not_eq_false', ne_eq, Decidable.not_not, Bool.not_eq_true, Bool.not_eq_false] at q75) | (dsimp only at q75) | skip
          refine Reg.gpur rfl rfl rfl rfl rfl rfl (Pur.fld _ fo35_8 rfl) ?_
          refine Reg.glod rfl rfl rfl rfl rfl rfl (Lod.ld sc9 rfl o0_0.blk (by first | rfl | (simp; done))) ?_
          refine Reg.gop rfl rfl rfl rfl rfl rfl (Does.call rfl (nameMayR_ok x.z s4 _)) ?_
          rintro _ H17_5 ⟨rfl, rfl⟩
          refine Reg.pur rfl rfl rfl rfl (Pur.pickT rfl rfl) ?_
          refine Reg.pur rfl rfl rfl rfl (Pur.asg rfl) ?_
          refine Reg.nil ?_
          refine At.region rfl rfl ?_
          refine Reg.pur rfl rfl rfl rfl (Pur.mv rfl) ?_
          refine Reg.pur rfl rfl rfl rfl (Pur.asg rfl) ?_
          refine Reg.nil ?_
          refine At.ret rfl Tryd.func98 rfl ?_
          refine ⟨congrArg Value.bool ?_, eN_set (n := y) ?_ hy, hbt⟩
          · simp [bndV, *]
          · simp [bndY, *, eN]
        first | (simp only [decide_eq_true_eq, decide_eq_false_iff_not, Bool.not_eq_true', Bool.not_eq_false', ne_eq, Decidable.not_not, Bool.not_eq_true, Bool.not_eq_false] at q75) | (dsimp only at q75) | skip
        refine Reg.skip rfl rfl rfl rfl rfl rfl rfl ?_
        refine Reg.skip rfl rfl rfl rfl rfl rfl rfl ?_
        refine Reg.skip rfl rfl rfl rfl rfl rfl rfl ?_
        refine Reg.pur rfl rfl rfl rfl (Pur.pickF rfl rfl) ?_
        refine Reg.pur rfl rfl rfl rfl (Pur.asg rfl) ?_
        refine Reg.nil ?_
        refine At.region rfl rfl ?_
        refine Reg.pur rfl rfl rfl rfl (Pur.mv rfl) ?_
        refine Reg.pur rfl rfl rfl rfl (Pur.asg rfl) ?_
        refine Reg.nil ?_
        refine At.ret rfl Tryd.func98 rfl ?_
        refine ⟨congrArg Value.bool ?_, eN_set (n := y) ?_ hy, hbt⟩
        · simp [bndV, *]
        · simp [bndY, *, eN]
      first | (simp only [decide_eq_true_eq, decide_eq_false_iff_not, Bool.not_eq_true', Bool.not_eq_false', ne_eq, Decidable.not_not, Bool.not_eq_true, Bool.not_eq_false] at q70) | (dsimp only at q70) | skip
      refine Reg.skip rfl rfl rfl rfl rfl rfl rfl ?_
      refine Reg.skip rfl rfl rfl rfl rfl rfl rfl ?_
      refine Reg.skip rfl rfl rfl rfl rfl rfl rfl ?_
      refine Reg.pur rfl rfl rfl rfl (Pur.pickF rfl rfl) ?_
      refine Reg.pur rfl rfl rfl rfl (Pur.mv rfl) ?_
      refine Reg.skip rfl rfl rfl rfl rfl rfl rfl ?_
      refine Reg.skip rfl rfl rfl rfl rfl rfl rfl ?_
      refine Reg.skip rfl rfl rfl rfl rfl rfl rfl ?_
      refine Reg.pur rfl rfl rfl rfl (Pur.pickF rfl rfl) ?_
      refine Reg.pur rfl rfl rfl rfl (Pur.asg rfl) ?_
      refine Reg.nil ?_
      refine At.region rfl rfl ?_
      refine Reg.pur rfl rfl rfl rfl (Pur.mv rfl) ?_
      refine Reg.pur rfl rfl rfl rfl (Pur.asg rfl) ?_
      refine Reg.nil ?_
      refine At.ret rfl Tryd.func98 rfl ?_
      refine ⟨congrArg Value.bool ?_, eN_set (n := y) ?_ hy, hbt⟩
      · simp [bndV, *]
      · simp [bndY, *, eN]
    first | (simp only [decide_eq_true_eq, decide_eq_false_iff_not, Bool.not_eq_true', Bool.not_eq_false', ne_eq, Decidable.not_not, Bool.not_eq_true, Bool.not_eq_false] at q65) | (dsimp only at q65) | skip
    refine Reg.skip rfl rfl rfl rfl rfl rfl rfl ?_
    refine Reg.skip rfl rfl rfl rfl rfl rfl rfl ?_
    refine Reg.skip rfl rfl rfl rfl rfl rfl rfl ?_
    refine Reg.pur rfl rfl rfl rfl (Pur.pickF rfl rfl) ?_
    refine Reg.pur rfl rfl rfl rfl (Pur.mv rfl) ?_
    refine Reg.skip rfl rfl rfl rfl rfl rfl rfl ?_
    refine Reg.skip rfl rfl rfl rfl rfl rfl rfl ?_
    refine Reg.skip rfl rfl rfl rfl rfl rfl rfl ?_
    refine Reg.pur rfl rfl rfl rfl (Pur.pickF rfl rfl) ?_
    refine Reg.pur rfl rfl rfl rfl (Pur.mv rfl) ?_
    refine Reg.skip rfl rfl rfl rfl rfl rfl rfl ?_
    refine Reg.skip rfl rfl rfl rfl rfl rfl rfl ?_
    refine Reg.skip rfl rfl rfl rfl rfl rfl rfl ?_
    refine Reg.pur rfl rfl rfl rfl (Pur.pickF rfl rfl) ?_
    refine Reg.pur rfl rfl rfl rfl (Pur.asg rfl) ?_
    refine Reg.nil ?_
    refine At.region rfl rfl ?_
    refine Reg.pur rfl rfl rfl rfl (Pur.mv rfl) ?_
    refine Reg.pur rfl rfl rfl rfl (Pur.asg rfl) ?_
    refine Reg.nil ?_
    refine At.ret rfl Tryd.func98 rfl ?_
    refine ⟨congrArg Value.bool ?_, eN_set (n := y) ?_ hy, hbt⟩
    · simp [bndV, *]
    · simp [bndY, *, eN]
  first | (simp only [decide_eq_true_eq, decide_eq_false_iff_not, Bool.not_eq_true', Bool.not_eq_false', ne_eq, Decidable.not_not, Bool.not_eq_true, Bool.not_eq_false] at q45) | (dsimp only at q45) | skip
  refine At.region rfl rfl ?_
  refine Reg.pur rfl rfl rfl rfl (Pur.mv rfl) ?_
  refine Reg.pur rfl rfl rfl rfl (Pur.asg rfl) ?_
  refine Reg.nil ?_
  refine At.ret rfl Tryd.func98 rfl ?_
  refine ⟨congrArg Value.bool ?_, eN_set (n := y) ?_ hy, hbt⟩
  · simp [bndV, *]
  · simp [bndY, *, eN]
def numsR (x : Nd) : Bool := if x.k = 1 then decide (0 ≤ x.num ∧ x.num ≤ 1073741823) else if x.k = 2 then decide (x.num = 0 ∨ x.num = 1) else if x.k = 8 then decide (0 ≤ x.num ∧ x.num ≤ 5) else true
theorem nums_ok (x : Nd) (H : Heap) : Ret Tryd.prog 78 [.agg (eN x).toArray] H (fun v H' => v = .bool (numsR x) ∧ Ext H H') := by
  refine Ret.of_at (N := 35) Tryd.call78 Tryd.func78 rfl rfl rfl ?_
  have hE := Ext.refl H
  refine At.region rfl rfl ?_
  refine Reg.op rfl rfl rfl rfl (Does.box rfl rfl) ?_
  rintro _ H0_0 ⟨rfl, hn0_0⟩
  have z0_0 := hn0_0.size
  replace hE := hE.ext hn0_0.ext
  have o0_0 := hn0_0.own
  refine Reg.pur rfl rfl rfl rfl (Pur.asg rfl) ?_
  refine Reg.nil ?_
  refine At.region rfl rfl ?_
  refine Reg.pur rfl rfl rfl rfl (Pur.fld _ fo35_0 rfl) ?_
  refine Reg.lod rfl rfl rfl rfl (Lod.ld sc3 rfl o0_0.blk (by first | rfl | (simp; done))) ?_
  refine Reg.nil ?_
  refine At.region rfl rfl ?_
  refine Reg.pur rfl rfl rfl rfl (Pur.eql rfl rfl) ?_
  refine Reg.pur rfl rfl rfl rfl (Pur.asg rfl) ?_
  refine Reg.nil ?_
  refine At.cond rfl rfl (fun q5 => ?_) (fun q5 => ?_)
  · first | (simp only [decide_eq_true_eq, decide_eq_false_iff_not, Bool.not_eq_true', Bool.not_eq_false', ne_eq, Decidable.not_not, Bool.not_eq_true, Bool.not_eq_false] at q5) | (dsimp only at q5) | skip
    refine At.region rfl rfl ?_
    refine Reg.pur rfl rfl rfl rfl (Pur.fld _ fo35_4 rfl) ?_
    refine Reg.lod rfl rfl rfl rfl (Lod.ld sc3 rfl o0_0.blk (by first | rfl | (simp; done))) ?_
    refine Reg.pur rfl rfl rfl rfl (Pur.geq rfl rfl) ?_
    refine Reg.pur rfl rfl rfl rfl (Pur.mv rfl) ?_
    refine Reg.case 10 rfl (fun q10 => ?_) (fun q10 => ?_)
    · first | (simp only [decide_eq_true_eq, decide_eq_false_iff_not, Bool.not_eq_true', Bool.not_eq_false', ne_eq, Decidable.not_not, Bool.not_eq_true, Bool.not_eq_false] at q10) | (dsimp only at q10) | skip
      refine Reg.gpur rfl rfl rfl rfl rfl rfl (Pur.fld _ fo35_4 rfl) ?_
      refine Reg.glod rfl rfl rfl rfl rfl rfl (Lod.ld sc3 rfl o0_0.blk (by first | rfl | (simp; done))) ?_
      refine Reg.gpur rfl rfl rfl rfl rfl rfl (Pur.leq rfl rfl) ?_
      refine Reg.pur rfl rfl rfl rfl (Pur.pickT rfl rfl) ?_
      refine Reg.pur rfl rfl rfl rfl (Pur.asg rfl) ?_
      refine Reg.nil ?_
      refine At.ret rfl Tryd.func78 rfl ?_
      refine ⟨congrArg Value.bool ?_, hE⟩
      unfold numsR
      first | (rw [if_pos (by assumption)]; first | (apply decide_eq_decide.2; omega) | exact (decide_eq_true (by omega)).symm | exact (decide_eq_false (by omega)).symm) | (rw [if_neg (by assumption), if_pos (by assumption)]; first | (apply decide_eq_decide.2; omega) | exact (decide_eq_true (by omega)).symm | exact (decide_eq_false (by omega)).symm) | (rw [if_neg (by assumption), if_neg (by assumption), if_pos (by assumption)]; first | (apply decide_eq_decide.2; omega) | exact (decide_eq_true (by omega)).symm | exact (decide_eq_false (by omega)).symm) | (rw [if_neg (by assumption), if_neg (by assumption), if_neg (by assumption)])
    first | (simp only [decide_eq_true_eq, decide_eq_false_iff_not, Bool.not_eq_true', Bool.not_eq_false', ne_eq, Decidable.not_not, Bool.not_eq_true, Bool.not_eq_false] at q10) | (dsimp only at q10) | skip
    refine Reg.skip rfl rfl rfl rfl rfl rfl rfl ?_
    refine Reg.skip rfl rfl rfl rfl rfl rfl rfl ?_
    refine Reg.skip rfl rfl rfl rfl rfl rfl rfl ?_
    refine Reg.pur rfl rfl rfl rfl (Pur.pickF rfl rfl) ?_
    refine Reg.pur rfl rfl rfl rfl (Pur.asg rfl) ?_
    refine Reg.nil ?_
    refine At.ret rfl Tryd.func78 rfl ?_
    refine ⟨congrArg Value.bool ?_, hE⟩
    unfold numsR
    first | (rw [if_pos (by assumption)]; first | (apply decide_eq_decide.2; omega) | exact (decide_eq_true (by omega)).symm | exact (decide_eq_false (by omega)).symm) | (rw [if_neg (by assumption), if_pos (by assumption)]; first | (apply decide_eq_decide.2; omega) | exact (decide_eq_true (by omega)).symm | exact (decide_eq_false (by omega)).symm) | (rw [if_neg (by assumption), if_neg (by assumption), if_pos (by assumption)]; first | (apply decide_eq_decide.2; omega) | exact (decide_eq_true (by omega)).symm | exact (decide_eq_false (by omega)).symm) | (rw [if_neg (by assumption), if_neg (by assumption), if_neg (by assumption)])
  first | (simp only [decide_eq_true_eq, decide_eq_false_iff_not, Bool.not_eq_true', Bool.not_eq_false', ne_eq, Decidable.not_not, Bool.not_eq_true, Bool.not_eq_false] at q5) | (dsimp only at q5) | skip
  refine At.region rfl rfl ?_
  refine Reg.pur rfl rfl rfl rfl (Pur.eql rfl rfl) ?_
  refine Reg.pur rfl rfl rfl rfl (Pur.asg rfl) ?_
  refine Reg.nil ?_
  refine At.cond rfl rfl (fun q15 => ?_) (fun q15 => ?_)
  · first | (simp only [decide_eq_true_eq, decide_eq_false_iff_not, Bool.not_eq_true', Bool.not_eq_false', ne_eq, Decidable.not_not, Bool.not_eq_true, Bool.not_eq_false] at q15) | (dsimp only at q15) | skip
    refine At.region rfl rfl ?_
    refine Reg.pur rfl rfl rfl rfl (Pur.fld _ fo35_4 rfl) ?_
    refine Reg.lod rfl rfl rfl rfl (Lod.ld sc3 rfl o0_0.blk (by first | rfl | (simp; done))) ?_
    refine Reg.pur rfl rfl rfl rfl (Pur.eql rfl rfl) ?_
    refine Reg.pur rfl rfl rfl rfl (Pur.mv rfl) ?_
    refine Reg.case 20 rfl (fun q20 => ?_) (fun q20 => ?_)
    · first | (simp only [decide_eq_true_eq, decide_eq_false_iff_not, Bool.not_eq_true', Bool.not_eq_false', ne_eq, Decidable.not_not, Bool.not_eq_true, Bool.not_eq_false] at q20) | (dsimp only at q20) | skip
      refine Reg.skip rfl rfl rfl rfl rfl rfl rfl ?_
      refine Reg.skip rfl rfl rfl rfl rfl rfl rfl ?_
      refine Reg.skip rfl rfl rfl rfl rfl rfl rfl ?_
      refine Reg.pur rfl rfl rfl rfl (Pur.pickT rfl rfl) ?_
      refine Reg.pur rfl rfl rfl rfl (Pur.asg rfl) ?_
      refine Reg.nil ?_
      refine At.ret rfl Tryd.func78 rfl ?_
      refine ⟨congrArg Value.bool ?_, hE⟩
      unfold numsR
      first | (rw [if_pos (by assumption)]; first | (apply decide_eq_decide.2; omega) | exact (decide_eq_true (by omega)).symm | exact (decide_eq_false (by omega)).symm) | (rw [if_neg (by assumption), if_pos (by assumption)]; first | (apply decide_eq_decide.2; omega) | exact (decide_eq_true (by omega)).symm | exact (decide_eq_false (by omega)).symm) | (rw [if_neg (by assumption), if_neg (by assumption), if_pos (by assumption)]; first | (apply decide_eq_decide.2; omega) | exact (decide_eq_true (by omega)).symm | exact (decide_eq_false (by omega)).symm) | (rw [if_neg (by assumption), if_neg (by assumption), if_neg (by assumption)])
    first | (simp only [decide_eq_true_eq, decide_eq_false_iff_not, Bool.not_eq_true', Bool.not_eq_false', ne_eq, Decidable.not_not, Bool.not_eq_true, Bool.not_eq_false] at q20) | (dsimp only at q20) | skip
    refine Reg.gpur rfl rfl rfl rfl rfl rfl (Pur.fld _ fo35_4 rfl) ?_
    refine Reg.glod rfl rfl rfl rfl rfl rfl (Lod.ld sc3 rfl o0_0.blk (by first | rfl | (simp; done))) ?_
    refine Reg.gpur rfl rfl rfl rfl rfl rfl (Pur.eql rfl rfl) ?_
    refine Reg.pur rfl rfl rfl rfl (Pur.pickF rfl rfl) ?_
    refine Reg.pur rfl rfl rfl rfl (Pur.asg rfl) ?_
    refine Reg.nil ?_
    refine At.ret rfl Tryd.func78 rfl ?_
    refine ⟨congrArg Value.bool ?_, hE⟩
    unfold numsR
    first | (rw [if_pos (by assumption)]; first | (apply decide_eq_decide.2; omega) | exact (decide_eq_true (by omega)).symm | exact (decide_eq_false (by omega)).symm) | (rw [if_neg (by assumption), if_pos (by assumption)]; first | (apply decide_eq_decide.2; omega) | exact (decide_eq_true (by omega)).symm | exact (decide_eq_false (by omega)).symm) | (rw [if_neg (by assumption), if_neg (by assumption), if_pos (by assumption)]; first | (apply decide_eq_decide.2; omega) | exact (decide_eq_true (by omega)).symm | exact (decide_eq_false (by omega)).symm) | (rw [if_neg (by assumption), if_neg (by assumption), if_neg (by assumption)])
  first | (simp only [decide_eq_true_eq, decide_eq_false_iff_not, Bool.not_eq_true', Bool.not_eq_false', ne_eq, Decidable.not_not, Bool.not_eq_true, Bool.not_eq_false] at q15) | (dsimp only at q15) | skip
  refine At.region rfl rfl ?_
  refine Reg.pur rfl rfl rfl rfl (Pur.eql rfl rfl) ?_
  refine Reg.pur rfl rfl rfl rfl (Pur.asg rfl) ?_
  refine Reg.nil ?_
  refine At.cond rfl rfl (fun q25 => ?_) (fun q25 => ?_)
  · first | (simp only [decide_eq_true_eq, decide_eq_false_iff_not, Bool.not_eq_true', Bool.not_eq_false', ne_eq, Decidable.not_not, Bool.not_eq_true, Bool.not_eq_false] at q25) | (dsimp only at q25) | skip
    refine At.region rfl rfl ?_
    refine Reg.pur rfl rfl rfl rfl (Pur.fld _ fo35_4 rfl) ?_
    refine Reg.lod rfl rfl rfl rfl (Lod.ld sc3 rfl o0_0.blk (by first | rfl | (simp; done))) ?_
    refine Reg.pur rfl rfl rfl rfl (Pur.geq rfl rfl) ?_
    refine Reg.pur rfl rfl rfl rfl (Pur.mv rfl) ?_
    refine Reg.case 30 rfl (fun q30 => ?_) (fun q30 => ?_)
    · first | (simp only [decide_eq_true_eq, decide_eq_false_iff_not, Bool.not_eq_true', Bool.not_eq_false', ne_eq, Decidable.not_not, Bool.not_eq_true, Bool.not_eq_false] at q30) | (dsimp only at q30) | skip
      refine Reg.gpur rfl rfl rfl rfl rfl rfl (Pur.fld _ fo35_4 rfl) ?_
      refine Reg.glod rfl rfl rfl rfl rfl rfl (Lod.ld sc3 rfl o0_0.blk (by first | rfl | (simp; done))) ?_
      refine Reg.gpur rfl rfl rfl rfl rfl rfl (Pur.leq rfl rfl) ?_
      refine Reg.pur rfl rfl rfl rfl (Pur.pickT rfl rfl) ?_
      refine Reg.pur rfl rfl rfl rfl (Pur.asg rfl) ?_
      refine Reg.nil ?_
      refine At.ret rfl Tryd.func78 rfl ?_
      refine ⟨congrArg Value.bool ?_, hE⟩
      unfold numsR
      first | (rw [if_pos (by assumption)]; first | (apply decide_eq_decide.2; omega) | exact (decide_eq_true (by omega)).symm | exact (decide_eq_false (by omega)).symm) | (rw [if_neg (by assumption), if_pos (by assumption)]; first | (apply decide_eq_decide.2; omega) | exact (decide_eq_true (by omega)).symm | exact (decide_eq_false (by omega)).symm) | (rw [if_neg (by assumption), if_neg (by assumption), if_pos (by assumption)]; first | (apply decide_eq_decide.2; omega) | exact (decide_eq_true (by omega)).symm | exact (decide_eq_false (by omega)).symm) | (rw [if_neg (by assumption), if_neg (by assumption), if_neg (by assumption)])
    first | (simp only [decide_eq_true_eq, decide_eq_false_iff_not, Bool.not_eq_true', Bool.not_eq_false', ne_eq, Decidable.not_not, Bool.not_eq_true, Bool.not_eq_false] at q30) | (dsimp only at q30) | skip
    refine Reg.skip rfl rfl rfl rfl rfl rfl rfl ?_
    refine Reg.skip rfl rfl rfl rfl rfl rfl rfl ?_
    refine Reg.skip rfl rfl rfl rfl rfl rfl rfl ?_
    refine Reg.pur rfl rfl rfl rfl (Pur.pickF rfl rfl) ?_
    refine Reg.pur rfl rfl rfl rfl (Pur.asg rfl) ?_
    refine Reg.nil ?_
    refine At.ret rfl Tryd.func78 rfl ?_
    refine ⟨congrArg Value.bool ?_, hE⟩
    unfold numsR
    first | (rw [if_pos (by assumption)]; first | (apply decide_eq_decide.2; omega) | exact (decide_eq_true (by omega)).symm | exact (decide_eq_false (by omega)).symm) | (rw [if_neg (by assumption), if_pos (by assumption)]; first | (apply decide_eq_decide.2; omega) | exact (decide_eq_true (by omega)).symm | exact (decide_eq_false (by omega)).symm) | (rw [if_neg (by assumption), if_neg (by assumption), if_pos (by assumption)]; first | (apply decide_eq_decide.2; omega) | exact (decide_eq_true (by omega)).symm | exact (decide_eq_false (by omega)).symm) | (rw [if_neg (by assumption), if_neg (by assumption), if_neg (by assumption)])
  first | (simp only [decide_eq_true_eq, decide_eq_false_iff_not, Bool.not_eq_true', Bool.not_eq_false', ne_eq, Decidable.not_not, Bool.not_eq_true, Bool.not_eq_false] at q25) | (dsimp only at q25) | skip
  refine At.region rfl rfl ?_
  refine Reg.pur rfl rfl rfl rfl (Pur.asg rfl) ?_
  refine Reg.nil ?_
  refine At.ret rfl Tryd.func78 rfl ?_
  refine ⟨congrArg Value.bool ?_, hE⟩
  unfold numsR
  first | (rw [if_pos (by assumption)]; first | (apply decide_eq_decide.2; omega) | exact (decide_eq_true (by omega)).symm | exact (decide_eq_false (by omega)).symm) | (rw [if_neg (by assumption), if_pos (by assumption)]; first | (apply decide_eq_decide.2; omega) | exact (decide_eq_true (by omega)).symm | exact (decide_eq_false (by omega)).symm) | (rw [if_neg (by assumption), if_neg (by assumption), if_pos (by assumption)]; first | (apply decide_eq_decide.2; omega) | exact (decide_eq_true (by omega)).symm | exact (decide_eq_false (by omega)).symm) | (rw [if_neg (by assumption), if_neg (by assumption), if_neg (by assumption)])
end Go.Proofs.YtjhkmebmbopfoaaDoor
