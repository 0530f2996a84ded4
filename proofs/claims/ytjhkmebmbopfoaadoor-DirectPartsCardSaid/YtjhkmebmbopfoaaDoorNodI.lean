/-
  Nodes: the reference's fields.
-/
import Derived.Test.YtjhkmebmbopfoaaDoorNodH
namespace Go.Proofs.YtjhkmebmbopfoaaDoor
set_option linter.unusedSimpArgs false
set_option linter.unusedVariables false
set_option maxRecDepth 8000
set_option maxHeartbeats 1000000
open Go Go.Fx Go.Proofs
namespace FactsNodI
theorem ag35 : ag Tryd.prog 35 = some 10 := by kernel_rfl
theorem eqt35 : eqT Tryd.prog 35 = some [.int .i64, .int .i64, .int .i64, .int .i64, .int .i64, .str, .str, .str, .str, .int .i64] := by kernel_rfl
theorem fo35_0 : foff Tryd.prog 35 0 = some 0 := by kernel_rfl
theorem fo35_1 : foff Tryd.prog 35 1 = some 1 := by kernel_rfl
theorem fo35_2 : foff Tryd.prog 35 2 = some 2 := by kernel_rfl
theorem fo35_3 : foff Tryd.prog 35 3 = some 3 := by kernel_rfl
theorem fo35_4 : foff Tryd.prog 35 4 = some 4 := by kernel_rfl
theorem fo35_5 : foff Tryd.prog 35 5 = some 5 := by kernel_rfl
theorem fo35_9 : foff Tryd.prog 35 9 = some 9 := by kernel_rfl
theorem pl35 : places Tryd.prog 35 = some [(0, 1), (1, 1), (2, 1), (3, 1), (4, 1), (5, 1), (6, 1), (7, 1), (8, 1), (9, 1)] := by kernel_rfl
theorem sc3 : sc Tryd.prog 3 = true := by kernel_rfl
theorem sc9 : sc Tryd.prog 9 = true := by kernel_rfl
theorem zc35 : zc Tryd.prog 35 = some [.int .i64 0, .int .i64 0, .int .i64 0, .int .i64 0, .int .i64 0, .string ⟨#[]⟩, .string ⟨#[]⟩, .string ⟨#[]⟩, .string ⟨#[]⟩, .int .i64 0] := by kernel_rfl
end FactsNodI
open FactsNodI

abbrev mkN (k a b c num : Int) (nm : BS) (p : Int) : Nd := { k := k, a := a, b := b, c := c, num := num, nm := nm, x := [], y := [], z := [], p := p }
/-- just what a kind names -/
def fldY (named : Bool) (x : Nd) : Nd :=
  mkN x.k (if 1 ≤ kidN x.k then x.a else 0) (if 2 ≤ kidN x.k then x.b else 0) (if kidN x.k = 3 then x.c else 0)
    (if (x.k = 1 ∨ x.k = 2 ∨ x.k = 8) ∨ (x.k = 0 ∨ x.k = 9 ∨ x.k = 10) ∧ named = false then x.num else 0)
    (if (x.k = 0 ∨ x.k = 9 ∨ x.k = 10) ∧ named = true then x.nm else []) x.p
def fldR (named : Bool) (x : Nd) : Bool :=
  (!named || bndV x) && (decide (0 ≤ kidN x.k) && decide (x = if named then bndY x (fldY named x) else fldY named x) && decide (0 ≤ x.p) && decide (x.p ≤ 4096))
theorem fldR_t {x : Nd} (hb : bndV x = true) : fldR true x = (decide (0 ≤ kidN x.k) && eqs (eN x) (eN (bndY x (fldY true x))) && decide (0 ≤ x.p) && decide (x.p ≤ 4096)) := by
  rw [fldR, hb, eqs_eN]; rfl
theorem fldR_f {x : Nd} : fldR false x = (decide (0 ≤ kidN x.k) && eqs (eN x) (eN (fldY false x)) && decide (0 ≤ x.p) && decide (x.p ≤ 4096)) := by
  rw [fldR, eqs_eN]; rfl
theorem bound_ok' (x y : Nd) (hx : Shr x) (b : Nat) {H : Heap} (hy : Own H b (eN y)) :
    Ret Tryd.prog 98 [.agg (eN x).toArray, ptr b 0] H (fun v H' => v = .bool (bndV x) ∧ Own H' b (eN (bndY x y)) ∧ But (· = b) H H') :=
  (bound_ok x y hx b hy).mono fun v H' h => ⟨h.1, h.2.1, h.2.2.but⟩
theorem fields_ok (x : Nd) (hx : Shr x) (named : Bool) (H : Heap) :
    Ret Tryd.prog 77 [.agg (eN x).toArray, .bool named] H (fun v H' => v = .bool (fldR named x) ∧ Ext H H') := by
  refine Ret.of_at (N := 74) Tryd.call77 Tryd.func77 rfl rfl rfl ?_
  have hE := Ext.refl H
  refine At.region rfl rfl ?_
  refine Reg.op rfl rfl rfl rfl (Does.box rfl rfl) ?_
  rintro _ H0_0 ⟨rfl, hn0_0⟩
  have z0_0 := hn0_0.size
  replace hE := hE.ext hn0_0.ext
  have o0_0 := hn0_0.own
  refine Reg.pur rfl rfl rfl rfl (Pur.asg rfl) ?_
  refine Reg.nil ?_
  refine At.region rfl rfl ?_
  refine Reg.pur rfl rfl rfl rfl (Pur.fld _ fo35_0 rfl) ?_
  refine Reg.lod rfl rfl rfl rfl (Lod.ld sc3 rfl o0_0.blk (by first | rfl | (simp; done))) ?_
  refine Reg.pur rfl rfl rfl rfl (Pur.fld _ fo35_9 rfl) ?_
  refine Reg.lod rfl rfl rfl rfl (Lod.ld sc3 rfl o0_0.blk (by first | rfl | (simp; done))) ?_
  refine Reg.pur rfl rfl rfl rfl (Pur.bld (cs := [_, _, _, _, _, _, _, _, _, _]) pl35 zc35 rfl rfl ⟨rfl, rfl, rfl, rfl, rfl, rfl, rfl, rfl, rfl, rfl, rfl⟩) ?_
  refine Reg.op rfl rfl rfl rfl (Does.alloc zc35) ?_
  rintro _ H1_5 ⟨rfl, hn1_5⟩
  have z1_5 := hn1_5.size
  replace hE := hE.ext hn1_5.ext
  replace o0_0 := o0_0.ext hn1_5.ext
  have o1_5 := hn1_5.own
  refine Reg.op0 rfl rfl rfl (Does.stn ag35 rfl rfl (by first | rfl | exact ones_Is _) (by first | rfl | (simp [*]; done)) o1_5 (by first | decide | (simp; done) | (simp; omega) | omega)) ?_
  rintro _ H1_6 hu1_6
  have z1_6 := hu1_6.size
  replace hE := hE.upw hu1_6 (by omega)
  replace o0_0 := o0_0.upw hu1_6 (by omega)
  replace o1_5 := hu1_6.own
  first | rw [over (by first | rfl | (simp; done))] at o1_5 | skip
  refine Reg.nil ?_
  refine At.region rfl rfl ?_
  refine Reg.pur rfl rfl rfl rfl (Pur.fld _ fo35_0 rfl) ?_
  refine Reg.lod rfl rfl rfl rfl (Lod.ld sc3 rfl o0_0.blk (by first | rfl | (simp; done))) ?_
  refine Reg.op rfl rfl rfl rfl (Does.call rfl (kidsR_ok _ _)) ?_
  rintro _ H1_6 ⟨rfl, rfl⟩
  have o1_5 : Own H1_6 H0_0.size (eN (mkN x.k 0 0 0 0 [] x.p)) := o1_5
  refine Reg.pur rfl rfl rfl rfl (Pur.asg rfl) ?_
  refine Reg.nil ?_
  refine At.region rfl rfl ?_
  refine Reg.pur rfl rfl rfl rfl (Pur.mv rfl) ?_
  refine Reg.pur rfl rfl rfl rfl (Pur.geq rfl rfl) ?_
  refine Reg.nil ?_
  refine At.joinc (σ := Int) (fun _ => [(2, ptr H.size 0), (5, ptr H0_0.size 0), (6, I (kidN x.k)), (1, .bool named)]) (fun a H' => Own H' H.size (eN x) ∧ Own H' H0_0.size (eN (mkN x.k a 0 0 0 [] x.p)) ∧ Ext H H' ∧ a = if 1 ≤ kidN x.k then x.a else 0) rfl (fun hJ => ?_) (fun a H3 hs => ?_)
  · refine At.cond rfl rfl (fun q16 => ?_) (fun q16 => ?_)
    · first | (simp only [decide_eq_true_eq, decide_eq_false_iff_not, Bool.not_eq_true', Bool.not_eq_false', ne_eq, Decidable.not_not, Bool.not_eq_true, Bool.not_eq_false] at q16) | (dsimp only at q16) | skip
      refine At.region rfl rfl ?_
      refine Reg.pur rfl rfl rfl rfl (Pur.fld _ fo35_1 rfl) ?_
      refine Reg.lod rfl rfl rfl rfl (Lod.ld sc3 rfl o0_0.blk (by first | rfl | (simp; done))) ?_
      refine Reg.pur rfl rfl rfl rfl (Pur.fld _ fo35_1 rfl) ?_
      refine Reg.op0 rfl rfl rfl (Does.st sc3 rfl rfl rfl o1_5 (by rw [eN_len]; decide)) ?_
      rintro _ H4_3 hu4_3
      have z4_3 := hu4_3.size
      replace hE := hE.upw hu4_3 (by omega)
      replace o0_0 := o0_0.upw hu4_3 (by omega)
      replace o1_5 := hu4_3.own
      refine Reg.nil ?_
      exact At.meets rfl (hJ x.a _ ⟨o0_0, o1_5, hE, by rw [if_pos (by omega)]⟩) ⟨rfl, rfl, rfl, rfl, trivial⟩
    first | (simp only [decide_eq_true_eq, decide_eq_false_iff_not, Bool.not_eq_true', Bool.not_eq_false', ne_eq, Decidable.not_not, Bool.not_eq_true, Bool.not_eq_false] at q16) | (dsimp only at q16) | skip
    exact At.meets rfl (hJ 0 _ ⟨o0_0, o1_5, hE, by rw [if_neg (by omega)]⟩) ⟨rfl, rfl, rfl, rfl, trivial⟩
  obtain ⟨o0_0, o1_5, hE, ha⟩ := hs
  refine At.region rfl rfl ?_
  refine Reg.pur rfl rfl rfl rfl (Pur.mv rfl) ?_
  refine Reg.pur rfl rfl rfl rfl (Pur.geq rfl rfl) ?_
  refine Reg.nil ?_
  refine At.joinc (σ := Int) (fun _ => [(2, ptr H.size 0), (5, ptr H0_0.size 0), (6, I (kidN x.k)), (1, .bool named)]) (fun b H' => Own H' H.size (eN x) ∧ Own H' H0_0.size (eN (mkN x.k a b 0 0 [] x.p)) ∧ Ext H H' ∧ b = if 2 ≤ kidN x.k then x.b else 0) rfl (fun hJ => ?_) (fun b H3 hs => ?_)
  · refine At.cond rfl rfl (fun q21 => ?_) (fun q21 => ?_)
    · first | (simp only [decide_eq_true_eq, decide_eq_false_iff_not, Bool.not_eq_true', Bool.not_eq_false', ne_eq, Decidable.not_not, Bool.not_eq_true, Bool.not_eq_false] at q21) | (dsimp only at q21) | skip
      refine At.region rfl rfl ?_
      refine Reg.pur rfl rfl rfl rfl (Pur.fld _ fo35_2 rfl) ?_
      refine Reg.lod rfl rfl rfl rfl (Lod.ld sc3 rfl o0_0.blk (by first | rfl | (simp; done))) ?_
      refine Reg.pur rfl rfl rfl rfl (Pur.fld _ fo35_2 rfl) ?_
      refine Reg.op0 rfl rfl rfl (Does.st sc3 rfl rfl rfl o1_5 (by rw [eN_len]; decide)) ?_
      rintro _ H6_3 hu6_3
      have z6_3 := hu6_3.size
      replace hE := hE.upw hu6_3 (by omega)
      replace o0_0 := o0_0.upw hu6_3 (by omega)
      replace o1_5 := hu6_3.own
      refine Reg.nil ?_
      exact At.meets rfl (hJ x.b _ ⟨o0_0, o1_5, hE, by rw [if_pos (by omega)]⟩) ⟨rfl, rfl, rfl, rfl, trivial⟩
    first | (simp only [decide_eq_true_eq, decide_eq_false_iff_not, Bool.not_eq_true', Bool.not_eq_false', ne_eq, Decidable.not_not, Bool.not_eq_true, Bool.not_eq_false] at q21) | (dsimp only at q21) | skip
    exact At.meets rfl (hJ 0 _ ⟨o0_0, o1_5, hE, by rw [if_neg (by omega)]⟩) ⟨rfl, rfl, rfl, rfl, trivial⟩
  obtain ⟨o0_0, o1_5, hE, hb⟩ := hs
  refine At.region rfl rfl ?_
  refine Reg.pur rfl rfl rfl rfl (Pur.mv rfl) ?_
  refine Reg.pur rfl rfl rfl rfl (Pur.eql rfl rfl) ?_
  refine Reg.nil ?_
  refine At.joinc (σ := Int) (fun _ => [(2, ptr H.size 0), (5, ptr H0_0.size 0), (6, I (kidN x.k)), (1, .bool named)]) (fun c H' => Own H' H.size (eN x) ∧ Own H' H0_0.size (eN (mkN x.k a b c 0 [] x.p)) ∧ Ext H H' ∧ c = if kidN x.k = 3 then x.c else 0) rfl (fun hJ => ?_) (fun c H3 hs => ?_)
  · refine At.cond rfl rfl (fun q26 => ?_) (fun q26 => ?_)
    · first | (simp only [decide_eq_true_eq, decide_eq_false_iff_not, Bool.not_eq_true', Bool.not_eq_false', ne_eq, Decidable.not_not, Bool.not_eq_true, Bool.not_eq_false] at q26) | (dsimp only at q26) | skip
      refine At.region rfl rfl ?_
      refine Reg.pur rfl rfl rfl rfl (Pur.fld _ fo35_3 rfl) ?_
      refine Reg.lod rfl rfl rfl rfl (Lod.ld sc3 rfl o0_0.blk (by first | rfl | (simp; done))) ?_
      refine Reg.pur rfl rfl rfl rfl (Pur.fld _ fo35_3 rfl) ?_
      refine Reg.op0 rfl rfl rfl (Does.st sc3 rfl rfl rfl o1_5 (by rw [eN_len]; decide)) ?_
      rintro _ H8_3 hu8_3
      have z8_3 := hu8_3.size
      replace hE := hE.upw hu8_3 (by omega)
      replace o0_0 := o0_0.upw hu8_3 (by omega)
      replace o1_5 := hu8_3.own
      refine Reg.nil ?_
      exact At.meets rfl (hJ x.c _ ⟨o0_0, o1_5, hE, by rw [if_pos (by omega)]⟩) ⟨rfl, rfl, rfl, rfl, trivial⟩
    first | (simp only [decide_eq_true_eq, decide_eq_false_iff_not, Bool.not_eq_true', Bool.not_eq_false', ne_eq, Decidable.not_not, Bool.not_eq_true, Bool.not_eq_false] at q26) | (dsimp only at q26) | skip
    exact At.meets rfl (hJ 0 _ ⟨o0_0, o1_5, hE, by rw [if_neg (by omega)]⟩) ⟨rfl, rfl, rfl, rfl, trivial⟩
  obtain ⟨o0_0, o1_5, hE, hc⟩ := hs
  refine At.region rfl rfl ?_
  refine Reg.pur rfl rfl rfl rfl (Pur.fld _ fo35_0 rfl) ?_
  refine Reg.lod rfl rfl rfl rfl (Lod.ld sc3 rfl o0_0.blk (by first | rfl | (simp; done))) ?_
  refine Reg.nil ?_
  refine At.joinb (σ := Int × BS) (fun _ => [(2, ptr H.size 0), (5, ptr H0_0.size 0), (6, I (kidN x.k)), (1, .bool named)]) (fun s H' => Own H' H.size (eN x) ∧ Own H' H0_0.size (eN (mkN x.k a b c s.1 s.2 x.p)) ∧ Ext H H' ∧ (s.1 = if (x.k = 1 ∨ x.k = 2 ∨ x.k = 8) ∨ (x.k = 0 ∨ x.k = 9 ∨ x.k = 10) ∧ named = false then x.num else 0) ∧ s.2 = if (x.k = 0 ∨ x.k = 9 ∨ x.k = 10) ∧ named = true then x.nm else []) (fun hK => ?_) (fun s H3 hs => ?_)
  · refine At.region rfl rfl ?_
    refine Reg.pur rfl rfl rfl rfl (Pur.eql rfl rfl) ?_
    refine Reg.pur rfl rfl rfl rfl (Pur.asg rfl) ?_
    refine Reg.nil ?_
    refine At.cond rfl rfl (fun q32 => ?_) (fun q32 => ?_)
    · first | (simp only [decide_eq_true_eq, decide_eq_false_iff_not, Bool.not_eq_true', Bool.not_eq_false', ne_eq, Decidable.not_not, Bool.not_eq_true, Bool.not_eq_false] at q32) | (dsimp only at q32) | skip
      refine At.condT rfl rfl (by first | exact q32 | exact decide_eq_true q32 | exact decide_eq_false q32 | simpa using q32) ?_
      refine At.region rfl rfl ?_
      refine Reg.pur rfl rfl rfl rfl (Pur.fld _ fo35_4 rfl) ?_
      refine Reg.lod rfl rfl rfl rfl (Lod.ld sc3 rfl o0_0.blk (by first | rfl | (simp; done))) ?_
      refine Reg.pur rfl rfl rfl rfl (Pur.fld _ fo35_4 rfl) ?_
      refine Reg.op0 rfl rfl rfl (Does.st sc3 rfl rfl rfl o1_5 (by rw [eN_len]; decide)) ?_
      rintro _ H13_3 hu13_3
      have z13_3 := hu13_3.size
      replace hE := hE.upw hu13_3 (by omega)
      replace o0_0 := o0_0.upw hu13_3 (by omega)
      replace o1_5 := hu13_3.own
      refine Reg.nil ?_
      exact At.meets rfl (hK (x.num, []) _ ⟨o0_0, o1_5, hE, by simp [*], by simp [*]⟩) ⟨rfl, rfl, rfl, rfl, trivial⟩
    first | (simp only [decide_eq_true_eq, decide_eq_false_iff_not, Bool.not_eq_true', Bool.not_eq_false', ne_eq, Decidable.not_not, Bool.not_eq_true, Bool.not_eq_false] at q32) | (dsimp only at q32) | skip
    refine At.region rfl rfl ?_
    refine Reg.pur rfl rfl rfl rfl (Pur.eql rfl rfl) ?_
    refine Reg.pur rfl rfl rfl rfl (Pur.asg rfl) ?_
    refine Reg.nil ?_
    refine At.cond rfl rfl (fun q32 => ?_) (fun q32 => ?_)
    · first | (simp only [decide_eq_true_eq, decide_eq_false_iff_not, Bool.not_eq_true', Bool.not_eq_false', ne_eq, Decidable.not_not, Bool.not_eq_true, Bool.not_eq_false] at q32) | (dsimp only at q32) | skip
      refine At.condT rfl rfl (by first | exact q32 | exact decide_eq_true q32 | exact decide_eq_false q32 | simpa using q32) ?_
      refine At.region rfl rfl ?_
      refine Reg.pur rfl rfl rfl rfl (Pur.fld _ fo35_4 rfl) ?_
      refine Reg.lod rfl rfl rfl rfl (Lod.ld sc3 rfl o0_0.blk (by first | rfl | (simp; done))) ?_
      refine Reg.pur rfl rfl rfl rfl (Pur.fld _ fo35_4 rfl) ?_
      refine Reg.op0 rfl rfl rfl (Does.st sc3 rfl rfl rfl o1_5 (by rw [eN_len]; decide)) ?_
      rintro _ H13_3 hu13_3
      have z13_3 := hu13_3.size
      replace hE := hE.upw hu13_3 (by omega)
      replace o0_0 := o0_0.upw hu13_3 (by omega)
      replace o1_5 := hu13_3.own
      refine Reg.nil ?_
      exact At.meets rfl (hK (x.num, []) _ ⟨o0_0, o1_5, hE, by simp [*], by simp [*]⟩) ⟨rfl, rfl, rfl, rfl, trivial⟩
    first | (simp only [decide_eq_true_eq, decide_eq_false_iff_not, Bool.not_eq_true', Bool.not_eq_false', ne_eq, Decidable.not_not, Bool.not_eq_true, Bool.not_eq_false] at q32) | (dsimp only at q32) | skip
    refine At.region rfl rfl ?_
    refine Reg.pur rfl rfl rfl rfl (Pur.eql rfl rfl) ?_
    refine Reg.pur rfl rfl rfl rfl (Pur.asg rfl) ?_
    refine Reg.nil ?_
    refine At.cond rfl rfl (fun q32 => ?_) (fun q32 => ?_)
    · first | (simp only [decide_eq_true_eq, decide_eq_false_iff_not, Bool.not_eq_true', Bool.not_eq_false', ne_eq, Decidable.not_not, Bool.not_eq_true, Bool.not_eq_false] at q32) | (dsimp only at q32) | skip
      refine At.region rfl rfl ?_
      refine Reg.pur rfl rfl rfl rfl (Pur.fld _ fo35_4 rfl) ?_
      refine Reg.lod rfl rfl rfl rfl (Lod.ld sc3 rfl o0_0.blk (by first | rfl | (simp; done))) ?_
      refine Reg.pur rfl rfl rfl rfl (Pur.fld _ fo35_4 rfl) ?_
      refine Reg.op0 rfl rfl rfl (Does.st sc3 rfl rfl rfl o1_5 (by rw [eN_len]; decide)) ?_
      rintro _ H13_3 hu13_3
      have z13_3 := hu13_3.size
      replace hE := hE.upw hu13_3 (by omega)
      replace o0_0 := o0_0.upw hu13_3 (by omega)
      replace o1_5 := hu13_3.own
      refine Reg.nil ?_
      exact At.meets rfl (hK (x.num, []) _ ⟨o0_0, o1_5, hE, by simp [*], by simp [*]⟩) ⟨rfl, rfl, rfl, rfl, trivial⟩
    first | (simp only [decide_eq_true_eq, decide_eq_false_iff_not, Bool.not_eq_true', Bool.not_eq_false', ne_eq, Decidable.not_not, Bool.not_eq_true, Bool.not_eq_false] at q32) | (dsimp only at q32) | skip
    refine At.region rfl rfl ?_
    refine Reg.pur rfl rfl rfl rfl (Pur.eql rfl rfl) ?_
    refine Reg.pur rfl rfl rfl rfl (Pur.asg rfl) ?_
    refine Reg.nil ?_
    refine At.cond rfl rfl (fun q39 => ?_) (fun q39 => ?_)
    · first | (simp only [decide_eq_true_eq, decide_eq_false_iff_not, Bool.not_eq_true', Bool.not_eq_false', ne_eq, Decidable.not_not, Bool.not_eq_true, Bool.not_eq_false] at q39) | (dsimp only at q39) | skip
      refine At.condT rfl rfl (by first | exact q39 | exact decide_eq_true q39 | exact decide_eq_false q39 | simpa using q39) ?_
      refine At.region rfl rfl ?_
      refine Reg.pur rfl rfl rfl rfl (Pur.mv rfl) ?_
      refine Reg.pur rfl rfl rfl rfl (Pur.not rfl) ?_
      refine Reg.nil ?_
      refine At.cond rfl rfl (fun q44 => ?_) (fun q44 => ?_)
      · first | (simp only [decide_eq_true_eq, decide_eq_false_iff_not, Bool.not_eq_true', Bool.not_eq_false', ne_eq, Decidable.not_not, Bool.not_eq_true, Bool.not_eq_false] at q44) | (dsimp only at q44) | skip
        refine At.region rfl rfl ?_
        refine Reg.pur rfl rfl rfl rfl (Pur.fld _ fo35_4 rfl) ?_
        refine Reg.lod rfl rfl rfl rfl (Lod.ld sc3 rfl o0_0.blk (by first | rfl | (simp; done))) ?_
        refine Reg.pur rfl rfl rfl rfl (Pur.fld _ fo35_4 rfl) ?_
        refine Reg.op0 rfl rfl rfl (Does.st sc3 rfl rfl rfl o1_5 (by rw [eN_len]; decide)) ?_
        rintro _ H18_3 hu18_3
        have z18_3 := hu18_3.size
        replace hE := hE.upw hu18_3 (by omega)
        replace o0_0 := o0_0.upw hu18_3 (by omega)
        replace o1_5 := hu18_3.own
        refine Reg.nil ?_
        exact At.meets rfl (hK (x.num, []) _ ⟨o0_0, o1_5, hE, by simp [*], by simp [*]⟩) ⟨rfl, rfl, rfl, rfl, trivial⟩
      first | (simp only [decide_eq_true_eq, decide_eq_false_iff_not, Bool.not_eq_true', Bool.not_eq_false', ne_eq, Decidable.not_not, Bool.not_eq_true, Bool.not_eq_false] at q44) | (dsimp only at q44) | skip
      refine At.region rfl rfl ?_
      refine Reg.pur rfl rfl rfl rfl (Pur.fld _ fo35_5 rfl) ?_
      refine Reg.lod rfl rfl rfl rfl (Lod.ld sc9 rfl o0_0.blk (by first | rfl | (simp; done))) ?_
      refine Reg.pur rfl rfl rfl rfl (Pur.fld _ fo35_5 rfl) ?_
      refine Reg.op0 rfl rfl rfl (Does.st sc9 rfl rfl rfl o1_5 (by rw [eN_len]; decide)) ?_
      rintro _ H19_3 hu19_3
      have z19_3 := hu19_3.size
      replace hE := hE.upw hu19_3 (by omega)
      replace o0_0 := o0_0.upw hu19_3 (by omega)
      replace o1_5 := hu19_3.own
      refine Reg.nil ?_
      exact At.meets rfl (hK (0, x.nm) _ ⟨o0_0, o1_5, hE, by simp [*], by simp [*]⟩) ⟨rfl, rfl, rfl, rfl, trivial⟩
    first | (simp only [decide_eq_true_eq, decide_eq_false_iff_not, Bool.not_eq_true', Bool.not_eq_false', ne_eq, Decidable.not_not, Bool.not_eq_true, Bool.not_eq_false] at q39) | (dsimp only at q39) | skip
    refine At.region rfl rfl ?_
    refine Reg.pur rfl rfl rfl rfl (Pur.eql rfl rfl) ?_
    refine Reg.pur rfl rfl rfl rfl (Pur.asg rfl) ?_
    refine Reg.nil ?_
    refine At.cond rfl rfl (fun q39 => ?_) (fun q39 => ?_)
    · first | (simp only [decide_eq_true_eq, decide_eq_false_iff_not, Bool.not_eq_true', Bool.not_eq_false', ne_eq, Decidable.not_not, Bool.not_eq_true, Bool.not_eq_false] at q39) | (dsimp only at q39) | skip
      refine At.condT rfl rfl (by first | exact q39 | exact decide_eq_true q39 | exact decide_eq_false q39 | simpa using q39) ?_
      refine At.region rfl rfl ?_
      refine Reg.pur rfl rfl rfl rfl (Pur.mv rfl) ?_
      refine Reg.pur rfl rfl rfl rfl (Pur.not rfl) ?_
      refine Reg.nil ?_
      refine At.cond rfl rfl (fun q44 => ?_) (fun q44 => ?_)
      · first | (simp only [decide_eq_true_eq, decide_eq_false_iff_not, Bool.not_eq_true', Bool.not_eq_false', ne_eq, Decidable.not_not, Bool.not_eq_true, Bool.not_eq_false] at q44) | (dsimp only at q44) | skip
        refine At.region rfl rfl ?_
        refine Reg.pur rfl rfl rfl rfl (Pur.fld _ fo35_4 rfl) ?_
        refine Reg.lod rfl rfl rfl rfl (Lod.ld sc3 rfl o0_0.blk (by first | rfl | (simp; done))) ?_
        refine Reg.pur rfl rfl rfl rfl (Pur.fld _ fo35_4 rfl) ?_
        refine Reg.op0 rfl rfl rfl (Does.st sc3 rfl rfl rfl o1_5 (by rw [eN_len]; decide)) ?_
        rintro _ H18_3 hu18_3
        have z18_3 := hu18_3.size
        replace hE := hE.upw hu18_3 (by omega)
        replace o0_0 := o0_0.upw hu18_3 (by omega)
        replace o1_5 := hu18_3.own
        refine Reg.nil ?_
        exact At.meets rfl (hK (x.num, []) _ ⟨o0_0, o1_5, hE, by simp [*], by simp [*]⟩) ⟨rfl, rfl, rfl, rfl, trivial⟩
      first | (simp only [decide_eq_true_eq, decide_eq_false_iff_not, Bool.not_eq_true', Bool.not_eq_false', ne_eq, Decidable.not_not, Bool.not_eq_true, Bool.not_eq_false] at q44) | (dsimp only at q44) | skip
      refine At.region rfl rfl ?_
      refine Reg.pur rfl rfl rfl rfl (Pur.fld _ fo35_5 rfl) ?_
      refine Reg.lod rfl rfl rfl rfl (Lod.ld sc9 rfl o0_0.blk (by first | rfl | (simp; done))) ?_
      refine Reg.pur rfl rfl rfl rfl (Pur.fld _ fo35_5 rfl) ?_
      refine Reg.op0 rfl rfl rfl (Does.st sc9 rfl rfl rfl o1_5 (by rw [eN_len]; decide)) ?_
      rintro _ H19_3 hu19_3
      have z19_3 := hu19_3.size
      replace hE := hE.upw hu19_3 (by omega)
      replace o0_0 := o0_0.upw hu19_3 (by omega)
      replace o1_5 := hu19_3.own
      refine Reg.nil ?_
      exact At.meets rfl (hK (0, x.nm) _ ⟨o0_0, o1_5, hE, by simp [*], by simp [*]⟩) ⟨rfl, rfl, rfl, rfl, trivial⟩
    first | (simp only [decide_eq_true_eq, decide_eq_false_iff_not, Bool.not_eq_true', Bool.not_eq_false', ne_eq, Decidable.not_not, Bool.not_eq_true, Bool.not_eq_false] at q39) | (dsimp only at q39) | skip
    refine At.region rfl rfl ?_
    refine Reg.pur rfl rfl rfl rfl (Pur.eql rfl rfl) ?_
    refine Reg.pur rfl rfl rfl rfl (Pur.asg rfl) ?_
    refine Reg.nil ?_
    refine At.cond rfl rfl (fun q39 => ?_) (fun q39 => ?_)
    · first | (simp only [decide_eq_true_eq, decide_eq_false_iff_not, Bool.not_eq_true', Bool.not_eq_false', ne_eq, Decidable.not_not, Bool.not_eq_true, Bool.not_eq_false] at q39) | (dsimp only at q39) | skip
      refine At.region rfl rfl ?_
      refine Reg.pur rfl rfl rfl rfl (Pur.mv rfl) ?_
      refine Reg.pur rfl rfl rfl rfl (Pur.not rfl) ?_
      refine Reg.nil ?_
      refine At.cond rfl rfl (fun q44 => ?_) (fun q44 => ?_)
      · first | (simp only [decide_eq_true_eq, decide_eq_false_iff_not, Bool.not_eq_true', Bool.not_eq_false', ne_eq, Decidable.not_not, Bool.not_eq_true, Bool.not_eq_false] at q44) | (dsimp only at q44) | skip
        refine At.region rfl rfl ?_
        refine Reg.pur rfl rfl rfl rfl (Pur.fld _ fo35_4 rfl) ?_
        refine Reg.lod rfl rfl rfl rfl (Lod.ld sc3 rfl o0_0.blk (by first | rfl | (simp; done))) ?_
        refine Reg.pur rfl rfl rfl rfl (Pur.fld _ fo35_4 rfl) ?_
        refine Reg.op0 rfl rfl rfl (Does.st sc3 rfl rfl rfl o1_5 (by rw [eN_len]; decide)) ?_
        rintro _ H18_3 hu18_3
        have z18_3 := hu18_3.size
        replace hE := hE.upw hu18_3 (by omega)
        replace o0_0 := o0_0.upw hu18_3 (by omega)
        replace o1_5 := hu18_3.own
        refine Reg.nil ?_
        exact At.meets rfl (hK (x.num, []) _ ⟨o0_0, o1_5, hE, by simp [*], by simp [*]⟩) ⟨rfl, rfl, rfl, rfl, trivial⟩
      first | (simp only [decide_eq_true_eq, decide_eq_false_iff_not, Bool.not_eq_true', Bool.not_eq_false', ne_eq, Decidable.not_not, Bool.not_eq_true, Bool.not_eq_false] at q44) | (dsimp only at q44) | skip
      refine At.region rfl rfl ?_
      refine Reg.pur rfl rfl rfl rfl (Pur.fld _ fo35_5 rfl) ?_
      refine Reg.lod rfl rfl rfl rfl (Lod.ld sc9 rfl o0_0.blk (by first | rfl | (simp; done))) ?_
      refine Reg.pur rfl rfl rfl rfl (Pur.fld _ fo35_5 rfl) ?_
      refine Reg.op0 rfl rfl rfl (Does.st sc9 rfl rfl rfl o1_5 (by rw [eN_len]; decide)) ?_
      rintro _ H19_3 hu19_3
      have z19_3 := hu19_3.size
      replace hE := hE.upw hu19_3 (by omega)
      replace o0_0 := o0_0.upw hu19_3 (by omega)
      replace o1_5 := hu19_3.own
      refine Reg.nil ?_
      exact At.meets rfl (hK (0, x.nm) _ ⟨o0_0, o1_5, hE, by simp [*], by simp [*]⟩) ⟨rfl, rfl, rfl, rfl, trivial⟩
    first | (simp only [decide_eq_true_eq, decide_eq_false_iff_not, Bool.not_eq_true', Bool.not_eq_false', ne_eq, Decidable.not_not, Bool.not_eq_true, Bool.not_eq_false] at q39) | (dsimp only at q39) | skip
    exact At.meets rfl (hK (0, []) _ ⟨o0_0, o1_5, hE, by simp [*], by simp [*]⟩) ⟨rfl, rfl, rfl, rfl, trivial⟩
  obtain ⟨num, nm⟩ := s
  obtain ⟨o0_0, o1_5, hE, hnum, hnm⟩ := hs
  dsimp only at o1_5 hnum hnm
  have hY : mkN x.k a b c num nm x.p = fldY named x := by unfold fldY; rw [ha, hb, hc, hnum, hnm]
  rw [hY] at o1_5
  refine At.region rfl rfl ?_
  refine Reg.pur rfl rfl rfl rfl (Pur.mv rfl) ?_
  refine Reg.pur rfl rfl rfl rfl (Pur.mv rfl) ?_
  refine Reg.case 52 rfl (fun q52 => ?_) (fun q52 => ?_)
  · first | (simp only [decide_eq_true_eq, decide_eq_false_iff_not, Bool.not_eq_true', Bool.not_eq_false', ne_eq, Decidable.not_not, Bool.not_eq_true, Bool.not_eq_false] at q52) | (dsimp only at q52) | skip
    refine Reg.glod rfl rfl rfl rfl rfl rfl (Lod.ldn ag35 rfl o0_0.blk (whole rfl) rfl) ?_

    refine Reg.gop rfl rfl rfl rfl rfl rfl (Does.call rfl (bound_ok' x (fldY named x) hx H0_0.size o1_5)) ?_
    rintro _ H20_3 ⟨rfl, o1_5, hbut20_3⟩
    have z20_3 := hbut20_3.lt
    replace hE := hE.via hbut20_3 (by first | omega | (intro g; omega) | (intro g hg; omega) | (intro g hg h; omega))
    replace o0_0 := o0_0.via hbut20_3 (by first | omega | (intro g; omega) | (intro g hg; omega) | (intro g hg h; omega))
    have z_o1_5 := o1_5.lt
    refine Reg.gpur rfl rfl rfl rfl rfl rfl (Pur.not rfl) ?_
    refine Reg.pur rfl rfl rfl rfl (Pur.pickT rfl rfl) ?_
    refine Reg.nil ?_
    refine At.cond rfl rfl (fun q56 => ?_) (fun q56 => ?_)
    · first | (simp only [decide_eq_true_eq, decide_eq_false_iff_not, Bool.not_eq_true', Bool.not_eq_false', ne_eq, Decidable.not_not, Bool.not_eq_true, Bool.not_eq_false] at q56) | (dsimp only at q56) | skip
      refine At.region rfl rfl ?_
      refine Reg.pur rfl rfl rfl rfl (Pur.asg rfl) ?_
      refine Reg.nil ?_
      refine At.ret rfl Tryd.func77 rfl ?_
      refine ⟨congrArg Value.bool ?_, hE⟩
      rw [fldR, ‹named = true›, ‹bndV x = false›]; rfl
    first | (simp only [decide_eq_true_eq, decide_eq_false_iff_not, Bool.not_eq_true', Bool.not_eq_false', ne_eq, Decidable.not_not, Bool.not_eq_true, Bool.not_eq_false] at q56) | (dsimp only at q56) | skip
    refine At.region rfl rfl ?_
    refine Reg.pur rfl rfl rfl rfl (Pur.mv rfl) ?_
    refine Reg.pur rfl rfl rfl rfl (Pur.geq rfl rfl) ?_
    refine Reg.pur rfl rfl rfl rfl (Pur.mv rfl) ?_
    refine Reg.case 59 rfl (fun q59 => ?_) (fun q59 => ?_)
    · first | (simp only [decide_eq_true_eq, decide_eq_false_iff_not, Bool.not_eq_true', Bool.not_eq_false', ne_eq, Decidable.not_not, Bool.not_eq_true, Bool.not_eq_false] at q59) | (dsimp only at q59) | skip
      refine Reg.glod rfl rfl rfl rfl rfl rfl (Lod.ldn ag35 rfl o0_0.blk (whole rfl) rfl) ?_
      refine Reg.glod rfl rfl rfl rfl rfl rfl (Lod.ldn ag35 rfl o1_5.blk (whole rfl) rfl) ?_
      refine Reg.gpur rfl rfl rfl rfl rfl rfl (Pur.eqA eqt35 rfl rfl (fks_eN _) (fks_eN _)) ?_
      refine Reg.pur rfl rfl rfl rfl (Pur.pickT rfl rfl) ?_
      refine Reg.pur rfl rfl rfl rfl (Pur.mv rfl) ?_
      refine Reg.case 64 rfl (fun q64 => ?_) (fun q64 => ?_)
      · first | (simp only [decide_eq_true_eq, decide_eq_false_iff_not, Bool.not_eq_true', Bool.not_eq_false', ne_eq, Decidable.not_not, Bool.not_eq_true, Bool.not_eq_false] at q64) | (dsimp only at q64) | skip
        refine Reg.gpur rfl rfl rfl rfl rfl rfl (Pur.fld _ fo35_9 rfl) ?_
        refine Reg.glod rfl rfl rfl rfl rfl rfl (Lod.ld sc3 rfl o0_0.blk (by first | rfl | (simp; done))) ?_
        refine Reg.gpur rfl rfl rfl rfl rfl rfl (Pur.geq rfl rfl) ?_
        refine Reg.pur rfl rfl rfl rfl (Pur.pickT rfl rfl) ?_
        refine Reg.pur rfl rfl rfl rfl (Pur.mv rfl) ?_
        refine Reg.case 69 rfl (fun q69 => ?_) (fun q69 => ?_)
        · first | (simp only [decide_eq_true_eq, decide_eq_false_iff_not, Bool.not_eq_true', Bool.not_eq_false', ne_eq, Decidable.not_not, Bool.not_eq_true, Bool.not_eq_false] at q69) | (dsimp only at q69) | skip
          refine Reg.gpur rfl rfl rfl rfl rfl rfl (Pur.fld _ fo35_9 rfl) ?_
          refine Reg.glod rfl rfl rfl rfl rfl rfl (Lod.ld sc3 rfl o0_0.blk (by first | rfl | (simp; done))) ?_
          refine Reg.gpur rfl rfl rfl rfl rfl rfl (Pur.leq rfl rfl) ?_
          refine Reg.pur rfl rfl rfl rfl (Pur.pickT rfl rfl) ?_
          refine Reg.pur rfl rfl rfl rfl (Pur.asg rfl) ?_
          refine Reg.nil ?_
          refine At.ret rfl Tryd.func77 rfl ?_
          refine ⟨congrArg Value.bool ?_, hE⟩
          clear hx hn0_0 ha hb hc hnum hnm hY
          first | (obtain rfl := ‹named = true›; rw [fldR_t ‹bndV x = true›]) | (obtain rfl := ‹named = false›; rw [fldR_f])
          all_goals simp [*]
        first | (simp only [decide_eq_true_eq, decide_eq_false_iff_not, Bool.not_eq_true', Bool.not_eq_false', ne_eq, Decidable.not_not, Bool.not_eq_true, Bool.not_eq_false] at q69) | (dsimp only at q69) | skip
        refine Reg.skip rfl rfl rfl rfl rfl rfl rfl ?_
        refine Reg.skip rfl rfl rfl rfl rfl rfl rfl ?_
        refine Reg.skip rfl rfl rfl rfl rfl rfl rfl ?_
        refine Reg.pur rfl rfl rfl rfl (Pur.pickF rfl rfl) ?_
        refine Reg.pur rfl rfl rfl rfl (Pur.asg rfl) ?_
        refine Reg.nil ?_
        refine At.ret rfl Tryd.func77 rfl ?_
        refine ⟨congrArg Value.bool ?_, hE⟩
        clear hx hn0_0 ha hb hc hnum hnm hY
        first | (obtain rfl := ‹named = true›; rw [fldR_t ‹bndV x = true›]) | (obtain rfl := ‹named = false›; rw [fldR_f])
        all_goals simp [*]
      first | (simp only [decide_eq_true_eq, decide_eq_false_iff_not, Bool.not_eq_true', Bool.not_eq_false', ne_eq, Decidable.not_not, Bool.not_eq_true, Bool.not_eq_false] at q64) | (dsimp only at q64) | skip
      refine Reg.skip rfl rfl rfl rfl rfl rfl rfl ?_
      refine Reg.skip rfl rfl rfl rfl rfl rfl rfl ?_
      refine Reg.skip rfl rfl rfl rfl rfl rfl rfl ?_
      refine Reg.pur rfl rfl rfl rfl (Pur.pickF rfl rfl) ?_
      refine Reg.pur rfl rfl rfl rfl (Pur.mv rfl) ?_
      refine Reg.skip rfl rfl rfl rfl rfl rfl rfl ?_
      refine Reg.skip rfl rfl rfl rfl rfl rfl rfl ?_
      refine Reg.skip rfl rfl rfl rfl rfl rfl rfl ?_
      refine Reg.pur rfl rfl rfl rfl (Pur.pickF rfl rfl) ?_
      refine Reg.pur rfl rfl rfl rfl (Pur.asg rfl) ?_
      refine Reg.nil ?_
      refine At.ret rfl Tryd.func77 rfl ?_
      refine ⟨congrArg Value.bool ?_, hE⟩
      clear hx hn0_0 ha hb hc hnum hnm hY
      first | (obtain rfl := ‹named = true›; rw [fldR_t ‹bndV x = true›]) | (obtain rfl := ‹named = false›; rw [fldR_f])
      all_goals simp [*]
    first | (simp only [decide_eq_true_eq, decide_eq_false_iff_not, Bool.not_eq_true', Bool.not_eq_false', ne_eq, Decidable.not_not, Bool.not_eq_true, Bool.not_eq_false] at q59) | (dsimp only at q59) | skip
    refine Reg.skip rfl rfl rfl rfl rfl rfl rfl ?_
    refine Reg.skip rfl rfl rfl rfl rfl rfl rfl ?_
    refine Reg.skip rfl rfl rfl rfl rfl rfl rfl ?_
    refine Reg.pur rfl rfl rfl rfl (Pur.pickF rfl rfl) ?_
    refine Reg.pur rfl rfl rfl rfl (Pur.mv rfl) ?_
    refine Reg.skip rfl rfl rfl rfl rfl rfl rfl ?_
    refine Reg.skip rfl rfl rfl rfl rfl rfl rfl ?_
    refine Reg.skip rfl rfl rfl rfl rfl rfl rfl ?_
    refine Reg.pur rfl rfl rfl rfl (Pur.pickF rfl rfl) ?_
    refine Reg.pur rfl rfl rfl rfl (Pur.mv rfl) ?_
    refine Reg.skip rfl rfl rfl rfl rfl rfl rfl ?_
    refine Reg.skip rfl rfl rfl rfl rfl rfl rfl ?_
    refine Reg.skip rfl rfl rfl rfl rfl rfl rfl ?_
    refine Reg.pur rfl rfl rfl rfl (Pur.pickF rfl rfl) ?_
    refine Reg.pur rfl rfl rfl rfl (Pur.asg rfl) ?_
    refine Reg.nil ?_
    refine At.ret rfl Tryd.func77 rfl ?_
    refine ⟨congrArg Value.bool ?_, hE⟩
    clear hx hn0_0 ha hb hc hnum hnm hY
    first | (obtain rfl := ‹named = true›; rw [fldR_t ‹bndV x = true›]) | (obtain rfl := ‹named = false›; rw [fldR_f])
    all_goals simp [*]
  first | (simp only [decide_eq_true_eq, decide_eq_false_iff_not, Bool.not_eq_true', Bool.not_eq_false', ne_eq, Decidable.not_not, Bool.not_eq_true, Bool.not_eq_false] at q52) | (dsimp only at q52) | skip
  refine Reg.skip rfl rfl rfl rfl rfl rfl rfl ?_

  refine Reg.skip rfl rfl rfl rfl rfl rfl rfl ?_
  refine Reg.skip rfl rfl rfl rfl rfl rfl rfl ?_
  refine Reg.pur rfl rfl rfl rfl (Pur.pickF rfl rfl) ?_
  refine Reg.nil ?_
  refine At.condF rfl rfl rfl ?_
  refine At.region rfl rfl ?_
  refine Reg.pur rfl rfl rfl rfl (Pur.mv rfl) ?_
  refine Reg.pur rfl rfl rfl rfl (Pur.geq rfl rfl) ?_
  refine Reg.pur rfl rfl rfl rfl (Pur.mv rfl) ?_
  refine Reg.case 59 rfl (fun q59 => ?_) (fun q59 => ?_)
  · first | (simp only [decide_eq_true_eq, decide_eq_false_iff_not, Bool.not_eq_true', Bool.not_eq_false', ne_eq, Decidable.not_not, Bool.not_eq_true, Bool.not_eq_false] at q59) | (dsimp only at q59) | skip
    refine Reg.glod rfl rfl rfl rfl rfl rfl (Lod.ldn ag35 rfl o0_0.blk (whole rfl) rfl) ?_
    refine Reg.glod rfl rfl rfl rfl rfl rfl (Lod.ldn ag35 rfl o1_5.blk (whole rfl) rfl) ?_
    refine Reg.gpur rfl rfl rfl rfl rfl rfl (Pur.eqA eqt35 rfl rfl (fks_eN _) (fks_eN _)) ?_
    refine Reg.pur rfl rfl rfl rfl (Pur.pickT rfl rfl) ?_
    refine Reg.pur rfl rfl rfl rfl (Pur.mv rfl) ?_
    refine Reg.case 64 rfl (fun q64 => ?_) (fun q64 => ?_)
    · first | (simp only [decide_eq_true_eq, decide_eq_false_iff_not, Bool.not_eq_true', Bool.not_eq_false', ne_eq, Decidable.not_not, Bool.not_eq_true, Bool.not_eq_false] at q64) | (dsimp only at q64) | skip
      refine Reg.gpur rfl rfl rfl rfl rfl rfl (Pur.fld _ fo35_9 rfl) ?_
      refine Reg.glod rfl rfl rfl rfl rfl rfl (Lod.ld sc3 rfl o0_0.blk (by first | rfl | (simp; done))) ?_
      refine Reg.gpur rfl rfl rfl rfl rfl rfl (Pur.geq rfl rfl) ?_
      refine Reg.pur rfl rfl rfl rfl (Pur.pickT rfl rfl) ?_
      refine Reg.pur rfl rfl rfl rfl (Pur.mv rfl) ?_
      refine Reg.case 69 rfl (fun q69 => ?_) (fun q69 => ?_)
      · first | (simp only [decide_eq_true_eq, decide_eq_false_iff_not, Bool.not_eq_true', Bool.not_eq_false', ne_eq, Decidable.not_not, Bool.not_eq_true, Bool.not_eq_false] at q69) | (dsimp only at q69) | skip
        refine Reg.gpur rfl rfl rfl rfl rfl rfl (Pur.fld _ fo35_9 rfl) ?_
        refine Reg.glod rfl rfl rfl rfl rfl rfl (Lod.ld sc3 rfl o0_0.blk (by first | rfl | (simp; done))) ?_
        refine Reg.gpur rfl rfl rfl rfl rfl rfl (Pur.leq rfl rfl) ?_
        refine Reg.pur rfl rfl rfl rfl (Pur.pickT rfl rfl) ?_
        refine Reg.pur rfl rfl rfl rfl (Pur.asg rfl) ?_
        refine Reg.nil ?_
        refine At.ret rfl Tryd.func77 rfl ?_
        refine ⟨congrArg Value.bool ?_, hE⟩
        clear hx hn0_0 ha hb hc hnum hnm hY
        first | (obtain rfl := ‹named = true›; rw [fldR_t ‹bndV x = true›]) | (obtain rfl := ‹named = false›; rw [fldR_f])
        all_goals simp [*]
      first | (simp only [decide_eq_true_eq, decide_eq_false_iff_not, Bool.not_eq_true', Bool.not_eq_false', ne_eq, Decidable.not_not, Bool.not_eq_true, Bool.not_eq_false] at q69) | (dsimp only at q69) | skip
      refine Reg.skip rfl rfl rfl rfl rfl rfl rfl ?_
      refine Reg.skip rfl rfl rfl rfl rfl rfl rfl ?_
      refine Reg.skip rfl rfl rfl rfl rfl rfl rfl ?_
      refine Reg.pur rfl rfl rfl rfl (Pur.pickF rfl rfl) ?_
      refine Reg.pur rfl rfl rfl rfl (Pur.asg rfl) ?_
      refine Reg.nil ?_
      refine At.ret rfl Tryd.func77 rfl ?_
      refine ⟨congrArg Value.bool ?_, hE⟩
      clear hx hn0_0 ha hb hc hnum hnm hY
      first | (obtain rfl := ‹named = true›; rw [fldR_t ‹bndV x = true›]) | (obtain rfl := ‹named = false›; rw [fldR_f])
      all_goals simp [*]
    first | (simp only [decide_eq_true_eq, decide_eq_false_iff_not, Bool.not_eq_true', Bool.not_eq_false', ne_eq, Decidable.not_not, Bool.not_eq_true, Bool.not_eq_false] at q64) | (dsimp only at q64) | skip
    refine Reg.skip rfl rfl rfl rfl rfl rfl rfl ?_
    refine Reg.skip rfl rfl rfl rfl rfl rfl rfl ?_
    refine Reg.skip rfl rfl rfl rfl rfl rfl rfl ?_
    refine Reg.pur rfl rfl rfl rfl (Pur.pickF rfl rfl) ?_
    refine Reg.pur rfl rfl rfl rfl (Pur.mv rfl) ?_
    refine Reg.skip rfl rfl rfl rfl rfl rfl rfl ?_
    refine Reg.skip rfl rfl rfl rfl rfl rfl rfl ?_
    refine Reg.skip rfl rfl rfl rfl rfl rfl rfl ?_
    refine Reg.pur rfl rfl rfl rfl (Pur.pickF rfl rfl) ?_
    refine Reg.pur rfl rfl rfl rfl (Pur.asg rfl) ?_
    refine Reg.nil ?_
    refine At.ret rfl Tryd.func77 rfl ?_
    refine ⟨congrArg Value.bool ?_, hE⟩
    clear hx hn0_0 ha hb hc hnum hnm hY
    first | (obtain rfl := ‹named = true›; rw [fldR_t ‹bndV x = true›]) | (obtain rfl := ‹named = false›; rw [fldR_f])
    all_goals simp [*]
  first | (simp only [decide_eq_true_eq, decide_eq_false_iff_not, Bool.not_eq_true', Bool.not_eq_false', ne_eq, Decidable.not_not, Bool.not_eq_true, Bool.not_eq_false] at q59) | (dsimp only at q59) | skip
  refine Reg.skip rfl rfl rfl rfl rfl rfl rfl ?_
  refine Reg.skip rfl rfl rfl rfl rfl rfl rfl ?_
  refine Reg.skip rfl rfl rfl rfl rfl rfl rfl ?_
  refine Reg.pur rfl rfl rfl rfl (Pur.pickF rfl rfl) ?_
  refine Reg.pur rfl rfl rfl rfl (Pur.mv rfl) ?_
  refine Reg.skip rfl rfl rfl rfl rfl rfl rfl ?_
  refine Reg.skip rfl rfl rfl rfl rfl rfl rfl ?_
  refine Reg.skip rfl rfl rfl rfl rfl rfl rfl ?_
  refine Reg.pur rfl rfl rfl rfl (Pur.pickF rfl rfl) ?_
  refine Reg.pur rfl rfl rfl rfl (Pur.mv rfl) ?_
  refine Reg.skip rfl rfl rfl rfl rfl rfl rfl ?_
  refine Reg.skip rfl rfl rfl rfl rfl rfl rfl ?_
  refine Reg.skip rfl rfl rfl rfl rfl rfl rfl ?_
  refine Reg.pur rfl rfl rfl rfl (Pur.pickF rfl rfl) ?_
  refine Reg.pur rfl rfl rfl rfl (Pur.asg rfl) ?_
  refine Reg.nil ?_
  refine At.ret rfl Tryd.func77 rfl ?_
  refine ⟨congrArg Value.bool ?_, hE⟩
  clear hx hn0_0 ha hb hc hnum hnm hY
  first | (obtain rfl := ‹named = true›; rw [fldR_t ‹bndV x = true›]) | (obtain rfl := ‹named = false›; rw [fldR_f])
  all_goals simp [*]
end Go.Proofs.YtjhkmebmbopfoaaDoor
