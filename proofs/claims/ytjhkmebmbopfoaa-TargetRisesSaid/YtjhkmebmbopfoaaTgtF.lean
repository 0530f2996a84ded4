/-
  The reference's name, tfields.
-/
import Derived.Test.YtjhkmebmbopfoaaTgtE
namespace Go.Proofs.Ytjhkmebmbopfoaa
set_option linter.unusedSimpArgs false
set_option linter.unusedVariables false
set_option maxRecDepth 8000
open Go Go.Fx Go.Proofs
namespace FactsTgtF
theorem ag37 : ag Try.prog 37 = some 9 := by kernel_rfl
theorem eqt37 : eqT Try.prog 37 = some [.int .i64, .int .i64, .int .i64, .int .i64, .int .i64, .int .i64, .int .i64, .int .i64, .int .i64] := by kernel_rfl
theorem fo37_0 : foff Try.prog 37 0 = some 0 := by kernel_rfl
theorem fo37_1 : foff Try.prog 37 1 = some 1 := by kernel_rfl
theorem fo37_2 : foff Try.prog 37 2 = some 2 := by kernel_rfl
theorem fo37_3 : foff Try.prog 37 3 = some 3 := by kernel_rfl
theorem fo37_4 : foff Try.prog 37 4 = some 4 := by kernel_rfl
theorem fo37_5 : foff Try.prog 37 5 = some 5 := by kernel_rfl
theorem fo37_6 : foff Try.prog 37 6 = some 6 := by kernel_rfl
theorem fo37_7 : foff Try.prog 37 7 = some 7 := by kernel_rfl
theorem fo37_8 : foff Try.prog 37 8 = some 8 := by kernel_rfl
theorem pl37 : places Try.prog 37 = some [(0, 1), (1, 1), (2, 1), (3, 1), (4, 1), (5, 1), (6, 1), (7, 1), (8, 1)] := by kernel_rfl
theorem sc3 : sc Try.prog 3 = true := by kernel_rfl
theorem zc37 : zc Try.prog 37 = some [.int .i64 0, .int .i64 0, .int .i64 0, .int .i64 0, .int .i64 0, .int .i64 0, .int .i64 0, .int .i64 0, .int .i64 0] := by kernel_rfl
end FactsTgtF
open FactsTgtF

theorem name_ok (n : Int) (H : Heap) : Ret Try.prog 50 [I n] H (fun v H' => v = .bool (decide (0 ≤ n ∧ n < 8192)) ∧ H' = H) := by
  refine Ret.of_at (N := 9) Try.call50 Try.func50 rfl rfl rfl ?_
  refine At.region rfl rfl ?_
  refine Reg.pur rfl rfl rfl rfl (Pur.asg rfl) ?_
  refine Reg.nil ?_
  refine At.region rfl rfl ?_
  refine Reg.pur rfl rfl rfl rfl (Pur.mv rfl) ?_
  refine Reg.pur rfl rfl rfl rfl (Pur.geq rfl rfl) ?_
  refine Reg.pur rfl rfl rfl rfl (Pur.mv rfl) ?_
  refine Reg.case 5 rfl (fun hc1 => ?_) (fun hc1 => ?_)
  · refine Reg.gpur rfl rfl rfl rfl rfl rfl (Pur.mv rfl) ?_
    refine Reg.gpur rfl rfl rfl rfl rfl rfl (Pur.lss rfl rfl) ?_
    refine Reg.pur rfl rfl rfl rfl (Pur.pickT rfl rfl) ?_
    refine Reg.pur rfl rfl rfl rfl (Pur.asg rfl) ?_
    refine Reg.nil ?_
    refine At.ret rfl Try.func50 rfl ?_
    refine And.intro (congrArg Value.bool ?_) rfl
    simp only [decide_eq_true_eq, decide_eq_false_iff_not] at *
    simp [*]
  refine Reg.skip rfl rfl rfl rfl rfl rfl rfl ?_
  refine Reg.skip rfl rfl rfl rfl rfl rfl rfl ?_
  refine Reg.pur rfl rfl rfl rfl (Pur.pickF rfl rfl) ?_
  refine Reg.pur rfl rfl rfl rfl (Pur.asg rfl) ?_
  refine Reg.nil ?_
  refine At.ret rfl Try.func50 rfl ?_
  refine And.intro (congrArg Value.bool ?_) rfl
  simp only [decide_eq_true_eq, decide_eq_false_iff_not] at *
  simp [*]

theorem mayR_rest {k a b c d e f g h : Int} (hk : k ≠ 0 ∧ k ≠ 1 ∧ k ≠ 2 ∧ k ≠ 8 ∧ k ≠ 10 ∧ k ≠ 3 ∧ k ≠ 6 ∧ k ≠ 11 ∧ k ≠ 4 ∧ k ≠ 12) : (0 ≤ k ∧ k ≤ 12) ∧ List.foldl (fun xs o => xs.set o 0) [k, a, b, c, d, e, f, g, h]
          (if k = 9 then [1] else if k = 5 then [1, 2] else if k = 7 then [1, 2, 3] else []) = [k, 0, 0, 0, 0, 0, 0, 0, 0] ↔
    (0 ≤ if k = 9 then (1 : Int) else if k = 5 then 2 else if k = 7 then 3 else -1) ∧ ((1 ≤ if k = 9 then (1 : Int) else if k = 5 then 2 else if k = 7 then 3 else -1) ∨ a = 0) ∧
        ((2 ≤ if k = 9 then (1 : Int) else if k = 5 then 2 else if k = 7 then 3 else -1) ∨ b = 0) ∧ ((if k = 9 then (1 : Int) else if k = 5 then 2 else if k = 7 then 3 else -1) = 3 ∨ c = 0) ∧ d = 0 ∧ e = 0 ∧ f = 0 ∧ g = 0 ∧ h = 0 := by
  by_cases k9 : k = 9
  · subst k9; simp
  · by_cases k5 : k = 5
    · subst k5; simp
    · by_cases k7 : k = 7
      · subst k7; simp
      · have h1 : ¬ (0 ≤ k ∧ k ≤ 12) := by omega
        simp only [if_neg k9, if_neg k5, if_neg k7]
        constructor
        · intro h; exact (h1 h.1).elim
        · intro h; omega

theorem tfields_ok (k a b c d e f g h : Int) (H : Heap) :
    Ret Try.prog 31 [.agg (Is [k, a, b, c, d, e, f, g, h]).toArray] H (fun v H' => v = .bool (mayT [k, a, b, c, d, e, f, g, h]) ∧ Ext H H') := by
  refine Ret.of_at (N := 168) Try.call31 Try.func31 rfl rfl rfl ?_
  refine At.region rfl rfl ?_
  refine Reg.op rfl rfl rfl rfl (Does.box rfl rfl) ?_
  rintro _ H1 ⟨rfl, hn1⟩
  refine Reg.pur rfl rfl rfl rfl (Pur.asg rfl) ?_
  refine Reg.nil ?_
  have hX := hn1.own
  refine At.region rfl rfl ?_
  refine Reg.pur rfl rfl rfl rfl (Pur.fld _ fo37_0 rfl) ?_
  refine Reg.lod rfl rfl rfl rfl (Lod.ld sc3 rfl hX.blk rfl) ?_
  refine Reg.op rfl rfl rfl rfl (Does.call rfl (tkids_ok _ _)) ?_
  rintro _ H1 ⟨rfl, rfl⟩
  refine Reg.pur rfl rfl rfl rfl (Pur.asg rfl) ?_
  refine Reg.nil ?_
  refine At.region rfl rfl ?_
  refine Reg.pur rfl rfl rfl rfl (Pur.fld _ fo37_0 rfl) ?_
  refine Reg.lod rfl rfl rfl rfl (Lod.ld sc3 rfl hX.blk rfl) ?_
  refine Reg.pur rfl rfl rfl rfl (Pur.bld (cs := [_, _, _, _, _, _, _, _, _]) pl37 zc37 rfl rfl ⟨rfl, rfl, rfl, rfl, rfl, rfl, rfl, rfl, rfl, rfl⟩) ?_
  refine Reg.op rfl rfl rfl rfl (Does.alloc zc37) ?_
  rintro _ H2 ⟨rfl, hn2⟩
  refine Reg.op0 rfl rfl rfl (Does.stn ag37 rfl rfl rfl rfl hn2.own (by decide)) ?_
  rintro _ H3 hu3
  refine Reg.nil ?_
  have hlt := hX.lt
  have hX := (hX.ext hn2.ext).upd hu3 (by omega)
  have hE : Ext H H3 := (hn1.ext.trans hn2.ext).upd hu3 (by omega)
  have hT : Own H3 H1.size (Is [k, 0, 0, 0, 0, 0, 0, 0, 0]) := hu3.own
  refine At.region rfl rfl ?_
  refine Reg.pur rfl rfl rfl rfl (Pur.mv rfl) ?_
  refine Reg.pur rfl rfl rfl rfl (Pur.geq rfl rfl) ?_
  refine Reg.nil ?_
  refine At.joinc (σ := Int) (fun _ => [(1, ptr H.size 0), (4, ptr H1.size 0), (3, I (tk k))]) (fun a' H' => Own H' H.size (Is [k, a, b, c, d, e, f, g, h]) ∧ Own H' H1.size (Is [k, a', 0, 0, 0, 0, 0, 0, 0]) ∧ Ext H H' ∧ a' = if 1 ≤ tk k then a else 0) rfl (fun hJ => ?_) (fun a' H3 ⟨hX, hT, hE, ha⟩ => ?_)
  · refine At.cond rfl rfl (fun hb1 => ?_) (fun hb1 => ?_)
    · refine At.region rfl rfl ?_
      refine Reg.pur rfl rfl rfl rfl (Pur.fld _ fo37_1 rfl) ?_
      refine Reg.lod rfl rfl rfl rfl (Lod.ld sc3 rfl hX.blk rfl) ?_
      refine Reg.pur rfl rfl rfl rfl (Pur.fld _ fo37_1 rfl) ?_
      refine Reg.op0 rfl rfl rfl (Does.st sc3 rfl rfl rfl hT (by simp)) ?_
      rintro _ H4 hu4
      refine Reg.nil ?_
      have hX := hX.upd hu4 (by omega)
      have hE := hE.upd hu4 (by omega)
      have hT := hu4.own
      rw [Is_set] at hT
      refine At.meets rfl (hJ _ _ ⟨hX, hT, hE, ?_⟩) ⟨rfl, rfl, rfl, trivial⟩
      simp only [decide_eq_true_eq, decide_eq_false_iff_not] at *
      simp [*]
    refine At.meets rfl (hJ _ _ ⟨hX, hT, hE, ?_⟩) ⟨rfl, rfl, rfl, trivial⟩
    simp only [decide_eq_true_eq, decide_eq_false_iff_not] at *
    simp [*]
  refine At.region rfl rfl ?_
  refine Reg.pur rfl rfl rfl rfl (Pur.mv rfl) ?_
  refine Reg.pur rfl rfl rfl rfl (Pur.geq rfl rfl) ?_
  refine Reg.nil ?_
  refine At.joinc (σ := Int) (fun _ => [(1, ptr H.size 0), (4, ptr H1.size 0), (3, I (tk k))]) (fun b' H' => Own H' H.size (Is [k, a, b, c, d, e, f, g, h]) ∧ Own H' H1.size (Is [k, a', b', 0, 0, 0, 0, 0, 0]) ∧ Ext H H' ∧ b' = if 2 ≤ tk k then b else 0) rfl (fun hJ => ?_) (fun b' H3 ⟨hX, hT, hE, hb⟩ => ?_)
  · refine At.cond rfl rfl (fun hb2 => ?_) (fun hb2 => ?_)
    · refine At.region rfl rfl ?_
      refine Reg.pur rfl rfl rfl rfl (Pur.fld _ fo37_2 rfl) ?_
      refine Reg.lod rfl rfl rfl rfl (Lod.ld sc3 rfl hX.blk rfl) ?_
      refine Reg.pur rfl rfl rfl rfl (Pur.fld _ fo37_2 rfl) ?_
      refine Reg.op0 rfl rfl rfl (Does.st sc3 rfl rfl rfl hT (by simp)) ?_
      rintro _ H4 hu4
      refine Reg.nil ?_
      have hX := hX.upd hu4 (by omega)
      have hE := hE.upd hu4 (by omega)
      have hT := hu4.own
      rw [Is_set] at hT
      refine At.meets rfl (hJ _ _ ⟨hX, hT, hE, ?_⟩) ⟨rfl, rfl, rfl, trivial⟩
      simp only [decide_eq_true_eq, decide_eq_false_iff_not] at *
      simp [*]
    refine At.meets rfl (hJ _ _ ⟨hX, hT, hE, ?_⟩) ⟨rfl, rfl, rfl, trivial⟩
    simp only [decide_eq_true_eq, decide_eq_false_iff_not] at *
    simp [*]
  refine At.region rfl rfl ?_
  refine Reg.pur rfl rfl rfl rfl (Pur.mv rfl) ?_
  refine Reg.pur rfl rfl rfl rfl (Pur.eql rfl rfl) ?_
  refine Reg.nil ?_
  refine At.joinc (σ := Int) (fun _ => [(1, ptr H.size 0), (4, ptr H1.size 0), (3, I (tk k))]) (fun c' H' => Own H' H.size (Is [k, a, b, c, d, e, f, g, h]) ∧ Own H' H1.size (Is [k, a', b', c', 0, 0, 0, 0, 0]) ∧ Ext H H' ∧ c' = if tk k = 3 then c else 0) rfl (fun hJ => ?_) (fun c' H3 ⟨hX, hT, hE, hc⟩ => ?_)
  · refine At.cond rfl rfl (fun hb3 => ?_) (fun hb3 => ?_)
    · refine At.region rfl rfl ?_
      refine Reg.pur rfl rfl rfl rfl (Pur.fld _ fo37_3 rfl) ?_
      refine Reg.lod rfl rfl rfl rfl (Lod.ld sc3 rfl hX.blk rfl) ?_
      refine Reg.pur rfl rfl rfl rfl (Pur.fld _ fo37_3 rfl) ?_
      refine Reg.op0 rfl rfl rfl (Does.st sc3 rfl rfl rfl hT (by simp)) ?_
      rintro _ H4 hu4
      refine Reg.nil ?_
      have hX := hX.upd hu4 (by omega)
      have hE := hE.upd hu4 (by omega)
      have hT := hu4.own
      rw [Is_set] at hT
      refine At.meets rfl (hJ _ _ ⟨hX, hT, hE, ?_⟩) ⟨rfl, rfl, rfl, trivial⟩
      simp only [decide_eq_true_eq, decide_eq_false_iff_not] at *
      simp [*]
    refine At.meets rfl (hJ _ _ ⟨hX, hT, hE, ?_⟩) ⟨rfl, rfl, rfl, trivial⟩
    simp only [decide_eq_true_eq, decide_eq_false_iff_not] at *
    simp [*]
  refine At.region rfl rfl ?_
  refine Reg.pur rfl rfl rfl rfl (Pur.mv rfl) ?_
  refine Reg.pur rfl rfl rfl rfl (Pur.geq rfl rfl) ?_
  refine Reg.pur rfl rfl rfl rfl (Pur.asg rfl) ?_
  refine Reg.nil ?_
  refine At.region rfl rfl ?_
  refine Reg.pur rfl rfl rfl rfl (Pur.fld _ fo37_0 rfl) ?_
  refine Reg.lod rfl rfl rfl rfl (Lod.ld sc3 rfl hX.blk rfl) ?_
  refine Reg.nil ?_
  refine At.region rfl rfl ?_
  refine Reg.pur rfl rfl rfl rfl (Pur.eql rfl rfl) ?_
  refine Reg.pur rfl rfl rfl rfl (Pur.asg rfl) ?_
  refine Reg.nil ?_
  refine At.joinc (σ := List Int × Value) (fun s => [(1, ptr H.size 0), (4, ptr H1.size 0), (5, s.2)]) (fun s H' => Own H' H.size (Is [k, a, b, c, d, e, f, g, h]) ∧ Own H' H1.size (Is s.1) ∧ Ext H H' ∧ s.1.length = 9 ∧ ∃ ok, s.2 = .bool ok ∧ mayT [k, a, b, c, d, e, f, g, h] = (ok && decide ([k, a, b, c, d, e, f, g, h] = s.1))) rfl (fun hJ => ?_) (fun s H3 ⟨hX, hT, hE, hs9, ok, hok, hs⟩ => ?_)
  · refine At.cond rfl rfl (fun hb4 => ?_) (fun hb4 => ?_)
    · refine At.region rfl rfl ?_
      refine Reg.pur rfl rfl rfl rfl (Pur.fld _ fo37_4 rfl) ?_
      refine Reg.lod rfl rfl rfl rfl (Lod.ld sc3 rfl hX.blk rfl) ?_
      refine Reg.pur rfl rfl rfl rfl (Pur.fld _ fo37_4 rfl) ?_
      refine Reg.op0 rfl rfl rfl (Does.st sc3 rfl rfl rfl hT (by simp)) ?_
      rintro _ H5 hu5
      refine Reg.nil ?_
      have hX := hX.upd hu5 (by omega)
      have hE := hE.upd hu5 (by omega)
      have hT := hu5.own
      rw [Is_set] at hT
      refine At.region rfl rfl ?_
      refine Reg.pur rfl rfl rfl rfl (Pur.fld _ fo37_4 rfl) ?_
      refine Reg.lod rfl rfl rfl rfl (Lod.ld sc3 rfl hX.blk rfl) ?_
      refine Reg.op rfl rfl rfl rfl (Does.call rfl (name_ok _ _)) ?_
      rintro _ H5 ⟨rfl, rfl⟩
      refine Reg.pur rfl rfl rfl rfl (Pur.asg rfl) ?_
      refine Reg.nil ?_
      refine At.meets rfl (hJ (_, _) _ ⟨hX, hT, hE, rfl, _, rfl, ?_⟩) ⟨rfl, rfl, rfl, trivial⟩
      simp only [decide_eq_true_eq, decide_eq_false_iff_not] at *
      subst_vars
      clear hJ hX hT hE
      rw [Bool.eq_iff_iff]
      simp [mayT, tk, namesGo, nameOffs, kidOffs, zeroT, mostT, *]
      try first | done | omega | grind | (split <;> simp_all <;> omega) | exact mayR_rest (by omega)
    refine At.region rfl rfl ?_
    refine Reg.pur rfl rfl rfl rfl (Pur.eql rfl rfl) ?_
    refine Reg.pur rfl rfl rfl rfl (Pur.asg rfl) ?_
    refine Reg.nil ?_
    refine At.cond rfl rfl (fun hb5 => ?_) (fun hb5 => ?_)
    · refine At.region rfl rfl ?_
      refine Reg.pur rfl rfl rfl rfl (Pur.fld _ fo37_4 rfl) ?_
      refine Reg.lod rfl rfl rfl rfl (Lod.ld sc3 rfl hX.blk rfl) ?_
      refine Reg.pur rfl rfl rfl rfl (Pur.fld _ fo37_4 rfl) ?_
      refine Reg.op0 rfl rfl rfl (Does.st sc3 rfl rfl rfl hT (by simp)) ?_
      rintro _ H5 hu5
      refine Reg.nil ?_
      have hX := hX.upd hu5 (by omega)
      have hE := hE.upd hu5 (by omega)
      have hT := hu5.own
      rw [Is_set] at hT
      refine At.region rfl rfl ?_
      refine Reg.pur rfl rfl rfl rfl (Pur.fld _ fo37_4 rfl) ?_
      refine Reg.lod rfl rfl rfl rfl (Lod.ld sc3 rfl hX.blk rfl) ?_
      refine Reg.pur rfl rfl rfl rfl (Pur.geq rfl rfl) ?_
      refine Reg.pur rfl rfl rfl rfl (Pur.mv rfl) ?_
      refine Reg.case 47 rfl (fun hc6 => ?_) (fun hc6 => ?_)
      · refine Reg.gpur rfl rfl rfl rfl rfl rfl (Pur.fld _ fo37_4 rfl) ?_
        refine Reg.glod rfl rfl rfl rfl rfl rfl (Lod.ld sc3 rfl hX.blk rfl) ?_
        refine Reg.gpur rfl rfl rfl rfl rfl rfl (Pur.leq rfl rfl) ?_
        refine Reg.pur rfl rfl rfl rfl (Pur.pickT rfl rfl) ?_
        refine Reg.pur rfl rfl rfl rfl (Pur.asg rfl) ?_
        refine Reg.nil ?_
        refine At.meets rfl (hJ (_, _) _ ⟨hX, hT, hE, rfl, _, rfl, ?_⟩) ⟨rfl, rfl, rfl, trivial⟩
        simp only [decide_eq_true_eq, decide_eq_false_iff_not] at *
        subst_vars
        clear hJ hX hT hE
        rw [Bool.eq_iff_iff]
        simp [mayT, tk, namesGo, nameOffs, kidOffs, zeroT, mostT, *]
        try first | done | omega | grind | (split <;> simp_all <;> omega) | exact mayR_rest (by omega)
      refine Reg.skip rfl rfl rfl rfl rfl rfl rfl ?_
      refine Reg.skip rfl rfl rfl rfl rfl rfl rfl ?_
      refine Reg.skip rfl rfl rfl rfl rfl rfl rfl ?_
      refine Reg.pur rfl rfl rfl rfl (Pur.pickF rfl rfl) ?_
      refine Reg.pur rfl rfl rfl rfl (Pur.asg rfl) ?_
      refine Reg.nil ?_
      refine At.meets rfl (hJ (_, _) _ ⟨hX, hT, hE, rfl, _, rfl, ?_⟩) ⟨rfl, rfl, rfl, trivial⟩
      simp only [decide_eq_true_eq, decide_eq_false_iff_not] at *
      subst_vars
      clear hJ hX hT hE
      rw [Bool.eq_iff_iff]
      simp [mayT, tk, namesGo, nameOffs, kidOffs, zeroT, mostT, *]
      try first | done | omega | grind | (split <;> simp_all <;> omega) | exact mayR_rest (by omega)
    refine At.region rfl rfl ?_
    refine Reg.pur rfl rfl rfl rfl (Pur.eql rfl rfl) ?_
    refine Reg.pur rfl rfl rfl rfl (Pur.asg rfl) ?_
    refine Reg.nil ?_
    refine At.cond rfl rfl (fun hb7 => ?_) (fun hb7 => ?_)
    · refine At.region rfl rfl ?_
      refine Reg.pur rfl rfl rfl rfl (Pur.fld _ fo37_4 rfl) ?_
      refine Reg.lod rfl rfl rfl rfl (Lod.ld sc3 rfl hX.blk rfl) ?_
      refine Reg.pur rfl rfl rfl rfl (Pur.fld _ fo37_4 rfl) ?_
      refine Reg.op0 rfl rfl rfl (Does.st sc3 rfl rfl rfl hT (by simp)) ?_
      rintro _ H5 hu5
      refine Reg.nil ?_
      have hX := hX.upd hu5 (by omega)
      have hE := hE.upd hu5 (by omega)
      have hT := hu5.own
      rw [Is_set] at hT
      refine At.region rfl rfl ?_
      refine Reg.pur rfl rfl rfl rfl (Pur.fld _ fo37_4 rfl) ?_
      refine Reg.lod rfl rfl rfl rfl (Lod.ld sc3 rfl hX.blk rfl) ?_
      refine Reg.pur rfl rfl rfl rfl (Pur.eql rfl rfl) ?_
      refine Reg.pur rfl rfl rfl rfl (Pur.mv rfl) ?_
      refine Reg.case 60 rfl (fun hc8 => ?_) (fun hc8 => ?_)
      · refine Reg.skip rfl rfl rfl rfl rfl rfl rfl ?_
        refine Reg.skip rfl rfl rfl rfl rfl rfl rfl ?_
        refine Reg.skip rfl rfl rfl rfl rfl rfl rfl ?_
        refine Reg.pur rfl rfl rfl rfl (Pur.pickT rfl rfl) ?_
        refine Reg.pur rfl rfl rfl rfl (Pur.asg rfl) ?_
        refine Reg.nil ?_
        refine At.meets rfl (hJ (_, _) _ ⟨hX, hT, hE, rfl, _, rfl, ?_⟩) ⟨rfl, rfl, rfl, trivial⟩
        simp only [decide_eq_true_eq, decide_eq_false_iff_not] at *
        subst_vars
        clear hJ hX hT hE
        rw [Bool.eq_iff_iff]
        simp [mayT, tk, namesGo, nameOffs, kidOffs, zeroT, mostT, *]
        try first | done | omega | grind | (split <;> simp_all <;> omega) | exact mayR_rest (by omega)
      refine Reg.gpur rfl rfl rfl rfl rfl rfl (Pur.fld _ fo37_4 rfl) ?_
      refine Reg.glod rfl rfl rfl rfl rfl rfl (Lod.ld sc3 rfl hX.blk rfl) ?_
      refine Reg.gpur rfl rfl rfl rfl rfl rfl (Pur.eql rfl rfl) ?_
      refine Reg.pur rfl rfl rfl rfl (Pur.pickF rfl rfl) ?_
      refine Reg.pur rfl rfl rfl rfl (Pur.asg rfl) ?_
      refine Reg.nil ?_
      refine At.meets rfl (hJ (_, _) _ ⟨hX, hT, hE, rfl, _, rfl, ?_⟩) ⟨rfl, rfl, rfl, trivial⟩
      simp only [decide_eq_true_eq, decide_eq_false_iff_not] at *
      subst_vars
      clear hJ hX hT hE
      rw [Bool.eq_iff_iff]
      simp [mayT, tk, namesGo, nameOffs, kidOffs, zeroT, mostT, *]
      try first | done | omega | grind | (split <;> simp_all <;> omega) | exact mayR_rest (by omega)
    refine At.region rfl rfl ?_
    refine Reg.pur rfl rfl rfl rfl (Pur.eql rfl rfl) ?_
    refine Reg.pur rfl rfl rfl rfl (Pur.asg rfl) ?_
    refine Reg.nil ?_
    refine At.cond rfl rfl (fun hb9 => ?_) (fun hb9 => ?_)
    · refine At.region rfl rfl ?_
      refine Reg.pur rfl rfl rfl rfl (Pur.fld _ fo37_4 rfl) ?_
      refine Reg.lod rfl rfl rfl rfl (Lod.ld sc3 rfl hX.blk rfl) ?_
      refine Reg.pur rfl rfl rfl rfl (Pur.fld _ fo37_4 rfl) ?_
      refine Reg.op0 rfl rfl rfl (Does.st sc3 rfl rfl rfl hT (by simp)) ?_
      rintro _ H5 hu5
      refine Reg.nil ?_
      have hX := hX.upd hu5 (by omega)
      have hE := hE.upd hu5 (by omega)
      have hT := hu5.own
      rw [Is_set] at hT
      refine At.region rfl rfl ?_
      refine Reg.pur rfl rfl rfl rfl (Pur.fld _ fo37_4 rfl) ?_
      refine Reg.lod rfl rfl rfl rfl (Lod.ld sc3 rfl hX.blk rfl) ?_
      refine Reg.pur rfl rfl rfl rfl (Pur.geq rfl rfl) ?_
      refine Reg.pur rfl rfl rfl rfl (Pur.mv rfl) ?_
      refine Reg.case 73 rfl (fun hc10 => ?_) (fun hc10 => ?_)
      · refine Reg.gpur rfl rfl rfl rfl rfl rfl (Pur.fld _ fo37_4 rfl) ?_
        refine Reg.glod rfl rfl rfl rfl rfl rfl (Lod.ld sc3 rfl hX.blk rfl) ?_
        refine Reg.gpur rfl rfl rfl rfl rfl rfl (Pur.leq rfl rfl) ?_
        refine Reg.pur rfl rfl rfl rfl (Pur.pickT rfl rfl) ?_
        refine Reg.pur rfl rfl rfl rfl (Pur.asg rfl) ?_
        refine Reg.nil ?_
        refine At.meets rfl (hJ (_, _) _ ⟨hX, hT, hE, rfl, _, rfl, ?_⟩) ⟨rfl, rfl, rfl, trivial⟩
        simp only [decide_eq_true_eq, decide_eq_false_iff_not] at *
        subst_vars
        clear hJ hX hT hE
        rw [Bool.eq_iff_iff]
        simp [mayT, tk, namesGo, nameOffs, kidOffs, zeroT, mostT, *]
        try first | done | omega | grind | (split <;> simp_all <;> omega) | exact mayR_rest (by omega)
      refine Reg.skip rfl rfl rfl rfl rfl rfl rfl ?_
      refine Reg.skip rfl rfl rfl rfl rfl rfl rfl ?_
      refine Reg.skip rfl rfl rfl rfl rfl rfl rfl ?_
      refine Reg.pur rfl rfl rfl rfl (Pur.pickF rfl rfl) ?_
      refine Reg.pur rfl rfl rfl rfl (Pur.asg rfl) ?_
      refine Reg.nil ?_
      refine At.meets rfl (hJ (_, _) _ ⟨hX, hT, hE, rfl, _, rfl, ?_⟩) ⟨rfl, rfl, rfl, trivial⟩
      simp only [decide_eq_true_eq, decide_eq_false_iff_not] at *
      subst_vars
      clear hJ hX hT hE
      rw [Bool.eq_iff_iff]
      simp [mayT, tk, namesGo, nameOffs, kidOffs, zeroT, mostT, *]
      try first | done | omega | grind | (split <;> simp_all <;> omega) | exact mayR_rest (by omega)
    refine At.region rfl rfl ?_
    refine Reg.pur rfl rfl rfl rfl (Pur.eql rfl rfl) ?_
    refine Reg.pur rfl rfl rfl rfl (Pur.asg rfl) ?_
    refine Reg.nil ?_
    refine At.cond rfl rfl (fun hb11 => ?_) (fun hb11 => ?_)
    · refine At.region rfl rfl ?_
      refine Reg.pur rfl rfl rfl rfl (Pur.fld _ fo37_4 rfl) ?_
      refine Reg.lod rfl rfl rfl rfl (Lod.ld sc3 rfl hX.blk rfl) ?_
      refine Reg.pur rfl rfl rfl rfl (Pur.fld _ fo37_4 rfl) ?_
      refine Reg.op0 rfl rfl rfl (Does.st sc3 rfl rfl rfl hT (by simp)) ?_
      rintro _ H5 hu5
      refine Reg.nil ?_
      have hX := hX.upd hu5 (by omega)
      have hE := hE.upd hu5 (by omega)
      have hT := hu5.own
      rw [Is_set] at hT
      refine At.region rfl rfl ?_
      refine Reg.pur rfl rfl rfl rfl (Pur.fld _ fo37_4 rfl) ?_
      refine Reg.lod rfl rfl rfl rfl (Lod.ld sc3 rfl hX.blk rfl) ?_
      refine Reg.pur rfl rfl rfl rfl (Pur.geq rfl rfl) ?_
      refine Reg.pur rfl rfl rfl rfl (Pur.mv rfl) ?_
      refine Reg.case 86 rfl (fun hc12 => ?_) (fun hc12 => ?_)
      · refine Reg.gpur rfl rfl rfl rfl rfl rfl (Pur.fld _ fo37_4 rfl) ?_
        refine Reg.glod rfl rfl rfl rfl rfl rfl (Lod.ld sc3 rfl hX.blk rfl) ?_
        refine Reg.gpur rfl rfl rfl rfl rfl rfl (Pur.lss rfl rfl) ?_
        refine Reg.pur rfl rfl rfl rfl (Pur.pickT rfl rfl) ?_
        refine Reg.pur rfl rfl rfl rfl (Pur.asg rfl) ?_
        refine Reg.nil ?_
        refine At.meets rfl (hJ (_, _) _ ⟨hX, hT, hE, rfl, _, rfl, ?_⟩) ⟨rfl, rfl, rfl, trivial⟩
        simp only [decide_eq_true_eq, decide_eq_false_iff_not] at *
        subst_vars
        clear hJ hX hT hE
        rw [Bool.eq_iff_iff]
        simp [mayT, tk, namesGo, nameOffs, kidOffs, zeroT, mostT, *]
        try first | done | omega | grind | (split <;> simp_all <;> omega) | exact mayR_rest (by omega)
      refine Reg.skip rfl rfl rfl rfl rfl rfl rfl ?_
      refine Reg.skip rfl rfl rfl rfl rfl rfl rfl ?_
      refine Reg.skip rfl rfl rfl rfl rfl rfl rfl ?_
      refine Reg.pur rfl rfl rfl rfl (Pur.pickF rfl rfl) ?_
      refine Reg.pur rfl rfl rfl rfl (Pur.asg rfl) ?_
      refine Reg.nil ?_
      refine At.meets rfl (hJ (_, _) _ ⟨hX, hT, hE, rfl, _, rfl, ?_⟩) ⟨rfl, rfl, rfl, trivial⟩
      simp only [decide_eq_true_eq, decide_eq_false_iff_not] at *
      subst_vars
      clear hJ hX hT hE
      rw [Bool.eq_iff_iff]
      simp [mayT, tk, namesGo, nameOffs, kidOffs, zeroT, mostT, *]
      try first | done | omega | grind | (split <;> simp_all <;> omega) | exact mayR_rest (by omega)
    refine At.region rfl rfl ?_
    refine Reg.pur rfl rfl rfl rfl (Pur.eql rfl rfl) ?_
    refine Reg.pur rfl rfl rfl rfl (Pur.asg rfl) ?_
    refine Reg.nil ?_
    refine At.cond rfl rfl (fun hb13 => ?_) (fun hb13 => ?_)
    · refine At.condT rfl rfl (by first | exact hb13 | exact decide_eq_true hb13 | exact decide_eq_false hb13 | simpa using hb13) ?_
      refine At.region rfl rfl ?_
      refine Reg.pur rfl rfl rfl rfl (Pur.fld _ fo37_5 rfl) ?_
      refine Reg.lod rfl rfl rfl rfl (Lod.ld sc3 rfl hX.blk rfl) ?_
      refine Reg.pur rfl rfl rfl rfl (Pur.fld _ fo37_5 rfl) ?_
      refine Reg.op0 rfl rfl rfl (Does.st sc3 rfl rfl rfl hT (by simp)) ?_
      rintro _ H5 hu5
      refine Reg.nil ?_
      have hX := hX.upd hu5 (by omega)
      have hE := hE.upd hu5 (by omega)
      have hT := hu5.own
      rw [Is_set] at hT
      refine At.region rfl rfl ?_
      refine Reg.pur rfl rfl rfl rfl (Pur.fld _ fo37_5 rfl) ?_
      refine Reg.lod rfl rfl rfl rfl (Lod.ld sc3 rfl hX.blk rfl) ?_
      refine Reg.op rfl rfl rfl rfl (Does.call rfl (name_ok _ _)) ?_
      rintro _ H5 ⟨rfl, rfl⟩
      refine Reg.pur rfl rfl rfl rfl (Pur.asg rfl) ?_
      refine Reg.nil ?_
      refine At.meets rfl (hJ (_, _) _ ⟨hX, hT, hE, rfl, _, rfl, ?_⟩) ⟨rfl, rfl, rfl, trivial⟩
      simp only [decide_eq_true_eq, decide_eq_false_iff_not] at *
      subst_vars
      clear hJ hX hT hE
      rw [Bool.eq_iff_iff]
      simp [mayT, tk, namesGo, nameOffs, kidOffs, zeroT, mostT, *]
      try first | done | omega | grind | (split <;> simp_all <;> omega) | exact mayR_rest (by omega)
    refine At.region rfl rfl ?_
    refine Reg.pur rfl rfl rfl rfl (Pur.eql rfl rfl) ?_
    refine Reg.pur rfl rfl rfl rfl (Pur.asg rfl) ?_
    refine Reg.nil ?_
    refine At.cond rfl rfl (fun hb14 => ?_) (fun hb14 => ?_)
    · refine At.condT rfl rfl (by first | exact hb14 | exact decide_eq_true hb14 | exact decide_eq_false hb14 | simpa using hb14) ?_
      refine At.region rfl rfl ?_
      refine Reg.pur rfl rfl rfl rfl (Pur.fld _ fo37_5 rfl) ?_
      refine Reg.lod rfl rfl rfl rfl (Lod.ld sc3 rfl hX.blk rfl) ?_
      refine Reg.pur rfl rfl rfl rfl (Pur.fld _ fo37_5 rfl) ?_
      refine Reg.op0 rfl rfl rfl (Does.st sc3 rfl rfl rfl hT (by simp)) ?_
      rintro _ H5 hu5
      refine Reg.nil ?_
      have hX := hX.upd hu5 (by omega)
      have hE := hE.upd hu5 (by omega)
      have hT := hu5.own
      rw [Is_set] at hT
      refine At.region rfl rfl ?_
      refine Reg.pur rfl rfl rfl rfl (Pur.fld _ fo37_5 rfl) ?_
      refine Reg.lod rfl rfl rfl rfl (Lod.ld sc3 rfl hX.blk rfl) ?_
      refine Reg.op rfl rfl rfl rfl (Does.call rfl (name_ok _ _)) ?_
      rintro _ H5 ⟨rfl, rfl⟩
      refine Reg.pur rfl rfl rfl rfl (Pur.asg rfl) ?_
      refine Reg.nil ?_
      refine At.meets rfl (hJ (_, _) _ ⟨hX, hT, hE, rfl, _, rfl, ?_⟩) ⟨rfl, rfl, rfl, trivial⟩
      simp only [decide_eq_true_eq, decide_eq_false_iff_not] at *
      subst_vars
      clear hJ hX hT hE
      rw [Bool.eq_iff_iff]
      simp [mayT, tk, namesGo, nameOffs, kidOffs, zeroT, mostT, *]
      try first | done | omega | grind | (split <;> simp_all <;> omega) | exact mayR_rest (by omega)
    refine At.region rfl rfl ?_
    refine Reg.pur rfl rfl rfl rfl (Pur.eql rfl rfl) ?_
    refine Reg.pur rfl rfl rfl rfl (Pur.asg rfl) ?_
    refine Reg.nil ?_
    refine At.cond rfl rfl (fun hb15 => ?_) (fun hb15 => ?_)
    · refine At.region rfl rfl ?_
      refine Reg.pur rfl rfl rfl rfl (Pur.fld _ fo37_5 rfl) ?_
      refine Reg.lod rfl rfl rfl rfl (Lod.ld sc3 rfl hX.blk rfl) ?_
      refine Reg.pur rfl rfl rfl rfl (Pur.fld _ fo37_5 rfl) ?_
      refine Reg.op0 rfl rfl rfl (Does.st sc3 rfl rfl rfl hT (by simp)) ?_
      rintro _ H5 hu5
      refine Reg.nil ?_
      have hX := hX.upd hu5 (by omega)
      have hE := hE.upd hu5 (by omega)
      have hT := hu5.own
      rw [Is_set] at hT
      refine At.region rfl rfl ?_
      refine Reg.pur rfl rfl rfl rfl (Pur.fld _ fo37_5 rfl) ?_
      refine Reg.lod rfl rfl rfl rfl (Lod.ld sc3 rfl hX.blk rfl) ?_
      refine Reg.op rfl rfl rfl rfl (Does.call rfl (name_ok _ _)) ?_
      rintro _ H5 ⟨rfl, rfl⟩
      refine Reg.pur rfl rfl rfl rfl (Pur.asg rfl) ?_
      refine Reg.nil ?_
      refine At.meets rfl (hJ (_, _) _ ⟨hX, hT, hE, rfl, _, rfl, ?_⟩) ⟨rfl, rfl, rfl, trivial⟩
      simp only [decide_eq_true_eq, decide_eq_false_iff_not] at *
      subst_vars
      clear hJ hX hT hE
      rw [Bool.eq_iff_iff]
      simp [mayT, tk, namesGo, nameOffs, kidOffs, zeroT, mostT, *]
      try first | done | omega | grind | (split <;> simp_all <;> omega) | exact mayR_rest (by omega)
    refine At.region rfl rfl ?_
    refine Reg.pur rfl rfl rfl rfl (Pur.eql rfl rfl) ?_
    refine Reg.pur rfl rfl rfl rfl (Pur.asg rfl) ?_
    refine Reg.nil ?_
    refine At.cond rfl rfl (fun hb16 => ?_) (fun hb16 => ?_)
    · refine At.region rfl rfl ?_
      refine Reg.pur rfl rfl rfl rfl (Pur.fld _ fo37_5 rfl) ?_
      refine Reg.lod rfl rfl rfl rfl (Lod.ld sc3 rfl hX.blk rfl) ?_
      refine Reg.pur rfl rfl rfl rfl (Pur.fld _ fo37_5 rfl) ?_
      refine Reg.op0 rfl rfl rfl (Does.st sc3 rfl rfl rfl hT (by simp)) ?_
      rintro _ H5 hu5
      refine Reg.nil ?_
      have hX := hX.upd hu5 (by omega)
      have hE := hE.upd hu5 (by omega)
      have hT := hu5.own
      rw [Is_set] at hT
      refine At.region rfl rfl ?_
      refine Reg.pur rfl rfl rfl rfl (Pur.fld _ fo37_6 rfl) ?_
      refine Reg.lod rfl rfl rfl rfl (Lod.ld sc3 rfl hX.blk rfl) ?_
      refine Reg.pur rfl rfl rfl rfl (Pur.fld _ fo37_6 rfl) ?_
      refine Reg.op0 rfl rfl rfl (Does.st sc3 rfl rfl rfl hT (by simp)) ?_
      rintro _ H5 hu5
      refine Reg.nil ?_
      have hX := hX.upd hu5 (by omega)
      have hE := hE.upd hu5 (by omega)
      have hT := hu5.own
      rw [Is_set] at hT
      refine At.region rfl rfl ?_
      refine Reg.pur rfl rfl rfl rfl (Pur.fld _ fo37_5 rfl) ?_
      refine Reg.lod rfl rfl rfl rfl (Lod.ld sc3 rfl hX.blk rfl) ?_
      refine Reg.op rfl rfl rfl rfl (Does.call rfl (name_ok _ _)) ?_
      rintro _ H5 ⟨rfl, rfl⟩
      refine Reg.pur rfl rfl rfl rfl (Pur.mv rfl) ?_
      refine Reg.case 112 rfl (fun hc17 => ?_) (fun hc17 => ?_)
      · refine Reg.gpur rfl rfl rfl rfl rfl rfl (Pur.fld _ fo37_6 rfl) ?_
        refine Reg.glod rfl rfl rfl rfl rfl rfl (Lod.ld sc3 rfl hX.blk rfl) ?_
        refine Reg.gop rfl rfl rfl rfl rfl rfl (Does.call rfl (name_ok _ _)) ?_
        rintro _ H5 ⟨rfl, rfl⟩
        refine Reg.pur rfl rfl rfl rfl (Pur.pickT rfl rfl) ?_
        refine Reg.pur rfl rfl rfl rfl (Pur.asg rfl) ?_
        refine Reg.nil ?_
        refine At.meets rfl (hJ (_, _) _ ⟨hX, hT, hE, rfl, _, rfl, ?_⟩) ⟨rfl, rfl, rfl, trivial⟩
        simp only [decide_eq_true_eq, decide_eq_false_iff_not] at *
        subst_vars
        clear hJ hX hT hE
        rw [Bool.eq_iff_iff]
        simp [mayT, tk, namesGo, nameOffs, kidOffs, zeroT, mostT, *]
        try first | done | omega | grind | (split <;> simp_all <;> omega) | exact mayR_rest (by omega)
      refine Reg.skip rfl rfl rfl rfl rfl rfl rfl ?_
      refine Reg.skip rfl rfl rfl rfl rfl rfl rfl ?_
      refine Reg.skip rfl rfl rfl rfl rfl rfl rfl ?_
      refine Reg.pur rfl rfl rfl rfl (Pur.pickF rfl rfl) ?_
      refine Reg.pur rfl rfl rfl rfl (Pur.asg rfl) ?_
      refine Reg.nil ?_
      refine At.meets rfl (hJ (_, _) _ ⟨hX, hT, hE, rfl, _, rfl, ?_⟩) ⟨rfl, rfl, rfl, trivial⟩
      simp only [decide_eq_true_eq, decide_eq_false_iff_not] at *
      subst_vars
      clear hJ hX hT hE
      rw [Bool.eq_iff_iff]
      simp [mayT, tk, namesGo, nameOffs, kidOffs, zeroT, mostT, *]
      try first | done | omega | grind | (split <;> simp_all <;> omega) | exact mayR_rest (by omega)
    refine At.region rfl rfl ?_
    refine Reg.pur rfl rfl rfl rfl (Pur.eql rfl rfl) ?_
    refine Reg.pur rfl rfl rfl rfl (Pur.asg rfl) ?_
    refine Reg.nil ?_
    refine At.cond rfl rfl (fun hb18 => ?_) (fun hb18 => ?_)
    · refine At.region rfl rfl ?_
      refine Reg.pur rfl rfl rfl rfl (Pur.fld _ fo37_4 rfl) ?_
      refine Reg.lod rfl rfl rfl rfl (Lod.ld sc3 rfl hX.blk rfl) ?_
      refine Reg.pur rfl rfl rfl rfl (Pur.fld _ fo37_4 rfl) ?_
      refine Reg.op0 rfl rfl rfl (Does.st sc3 rfl rfl rfl hT (by simp)) ?_
      rintro _ H5 hu5
      refine Reg.nil ?_
      have hX := hX.upd hu5 (by omega)
      have hE := hE.upd hu5 (by omega)
      have hT := hu5.own
      rw [Is_set] at hT
      refine At.region rfl rfl ?_
      refine Reg.pur rfl rfl rfl rfl (Pur.fld _ fo37_5 rfl) ?_
      refine Reg.lod rfl rfl rfl rfl (Lod.ld sc3 rfl hX.blk rfl) ?_
      refine Reg.pur rfl rfl rfl rfl (Pur.fld _ fo37_5 rfl) ?_
      refine Reg.op0 rfl rfl rfl (Does.st sc3 rfl rfl rfl hT (by simp)) ?_
      rintro _ H5 hu5
      refine Reg.nil ?_
      have hX := hX.upd hu5 (by omega)
      have hE := hE.upd hu5 (by omega)
      have hT := hu5.own
      rw [Is_set] at hT
      refine At.region rfl rfl ?_
      refine Reg.pur rfl rfl rfl rfl (Pur.fld _ fo37_6 rfl) ?_
      refine Reg.lod rfl rfl rfl rfl (Lod.ld sc3 rfl hX.blk rfl) ?_
      refine Reg.pur rfl rfl rfl rfl (Pur.fld _ fo37_6 rfl) ?_
      refine Reg.op0 rfl rfl rfl (Does.st sc3 rfl rfl rfl hT (by simp)) ?_
      rintro _ H5 hu5
      refine Reg.nil ?_
      have hX := hX.upd hu5 (by omega)
      have hE := hE.upd hu5 (by omega)
      have hT := hu5.own
      rw [Is_set] at hT
      refine At.region rfl rfl ?_
      refine Reg.pur rfl rfl rfl rfl (Pur.fld _ fo37_7 rfl) ?_
      refine Reg.lod rfl rfl rfl rfl (Lod.ld sc3 rfl hX.blk rfl) ?_
      refine Reg.pur rfl rfl rfl rfl (Pur.fld _ fo37_7 rfl) ?_
      refine Reg.op0 rfl rfl rfl (Does.st sc3 rfl rfl rfl hT (by simp)) ?_
      rintro _ H5 hu5
      refine Reg.nil ?_
      have hX := hX.upd hu5 (by omega)
      have hE := hE.upd hu5 (by omega)
      have hT := hu5.own
      rw [Is_set] at hT
      refine At.region rfl rfl ?_
      refine Reg.pur rfl rfl rfl rfl (Pur.fld _ fo37_8 rfl) ?_
      refine Reg.lod rfl rfl rfl rfl (Lod.ld sc3 rfl hX.blk rfl) ?_
      refine Reg.pur rfl rfl rfl rfl (Pur.fld _ fo37_8 rfl) ?_
      refine Reg.op0 rfl rfl rfl (Does.st sc3 rfl rfl rfl hT (by simp)) ?_
      rintro _ H5 hu5
      refine Reg.nil ?_
      have hX := hX.upd hu5 (by omega)
      have hE := hE.upd hu5 (by omega)
      have hT := hu5.own
      rw [Is_set] at hT
      refine At.region rfl rfl ?_
      refine Reg.pur rfl rfl rfl rfl (Pur.fld _ fo37_4 rfl) ?_
      refine Reg.lod rfl rfl rfl rfl (Lod.ld sc3 rfl hX.blk rfl) ?_
      refine Reg.pur rfl rfl rfl rfl (Pur.geq rfl rfl) ?_
      refine Reg.pur rfl rfl rfl rfl (Pur.mv rfl) ?_
      refine Reg.case 137 rfl (fun hc19 => ?_) (fun hc19 => ?_)
      · refine Reg.gpur rfl rfl rfl rfl rfl rfl (Pur.fld _ fo37_4 rfl) ?_
        refine Reg.glod rfl rfl rfl rfl rfl rfl (Lod.ld sc3 rfl hX.blk rfl) ?_
        refine Reg.gpur rfl rfl rfl rfl rfl rfl (Pur.lss rfl rfl) ?_
        refine Reg.pur rfl rfl rfl rfl (Pur.pickT rfl rfl) ?_
        refine Reg.pur rfl rfl rfl rfl (Pur.mv rfl) ?_
        refine Reg.case 142 rfl (fun hc20 => ?_) (fun hc20 => ?_)
        · refine Reg.gpur rfl rfl rfl rfl rfl rfl (Pur.fld _ fo37_5 rfl) ?_
          refine Reg.glod rfl rfl rfl rfl rfl rfl (Lod.ld sc3 rfl hX.blk rfl) ?_
          refine Reg.gop rfl rfl rfl rfl rfl rfl (Does.call rfl (name_ok _ _)) ?_
          rintro _ H5 ⟨rfl, rfl⟩
          refine Reg.pur rfl rfl rfl rfl (Pur.pickT rfl rfl) ?_
          refine Reg.pur rfl rfl rfl rfl (Pur.mv rfl) ?_
          refine Reg.case 147 rfl (fun hc21 => ?_) (fun hc21 => ?_)
          · refine Reg.gpur rfl rfl rfl rfl rfl rfl (Pur.fld _ fo37_6 rfl) ?_
            refine Reg.glod rfl rfl rfl rfl rfl rfl (Lod.ld sc3 rfl hX.blk rfl) ?_
            refine Reg.gop rfl rfl rfl rfl rfl rfl (Does.call rfl (name_ok _ _)) ?_
            rintro _ H5 ⟨rfl, rfl⟩
            refine Reg.pur rfl rfl rfl rfl (Pur.pickT rfl rfl) ?_
            refine Reg.pur rfl rfl rfl rfl (Pur.mv rfl) ?_
            refine Reg.case 152 rfl (fun hc22 => ?_) (fun hc22 => ?_)
            · refine Reg.gpur rfl rfl rfl rfl rfl rfl (Pur.fld _ fo37_7 rfl) ?_
              refine Reg.glod rfl rfl rfl rfl rfl rfl (Lod.ld sc3 rfl hX.blk rfl) ?_
              refine Reg.gop rfl rfl rfl rfl rfl rfl (Does.call rfl (name_ok _ _)) ?_
              rintro _ H5 ⟨rfl, rfl⟩
              refine Reg.pur rfl rfl rfl rfl (Pur.pickT rfl rfl) ?_
              refine Reg.pur rfl rfl rfl rfl (Pur.mv rfl) ?_
              refine Reg.case 157 rfl (fun hc23 => ?_) (fun hc23 => ?_)
              · refine Reg.gpur rfl rfl rfl rfl rfl rfl (Pur.fld _ fo37_8 rfl) ?_
                refine Reg.glod rfl rfl rfl rfl rfl rfl (Lod.ld sc3 rfl hX.blk rfl) ?_
                refine Reg.gop rfl rfl rfl rfl rfl rfl (Does.call rfl (name_ok _ _)) ?_
                rintro _ H5 ⟨rfl, rfl⟩
                refine Reg.pur rfl rfl rfl rfl (Pur.pickT rfl rfl) ?_
                refine Reg.pur rfl rfl rfl rfl (Pur.asg rfl) ?_
                refine Reg.nil ?_
                refine At.meets rfl (hJ (_, _) _ ⟨hX, hT, hE, rfl, _, rfl, ?_⟩) ⟨rfl, rfl, rfl, trivial⟩
                simp only [decide_eq_true_eq, decide_eq_false_iff_not] at *
                subst_vars
                clear hJ hX hT hE
                rw [Bool.eq_iff_iff]
                simp [mayT, tk, namesGo, nameOffs, kidOffs, zeroT, mostT, *]
                try first | done | omega | grind | (split <;> simp_all <;> omega) | exact mayR_rest (by omega)
              refine Reg.skip rfl rfl rfl rfl rfl rfl rfl ?_
              refine Reg.skip rfl rfl rfl rfl rfl rfl rfl ?_
              refine Reg.skip rfl rfl rfl rfl rfl rfl rfl ?_
              refine Reg.pur rfl rfl rfl rfl (Pur.pickF rfl rfl) ?_
              refine Reg.pur rfl rfl rfl rfl (Pur.asg rfl) ?_
              refine Reg.nil ?_
              refine At.meets rfl (hJ (_, _) _ ⟨hX, hT, hE, rfl, _, rfl, ?_⟩) ⟨rfl, rfl, rfl, trivial⟩
              simp only [decide_eq_true_eq, decide_eq_false_iff_not] at *
              subst_vars
              clear hJ hX hT hE
              rw [Bool.eq_iff_iff]
              simp [mayT, tk, namesGo, nameOffs, kidOffs, zeroT, mostT, *]
              try first | done | omega | grind | (split <;> simp_all <;> omega) | exact mayR_rest (by omega)
            refine Reg.skip rfl rfl rfl rfl rfl rfl rfl ?_
            refine Reg.skip rfl rfl rfl rfl rfl rfl rfl ?_
            refine Reg.skip rfl rfl rfl rfl rfl rfl rfl ?_
            refine Reg.pur rfl rfl rfl rfl (Pur.pickF rfl rfl) ?_
            refine Reg.pur rfl rfl rfl rfl (Pur.mv rfl) ?_
            refine Reg.skip rfl rfl rfl rfl rfl rfl rfl ?_
            refine Reg.skip rfl rfl rfl rfl rfl rfl rfl ?_
            refine Reg.skip rfl rfl rfl rfl rfl rfl rfl ?_
            refine Reg.pur rfl rfl rfl rfl (Pur.pickF rfl rfl) ?_
            refine Reg.pur rfl rfl rfl rfl (Pur.asg rfl) ?_
            refine Reg.nil ?_
            refine At.meets rfl (hJ (_, _) _ ⟨hX, hT, hE, rfl, _, rfl, ?_⟩) ⟨rfl, rfl, rfl, trivial⟩
            simp only [decide_eq_true_eq, decide_eq_false_iff_not] at *
            subst_vars
            clear hJ hX hT hE
            rw [Bool.eq_iff_iff]
            simp [mayT, tk, namesGo, nameOffs, kidOffs, zeroT, mostT, *]
            try first | done | omega | grind | (split <;> simp_all <;> omega) | exact mayR_rest (by omega)
          refine Reg.skip rfl rfl rfl rfl rfl rfl rfl ?_
          refine Reg.skip rfl rfl rfl rfl rfl rfl rfl ?_
          refine Reg.skip rfl rfl rfl rfl rfl rfl rfl ?_
          refine Reg.pur rfl rfl rfl rfl (Pur.pickF rfl rfl) ?_
          refine Reg.pur rfl rfl rfl rfl (Pur.mv rfl) ?_
          refine Reg.skip rfl rfl rfl rfl rfl rfl rfl ?_
          refine Reg.skip rfl rfl rfl rfl rfl rfl rfl ?_
          refine Reg.skip rfl rfl rfl rfl rfl rfl rfl ?_
          refine Reg.pur rfl rfl rfl rfl (Pur.pickF rfl rfl) ?_
          refine Reg.pur rfl rfl rfl rfl (Pur.mv rfl) ?_
          refine Reg.skip rfl rfl rfl rfl rfl rfl rfl ?_
          refine Reg.skip rfl rfl rfl rfl rfl rfl rfl ?_
          refine Reg.skip rfl rfl rfl rfl rfl rfl rfl ?_
          refine Reg.pur rfl rfl rfl rfl (Pur.pickF rfl rfl) ?_
          refine Reg.pur rfl rfl rfl rfl (Pur.asg rfl) ?_
          refine Reg.nil ?_
          refine At.meets rfl (hJ (_, _) _ ⟨hX, hT, hE, rfl, _, rfl, ?_⟩) ⟨rfl, rfl, rfl, trivial⟩
          simp only [decide_eq_true_eq, decide_eq_false_iff_not] at *
          subst_vars
          clear hJ hX hT hE
          rw [Bool.eq_iff_iff]
          simp [mayT, tk, namesGo, nameOffs, kidOffs, zeroT, mostT, *]
          try first | done | omega | grind | (split <;> simp_all <;> omega) | exact mayR_rest (by omega)
        refine Reg.skip rfl rfl rfl rfl rfl rfl rfl ?_
        refine Reg.skip rfl rfl rfl rfl rfl rfl rfl ?_
        refine Reg.skip rfl rfl rfl rfl rfl rfl rfl ?_
        refine Reg.pur rfl rfl rfl rfl (Pur.pickF rfl rfl) ?_
        refine Reg.pur rfl rfl rfl rfl (Pur.mv rfl) ?_
        refine Reg.skip rfl rfl rfl rfl rfl rfl rfl ?_
        refine Reg.skip rfl rfl rfl rfl rfl rfl rfl ?_
        refine Reg.skip rfl rfl rfl rfl rfl rfl rfl ?_
        refine Reg.pur rfl rfl rfl rfl (Pur.pickF rfl rfl) ?_
        refine Reg.pur rfl rfl rfl rfl (Pur.mv rfl) ?_
        refine Reg.skip rfl rfl rfl rfl rfl rfl rfl ?_
        refine Reg.skip rfl rfl rfl rfl rfl rfl rfl ?_
        refine Reg.skip rfl rfl rfl rfl rfl rfl rfl ?_
        refine Reg.pur rfl rfl rfl rfl (Pur.pickF rfl rfl) ?_
        refine Reg.pur rfl rfl rfl rfl (Pur.mv rfl) ?_
        refine Reg.skip rfl rfl rfl rfl rfl rfl rfl ?_
        refine Reg.skip rfl rfl rfl rfl rfl rfl rfl ?_
        refine Reg.skip rfl rfl rfl rfl rfl rfl rfl ?_
        refine Reg.pur rfl rfl rfl rfl (Pur.pickF rfl rfl) ?_
        refine Reg.pur rfl rfl rfl rfl (Pur.asg rfl) ?_
        refine Reg.nil ?_
        refine At.meets rfl (hJ (_, _) _ ⟨hX, hT, hE, rfl, _, rfl, ?_⟩) ⟨rfl, rfl, rfl, trivial⟩
        simp only [decide_eq_true_eq, decide_eq_false_iff_not] at *
        subst_vars
        clear hJ hX hT hE
        rw [Bool.eq_iff_iff]
        simp [mayT, tk, namesGo, nameOffs, kidOffs, zeroT, mostT, *]
        try first | done | omega | grind | (split <;> simp_all <;> omega) | exact mayR_rest (by omega)
      refine Reg.skip rfl rfl rfl rfl rfl rfl rfl ?_
      refine Reg.skip rfl rfl rfl rfl rfl rfl rfl ?_
      refine Reg.skip rfl rfl rfl rfl rfl rfl rfl ?_
      refine Reg.pur rfl rfl rfl rfl (Pur.pickF rfl rfl) ?_
      refine Reg.pur rfl rfl rfl rfl (Pur.mv rfl) ?_
      refine Reg.skip rfl rfl rfl rfl rfl rfl rfl ?_
      refine Reg.skip rfl rfl rfl rfl rfl rfl rfl ?_
      refine Reg.skip rfl rfl rfl rfl rfl rfl rfl ?_
      refine Reg.pur rfl rfl rfl rfl (Pur.pickF rfl rfl) ?_
      refine Reg.pur rfl rfl rfl rfl (Pur.mv rfl) ?_
      refine Reg.skip rfl rfl rfl rfl rfl rfl rfl ?_
      refine Reg.skip rfl rfl rfl rfl rfl rfl rfl ?_
      refine Reg.skip rfl rfl rfl rfl rfl rfl rfl ?_
      refine Reg.pur rfl rfl rfl rfl (Pur.pickF rfl rfl) ?_
      refine Reg.pur rfl rfl rfl rfl (Pur.mv rfl) ?_
      refine Reg.skip rfl rfl rfl rfl rfl rfl rfl ?_
      refine Reg.skip rfl rfl rfl rfl rfl rfl rfl ?_
      refine Reg.skip rfl rfl rfl rfl rfl rfl rfl ?_
      refine Reg.pur rfl rfl rfl rfl (Pur.pickF rfl rfl) ?_
      refine Reg.pur rfl rfl rfl rfl (Pur.mv rfl) ?_
      refine Reg.skip rfl rfl rfl rfl rfl rfl rfl ?_
      refine Reg.skip rfl rfl rfl rfl rfl rfl rfl ?_
      refine Reg.skip rfl rfl rfl rfl rfl rfl rfl ?_
      refine Reg.pur rfl rfl rfl rfl (Pur.pickF rfl rfl) ?_
      refine Reg.pur rfl rfl rfl rfl (Pur.asg rfl) ?_
      refine Reg.nil ?_
      refine At.meets rfl (hJ (_, _) _ ⟨hX, hT, hE, rfl, _, rfl, ?_⟩) ⟨rfl, rfl, rfl, trivial⟩
      simp only [decide_eq_true_eq, decide_eq_false_iff_not] at *
      subst_vars
      clear hJ hX hT hE
      rw [Bool.eq_iff_iff]
      simp [mayT, tk, namesGo, nameOffs, kidOffs, zeroT, mostT, *]
      try first | done | omega | grind | (split <;> simp_all <;> omega) | exact mayR_rest (by omega)
    refine At.meets rfl (hJ (_, _) _ ⟨hX, hT, hE, rfl, _, rfl, ?_⟩) ⟨rfl, rfl, rfl, trivial⟩
    simp only [decide_eq_true_eq, decide_eq_false_iff_not] at *
    subst_vars
    clear hJ hX hT hE
    rw [Bool.eq_iff_iff]
    simp [mayT, tk, namesGo, nameOffs, kidOffs, zeroT, mostT, *]
    try first | done | omega | grind | (split <;> simp_all <;> omega) | exact mayR_rest (by omega)
  obtain ⟨ys, vok⟩ := s
  dsimp only at hT hs9 hok hs ⊢
  subst hok
  refine At.region rfl rfl ?_
  refine Reg.pur rfl rfl rfl rfl (Pur.mv rfl) ?_
  refine Reg.pur rfl rfl rfl rfl (Pur.mv rfl) ?_
  refine Reg.case 163 rfl (fun hc24 => ?_) (fun hc24 => ?_)
  · refine Reg.glod rfl rfl rfl rfl rfl rfl (Lod.ldn ag37 rfl hX.blk (by simp only [List.drop_succ_cons, List.drop_zero, List.take_succ_cons, List.take_zero]; rfl) rfl) ?_
    refine Reg.glod rfl rfl rfl rfl rfl rfl (Lod.ldn ag37 rfl hT.blk (by rw [List.drop_zero, List.take_of_length_le (by simp; omega)]) (by simp [hs9])) ?_
    refine Reg.gpur rfl rfl rfl rfl rfl rfl (Pur.eqA eqt37 rfl rfl (fks_ints .i64 [k, a, b, c, d, e, f, g, h]) (by have := fks_ints .i64 ys; rwa [hs9] at this)) ?_
    refine Reg.pur rfl rfl rfl rfl (Pur.pickT rfl rfl) ?_
    refine Reg.pur rfl rfl rfl rfl (Pur.asg rfl) ?_
    refine Reg.nil ?_
    refine At.ret rfl Try.func31 rfl ?_
    refine ⟨congrArg Value.bool ?_, hE⟩
    first | (rw [hs, ← eqs_ints .i64]; simp [*]; done)
  refine Reg.skip rfl rfl rfl rfl rfl rfl rfl ?_
  refine Reg.skip rfl rfl rfl rfl rfl rfl rfl ?_
  refine Reg.skip rfl rfl rfl rfl rfl rfl rfl ?_
  refine Reg.pur rfl rfl rfl rfl (Pur.pickF rfl rfl) ?_
  refine Reg.pur rfl rfl rfl rfl (Pur.asg rfl) ?_
  refine Reg.nil ?_
  refine At.ret rfl Try.func31 rfl ?_
  refine ⟨congrArg Value.bool ?_, hE⟩
  first | (rw [hs, ← eqs_ints .i64]; simp [*]; done)
end Go.Proofs.Ytjhkmebmbopfoaa
