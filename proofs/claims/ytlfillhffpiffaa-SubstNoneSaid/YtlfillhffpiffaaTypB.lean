/-
  Types that may be.
-/
import Derived.Test.YtlfillhffpiffaaTypA
namespace Go.Proofs.Ytlfillhffpiffaa
set_option linter.unusedSimpArgs false
set_option linter.unusedVariables false
set_option maxRecDepth 8000
open Go Go.Fx Go.Proofs
namespace FactsTypB
theorem ag28 : ag Try.prog 28 = some 5 := by kernel_rfl
theorem ag47 : ag Try.prog 47 = some 9 := by kernel_rfl
theorem eqt47 : eqT Try.prog 47 = some [.int .i64, .int .i64, .int .i64, .int .i64, .int .i64, .int .i64, .int .i64, .int .i64, .int .i64] := by kernel_rfl
theorem fo47_0 : foff Try.prog 47 0 = some 0 := by kernel_rfl
theorem fo47_1 : foff Try.prog 47 1 = some 1 := by kernel_rfl
theorem fo47_2 : foff Try.prog 47 2 = some 2 := by kernel_rfl
theorem fo47_3 : foff Try.prog 47 3 = some 3 := by kernel_rfl
theorem fo47_4 : foff Try.prog 47 4 = some 4 := by kernel_rfl
theorem pl28 : places Try.prog 28 = some [(0, 4), (4, 1)] := by kernel_rfl
theorem pl47 : places Try.prog 47 = some [(0, 1), (1, 1), (2, 1), (3, 1), (4, 5)] := by kernel_rfl
theorem sc3 : sc Try.prog 3 = true := by kernel_rfl
theorem zc28 : zc Try.prog 28 = some [.int .i64 0, .int .i64 0, .int .i64 0, .int .i64 0, .int .i64 0] := by kernel_rfl
theorem zc47 : zc Try.prog 47 = some [.int .i64 0, .int .i64 0, .int .i64 0, .int .i64 0, .int .i64 0, .int .i64 0, .int .i64 0, .int .i64 0, .int .i64 0] := by kernel_rfl
end FactsTypB
open FactsTypB

theorem nodMay_ok (k v a b c d e f t : Int) (H : Heap) : Ret Try.prog 85 [.agg (Is [k, v, a, b, c, d, e, f, t]).toArray] H (fun r H' => r = .bool (nodM [k, v, a, b, c, d, e, f, t]) ∧ Ext H H') := by
  refine Ret.of_at (N := 37) Try.call85 Try.func85 rfl rfl rfl ?_
  refine At.region rfl rfl ?_
  refine Reg.op rfl rfl rfl rfl (Does.box rfl rfl) ?_
  rintro _ H1 ⟨rfl, hn1⟩
  refine Reg.pur rfl rfl rfl rfl (Pur.asg rfl) ?_
  refine Reg.nil ?_
  have hX := hn1.own
  refine At.region rfl rfl ?_
  refine Reg.pur rfl rfl rfl rfl (Pur.fld _ fo47_0 rfl) ?_
  refine Reg.lod rfl rfl rfl rfl (Lod.ld sc3 rfl hX.blk rfl) ?_
  refine Reg.nil ?_
  refine At.region rfl rfl ?_
  refine Reg.pur rfl rfl rfl rfl (Pur.eql rfl rfl) ?_
  refine Reg.pur rfl rfl rfl rfl (Pur.asg rfl) ?_
  refine Reg.nil ?_
  refine At.cond rfl rfl (fun hb1 => ?_) (fun hb1 => ?_)
  · have hr := rowMay_ok [c, d, e, f, t] rfl H1
    refine At.region rfl rfl ?_
    refine Reg.pur rfl rfl rfl rfl (Pur.fld _ fo47_4 rfl) ?_
    refine Reg.lod rfl rfl rfl rfl (Lod.ldn ag28 rfl hX.blk (show _ = Is [c, d, e, f, t] from rfl) rfl) ?_
    refine Reg.op rfl rfl rfl rfl (Does.call rfl (hr)) ?_
    rintro _ H2 ⟨rfl, hE2⟩
    refine Reg.pur rfl rfl rfl rfl (Pur.not rfl) ?_
    refine Reg.nil ?_
    have hX := hX.ext hE2
    refine At.cond rfl rfl (fun hb2 => ?_) (fun hb2 => ?_)
    · refine At.region rfl rfl ?_
      refine Reg.pur rfl rfl rfl rfl (Pur.asg rfl) ?_
      refine Reg.nil ?_
      refine At.ret rfl Try.func85 rfl ?_
      refine ⟨congrArg Value.bool ?_, by first | exact hE5 | exact hn1.ext.trans hE2 | exact hn1.ext.upd hu3 (Nat.le_refl _) | exact hn1.ext⟩
      try rw [eqs_ints]
      rw [Bool.eq_iff_iff]
      simp only [decide_eq_true_eq, decide_eq_false_iff_not, Bool.not_eq_true', Bool.not_eq_eq_eq_not, Bool.not_true, Bool.not_false] at *
      simp [nodM, eqs, eqv, *]
      try omega
    · refine At.region rfl rfl ?_
      refine Reg.pur rfl rfl rfl rfl (Pur.bld (cs := [_, _, _, _, _]) pl28 zc28 rfl rfl ⟨rfl, rfl, rfl, rfl, rfl, rfl⟩) ?_
      refine Reg.pur rfl rfl rfl rfl (Pur.fld _ fo47_4 rfl) ?_
      refine Reg.op0 rfl rfl rfl (Does.stn ag28 rfl rfl rfl rfl hX (by simp)) ?_
      rintro _ H3 hu3
      refine Reg.pur rfl rfl rfl rfl (Pur.fld _ fo47_2 rfl) ?_
      refine Reg.op0 rfl rfl rfl (Does.st sc3 rfl rfl rfl hu3.own (by simp)) ?_
      rintro _ H4 hu4
      refine Reg.pur rfl rfl rfl rfl (Pur.fld _ fo47_3 rfl) ?_
      refine Reg.op0 rfl rfl rfl (Does.st sc3 rfl rfl rfl hu4.own (by simp)) ?_
      rintro _ H5 hu5
      refine Reg.nil ?_
      have hY : Own H5 H.size (Is [k, v, 0, 0, 0, 0, 0, 0, 0]) := hu5.own
      have hE5 := (((hn1.ext.trans hE2).upd hu3 (Nat.le_refl _)).upd hu4 (Nat.le_refl _)).upd hu5 (Nat.le_refl _)
      refine At.region rfl rfl ?_
      refine Reg.lod rfl rfl rfl rfl (Lod.ldn ag47 rfl hY.blk (whole rfl) rfl) ?_
      refine Reg.pur rfl rfl rfl rfl (Pur.bld (cs := [_, _, _, _, _, _, _, _, _]) pl47 zc47 rfl rfl ⟨rfl, rfl, rfl, rfl, rfl, rfl, rfl, rfl, rfl, rfl⟩) ?_
      refine Reg.pur rfl rfl rfl rfl (Pur.eqA eqt47 rfl rfl (fks_ints .i64 [k, v, 0, 0, 0, 0, 0, 0, 0]) (fks_ints .i64 [3, 0, 0, 0, 0, 0, 0, 0, 0])) ?_
      refine Reg.pur rfl rfl rfl rfl (Pur.asg rfl) ?_
      refine Reg.nil ?_
      refine At.ret rfl Try.func85 rfl ?_
      refine ⟨congrArg Value.bool ?_, by first | exact hE5 | exact hn1.ext.trans hE2 | exact hn1.ext.upd hu3 (Nat.le_refl _) | exact hn1.ext⟩
      try rw [eqs_ints]
      rw [Bool.eq_iff_iff]
      simp only [decide_eq_true_eq, decide_eq_false_iff_not, Bool.not_eq_true', Bool.not_eq_eq_eq_not, Bool.not_true, Bool.not_false] at *
      simp [nodM, eqs, eqv, *]
      try omega
  · refine At.region rfl rfl ?_
    refine Reg.pur rfl rfl rfl rfl (Pur.eql rfl rfl) ?_
    refine Reg.pur rfl rfl rfl rfl (Pur.asg rfl) ?_
    refine Reg.nil ?_
    refine At.cond rfl rfl (fun hb3 => ?_) (fun hb3 => ?_)
    · refine At.region rfl rfl ?_
      refine Reg.pur rfl rfl rfl rfl (Pur.fld _ fo47_1 rfl) ?_
      refine Reg.lod rfl rfl rfl rfl (Lod.ld sc3 rfl hX.blk rfl) ?_
      refine Reg.pur rfl rfl rfl rfl (Pur.lss rfl rfl) ?_
      refine Reg.pur rfl rfl rfl rfl (Pur.mv rfl) ?_
      refine Reg.case 26 rfl (fun hc4 => ?_) (fun hc4 => ?_)
      · refine Reg.skip rfl rfl rfl rfl rfl rfl rfl ?_
        refine Reg.skip rfl rfl rfl rfl rfl rfl rfl ?_
        refine Reg.skip rfl rfl rfl rfl rfl rfl rfl ?_
        refine Reg.pur rfl rfl rfl rfl (Pur.pickT rfl rfl) ?_
        refine Reg.nil ?_
        refine At.condT rfl rfl rfl ?_
        refine At.region rfl rfl ?_
        refine Reg.pur rfl rfl rfl rfl (Pur.asg rfl) ?_
        refine Reg.nil ?_
        refine At.ret rfl Try.func85 rfl ?_
        refine ⟨congrArg Value.bool ?_, by first | exact hE5 | exact hn1.ext.trans hE2 | exact hn1.ext.upd hu3 (Nat.le_refl _) | exact hn1.ext⟩
        try rw [eqs_ints]
        rw [Bool.eq_iff_iff]
        simp only [decide_eq_true_eq, decide_eq_false_iff_not, Bool.not_eq_true', Bool.not_eq_eq_eq_not, Bool.not_true, Bool.not_false] at *
        simp [nodM, eqs, eqv, *]
        try omega
      · refine Reg.gpur rfl rfl rfl rfl rfl rfl (Pur.fld _ fo47_1 rfl) ?_
        refine Reg.glod rfl rfl rfl rfl rfl rfl (Lod.ld sc3 rfl hX.blk rfl) ?_
        refine Reg.gpur rfl rfl rfl rfl rfl rfl (Pur.geq rfl rfl) ?_
        refine Reg.pur rfl rfl rfl rfl (Pur.pickF rfl rfl) ?_
        refine Reg.nil ?_
        refine At.cond rfl rfl (fun hb5 => ?_) (fun hb5 => ?_)
        · refine At.region rfl rfl ?_
          refine Reg.pur rfl rfl rfl rfl (Pur.asg rfl) ?_
          refine Reg.nil ?_
          refine At.ret rfl Try.func85 rfl ?_
          refine ⟨congrArg Value.bool ?_, by first | exact hE5 | exact hn1.ext.trans hE2 | exact hn1.ext.upd hu3 (Nat.le_refl _) | exact hn1.ext⟩
          try rw [eqs_ints]
          rw [Bool.eq_iff_iff]
          simp only [decide_eq_true_eq, decide_eq_false_iff_not, Bool.not_eq_true', Bool.not_eq_eq_eq_not, Bool.not_true, Bool.not_false] at *
          simp [nodM, eqs, eqv, *]
          try omega
        · refine At.region rfl rfl ?_
          refine Reg.pur rfl rfl rfl rfl (Pur.fld _ fo47_1 rfl) ?_
          refine Reg.op0 rfl rfl rfl (Does.st sc3 rfl rfl rfl hX (by simp)) ?_
          rintro _ H3 hu3
          refine Reg.nil ?_
          have hX : Own H3 H.size (Is [k, 0, a, b, c, d, e, f, t]) := hu3.own
          refine At.region rfl rfl ?_
          refine Reg.lod rfl rfl rfl rfl (Lod.ldn ag47 rfl hX.blk (whole rfl) rfl) ?_
          refine Reg.pur rfl rfl rfl rfl (Pur.fld _ fo47_0 rfl) ?_
          refine Reg.lod rfl rfl rfl rfl (Lod.ld sc3 rfl hX.blk rfl) ?_
          refine Reg.pur rfl rfl rfl rfl (Pur.bld (cs := [_, _, _, _, _, _, _, _, _]) pl47 zc47 rfl rfl ⟨rfl, rfl, rfl, rfl, rfl, rfl, rfl, rfl, rfl, rfl⟩) ?_
          refine Reg.pur rfl rfl rfl rfl (Pur.eqA eqt47 rfl rfl (fks_ints .i64 [_, _, _, _, _, _, _, _, _]) (fks_ints .i64 [_, 0, 0, 0, 0, 0, 0, 0, 0])) ?_
          refine Reg.pur rfl rfl rfl rfl (Pur.asg rfl) ?_
          refine Reg.nil ?_
          refine At.ret rfl Try.func85 rfl ?_
          refine ⟨congrArg Value.bool ?_, by first | exact hE5 | exact hn1.ext.trans hE2 | exact hn1.ext.upd hu3 (Nat.le_refl _) | exact hn1.ext⟩
          try rw [eqs_ints]
          rw [Bool.eq_iff_iff]
          simp only [decide_eq_true_eq, decide_eq_false_iff_not, Bool.not_eq_true', Bool.not_eq_eq_eq_not, Bool.not_true, Bool.not_false] at *
          simp [nodM, eqs, eqv, *]
          try omega
    · refine At.region rfl rfl ?_
      refine Reg.pur rfl rfl rfl rfl (Pur.eql rfl rfl) ?_
      refine Reg.pur rfl rfl rfl rfl (Pur.asg rfl) ?_
      refine Reg.nil ?_
      refine At.cond rfl rfl (fun hb6 => ?_) (fun hb6 => ?_)
      · refine At.condT rfl rfl hb6 ?_
        refine At.region rfl rfl ?_
        refine Reg.lod rfl rfl rfl rfl (Lod.ldn ag47 rfl hX.blk (whole rfl) rfl) ?_
        refine Reg.pur rfl rfl rfl rfl (Pur.fld _ fo47_0 rfl) ?_
        refine Reg.lod rfl rfl rfl rfl (Lod.ld sc3 rfl hX.blk rfl) ?_
        refine Reg.pur rfl rfl rfl rfl (Pur.bld (cs := [_, _, _, _, _, _, _, _, _]) pl47 zc47 rfl rfl ⟨rfl, rfl, rfl, rfl, rfl, rfl, rfl, rfl, rfl, rfl⟩) ?_
        refine Reg.pur rfl rfl rfl rfl (Pur.eqA eqt47 rfl rfl (fks_ints .i64 [_, _, _, _, _, _, _, _, _]) (fks_ints .i64 [_, 0, 0, 0, 0, 0, 0, 0, 0])) ?_
        refine Reg.pur rfl rfl rfl rfl (Pur.asg rfl) ?_
        refine Reg.nil ?_
        refine At.ret rfl Try.func85 rfl ?_
        refine ⟨congrArg Value.bool ?_, by first | exact hE5 | exact hn1.ext.trans hE2 | exact hn1.ext.upd hu3 (Nat.le_refl _) | exact hn1.ext⟩
        try rw [eqs_ints]
        rw [Bool.eq_iff_iff]
        simp only [decide_eq_true_eq, decide_eq_false_iff_not, Bool.not_eq_true', Bool.not_eq_eq_eq_not, Bool.not_true, Bool.not_false] at *
        simp [nodM, eqs, eqv, *]
        try omega
      · refine At.region rfl rfl ?_
        refine Reg.pur rfl rfl rfl rfl (Pur.eql rfl rfl) ?_
        refine Reg.pur rfl rfl rfl rfl (Pur.asg rfl) ?_
        refine Reg.nil ?_
        refine At.cond rfl rfl (fun hb7 => ?_) (fun hb7 => ?_)
        · refine At.region rfl rfl ?_
          refine Reg.lod rfl rfl rfl rfl (Lod.ldn ag47 rfl hX.blk (whole rfl) rfl) ?_
          refine Reg.pur rfl rfl rfl rfl (Pur.fld _ fo47_0 rfl) ?_
          refine Reg.lod rfl rfl rfl rfl (Lod.ld sc3 rfl hX.blk rfl) ?_
          refine Reg.pur rfl rfl rfl rfl (Pur.bld (cs := [_, _, _, _, _, _, _, _, _]) pl47 zc47 rfl rfl ⟨rfl, rfl, rfl, rfl, rfl, rfl, rfl, rfl, rfl, rfl⟩) ?_
          refine Reg.pur rfl rfl rfl rfl (Pur.eqA eqt47 rfl rfl (fks_ints .i64 [_, _, _, _, _, _, _, _, _]) (fks_ints .i64 [_, 0, 0, 0, 0, 0, 0, 0, 0])) ?_
          refine Reg.pur rfl rfl rfl rfl (Pur.asg rfl) ?_
          refine Reg.nil ?_
          refine At.ret rfl Try.func85 rfl ?_
          refine ⟨congrArg Value.bool ?_, by first | exact hE5 | exact hn1.ext.trans hE2 | exact hn1.ext.upd hu3 (Nat.le_refl _) | exact hn1.ext⟩
          try rw [eqs_ints]
          rw [Bool.eq_iff_iff]
          simp only [decide_eq_true_eq, decide_eq_false_iff_not, Bool.not_eq_true', Bool.not_eq_eq_eq_not, Bool.not_true, Bool.not_false] at *
          simp [nodM, eqs, eqv, *]
          try omega
        · refine At.region rfl rfl ?_
          refine Reg.pur rfl rfl rfl rfl (Pur.asg rfl) ?_
          refine Reg.nil ?_
          refine At.ret rfl Try.func85 rfl ?_
          refine ⟨congrArg Value.bool ?_, by first | exact hE5 | exact hn1.ext.trans hE2 | exact hn1.ext.upd hu3 (Nat.le_refl _) | exact hn1.ext⟩
          try rw [eqs_ints]
          rw [Bool.eq_iff_iff]
          simp only [decide_eq_true_eq, decide_eq_false_iff_not, Bool.not_eq_true', Bool.not_eq_eq_eq_not, Bool.not_true, Bool.not_false] at *
          simp [nodM, eqs, eqv, *]
          try omega
end Go.Proofs.Ytlfillhffpiffaa
