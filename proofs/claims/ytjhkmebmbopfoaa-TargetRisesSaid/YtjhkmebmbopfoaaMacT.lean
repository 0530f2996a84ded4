/-
  Chapter 21: terms by hand.
-/
import Derived.Test.YtjhkmebmbopfoaaMacR
import Derived.Test.YtjhkmebmbopfoaaMacS
namespace Go.Proofs.Ytjhkmebmbopfoaa
set_option linter.unusedSimpArgs false
set_option linter.unusedVariables false
set_option maxRecDepth 8000
set_option maxHeartbeats 2000000
open Go Go.Fx Go.Proofs
namespace FactsMacT
theorem ag25 : ag Try.prog 25 = some 2 := by kernel_rfl
theorem ag37 : ag Try.prog 37 = some 9 := by kernel_rfl
theorem eqt25 : eqT Try.prog 25 = some [.int .i64, .int .i64] := by kernel_rfl
theorem es39 : esz Try.prog 39 = some 1 := by kernel_rfl
theorem es40 : esz Try.prog 40 = some 2 := by kernel_rfl
theorem mixed : Try.prog.follows .mixedOrders = true := by kernel_rfl
theorem pl25 : places Try.prog 25 = some [(0, 1), (1, 1)] := by kernel_rfl
theorem pl37 : places Try.prog 37 = some [(0, 1), (1, 1), (2, 1), (3, 1), (4, 1), (5, 1), (6, 1), (7, 1), (8, 1)] := by kernel_rfl
theorem sc22 : sc Try.prog 22 = true := by kernel_rfl
theorem sl1_39 : Go.Fx.sl1 Try.prog 39 = true := by kernel_rfl
theorem slA22 : slA Try.prog 22 = some (37, 9) := by kernel_rfl
theorem slA40 : slA Try.prog 40 = some (25, 2) := by kernel_rfl
theorem zc25 : zc Try.prog 25 = some [.int .i64 0, .int .i64 0] := by kernel_rfl
theorem zc37 : zc Try.prog 37 = some [.int .i64 0, .int .i64 0, .int .i64 0, .int .i64 0, .int .i64 0, .int .i64 0, .int .i64 0, .int .i64 0, .int .i64 0] := by kernel_rfl
end FactsMacT
open FactsMacT

theorem targetRises_law (x : Int) (own : Bool) (H : Heap) :
    Ret Try.prog 6 [I x, .bool own] H (fun v H' => v = .bool true ∧ Ext H H') := by
  have hx : 0 ≤ bits .and .i64 x 1023 ∧ bits .and .i64 x 1023 ≤ 1023 := and_le x 1023 (by decide)
  refine Ret.of_at (N := 58) Try.call6 Try.func6 rfl rfl rfl ?_
  have hE := Ext.refl H
  refine At.region rfl rfl ?_
  refine Reg.pur rfl rfl rfl rfl (Pur.asg rfl) ?_
  refine Reg.nil ?_
  refine At.region rfl rfl ?_
  refine Reg.op rfl rfl rfl rfl (Does.call rfl (awake21_ok _)) ?_
  rintro _ H1_0 ⟨rfl, hE1_0⟩
  have z1_0 := hE1_0.lt
  replace hE := hE.ext hE1_0
  refine Reg.pur rfl rfl rfl rfl (Pur.not rfl) ?_
  refine Reg.nil ?_
  refine At.condF rfl rfl rfl ?_
  refine At.region rfl rfl ?_
  refine Reg.pur rfl rfl rfl rfl (Pur.mv rfl) ?_
  refine Reg.pur rfl rfl rfl rfl (Pur.and rfl rfl) ?_
  refine Reg.pur rfl rfl rfl rfl (Pur.asg rfl) ?_
  refine Reg.nil ?_
  generalize bits .and .i64 x 1023 = k at *
  refine At.region rfl rfl ?_
  refine Reg.pur rfl rfl rfl rfl (Pur.asg rfl) ?_
  refine Reg.nil ?_
  refine At.region rfl rfl ?_
  refine Reg.pur rfl rfl rfl rfl (Pur.mv rfl) ?_
  refine Reg.nil ?_
  refine At.joinc (σ := Unit) (fun _ => [(6, I (if own then 0 else 1)), (5, I k), (0, I x), (1, .bool own)]) (fun _ H' => H' = H1_0) rfl (fun hJ => ?_) (fun _ H7 hH => ?_)
  · refine At.cond rfl rfl (fun q15 => ?_) (fun q15 => ?_)
    · first | (simp only [decide_eq_true_eq, decide_eq_false_iff_not, Bool.not_eq_true', Bool.not_eq_false', ne_eq, Decidable.not_not, Bool.not_eq_true, Bool.not_eq_false] at q15) | (dsimp only at q15) | skip
      refine At.region rfl rfl ?_
      refine Reg.pur rfl rfl rfl rfl (Pur.asg rfl) ?_
      refine Reg.nil ?_
      exact At.meets rfl (hJ () _ rfl) ⟨by rw [q15]; rfl, rfl, rfl, rfl, trivial⟩
    first | (simp only [decide_eq_true_eq, decide_eq_false_iff_not, Bool.not_eq_true', Bool.not_eq_false', ne_eq, Decidable.not_not, Bool.not_eq_true, Bool.not_eq_false] at q15) | (dsimp only at q15) | skip
    exact At.meets rfl (hJ () _ rfl) ⟨by rw [q15]; rfl, rfl, rfl, rfl, trivial⟩
  subst H7

  refine At.region rfl rfl ?_
  refine Reg.pur rfl rfl rfl rfl (Pur.bld (cs := [_, _, _, _, _, _, _, _, _]) pl37 zc37 rfl rfl ⟨rfl, rfl, rfl, rfl, rfl, rfl, rfl, rfl, rfl, rfl⟩) ?_
  refine Reg.pur rfl rfl rfl rfl (Pur.bld (cs := [_, _, _, _, _, _, _, _, _]) pl37 zc37 rfl rfl ⟨rfl, rfl, rfl, rfl, rfl, rfl, rfl, rfl, rfl, rfl⟩) ?_
  refine Reg.pur rfl rfl rfl rfl (Pur.bld (cs := [_, _, _, _, _, _, _, _, _]) pl37 zc37 rfl rfl ⟨rfl, rfl, rfl, rfl, rfl, rfl, rfl, rfl, rfl, rfl⟩) ?_
  refine Reg.pur rfl rfl rfl rfl (Pur.bld (cs := [_, _, _, _, _, _, _, _, _]) pl37 zc37 rfl rfl ⟨rfl, rfl, rfl, rfl, rfl, rfl, rfl, rfl, rfl, rfl⟩) ?_
  refine Reg.pur rfl rfl rfl rfl (Pur.bld (cs := [_, _, _, _, _, _, _, _, _]) pl37 zc37 rfl rfl ⟨rfl, rfl, rfl, rfl, rfl, rfl, rfl, rfl, rfl, rfl⟩) ?_
  refine Reg.pur rfl rfl rfl rfl (Pur.bld (cs := [_, _, _, _, _, _, _, _, _]) pl37 zc37 rfl rfl ⟨rfl, rfl, rfl, rfl, rfl, rfl, rfl, rfl, rfl, rfl⟩) ?_
  refine Reg.pur rfl rfl rfl rfl (Pur.bld (cs := [_, _, _, _, _, _, _, _, _]) pl37 zc37 rfl rfl ⟨rfl, rfl, rfl, rfl, rfl, rfl, rfl, rfl, rfl, rfl⟩) ?_
  refine Reg.pur rfl rfl rfl rfl (Pur.bld (cs := [_, _, _, _, _, _, _, _, _]) pl37 zc37 rfl rfl ⟨rfl, rfl, rfl, rfl, rfl, rfl, rfl, rfl, rfl, rfl⟩) ?_
  refine Reg.pur rfl rfl rfl rfl (Pur.bld (cs := [_, _, _, _, _, _, _, _, _]) pl37 zc37 rfl rfl ⟨rfl, rfl, rfl, rfl, rfl, rfl, rfl, rfl, rfl, rfl⟩) ?_
  refine Reg.pur rfl rfl rfl rfl (Pur.mv rfl) ?_
  refine Reg.pur rfl rfl rfl rfl (Pur.bld (cs := [_, _, _, _, _, _, _, _, _]) pl37 zc37 rfl rfl ⟨rfl, rfl, rfl, rfl, rfl, rfl, rfl, rfl, rfl, rfl⟩) ?_
  refine Reg.pur rfl rfl rfl rfl (Pur.bld (cs := [_, _, _, _, _, _, _, _, _]) pl37 zc37 rfl rfl ⟨rfl, rfl, rfl, rfl, rfl, rfl, rfl, rfl, rfl, rfl⟩) ?_
  refine Reg.pur rfl rfl rfl rfl (Pur.bld (cs := [_, _, _, _, _, _, _, _, _]) pl37 zc37 rfl rfl ⟨rfl, rfl, rfl, rfl, rfl, rfl, rfl, rfl, rfl, rfl⟩) ?_
  refine Reg.pur rfl rfl rfl rfl (Pur.bld (cs := [_, _, _, _, _, _, _, _, _]) pl37 zc37 rfl rfl ⟨rfl, rfl, rfl, rfl, rfl, rfl, rfl, rfl, rfl, rfl⟩) ?_
  refine Reg.pur rfl rfl rfl rfl (Pur.mv rfl) ?_
  refine Reg.pur rfl rfl rfl rfl (Pur.bld (cs := [_, _, _, _, _, _, _, _, _]) pl37 zc37 rfl rfl ⟨rfl, rfl, rfl, rfl, rfl, rfl, rfl, rfl, rfl, rfl⟩) ?_
  refine Reg.pur rfl rfl rfl rfl (Pur.bld (cs := [_, _, _, _, _, _, _, _, _]) pl37 zc37 rfl rfl ⟨rfl, rfl, rfl, rfl, rfl, rfl, rfl, rfl, rfl, rfl⟩) ?_
  refine Reg.op rfl rfl rfl rfl (Does.bslA ([[_, _, _, _, _, _, _, _, _], [_, _, _, _, _, _, _, _, _], [_, _, _, _, _, _, _, _, _], [_, _, _, _, _, _, _, _, _], [_, _, _, _, _, _, _, _, _], [_, _, _, _, _, _, _, _, _], [_, _, _, _, _, _, _, _, _], [_, _, _, _, _, _, _, _, _], [_, _, _, _, _, _, _, _, _], [_, _, _, _, _, _, _, _, _], [_, _, _, _, _, _, _, _, _], [_, _, _, _, _, _, _, _, _], [_, _, _, _, _, _, _, _, _], [_, _, _, _, _, _, _, _, _], [_, _, _, _, _, _, _, _, _]]) slA22 rfl rfl rfl rfl rfl rfl) ?_
  rintro _ H7_17 ⟨rfl, hp7_17⟩
  have hn7_17 := New.of_eq hp7_17
  have z7_17 := hn7_17.size
  replace hE := hE.ext hn7_17.ext
  have o7_17 := hn7_17.own
  refine Reg.pur rfl rfl rfl rfl (Pur.asg rfl) ?_
  refine Reg.nil ?_
  have hr := Rs_run (o := if own then 0 else 1) hx.1 hx.2 (by cases own <;> simp)
  refine At.region rfl rfl ?_
  refine Reg.pur rfl rfl rfl rfl (Pur.mv rfl) ?_
  refine Reg.op rfl rfl rfl rfl (Does.call rfl (runP_ok (Rs (if own then 0 else 1) k) (Rs9 _ _) (sl_new (Rs9 _ _) (⟨_, hp7_17⟩ : New _ _ ((Rs (if own then 0 else 1) k).flatMap Is)) (by simp [Rs])) (by simp [Rs]) 99 (by decide))) ?_
  rintro _ H8_1 ⟨rfl, hE8_1⟩
  have z8_1 := hE8_1.lt
  replace hE := hE.ext hE8_1
  replace o7_17 := o7_17.ext hE8_1
  rw [hr.1, hr.2]
  refine Reg.pur rfl rfl rfl rfl (Pur.mv rfl) ?_
  refine Reg.pur rfl rfl rfl rfl (Pur.ext rfl rfl) ?_
  refine Reg.pur rfl rfl rfl rfl (Pur.ext rfl rfl) ?_
  refine Reg.pur rfl rfl rfl rfl (Pur.ext rfl rfl) ?_
  refine Reg.op rfl rfl rfl rfl (Does.alloc zc25) ?_
  rintro _ H8_6 ⟨rfl, hn8_6⟩
  have z8_6 := hn8_6.size
  replace hE := hE.ext hn8_6.ext
  replace o7_17 := o7_17.ext hn8_6.ext
  have o8_6 := hn8_6.own
  refine Reg.op0 rfl rfl rfl (Does.stn ag25 rfl rfl rfl rfl o8_6 (by simp)) ?_
  rintro _ H8_7 hu8_7
  have z8_7 := hu8_7.size
  replace hE := hE.upw hu8_7 (by omega)
  replace o7_17 := o7_17.upw hu8_7 (by omega)
  replace o8_6 := hu8_7.own
  first | rw [over (by first | rfl | (simp; done))] at o8_6 | skip
  refine Reg.pur rfl rfl rfl rfl (Pur.asg rfl) ?_
  refine Reg.pur rfl rfl rfl rfl (Pur.asg rfl) ?_
  refine Reg.nil ?_
  refine At.region rfl rfl ?_
  refine Reg.pur rfl rfl rfl rfl (Pur.mv rfl) ?_
  refine Reg.nil ?_
  refine At.cond rfl rfl (fun q40 => ?_) (fun q40 => ?_)
  · first | (simp only [decide_eq_true_eq, decide_eq_false_iff_not, Bool.not_eq_true', Bool.not_eq_false', ne_eq, Decidable.not_not, Bool.not_eq_true, Bool.not_eq_false] at q40) | (dsimp only at q40) | skip
    subst q40
    refine At.region rfl rfl ?_
    refine Reg.pur rfl rfl rfl rfl (Pur.mv rfl) ?_
    refine Reg.op rfl rfl rfl rfl (Does.call rfl (num_ok _ _)) ?_
    rintro _ H8_7 ⟨rfl, rfl⟩
    refine Reg.pur rfl rfl rfl rfl (Pur.eql rfl rfl) ?_
    refine Reg.pur rfl rfl rfl rfl (Pur.mv rfl) ?_
    refine Reg.known (b' := true) 44 rfl rfl ?_
    refine Reg.glod rfl rfl rfl rfl rfl rfl (Lod.ldn ag25 rfl o8_6.blk rfl rfl) ?_
    refine Reg.gpur rfl rfl rfl rfl rfl rfl (Pur.mv rfl) ?_
    refine Reg.gpur rfl rfl rfl rfl rfl rfl (Pur.bld (cs := [_, _]) pl25 zc25 rfl rfl ⟨rfl, rfl, rfl⟩) ?_
    refine Reg.gpur rfl rfl rfl rfl rfl rfl (Pur.eqA eqt25 rfl rfl (⟨⟨_, rfl⟩, ⟨_, rfl⟩, trivial⟩) (⟨⟨_, rfl⟩, ⟨_, rfl⟩, trivial⟩)) ?_
    refine Reg.pur rfl rfl rfl rfl (Pur.pickT rfl rfl) ?_
    refine Reg.pur rfl rfl rfl rfl (Pur.asg rfl) ?_
    refine Reg.nil ?_
    refine At.ret rfl Try.func6 rfl ?_
    exact ⟨by first | rfl | simp [eqs, eqv] | (exfalso; simp_all), hE⟩
  first | (simp only [decide_eq_true_eq, decide_eq_false_iff_not, Bool.not_eq_true', Bool.not_eq_false', ne_eq, Decidable.not_not, Bool.not_eq_true, Bool.not_eq_false] at q40) | (dsimp only at q40) | skip
  subst q40
  refine At.region rfl rfl ?_
  refine Reg.pur rfl rfl rfl rfl (Pur.mv rfl) ?_
  refine Reg.op rfl rfl rfl rfl (Does.call rfl (num_ok _ _)) ?_
  rintro _ H8_7 ⟨rfl, rfl⟩
  refine Reg.pur rfl rfl rfl rfl (Pur.eql rfl rfl) ?_
  refine Reg.pur rfl rfl rfl rfl (Pur.mv rfl) ?_
  refine Reg.known (b' := true) 53 rfl rfl ?_
  refine Reg.glod rfl rfl rfl rfl rfl rfl (Lod.ldn ag25 rfl o8_6.blk rfl rfl) ?_
  refine Reg.gpur rfl rfl rfl rfl rfl rfl (Pur.bld (cs := [_, _]) pl25 zc25 rfl rfl ⟨rfl, rfl, rfl⟩) ?_
  refine Reg.gpur rfl rfl rfl rfl rfl rfl (Pur.eqA eqt25 rfl rfl (⟨⟨_, rfl⟩, ⟨_, rfl⟩, trivial⟩) (⟨⟨_, rfl⟩, ⟨_, rfl⟩, trivial⟩)) ?_
  refine Reg.pur rfl rfl rfl rfl (Pur.pickT rfl rfl) ?_
  refine Reg.pur rfl rfl rfl rfl (Pur.asg rfl) ?_
  refine Reg.nil ?_
  refine At.ret rfl Try.func6 rfl ?_
  exact ⟨by first | rfl | simp [eqs, eqv] | (exfalso; simp_all), hE⟩
theorem back_ok (a : Int) (H : Heap) : Ret Try.prog 13 [I a] H (fun v H' => v = .agg (Is (rr a)).toArray ∧ Ext H H') := by
  refine Ret.of_at (N := 5) Try.call13 Try.func13 rfl rfl rfl ?_
  have hE := Ext.refl H
  refine At.region rfl rfl ?_
  refine Reg.op rfl rfl rfl rfl (Does.alloc zc37) ?_
  rintro _ H0_0 ⟨rfl, hn0_0⟩
  have z0_0 := hn0_0.size
  replace hE := hE.ext hn0_0.ext
  have o0_0 := hn0_0.own
  refine Reg.nil ?_
  refine At.region rfl rfl ?_
  refine Reg.pur rfl rfl rfl rfl (Pur.mv rfl) ?_
  refine Reg.pur rfl rfl rfl rfl (Pur.bld (cs := [_, _, _, _, _, _, _, _, _]) pl37 zc37 rfl rfl ⟨rfl, rfl, rfl, rfl, rfl, rfl, rfl, rfl, rfl, rfl⟩) ?_
  refine Reg.op0 rfl rfl rfl (Does.stn ag37 rfl rfl rfl rfl o0_0 (by simp)) ?_
  rintro _ H1_2 hu1_2
  have z1_2 := hu1_2.size
  replace hE := hE.upw hu1_2 (by omega)
  replace o0_0 := hu1_2.own
  first | rw [over (by first | rfl | (simp; done))] at o0_0 | skip
  refine Reg.nil ?_
  refine At.retC rfl Try.func13 ⟨_, _, _, _, rfl, rfl, ⟨_, o0_0.blk, .inr ⟨_, _, ag37, (by first | exact whole rfl | exact whole (by simp [*])), (by first | rfl | simp [*]), rfl⟩⟩, rfl⟩ ?_
  exact ⟨rfl, hE⟩
abbrev eW (p : Int × Int) : List Value := Is [p.1, p.2]
theorem Ws_rd {k : Int} {i : Nat} {o : Int × Int} (h : (Ws k)[i]? = some o) : (((Ws k).flatMap eW).drop (0 + i * 2)).take 2 = eW o := by
  obtain ⟨hi, rfl⟩ := List.getElem?_eq_some_iff.1 h
  rw [Nat.zero_add]
  exact Go.Fx.flat_at (f := eW) (n := 2) (Ws k) i (fun _ _ => rfl) hi
theorem targetTexts_law (w x : Int) (H : Heap) :
    Ret Try.prog 5 [I w, I x] H (fun v H' => v = .bool true ∧ Ext H H') := by
  have hx : 0 ≤ bits .and .i64 x 1023 ∧ bits .and .i64 x 1023 ≤ 1023 := and_le x 1023 (by decide)
  obtain ⟨u0, u1⟩ := umod w 12 (by decide) (by decide)
  refine Ret.of_at (N := 118) Try.call5 Try.func5 rfl rfl rfl ?_
  have hE := Ext.refl H
  refine At.region rfl rfl ?_
  refine Reg.pur rfl rfl rfl rfl (Pur.asg rfl) ?_
  refine Reg.nil ?_
  refine At.region rfl rfl ?_
  refine Reg.op rfl rfl rfl rfl (Does.call rfl (awake21_ok _)) ?_
  rintro _ H1_0 ⟨rfl, hE1_0⟩
  have z1_0 := hE1_0.lt
  replace hE := hE.ext hE1_0
  refine Reg.pur rfl rfl rfl rfl (Pur.not rfl) ?_
  refine Reg.nil ?_
  refine At.condF rfl rfl rfl ?_
  refine At.region rfl rfl ?_
  refine Reg.pur rfl rfl rfl rfl (Pur.mv rfl) ?_
  refine Reg.pur rfl rfl rfl rfl (Pur.and rfl rfl) ?_
  refine Reg.pur rfl rfl rfl rfl (Pur.asg rfl) ?_
  refine Reg.nil ?_
  generalize bits .and .i64 x 1023 = k at *
  refine At.region rfl rfl ?_
  refine Reg.pur rfl rfl rfl rfl (Pur.mv rfl) ?_
  refine Reg.pur rfl rfl rfl rfl (Pur.bld (cs := [_, _, _, _, _, _, _, _, _]) pl37 zc37 rfl rfl ⟨rfl, rfl, rfl, rfl, rfl, rfl, rfl, rfl, rfl, rfl⟩) ?_
  refine Reg.pur rfl rfl rfl rfl (Pur.bld (cs := [_, _, _, _, _, _, _, _, _]) pl37 zc37 rfl rfl ⟨rfl, rfl, rfl, rfl, rfl, rfl, rfl, rfl, rfl, rfl⟩) ?_
  refine Reg.op rfl rfl rfl rfl (Does.alloc zc37) ?_
  rintro _ H4_3 ⟨rfl, hn4_3⟩
  have z4_3 := hn4_3.size
  replace hE := hE.ext hn4_3.ext
  have o4_3 := hn4_3.own
  refine Reg.op rfl rfl rfl rfl (Does.alloc zc37) ?_
  rintro _ H4_4 ⟨rfl, hn4_4⟩
  have z4_4 := hn4_4.size
  replace hE := hE.ext hn4_4.ext
  replace o4_3 := o4_3.ext hn4_4.ext
  have o4_4 := hn4_4.own
  refine Reg.op0 rfl rfl rfl (Does.stn ag37 rfl rfl rfl rfl o4_3 (by simp)) ?_
  rintro _ H4_5 hu4_5
  have z4_5 := hu4_5.size
  replace hE := hE.upw hu4_5 (by omega)
  replace o4_4 := o4_4.upw hu4_5 (by omega)
  replace o4_3 := hu4_5.own
  first | rw [over (by first | rfl | (simp; done))] at o4_3 | skip
  refine Reg.op0 rfl rfl rfl (Does.stn ag37 rfl rfl rfl rfl o4_4 (by simp)) ?_
  rintro _ H4_6 hu4_6
  have z4_6 := hu4_6.size
  replace hE := hE.upw hu4_6 (by omega)
  replace o4_3 := o4_3.upw hu4_6 (by omega)
  replace o4_4 := hu4_6.own
  first | rw [over (by first | rfl | (simp; done))] at o4_4 | skip
  refine Reg.nil ?_
  refine At.region rfl rfl ?_
  refine Reg.op rfl rfl rfl rfl (Does.call rfl (back_ok _ _)) ?_
  rintro _ H5_0 ⟨rfl, hE5_0⟩
  have z5_0 := hE5_0.lt
  replace hE := hE.ext hE5_0
  replace o4_3 := o4_3.ext hE5_0
  replace o4_4 := o4_4.ext hE5_0
  refine Reg.op rfl rfl rfl rfl (Does.alloc zc37) ?_
  rintro _ H5_1 ⟨rfl, hn5_1⟩
  have z5_1 := hn5_1.size
  replace hE := hE.ext hn5_1.ext
  replace o4_3 := o4_3.ext hn5_1.ext
  replace o4_4 := o4_4.ext hn5_1.ext
  have o5_1 := hn5_1.own
  refine Reg.op0 rfl rfl rfl (Does.stn ag37 rfl rfl rfl rfl o5_1 (by simp)) ?_
  rintro _ H5_2 hu5_2
  have z5_2 := hu5_2.size
  replace hE := hE.upw hu5_2 (by omega)
  replace o4_3 := o4_3.upw hu5_2 (by omega)
  replace o4_4 := o4_4.upw hu5_2 (by omega)
  replace o5_1 := hu5_2.own
  first | rw [over (by first | rfl | (simp; done))] at o5_1 | skip
  refine Reg.nil ?_
  refine At.region rfl rfl ?_
  refine Reg.lod rfl rfl rfl rfl (Lod.ldn ag37 rfl o4_3.blk rfl rfl) ?_
  refine Reg.lod rfl rfl rfl rfl (Lod.ldn ag37 rfl o5_1.blk rfl rfl) ?_
  refine Reg.op rfl rfl rfl rfl (Does.bslA ([[_, _, _, _, _, _, _, _, _], [_, _, _, _, _, _, _, _, _]]) slA22 rfl rfl rfl rfl rfl rfl) ?_
  rintro _ H6_2 ⟨rfl, hp6_2⟩
  have hn6_2 := New.of_eq hp6_2
  have z6_2 := hn6_2.size
  replace hE := hE.ext hn6_2.ext
  replace o4_3 := o4_3.ext hn6_2.ext
  replace o4_4 := o4_4.ext hn6_2.ext
  replace o5_1 := o5_1.ext hn6_2.ext
  have o6_2 := hn6_2.own
  refine Reg.lod rfl rfl rfl rfl (Lod.ldn ag37 rfl o4_3.blk rfl rfl) ?_
  refine Reg.op rfl rfl rfl rfl (Does.bslA ([[_, _, _, _, _, _, _, _, _]]) slA22 rfl rfl rfl rfl rfl rfl) ?_
  rintro _ H6_4 ⟨rfl, hp6_4⟩
  have hn6_4 := New.of_eq hp6_4
  have z6_4 := hn6_4.size
  replace hE := hE.ext hn6_4.ext
  replace o4_3 := o4_3.ext hn6_4.ext
  replace o4_4 := o4_4.ext hn6_4.ext
  replace o5_1 := o5_1.ext hn6_4.ext
  replace o6_2 := o6_2.ext hn6_4.ext
  have o6_4 := hn6_4.own
  refine Reg.lod rfl rfl rfl rfl (Lod.ldn ag37 rfl o4_4.blk rfl rfl) ?_
  refine Reg.lod rfl rfl rfl rfl (Lod.ldn ag37 rfl o5_1.blk rfl rfl) ?_
  refine Reg.op rfl rfl rfl rfl (Does.bslA ([[_, _, _, _, _, _, _, _, _], [_, _, _, _, _, _, _, _, _]]) slA22 rfl rfl rfl rfl rfl rfl) ?_
  rintro _ H6_7 ⟨rfl, hp6_7⟩
  have hn6_7 := New.of_eq hp6_7
  have z6_7 := hn6_7.size
  replace hE := hE.ext hn6_7.ext
  replace o4_3 := o4_3.ext hn6_7.ext
  replace o4_4 := o4_4.ext hn6_7.ext
  replace o5_1 := o5_1.ext hn6_7.ext
  replace o6_2 := o6_2.ext hn6_7.ext
  replace o6_4 := o6_4.ext hn6_7.ext
  have o6_7 := hn6_7.own
  refine Reg.pur rfl rfl rfl rfl (Pur.bld (cs := [_, _, _, _, _, _, _, _, _]) pl37 zc37 rfl rfl ⟨rfl, rfl, rfl, rfl, rfl, rfl, rfl, rfl, rfl, rfl⟩) ?_
  refine Reg.lod rfl rfl rfl rfl (Lod.ldn ag37 rfl o5_1.blk rfl rfl) ?_
  refine Reg.op rfl rfl rfl rfl (Does.bslA ([[_, _, _, _, _, _, _, _, _], [_, _, _, _, _, _, _, _, _]]) slA22 rfl rfl rfl rfl rfl rfl) ?_
  rintro _ H6_10 ⟨rfl, hp6_10⟩
  have hn6_10 := New.of_eq hp6_10
  have z6_10 := hn6_10.size
  replace hE := hE.ext hn6_10.ext
  replace o4_3 := o4_3.ext hn6_10.ext
  replace o4_4 := o4_4.ext hn6_10.ext
  replace o5_1 := o5_1.ext hn6_10.ext
  replace o6_2 := o6_2.ext hn6_10.ext
  replace o6_4 := o6_4.ext hn6_10.ext
  replace o6_7 := o6_7.ext hn6_10.ext
  have o6_10 := hn6_10.own
  refine Reg.pur rfl rfl rfl rfl (Pur.bld (cs := [_, _, _, _, _, _, _, _, _]) pl37 zc37 rfl rfl ⟨rfl, rfl, rfl, rfl, rfl, rfl, rfl, rfl, rfl, rfl⟩) ?_
  refine Reg.pur rfl rfl rfl rfl (Pur.bld (cs := [_, _, _, _, _, _, _, _, _]) pl37 zc37 rfl rfl ⟨rfl, rfl, rfl, rfl, rfl, rfl, rfl, rfl, rfl, rfl⟩) ?_
  refine Reg.pur rfl rfl rfl rfl (Pur.bld (cs := [_, _, _, _, _, _, _, _, _]) pl37 zc37 rfl rfl ⟨rfl, rfl, rfl, rfl, rfl, rfl, rfl, rfl, rfl, rfl⟩) ?_
  refine Reg.op rfl rfl rfl rfl (Does.bslA ([[_, _, _, _, _, _, _, _, _], [_, _, _, _, _, _, _, _, _], [_, _, _, _, _, _, _, _, _]]) slA22 rfl rfl rfl rfl rfl rfl) ?_
  rintro _ H6_14 ⟨rfl, hp6_14⟩
  have hn6_14 := New.of_eq hp6_14
  have z6_14 := hn6_14.size
  replace hE := hE.ext hn6_14.ext
  replace o4_3 := o4_3.ext hn6_14.ext
  replace o4_4 := o4_4.ext hn6_14.ext
  replace o5_1 := o5_1.ext hn6_14.ext
  replace o6_2 := o6_2.ext hn6_14.ext
  replace o6_4 := o6_4.ext hn6_14.ext
  replace o6_7 := o6_7.ext hn6_14.ext
  replace o6_10 := o6_10.ext hn6_14.ext
  have o6_14 := hn6_14.own
  refine Reg.lod rfl rfl rfl rfl (Lod.ldn ag37 rfl o4_3.blk rfl rfl) ?_
  refine Reg.pur rfl rfl rfl rfl (Pur.bld (cs := [_, _, _, _, _, _, _, _, _]) pl37 zc37 rfl rfl ⟨rfl, rfl, rfl, rfl, rfl, rfl, rfl, rfl, rfl, rfl⟩) ?_
  refine Reg.pur rfl rfl rfl rfl (Pur.bld (cs := [_, _, _, _, _, _, _, _, _]) pl37 zc37 rfl rfl ⟨rfl, rfl, rfl, rfl, rfl, rfl, rfl, rfl, rfl, rfl⟩) ?_
  refine Reg.pur rfl rfl rfl rfl (Pur.bld (cs := [_, _, _, _, _, _, _, _, _]) pl37 zc37 rfl rfl ⟨rfl, rfl, rfl, rfl, rfl, rfl, rfl, rfl, rfl, rfl⟩) ?_
  refine Reg.pur rfl rfl rfl rfl (Pur.bld (cs := [_, _, _, _, _, _, _, _, _]) pl37 zc37 rfl rfl ⟨rfl, rfl, rfl, rfl, rfl, rfl, rfl, rfl, rfl, rfl⟩) ?_
  refine Reg.op rfl rfl rfl rfl (Does.bslA ([[_, _, _, _, _, _, _, _, _], [_, _, _, _, _, _, _, _, _], [_, _, _, _, _, _, _, _, _], [_, _, _, _, _, _, _, _, _], [_, _, _, _, _, _, _, _, _]]) slA22 rfl rfl rfl rfl rfl rfl) ?_
  rintro _ H6_20 ⟨rfl, hp6_20⟩
  have hn6_20 := New.of_eq hp6_20
  have z6_20 := hn6_20.size
  replace hE := hE.ext hn6_20.ext
  replace o4_3 := o4_3.ext hn6_20.ext
  replace o4_4 := o4_4.ext hn6_20.ext
  replace o5_1 := o5_1.ext hn6_20.ext
  replace o6_2 := o6_2.ext hn6_20.ext
  replace o6_4 := o6_4.ext hn6_20.ext
  replace o6_7 := o6_7.ext hn6_20.ext
  replace o6_10 := o6_10.ext hn6_20.ext
  replace o6_14 := o6_14.ext hn6_20.ext
  have o6_20 := hn6_20.own
  refine Reg.lod rfl rfl rfl rfl (Lod.ldn ag37 rfl o4_3.blk rfl rfl) ?_
  refine Reg.pur rfl rfl rfl rfl (Pur.bld (cs := [_, _, _, _, _, _, _, _, _]) pl37 zc37 rfl rfl ⟨rfl, rfl, rfl, rfl, rfl, rfl, rfl, rfl, rfl, rfl⟩) ?_
  refine Reg.pur rfl rfl rfl rfl (Pur.bld (cs := [_, _, _, _, _, _, _, _, _]) pl37 zc37 rfl rfl ⟨rfl, rfl, rfl, rfl, rfl, rfl, rfl, rfl, rfl, rfl⟩) ?_
  refine Reg.pur rfl rfl rfl rfl (Pur.bld (cs := [_, _, _, _, _, _, _, _, _]) pl37 zc37 rfl rfl ⟨rfl, rfl, rfl, rfl, rfl, rfl, rfl, rfl, rfl, rfl⟩) ?_
  refine Reg.pur rfl rfl rfl rfl (Pur.bld (cs := [_, _, _, _, _, _, _, _, _]) pl37 zc37 rfl rfl ⟨rfl, rfl, rfl, rfl, rfl, rfl, rfl, rfl, rfl, rfl⟩) ?_
  refine Reg.op rfl rfl rfl rfl (Does.bslA ([[_, _, _, _, _, _, _, _, _], [_, _, _, _, _, _, _, _, _], [_, _, _, _, _, _, _, _, _], [_, _, _, _, _, _, _, _, _], [_, _, _, _, _, _, _, _, _]]) slA22 rfl rfl rfl rfl rfl rfl) ?_
  rintro _ H6_26 ⟨rfl, hp6_26⟩
  have hn6_26 := New.of_eq hp6_26
  have z6_26 := hn6_26.size
  replace hE := hE.ext hn6_26.ext
  replace o4_3 := o4_3.ext hn6_26.ext
  replace o4_4 := o4_4.ext hn6_26.ext
  replace o5_1 := o5_1.ext hn6_26.ext
  replace o6_2 := o6_2.ext hn6_26.ext
  replace o6_4 := o6_4.ext hn6_26.ext
  replace o6_7 := o6_7.ext hn6_26.ext
  replace o6_10 := o6_10.ext hn6_26.ext
  replace o6_14 := o6_14.ext hn6_26.ext
  replace o6_20 := o6_20.ext hn6_26.ext
  have o6_26 := hn6_26.own
  refine Reg.lod rfl rfl rfl rfl (Lod.ldn ag37 rfl o4_3.blk rfl rfl) ?_
  refine Reg.lod rfl rfl rfl rfl (Lod.ldn ag37 rfl o4_4.blk rfl rfl) ?_
  refine Reg.pur rfl rfl rfl rfl (Pur.bld (cs := [_, _, _, _, _, _, _, _, _]) pl37 zc37 rfl rfl ⟨rfl, rfl, rfl, rfl, rfl, rfl, rfl, rfl, rfl, rfl⟩) ?_
  refine Reg.pur rfl rfl rfl rfl (Pur.bld (cs := [_, _, _, _, _, _, _, _, _]) pl37 zc37 rfl rfl ⟨rfl, rfl, rfl, rfl, rfl, rfl, rfl, rfl, rfl, rfl⟩) ?_
  refine Reg.op rfl rfl rfl rfl (Does.bslA ([[_, _, _, _, _, _, _, _, _], [_, _, _, _, _, _, _, _, _], [_, _, _, _, _, _, _, _, _], [_, _, _, _, _, _, _, _, _]]) slA22 rfl rfl rfl rfl rfl rfl) ?_
  rintro _ H6_31 ⟨rfl, hp6_31⟩
  have hn6_31 := New.of_eq hp6_31
  have z6_31 := hn6_31.size
  replace hE := hE.ext hn6_31.ext
  replace o4_3 := o4_3.ext hn6_31.ext
  replace o4_4 := o4_4.ext hn6_31.ext
  replace o5_1 := o5_1.ext hn6_31.ext
  replace o6_2 := o6_2.ext hn6_31.ext
  replace o6_4 := o6_4.ext hn6_31.ext
  replace o6_7 := o6_7.ext hn6_31.ext
  replace o6_10 := o6_10.ext hn6_31.ext
  replace o6_14 := o6_14.ext hn6_31.ext
  replace o6_20 := o6_20.ext hn6_31.ext
  replace o6_26 := o6_26.ext hn6_31.ext
  have o6_31 := hn6_31.own
  refine Reg.lod rfl rfl rfl rfl (Lod.ldn ag37 rfl o4_4.blk rfl rfl) ?_
  refine Reg.lod rfl rfl rfl rfl (Lod.ldn ag37 rfl o4_3.blk rfl rfl) ?_
  refine Reg.lod rfl rfl rfl rfl (Lod.ldn ag37 rfl o4_3.blk rfl rfl) ?_
  refine Reg.pur rfl rfl rfl rfl (Pur.bld (cs := [_, _, _, _, _, _, _, _, _]) pl37 zc37 rfl rfl ⟨rfl, rfl, rfl, rfl, rfl, rfl, rfl, rfl, rfl, rfl⟩) ?_
  refine Reg.pur rfl rfl rfl rfl (Pur.bld (cs := [_, _, _, _, _, _, _, _, _]) pl37 zc37 rfl rfl ⟨rfl, rfl, rfl, rfl, rfl, rfl, rfl, rfl, rfl, rfl⟩) ?_
  refine Reg.op rfl rfl rfl rfl (Does.bslA ([[_, _, _, _, _, _, _, _, _], [_, _, _, _, _, _, _, _, _], [_, _, _, _, _, _, _, _, _], [_, _, _, _, _, _, _, _, _], [_, _, _, _, _, _, _, _, _]]) slA22 rfl rfl rfl rfl rfl rfl) ?_
  rintro _ H6_37 ⟨rfl, hp6_37⟩
  have hn6_37 := New.of_eq hp6_37
  have z6_37 := hn6_37.size
  replace hE := hE.ext hn6_37.ext
  replace o4_3 := o4_3.ext hn6_37.ext
  replace o4_4 := o4_4.ext hn6_37.ext
  replace o5_1 := o5_1.ext hn6_37.ext
  replace o6_2 := o6_2.ext hn6_37.ext
  replace o6_4 := o6_4.ext hn6_37.ext
  replace o6_7 := o6_7.ext hn6_37.ext
  replace o6_10 := o6_10.ext hn6_37.ext
  replace o6_14 := o6_14.ext hn6_37.ext
  replace o6_20 := o6_20.ext hn6_37.ext
  replace o6_26 := o6_26.ext hn6_37.ext
  replace o6_31 := o6_31.ext hn6_37.ext
  have o6_37 := hn6_37.own
  refine Reg.lod rfl rfl rfl rfl (Lod.ldn ag37 rfl o4_3.blk rfl rfl) ?_
  refine Reg.lod rfl rfl rfl rfl (Lod.ldn ag37 rfl o4_3.blk rfl rfl) ?_
  refine Reg.pur rfl rfl rfl rfl (Pur.bld (cs := [_, _, _, _, _, _, _, _, _]) pl37 zc37 rfl rfl ⟨rfl, rfl, rfl, rfl, rfl, rfl, rfl, rfl, rfl, rfl⟩) ?_
  refine Reg.pur rfl rfl rfl rfl (Pur.bld (cs := [_, _, _, _, _, _, _, _, _]) pl37 zc37 rfl rfl ⟨rfl, rfl, rfl, rfl, rfl, rfl, rfl, rfl, rfl, rfl⟩) ?_
  refine Reg.op rfl rfl rfl rfl (Does.bslA ([[_, _, _, _, _, _, _, _, _], [_, _, _, _, _, _, _, _, _], [_, _, _, _, _, _, _, _, _], [_, _, _, _, _, _, _, _, _]]) slA22 rfl rfl rfl rfl rfl rfl) ?_
  rintro _ H6_42 ⟨rfl, hp6_42⟩
  have hn6_42 := New.of_eq hp6_42
  have z6_42 := hn6_42.size
  replace hE := hE.ext hn6_42.ext
  replace o4_3 := o4_3.ext hn6_42.ext
  replace o4_4 := o4_4.ext hn6_42.ext
  replace o5_1 := o5_1.ext hn6_42.ext
  replace o6_2 := o6_2.ext hn6_42.ext
  replace o6_4 := o6_4.ext hn6_42.ext
  replace o6_7 := o6_7.ext hn6_42.ext
  replace o6_10 := o6_10.ext hn6_42.ext
  replace o6_14 := o6_14.ext hn6_42.ext
  replace o6_20 := o6_20.ext hn6_42.ext
  replace o6_26 := o6_26.ext hn6_42.ext
  replace o6_31 := o6_31.ext hn6_42.ext
  replace o6_37 := o6_37.ext hn6_42.ext
  have o6_42 := hn6_42.own
  refine Reg.lod rfl rfl rfl rfl (Lod.ldn ag37 rfl o4_3.blk rfl rfl) ?_
  refine Reg.lod rfl rfl rfl rfl (Lod.ldn ag37 rfl o4_3.blk rfl rfl) ?_
  refine Reg.pur rfl rfl rfl rfl (Pur.bld (cs := [_, _, _, _, _, _, _, _, _]) pl37 zc37 rfl rfl ⟨rfl, rfl, rfl, rfl, rfl, rfl, rfl, rfl, rfl, rfl⟩) ?_
  refine Reg.op rfl rfl rfl rfl (Does.bslA ([[_, _, _, _, _, _, _, _, _], [_, _, _, _, _, _, _, _, _], [_, _, _, _, _, _, _, _, _]]) slA22 rfl rfl rfl rfl rfl rfl) ?_
  rintro _ H6_46 ⟨rfl, hp6_46⟩
  have hn6_46 := New.of_eq hp6_46
  have z6_46 := hn6_46.size
  replace hE := hE.ext hn6_46.ext
  replace o4_3 := o4_3.ext hn6_46.ext
  replace o4_4 := o4_4.ext hn6_46.ext
  replace o5_1 := o5_1.ext hn6_46.ext
  replace o6_2 := o6_2.ext hn6_46.ext
  replace o6_4 := o6_4.ext hn6_46.ext
  replace o6_7 := o6_7.ext hn6_46.ext
  replace o6_10 := o6_10.ext hn6_46.ext
  replace o6_14 := o6_14.ext hn6_46.ext
  replace o6_20 := o6_20.ext hn6_46.ext
  replace o6_26 := o6_26.ext hn6_46.ext
  replace o6_31 := o6_31.ext hn6_46.ext
  replace o6_37 := o6_37.ext hn6_46.ext
  replace o6_42 := o6_42.ext hn6_46.ext
  have o6_46 := hn6_46.own
  refine Reg.lod rfl rfl rfl rfl (Lod.ldn ag37 rfl o4_3.blk rfl rfl) ?_
  refine Reg.pur rfl rfl rfl rfl (Pur.bld (cs := [_, _, _, _, _, _, _, _, _]) pl37 zc37 rfl rfl ⟨rfl, rfl, rfl, rfl, rfl, rfl, rfl, rfl, rfl, rfl⟩) ?_
  refine Reg.pur rfl rfl rfl rfl (Pur.bld (cs := [_, _, _, _, _, _, _, _, _]) pl37 zc37 rfl rfl ⟨rfl, rfl, rfl, rfl, rfl, rfl, rfl, rfl, rfl, rfl⟩) ?_
  refine Reg.op rfl rfl rfl rfl (Does.bslA ([[_, _, _, _, _, _, _, _, _], [_, _, _, _, _, _, _, _, _], [_, _, _, _, _, _, _, _, _]]) slA22 rfl rfl rfl rfl rfl rfl) ?_
  rintro _ H6_50 ⟨rfl, hp6_50⟩
  have hn6_50 := New.of_eq hp6_50
  have z6_50 := hn6_50.size
  replace hE := hE.ext hn6_50.ext
  replace o4_3 := o4_3.ext hn6_50.ext
  replace o4_4 := o4_4.ext hn6_50.ext
  replace o5_1 := o5_1.ext hn6_50.ext
  replace o6_2 := o6_2.ext hn6_50.ext
  replace o6_4 := o6_4.ext hn6_50.ext
  replace o6_7 := o6_7.ext hn6_50.ext
  replace o6_10 := o6_10.ext hn6_50.ext
  replace o6_14 := o6_14.ext hn6_50.ext
  replace o6_20 := o6_20.ext hn6_50.ext
  replace o6_26 := o6_26.ext hn6_50.ext
  replace o6_31 := o6_31.ext hn6_50.ext
  replace o6_37 := o6_37.ext hn6_50.ext
  replace o6_42 := o6_42.ext hn6_50.ext
  replace o6_46 := o6_46.ext hn6_50.ext
  have o6_50 := hn6_50.own
  refine Reg.op rfl rfl rfl rfl (Does.bsl1 sl1_39 rfl rfl rfl rfl rfl) ?_
  rintro _ H6_51 ⟨rfl, hn6_51⟩
  have z6_51 := hn6_51.size
  replace hE := hE.ext hn6_51.ext
  replace o4_3 := o4_3.ext hn6_51.ext
  replace o4_4 := o4_4.ext hn6_51.ext
  replace o5_1 := o5_1.ext hn6_51.ext
  replace o6_2 := o6_2.ext hn6_51.ext
  replace o6_4 := o6_4.ext hn6_51.ext
  replace o6_7 := o6_7.ext hn6_51.ext
  replace o6_10 := o6_10.ext hn6_51.ext
  replace o6_14 := o6_14.ext hn6_51.ext
  replace o6_20 := o6_20.ext hn6_51.ext
  replace o6_26 := o6_26.ext hn6_51.ext
  replace o6_31 := o6_31.ext hn6_51.ext
  replace o6_37 := o6_37.ext hn6_51.ext
  replace o6_42 := o6_42.ext hn6_51.ext
  replace o6_46 := o6_46.ext hn6_51.ext
  replace o6_50 := o6_50.ext hn6_51.ext
  have o6_51 := hn6_51.own
  refine Reg.pur rfl rfl rfl rfl (Pur.asg rfl) ?_
  refine Reg.nil ?_
  refine At.region rfl rfl ?_
  refine Reg.pur rfl rfl rfl rfl (Pur.mv rfl) ?_
  refine Reg.pur rfl rfl rfl rfl (Pur.bld (cs := [_, _]) pl25 zc25 rfl rfl ⟨rfl, rfl, rfl⟩) ?_
  refine Reg.pur rfl rfl rfl rfl (Pur.bld (cs := [_, _]) pl25 zc25 rfl rfl ⟨rfl, rfl, rfl⟩) ?_
  refine Reg.pur rfl rfl rfl rfl (Pur.bld (cs := [_, _]) pl25 zc25 rfl rfl ⟨rfl, rfl, rfl⟩) ?_
  refine Reg.pur rfl rfl rfl rfl (Pur.bld (cs := [_, _]) pl25 zc25 rfl rfl ⟨rfl, rfl, rfl⟩) ?_
  refine Reg.pur rfl rfl rfl rfl (Pur.bld (cs := [_, _]) pl25 zc25 rfl rfl ⟨rfl, rfl, rfl⟩) ?_
  refine Reg.pur rfl rfl rfl rfl (Pur.bld (cs := [_, _]) pl25 zc25 rfl rfl ⟨rfl, rfl, rfl⟩) ?_
  refine Reg.pur rfl rfl rfl rfl (Pur.bld (cs := [_, _]) pl25 zc25 rfl rfl ⟨rfl, rfl, rfl⟩) ?_
  refine Reg.pur rfl rfl rfl rfl (Pur.bld (cs := [_, _]) pl25 zc25 rfl rfl ⟨rfl, rfl, rfl⟩) ?_
  refine Reg.pur rfl rfl rfl rfl (Pur.mv rfl) ?_
  refine Reg.pur rfl rfl rfl rfl (Pur.bld (cs := [_, _]) pl25 zc25 rfl rfl ⟨rfl, rfl, rfl⟩) ?_
  refine Reg.pur rfl rfl rfl rfl (Pur.bld (cs := [_, _]) pl25 zc25 rfl rfl ⟨rfl, rfl, rfl⟩) ?_
  refine Reg.pur rfl rfl rfl rfl (Pur.bld (cs := [_, _]) pl25 zc25 rfl rfl ⟨rfl, rfl, rfl⟩) ?_
  refine Reg.pur rfl rfl rfl rfl (Pur.bld (cs := [_, _]) pl25 zc25 rfl rfl ⟨rfl, rfl, rfl⟩) ?_
  refine Reg.op rfl rfl rfl rfl (Does.bslA ([[_, _], [_, _], [_, _], [_, _], [_, _], [_, _], [_, _], [_, _], [_, _], [_, _], [_, _], [_, _]]) slA40 rfl rfl rfl rfl rfl rfl) ?_
  rintro _ H7_14 ⟨rfl, hp7_14⟩
  have hn7_14 := New.of_eq hp7_14
  have z7_14 := hn7_14.size
  replace hE := hE.ext hn7_14.ext
  replace o4_3 := o4_3.ext hn7_14.ext
  replace o4_4 := o4_4.ext hn7_14.ext
  replace o5_1 := o5_1.ext hn7_14.ext
  replace o6_2 := o6_2.ext hn7_14.ext
  replace o6_4 := o6_4.ext hn7_14.ext
  replace o6_7 := o6_7.ext hn7_14.ext
  replace o6_10 := o6_10.ext hn7_14.ext
  replace o6_14 := o6_14.ext hn7_14.ext
  replace o6_20 := o6_20.ext hn7_14.ext
  replace o6_26 := o6_26.ext hn7_14.ext
  replace o6_31 := o6_31.ext hn7_14.ext
  replace o6_37 := o6_37.ext hn7_14.ext
  replace o6_42 := o6_42.ext hn7_14.ext
  replace o6_46 := o6_46.ext hn7_14.ext
  replace o6_50 := o6_50.ext hn7_14.ext
  replace o6_51 := o6_51.ext hn7_14.ext
  have o7_14 := hn7_14.own
  have o7_14 : Own H7_14 H6_51.size ((Ws k).flatMap eW) := o7_14
  refine Reg.pur rfl rfl rfl rfl (Pur.asg rfl) ?_
  refine Reg.nil ?_
  have hTs : ∀ i L, (Ts k)[i]? = some L → ∃ b, ([.slice (some ⟨H5_2.size, 0, none⟩) 2 2, .slice (some ⟨H6_2.size, 0, none⟩) 1 1, .slice (some ⟨H6_4.size, 0, none⟩) 2 2, .slice (some ⟨H6_7.size, 0, none⟩) 2 2, .slice (some ⟨H6_10.size, 0, none⟩) 3 3, .slice (some ⟨H6_14.size, 0, none⟩) 5 5, .slice (some ⟨H6_20.size, 0, none⟩) 5 5, .slice (some ⟨H6_26.size, 0, none⟩) 4 4, .slice (some ⟨H6_31.size, 0, none⟩) 5 5, .slice (some ⟨H6_37.size, 0, none⟩) 4 4, .slice (some ⟨H6_42.size, 0, none⟩) 3 3, .slice (some ⟨H6_46.size, 0, none⟩) 3 3] : List Value)[0 + i * 1]? = some (.slice (some ⟨b, 0, none⟩) L.length L.length) ∧ Blk H7_14 b (L.flatMap Is) := by
    intro i L hL
    unfold Ts at hL
    rcases i with _ | _ | _ | _ | _ | _ | _ | _ | _ | _ | _ | _ | i
    · cases hL; exact ⟨_, rfl, o6_2.blk⟩
    · cases hL; exact ⟨_, rfl, o6_4.blk⟩
    · cases hL; exact ⟨_, rfl, o6_7.blk⟩
    · cases hL; exact ⟨_, rfl, o6_10.blk⟩
    · cases hL; exact ⟨_, rfl, o6_14.blk⟩
    · cases hL; exact ⟨_, rfl, o6_20.blk⟩
    · cases hL; exact ⟨_, rfl, o6_26.blk⟩
    · cases hL; exact ⟨_, rfl, o6_31.blk⟩
    · cases hL; exact ⟨_, rfl, o6_37.blk⟩
    · cases hL; exact ⟨_, rfl, o6_42.blk⟩
    · cases hL; exact ⟨_, rfl, o6_46.blk⟩
    · cases hL; exact ⟨_, rfl, o6_50.blk⟩
    · cases hL
  refine At.region rfl rfl ?_
  refine Reg.pur rfl rfl rfl rfl (Pur.mv rfl) ?_
  refine Reg.pur rfl rfl rfl rfl (Pur.cnv Try.underlying3 Try.underlying41 rfl) ?_
  first | refine Reg.pur rfl rfl rfl rfl (Pur.rem rfl rfl (by omega)) ?_ | refine Reg.pur rfl rfl rfl rfl (Pur.rem rfl rfl (by decide)) ?_
  refine Reg.pur rfl rfl rfl rfl (Pur.cnv Try.underlying41 Try.underlying3 rfl) ?_
  refine Reg.pur rfl rfl rfl rfl (Pur.asg rfl) ?_
  refine Reg.nil ?_
  generalize hz : IntKind.i64.wrap ((IntKind.u64.wrap w).tmod 12) = z at *
  obtain ⟨L, hLi⟩ : ∃ L, (Ts k)[z.toNat]? = some L := ⟨_, List.getElem?_eq_getElem (by simp [Ts]; omega)⟩
  obtain ⟨hL9, hL5, o, n, hW, hrun, hn0, hn1⟩ := Ts_run hx.1 hx.2 hLi
  obtain ⟨b, hb, hB⟩ := hTs z.toNat L hLi
  refine At.region rfl rfl ?_
  refine Reg.pur rfl rfl rfl rfl (Pur.mv rfl) ?_
  refine Reg.pur rfl rfl rfl rfl (Pur.mv rfl) ?_
  refine Reg.pur rfl rfl rfl rfl (Pur.idx _ es39 rfl rfl (by omega) (by omega)) ?_
  refine Reg.lod rfl rfl rfl rfl (Lod.ld sc22 rfl o6_51.blk hb) ?_
  refine Reg.op rfl rfl rfl rfl (Does.call rfl (runP_ok L hL9 (sl_of hL9 hB (by rw [List.drop_zero, List.take_of_length_le (by rw [flat_len hL9]; exact Nat.le_refl _)]) (Nat.le_refl _) (by omega)) (by omega) 99 (by decide))) ?_
  rintro _ H9_4 ⟨rfl, hE9_4⟩
  have z9_4 := hE9_4.lt
  replace hE := hE.ext hE9_4
  replace o4_3 := o4_3.ext hE9_4
  replace o4_4 := o4_4.ext hE9_4
  replace o5_1 := o5_1.ext hE9_4
  replace o6_2 := o6_2.ext hE9_4
  replace o6_4 := o6_4.ext hE9_4
  replace o6_7 := o6_7.ext hE9_4
  replace o6_10 := o6_10.ext hE9_4
  replace o6_14 := o6_14.ext hE9_4
  replace o6_20 := o6_20.ext hE9_4
  replace o6_26 := o6_26.ext hE9_4
  replace o6_31 := o6_31.ext hE9_4
  replace o6_37 := o6_37.ext hE9_4
  replace o6_42 := o6_42.ext hE9_4
  replace o6_46 := o6_46.ext hE9_4
  replace o6_50 := o6_50.ext hE9_4
  replace o6_51 := o6_51.ext hE9_4
  replace o7_14 := o7_14.ext hE9_4
  rw [hrun]
  refine Reg.pur rfl rfl rfl rfl (Pur.mv rfl) ?_
  refine Reg.pur rfl rfl rfl rfl (Pur.ext rfl rfl) ?_
  refine Reg.pur rfl rfl rfl rfl (Pur.ext rfl rfl) ?_
  refine Reg.pur rfl rfl rfl rfl (Pur.ext rfl rfl) ?_
  refine Reg.op rfl rfl rfl rfl (Does.alloc zc25) ?_
  rintro _ H9_9 ⟨rfl, hn9_9⟩
  have z9_9 := hn9_9.size
  replace hE := hE.ext hn9_9.ext
  replace o4_3 := o4_3.ext hn9_9.ext
  replace o4_4 := o4_4.ext hn9_9.ext
  replace o5_1 := o5_1.ext hn9_9.ext
  replace o6_2 := o6_2.ext hn9_9.ext
  replace o6_4 := o6_4.ext hn9_9.ext
  replace o6_7 := o6_7.ext hn9_9.ext
  replace o6_10 := o6_10.ext hn9_9.ext
  replace o6_14 := o6_14.ext hn9_9.ext
  replace o6_20 := o6_20.ext hn9_9.ext
  replace o6_26 := o6_26.ext hn9_9.ext
  replace o6_31 := o6_31.ext hn9_9.ext
  replace o6_37 := o6_37.ext hn9_9.ext
  replace o6_42 := o6_42.ext hn9_9.ext
  replace o6_46 := o6_46.ext hn9_9.ext
  replace o6_50 := o6_50.ext hn9_9.ext
  replace o6_51 := o6_51.ext hn9_9.ext
  replace o7_14 := o7_14.ext hn9_9.ext
  have o9_9 := hn9_9.own
  refine Reg.op0 rfl rfl rfl (Does.stn ag25 rfl rfl rfl rfl o9_9 (by simp)) ?_
  rintro _ H9_10 hu9_10
  have z9_10 := hu9_10.size
  replace hE := hE.upw hu9_10 (by omega)
  replace o4_3 := o4_3.upw hu9_10 (by omega)
  replace o4_4 := o4_4.upw hu9_10 (by omega)
  replace o5_1 := o5_1.upw hu9_10 (by omega)
  replace o6_2 := o6_2.upw hu9_10 (by omega)
  replace o6_4 := o6_4.upw hu9_10 (by omega)
  replace o6_7 := o6_7.upw hu9_10 (by omega)
  replace o6_10 := o6_10.upw hu9_10 (by omega)
  replace o6_14 := o6_14.upw hu9_10 (by omega)
  replace o6_20 := o6_20.upw hu9_10 (by omega)
  replace o6_26 := o6_26.upw hu9_10 (by omega)
  replace o6_31 := o6_31.upw hu9_10 (by omega)
  replace o6_37 := o6_37.upw hu9_10 (by omega)
  replace o6_42 := o6_42.upw hu9_10 (by omega)
  replace o6_46 := o6_46.upw hu9_10 (by omega)
  replace o6_50 := o6_50.upw hu9_10 (by omega)
  replace o6_51 := o6_51.upw hu9_10 (by omega)
  replace o7_14 := o7_14.upw hu9_10 (by omega)
  replace o9_9 := hu9_10.own
  first | rw [over (by first | rfl | (simp; done))] at o9_9 | skip
  refine Reg.pur rfl rfl rfl rfl (Pur.asg rfl) ?_
  refine Reg.pur rfl rfl rfl rfl (Pur.asg rfl) ?_
  refine Reg.nil ?_
  refine At.drawE ((Bks.cons o9_9.blk (Bks.cons o7_14.blk Bks.nil))) [] mixed rfl rfl ?_
  refine RegD.tpur (i := 0) rfl rfl rfl rfl (by kernel_rfl) (Pur.mv rfl) ?_
  refine RegD.one (i := 1) (by kernel_rfl) rfl rfl rfl rfl (Does.call rfl (num_ok _ _)) ?_
  rintro _ H9_10 ⟨rfl, rfl⟩
  refine ⟨fun _ _ => (Bks.cons o9_9.blk (Bks.cons o7_14.blk Bks.nil)), ?_⟩
  refine RegD.tpur (i := 2) rfl rfl rfl rfl (by kernel_rfl) (Pur.eql rfl rfl) ?_
  refine RegD.tpur (i := 3) rfl rfl rfl rfl (by kernel_rfl) (Pur.mv rfl) ?_
  refine RegD.known (b' := true) 106 rfl rfl ?_
  refine RegD.gtake (i := 4) rfl rfl rfl rfl rfl rfl (by kernel_rfl) (Bks.cons o9_9.blk (Bks.cons o7_14.blk Bks.nil)) (fun H hS => Lod.ldn ag25 rfl hS.hd rfl rfl) ?_
  refine RegD.gtpur (i := 5) rfl rfl rfl rfl rfl rfl (by kernel_rfl) (Pur.mv rfl) ?_
  refine RegD.gtpur (i := 6) rfl rfl rfl rfl rfl rfl (by kernel_rfl) (Pur.mv rfl) ?_
  refine RegD.gtpur (i := 7) rfl rfl rfl rfl rfl rfl (by kernel_rfl) (Pur.idx _ es40 rfl rfl (by omega) (by omega)) ?_
  refine RegD.gtake (i := 8) rfl rfl rfl rfl rfl rfl (by kernel_rfl) (Bks.cons o9_9.blk (Bks.cons o7_14.blk Bks.nil)) (fun H hS => Lod.ldn ag25 rfl hS.tl.hd (Ws_rd hW) rfl) ?_
  refine RegD.gtpur (i := 9) rfl rfl rfl rfl rfl rfl (by kernel_rfl) (Pur.eqA eqt25 rfl rfl (⟨⟨_, rfl⟩, ⟨_, rfl⟩, trivial⟩) (⟨⟨_, rfl⟩, ⟨_, rfl⟩, trivial⟩)) ?_
  refine RegD.tpur (i := 10) rfl rfl rfl rfl (by kernel_rfl) (Pur.pickT rfl rfl) ?_
  refine RegD.tpur (i := 11) rfl rfl rfl rfl (by kernel_rfl) (Pur.mv rfl) ?_
  refine RegD.case 114 rfl (fun q114 => ?_) (fun q114 => ?_)
  · first | (simp only [decide_eq_true_eq, decide_eq_false_iff_not, Bool.not_eq_true', Bool.not_eq_false', ne_eq, Decidable.not_not, Bool.not_eq_true, Bool.not_eq_false] at q114) | (dsimp only at q114) | skip
    refine RegD.gtpur (i := 12) rfl rfl rfl rfl rfl rfl (by kernel_rfl) (Pur.mv rfl) ?_
    refine RegD.gtpur (i := 13) rfl rfl rfl rfl rfl rfl (by kernel_rfl) (Pur.gtr rfl rfl) ?_
    refine RegD.tpur (i := 14) rfl rfl rfl rfl (by kernel_rfl) (Pur.pickT rfl rfl) ?_
    refine RegD.tpur (i := 15) rfl rfl rfl rfl (by kernel_rfl) (Pur.asg rfl) ?_
    refine RegD.done (by kernel_rfl) ?_
    refine At.ret rfl Try.func5 rfl ?_
    exact ⟨by first | rfl | (simp [eqs, eqv]; done) | (simp [eqs, eqv]; omega) | (exfalso; simp_all [eqs, eqv]), hE⟩
  first | (simp only [decide_eq_true_eq, decide_eq_false_iff_not, Bool.not_eq_true', Bool.not_eq_false', ne_eq, Decidable.not_not, Bool.not_eq_true, Bool.not_eq_false] at q114) | (dsimp only at q114) | skip
  refine RegD.skip (i := 12) rfl rfl rfl rfl rfl rfl rfl (by kernel_rfl) ?_
  refine RegD.skip (i := 13) rfl rfl rfl rfl rfl rfl rfl (by kernel_rfl) ?_
  refine RegD.tpur (i := 14) rfl rfl rfl rfl (by kernel_rfl) (Pur.pickF rfl rfl) ?_
  refine RegD.tpur (i := 15) rfl rfl rfl rfl (by kernel_rfl) (Pur.asg rfl) ?_
  refine RegD.done (by kernel_rfl) ?_
  refine At.ret rfl Try.func5 rfl ?_
  exact ⟨by first | rfl | (simp [eqs, eqv]; done) | (simp [eqs, eqv]; omega) | (exfalso; simp_all [eqs, eqv]), hE⟩
end Go.Proofs.Ytjhkmebmbopfoaa
