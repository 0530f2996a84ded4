/-
  Chapter 21: what its laws come to.
-/
import Derived.Test.YtjhkmebmbopfoaaMacQ
import Derived.Test.YtjhkmebmbopfoaaTgtN
namespace Go.Proofs.Ytjhkmebmbopfoaa
set_option linter.unusedSimpArgs false
set_option linter.unusedVariables false
set_option maxRecDepth 8000
set_option maxHeartbeats 2000000
open Go Go.Fx Go.Proofs
namespace FactsMacR
theorem ag25 : ag Try.prog 25 = some 2 := by kernel_rfl
theorem ag37 : ag Try.prog 37 = some 9 := by kernel_rfl
theorem eqt25 : eqT Try.prog 25 = some [.int .i64, .int .i64] := by kernel_rfl
theorem fo25_0 : foff Try.prog 25 0 = some 0 := by kernel_rfl
theorem pl25 : places Try.prog 25 = some [(0, 1), (1, 1)] := by kernel_rfl
theorem pl37 : places Try.prog 37 = some [(0, 1), (1, 1), (2, 1), (3, 1), (4, 1), (5, 1), (6, 1), (7, 1), (8, 1)] := by kernel_rfl
theorem sc3 : sc Try.prog 3 = true := by kernel_rfl
theorem slA22 : slA Try.prog 22 = some (37, 9) := by kernel_rfl
theorem zc25 : zc Try.prog 25 = some [.int .i64 0, .int .i64 0] := by kernel_rfl
theorem zc37 : zc Try.prog 37 = some [.int .i64 0, .int .i64 0, .int .i64 0, .int .i64 0, .int .i64 0, .int .i64 0, .int .i64 0, .int .i64 0, .int .i64 0] := by kernel_rfl
end FactsMacR
open FactsMacR

abbrev r1 : List Int := [1, 0, 0, 0, 1, 0, 0, 0, 0]
abbrev r9 (a : Int) : List Int := [9, a, 0, 0, 0, 0, 0, 0, 0]
abbrev r0 (k : Int) : List Int := [0, 0, 0, 0, k, 0, 0, 0, 0]
abbrev awA : List (List Int) := [r1, r9 0]
abbrev awB : List (List Int) := [r1]
abbrev awC : List (List Int) := [r1, r9 0, r0 3, r9 2, [11, 1, 3, 0, 0, 3, 0, 0, 0]]
theorem awA9 : ∀ x ∈ awA, x.length = 9 := by decide
theorem awB9 : ∀ x ∈ awB, x.length = 9 := by decide
theorem awC9 : ∀ x ∈ awC, x.length = 9 := by decide
theorem awA_run : runS awA 9 = ((0, 1), 3, 0) := by decide +kernel
theorem awB_run : (runS awB 9).1 = (5, 0) ∧ (runS awB 9).2.2 = 0 := by decide +kernel
theorem awC_run : (runS awC 9).1 = (0, 1) ∧ (runS awC 9).2.2 = 0 := by decide +kernel
theorem awD_run : runS awA 2 = ((4, 0), 2, 0) := by decide +kernel
theorem awN_run : (runS [] 9).2.2 = 2100 := by decide +kernel
theorem awake21_ok (H : Heap) : Ret Try.prog 12 [] H (fun v H' => v = .bool true ∧ Ext H H') := by
  refine Ret.of_at (N := 108) Try.call12 Try.func12 rfl rfl rfl ?_
  have hE := Ext.refl H
  refine At.region rfl rfl ?_
  refine Reg.pur rfl rfl rfl rfl (Pur.asg rfl) ?_
  refine Reg.nil ?_
  refine At.region rfl rfl ?_
  refine Reg.pur rfl rfl rfl rfl (Pur.bld (cs := [_, _, _, _, _, _, _, _, _]) pl37 zc37 rfl rfl ⟨rfl, rfl, rfl, rfl, rfl, rfl, rfl, rfl, rfl, rfl⟩) ?_
  refine Reg.op rfl rfl rfl rfl (Does.alloc zc37) ?_
  rintro _ H1_1 ⟨rfl, hn1_1⟩
  have z1_1 := hn1_1.size
  replace hE := hE.ext hn1_1.ext
  have o1_1 := hn1_1.own
  refine Reg.op0 rfl rfl rfl (Does.stn ag37 rfl rfl rfl rfl o1_1 (by simp)) ?_
  rintro _ H1_2 hu1_2
  have z1_2 := hu1_2.size
  replace hE := hE.upw hu1_2 (by omega)
  replace o1_1 := hu1_2.own
  first | rw [over (by first | rfl | (simp; done))] at o1_1 | skip
  refine Reg.nil ?_
  refine At.region rfl rfl ?_
  refine Reg.lod rfl rfl rfl rfl (Lod.ldn ag37 rfl o1_1.blk rfl rfl) ?_
  refine Reg.pur rfl rfl rfl rfl (Pur.bld (cs := [_, _, _, _, _, _, _, _, _]) pl37 zc37 rfl rfl ⟨rfl, rfl, rfl, rfl, rfl, rfl, rfl, rfl, rfl, rfl⟩) ?_
  refine Reg.op rfl rfl rfl rfl (Does.bslA ([[_, _, _, _, _, _, _, _, _], [_, _, _, _, _, _, _, _, _]]) slA22 rfl rfl rfl rfl rfl rfl) ?_
  rintro _ H2_2 ⟨rfl, hp2_2⟩
  have hn2_2 := New.of_eq hp2_2
  have z2_2 := hn2_2.size
  replace hE := hE.ext hn2_2.ext
  replace o1_1 := o1_1.ext hn2_2.ext
  have o2_2 := hn2_2.own
  refine Reg.op rfl rfl rfl rfl (Does.call rfl (runP_ok awA awA9 (sl_new awA9 (⟨_, hp2_2⟩ : New _ _ (awA.flatMap Is)) (by decide)) (by decide) 9 (by decide))) ?_
  rintro _ H2_3 ⟨rfl, hE2_3⟩
  have z2_3 := hE2_3.lt
  replace hE := hE.ext hE2_3
  replace o1_1 := o1_1.ext hE2_3
  replace o2_2 := o2_2.ext hE2_3
  rw [awA_run]
  refine Reg.pur rfl rfl rfl rfl (Pur.mv rfl) ?_
  refine Reg.pur rfl rfl rfl rfl (Pur.ext rfl rfl) ?_
  refine Reg.pur rfl rfl rfl rfl (Pur.ext rfl rfl) ?_
  refine Reg.pur rfl rfl rfl rfl (Pur.ext rfl rfl) ?_
  refine Reg.op rfl rfl rfl rfl (Does.alloc zc25) ?_
  rintro _ H2_8 ⟨rfl, hn2_8⟩
  have z2_8 := hn2_8.size
  replace hE := hE.ext hn2_8.ext
  replace o1_1 := o1_1.ext hn2_8.ext
  replace o2_2 := o2_2.ext hn2_8.ext
  have o2_8 := hn2_8.own
  refine Reg.op0 rfl rfl rfl (Does.stn ag25 rfl rfl rfl rfl o2_8 (by simp)) ?_
  rintro _ H2_9 hu2_9
  have z2_9 := hu2_9.size
  replace hE := hE.upw hu2_9 (by omega)
  replace o1_1 := o1_1.upw hu2_9 (by omega)
  replace o2_2 := o2_2.upw hu2_9 (by omega)
  replace o2_8 := hu2_9.own
  first | rw [over (by first | rfl | (simp; done))] at o2_8 | skip
  refine Reg.pur rfl rfl rfl rfl (Pur.asg rfl) ?_
  refine Reg.pur rfl rfl rfl rfl (Pur.asg rfl) ?_
  refine Reg.nil ?_
  refine At.region rfl rfl ?_
  refine Reg.lod rfl rfl rfl rfl (Lod.ldn ag37 rfl o1_1.blk rfl rfl) ?_
  refine Reg.op rfl rfl rfl rfl (Does.bslA ([[_, _, _, _, _, _, _, _, _]]) slA22 rfl rfl rfl rfl rfl rfl) ?_
  rintro _ H3_1 ⟨rfl, hp3_1⟩
  have hn3_1 := New.of_eq hp3_1
  have z3_1 := hn3_1.size
  replace hE := hE.ext hn3_1.ext
  replace o1_1 := o1_1.ext hn3_1.ext
  replace o2_2 := o2_2.ext hn3_1.ext
  replace o2_8 := o2_8.ext hn3_1.ext
  have o3_1 := hn3_1.own
  refine Reg.op rfl rfl rfl rfl (Does.call rfl (runP_ok awB awB9 (sl_new awB9 (⟨_, hp3_1⟩ : New _ _ (awB.flatMap Is)) (by decide)) (by decide) 9 (by decide))) ?_
  rintro _ H3_2 ⟨rfl, hE3_2⟩
  have z3_2 := hE3_2.lt
  replace hE := hE.ext hE3_2
  replace o1_1 := o1_1.ext hE3_2
  replace o2_2 := o2_2.ext hE3_2
  replace o2_8 := o2_8.ext hE3_2
  replace o3_1 := o3_1.ext hE3_2
  rw [awB_run.1, awB_run.2]
  refine Reg.pur rfl rfl rfl rfl (Pur.mv rfl) ?_
  refine Reg.pur rfl rfl rfl rfl (Pur.ext rfl rfl) ?_
  refine Reg.pur rfl rfl rfl rfl (Pur.ext rfl rfl) ?_
  refine Reg.pur rfl rfl rfl rfl (Pur.ext rfl rfl) ?_
  refine Reg.op rfl rfl rfl rfl (Does.alloc zc25) ?_
  rintro _ H3_7 ⟨rfl, hn3_7⟩
  have z3_7 := hn3_7.size
  replace hE := hE.ext hn3_7.ext
  replace o1_1 := o1_1.ext hn3_7.ext
  replace o2_2 := o2_2.ext hn3_7.ext
  replace o2_8 := o2_8.ext hn3_7.ext
  replace o3_1 := o3_1.ext hn3_7.ext
  have o3_7 := hn3_7.own
  refine Reg.op0 rfl rfl rfl (Does.stn ag25 rfl rfl rfl rfl o3_7 (by simp)) ?_
  rintro _ H3_8 hu3_8
  have z3_8 := hu3_8.size
  replace hE := hE.upw hu3_8 (by omega)
  replace o1_1 := o1_1.upw hu3_8 (by omega)
  replace o2_2 := o2_2.upw hu3_8 (by omega)
  replace o2_8 := o2_8.upw hu3_8 (by omega)
  replace o3_1 := o3_1.upw hu3_8 (by omega)
  replace o3_7 := hu3_8.own
  first | rw [over (by first | rfl | (simp; done))] at o3_7 | skip
  refine Reg.pur rfl rfl rfl rfl (Pur.asg rfl) ?_
  refine Reg.pur rfl rfl rfl rfl (Pur.asg rfl) ?_
  refine Reg.nil ?_
  refine At.region rfl rfl ?_
  refine Reg.lod rfl rfl rfl rfl (Lod.ldn ag37 rfl o1_1.blk rfl rfl) ?_
  refine Reg.pur rfl rfl rfl rfl (Pur.bld (cs := [_, _, _, _, _, _, _, _, _]) pl37 zc37 rfl rfl ⟨rfl, rfl, rfl, rfl, rfl, rfl, rfl, rfl, rfl, rfl⟩) ?_
  refine Reg.pur rfl rfl rfl rfl (Pur.bld (cs := [_, _, _, _, _, _, _, _, _]) pl37 zc37 rfl rfl ⟨rfl, rfl, rfl, rfl, rfl, rfl, rfl, rfl, rfl, rfl⟩) ?_
  refine Reg.pur rfl rfl rfl rfl (Pur.bld (cs := [_, _, _, _, _, _, _, _, _]) pl37 zc37 rfl rfl ⟨rfl, rfl, rfl, rfl, rfl, rfl, rfl, rfl, rfl, rfl⟩) ?_
  refine Reg.pur rfl rfl rfl rfl (Pur.bld (cs := [_, _, _, _, _, _, _, _, _]) pl37 zc37 rfl rfl ⟨rfl, rfl, rfl, rfl, rfl, rfl, rfl, rfl, rfl, rfl⟩) ?_
  refine Reg.op rfl rfl rfl rfl (Does.bslA ([[_, _, _, _, _, _, _, _, _], [_, _, _, _, _, _, _, _, _], [_, _, _, _, _, _, _, _, _], [_, _, _, _, _, _, _, _, _], [_, _, _, _, _, _, _, _, _]]) slA22 rfl rfl rfl rfl rfl rfl) ?_
  rintro _ H4_5 ⟨rfl, hp4_5⟩
  have hn4_5 := New.of_eq hp4_5
  have z4_5 := hn4_5.size
  replace hE := hE.ext hn4_5.ext
  replace o1_1 := o1_1.ext hn4_5.ext
  replace o2_2 := o2_2.ext hn4_5.ext
  replace o2_8 := o2_8.ext hn4_5.ext
  replace o3_1 := o3_1.ext hn4_5.ext
  replace o3_7 := o3_7.ext hn4_5.ext
  have o4_5 := hn4_5.own
  refine Reg.op rfl rfl rfl rfl (Does.call rfl (runP_ok awC awC9 (sl_new awC9 (⟨_, hp4_5⟩ : New _ _ (awC.flatMap Is)) (by decide)) (by decide) 9 (by decide))) ?_
  rintro _ H4_6 ⟨rfl, hE4_6⟩
  have z4_6 := hE4_6.lt
  replace hE := hE.ext hE4_6
  replace o1_1 := o1_1.ext hE4_6
  replace o2_2 := o2_2.ext hE4_6
  replace o2_8 := o2_8.ext hE4_6
  replace o3_1 := o3_1.ext hE4_6
  replace o3_7 := o3_7.ext hE4_6
  replace o4_5 := o4_5.ext hE4_6
  rw [awC_run.1, awC_run.2]
  refine Reg.pur rfl rfl rfl rfl (Pur.mv rfl) ?_
  refine Reg.pur rfl rfl rfl rfl (Pur.ext rfl rfl) ?_
  refine Reg.pur rfl rfl rfl rfl (Pur.ext rfl rfl) ?_
  refine Reg.pur rfl rfl rfl rfl (Pur.ext rfl rfl) ?_
  refine Reg.op rfl rfl rfl rfl (Does.alloc zc25) ?_
  rintro _ H4_11 ⟨rfl, hn4_11⟩
  have z4_11 := hn4_11.size
  replace hE := hE.ext hn4_11.ext
  replace o1_1 := o1_1.ext hn4_11.ext
  replace o2_2 := o2_2.ext hn4_11.ext
  replace o2_8 := o2_8.ext hn4_11.ext
  replace o3_1 := o3_1.ext hn4_11.ext
  replace o3_7 := o3_7.ext hn4_11.ext
  replace o4_5 := o4_5.ext hn4_11.ext
  have o4_11 := hn4_11.own
  refine Reg.op0 rfl rfl rfl (Does.stn ag25 rfl rfl rfl rfl o4_11 (by simp)) ?_
  rintro _ H4_12 hu4_12
  have z4_12 := hu4_12.size
  replace hE := hE.upw hu4_12 (by omega)
  replace o1_1 := o1_1.upw hu4_12 (by omega)
  replace o2_2 := o2_2.upw hu4_12 (by omega)
  replace o2_8 := o2_8.upw hu4_12 (by omega)
  replace o3_1 := o3_1.upw hu4_12 (by omega)
  replace o3_7 := o3_7.upw hu4_12 (by omega)
  replace o4_5 := o4_5.upw hu4_12 (by omega)
  replace o4_11 := hu4_12.own
  first | rw [over (by first | rfl | (simp; done))] at o4_11 | skip
  refine Reg.pur rfl rfl rfl rfl (Pur.asg rfl) ?_
  refine Reg.pur rfl rfl rfl rfl (Pur.asg rfl) ?_
  refine Reg.nil ?_
  refine At.region rfl rfl ?_
  refine Reg.lod rfl rfl rfl rfl (Lod.ldn ag37 rfl o1_1.blk rfl rfl) ?_
  refine Reg.pur rfl rfl rfl rfl (Pur.bld (cs := [_, _, _, _, _, _, _, _, _]) pl37 zc37 rfl rfl ⟨rfl, rfl, rfl, rfl, rfl, rfl, rfl, rfl, rfl, rfl⟩) ?_
  refine Reg.op rfl rfl rfl rfl (Does.bslA ([[_, _, _, _, _, _, _, _, _], [_, _, _, _, _, _, _, _, _]]) slA22 rfl rfl rfl rfl rfl rfl) ?_
  rintro _ H5_2 ⟨rfl, hp5_2⟩
  have hn5_2 := New.of_eq hp5_2
  have z5_2 := hn5_2.size
  replace hE := hE.ext hn5_2.ext
  replace o1_1 := o1_1.ext hn5_2.ext
  replace o2_2 := o2_2.ext hn5_2.ext
  replace o2_8 := o2_8.ext hn5_2.ext
  replace o3_1 := o3_1.ext hn5_2.ext
  replace o3_7 := o3_7.ext hn5_2.ext
  replace o4_5 := o4_5.ext hn5_2.ext
  replace o4_11 := o4_11.ext hn5_2.ext
  have o5_2 := hn5_2.own
  refine Reg.op rfl rfl rfl rfl (Does.call rfl (runP_ok awA awA9 (sl_new awA9 (⟨_, hp5_2⟩ : New _ _ (awA.flatMap Is)) (by decide)) (by decide) 2 (by decide))) ?_
  rintro _ H5_3 ⟨rfl, hE5_3⟩
  have z5_3 := hE5_3.lt
  replace hE := hE.ext hE5_3
  replace o1_1 := o1_1.ext hE5_3
  replace o2_2 := o2_2.ext hE5_3
  replace o2_8 := o2_8.ext hE5_3
  replace o3_1 := o3_1.ext hE5_3
  replace o3_7 := o3_7.ext hE5_3
  replace o4_5 := o4_5.ext hE5_3
  replace o4_11 := o4_11.ext hE5_3
  replace o5_2 := o5_2.ext hE5_3
  rw [awD_run]
  refine Reg.pur rfl rfl rfl rfl (Pur.mv rfl) ?_
  refine Reg.pur rfl rfl rfl rfl (Pur.ext rfl rfl) ?_
  refine Reg.pur rfl rfl rfl rfl (Pur.ext rfl rfl) ?_
  refine Reg.pur rfl rfl rfl rfl (Pur.ext rfl rfl) ?_
  refine Reg.op rfl rfl rfl rfl (Does.alloc zc25) ?_
  rintro _ H5_8 ⟨rfl, hn5_8⟩
  have z5_8 := hn5_8.size
  replace hE := hE.ext hn5_8.ext
  replace o1_1 := o1_1.ext hn5_8.ext
  replace o2_2 := o2_2.ext hn5_8.ext
  replace o2_8 := o2_8.ext hn5_8.ext
  replace o3_1 := o3_1.ext hn5_8.ext
  replace o3_7 := o3_7.ext hn5_8.ext
  replace o4_5 := o4_5.ext hn5_8.ext
  replace o4_11 := o4_11.ext hn5_8.ext
  replace o5_2 := o5_2.ext hn5_8.ext
  have o5_8 := hn5_8.own
  refine Reg.op0 rfl rfl rfl (Does.stn ag25 rfl rfl rfl rfl o5_8 (by simp)) ?_
  rintro _ H5_9 hu5_9
  have z5_9 := hu5_9.size
  replace hE := hE.upw hu5_9 (by omega)
  replace o1_1 := o1_1.upw hu5_9 (by omega)
  replace o2_2 := o2_2.upw hu5_9 (by omega)
  replace o2_8 := o2_8.upw hu5_9 (by omega)
  replace o3_1 := o3_1.upw hu5_9 (by omega)
  replace o3_7 := o3_7.upw hu5_9 (by omega)
  replace o4_5 := o4_5.upw hu5_9 (by omega)
  replace o4_11 := o4_11.upw hu5_9 (by omega)
  replace o5_2 := o5_2.upw hu5_9 (by omega)
  replace o5_8 := hu5_9.own
  first | rw [over (by first | rfl | (simp; done))] at o5_8 | skip
  refine Reg.pur rfl rfl rfl rfl (Pur.asg rfl) ?_
  refine Reg.pur rfl rfl rfl rfl (Pur.asg rfl) ?_
  refine Reg.nil ?_
  refine At.region rfl rfl ?_
  refine Reg.op rfl rfl rfl rfl (Does.call rfl (runP_ok [] (by simp) (sl_nil _) (by decide) 9 (by decide))) ?_
  rintro _ H6_0 ⟨rfl, hE6_0⟩
  have z6_0 := hE6_0.lt
  replace hE := hE.ext hE6_0
  replace o1_1 := o1_1.ext hE6_0
  replace o2_2 := o2_2.ext hE6_0
  replace o2_8 := o2_8.ext hE6_0
  replace o3_1 := o3_1.ext hE6_0
  replace o3_7 := o3_7.ext hE6_0
  replace o4_5 := o4_5.ext hE6_0
  replace o4_11 := o4_11.ext hE6_0
  replace o5_2 := o5_2.ext hE6_0
  replace o5_8 := o5_8.ext hE6_0
  rw [awN_run]
  refine Reg.pur rfl rfl rfl rfl (Pur.mv rfl) ?_
  refine Reg.pur rfl rfl rfl rfl (Pur.ext rfl rfl) ?_
  refine Reg.pur rfl rfl rfl rfl (Pur.ext rfl rfl) ?_
  refine Reg.pur rfl rfl rfl rfl (Pur.ext rfl rfl) ?_
  refine Reg.op rfl rfl rfl rfl (Does.alloc zc25) ?_
  rintro _ H6_5 ⟨rfl, hn6_5⟩
  have z6_5 := hn6_5.size
  replace hE := hE.ext hn6_5.ext
  replace o1_1 := o1_1.ext hn6_5.ext
  replace o2_2 := o2_2.ext hn6_5.ext
  replace o2_8 := o2_8.ext hn6_5.ext
  replace o3_1 := o3_1.ext hn6_5.ext
  replace o3_7 := o3_7.ext hn6_5.ext
  replace o4_5 := o4_5.ext hn6_5.ext
  replace o4_11 := o4_11.ext hn6_5.ext
  replace o5_2 := o5_2.ext hn6_5.ext
  replace o5_8 := o5_8.ext hn6_5.ext
  have o6_5 := hn6_5.own
  refine Reg.op0 rfl rfl rfl (Does.stn ag25 rfl rfl rfl rfl o6_5 (by simp)) ?_
  rintro _ H6_6 hu6_6
  have z6_6 := hu6_6.size
  replace hE := hE.upw hu6_6 (by omega)
  replace o1_1 := o1_1.upw hu6_6 (by omega)
  replace o2_2 := o2_2.upw hu6_6 (by omega)
  replace o2_8 := o2_8.upw hu6_6 (by omega)
  replace o3_1 := o3_1.upw hu6_6 (by omega)
  replace o3_7 := o3_7.upw hu6_6 (by omega)
  replace o4_5 := o4_5.upw hu6_6 (by omega)
  replace o4_11 := o4_11.upw hu6_6 (by omega)
  replace o5_2 := o5_2.upw hu6_6 (by omega)
  replace o5_8 := o5_8.upw hu6_6 (by omega)
  replace o6_5 := hu6_6.own
  first | rw [over (by first | rfl | (simp; done))] at o6_5 | skip
  refine Reg.pur rfl rfl rfl rfl (Pur.asg rfl) ?_
  refine Reg.pur rfl rfl rfl rfl (Pur.asg rfl) ?_
  refine Reg.nil ?_
  refine At.region rfl rfl ?_
  refine Reg.lod rfl rfl rfl rfl (Lod.ldn ag25 rfl o2_8.blk rfl rfl) ?_
  refine Reg.pur rfl rfl rfl rfl (Pur.bld (cs := [_, _]) pl25 zc25 rfl rfl ⟨rfl, rfl, rfl⟩) ?_
  refine Reg.pur rfl rfl rfl rfl (Pur.eqA eqt25 rfl rfl (⟨⟨_, rfl⟩, ⟨_, rfl⟩, trivial⟩) (⟨⟨_, rfl⟩, ⟨_, rfl⟩, trivial⟩)) ?_
  refine Reg.pur rfl rfl rfl rfl (Pur.mv rfl) ?_
  refine Reg.known (b' := true) 60 rfl (by first | rfl | decide) ?_
  refine Reg.gpur rfl rfl rfl rfl rfl rfl (Pur.mv rfl) ?_
  refine Reg.gpur rfl rfl rfl rfl rfl rfl (Pur.eql rfl rfl) ?_
  refine Reg.pur rfl rfl rfl rfl (Pur.pickT rfl rfl) ?_
  refine Reg.pur rfl rfl rfl rfl (Pur.mv rfl) ?_
  refine Reg.known (b' := true) 64 rfl (by first | rfl | decide) ?_
  refine Reg.gpur rfl rfl rfl rfl rfl rfl (Pur.mv rfl) ?_
  refine Reg.gop rfl rfl rfl rfl rfl rfl (Does.call rfl (num_ok _ _)) ?_
  rintro _ H6_6 ⟨rfl, rfl⟩
  refine Reg.gpur rfl rfl rfl rfl rfl rfl (Pur.eql rfl rfl) ?_
  refine Reg.pur rfl rfl rfl rfl (Pur.pickT rfl rfl) ?_
  refine Reg.pur rfl rfl rfl rfl (Pur.mv rfl) ?_
  refine Reg.known (b' := true) 69 rfl (by first | rfl | decide) ?_
  refine Reg.glod rfl rfl rfl rfl rfl rfl (Lod.ldn ag25 rfl o3_7.blk rfl rfl) ?_
  refine Reg.gpur rfl rfl rfl rfl rfl rfl (Pur.bld (cs := [_, _]) pl25 zc25 rfl rfl ⟨rfl, rfl, rfl⟩) ?_
  refine Reg.gpur rfl rfl rfl rfl rfl rfl (Pur.eqA eqt25 rfl rfl (⟨⟨_, rfl⟩, ⟨_, rfl⟩, trivial⟩) (⟨⟨_, rfl⟩, ⟨_, rfl⟩, trivial⟩)) ?_
  refine Reg.pur rfl rfl rfl rfl (Pur.pickT rfl rfl) ?_
  refine Reg.pur rfl rfl rfl rfl (Pur.mv rfl) ?_
  refine Reg.known (b' := true) 74 rfl (by first | rfl | decide) ?_
  refine Reg.gpur rfl rfl rfl rfl rfl rfl (Pur.mv rfl) ?_
  refine Reg.gop rfl rfl rfl rfl rfl rfl (Does.call rfl (num_ok _ _)) ?_
  rintro _ H6_6 ⟨rfl, rfl⟩
  refine Reg.gpur rfl rfl rfl rfl rfl rfl (Pur.eql rfl rfl) ?_
  refine Reg.pur rfl rfl rfl rfl (Pur.pickT rfl rfl) ?_
  refine Reg.pur rfl rfl rfl rfl (Pur.mv rfl) ?_
  refine Reg.known (b' := true) 79 rfl (by first | rfl | decide) ?_
  refine Reg.glod rfl rfl rfl rfl rfl rfl (Lod.ldn ag25 rfl o4_11.blk rfl rfl) ?_
  refine Reg.gpur rfl rfl rfl rfl rfl rfl (Pur.bld (cs := [_, _]) pl25 zc25 rfl rfl ⟨rfl, rfl, rfl⟩) ?_
  refine Reg.gpur rfl rfl rfl rfl rfl rfl (Pur.eqA eqt25 rfl rfl (⟨⟨_, rfl⟩, ⟨_, rfl⟩, trivial⟩) (⟨⟨_, rfl⟩, ⟨_, rfl⟩, trivial⟩)) ?_
  refine Reg.pur rfl rfl rfl rfl (Pur.pickT rfl rfl) ?_
  refine Reg.pur rfl rfl rfl rfl (Pur.mv rfl) ?_
  refine Reg.known (b' := true) 84 rfl (by first | rfl | decide) ?_
  refine Reg.gpur rfl rfl rfl rfl rfl rfl (Pur.mv rfl) ?_
  refine Reg.gop rfl rfl rfl rfl rfl rfl (Does.call rfl (num_ok _ _)) ?_
  rintro _ H6_6 ⟨rfl, rfl⟩
  refine Reg.gpur rfl rfl rfl rfl rfl rfl (Pur.eql rfl rfl) ?_
  refine Reg.pur rfl rfl rfl rfl (Pur.pickT rfl rfl) ?_
  refine Reg.pur rfl rfl rfl rfl (Pur.mv rfl) ?_
  refine Reg.known (b' := true) 89 rfl (by first | rfl | decide) ?_
  refine Reg.glod rfl rfl rfl rfl rfl rfl (Lod.ldn ag25 rfl o5_8.blk rfl rfl) ?_
  refine Reg.gpur rfl rfl rfl rfl rfl rfl (Pur.bld (cs := [_, _]) pl25 zc25 rfl rfl ⟨rfl, rfl, rfl⟩) ?_
  refine Reg.gpur rfl rfl rfl rfl rfl rfl (Pur.eqA eqt25 rfl rfl (⟨⟨_, rfl⟩, ⟨_, rfl⟩, trivial⟩) (⟨⟨_, rfl⟩, ⟨_, rfl⟩, trivial⟩)) ?_
  refine Reg.pur rfl rfl rfl rfl (Pur.pickT rfl rfl) ?_
  refine Reg.pur rfl rfl rfl rfl (Pur.mv rfl) ?_
  refine Reg.known (b' := true) 94 rfl (by first | rfl | decide) ?_
  refine Reg.gpur rfl rfl rfl rfl rfl rfl (Pur.mv rfl) ?_
  refine Reg.gpur rfl rfl rfl rfl rfl rfl (Pur.eql rfl rfl) ?_
  refine Reg.pur rfl rfl rfl rfl (Pur.pickT rfl rfl) ?_
  refine Reg.pur rfl rfl rfl rfl (Pur.mv rfl) ?_
  refine Reg.known (b' := true) 98 rfl (by first | rfl | decide) ?_
  refine Reg.gpur rfl rfl rfl rfl rfl rfl (Pur.mv rfl) ?_
  refine Reg.gop rfl rfl rfl rfl rfl rfl (Does.call rfl (num_ok _ _)) ?_
  rintro _ H6_6 ⟨rfl, rfl⟩
  refine Reg.gpur rfl rfl rfl rfl rfl rfl (Pur.eql rfl rfl) ?_
  refine Reg.pur rfl rfl rfl rfl (Pur.pickT rfl rfl) ?_
  refine Reg.pur rfl rfl rfl rfl (Pur.mv rfl) ?_
  refine Reg.known (b' := true) 103 rfl (by first | rfl | decide) ?_
  refine Reg.gpur rfl rfl rfl rfl rfl rfl (Pur.mv rfl) ?_
  refine Reg.gop rfl rfl rfl rfl rfl rfl (Does.call rfl (num_ok _ _)) ?_
  rintro _ H6_6 ⟨rfl, rfl⟩
  refine Reg.gpur rfl rfl rfl rfl rfl rfl (Pur.eql rfl rfl) ?_
  refine Reg.pur rfl rfl rfl rfl (Pur.pickT rfl rfl) ?_
  refine Reg.pur rfl rfl rfl rfl (Pur.asg rfl) ?_
  refine Reg.nil ?_
  refine At.ret rfl Try.func12 rfl ?_
  exact ⟨rfl, hE⟩
theorem targeted_law {A : Option Addr} {cap : Nat} (L : List (List Int)) (hL : ∀ x ∈ L, x.length = 9) {H : Heap} (hS : SlT H Is 9 (.slice A L.length cap) L) (hb : L.length * 72 ≤ 140737488351232) (fuel : Int) (hfu : -9223372036854775808 ≤ fuel ∧ fuel ≤ 9223372036854775807) :
    Ret Try.prog 3 [.slice A L.length cap, I fuel] H (fun v H' => v = .bool true ∧ Ext H H') := by
  have hm : L.length ≤ 9223372036854775807 := by omega
  refine Ret.of_at (N := 50) Try.call3 Try.func3 rfl rfl rfl ?_
  have hE := Ext.refl H
  have zS := hS.lt
  have z_hE := hE.lt
  have z_hS := hS.lt
  refine At.region rfl rfl ?_
  refine Reg.pur rfl rfl rfl rfl (Pur.asg rfl) ?_
  refine Reg.nil ?_
  refine At.region rfl rfl ?_
  refine Reg.pur rfl rfl rfl rfl (Pur.mv rfl) ?_
  refine Reg.op rfl rfl rfl rfl (Does.call rfl (lendT_ok L hL hS hb)) ?_
  rintro v1 H1_1 ⟨hv, hE1_1⟩
  have z1_1 := hE1_1.lt
  replace hE := hE.ext hE1_1
  replace hS := hS.ext hE1_1
  refine Reg.pur rfl rfl rfl rfl (Pur.asg rfl) ?_
  refine Reg.nil ?_
  obtain ⟨g, cap', cc, rfl, hvg, hvc, hvm, hvb, hvt⟩ := id hv
  have hvS := hv.sl hL
  have z_hvb := hvb.lt
  refine At.region rfl rfl ?_
  refine Reg.pur rfl rfl rfl rfl (Pur.mv rfl) ?_
  refine Reg.pur rfl rfl rfl rfl (Pur.mv rfl) ?_
  refine Reg.op rfl rfl rfl rfl (Does.call rfl (runP_ok L hL hvS hm fuel hfu)) ?_
  rintro _ H2_2 ⟨rfl, hE2_2⟩
  have z2_2 := hE2_2.lt
  replace hE := hE.ext hE2_2
  replace hS := hS.ext hE2_2
  replace hvb := hvb.ext hE2_2
  refine Reg.pur rfl rfl rfl rfl (Pur.mv rfl) ?_
  refine Reg.pur rfl rfl rfl rfl (Pur.ext rfl rfl) ?_
  refine Reg.pur rfl rfl rfl rfl (Pur.ext rfl rfl) ?_
  refine Reg.pur rfl rfl rfl rfl (Pur.ext rfl rfl) ?_
  refine Reg.op rfl rfl rfl rfl (Does.alloc zc25) ?_
  rintro _ H2_7 ⟨rfl, hn2_7⟩
  have z2_7 := hn2_7.size
  replace hE := hE.ext hn2_7.ext
  replace hS := hS.ext hn2_7.ext
  replace hvb := hvb.ext hn2_7.ext
  have o2_7 := hn2_7.own
  refine Reg.op0 rfl rfl rfl (Does.stn ag25 rfl rfl rfl rfl o2_7 (by simp)) ?_
  rintro _ H2_8 hu2_8
  have z2_8 := hu2_8.size
  replace hE := hE.upw hu2_8 (by omega)
  replace hS := hS.upw hu2_8 (by omega)
  replace hvb := hvb.upw hu2_8 (by omega)
  replace o2_7 := hu2_8.own
  first | rw [over (by first | rfl | (simp; done))] at o2_7 | skip
  refine Reg.pur rfl rfl rfl rfl (Pur.asg rfl) ?_
  refine Reg.pur rfl rfl rfl rfl (Pur.asg rfl) ?_
  refine Reg.nil ?_
  refine At.region rfl rfl ?_
  refine Reg.pur rfl rfl rfl rfl (Pur.mv rfl) ?_
  refine Reg.pur rfl rfl rfl rfl (Pur.mv rfl) ?_
  refine Reg.op rfl rfl rfl rfl (Does.call rfl (runR_ok L hL hS hm fuel hfu)) ?_
  rintro _ H3_2 ⟨rfl, hE3_2⟩
  have z3_2 := hE3_2.lt
  replace hE := hE.ext hE3_2
  replace hS := hS.ext hE3_2
  replace hvb := hvb.ext hE3_2
  replace o2_7 := o2_7.ext hE3_2
  refine Reg.pur rfl rfl rfl rfl (Pur.mv rfl) ?_
  refine Reg.pur rfl rfl rfl rfl (Pur.ext rfl rfl) ?_
  refine Reg.pur rfl rfl rfl rfl (Pur.ext rfl rfl) ?_
  refine Reg.pur rfl rfl rfl rfl (Pur.ext rfl rfl) ?_
  refine Reg.op rfl rfl rfl rfl (Does.alloc zc25) ?_
  rintro _ H3_7 ⟨rfl, hn3_7⟩
  have z3_7 := hn3_7.size
  replace hE := hE.ext hn3_7.ext
  replace hS := hS.ext hn3_7.ext
  replace hvb := hvb.ext hn3_7.ext
  replace o2_7 := o2_7.ext hn3_7.ext
  have o3_7 := hn3_7.own
  refine Reg.op0 rfl rfl rfl (Does.stn ag25 rfl rfl rfl rfl o3_7 (by simp)) ?_
  rintro _ H3_8 hu3_8
  have z3_8 := hu3_8.size
  replace hE := hE.upw hu3_8 (by omega)
  replace hS := hS.upw hu3_8 (by omega)
  replace hvb := hvb.upw hu3_8 (by omega)
  replace o2_7 := o2_7.upw hu3_8 (by omega)
  replace o3_7 := hu3_8.own
  first | rw [over (by first | rfl | (simp; done))] at o3_7 | skip
  refine Reg.pur rfl rfl rfl rfl (Pur.asg rfl) ?_
  refine Reg.pur rfl rfl rfl rfl (Pur.asg rfl) ?_
  refine Reg.nil ?_
  refine At.region rfl rfl ?_
  refine Reg.lod rfl rfl rfl rfl (Lod.ldn ag25 rfl o2_7.blk rfl rfl) ?_
  refine Reg.lod rfl rfl rfl rfl (Lod.ldn ag25 rfl o3_7.blk rfl rfl) ?_
  refine Reg.pur rfl rfl rfl rfl (Pur.eqA eqt25 rfl rfl (⟨⟨_, rfl⟩, ⟨_, rfl⟩, trivial⟩) (⟨⟨_, rfl⟩, ⟨_, rfl⟩, trivial⟩)) ?_
  refine Reg.pur rfl rfl rfl rfl (Pur.mv rfl) ?_
  refine Reg.known (b' := true) 31 rfl (by first | rfl | (simp [eqs, eqv]; done) | simp) ?_
  refine Reg.gpur rfl rfl rfl rfl rfl rfl (Pur.mv rfl) ?_
  refine Reg.gpur rfl rfl rfl rfl rfl rfl (Pur.mv rfl) ?_
  refine Reg.gpur rfl rfl rfl rfl rfl rfl (Pur.eql rfl rfl) ?_
  refine Reg.pur rfl rfl rfl rfl (Pur.pickT rfl rfl) ?_
  refine Reg.pur rfl rfl rfl rfl (Pur.mv rfl) ?_
  refine Reg.known (b' := true) 36 rfl (by first | rfl | (simp [eqs, eqv]; done) | simp) ?_
  refine Reg.gpur rfl rfl rfl rfl rfl rfl (Pur.mv rfl) ?_
  refine Reg.gop rfl rfl rfl rfl rfl rfl (Does.call rfl (num_ok _ _)) ?_
  rintro _ H3_8 ⟨rfl, rfl⟩
  refine Reg.gpur rfl rfl rfl rfl rfl rfl (Pur.mv rfl) ?_
  refine Reg.gpur rfl rfl rfl rfl rfl rfl (Pur.eql rfl rfl) ?_
  refine Reg.pur rfl rfl rfl rfl (Pur.pickT rfl rfl) ?_
  refine Reg.pur rfl rfl rfl rfl (Pur.mv rfl) ?_
  refine Reg.known (b' := true) 42 rfl (by first | rfl | (simp [eqs, eqv]; done) | simp) ?_
  refine Reg.gpur rfl rfl rfl rfl rfl rfl (Pur.mv rfl) ?_
  refine Reg.gpur rfl rfl rfl rfl rfl rfl (Pur.mv rfl) ?_
  refine Reg.gop rfl rfl rfl rfl rfl rfl (Does.call rfl (keptT_ok L hL hS ⟨g, cap', cc, rfl, hvg, hvc, hvm, hvb, hvt⟩ (by omega))) ?_
  rintro _ H3_8 ⟨rfl, rfl⟩
  refine Reg.pur rfl rfl rfl rfl (Pur.pickT rfl rfl) ?_
  refine Reg.pur rfl rfl rfl rfl (Pur.mv rfl) ?_
  refine Reg.known (b' := true) 47 rfl (by first | rfl | (simp [eqs, eqv]; done) | simp) ?_
  refine Reg.gop rfl rfl rfl rfl rfl rfl (Does.call rfl (awake21_ok _)) ?_
  rintro _ H4_20 ⟨rfl, hE4_20⟩
  have z4_20 := hE4_20.lt
  replace hE := hE.ext hE4_20
  replace hS := hS.ext hE4_20
  replace hvb := hvb.ext hE4_20
  replace o2_7 := o2_7.ext hE4_20
  replace o3_7 := o3_7.ext hE4_20
  refine Reg.pur rfl rfl rfl rfl (Pur.pickT rfl rfl) ?_
  refine Reg.pur rfl rfl rfl rfl (Pur.asg rfl) ?_
  refine Reg.nil ?_
  refine At.ret rfl Try.func3 rfl ?_
  exact ⟨rfl, hE⟩
theorem runS_fuel {L : List (List Int)} {k d : Int} (h0 : 0 ≤ k) (h1 : k ≤ 1023) (h2 : 0 ≤ d) (h3 : d ≤ 1023) :
    (mayS L = false ∧ runS L k = ((0, 0), 0, 2100) ∧ runS L (k + d) = ((0, 0), 0, 2100)) ∨
    (mayS L = true ∧ (runS L k).2.2 = 0 ∧ (runS L (k + d)).2.2 = 0 ∧ (runS L k).2.1 ≤ k ∧ (runS L k).2.1 ≤ (runS L (k + d)).2.1 ∧ ((runS L k).1.1 = 4 ∨ runS L (k + d) = runS L k)) := by
  cases hM : mayS L with
  | false => exact .inl ⟨rfl, runS_no (by rw [hM]; simp), runS_no (by rw [hM]; simp)⟩
  | true =>
    refine .inr ⟨rfl, ?_⟩
    rw [runS_yes (fuel := k) ⟨hM, h0, by omega⟩, runS_yes (fuel := k + d) ⟨hM, by omega, by omega⟩]
    obtain ⟨m1, m2, m3, m4⟩ := runM_more L d.toNat k.toNat 0 (.ev [] ((L.length : Int) - 1) .nil)
    rw [show (k + d).toNat = k.toNat + d.toNat by omega]
    refine ⟨rfl, rfl, by dsimp only; omega, by dsimp only; omega, m4.imp id fun h => by rw [h]⟩
theorem runS_in (L : List (List Int)) (f : Int) (hf : f ≤ 1048576) : 0 ≤ (runS L f).2.1 ∧ (runS L f).2.1 ≤ 1048576 ∧ ((runS L f).2.2 = 0 ∨ (runS L f).2.2 = 2100) := by
  by_cases h : mayS L = true ∧ 0 ≤ f ∧ f ≤ 1048576
  · rw [runS_yes h]
    have := (runM_more L 0 f.toNat 0 (.ev [] ((L.length : Int) - 1) .nil)).2.1
    exact ⟨by dsimp only; omega, by dsimp only; omega, .inl rfl⟩
  · rw [runS_no h]; exact ⟨by decide, by decide, .inr rfl⟩
theorem targetFuel_law {A : Option Addr} {cap : Nat} (L : List (List Int)) (hL : ∀ x ∈ L, x.length = 9) {H : Heap} (hS : SlT H Is 9 (.slice A L.length cap) L) (hm : L.length ≤ 9223372036854775807) (x y : Int) :
    Ret Try.prog 4 [.slice A L.length cap, I x, I y] H (fun v H' => v = .bool true ∧ Ext H H') := by
  have hx : 0 ≤ bits .and .i64 x 1023 ∧ bits .and .i64 x 1023 ≤ 1023 := and_le x 1023 (by decide)
  have hy : 0 ≤ bits .and .i64 y 1023 ∧ bits .and .i64 y 1023 ≤ 1023 := and_le y 1023 (by decide)
  refine Ret.of_at (N := 81) Try.call4 Try.func4 rfl rfl rfl ?_
  have hE := Ext.refl H
  have zS := hS.lt
  have z_hE := hE.lt
  have z_hS := hS.lt
  refine At.region rfl rfl ?_
  refine Reg.pur rfl rfl rfl rfl (Pur.asg rfl) ?_
  refine Reg.nil ?_
  refine At.region rfl rfl ?_
  refine Reg.op rfl rfl rfl rfl (Does.call rfl (awake21_ok _)) ?_
  rintro _ H1_0 ⟨rfl, hE1_0⟩
  have z1_0 := hE1_0.lt
  replace hE := hE.ext hE1_0
  replace hS := hS.ext hE1_0
  refine Reg.pur rfl rfl rfl rfl (Pur.not rfl) ?_
  refine Reg.nil ?_
  refine At.condF rfl rfl rfl ?_
  refine At.region rfl rfl ?_
  refine Reg.pur rfl rfl rfl rfl (Pur.mv rfl) ?_
  refine Reg.pur rfl rfl rfl rfl (Pur.and rfl rfl) ?_
  refine Reg.pur rfl rfl rfl rfl (Pur.asg rfl) ?_
  refine Reg.nil ?_
  generalize bits .and .i64 x 1023 = k at *
  refine At.region rfl rfl ?_
  refine Reg.pur rfl rfl rfl rfl (Pur.mv rfl) ?_
  refine Reg.pur rfl rfl rfl rfl (Pur.mv rfl) ?_
  refine Reg.op rfl rfl rfl rfl (Does.call rfl (runP_ok L hL hS hm k (by omega))) ?_
  rintro _ H4_2 ⟨rfl, hE4_2⟩
  have z4_2 := hE4_2.lt
  replace hE := hE.ext hE4_2
  replace hS := hS.ext hE4_2
  refine Reg.pur rfl rfl rfl rfl (Pur.mv rfl) ?_
  refine Reg.pur rfl rfl rfl rfl (Pur.ext rfl rfl) ?_
  refine Reg.pur rfl rfl rfl rfl (Pur.ext rfl rfl) ?_
  refine Reg.pur rfl rfl rfl rfl (Pur.ext rfl rfl) ?_
  refine Reg.op rfl rfl rfl rfl (Does.alloc zc25) ?_
  rintro _ H4_7 ⟨rfl, hn4_7⟩
  have z4_7 := hn4_7.size
  replace hE := hE.ext hn4_7.ext
  replace hS := hS.ext hn4_7.ext
  have o4_7 := hn4_7.own
  refine Reg.op0 rfl rfl rfl (Does.stn ag25 rfl rfl rfl rfl o4_7 (by simp)) ?_
  rintro _ H4_8 hu4_8
  have z4_8 := hu4_8.size
  replace hE := hE.upw hu4_8 (by omega)
  replace hS := hS.upw hu4_8 (by omega)
  replace o4_7 := hu4_8.own
  first | rw [over (by first | rfl | (simp; done))] at o4_7 | skip
  refine Reg.pur rfl rfl rfl rfl (Pur.asg rfl) ?_
  refine Reg.pur rfl rfl rfl rfl (Pur.asg rfl) ?_
  refine Reg.nil ?_
  refine At.region rfl rfl ?_
  refine Reg.pur rfl rfl rfl rfl (Pur.mv rfl) ?_
  refine Reg.pur rfl rfl rfl rfl (Pur.mv rfl) ?_
  refine Reg.pur rfl rfl rfl rfl (Pur.mv rfl) ?_
  refine Reg.pur rfl rfl rfl rfl (Pur.and rfl rfl) ?_
  generalize bits .and .i64 y 1023 = d at *
  refine Reg.pur rfl rfl rfl rfl (Pur.add64 rfl rfl (by omega)) ?_
  refine Reg.op rfl rfl rfl rfl (Does.call rfl (runP_ok L hL hS hm (k + d) (by omega))) ?_
  rintro _ H5_5 ⟨rfl, hE5_5⟩
  have z5_5 := hE5_5.lt
  replace hE := hE.ext hE5_5
  replace hS := hS.ext hE5_5
  replace o4_7 := o4_7.ext hE5_5
  refine Reg.pur rfl rfl rfl rfl (Pur.mv rfl) ?_
  refine Reg.pur rfl rfl rfl rfl (Pur.ext rfl rfl) ?_
  refine Reg.pur rfl rfl rfl rfl (Pur.ext rfl rfl) ?_
  refine Reg.pur rfl rfl rfl rfl (Pur.ext rfl rfl) ?_
  refine Reg.op rfl rfl rfl rfl (Does.alloc zc25) ?_
  rintro _ H5_10 ⟨rfl, hn5_10⟩
  have z5_10 := hn5_10.size
  replace hE := hE.ext hn5_10.ext
  replace hS := hS.ext hn5_10.ext
  replace o4_7 := o4_7.ext hn5_10.ext
  have o5_10 := hn5_10.own
  refine Reg.op0 rfl rfl rfl (Does.stn ag25 rfl rfl rfl rfl o5_10 (by simp)) ?_
  rintro _ H5_11 hu5_11
  have z5_11 := hu5_11.size
  replace hE := hE.upw hu5_11 (by omega)
  replace hS := hS.upw hu5_11 (by omega)
  replace o4_7 := o4_7.upw hu5_11 (by omega)
  replace o5_10 := hu5_11.own
  first | rw [over (by first | rfl | (simp; done))] at o5_10 | skip
  refine Reg.pur rfl rfl rfl rfl (Pur.asg rfl) ?_
  refine Reg.pur rfl rfl rfl rfl (Pur.asg rfl) ?_
  refine Reg.nil ?_
  have hcas := runS_fuel (L := L) hx.1 hx.2 hy.1 hy.2
  generalize hr1 : runS L k = R1 at *
  generalize hr2 : runS L (k + d) = R2 at *
  refine At.region rfl rfl ?_
  refine Reg.pur rfl rfl rfl rfl (Pur.mv rfl) ?_
  refine Reg.op rfl rfl rfl rfl (Does.call rfl (num_ok _ _)) ?_
  rintro _ H5_11 ⟨rfl, rfl⟩
  refine Reg.pur rfl rfl rfl rfl (Pur.neq rfl rfl) ?_
  refine Reg.nil ?_
  refine At.cond rfl rfl (fun q37 => ?_) (fun q37 => ?_)
  · first | (simp only [decide_eq_true_eq, decide_eq_false_iff_not, Bool.not_eq_true', Bool.not_eq_false', ne_eq, Decidable.not_not, Bool.not_eq_true, Bool.not_eq_false] at q37) | (dsimp only at q37) | skip
    obtain ⟨hM, rfl, rfl⟩ := hcas.resolve_right (by rintro ⟨_, h, _⟩; omega)
    refine At.region rfl rfl ?_
    refine Reg.pur rfl rfl rfl rfl (Pur.mv rfl) ?_
    refine Reg.op rfl rfl rfl rfl (Does.call rfl (num_ok _ _)) ?_
    rintro _ H5_11 ⟨rfl, rfl⟩
    refine Reg.pur rfl rfl rfl rfl (Pur.eql rfl rfl) ?_
    refine Reg.pur rfl rfl rfl rfl (Pur.mv rfl) ?_
    refine Reg.known (b' := true) 41 rfl rfl ?_
    refine Reg.gpur rfl rfl rfl rfl rfl rfl (Pur.mv rfl) ?_
    refine Reg.gop rfl rfl rfl rfl rfl rfl (Does.call rfl (num_ok _ _)) ?_
    rintro _ H5_11 ⟨rfl, rfl⟩
    refine Reg.gpur rfl rfl rfl rfl rfl rfl (Pur.eql rfl rfl) ?_
    refine Reg.pur rfl rfl rfl rfl (Pur.pickT rfl rfl) ?_
    refine Reg.pur rfl rfl rfl rfl (Pur.mv rfl) ?_
    refine Reg.known (b' := true) 46 rfl rfl ?_
    refine Reg.glod rfl rfl rfl rfl rfl rfl (Lod.ldn ag25 rfl o4_7.blk rfl rfl) ?_
    refine Reg.gpur rfl rfl rfl rfl rfl rfl (Pur.bld (cs := [_, _]) pl25 zc25 rfl rfl ⟨rfl, rfl, rfl⟩) ?_
    refine Reg.gpur rfl rfl rfl rfl rfl rfl (Pur.eqA eqt25 rfl rfl (⟨⟨_, rfl⟩, ⟨_, rfl⟩, trivial⟩) (⟨⟨_, rfl⟩, ⟨_, rfl⟩, trivial⟩)) ?_
    refine Reg.pur rfl rfl rfl rfl (Pur.pickT rfl rfl) ?_
    refine Reg.pur rfl rfl rfl rfl (Pur.mv rfl) ?_
    refine Reg.known (b' := true) 51 rfl (by rfl) ?_
    refine Reg.gpur rfl rfl rfl rfl rfl rfl (Pur.mv rfl) ?_
    refine Reg.gpur rfl rfl rfl rfl rfl rfl (Pur.eql rfl rfl) ?_
    refine Reg.pur rfl rfl rfl rfl (Pur.pickT rfl rfl) ?_
    refine Reg.pur rfl rfl rfl rfl (Pur.asg rfl) ?_
    refine Reg.nil ?_
    refine At.ret rfl Try.func4 rfl ?_
    exact ⟨rfl, hE⟩
  first | (simp only [decide_eq_true_eq, decide_eq_false_iff_not, Bool.not_eq_true', Bool.not_eq_false', ne_eq, Decidable.not_not, Bool.not_eq_true, Bool.not_eq_false] at q37) | (dsimp only at q37) | skip
  obtain ⟨hM, h1, h2, h3, h4, h5⟩ := hcas.resolve_left (by rintro ⟨_, h, _⟩; rw [h] at q37; simp at q37)
  refine At.region rfl rfl ?_
  refine Reg.pur rfl rfl rfl rfl (Pur.mv rfl) ?_
  refine Reg.op rfl rfl rfl rfl (Does.call rfl (num_ok _ _)) ?_
  rintro _ H5_11 ⟨rfl, rfl⟩
  refine Reg.pur rfl rfl rfl rfl (Pur.neq rfl rfl) ?_
  refine Reg.pur rfl rfl rfl rfl (Pur.mv rfl) ?_
  refine Reg.known (b' := false) 58 rfl (by rw [h2]; rfl) ?_
  refine Reg.gpur rfl rfl rfl rfl rfl rfl (Pur.mv rfl) ?_
  refine Reg.gpur rfl rfl rfl rfl rfl rfl (Pur.mv rfl) ?_
  refine Reg.gpur rfl rfl rfl rfl rfl rfl (Pur.gtr rfl rfl) ?_
  refine Reg.pur rfl rfl rfl rfl (Pur.pickF rfl rfl) ?_
  refine Reg.pur rfl rfl rfl rfl (Pur.mv rfl) ?_
  refine Reg.known (b' := false) 63 rfl (decide_eq_false (by omega)) ?_
  refine Reg.gpur rfl rfl rfl rfl rfl rfl (Pur.mv rfl) ?_
  refine Reg.gpur rfl rfl rfl rfl rfl rfl (Pur.mv rfl) ?_
  refine Reg.gpur rfl rfl rfl rfl rfl rfl (Pur.lss rfl rfl) ?_
  refine Reg.pur rfl rfl rfl rfl (Pur.pickF rfl rfl) ?_
  refine Reg.nil ?_
  refine At.condF rfl rfl (decide_eq_false (by omega)) ?_
  refine At.region rfl rfl ?_
  refine Reg.pur rfl rfl rfl rfl (Pur.fld _ fo25_0 rfl) ?_
  refine Reg.lod rfl rfl rfl rfl (Lod.ld sc3 rfl o4_7.blk rfl) ?_
  refine Reg.pur rfl rfl rfl rfl (Pur.eql rfl rfl) ?_
  refine Reg.pur rfl rfl rfl rfl (Pur.mv rfl) ?_
  refine Reg.case 71 rfl (fun q71 => ?_) (fun q71 => ?_)
  · first | (simp only [decide_eq_true_eq, decide_eq_false_iff_not, Bool.not_eq_true', Bool.not_eq_false', ne_eq, Decidable.not_not, Bool.not_eq_true, Bool.not_eq_false] at q71) | (dsimp only at q71) | skip
    refine Reg.skip rfl rfl rfl rfl rfl rfl rfl ?_
    refine Reg.skip rfl rfl rfl rfl rfl rfl rfl ?_
    refine Reg.skip rfl rfl rfl rfl rfl rfl rfl ?_
    refine Reg.skip rfl rfl rfl rfl rfl rfl rfl ?_
    refine Reg.skipU rfl rfl rfl rfl rfl rfl ?_
    refine Reg.skipU rfl rfl rfl rfl rfl rfl ?_
    refine Reg.skipU rfl rfl rfl rfl rfl rfl ?_
    refine Reg.skip rfl rfl rfl rfl rfl rfl rfl ?_
    refine Reg.pur rfl rfl rfl rfl (Pur.pickT rfl rfl) ?_
    refine Reg.pur rfl rfl rfl rfl (Pur.asg rfl) ?_
    refine Reg.nil ?_
    refine At.ret rfl Try.func4 rfl ?_
    exact ⟨rfl, hE⟩
  first | (simp only [decide_eq_true_eq, decide_eq_false_iff_not, Bool.not_eq_true', Bool.not_eq_false', ne_eq, Decidable.not_not, Bool.not_eq_true, Bool.not_eq_false] at q71) | (dsimp only at q71) | skip
  refine Reg.glod rfl rfl rfl rfl rfl rfl (Lod.ldn ag25 rfl o4_7.blk rfl rfl) ?_
  refine Reg.glod rfl rfl rfl rfl rfl rfl (Lod.ldn ag25 rfl o5_10.blk rfl rfl) ?_
  refine Reg.gpur rfl rfl rfl rfl rfl rfl (Pur.eqA eqt25 rfl rfl (⟨⟨_, rfl⟩, ⟨_, rfl⟩, trivial⟩) (⟨⟨_, rfl⟩, ⟨_, rfl⟩, trivial⟩)) ?_
  refine Reg.gpur rfl rfl rfl rfl rfl rfl (Pur.mv rfl) ?_
  refine Reg.case 75 rfl (fun q75 => ?_) (fun q75 => ?_)
  · first | (simp only [decide_eq_true_eq, decide_eq_false_iff_not, Bool.not_eq_true', Bool.not_eq_false', ne_eq, Decidable.not_not, Bool.not_eq_true, Bool.not_eq_false] at q75) | (dsimp only at q75) | skip
    refine Reg.gpur rfl rfl rfl rfl rfl rfl (Pur.mv rfl) ?_
    refine Reg.gpur rfl rfl rfl rfl rfl rfl (Pur.mv rfl) ?_
    refine Reg.gpur rfl rfl rfl rfl rfl rfl (Pur.eql rfl rfl) ?_
    refine Reg.gpur rfl rfl rfl rfl rfl rfl (Pur.pickT rfl rfl) ?_
    refine Reg.pur rfl rfl rfl rfl (Pur.pickF rfl rfl) ?_
    refine Reg.pur rfl rfl rfl rfl (Pur.asg rfl) ?_
    refine Reg.nil ?_
    refine At.ret rfl Try.func4 rfl ?_
    obtain rfl := h5.resolve_left q71
    exact ⟨by simp, hE⟩
  first | (simp only [decide_eq_true_eq, decide_eq_false_iff_not, Bool.not_eq_true', Bool.not_eq_false', ne_eq, Decidable.not_not, Bool.not_eq_true, Bool.not_eq_false] at q75) | (dsimp only at q75) | skip
  refine Reg.skip rfl rfl rfl rfl rfl rfl rfl ?_
  refine Reg.skip rfl rfl rfl rfl rfl rfl rfl ?_
  refine Reg.skip rfl rfl rfl rfl rfl rfl rfl ?_
  refine Reg.gpur rfl rfl rfl rfl rfl rfl (Pur.pickF rfl rfl) ?_
  refine Reg.pur rfl rfl rfl rfl (Pur.pickF rfl rfl) ?_
  refine Reg.pur rfl rfl rfl rfl (Pur.asg rfl) ?_
  refine Reg.nil ?_
  refine At.ret rfl Try.func4 rfl ?_
  obtain rfl := h5.resolve_left q71
  simp [eqs, eqv] at q75
end Go.Proofs.Ytjhkmebmbopfoaa
