/-
  Places: the laws of chapter 24.
-/
import Derived.Test.YtjhkmebmbopfoaaDoorPlcC
namespace Go.Proofs.YtjhkmebmbopfoaaDoor
set_option linter.unusedSimpArgs false
set_option linter.unusedVariables false
set_option maxRecDepth 8000
set_option maxHeartbeats 1000000
open Go Go.Fx Go.Proofs
namespace FactsPlcD
theorem ag39 : ag Tryd.prog 39 = some 7 := by kernel_rfl
theorem es50 : esz Tryd.prog 50 = some 7 := by kernel_rfl
theorem es54 : esz Tryd.prog 54 = some 1 := by kernel_rfl
theorem mixed : Tryd.prog.follows .mixedOrders = true := by kernel_rfl
theorem pl37 : places Tryd.prog 37 = some [(0, 1), (1, 1)] := by kernel_rfl
theorem pl39 : places Tryd.prog 39 = some [(0, 1), (1, 1), (2, 1), (3, 2), (5, 2)] := by kernel_rfl
theorem sc9 : sc Tryd.prog 9 = true := by kernel_rfl
theorem sl1_54 : Go.Fx.sl1 Tryd.prog 54 = true := by kernel_rfl
theorem slA50 : slA Tryd.prog 50 = some (39, 7) := by kernel_rfl
theorem zc37 : zc Tryd.prog 37 = some [.int .i64 0, .int .i64 0] := by kernel_rfl
theorem zc39 : zc Tryd.prog 39 = some [.int .i64 0, .int .i64 0, .string ⟨#[]⟩, .int .i64 0, .int .i64 0, .int .i64 0, .int .i64 0] := by kernel_rfl
end FactsPlcD
open FactsPlcD

abbrev abcd : ByteArray := ⟨#[97, 98, 10, 99, 100]⟩
abbrev sInt : ByteArray := ⟨#[105, 110, 116]⟩
theorem aw1 : tellB abcd ⟨#[]⟩ 402 4 0 0 0 0 = (⟨#[50, 58, 50, 58, 32, 101, 114, 114, 111, 114, 32, 52, 48, 50]⟩, 0) := by decide +kernel
theorem aw2 : tellB ⟨#[]⟩ sInt 0 0 0 (-7) 3 1 = (⟨#[105, 110, 116, 32, 61, 32, 45, 55, 32, 124, 32, 102, 97, 117, 108, 116, 32, 49]⟩, 0) := by decide +kernel
theorem aw3 : tellB ⟨#[]⟩ ⟨#[]⟩ 402 1 0 0 0 0 = (⟨#[]⟩, 2400) := by decide +kernel
theorem aw4 : lnL abcd 4 = 2 ∧ lnC abcd 4 = 2 ∧ lnE abcd 4 = 0 ∧ lnE ⟨#[97, 98]⟩ 3 = 2400 := by decide +kernel
theorem awake24_ok {H : Heap} (hT : Tens H) : Ret Tryd.prog 19 [] H (fun v H' => v = .bool true ∧ Ext H H') := by
  refine Ret.of_at (N := 79) Tryd.call19 Tryd.func19 rfl rfl rfl ?_
  have hE := Ext.refl H
  have z_hE := hE.lt
  have z_hT := hT.lt
  refine At.region rfl rfl ?_
  refine Reg.pur rfl rfl rfl rfl (Pur.asg rfl) ?_
  refine Reg.nil ?_
  refine At.region rfl rfl ?_
  refine Reg.op rfl rfl rfl rfl (Does.call rfl (lineT_ok _ (by decide) _ _)) ?_
  rintro _ H ⟨rfl, rfl⟩
  rw [aw4.1, aw4.2.1, aw4.2.2.1]
  refine Reg.pur rfl rfl rfl rfl (Pur.mv rfl) ?_
  refine Reg.pur rfl rfl rfl rfl (Pur.ext rfl rfl) ?_
  refine Reg.pur rfl rfl rfl rfl (Pur.ext rfl rfl) ?_
  refine Reg.pur rfl rfl rfl rfl (Pur.ext rfl rfl) ?_
  refine Reg.pur rfl rfl rfl rfl (Pur.asg rfl) ?_
  refine Reg.pur rfl rfl rfl rfl (Pur.asg rfl) ?_
  refine Reg.pur rfl rfl rfl rfl (Pur.asg rfl) ?_
  refine Reg.nil ?_
  refine At.region rfl rfl ?_
  refine Reg.op rfl rfl rfl rfl (Does.call rfl (lineT_ok _ (by decide) _ _)) ?_
  rintro _ H ⟨rfl, rfl⟩
  rw [aw4.2.2.2]
  refine Reg.pur rfl rfl rfl rfl (Pur.mv rfl) ?_
  refine Reg.pur rfl rfl rfl rfl (Pur.ext rfl rfl) ?_
  refine Reg.pur rfl rfl rfl rfl (Pur.ext rfl rfl) ?_
  refine Reg.pur rfl rfl rfl rfl (Pur.ext rfl rfl) ?_
  refine Reg.pur rfl rfl rfl rfl (Pur.asg rfl) ?_
  refine Reg.pur rfl rfl rfl rfl (Pur.asg rfl) ?_
  refine Reg.pur rfl rfl rfl rfl (Pur.asg rfl) ?_
  refine Reg.nil ?_
  refine At.region rfl rfl ?_
  refine Reg.pur rfl rfl rfl rfl (Pur.bld (cs := [_, _, _, _, _, _, _]) pl39 zc39 rfl rfl ⟨rfl, rfl, rfl, rfl, rfl, rfl, rfl, rfl⟩) ?_
  refine Reg.op rfl rfl rfl rfl (Does.call rfl (tell_ok abcd ⟨#[]⟩ 402 4 0 0 0 0 (by decide) (by decide) (by decide) hT)) ?_
  rintro _ H3_1 ⟨rfl, hE3_1⟩
  have z3_1 := hE3_1.lt
  replace hE := hE.ext hE3_1
  replace hT := hT.ext hE3_1
  rw [aw1]
  refine Reg.pur rfl rfl rfl rfl (Pur.mv rfl) ?_
  refine Reg.pur rfl rfl rfl rfl (Pur.ext rfl rfl) ?_
  refine Reg.pur rfl rfl rfl rfl (Pur.ext rfl rfl) ?_
  refine Reg.pur rfl rfl rfl rfl (Pur.asg rfl) ?_
  refine Reg.pur rfl rfl rfl rfl (Pur.asg rfl) ?_
  refine Reg.nil ?_
  refine At.region rfl rfl ?_
  refine Reg.pur rfl rfl rfl rfl (Pur.bld (cs := [_, _]) pl37 zc37 rfl rfl ⟨rfl, rfl, rfl⟩) ?_
  refine Reg.pur rfl rfl rfl rfl (Pur.bld (cs := [_, _]) pl37 zc37 rfl rfl ⟨rfl, rfl, rfl⟩) ?_
  refine Reg.pur rfl rfl rfl rfl (Pur.bld (cs := [_, _, _, _, _, _, _]) pl39 zc39 rfl rfl ⟨rfl, rfl, rfl, rfl, rfl, rfl, rfl, rfl⟩) ?_
  refine Reg.op rfl rfl rfl rfl (Does.call rfl (tell_ok ⟨#[]⟩ sInt 0 0 0 (-7) 3 1 (by decide) (by decide) (by decide) hT)) ?_
  rintro _ H4_3 ⟨rfl, hE4_3⟩
  have z4_3 := hE4_3.lt
  replace hE := hE.ext hE4_3
  replace hT := hT.ext hE4_3
  rw [aw2]
  refine Reg.pur rfl rfl rfl rfl (Pur.mv rfl) ?_
  refine Reg.pur rfl rfl rfl rfl (Pur.ext rfl rfl) ?_
  refine Reg.pur rfl rfl rfl rfl (Pur.ext rfl rfl) ?_
  refine Reg.pur rfl rfl rfl rfl (Pur.asg rfl) ?_
  refine Reg.pur rfl rfl rfl rfl (Pur.asg rfl) ?_
  refine Reg.nil ?_
  refine At.region rfl rfl ?_
  refine Reg.pur rfl rfl rfl rfl (Pur.bld (cs := [_, _, _, _, _, _, _]) pl39 zc39 rfl rfl ⟨rfl, rfl, rfl, rfl, rfl, rfl, rfl, rfl⟩) ?_
  refine Reg.op rfl rfl rfl rfl (Does.call rfl (tell_ok ⟨#[]⟩ ⟨#[]⟩ 402 1 0 0 0 0 (by decide) (by decide) (by decide) hT)) ?_
  rintro _ H5_1 ⟨rfl, hE5_1⟩
  have z5_1 := hE5_1.lt
  replace hE := hE.ext hE5_1
  replace hT := hT.ext hE5_1
  rw [aw3]
  refine Reg.pur rfl rfl rfl rfl (Pur.mv rfl) ?_
  refine Reg.pur rfl rfl rfl rfl (Pur.ext rfl rfl) ?_
  refine Reg.pur rfl rfl rfl rfl (Pur.ext rfl rfl) ?_
  refine Reg.pur rfl rfl rfl rfl (Pur.asg rfl) ?_
  refine Reg.pur rfl rfl rfl rfl (Pur.asg rfl) ?_
  refine Reg.nil ?_
  refine At.region rfl rfl ?_
  refine Reg.pur rfl rfl rfl rfl (Pur.mv rfl) ?_
  refine Reg.pur rfl rfl rfl rfl (Pur.eql rfl rfl) ?_
  refine Reg.pur rfl rfl rfl rfl (Pur.mv rfl) ?_
  refine Reg.known (b' := true) 42 rfl (by first | rfl | simp | decide) ?_
  refine Reg.gpur rfl rfl rfl rfl rfl rfl (Pur.mv rfl) ?_
  refine Reg.gpur rfl rfl rfl rfl rfl rfl (Pur.eql rfl rfl) ?_
  refine Reg.pur rfl rfl rfl rfl (Pur.pickT rfl rfl) ?_
  refine Reg.pur rfl rfl rfl rfl (Pur.mv rfl) ?_
  refine Reg.known (b' := true) 46 rfl (by first | rfl | simp | decide) ?_
  refine Reg.gpur rfl rfl rfl rfl rfl rfl (Pur.mv rfl) ?_
  refine Reg.gop rfl rfl rfl rfl rfl rfl (Does.call rfl (num_ok _ _ (by decide))) ?_
  rintro _ H5_1 ⟨rfl, rfl⟩
  refine Reg.gpur rfl rfl rfl rfl rfl rfl (Pur.eql rfl rfl) ?_
  refine Reg.pur rfl rfl rfl rfl (Pur.pickT rfl rfl) ?_
  refine Reg.pur rfl rfl rfl rfl (Pur.mv rfl) ?_
  refine Reg.known (b' := true) 51 rfl (by first | rfl | simp | decide) ?_
  refine Reg.gpur rfl rfl rfl rfl rfl rfl (Pur.mv rfl) ?_
  refine Reg.gop rfl rfl rfl rfl rfl rfl (Does.call rfl (num_ok _ _ (by decide))) ?_
  rintro _ H5_1 ⟨rfl, rfl⟩
  refine Reg.gpur rfl rfl rfl rfl rfl rfl (Pur.eql rfl rfl) ?_
  refine Reg.pur rfl rfl rfl rfl (Pur.pickT rfl rfl) ?_
  refine Reg.pur rfl rfl rfl rfl (Pur.mv rfl) ?_
  refine Reg.known (b' := true) 56 rfl (by first | rfl | simp | decide) ?_
  refine Reg.gpur rfl rfl rfl rfl rfl rfl (Pur.mv rfl) ?_
  refine Reg.gpur rfl rfl rfl rfl rfl rfl (Pur.eqS rfl rfl) ?_
  refine Reg.pur rfl rfl rfl rfl (Pur.pickT rfl rfl) ?_
  refine Reg.pur rfl rfl rfl rfl (Pur.mv rfl) ?_
  refine Reg.known (b' := true) 60 rfl (by first | rfl | simp | decide) ?_
  refine Reg.gpur rfl rfl rfl rfl rfl rfl (Pur.mv rfl) ?_
  refine Reg.gop rfl rfl rfl rfl rfl rfl (Does.call rfl (num_ok _ _ (by decide))) ?_
  rintro _ H5_1 ⟨rfl, rfl⟩
  refine Reg.gpur rfl rfl rfl rfl rfl rfl (Pur.eql rfl rfl) ?_
  refine Reg.pur rfl rfl rfl rfl (Pur.pickT rfl rfl) ?_
  refine Reg.pur rfl rfl rfl rfl (Pur.mv rfl) ?_
  refine Reg.known (b' := true) 65 rfl (by first | rfl | simp | decide) ?_
  refine Reg.gpur rfl rfl rfl rfl rfl rfl (Pur.mv rfl) ?_
  refine Reg.gpur rfl rfl rfl rfl rfl rfl (Pur.eqS rfl rfl) ?_
  refine Reg.pur rfl rfl rfl rfl (Pur.pickT rfl rfl) ?_
  refine Reg.pur rfl rfl rfl rfl (Pur.mv rfl) ?_
  refine Reg.known (b' := true) 69 rfl (by first | rfl | simp | decide) ?_
  refine Reg.gpur rfl rfl rfl rfl rfl rfl (Pur.mv rfl) ?_
  refine Reg.gop rfl rfl rfl rfl rfl rfl (Does.call rfl (num_ok _ _ (by decide))) ?_
  rintro _ H5_1 ⟨rfl, rfl⟩
  refine Reg.gpur rfl rfl rfl rfl rfl rfl (Pur.eql rfl rfl) ?_
  refine Reg.pur rfl rfl rfl rfl (Pur.pickT rfl rfl) ?_
  refine Reg.pur rfl rfl rfl rfl (Pur.mv rfl) ?_
  refine Reg.known (b' := true) 74 rfl (by first | rfl | simp | decide) ?_
  refine Reg.gpur rfl rfl rfl rfl rfl rfl (Pur.mv rfl) ?_
  refine Reg.gop rfl rfl rfl rfl rfl rfl (Does.call rfl (num_ok _ _ (by decide))) ?_
  rintro _ H5_1 ⟨rfl, rfl⟩
  refine Reg.gpur rfl rfl rfl rfl rfl rfl (Pur.eql rfl rfl) ?_
  refine Reg.pur rfl rfl rfl rfl (Pur.pickT rfl rfl) ?_
  refine Reg.pur rfl rfl rfl rfl (Pur.asg rfl) ?_
  refine Reg.nil ?_
  refine At.ret rfl Tryd.func19 rfl ?_
  exact ⟨rfl, hE⟩
theorem lnE_fits (s : ByteArray) (x : Int) : fitsI (lnE s x) := by unfold lnE fitsI; split <;> omega
theorem tellB_fits (s ty : ByteArray) (cd x k1 n1 k2 n2 : Int) : fitsI (tellB s ty cd x k1 n1 k2 n2).2 := by
  unfold tellB fitsI; split
  · decide
  · split
    · dsimp only; omega
    · split <;> (dsimp only; omega)
theorem places_law (s ty : ByteArray) (y cd x k1 n1 k2 n2 : Int) (hs : s.size ≤ 140737488355328) (ht : ty.size ≤ 140737488355328) (hc : fitsI cd) {H : Heap} (hT : Tens H) :
    Ret Tryd.prog 5 [.string s, I y, .agg (resC cd x ty k1 n1 k2 n2).toArray] H (fun v H' => v = .bool true ∧ Ext H H') := by
  refine Ret.of_at (N := 71) Tryd.call5 Tryd.func5 rfl rfl rfl ?_
  have hE := Ext.refl H
  have z_hE := hE.lt
  have z_hT := hT.lt
  refine At.region rfl rfl ?_
  refine Reg.op rfl rfl rfl rfl (Does.box rfl rfl) ?_
  rintro _ H0_0 ⟨rfl, hn0_0⟩
  have z0_0 := hn0_0.size
  replace hE := hE.ext hn0_0.ext
  replace hT := hT.ext hn0_0.ext
  have o0_0 := hn0_0.own
  refine Reg.pur rfl rfl rfl rfl (Pur.asg rfl) ?_
  refine Reg.nil ?_
  refine At.region rfl rfl ?_
  refine Reg.pur rfl rfl rfl rfl (Pur.mv rfl) ?_
  refine Reg.pur rfl rfl rfl rfl (Pur.mv rfl) ?_
  refine Reg.op rfl rfl rfl rfl (Does.call rfl (lineT_ok s hs y _)) ?_
  rintro _ H0_0 ⟨rfl, rfl⟩
  refine Reg.pur rfl rfl rfl rfl (Pur.mv rfl) ?_
  refine Reg.pur rfl rfl rfl rfl (Pur.ext rfl rfl) ?_
  refine Reg.pur rfl rfl rfl rfl (Pur.ext rfl rfl) ?_
  refine Reg.pur rfl rfl rfl rfl (Pur.ext rfl rfl) ?_
  refine Reg.pur rfl rfl rfl rfl (Pur.asg rfl) ?_
  refine Reg.pur rfl rfl rfl rfl (Pur.asg rfl) ?_
  refine Reg.pur rfl rfl rfl rfl (Pur.asg rfl) ?_
  refine Reg.nil ?_
  refine At.region rfl rfl ?_
  refine Reg.pur rfl rfl rfl rfl (Pur.mv rfl) ?_
  refine Reg.pur rfl rfl rfl rfl (Pur.mv rfl) ?_
  refine Reg.op rfl rfl rfl rfl (Does.call rfl (lineTR_ok s hs y _)) ?_
  rintro _ H0_0 ⟨rfl, rfl⟩
  refine Reg.pur rfl rfl rfl rfl (Pur.mv rfl) ?_
  refine Reg.pur rfl rfl rfl rfl (Pur.ext rfl rfl) ?_
  refine Reg.pur rfl rfl rfl rfl (Pur.ext rfl rfl) ?_
  refine Reg.pur rfl rfl rfl rfl (Pur.ext rfl rfl) ?_
  refine Reg.pur rfl rfl rfl rfl (Pur.asg rfl) ?_
  refine Reg.pur rfl rfl rfl rfl (Pur.asg rfl) ?_
  refine Reg.pur rfl rfl rfl rfl (Pur.asg rfl) ?_
  refine Reg.nil ?_
  refine At.region rfl rfl ?_
  refine Reg.pur rfl rfl rfl rfl (Pur.mv rfl) ?_
  refine Reg.lod rfl rfl rfl rfl (Lod.ldn ag39 rfl o0_0.blk (by first | exact whole rfl | rfl) rfl) ?_
  refine Reg.op rfl rfl rfl rfl (Does.call rfl (tell_ok s ty cd x k1 n1 k2 n2 hs ht hc hT)) ?_
  rintro _ H3_2 ⟨rfl, hE3_2⟩
  have z3_2 := hE3_2.lt
  replace hE := hE.ext hE3_2
  replace hT := hT.ext hE3_2
  replace o0_0 := o0_0.ext hE3_2
  refine Reg.pur rfl rfl rfl rfl (Pur.mv rfl) ?_
  refine Reg.pur rfl rfl rfl rfl (Pur.ext rfl rfl) ?_
  refine Reg.pur rfl rfl rfl rfl (Pur.ext rfl rfl) ?_
  refine Reg.pur rfl rfl rfl rfl (Pur.asg rfl) ?_
  refine Reg.pur rfl rfl rfl rfl (Pur.asg rfl) ?_
  refine Reg.nil ?_
  refine At.region rfl rfl ?_
  refine Reg.pur rfl rfl rfl rfl (Pur.mv rfl) ?_
  refine Reg.lod rfl rfl rfl rfl (Lod.ldn ag39 rfl o0_0.blk (by first | exact whole rfl | rfl) rfl) ?_
  refine Reg.op rfl rfl rfl rfl (Does.call rfl (tellT_ok s ty cd x k1 n1 k2 n2 hs ht hc _)) ?_
  rintro _ H4_2 ⟨rfl, hE4_2⟩
  have z4_2 := hE4_2.lt
  replace hE := hE.ext hE4_2
  replace hT := hT.ext hE4_2
  replace o0_0 := o0_0.ext hE4_2
  refine Reg.pur rfl rfl rfl rfl (Pur.mv rfl) ?_
  refine Reg.pur rfl rfl rfl rfl (Pur.ext rfl rfl) ?_
  refine Reg.pur rfl rfl rfl rfl (Pur.ext rfl rfl) ?_
  refine Reg.pur rfl rfl rfl rfl (Pur.asg rfl) ?_
  refine Reg.pur rfl rfl rfl rfl (Pur.asg rfl) ?_
  refine Reg.nil ?_
  refine At.region rfl rfl ?_
  refine Reg.pur rfl rfl rfl rfl (Pur.mv rfl) ?_
  refine Reg.pur rfl rfl rfl rfl (Pur.mv rfl) ?_
  refine Reg.pur rfl rfl rfl rfl (Pur.eql rfl rfl) ?_
  refine Reg.pur rfl rfl rfl rfl (Pur.mv rfl) ?_
  refine Reg.known (b' := true) 46 rfl (by first | rfl | simp) ?_
  refine Reg.gpur rfl rfl rfl rfl rfl rfl (Pur.mv rfl) ?_
  refine Reg.gpur rfl rfl rfl rfl rfl rfl (Pur.mv rfl) ?_
  refine Reg.gpur rfl rfl rfl rfl rfl rfl (Pur.eql rfl rfl) ?_
  refine Reg.pur rfl rfl rfl rfl (Pur.pickT rfl rfl) ?_
  refine Reg.pur rfl rfl rfl rfl (Pur.mv rfl) ?_
  refine Reg.known (b' := true) 51 rfl (by first | rfl | simp) ?_
  refine Reg.gpur rfl rfl rfl rfl rfl rfl (Pur.mv rfl) ?_
  refine Reg.gop rfl rfl rfl rfl rfl rfl (Does.call rfl (num_ok _ _ (by first | exact lnE_fits _ _ | exact tellB_fits _ _ _ _ _ _ _ _))) ?_
  rintro _ H4_2 ⟨rfl, rfl⟩
  refine Reg.gpur rfl rfl rfl rfl rfl rfl (Pur.mv rfl) ?_
  refine Reg.gpur rfl rfl rfl rfl rfl rfl (Pur.eql rfl rfl) ?_
  refine Reg.pur rfl rfl rfl rfl (Pur.pickT rfl rfl) ?_
  refine Reg.pur rfl rfl rfl rfl (Pur.mv rfl) ?_
  refine Reg.known (b' := true) 57 rfl (by first | rfl | simp) ?_
  refine Reg.gpur rfl rfl rfl rfl rfl rfl (Pur.mv rfl) ?_
  refine Reg.gpur rfl rfl rfl rfl rfl rfl (Pur.mv rfl) ?_
  refine Reg.gpur rfl rfl rfl rfl rfl rfl (Pur.eqS rfl rfl) ?_
  refine Reg.pur rfl rfl rfl rfl (Pur.pickT rfl rfl) ?_
  refine Reg.pur rfl rfl rfl rfl (Pur.mv rfl) ?_
  refine Reg.known (b' := true) 62 rfl (by first | rfl | simp) ?_
  refine Reg.gpur rfl rfl rfl rfl rfl rfl (Pur.mv rfl) ?_
  refine Reg.gop rfl rfl rfl rfl rfl rfl (Does.call rfl (num_ok _ _ (by first | exact lnE_fits _ _ | exact tellB_fits _ _ _ _ _ _ _ _))) ?_
  rintro _ H4_2 ⟨rfl, rfl⟩
  refine Reg.gpur rfl rfl rfl rfl rfl rfl (Pur.mv rfl) ?_
  refine Reg.gpur rfl rfl rfl rfl rfl rfl (Pur.eql rfl rfl) ?_
  refine Reg.pur rfl rfl rfl rfl (Pur.pickT rfl rfl) ?_
  refine Reg.pur rfl rfl rfl rfl (Pur.mv rfl) ?_
  refine Reg.known (b' := true) 68 rfl (by first | rfl | simp) ?_
  refine Reg.gop rfl rfl rfl rfl rfl rfl (Does.call rfl (awake24_ok hT)) ?_
  rintro _ H5_26 ⟨rfl, hE5_26⟩
  have z5_26 := hE5_26.lt
  replace hE := hE.ext hE5_26
  replace hT := hT.ext hE5_26
  replace o0_0 := o0_0.ext hE5_26
  refine Reg.pur rfl rfl rfl rfl (Pur.pickT rfl rfl) ?_
  refine Reg.pur rfl rfl rfl rfl (Pur.asg rfl) ?_
  refine Reg.nil ?_
  refine At.ret rfl Tryd.func5 rfl ?_
  exact ⟨rfl, hE⟩
theorem placeWalks_law (s : ByteArray) (hs : s.size ≤ 140737488355328) {H : Heap} (hT : Tens H) :
    Ret Tryd.prog 6 [.string s] H (fun v H' => v = .bool true ∧ Ext H H') := by
  refine Ret.of_at (N := 55) Tryd.call6 Tryd.func6 rfl rfl rfl ?_
  have hE := Ext.refl H
  have z_hE := hE.lt
  have z_hT := hT.lt
  refine At.region rfl rfl ?_
  refine Reg.pur rfl rfl rfl rfl (Pur.asg rfl) ?_
  refine Reg.nil ?_
  refine At.region rfl rfl ?_
  refine Reg.op rfl rfl rfl rfl (Does.call rfl (awake24_ok hT)) ?_
  rintro _ H1_0 ⟨rfl, hE1_0⟩
  have z1_0 := hE1_0.lt
  replace hE := hE.ext hE1_0
  replace hT := hT.ext hE1_0
  refine Reg.pur rfl rfl rfl rfl (Pur.not rfl) ?_
  refine Reg.nil ?_
  refine At.condF rfl rfl rfl ?_
  refine At.region rfl rfl ?_
  refine Reg.pur rfl rfl rfl rfl (Pur.asg rfl) ?_
  refine Reg.pur rfl rfl rfl rfl (Pur.asg rfl) ?_
  refine Reg.nil ?_
  refine At.region rfl rfl ?_
  refine Reg.pur rfl rfl rfl rfl (Pur.asg rfl) ?_
  refine Reg.nil ?_
  refine At.loop (σ := Nat) (fun i => [(5, I i), (4, I ((lnAt s i).2 : Nat)), (3, I ((lnAt s i).1 : Nat)), (0, .string s)]) (fun i H' => i ≤ s.size + 1 ∧ Ext H H') (fun i => s.size + 1 - i) 0 rfl ⟨rfl, rfl, rfl, rfl, trivial⟩ ⟨by omega, hE⟩ ?_
  clear hE hT
  rintro i H3 ⟨hi, hE⟩ ih
  have z_hE := hE.lt
  refine At.region rfl rfl ?_
  refine Reg.pur rfl rfl rfl rfl (Pur.mv rfl) ?_
  refine Reg.pur rfl rfl rfl rfl (Pur.mv rfl) ?_
  refine Reg.pur rfl rfl rfl rfl (Pur.lenT rfl rfl) ?_
  refine Reg.pur rfl rfl rfl rfl (Pur.leq rfl rfl) ?_
  refine Reg.pur rfl rfl rfl rfl (Pur.mv rfl) ?_
  refine Reg.case 15 rfl (fun q15 => ?_) (fun q15 => ?_)
  · first | (simp only [decide_eq_true_eq, decide_eq_false_iff_not, Bool.not_eq_true', Bool.not_eq_false', ne_eq, Decidable.not_not, Bool.not_eq_true, Bool.not_eq_false] at q15) | (dsimp only at q15) | skip
    refine Reg.gpur rfl rfl rfl rfl rfl rfl (Pur.mv rfl) ?_
    refine Reg.gpur rfl rfl rfl rfl rfl rfl (Pur.lss rfl rfl) ?_
    refine Reg.pur rfl rfl rfl rfl (Pur.pickT rfl rfl) ?_
    refine Reg.nil ?_
    refine At.cond rfl rfl (fun q18 => ?_) (fun q18 => ?_)
    · first | (simp only [decide_eq_true_eq, decide_eq_false_iff_not, Bool.not_eq_true', Bool.not_eq_false', ne_eq, Decidable.not_not, Bool.not_eq_true, Bool.not_eq_false] at q18) | (dsimp only at q18) | skip
      have hx : (0 : Int) ≤ i ∧ (i : Int) ≤ s.size := by omega
      have hp := ln_pos s i
      have hst : lnAt s (i + 1) = if (s.data[i]!).toNat = 10 then ((lnAt s i).1 + 1, 1) else ((lnAt s i).1, (lnAt s i).2 + 1) := rfl
      refine At.region rfl rfl ?_
      refine Reg.pur rfl rfl rfl rfl (Pur.mv rfl) ?_
      refine Reg.pur rfl rfl rfl rfl (Pur.mv rfl) ?_
      refine Reg.op rfl rfl rfl rfl (Does.call rfl (lineT_ok s hs i _)) ?_
      rintro _ H3 ⟨rfl, rfl⟩
      rw [(ln_yes hx).1, (ln_yes hx).2.1, (ln_yes hx).2.2, Int.toNat_natCast]
      refine Reg.pur rfl rfl rfl rfl (Pur.mv rfl) ?_
      refine Reg.pur rfl rfl rfl rfl (Pur.ext rfl rfl) ?_
      refine Reg.pur rfl rfl rfl rfl (Pur.ext rfl rfl) ?_
      refine Reg.pur rfl rfl rfl rfl (Pur.ext rfl rfl) ?_
      refine Reg.pur rfl rfl rfl rfl (Pur.asg rfl) ?_
      refine Reg.pur rfl rfl rfl rfl (Pur.asg rfl) ?_
      refine Reg.pur rfl rfl rfl rfl (Pur.asg rfl) ?_
      refine Reg.nil ?_
      refine At.region rfl rfl ?_
      refine Reg.pur rfl rfl rfl rfl (Pur.mv rfl) ?_
      refine Reg.op rfl rfl rfl rfl (Does.call rfl (num_ok _ _ (by decide))) ?_
      rintro _ H3 ⟨rfl, rfl⟩
      refine Reg.pur rfl rfl rfl rfl (Pur.neq rfl rfl) ?_
      refine Reg.pur rfl rfl rfl rfl (Pur.mv rfl) ?_
      refine Reg.known (b' := false) 31 rfl rfl ?_
      refine Reg.gpur rfl rfl rfl rfl rfl rfl (Pur.mv rfl) ?_
      refine Reg.gpur rfl rfl rfl rfl rfl rfl (Pur.mv rfl) ?_
      refine Reg.gpur rfl rfl rfl rfl rfl rfl (Pur.neq rfl rfl) ?_
      refine Reg.pur rfl rfl rfl rfl (Pur.pickF rfl rfl) ?_
      refine Reg.pur rfl rfl rfl rfl (Pur.mv rfl) ?_
      refine Reg.known (b' := false) 36 rfl (by simp) ?_
      refine Reg.gpur rfl rfl rfl rfl rfl rfl (Pur.mv rfl) ?_
      refine Reg.gpur rfl rfl rfl rfl rfl rfl (Pur.mv rfl) ?_
      refine Reg.gpur rfl rfl rfl rfl rfl rfl (Pur.neq rfl rfl) ?_
      refine Reg.pur rfl rfl rfl rfl (Pur.pickF rfl rfl) ?_
      refine Reg.nil ?_
      refine At.condF rfl rfl (by simp) ?_
      refine At.region rfl rfl ?_
      refine Reg.pur rfl rfl rfl rfl (Pur.mv rfl) ?_
      refine Reg.pur rfl rfl rfl rfl (Pur.add64 rfl rfl (by omega)) ?_
      refine Reg.pur rfl rfl rfl rfl (Pur.asg rfl) ?_
      refine Reg.nil ?_
      refine At.region rfl rfl ?_
      refine Reg.pur rfl rfl rfl rfl (Pur.mv rfl) ?_
      refine Reg.pur rfl rfl rfl rfl (Pur.mv rfl) ?_
      refine Reg.pur rfl rfl rfl rfl (Pur.lenT rfl rfl) ?_
      refine Reg.pur rfl rfl rfl rfl (Pur.lss rfl rfl) ?_
      refine Reg.pur rfl rfl rfl rfl (Pur.mv rfl) ?_
      refine Reg.case 47 rfl (fun q47 => ?_) (fun q47 => ?_)
      · first | (simp only [decide_eq_true_eq, decide_eq_false_iff_not, Bool.not_eq_true', Bool.not_eq_false', ne_eq, Decidable.not_not, Bool.not_eq_true, Bool.not_eq_false] at q47) | (dsimp only at q47) | skip
        refine Reg.gpur rfl rfl rfl rfl rfl rfl (Pur.mv rfl) ?_
        refine Reg.gpur rfl rfl rfl rfl rfl rfl (Pur.mv rfl) ?_
        refine Reg.gpur rfl rfl rfl rfl rfl rfl (Pur.idxS Tryd.underlying9 rfl rfl (by omega) (by omega)) ?_
        refine Reg.gpur rfl rfl rfl rfl rfl rfl (Pur.eql rfl rfl) ?_
        refine Reg.pur rfl rfl rfl rfl (Pur.pickT rfl rfl) ?_
        refine Reg.nil ?_
        refine At.cond rfl rfl (fun q52 => ?_) (fun q52 => ?_)
        · first | (simp only [decide_eq_true_eq, decide_eq_false_iff_not, Bool.not_eq_true', Bool.not_eq_false', ne_eq, Decidable.not_not, Bool.not_eq_true, Bool.not_eq_false] at q52) | (dsimp only at q52) | skip
          refine At.region rfl rfl ?_
          refine Reg.pur rfl rfl rfl rfl (Pur.mv rfl) ?_
          refine Reg.pur rfl rfl rfl rfl (Pur.add64 rfl rfl (by omega)) ?_
          refine Reg.pur rfl rfl rfl rfl (Pur.asg rfl) ?_
          refine Reg.nil ?_
          refine At.region rfl rfl ?_
          refine Reg.pur rfl rfl rfl rfl (Pur.asg rfl) ?_
          refine Reg.nil ?_
          refine At.region rfl rfl ?_
          refine Reg.pur rfl rfl rfl rfl (Pur.mv rfl) ?_
          refine Reg.pur rfl rfl rfl rfl (Pur.add64 rfl rfl (by omega)) ?_
          refine Reg.pur rfl rfl rfl rfl (Pur.asg rfl) ?_
          refine Reg.nil ?_
          rw [if_pos (by rw [Int.toNat_natCast] at q52; omega)] at hst
          exact At.meets rfl (ih (i + 1) _ ⟨by omega, hE⟩ (by omega)) ⟨rfl, by rw [hst]; rfl, by rw [hst]; rfl, rfl, trivial⟩
        first | (simp only [decide_eq_true_eq, decide_eq_false_iff_not, Bool.not_eq_true', Bool.not_eq_false', ne_eq, Decidable.not_not, Bool.not_eq_true, Bool.not_eq_false] at q52) | (dsimp only at q52) | skip
        refine At.region rfl rfl ?_
        refine Reg.pur rfl rfl rfl rfl (Pur.mv rfl) ?_
        refine Reg.pur rfl rfl rfl rfl (Pur.add64 rfl rfl (by omega)) ?_
        refine Reg.pur rfl rfl rfl rfl (Pur.asg rfl) ?_
        refine Reg.nil ?_
        rw [if_neg (by intro hh; apply q52; rw [Int.toNat_natCast, hh]; rfl)] at hst
        exact At.meets rfl (ih (i + 1) _ ⟨by omega, hE⟩ (by omega)) ⟨rfl, by rw [hst]; rfl, by rw [hst]; rfl, rfl, trivial⟩
      first | (simp only [decide_eq_true_eq, decide_eq_false_iff_not, Bool.not_eq_true', Bool.not_eq_false', ne_eq, Decidable.not_not, Bool.not_eq_true, Bool.not_eq_false] at q47) | (dsimp only at q47) | skip
      refine Reg.skip rfl rfl rfl rfl rfl rfl rfl ?_
      refine Reg.skip rfl rfl rfl rfl rfl rfl rfl ?_
      refine Reg.skip rfl rfl rfl rfl rfl rfl rfl ?_
      refine Reg.skip rfl rfl rfl rfl rfl rfl rfl ?_
      refine Reg.pur rfl rfl rfl rfl (Pur.pickF rfl rfl) ?_
      refine Reg.nil ?_
      refine At.condF rfl rfl rfl ?_
      refine At.region rfl rfl ?_
      refine Reg.pur rfl rfl rfl rfl (Pur.mv rfl) ?_
      refine Reg.pur rfl rfl rfl rfl (Pur.add64 rfl rfl (by omega)) ?_
      refine Reg.pur rfl rfl rfl rfl (Pur.asg rfl) ?_
      refine Reg.nil ?_
      rw [if_neg (by rw [getElem!_neg s.data i (by have : s.data.size = s.size := rfl; omega)]; decide)] at hst
      exact At.meets rfl (ih (i + 1) _ ⟨by omega, hE⟩ (by omega)) ⟨rfl, by rw [hst]; rfl, by rw [hst]; rfl, rfl, trivial⟩
    first | (simp only [decide_eq_true_eq, decide_eq_false_iff_not, Bool.not_eq_true', Bool.not_eq_false', ne_eq, Decidable.not_not, Bool.not_eq_true, Bool.not_eq_false] at q18) | (dsimp only at q18) | skip
    refine At.region rfl rfl ?_
    refine Reg.pur rfl rfl rfl rfl (Pur.asg rfl) ?_
    refine Reg.nil ?_
    refine At.ret rfl Tryd.func6 rfl ?_
    exact ⟨rfl, hE⟩
  first | (simp only [decide_eq_true_eq, decide_eq_false_iff_not, Bool.not_eq_true', Bool.not_eq_false', ne_eq, Decidable.not_not, Bool.not_eq_true, Bool.not_eq_false] at q15) | (dsimp only at q15) | skip
  refine Reg.skip rfl rfl rfl rfl rfl rfl rfl ?_
  refine Reg.skip rfl rfl rfl rfl rfl rfl rfl ?_
  refine Reg.pur rfl rfl rfl rfl (Pur.pickF rfl rfl) ?_
  refine Reg.nil ?_
  refine At.condF rfl rfl rfl ?_
  refine At.region rfl rfl ?_
  refine Reg.pur rfl rfl rfl rfl (Pur.asg rfl) ?_
  refine Reg.nil ?_
  refine At.ret rfl Tryd.func6 rfl ?_
  exact ⟨rfl, hE⟩
/-! ### rows of results -/
structure Re where
  cd : Int
  x : Int
  ty : ByteArray
  k1 : Int
  n1 : Int
  k2 : Int
  n2 : Int
abbrev encR (r : Re) : List Value := resC r.cd r.x r.ty r.k1 r.n1 r.k2 r.n2
theorem wideR (L : List Re) : Wide encR 7 L := fun _ _ => rfl
theorem re_ld {L : List Re} {z : Int} (h0 : 0 ≤ z) (h1 : z < L.length) : ∃ r, r ∈ L ∧ L[z.toNat]? = some r ∧ ((L.flatMap encR).drop (0 + z.toNat * 7)).take 7 = encR r := by
  have hz : z.toNat < L.length := by omega
  exact ⟨L[z.toNat], List.getElem_mem hz, List.getElem?_eq_getElem hz, by rw [Nat.zero_add]; exact Go.Fx.flat_at (f := encR) (n := 7) L z.toNat (fun _ _ => rfl) hz⟩
theorem may_no {k n : Int} (h : ¬ mayP k n) : ¬ mayO k n = true := fun h' => h (of_decide_eq_true h')
theorem may_yes {k n : Int} (h : mayP k n) : mayO k n = true := decide_eq_true h
def badR (a n : Int) : List Re := [⟨-(1 + a), 0, ⟨#[]⟩, 0, 0, 0, 0⟩, ⟨1 + a, -(1 + a), ⟨#[]⟩, 0, 0, 0, 0⟩, ⟨1 + a, n + (1 + a), ⟨#[]⟩, 0, 0, 0, 0⟩, ⟨0, 0, ⟨#[]⟩, -(1 + a), 0, 0, 0⟩, ⟨0, 0, ⟨#[]⟩, 0, 0, 5 + (1 + a), 0⟩, ⟨0, 0, ⟨#[]⟩, 0, 0, 1, 1 + (1 + a)⟩, ⟨1 + a, 0, ⟨#[]⟩, 0, 1073741823 + (1 + a), 0, 0⟩]
theorem badR_bad {a : Int} {s : ByteArray} (h0 : 0 ≤ a) (h1 : a ≤ 1023) (r : Re) (hr : r ∈ badR a s.size) : tellB s r.ty r.cd r.x r.k1 r.n1 r.k2 r.n2 = (⟨#[]⟩, 2400) ∧ r.ty.size ≤ 140737488355328 ∧ fitsI r.cd := by
  have h00 : mayO 0 0 = true := by decide
  have hz : (⟨#[]⟩ : ByteArray).size ≤ 140737488355328 := by decide
  simp only [badR, List.mem_cons, List.not_mem_nil, or_false] at hr
  unfold fitsI
  rcases hr with rfl | rfl | rfl | rfl | rfl | rfl | rfl
  · exact ⟨tellB_bad (fun h => by have := h.2.2; dsimp only at this; omega), hz, by dsimp only; omega⟩
  · exact ⟨tellB_off ⟨h00, h00, by dsimp only; omega⟩ (by dsimp only; omega) (by dsimp only; omega), hz, by dsimp only; omega⟩
  · exact ⟨tellB_off ⟨h00, h00, by dsimp only; omega⟩ (by dsimp only; omega) (by dsimp only; omega), hz, by dsimp only; omega⟩
  · exact ⟨tellB_bad (fun h => may_no (by dsimp only; omega) h.1), hz, by dsimp only; omega⟩
  · exact ⟨tellB_bad (fun h => may_no (by dsimp only; omega) h.2.1), hz, by dsimp only; omega⟩
  · exact ⟨tellB_bad (fun h => may_no (by dsimp only; omega) h.2.1), hz, by dsimp only; omega⟩
  · exact ⟨tellB_bad (fun h => may_no (by dsimp only; omega) h.1), hz, by dsimp only; omega⟩
theorem placeForms_law (w y : Int) (s : ByteArray) (hs : s.size ≤ 140737488355328) {H : Heap} (hT : Tens H) :
    Ret Tryd.prog 7 [I w, I y, .string s] H (fun v H' => v = .bool true ∧ Ext H H') := by
  obtain ⟨m0, m1⟩ := and_le y 1023 (by decide)
  have e1023 : ((1023 : Nat) : Int) = 1023 := rfl
  rw [e1023] at m0 m1
  obtain ⟨u0, u1⟩ := umod w 7 (by decide) (by decide)
  refine Ret.of_at (N := 100) Tryd.call7 Tryd.func7 rfl rfl rfl ?_
  have hE := Ext.refl H
  have z_hE := hE.lt
  have z_hT := hT.lt
  refine At.region rfl rfl ?_
  refine Reg.pur rfl rfl rfl rfl (Pur.asg rfl) ?_
  refine Reg.nil ?_
  refine At.region rfl rfl ?_
  refine Reg.op rfl rfl rfl rfl (Does.call rfl (awake24_ok hT)) ?_
  rintro _ H1_0 ⟨rfl, hE1_0⟩
  have z1_0 := hE1_0.lt
  replace hE := hE.ext hE1_0
  replace hT := hT.ext hE1_0
  refine Reg.pur rfl rfl rfl rfl (Pur.not rfl) ?_
  refine Reg.nil ?_
  refine At.condF rfl rfl rfl ?_
  refine At.region rfl rfl ?_
  refine Reg.pur rfl rfl rfl rfl (Pur.mv rfl) ?_
  refine Reg.pur rfl rfl rfl rfl (Pur.and rfl rfl) ?_
  first | refine Reg.pur rfl rfl rfl rfl (Pur.add64 rfl rfl (by omega)) ?_ | refine Reg.pur rfl rfl rfl rfl (Pur.add64 rfl rfl (by assumption)) ?_ | refine Reg.pur rfl rfl rfl rfl (Pur.add rfl rfl) ?_
  refine Reg.pur rfl rfl rfl rfl (Pur.asg rfl) ?_
  refine Reg.nil ?_
  generalize bits .and .i64 y 1023 = a at *
  refine At.region rfl rfl ?_
  refine Reg.pur rfl rfl rfl rfl (Pur.mv rfl) ?_
  refine Reg.pur rfl rfl rfl rfl (Pur.mv rfl) ?_
  first | refine Reg.pur rfl rfl rfl rfl (Pur.neg64 rfl (by omega)) ?_ | refine Reg.pur rfl rfl rfl rfl (Pur.neg rfl) ?_
  refine Reg.op rfl rfl rfl rfl (Does.call rfl (lineT_ok s hs _ _)) ?_
  rintro _ H1_0 ⟨rfl, rfl⟩
  rw [(ln_no (s := s) (x := -(1 + a)) (by omega)).2.2]
  refine Reg.pur rfl rfl rfl rfl (Pur.mv rfl) ?_
  refine Reg.pur rfl rfl rfl rfl (Pur.ext rfl rfl) ?_
  refine Reg.pur rfl rfl rfl rfl (Pur.ext rfl rfl) ?_
  refine Reg.pur rfl rfl rfl rfl (Pur.ext rfl rfl) ?_
  refine Reg.pur rfl rfl rfl rfl (Pur.asg rfl) ?_
  refine Reg.pur rfl rfl rfl rfl (Pur.asg rfl) ?_
  refine Reg.pur rfl rfl rfl rfl (Pur.asg rfl) ?_
  refine Reg.nil ?_
  refine At.region rfl rfl ?_
  refine Reg.pur rfl rfl rfl rfl (Pur.mv rfl) ?_
  refine Reg.pur rfl rfl rfl rfl (Pur.mv rfl) ?_
  refine Reg.pur rfl rfl rfl rfl (Pur.lenT rfl rfl) ?_
  refine Reg.pur rfl rfl rfl rfl (Pur.mv rfl) ?_
  first | refine Reg.pur rfl rfl rfl rfl (Pur.add64 rfl rfl (by omega)) ?_ | refine Reg.pur rfl rfl rfl rfl (Pur.add64 rfl rfl (by assumption)) ?_ | refine Reg.pur rfl rfl rfl rfl (Pur.add rfl rfl) ?_
  refine Reg.op rfl rfl rfl rfl (Does.call rfl (lineT_ok s hs _ _)) ?_
  rintro _ H1_0 ⟨rfl, rfl⟩
  rw [(ln_no (s := s) (x := s.size + (1 + a)) (by omega)).2.2]
  refine Reg.pur rfl rfl rfl rfl (Pur.mv rfl) ?_
  refine Reg.pur rfl rfl rfl rfl (Pur.ext rfl rfl) ?_
  refine Reg.pur rfl rfl rfl rfl (Pur.ext rfl rfl) ?_
  refine Reg.pur rfl rfl rfl rfl (Pur.ext rfl rfl) ?_
  refine Reg.pur rfl rfl rfl rfl (Pur.asg rfl) ?_
  refine Reg.pur rfl rfl rfl rfl (Pur.asg rfl) ?_
  refine Reg.pur rfl rfl rfl rfl (Pur.asg rfl) ?_
  refine Reg.nil ?_
  refine At.region rfl rfl ?_
  refine Reg.pur rfl rfl rfl rfl (Pur.mv rfl) ?_
  first | refine Reg.pur rfl rfl rfl rfl (Pur.neg64 rfl (by omega)) ?_ | refine Reg.pur rfl rfl rfl rfl (Pur.neg rfl) ?_
  refine Reg.pur rfl rfl rfl rfl (Pur.bld (cs := [_, _, _, _, _, _, _]) pl39 zc39 rfl rfl ⟨rfl, rfl, rfl, rfl, rfl, rfl, rfl, rfl⟩) ?_
  refine Reg.pur rfl rfl rfl rfl (Pur.mv rfl) ?_
  refine Reg.pur rfl rfl rfl rfl (Pur.mv rfl) ?_
  first | refine Reg.pur rfl rfl rfl rfl (Pur.neg64 rfl (by omega)) ?_ | refine Reg.pur rfl rfl rfl rfl (Pur.neg rfl) ?_
  refine Reg.pur rfl rfl rfl rfl (Pur.bld (cs := [_, _, _, _, _, _, _]) pl39 zc39 rfl rfl ⟨rfl, rfl, rfl, rfl, rfl, rfl, rfl, rfl⟩) ?_
  refine Reg.pur rfl rfl rfl rfl (Pur.mv rfl) ?_
  refine Reg.pur rfl rfl rfl rfl (Pur.mv rfl) ?_
  refine Reg.pur rfl rfl rfl rfl (Pur.lenT rfl rfl) ?_
  refine Reg.pur rfl rfl rfl rfl (Pur.mv rfl) ?_
  first | refine Reg.pur rfl rfl rfl rfl (Pur.add64 rfl rfl (by omega)) ?_ | refine Reg.pur rfl rfl rfl rfl (Pur.add64 rfl rfl (by assumption)) ?_ | refine Reg.pur rfl rfl rfl rfl (Pur.add rfl rfl) ?_
  refine Reg.pur rfl rfl rfl rfl (Pur.bld (cs := [_, _, _, _, _, _, _]) pl39 zc39 rfl rfl ⟨rfl, rfl, rfl, rfl, rfl, rfl, rfl, rfl⟩) ?_
  refine Reg.pur rfl rfl rfl rfl (Pur.mv rfl) ?_
  first | refine Reg.pur rfl rfl rfl rfl (Pur.neg64 rfl (by omega)) ?_ | refine Reg.pur rfl rfl rfl rfl (Pur.neg rfl) ?_
  refine Reg.pur rfl rfl rfl rfl (Pur.bld (cs := [_, _]) pl37 zc37 rfl rfl ⟨rfl, rfl, rfl⟩) ?_
  refine Reg.pur rfl rfl rfl rfl (Pur.bld (cs := [_, _, _, _, _, _, _]) pl39 zc39 rfl rfl ⟨rfl, rfl, rfl, rfl, rfl, rfl, rfl, rfl⟩) ?_
  refine Reg.pur rfl rfl rfl rfl (Pur.mv rfl) ?_
  first | refine Reg.pur rfl rfl rfl rfl (Pur.add64 rfl rfl (by omega)) ?_ | refine Reg.pur rfl rfl rfl rfl (Pur.add64 rfl rfl (by assumption)) ?_ | refine Reg.pur rfl rfl rfl rfl (Pur.add rfl rfl) ?_
  refine Reg.pur rfl rfl rfl rfl (Pur.bld (cs := [_, _]) pl37 zc37 rfl rfl ⟨rfl, rfl, rfl⟩) ?_
  refine Reg.pur rfl rfl rfl rfl (Pur.bld (cs := [_, _, _, _, _, _, _]) pl39 zc39 rfl rfl ⟨rfl, rfl, rfl, rfl, rfl, rfl, rfl, rfl⟩) ?_
  refine Reg.pur rfl rfl rfl rfl (Pur.mv rfl) ?_
  first | refine Reg.pur rfl rfl rfl rfl (Pur.add64 rfl rfl (by omega)) ?_ | refine Reg.pur rfl rfl rfl rfl (Pur.add64 rfl rfl (by assumption)) ?_ | refine Reg.pur rfl rfl rfl rfl (Pur.add rfl rfl) ?_
  refine Reg.pur rfl rfl rfl rfl (Pur.bld (cs := [_, _]) pl37 zc37 rfl rfl ⟨rfl, rfl, rfl⟩) ?_
  refine Reg.pur rfl rfl rfl rfl (Pur.bld (cs := [_, _, _, _, _, _, _]) pl39 zc39 rfl rfl ⟨rfl, rfl, rfl, rfl, rfl, rfl, rfl, rfl⟩) ?_
  refine Reg.pur rfl rfl rfl rfl (Pur.mv rfl) ?_
  refine Reg.pur rfl rfl rfl rfl (Pur.mv rfl) ?_
  first | refine Reg.pur rfl rfl rfl rfl (Pur.add64 rfl rfl (by omega)) ?_ | refine Reg.pur rfl rfl rfl rfl (Pur.add64 rfl rfl (by assumption)) ?_ | refine Reg.pur rfl rfl rfl rfl (Pur.add rfl rfl) ?_
  refine Reg.pur rfl rfl rfl rfl (Pur.bld (cs := [_, _]) pl37 zc37 rfl rfl ⟨rfl, rfl, rfl⟩) ?_
  refine Reg.pur rfl rfl rfl rfl (Pur.bld (cs := [_, _, _, _, _, _, _]) pl39 zc39 rfl rfl ⟨rfl, rfl, rfl, rfl, rfl, rfl, rfl, rfl⟩) ?_
  refine Reg.op rfl rfl rfl rfl (Does.bslA ([[_, _, _, _, _, _, _], [_, _, _, _, _, _, _], [_, _, _, _, _, _, _], [_, _, _, _, _, _, _], [_, _, _, _, _, _, _], [_, _, _, _, _, _, _], [_, _, _, _, _, _, _]]) slA50 rfl rfl rfl rfl rfl rfl) ?_
  rintro _ H6_30 ⟨rfl, hp6_30⟩
  have hn6_30 := New.of_eq hp6_30
  have z6_30 := hn6_30.size
  replace hE := hE.ext hn6_30.ext
  replace hT := hT.ext hn6_30.ext
  have o6_30 := hn6_30.own
  have o6_30 : Own H6_30 H1_0.size ((badR a s.size).flatMap encR) := o6_30
  refine Reg.pur rfl rfl rfl rfl (Pur.asg rfl) ?_
  refine Reg.nil ?_
  obtain ⟨r, hr, hri, hd⟩ := re_ld (L := badR a s.size) u0 u1
  obtain ⟨hb1, hb2, hb3⟩ := badR_bad m0 m1 r hr
  refine At.region rfl rfl ?_
  refine Reg.pur rfl rfl rfl rfl (Pur.mv rfl) ?_
  refine Reg.pur rfl rfl rfl rfl (Pur.mv rfl) ?_
  refine Reg.pur rfl rfl rfl rfl (Pur.mv rfl) ?_
  refine Reg.pur rfl rfl rfl rfl (Pur.cnv Tryd.underlying3 Tryd.underlying51 rfl) ?_
  first | refine Reg.pur rfl rfl rfl rfl (Pur.rem rfl rfl (by omega)) ?_ | refine Reg.pur rfl rfl rfl rfl (Pur.rem rfl rfl (by decide)) ?_
  refine Reg.pur rfl rfl rfl rfl (Pur.cnv Tryd.underlying51 Tryd.underlying3 rfl) ?_
  refine Reg.pur rfl rfl rfl rfl (Pur.idx _ es50 rfl rfl (by omega) (by omega)) ?_
  refine Reg.lod rfl rfl rfl rfl (Lod.ldn ag39 rfl o6_30.blk hd rfl) ?_
  refine Reg.op rfl rfl rfl rfl (Does.call rfl (tell_ok s r.ty r.cd r.x r.k1 r.n1 r.k2 r.n2 hs hb2 hb3 hT)) ?_
  rintro _ H7_8 ⟨rfl, hE7_8⟩
  have z7_8 := hE7_8.lt
  replace hE := hE.ext hE7_8
  replace hT := hT.ext hE7_8
  replace o6_30 := o6_30.ext hE7_8
  rw [hb1]
  refine Reg.pur rfl rfl rfl rfl (Pur.mv rfl) ?_
  refine Reg.pur rfl rfl rfl rfl (Pur.ext rfl rfl) ?_
  refine Reg.pur rfl rfl rfl rfl (Pur.ext rfl rfl) ?_
  refine Reg.pur rfl rfl rfl rfl (Pur.asg rfl) ?_
  refine Reg.pur rfl rfl rfl rfl (Pur.asg rfl) ?_
  refine Reg.nil ?_
  refine At.region rfl rfl ?_
  refine Reg.pur rfl rfl rfl rfl (Pur.mv rfl) ?_
  refine Reg.op rfl rfl rfl rfl (Does.call rfl (num_ok _ _ (by decide))) ?_
  rintro _ H7_8 ⟨rfl, rfl⟩
  refine Reg.pur rfl rfl rfl rfl (Pur.eql rfl rfl) ?_
  refine Reg.pur rfl rfl rfl rfl (Pur.mv rfl) ?_
  refine Reg.known (b' := true) 86 rfl (by first | rfl | simp) ?_
  refine Reg.gpur rfl rfl rfl rfl rfl rfl (Pur.mv rfl) ?_
  refine Reg.gop rfl rfl rfl rfl rfl rfl (Does.call rfl (num_ok _ _ (by decide))) ?_
  rintro _ H7_8 ⟨rfl, rfl⟩
  refine Reg.gpur rfl rfl rfl rfl rfl rfl (Pur.eql rfl rfl) ?_
  refine Reg.pur rfl rfl rfl rfl (Pur.pickT rfl rfl) ?_
  refine Reg.pur rfl rfl rfl rfl (Pur.mv rfl) ?_
  refine Reg.known (b' := true) 91 rfl (by first | rfl | simp) ?_
  refine Reg.gpur rfl rfl rfl rfl rfl rfl (Pur.mv rfl) ?_
  refine Reg.gpur rfl rfl rfl rfl rfl rfl (Pur.eqS rfl rfl) ?_
  refine Reg.pur rfl rfl rfl rfl (Pur.pickT rfl rfl) ?_
  refine Reg.pur rfl rfl rfl rfl (Pur.mv rfl) ?_
  refine Reg.known (b' := true) 95 rfl (by first | rfl | simp) ?_
  refine Reg.gpur rfl rfl rfl rfl rfl rfl (Pur.mv rfl) ?_
  refine Reg.gop rfl rfl rfl rfl rfl rfl (Does.call rfl (num_ok _ _ (by decide))) ?_
  rintro _ H7_8 ⟨rfl, rfl⟩
  refine Reg.gpur rfl rfl rfl rfl rfl rfl (Pur.eql rfl rfl) ?_
  refine Reg.pur rfl rfl rfl rfl (Pur.pickT rfl rfl) ?_
  refine Reg.pur rfl rfl rfl rfl (Pur.asg rfl) ?_
  refine Reg.nil ?_
  refine At.ret rfl Tryd.func7 rfl ?_
  exact ⟨rfl, hE⟩
/-! ### what a person reads -/
def rowR (a : Int) : List Re := [⟨0, 0, sInt, 0, a, 0, -a⟩, ⟨0, 0, ⟨#[98, 111, 111, 108]⟩, 1, 0, 1, 1⟩, ⟨0, 0, ⟨#[116]⟩, 2, 0, 4, 0⟩, ⟨0, 0, ⟨#[]⟩, 5, 0, 3, 1⟩, ⟨1 + a, 0, ⟨#[]⟩, 0, 0, 0, 0⟩, ⟨1 + a, 3, sInt, 0, 0, 0, 0⟩, ⟨1 + a, 5, ⟨#[]⟩, 0, 0, 0, 0⟩]
abbrev m1E : ByteArray := ⟨#[49, 58, 49, 58, 32, 101, 114, 114, 111, 114, 32]⟩
abbrev m2E : ByteArray := ⟨#[50, 58, 49, 58, 32, 101, 114, 114, 111, 114, 32]⟩
abbrev m3E : ByteArray := ⟨#[50, 58, 51, 58, 32, 101, 114, 114, 111, 114, 32]⟩
abbrev sIntE : ByteArray := ⟨#[105, 110, 116, 32, 61, 32]⟩
abbrev sMin (a : Int) : ByteArray := if a = 0 then ⟨#[]⟩ else ⟨#[45]⟩
def wantR (a : Int) : List ByteArray := [sIntE ++ num a.toNat ++ sBar ++ sMin a ++ num a.toNat, ⟨#[98, 111, 111, 108, 32, 61, 32, 102, 97, 108, 115, 101, 32, 124, 32, 116, 114, 117, 101]⟩,
  ⟨#[116, 32, 61, 32, 102, 117, 110, 99, 116, 105, 111, 110, 32, 124, 32, 102, 117, 101, 108]⟩, ⟨#[32, 61, 32, 115, 116, 117, 99, 107, 32, 124, 32, 102, 97, 117, 108, 116, 32, 49]⟩, m1E ++ num (1 + a).toNat, m2E ++ num (1 + a).toNat, m3E ++ num (1 + a).toNat]
theorem dap (a b : ByteArray) : (a ++ b).data.toList = a.data.toList ++ b.data.toList := by simp
theorem row_want {a : Int} (h0 : 0 ≤ a) (h1 : a ≤ 1023) (i : Nat) (r : Re) (hr : (rowR a)[i]? = some r) : ∃ w, (wantR a)[i]? = some w ∧ tellB abcd r.ty r.cd r.x r.k1 r.n1 r.k2 r.n2 = (w, 0) ∧ r.ty.size ≤ 140737488355328 ∧ fitsI r.cd := by
  have h00 : mayO 0 0 = true := by decide
  have hcd : ∀ x : Int, 0 ≤ x → x ≤ abcd.size → tellB abcd ⟨#[]⟩ (1 + a) x 0 0 0 0 = (num (lnAt abcd x.toNat).1 ++ sCol ++ num (lnAt abcd x.toNat).2 ++ sErr ++ num (1 + a).toNat, 0) := fun x hx hx' => tellB_at ⟨h00, h00, by omega⟩ (by omega) ⟨hx, hx'⟩
  have hcd' : ∀ (t : ByteArray) (x : Int), 0 ≤ x → x ≤ abcd.size → tellB abcd t (1 + a) x 0 0 0 0 = (num (lnAt abcd x.toNat).1 ++ sCol ++ num (lnAt abcd x.toNat).2 ++ sErr ++ num (1 + a).toNat, 0) := fun t x hx hx' => tellB_at ⟨h00, h00, by omega⟩ (by omega) ⟨hx, hx'⟩
  have fit : fitsI (1 + a) := by unfold fitsI; omega
  unfold rowR at hr
  rcases i with _ | _ | _ | _ | _ | _ | _ | i
  · cases hr
    refine ⟨_, rfl, ?_, by (dsimp only; decide), by (dsimp only; decide)⟩
    dsimp only
    rw [tellB_zero ⟨may_yes (by omega), may_yes (by omega), by decide⟩ rfl]
    refine Prod.ext ?_ rfl
    apply WideShapes.bytes_inj
    dsimp only
    simp only [dap, toldS, if_true, numS_pos h0]
    by_cases ha : a = 0
    · subst ha; rfl
    · rw [numS_neg (by omega), show sMin a = ⟨#[45]⟩ from if_neg ha, Int.neg_neg]
      simp only [dap, List.append_assoc]; rfl
  · cases hr; exact ⟨_, rfl, by decide +kernel, by decide, by decide⟩
  · cases hr; exact ⟨_, rfl, by decide +kernel, by decide, by decide⟩
  · cases hr; exact ⟨_, rfl, by decide +kernel, by decide, by decide⟩
  · cases hr
    refine ⟨_, rfl, ?_, by (dsimp only; decide), fit⟩
    dsimp only
    rw [hcd' _ 0 (by decide) (by decide)]
    exact Prod.ext (WideShapes.bytes_inj (by dsimp only; simp only [dap, List.append_assoc]; rfl)) rfl
  · cases hr
    refine ⟨_, rfl, ?_, by (dsimp only; decide), fit⟩
    dsimp only
    rw [hcd' _ 3 (by decide) (by decide)]
    exact Prod.ext (WideShapes.bytes_inj (by dsimp only; simp only [dap, List.append_assoc]; rfl)) rfl
  · cases hr
    refine ⟨_, rfl, ?_, by (dsimp only; decide), fit⟩
    dsimp only
    rw [hcd' _ 5 (by decide) (by decide)]
    exact Prod.ext (WideShapes.bytes_inj (by dsimp only; simp only [dap, List.append_assoc]; rfl)) rfl
  · cases hr
theorem placeTells_law (w y : Int) {H : Heap} (hT : Tens H) :
    Ret Tryd.prog 8 [I w, I y] H (fun v H' => v = .bool true ∧ Ext H H') := by
  obtain ⟨m0, m1⟩ := and_le y 1023 (by decide)
  have e1023 : ((1023 : Nat) : Int) = 1023 := rfl
  rw [e1023] at m0 m1
  obtain ⟨u0, u1⟩ := umod w 7 (by decide) (by decide)
  have hnz := num_size (bits .and .i64 y 1023).toNat
  have hnz1 := num_size (1 + bits .and .i64 y 1023).toNat
  have hmi : (sMin (bits .and .i64 y 1023)).size ≤ 1 := by unfold sMin; split <;> decide
  have sA : ∀ {a b : ByteArray} {m n : Nat}, a.size ≤ m → b.size ≤ n → m + n ≤ 100000 → a.size + b.size ≤ 9223372036854775807 := fun h k hn => by omega
  refine Ret.of_at (N := 88) Tryd.call8 Tryd.func8 rfl rfl rfl ?_
  have hE := Ext.refl H
  have z_hE := hE.lt
  have z_hT := hT.lt
  refine At.region rfl rfl ?_
  refine Reg.pur rfl rfl rfl rfl (Pur.asg rfl) ?_
  refine Reg.nil ?_
  refine At.region rfl rfl ?_
  refine Reg.op rfl rfl rfl rfl (Does.call rfl (awake24_ok hT)) ?_
  rintro _ H1_0 ⟨rfl, hE1_0⟩
  have z1_0 := hE1_0.lt
  replace hE := hE.ext hE1_0
  replace hT := hT.ext hE1_0
  refine Reg.pur rfl rfl rfl rfl (Pur.not rfl) ?_
  refine Reg.nil ?_
  refine At.condF rfl rfl rfl ?_
  refine At.region rfl rfl ?_
  refine Reg.pur rfl rfl rfl rfl (Pur.mv rfl) ?_
  refine Reg.pur rfl rfl rfl rfl (Pur.and rfl rfl) ?_
  refine Reg.pur rfl rfl rfl rfl (Pur.asg rfl) ?_
  refine Reg.nil ?_
  generalize bits .and .i64 y 1023 = a at *
  refine At.region rfl rfl ?_
  refine Reg.pur rfl rfl rfl rfl (Pur.mv rfl) ?_
  refine Reg.pur rfl rfl rfl rfl (Pur.bld (cs := [_, _]) pl37 zc37 rfl rfl ⟨rfl, rfl, rfl⟩) ?_
  refine Reg.pur rfl rfl rfl rfl (Pur.mv rfl) ?_
  first | refine Reg.pur rfl rfl rfl rfl (Pur.neg64 rfl (by omega)) ?_ | refine Reg.pur rfl rfl rfl rfl (Pur.neg rfl) ?_
  refine Reg.pur rfl rfl rfl rfl (Pur.bld (cs := [_, _]) pl37 zc37 rfl rfl ⟨rfl, rfl, rfl⟩) ?_
  refine Reg.pur rfl rfl rfl rfl (Pur.bld (cs := [_, _, _, _, _, _, _]) pl39 zc39 rfl rfl ⟨rfl, rfl, rfl, rfl, rfl, rfl, rfl, rfl⟩) ?_
  refine Reg.pur rfl rfl rfl rfl (Pur.bld (cs := [_, _]) pl37 zc37 rfl rfl ⟨rfl, rfl, rfl⟩) ?_
  refine Reg.pur rfl rfl rfl rfl (Pur.bld (cs := [_, _]) pl37 zc37 rfl rfl ⟨rfl, rfl, rfl⟩) ?_
  refine Reg.pur rfl rfl rfl rfl (Pur.bld (cs := [_, _, _, _, _, _, _]) pl39 zc39 rfl rfl ⟨rfl, rfl, rfl, rfl, rfl, rfl, rfl, rfl⟩) ?_
  refine Reg.pur rfl rfl rfl rfl (Pur.bld (cs := [_, _]) pl37 zc37 rfl rfl ⟨rfl, rfl, rfl⟩) ?_
  refine Reg.pur rfl rfl rfl rfl (Pur.bld (cs := [_, _]) pl37 zc37 rfl rfl ⟨rfl, rfl, rfl⟩) ?_
  refine Reg.pur rfl rfl rfl rfl (Pur.bld (cs := [_, _, _, _, _, _, _]) pl39 zc39 rfl rfl ⟨rfl, rfl, rfl, rfl, rfl, rfl, rfl, rfl⟩) ?_
  refine Reg.pur rfl rfl rfl rfl (Pur.bld (cs := [_, _]) pl37 zc37 rfl rfl ⟨rfl, rfl, rfl⟩) ?_
  refine Reg.pur rfl rfl rfl rfl (Pur.bld (cs := [_, _]) pl37 zc37 rfl rfl ⟨rfl, rfl, rfl⟩) ?_
  refine Reg.pur rfl rfl rfl rfl (Pur.bld (cs := [_, _, _, _, _, _, _]) pl39 zc39 rfl rfl ⟨rfl, rfl, rfl, rfl, rfl, rfl, rfl, rfl⟩) ?_
  refine Reg.pur rfl rfl rfl rfl (Pur.mv rfl) ?_
  first | refine Reg.pur rfl rfl rfl rfl (Pur.add64 rfl rfl (by omega)) ?_ | refine Reg.pur rfl rfl rfl rfl (Pur.add64 rfl rfl (by assumption)) ?_ | refine Reg.pur rfl rfl rfl rfl (Pur.add rfl rfl) ?_
  refine Reg.pur rfl rfl rfl rfl (Pur.bld (cs := [_, _, _, _, _, _, _]) pl39 zc39 rfl rfl ⟨rfl, rfl, rfl, rfl, rfl, rfl, rfl, rfl⟩) ?_
  refine Reg.pur rfl rfl rfl rfl (Pur.mv rfl) ?_
  first | refine Reg.pur rfl rfl rfl rfl (Pur.add64 rfl rfl (by omega)) ?_ | refine Reg.pur rfl rfl rfl rfl (Pur.add64 rfl rfl (by assumption)) ?_ | refine Reg.pur rfl rfl rfl rfl (Pur.add rfl rfl) ?_
  refine Reg.pur rfl rfl rfl rfl (Pur.bld (cs := [_, _, _, _, _, _, _]) pl39 zc39 rfl rfl ⟨rfl, rfl, rfl, rfl, rfl, rfl, rfl, rfl⟩) ?_
  refine Reg.pur rfl rfl rfl rfl (Pur.mv rfl) ?_
  first | refine Reg.pur rfl rfl rfl rfl (Pur.add64 rfl rfl (by omega)) ?_ | refine Reg.pur rfl rfl rfl rfl (Pur.add64 rfl rfl (by assumption)) ?_ | refine Reg.pur rfl rfl rfl rfl (Pur.add rfl rfl) ?_
  refine Reg.pur rfl rfl rfl rfl (Pur.bld (cs := [_, _, _, _, _, _, _]) pl39 zc39 rfl rfl ⟨rfl, rfl, rfl, rfl, rfl, rfl, rfl, rfl⟩) ?_
  refine Reg.op rfl rfl rfl rfl (Does.bslA ([[_, _, _, _, _, _, _], [_, _, _, _, _, _, _], [_, _, _, _, _, _, _], [_, _, _, _, _, _, _], [_, _, _, _, _, _, _], [_, _, _, _, _, _, _], [_, _, _, _, _, _, _]]) slA50 rfl rfl rfl rfl rfl rfl) ?_
  rintro _ H4_24 ⟨rfl, hp4_24⟩
  have hn4_24 := New.of_eq hp4_24
  have z4_24 := hn4_24.size
  replace hE := hE.ext hn4_24.ext
  replace hT := hT.ext hn4_24.ext
  have o4_24 := hn4_24.own
  have o4_24 : Own H4_24 H1_0.size ((rowR a).flatMap encR) := o4_24
  refine Reg.pur rfl rfl rfl rfl (Pur.asg rfl) ?_
  refine Reg.nil ?_
  refine At.region rfl rfl ?_
  refine Reg.pur rfl rfl rfl rfl (Pur.asg rfl) ?_
  refine Reg.nil ?_
  refine At.region rfl rfl ?_
  refine Reg.pur rfl rfl rfl rfl (Pur.mv rfl) ?_
  refine Reg.pur rfl rfl rfl rfl (Pur.eql rfl rfl) ?_
  refine Reg.nil ?_
  refine At.joinc (σ := Unit) (fun _ => [(7, .string (sMin a)), (6, .slice (some ⟨H1_0.size, 0, none⟩) 7 7), (5, I a), (0, I w), (1, I y)]) (fun _ H' => H' = H4_24) rfl (fun hJ => ?_) (fun _ H7 hH => ?_)
  · refine At.cond rfl rfl (fun q42 => ?_) (fun q42 => ?_)
    · first | (simp only [decide_eq_true_eq, decide_eq_false_iff_not, Bool.not_eq_true', Bool.not_eq_false', ne_eq, Decidable.not_not, Bool.not_eq_true, Bool.not_eq_false] at q42) | (dsimp only at q42) | skip
      refine At.region rfl rfl ?_
      refine Reg.pur rfl rfl rfl rfl (Pur.asg rfl) ?_
      refine Reg.nil ?_
      exact At.meets rfl (hJ () _ rfl) ⟨by rw [show sMin a = ⟨#[]⟩ from if_pos q42]; rfl, rfl, rfl, rfl, rfl, trivial⟩
    first | (simp only [decide_eq_true_eq, decide_eq_false_iff_not, Bool.not_eq_true', Bool.not_eq_false', ne_eq, Decidable.not_not, Bool.not_eq_true, Bool.not_eq_false] at q42) | (dsimp only at q42) | skip
    exact At.meets rfl (hJ () _ rfl) ⟨by rw [show sMin a = ⟨#[45]⟩ from if_neg q42]; rfl, rfl, rfl, rfl, rfl, trivial⟩
  subst H7

  refine At.region rfl rfl ?_
  refine Reg.pur rfl rfl rfl rfl (Pur.mv rfl) ?_
  refine Reg.op rfl rfl rfl rfl (Does.call rfl (decimalI_ok a (by omega) (by omega) _)) ?_
  rintro _ H8_1 ⟨rfl, hE8_1⟩
  have z8_1 := hE8_1.lt
  replace hE := hE.ext hE8_1
  replace hT := hT.ext hE8_1
  replace o4_24 := o4_24.ext hE8_1
  refine Reg.pur rfl rfl rfl rfl (Pur.addS rfl rfl (sA (m := 10) (by decide) hnz (by decide))) ?_
  refine Reg.pur rfl rfl rfl rfl (Pur.addS rfl rfl (sA (m := 40) (n := 10) (by rw [ByteArray.size_append]; show 6 + _ ≤ 40; omega) (by decide) (by decide))) ?_
  refine Reg.pur rfl rfl rfl rfl (Pur.mv rfl) ?_
  refine Reg.pur rfl rfl rfl rfl (Pur.addS rfl rfl (sA (m := 50) (n := 10) (by rw [ByteArray.size_append, ByteArray.size_append]; show 6 + _ + 3 ≤ 50; omega) (by omega) (by decide))) ?_
  refine Reg.pur rfl rfl rfl rfl (Pur.mv rfl) ?_
  refine Reg.op rfl rfl rfl rfl (Does.call rfl (decimalI_ok a (by omega) (by omega) _)) ?_
  rintro _ H8_7 ⟨rfl, hE8_7⟩
  have z8_7 := hE8_7.lt
  replace hE := hE.ext hE8_7
  replace hT := hT.ext hE8_7
  replace o4_24 := o4_24.ext hE8_7
  refine Reg.pur rfl rfl rfl rfl (Pur.addS rfl rfl (sA (m := 60) (n := 20) (by rw [ByteArray.size_append, ByteArray.size_append, ByteArray.size_append]; show 6 + _ + 3 + _ ≤ 60; omega) hnz (by decide))) ?_
  refine Reg.pur rfl rfl rfl rfl (Pur.mv rfl) ?_
  first | refine Reg.pur rfl rfl rfl rfl (Pur.add64 rfl rfl (by omega)) ?_ | refine Reg.pur rfl rfl rfl rfl (Pur.add64 rfl rfl (by assumption)) ?_ | refine Reg.pur rfl rfl rfl rfl (Pur.add rfl rfl) ?_
  refine Reg.op rfl rfl rfl rfl (Does.call rfl (decimalI_ok (1 + a) (by omega) (by omega) _)) ?_
  rintro _ H8_11 ⟨rfl, hE8_11⟩
  have z8_11 := hE8_11.lt
  replace hE := hE.ext hE8_11
  replace hT := hT.ext hE8_11
  replace o4_24 := o4_24.ext hE8_11
  refine Reg.pur rfl rfl rfl rfl (Pur.addS rfl rfl (sA (m := 20) (by decide) hnz1 (by decide))) ?_
  refine Reg.pur rfl rfl rfl rfl (Pur.mv rfl) ?_
  first | refine Reg.pur rfl rfl rfl rfl (Pur.add64 rfl rfl (by omega)) ?_ | refine Reg.pur rfl rfl rfl rfl (Pur.add64 rfl rfl (by assumption)) ?_ | refine Reg.pur rfl rfl rfl rfl (Pur.add rfl rfl) ?_
  refine Reg.op rfl rfl rfl rfl (Does.call rfl (decimalI_ok (1 + a) (by omega) (by omega) _)) ?_
  rintro _ H8_15 ⟨rfl, hE8_15⟩
  have z8_15 := hE8_15.lt
  replace hE := hE.ext hE8_15
  replace hT := hT.ext hE8_15
  replace o4_24 := o4_24.ext hE8_15
  refine Reg.pur rfl rfl rfl rfl (Pur.addS rfl rfl (sA (m := 20) (by decide) hnz1 (by decide))) ?_
  refine Reg.pur rfl rfl rfl rfl (Pur.mv rfl) ?_
  first | refine Reg.pur rfl rfl rfl rfl (Pur.add64 rfl rfl (by omega)) ?_ | refine Reg.pur rfl rfl rfl rfl (Pur.add64 rfl rfl (by assumption)) ?_ | refine Reg.pur rfl rfl rfl rfl (Pur.add rfl rfl) ?_
  refine Reg.op rfl rfl rfl rfl (Does.call rfl (decimalI_ok (1 + a) (by omega) (by omega) _)) ?_
  rintro _ H8_19 ⟨rfl, hE8_19⟩
  have z8_19 := hE8_19.lt
  replace hE := hE.ext hE8_19
  replace hT := hT.ext hE8_19
  replace o4_24 := o4_24.ext hE8_19
  refine Reg.pur rfl rfl rfl rfl (Pur.addS rfl rfl (sA (m := 20) (by decide) hnz1 (by decide))) ?_
  refine Reg.op rfl rfl rfl rfl (Does.bsl1T sl1_54 Tryd.underlying54 rfl rfl rfl rfl rfl) ?_
  rintro _ H8_21 ⟨rfl, hp8_21⟩
  have hn8_21 := New.of_eq hp8_21
  have z8_21 := hn8_21.size
  replace hE := hE.ext hn8_21.ext
  replace hT := hT.ext hn8_21.ext
  replace o4_24 := o4_24.ext hn8_21.ext
  have o8_21 := hn8_21.own
  have o8_21 : Own H8_21 H8_19.size ((wantR a).map Value.string) := o8_21
  refine Reg.pur rfl rfl rfl rfl (Pur.asg rfl) ?_
  refine Reg.nil ?_
  refine At.region rfl rfl ?_
  refine Reg.pur rfl rfl rfl rfl (Pur.mv rfl) ?_
  refine Reg.pur rfl rfl rfl rfl (Pur.cnv Tryd.underlying3 Tryd.underlying51 rfl) ?_
  first | refine Reg.pur rfl rfl rfl rfl (Pur.rem rfl rfl (by omega)) ?_ | refine Reg.pur rfl rfl rfl rfl (Pur.rem rfl rfl (by decide)) ?_
  refine Reg.pur rfl rfl rfl rfl (Pur.cnv Tryd.underlying51 Tryd.underlying3 rfl) ?_
  refine Reg.pur rfl rfl rfl rfl (Pur.asg rfl) ?_
  refine Reg.nil ?_
  obtain ⟨r, hr, hri, hd⟩ := re_ld (L := rowR a) u0 u1
  obtain ⟨ww, hw1, hw2, hw3, hw4⟩ := row_want m0 m1 _ r hri
  refine At.region rfl rfl ?_
  refine Reg.pur rfl rfl rfl rfl (Pur.mv rfl) ?_
  refine Reg.pur rfl rfl rfl rfl (Pur.mv rfl) ?_
  refine Reg.pur rfl rfl rfl rfl (Pur.idx _ es50 rfl rfl (by omega) (by omega)) ?_
  refine Reg.lod rfl rfl rfl rfl (Lod.ldn ag39 rfl o4_24.blk hd rfl) ?_
  refine Reg.op rfl rfl rfl rfl (Does.call rfl (tell_ok abcd r.ty r.cd r.x r.k1 r.n1 r.k2 r.n2 (by decide) hw3 hw4 hT)) ?_
  rintro _ H10_4 ⟨rfl, hE10_4⟩
  have z10_4 := hE10_4.lt
  replace hE := hE.ext hE10_4
  replace hT := hT.ext hE10_4
  replace o4_24 := o4_24.ext hE10_4
  replace o8_21 := o8_21.ext hE10_4
  rw [hw2]
  refine Reg.pur rfl rfl rfl rfl (Pur.mv rfl) ?_
  refine Reg.pur rfl rfl rfl rfl (Pur.ext rfl rfl) ?_
  refine Reg.pur rfl rfl rfl rfl (Pur.ext rfl rfl) ?_
  refine Reg.pur rfl rfl rfl rfl (Pur.asg rfl) ?_
  refine Reg.pur rfl rfl rfl rfl (Pur.asg rfl) ?_
  refine Reg.nil ?_
  refine At.region rfl rfl ?_
  refine Reg.pur rfl rfl rfl rfl (Pur.mv rfl) ?_
  refine Reg.op rfl rfl rfl rfl (Does.call rfl (num_ok _ _ (show fitsI 0 by decide))) ?_
  rintro _ H10_4 ⟨rfl, rfl⟩
  refine Reg.pur rfl rfl rfl rfl (Pur.eql rfl rfl) ?_
  refine Reg.pur rfl rfl rfl rfl (Pur.mv rfl) ?_
  refine Reg.known (b' := true) 80 rfl (by first | rfl | simp) ?_
  refine Reg.gpur rfl rfl rfl rfl rfl rfl (Pur.mv rfl) ?_
  refine Reg.gpur rfl rfl rfl rfl rfl rfl (Pur.mv rfl) ?_
  refine Reg.gpur rfl rfl rfl rfl rfl rfl (Pur.mv rfl) ?_
  refine Reg.gpur rfl rfl rfl rfl rfl rfl (Pur.idx _ es54 rfl rfl (by omega) (by omega)) ?_
  refine Reg.glod rfl rfl rfl rfl rfl rfl (Lod.ld sc9 rfl o8_21.blk (show _ = some (Value.string ww) by rw [Nat.zero_add, Nat.mul_one, List.getElem?_map, hw1]; rfl)) ?_
  refine Reg.gpur rfl rfl rfl rfl rfl rfl (Pur.eqS rfl rfl) ?_
  refine Reg.pur rfl rfl rfl rfl (Pur.pickT rfl rfl) ?_
  refine Reg.pur rfl rfl rfl rfl (Pur.asg rfl) ?_
  refine Reg.nil ?_
  refine At.ret rfl Tryd.func8 rfl ?_
  exact ⟨by simp, hE⟩
theorem umodN (x : Int) (n : Nat) (h : n ≤ 140737488355328) : 0 ≤ IntKind.i64.wrap ((IntKind.u64.wrap x).tmod (IntKind.u64.wrap (n + 1))) ∧ IntKind.i64.wrap ((IntKind.u64.wrap x).tmod (IntKind.u64.wrap (n + 1))) ≤ n := by
  rw [IntWalk.u64_in ((n : Int) + 1) (by omega)]
  have := umod x (n + 1) (by omega) (by omega)
  omega
theorem placeRises_law (s : ByteArray) (x y : Int) (hs : s.size ≤ 140737488355328) {H : Heap} (hT : Tens H) :
    Ret Tryd.prog 9 [.string s, I x, I y] H (fun v H' => v = .bool true ∧ Ext H H') := by
  have hx := umodN x s.size hs
  have hy := umodN y s.size hs
  refine Ret.of_at (N := 91) Tryd.call9 Tryd.func9 rfl rfl rfl ?_
  have hE := Ext.refl H
  have z_hE := hE.lt
  have z_hT := hT.lt
  refine At.region rfl rfl ?_
  refine Reg.pur rfl rfl rfl rfl (Pur.asg rfl) ?_
  refine Reg.nil ?_
  refine At.region rfl rfl ?_
  refine Reg.op rfl rfl rfl rfl (Does.call rfl (awake24_ok hT)) ?_
  rintro _ H1_0 ⟨rfl, hE1_0⟩
  have z1_0 := hE1_0.lt
  replace hE := hE.ext hE1_0
  replace hT := hT.ext hE1_0
  refine Reg.pur rfl rfl rfl rfl (Pur.not rfl) ?_
  refine Reg.nil ?_
  refine At.condF rfl rfl rfl ?_
  refine At.drawE (Bks.nil) [] mixed rfl rfl ?_
  refine RegD.tpur (i := 0) rfl rfl rfl rfl (by kernel_rfl) (Pur.mv rfl) ?_
  refine RegD.tpur (i := 1) rfl rfl rfl rfl (by kernel_rfl) (Pur.cnv Tryd.underlying3 Tryd.underlying51 rfl) ?_
  refine RegD.tpur (i := 2) rfl rfl rfl rfl (by kernel_rfl) (Pur.mv rfl) ?_
  refine RegD.tpur (i := 3) rfl rfl rfl rfl (by kernel_rfl) (Pur.lenT rfl rfl) ?_
  first | refine RegD.tpur (i := 4) rfl rfl rfl rfl (by kernel_rfl) (Pur.add64 rfl rfl (by omega)) ?_ | refine RegD.tpur (i := 4) rfl rfl rfl rfl (by kernel_rfl) (Pur.add64 rfl rfl (by assumption)) ?_ | refine RegD.tpur (i := 4) rfl rfl rfl rfl (by kernel_rfl) (Pur.add rfl rfl) ?_
  refine RegD.tpur (i := 5) rfl rfl rfl rfl (by kernel_rfl) (Pur.cnv Tryd.underlying3 Tryd.underlying51 rfl) ?_
  refine RegD.tpur (i := 6) rfl rfl rfl rfl (by kernel_rfl) (Pur.rem rfl rfl (by rw [IntWalk.u64_in _ (by omega)]; omega)) ?_
  refine RegD.tpur (i := 7) rfl rfl rfl rfl (by kernel_rfl) (Pur.cnv Tryd.underlying51 Tryd.underlying3 rfl) ?_
  refine RegD.tpur (i := 8) rfl rfl rfl rfl (by kernel_rfl) (Pur.mv rfl) ?_
  refine RegD.tpur (i := 9) rfl rfl rfl rfl (by kernel_rfl) (Pur.cnv Tryd.underlying3 Tryd.underlying51 rfl) ?_
  refine RegD.tpur (i := 10) rfl rfl rfl rfl (by kernel_rfl) (Pur.mv rfl) ?_
  refine RegD.tpur (i := 11) rfl rfl rfl rfl (by kernel_rfl) (Pur.lenT rfl rfl) ?_
  first | refine RegD.tpur (i := 12) rfl rfl rfl rfl (by kernel_rfl) (Pur.add64 rfl rfl (by omega)) ?_ | refine RegD.tpur (i := 12) rfl rfl rfl rfl (by kernel_rfl) (Pur.add64 rfl rfl (by assumption)) ?_ | refine RegD.tpur (i := 12) rfl rfl rfl rfl (by kernel_rfl) (Pur.add rfl rfl) ?_
  refine RegD.tpur (i := 13) rfl rfl rfl rfl (by kernel_rfl) (Pur.cnv Tryd.underlying3 Tryd.underlying51 rfl) ?_
  refine RegD.tpur (i := 14) rfl rfl rfl rfl (by kernel_rfl) (Pur.rem rfl rfl (by rw [IntWalk.u64_in _ (by omega)]; omega)) ?_
  refine RegD.tpur (i := 15) rfl rfl rfl rfl (by kernel_rfl) (Pur.cnv Tryd.underlying51 Tryd.underlying3 rfl) ?_
  refine RegD.tpur (i := 16) rfl rfl rfl rfl (by kernel_rfl) (Pur.asg rfl) ?_
  refine RegD.tpur (i := 17) rfl rfl rfl rfl (by kernel_rfl) (Pur.asg rfl) ?_
  refine RegD.done (by kernel_rfl) ?_
  generalize IntKind.i64.wrap ((IntKind.u64.wrap x).tmod (IntKind.u64.wrap (s.size + 1))) = a at *
  generalize IntKind.i64.wrap ((IntKind.u64.wrap y).tmod (IntKind.u64.wrap (s.size + 1))) = b at *
  have ha := ln_yes (s := s) (x := min a b) (by omega)
  have hb := ln_yes (s := s) (x := max a b) (by omega)
  have pa := ln_pos s (min a b).toNat
  have pb := ln_pos s (max a b).toNat
  refine At.region rfl rfl ?_
  refine Reg.pur rfl rfl rfl rfl (Pur.mv rfl) ?_
  refine Reg.pur rfl rfl rfl rfl (Pur.mv rfl) ?_
  refine Reg.pur rfl rfl rfl rfl (Pur.mv rfl) ?_
  refine Reg.pur rfl rfl rfl rfl (Pur.min2 rfl rfl) ?_
  refine Reg.op rfl rfl rfl rfl (Does.call rfl (lineT_ok s hs _ _)) ?_
  rintro _ H1_0 ⟨rfl, rfl⟩
  rw [ha.1, ha.2.1, ha.2.2]
  refine Reg.pur rfl rfl rfl rfl (Pur.mv rfl) ?_
  refine Reg.pur rfl rfl rfl rfl (Pur.ext rfl rfl) ?_
  refine Reg.pur rfl rfl rfl rfl (Pur.ext rfl rfl) ?_
  refine Reg.pur rfl rfl rfl rfl (Pur.ext rfl rfl) ?_
  refine Reg.pur rfl rfl rfl rfl (Pur.asg rfl) ?_
  refine Reg.pur rfl rfl rfl rfl (Pur.asg rfl) ?_
  refine Reg.pur rfl rfl rfl rfl (Pur.asg rfl) ?_
  refine Reg.nil ?_
  refine At.region rfl rfl ?_
  refine Reg.pur rfl rfl rfl rfl (Pur.mv rfl) ?_
  refine Reg.pur rfl rfl rfl rfl (Pur.mv rfl) ?_
  refine Reg.pur rfl rfl rfl rfl (Pur.mv rfl) ?_
  refine Reg.pur rfl rfl rfl rfl (Pur.max2 rfl rfl) ?_
  refine Reg.op rfl rfl rfl rfl (Does.call rfl (lineT_ok s hs _ _)) ?_
  rintro _ H1_0 ⟨rfl, rfl⟩
  rw [hb.1, hb.2.1, hb.2.2]
  refine Reg.pur rfl rfl rfl rfl (Pur.mv rfl) ?_
  refine Reg.pur rfl rfl rfl rfl (Pur.ext rfl rfl) ?_
  refine Reg.pur rfl rfl rfl rfl (Pur.ext rfl rfl) ?_
  refine Reg.pur rfl rfl rfl rfl (Pur.ext rfl rfl) ?_
  refine Reg.pur rfl rfl rfl rfl (Pur.asg rfl) ?_
  refine Reg.pur rfl rfl rfl rfl (Pur.asg rfl) ?_
  refine Reg.pur rfl rfl rfl rfl (Pur.asg rfl) ?_
  refine Reg.nil ?_
  refine At.region rfl rfl ?_
  refine Reg.pur rfl rfl rfl rfl (Pur.mv rfl) ?_
  refine Reg.op rfl rfl rfl rfl (Does.call rfl (num_ok _ _ (show fitsI 0 by decide))) ?_
  rintro _ H1_0 ⟨rfl, rfl⟩
  refine Reg.pur rfl rfl rfl rfl (Pur.neq rfl rfl) ?_
  refine Reg.pur rfl rfl rfl rfl (Pur.mv rfl) ?_
  refine Reg.known (b' := false) 54 rfl rfl ?_
  refine Reg.gpur rfl rfl rfl rfl rfl rfl (Pur.mv rfl) ?_
  refine Reg.gop rfl rfl rfl rfl rfl rfl (Does.call rfl (num_ok _ _ (show fitsI 0 by decide))) ?_
  rintro _ H1_0 ⟨rfl, rfl⟩
  refine Reg.gpur rfl rfl rfl rfl rfl rfl (Pur.neq rfl rfl) ?_
  refine Reg.pur rfl rfl rfl rfl (Pur.pickF rfl rfl) ?_
  refine Reg.pur rfl rfl rfl rfl (Pur.mv rfl) ?_
  refine Reg.known (b' := false) 59 rfl rfl ?_
  refine Reg.gpur rfl rfl rfl rfl rfl rfl (Pur.mv rfl) ?_
  refine Reg.gpur rfl rfl rfl rfl rfl rfl (Pur.lss rfl rfl) ?_
  refine Reg.pur rfl rfl rfl rfl (Pur.pickF rfl rfl) ?_
  refine Reg.pur rfl rfl rfl rfl (Pur.mv rfl) ?_
  refine Reg.known (b' := false) 63 rfl (decide_eq_false (by omega)) ?_
  refine Reg.gpur rfl rfl rfl rfl rfl rfl (Pur.mv rfl) ?_
  refine Reg.gpur rfl rfl rfl rfl rfl rfl (Pur.lss rfl rfl) ?_
  refine Reg.pur rfl rfl rfl rfl (Pur.pickF rfl rfl) ?_
  refine Reg.nil ?_
  refine At.condF rfl rfl (decide_eq_false (by omega)) ?_
  refine At.region rfl rfl ?_
  refine Reg.pur rfl rfl rfl rfl (Pur.mv rfl) ?_
  refine Reg.pur rfl rfl rfl rfl (Pur.mv rfl) ?_
  refine Reg.pur rfl rfl rfl rfl (Pur.eql rfl rfl) ?_
  refine Reg.nil ?_
  refine At.cond rfl rfl (fun q69 => ?_) (fun q69 => ?_)
  · first | (simp only [decide_eq_true_eq, decide_eq_false_iff_not, Bool.not_eq_true', Bool.not_eq_false', ne_eq, Decidable.not_not, Bool.not_eq_true, Bool.not_eq_false] at q69) | (dsimp only at q69) | skip
    subst q69
    rw [show min a a = a by omega, show max a a = a by omega]
    refine At.region rfl rfl ?_
    refine Reg.pur rfl rfl rfl rfl (Pur.mv rfl) ?_
    refine Reg.pur rfl rfl rfl rfl (Pur.mv rfl) ?_
    refine Reg.pur rfl rfl rfl rfl (Pur.eql rfl rfl) ?_
    refine Reg.pur rfl rfl rfl rfl (Pur.mv rfl) ?_
    refine Reg.case 73 rfl (fun q73 => ?_) (fun q73 => ?_)
    · first | (simp only [decide_eq_true_eq, decide_eq_false_iff_not, Bool.not_eq_true', Bool.not_eq_false', ne_eq, Decidable.not_not, Bool.not_eq_true, Bool.not_eq_false] at q73) | (dsimp only at q73) | skip
      refine Reg.gpur rfl rfl rfl rfl rfl rfl (Pur.mv rfl) ?_
      refine Reg.gpur rfl rfl rfl rfl rfl rfl (Pur.mv rfl) ?_
      refine Reg.gpur rfl rfl rfl rfl rfl rfl (Pur.eql rfl rfl) ?_
      refine Reg.pur rfl rfl rfl rfl (Pur.pickT rfl rfl) ?_
      refine Reg.pur rfl rfl rfl rfl (Pur.asg rfl) ?_
      refine Reg.nil ?_
      refine At.ret rfl Tryd.func9 rfl ?_
      exact ⟨by first | (simp; done) | (exfalso; simp_all; done), hE⟩
    first | (simp only [decide_eq_true_eq, decide_eq_false_iff_not, Bool.not_eq_true', Bool.not_eq_false', ne_eq, Decidable.not_not, Bool.not_eq_true, Bool.not_eq_false] at q73) | (dsimp only at q73) | skip
    refine Reg.skip rfl rfl rfl rfl rfl rfl rfl ?_
    refine Reg.skip rfl rfl rfl rfl rfl rfl rfl ?_
    refine Reg.skip rfl rfl rfl rfl rfl rfl rfl ?_
    refine Reg.pur rfl rfl rfl rfl (Pur.pickF rfl rfl) ?_
    refine Reg.pur rfl rfl rfl rfl (Pur.asg rfl) ?_
    refine Reg.nil ?_
    refine At.ret rfl Tryd.func9 rfl ?_
    exact ⟨by first | (simp; done) | (exfalso; simp_all; done), hE⟩
  first | (simp only [decide_eq_true_eq, decide_eq_false_iff_not, Bool.not_eq_true', Bool.not_eq_false', ne_eq, Decidable.not_not, Bool.not_eq_true, Bool.not_eq_false] at q69) | (dsimp only at q69) | skip
  have hup := ln_up s (min a b).toNat (max a b).toNat (by omega)
  refine At.region rfl rfl ?_
  refine Reg.pur rfl rfl rfl rfl (Pur.mv rfl) ?_
  refine Reg.pur rfl rfl rfl rfl (Pur.mv rfl) ?_
  refine Reg.pur rfl rfl rfl rfl (Pur.lss rfl rfl) ?_
  refine Reg.pur rfl rfl rfl rfl (Pur.mv rfl) ?_
  refine Reg.case 81 rfl (fun q81 => ?_) (fun q81 => ?_)
  · first | (simp only [decide_eq_true_eq, decide_eq_false_iff_not, Bool.not_eq_true', Bool.not_eq_false', ne_eq, Decidable.not_not, Bool.not_eq_true, Bool.not_eq_false] at q81) | (dsimp only at q81) | skip
    refine Reg.skip rfl rfl rfl rfl rfl rfl rfl ?_
    refine Reg.skip rfl rfl rfl rfl rfl rfl rfl ?_
    refine Reg.skip rfl rfl rfl rfl rfl rfl rfl ?_
    refine Reg.skip rfl rfl rfl rfl rfl rfl rfl ?_
    refine Reg.skipU rfl rfl rfl rfl rfl rfl ?_
    refine Reg.skipU rfl rfl rfl rfl rfl rfl ?_
    refine Reg.skipU rfl rfl rfl rfl rfl rfl ?_
    refine Reg.skip rfl rfl rfl rfl rfl rfl rfl ?_
    refine Reg.pur rfl rfl rfl rfl (Pur.pickT rfl rfl) ?_
    refine Reg.pur rfl rfl rfl rfl (Pur.asg rfl) ?_
    refine Reg.nil ?_
    refine At.ret rfl Tryd.func9 rfl ?_
    exact ⟨by first | (simp; done) | (simp; omega) | (exfalso; omega) | (exfalso; simp_all; done), hE⟩
  first | (simp only [decide_eq_true_eq, decide_eq_false_iff_not, Bool.not_eq_true', Bool.not_eq_false', ne_eq, Decidable.not_not, Bool.not_eq_true, Bool.not_eq_false] at q81) | (dsimp only at q81) | skip
  refine Reg.gpur rfl rfl rfl rfl rfl rfl (Pur.mv rfl) ?_
  refine Reg.gpur rfl rfl rfl rfl rfl rfl (Pur.mv rfl) ?_
  refine Reg.gpur rfl rfl rfl rfl rfl rfl (Pur.eql rfl rfl) ?_
  refine Reg.gpur rfl rfl rfl rfl rfl rfl (Pur.mv rfl) ?_
  refine Reg.case 85 rfl (fun q85 => ?_) (fun q85 => ?_)
  · first | (simp only [decide_eq_true_eq, decide_eq_false_iff_not, Bool.not_eq_true', Bool.not_eq_false', ne_eq, Decidable.not_not, Bool.not_eq_true, Bool.not_eq_false] at q85) | (dsimp only at q85) | skip
    refine Reg.gpur rfl rfl rfl rfl rfl rfl (Pur.mv rfl) ?_
    refine Reg.gpur rfl rfl rfl rfl rfl rfl (Pur.mv rfl) ?_
    refine Reg.gpur rfl rfl rfl rfl rfl rfl (Pur.lss rfl rfl) ?_
    refine Reg.gpur rfl rfl rfl rfl rfl rfl (Pur.pickT rfl rfl) ?_
    refine Reg.pur rfl rfl rfl rfl (Pur.pickF rfl rfl) ?_
    refine Reg.pur rfl rfl rfl rfl (Pur.asg rfl) ?_
    refine Reg.nil ?_
    refine At.ret rfl Tryd.func9 rfl ?_
    exact ⟨by first | (simp; done) | (simp; omega) | (exfalso; omega) | (exfalso; simp_all; done), hE⟩
  first | (simp only [decide_eq_true_eq, decide_eq_false_iff_not, Bool.not_eq_true', Bool.not_eq_false', ne_eq, Decidable.not_not, Bool.not_eq_true, Bool.not_eq_false] at q85) | (dsimp only at q85) | skip
  refine Reg.skip rfl rfl rfl rfl rfl rfl rfl ?_
  refine Reg.skip rfl rfl rfl rfl rfl rfl rfl ?_
  refine Reg.skip rfl rfl rfl rfl rfl rfl rfl ?_
  refine Reg.gpur rfl rfl rfl rfl rfl rfl (Pur.pickF rfl rfl) ?_
  refine Reg.pur rfl rfl rfl rfl (Pur.pickF rfl rfl) ?_
  refine Reg.pur rfl rfl rfl rfl (Pur.asg rfl) ?_
  refine Reg.nil ?_
  refine At.ret rfl Tryd.func9 rfl ?_
  exact ⟨by first | (simp; done) | (simp; omega) | (exfalso; omega) | (exfalso; simp_all; done), hE⟩
end Go.Proofs.YtjhkmebmbopfoaaDoor
