/-
  What the laws of chapter 22 come to.
-/
import Derived.Test.YtkniihjfcagdbaaAgr
namespace Go.Proofs.Ytkniihjfcagdbaa
set_option linter.unusedSimpArgs false
set_option linter.unusedVariables false
open Go Go.Fx Go.Proofs
namespace FactsLaw22
theorem ag24 : ag Try.prog 24 = some 2 := by kernel_rfl
theorem es38 : esz Try.prog 38 = some 2 := by kernel_rfl
theorem pl24 : places Try.prog 24 = some [(0, 1), (1, 1)] := by kernel_rfl
theorem slA38 : slA Try.prog 38 = some (24, 2) := by kernel_rfl
theorem zc24 : zc Try.prog 24 = some [.int .i64 0, .int .i64 0] := by kernel_rfl
end FactsLaw22
open FactsLaw22

theorem wf64 {n : Int} (h : (Lit.int .i64 n).wf = true) : fitsI n := bounds_i64 h

theorem awake22_ok (H : Heap) : Ret Try.prog 23 [] H (fun v H' => v = .bool true ∧ Ext H H') := by
  refine Ret.of_at (N := 87) Try.call23 Try.func23 rfl rfl rfl ?_
  refine At.region rfl rfl ?_
  refine Reg.pur rfl rfl rfl rfl (Pur.asg rfl) ?_
  refine Reg.nil ?_
  refine At.region rfl rfl ?_
  refine Reg.op rfl rfl rfl rfl (Does.call rfl (fuel_ok _ (by decide) _)) ?_
  rintro _ _ ⟨rfl, rfl⟩
  refine Reg.pur rfl rfl rfl rfl (Pur.mv rfl) ?_
  refine Reg.pur rfl rfl rfl rfl (Pur.ext rfl rfl) ?_
  refine Reg.pur rfl rfl rfl rfl (Pur.ext rfl rfl) ?_
  refine Reg.pur rfl rfl rfl rfl (Pur.asg rfl) ?_
  refine Reg.pur rfl rfl rfl rfl (Pur.asg rfl) ?_
  refine Reg.nil ?_
  refine At.region rfl rfl ?_
  refine Reg.op rfl rfl rfl rfl (Does.call rfl (fuel_ok _ (by decide) _)) ?_
  rintro _ _ ⟨rfl, rfl⟩
  refine Reg.pur rfl rfl rfl rfl (Pur.mv rfl) ?_
  refine Reg.pur rfl rfl rfl rfl (Pur.ext rfl rfl) ?_
  refine Reg.pur rfl rfl rfl rfl (Pur.ext rfl rfl) ?_
  refine Reg.pur rfl rfl rfl rfl (Pur.asg rfl) ?_
  refine Reg.pur rfl rfl rfl rfl (Pur.asg rfl) ?_
  refine Reg.nil ?_
  refine At.region rfl rfl ?_
  refine Reg.pur rfl rfl rfl rfl (Pur.bld (cs := [_, _]) pl24 zc24 rfl rfl ⟨rfl, rfl, rfl⟩) ?_
  refine Reg.pur rfl rfl rfl rfl (Pur.bld (cs := [_, _]) pl24 zc24 rfl rfl ⟨rfl, rfl, rfl⟩) ?_
  refine Reg.op rfl rfl rfl rfl (Does.call rfl (same_ok _ _ _ _ _)) ?_
  rintro _ H1 ⟨rfl, hE1⟩
  refine Reg.pur rfl rfl rfl rfl (Pur.mv rfl) ?_
  refine Reg.pur rfl rfl rfl rfl (Pur.ext rfl rfl) ?_
  refine Reg.pur rfl rfl rfl rfl (Pur.ext rfl rfl) ?_
  refine Reg.pur rfl rfl rfl rfl (Pur.asg rfl) ?_
  refine Reg.pur rfl rfl rfl rfl (Pur.asg rfl) ?_
  refine Reg.nil ?_
  refine At.region rfl rfl ?_
  refine Reg.pur rfl rfl rfl rfl (Pur.bld (cs := [_, _]) pl24 zc24 rfl rfl ⟨rfl, rfl, rfl⟩) ?_
  refine Reg.pur rfl rfl rfl rfl (Pur.bld (cs := [_, _]) pl24 zc24 rfl rfl ⟨rfl, rfl, rfl⟩) ?_
  refine Reg.op rfl rfl rfl rfl (Does.call rfl (same_ok _ _ _ _ _)) ?_
  rintro _ H2 ⟨rfl, hE2⟩
  refine Reg.pur rfl rfl rfl rfl (Pur.mv rfl) ?_
  refine Reg.pur rfl rfl rfl rfl (Pur.ext rfl rfl) ?_
  refine Reg.pur rfl rfl rfl rfl (Pur.ext rfl rfl) ?_
  refine Reg.pur rfl rfl rfl rfl (Pur.asg rfl) ?_
  refine Reg.pur rfl rfl rfl rfl (Pur.asg rfl) ?_
  refine Reg.nil ?_
  refine At.region rfl rfl ?_
  refine Reg.pur rfl rfl rfl rfl (Pur.bld (cs := [_, _]) pl24 zc24 rfl rfl ⟨rfl, rfl, rfl⟩) ?_
  refine Reg.pur rfl rfl rfl rfl (Pur.bld (cs := [_, _]) pl24 zc24 rfl rfl ⟨rfl, rfl, rfl⟩) ?_
  refine Reg.op rfl rfl rfl rfl (Does.call rfl (same_ok _ _ _ _ _)) ?_
  rintro _ H3 ⟨rfl, hE3⟩
  refine Reg.pur rfl rfl rfl rfl (Pur.mv rfl) ?_
  refine Reg.pur rfl rfl rfl rfl (Pur.ext rfl rfl) ?_
  refine Reg.pur rfl rfl rfl rfl (Pur.ext rfl rfl) ?_
  refine Reg.pur rfl rfl rfl rfl (Pur.asg rfl) ?_
  refine Reg.pur rfl rfl rfl rfl (Pur.asg rfl) ?_
  refine Reg.nil ?_
  refine At.region rfl rfl ?_
  refine Reg.pur rfl rfl rfl rfl (Pur.bld (cs := [_, _]) pl24 zc24 rfl rfl ⟨rfl, rfl, rfl⟩) ?_
  refine Reg.pur rfl rfl rfl rfl (Pur.bld (cs := [_, _]) pl24 zc24 rfl rfl ⟨rfl, rfl, rfl⟩) ?_
  refine Reg.op rfl rfl rfl rfl (Does.call rfl (same_ok _ _ _ _ _)) ?_
  rintro _ H4 ⟨rfl, hE4⟩
  refine Reg.pur rfl rfl rfl rfl (Pur.mv rfl) ?_
  refine Reg.pur rfl rfl rfl rfl (Pur.ext rfl rfl) ?_
  refine Reg.pur rfl rfl rfl rfl (Pur.ext rfl rfl) ?_
  refine Reg.pur rfl rfl rfl rfl (Pur.asg rfl) ?_
  refine Reg.pur rfl rfl rfl rfl (Pur.asg rfl) ?_
  refine Reg.nil ?_
  refine At.region rfl rfl ?_
  refine Reg.pur rfl rfl rfl rfl (Pur.mv rfl) ?_
  refine Reg.pur rfl rfl rfl rfl (Pur.eql rfl rfl) ?_
  refine Reg.pur rfl rfl rfl rfl (Pur.mv rfl) ?_
  refine Reg.known (b' := true) 47 rfl (by decide) ?_
  refine Reg.gpur rfl rfl rfl rfl rfl rfl (Pur.mv rfl) ?_
  refine Reg.gop rfl rfl rfl rfl rfl rfl (Does.call rfl (num_ok _ _ (by decide))) ?_
  rintro _ _ ⟨rfl, rfl⟩
  refine Reg.gpur rfl rfl rfl rfl rfl rfl (Pur.eql rfl rfl) ?_
  refine Reg.pur rfl rfl rfl rfl (Pur.pickT rfl rfl) ?_
  refine Reg.pur rfl rfl rfl rfl (Pur.mv rfl) ?_
  refine Reg.known (b' := true) 52 rfl (by decide) ?_
  refine Reg.gpur rfl rfl rfl rfl rfl rfl (Pur.mv rfl) ?_
  refine Reg.gop rfl rfl rfl rfl rfl rfl (Does.call rfl (num_ok _ _ (by decide))) ?_
  rintro _ _ ⟨rfl, rfl⟩
  refine Reg.gpur rfl rfl rfl rfl rfl rfl (Pur.eql rfl rfl) ?_
  refine Reg.pur rfl rfl rfl rfl (Pur.pickT rfl rfl) ?_
  refine Reg.pur rfl rfl rfl rfl (Pur.mv rfl) ?_
  refine Reg.known (b' := true) 57 rfl (by decide) ?_
  refine Reg.gpur rfl rfl rfl rfl rfl rfl (Pur.mv rfl) ?_
  refine Reg.pur rfl rfl rfl rfl (Pur.pickT rfl rfl) ?_
  refine Reg.pur rfl rfl rfl rfl (Pur.mv rfl) ?_
  refine Reg.known (b' := true) 60 rfl (by decide) ?_
  refine Reg.gpur rfl rfl rfl rfl rfl rfl (Pur.mv rfl) ?_
  refine Reg.gop rfl rfl rfl rfl rfl rfl (Does.call rfl (num_ok _ _ (by decide))) ?_
  rintro _ _ ⟨rfl, rfl⟩
  refine Reg.gpur rfl rfl rfl rfl rfl rfl (Pur.eql rfl rfl) ?_
  refine Reg.pur rfl rfl rfl rfl (Pur.pickT rfl rfl) ?_
  refine Reg.pur rfl rfl rfl rfl (Pur.mv rfl) ?_
  refine Reg.known (b' := true) 65 rfl (by decide) ?_
  refine Reg.gpur rfl rfl rfl rfl rfl rfl (Pur.mv rfl) ?_
  refine Reg.pur rfl rfl rfl rfl (Pur.pickT rfl rfl) ?_
  refine Reg.pur rfl rfl rfl rfl (Pur.mv rfl) ?_
  refine Reg.known (b' := true) 68 rfl (by decide) ?_
  refine Reg.gpur rfl rfl rfl rfl rfl rfl (Pur.mv rfl) ?_
  refine Reg.gop rfl rfl rfl rfl rfl rfl (Does.call rfl (num_ok _ _ (by decide))) ?_
  rintro _ _ ⟨rfl, rfl⟩
  refine Reg.gpur rfl rfl rfl rfl rfl rfl (Pur.eql rfl rfl) ?_
  refine Reg.pur rfl rfl rfl rfl (Pur.pickT rfl rfl) ?_
  refine Reg.pur rfl rfl rfl rfl (Pur.mv rfl) ?_
  refine Reg.known (b' := true) 73 rfl (by decide) ?_
  refine Reg.gpur rfl rfl rfl rfl rfl rfl (Pur.mv rfl) ?_
  refine Reg.gpur rfl rfl rfl rfl rfl rfl (Pur.not rfl) ?_
  refine Reg.pur rfl rfl rfl rfl (Pur.pickT rfl rfl) ?_
  refine Reg.pur rfl rfl rfl rfl (Pur.mv rfl) ?_
  refine Reg.known (b' := true) 77 rfl (by decide) ?_
  refine Reg.gpur rfl rfl rfl rfl rfl rfl (Pur.mv rfl) ?_
  refine Reg.gop rfl rfl rfl rfl rfl rfl (Does.call rfl (num_ok _ _ (by decide))) ?_
  rintro _ _ ⟨rfl, rfl⟩
  refine Reg.gpur rfl rfl rfl rfl rfl rfl (Pur.eql rfl rfl) ?_
  refine Reg.pur rfl rfl rfl rfl (Pur.pickT rfl rfl) ?_
  refine Reg.pur rfl rfl rfl rfl (Pur.mv rfl) ?_
  refine Reg.known (b' := true) 82 rfl (by decide) ?_
  refine Reg.gpur rfl rfl rfl rfl rfl rfl (Pur.mv rfl) ?_
  refine Reg.gop rfl rfl rfl rfl rfl rfl (Does.call rfl (num_ok _ _ (by decide))) ?_
  rintro _ _ ⟨rfl, rfl⟩
  refine Reg.gpur rfl rfl rfl rfl rfl rfl (Pur.eql rfl rfl) ?_
  refine Reg.pur rfl rfl rfl rfl (Pur.pickT rfl rfl) ?_
  refine Reg.pur rfl rfl rfl rfl (Pur.asg rfl) ?_
  refine Reg.nil ?_
  refine At.ret rfl Try.func23 rfl ?_
  exact ⟨rfl, by repeat (first | exact Ext.refl _ | refine Ext.trans ?_ (by assumption))⟩

theorem fuelE_fits (s : Int) : fitsI (fuelE s) := by unfold fuelE fitsI; split <;> omega
theorem sameE_fits (k n k' n' : Int) : fitsI (sameE k n k' n') := by unfold sameE fitsI; split <;> omega

theorem agrees_law (s k n k' n' : Int) (hs : fitsI s) (H : Heap) : Ret Try.prog 4 [I s, .agg (Is [k, n]).toArray, .agg (Is [k', n']).toArray] H (fun v H' => v = .bool true ∧ Ext H H') := by
  refine Ret.of_at (N := 60) Try.call4 Try.func4 rfl rfl rfl ?_
  refine At.region rfl rfl ?_
  refine Reg.op rfl rfl rfl rfl (Does.box rfl rfl) ?_
  rintro _ H01 ⟨rfl, hn1⟩
  refine Reg.op rfl rfl rfl rfl (Does.box rfl rfl) ?_
  rintro _ H02 ⟨rfl, hn2⟩
  refine Reg.pur rfl rfl rfl rfl (Pur.asg rfl) ?_
  refine Reg.nil ?_
  have hB := (hn1.own.ext hn2.ext).blk
  have hC := hn2.own.blk
  have hE := hn1.ext.trans hn2.ext
  refine At.region rfl rfl ?_
  refine Reg.pur rfl rfl rfl rfl (Pur.mv rfl) ?_
  refine Reg.op rfl rfl rfl rfl (Does.call rfl (fuel_ok s hs _)) ?_
  rintro _ _ ⟨rfl, rfl⟩
  refine Reg.pur rfl rfl rfl rfl (Pur.mv rfl) ?_
  refine Reg.pur rfl rfl rfl rfl (Pur.ext rfl rfl) ?_
  refine Reg.pur rfl rfl rfl rfl (Pur.ext rfl rfl) ?_
  refine Reg.pur rfl rfl rfl rfl (Pur.asg rfl) ?_
  refine Reg.pur rfl rfl rfl rfl (Pur.asg rfl) ?_
  refine Reg.nil ?_
  refine At.region rfl rfl ?_
  refine Reg.pur rfl rfl rfl rfl (Pur.mv rfl) ?_
  refine Reg.op rfl rfl rfl rfl (Does.call rfl (fuelR_ok s hs _)) ?_
  rintro _ _ ⟨rfl, rfl⟩
  refine Reg.pur rfl rfl rfl rfl (Pur.mv rfl) ?_
  refine Reg.pur rfl rfl rfl rfl (Pur.ext rfl rfl) ?_
  refine Reg.pur rfl rfl rfl rfl (Pur.ext rfl rfl) ?_
  refine Reg.pur rfl rfl rfl rfl (Pur.asg rfl) ?_
  refine Reg.pur rfl rfl rfl rfl (Pur.asg rfl) ?_
  refine Reg.nil ?_
  refine At.region rfl rfl ?_
  refine Reg.lod rfl rfl rfl rfl (Lod.ldn ag24 rfl hB (by simp only [List.drop_succ_cons, List.drop_zero, List.take_succ_cons, List.take_zero]; rfl) rfl) ?_
  refine Reg.lod rfl rfl rfl rfl (Lod.ldn ag24 rfl hC (by simp only [List.drop_succ_cons, List.drop_zero, List.take_succ_cons, List.take_zero]; rfl) rfl) ?_
  refine Reg.op rfl rfl rfl rfl (Does.call rfl (same_ok k n k' n' _)) ?_
  rintro _ H1 ⟨rfl, hE1⟩
  refine Reg.pur rfl rfl rfl rfl (Pur.mv rfl) ?_
  refine Reg.pur rfl rfl rfl rfl (Pur.ext rfl rfl) ?_
  refine Reg.pur rfl rfl rfl rfl (Pur.ext rfl rfl) ?_
  refine Reg.pur rfl rfl rfl rfl (Pur.asg rfl) ?_
  refine Reg.pur rfl rfl rfl rfl (Pur.asg rfl) ?_
  refine Reg.nil ?_
  replace hB := hB.ext hE1
  replace hC := hC.ext hE1
  refine At.region rfl rfl ?_
  refine Reg.lod rfl rfl rfl rfl (Lod.ldn ag24 rfl hB (by simp only [List.drop_succ_cons, List.drop_zero, List.take_succ_cons, List.take_zero]; rfl) rfl) ?_
  refine Reg.lod rfl rfl rfl rfl (Lod.ldn ag24 rfl hC (by simp only [List.drop_succ_cons, List.drop_zero, List.take_succ_cons, List.take_zero]; rfl) rfl) ?_
  refine Reg.op rfl rfl rfl rfl (Does.call rfl (sameR_ok k n k' n' _)) ?_
  rintro _ H2 ⟨rfl, hE2⟩
  refine Reg.pur rfl rfl rfl rfl (Pur.mv rfl) ?_
  refine Reg.pur rfl rfl rfl rfl (Pur.ext rfl rfl) ?_
  refine Reg.pur rfl rfl rfl rfl (Pur.ext rfl rfl) ?_
  refine Reg.pur rfl rfl rfl rfl (Pur.asg rfl) ?_
  refine Reg.pur rfl rfl rfl rfl (Pur.asg rfl) ?_
  refine Reg.nil ?_
  refine At.region rfl rfl ?_
  refine Reg.pur rfl rfl rfl rfl (Pur.mv rfl) ?_
  refine Reg.pur rfl rfl rfl rfl (Pur.mv rfl) ?_
  refine Reg.pur rfl rfl rfl rfl (Pur.eql rfl rfl) ?_
  refine Reg.pur rfl rfl rfl rfl (Pur.mv rfl) ?_
  refine Reg.known (b' := true) 40 rfl (by simp) ?_
  refine Reg.gpur rfl rfl rfl rfl rfl rfl (Pur.mv rfl) ?_
  refine Reg.gop rfl rfl rfl rfl rfl rfl (Does.call rfl (num_ok _ _ (by first | exact fuelE_fits _ | exact sameE_fits _ _ _ _))) ?_
  rintro _ _ ⟨rfl, rfl⟩
  refine Reg.gpur rfl rfl rfl rfl rfl rfl (Pur.mv rfl) ?_
  refine Reg.gpur rfl rfl rfl rfl rfl rfl (Pur.eql rfl rfl) ?_
  refine Reg.pur rfl rfl rfl rfl (Pur.pickT rfl rfl) ?_
  refine Reg.pur rfl rfl rfl rfl (Pur.mv rfl) ?_
  refine Reg.known (b' := true) 46 rfl (by simp) ?_
  refine Reg.gpur rfl rfl rfl rfl rfl rfl (Pur.mv rfl) ?_
  refine Reg.gpur rfl rfl rfl rfl rfl rfl (Pur.mv rfl) ?_
  refine Reg.gpur rfl rfl rfl rfl rfl rfl (Pur.eqB Try.underlying4 rfl rfl) ?_
  refine Reg.pur rfl rfl rfl rfl (Pur.pickT rfl rfl) ?_
  refine Reg.pur rfl rfl rfl rfl (Pur.mv rfl) ?_
  refine Reg.known (b' := true) 51 rfl (by simp) ?_
  refine Reg.gpur rfl rfl rfl rfl rfl rfl (Pur.mv rfl) ?_
  refine Reg.gop rfl rfl rfl rfl rfl rfl (Does.call rfl (num_ok _ _ (by first | exact fuelE_fits _ | exact sameE_fits _ _ _ _))) ?_
  rintro _ _ ⟨rfl, rfl⟩
  refine Reg.gpur rfl rfl rfl rfl rfl rfl (Pur.mv rfl) ?_
  refine Reg.gpur rfl rfl rfl rfl rfl rfl (Pur.eql rfl rfl) ?_
  refine Reg.pur rfl rfl rfl rfl (Pur.pickT rfl rfl) ?_
  refine Reg.pur rfl rfl rfl rfl (Pur.mv rfl) ?_
  refine Reg.known (b' := true) 57 rfl (by simp) ?_
  refine Reg.gop rfl rfl rfl rfl rfl rfl (Does.call rfl (awake22_ok _)) ?_
  rintro _ H3 ⟨rfl, hE3⟩
  refine Reg.pur rfl rfl rfl rfl (Pur.pickT rfl rfl) ?_
  refine Reg.pur rfl rfl rfl rfl (Pur.asg rfl) ?_
  refine Reg.nil ?_
  refine At.ret rfl Try.func4 rfl ?_
  exact ⟨rfl, by repeat (first | exact Ext.refl _ | refine Ext.trans ?_ (by assumption))⟩
theorem sameO_comm (k n k' n' : Int) : sameO k n k' n' = sameO k' n' k n := by
  unfold sameO
  rw [Bool.and_comm]
  split
  · exact decide_eq_decide.2 (by omega)
  · rfl
theorem sameE_comm (k n k' n' : Int) : sameE k n k' n' = sameE k' n' k n := by unfold sameE; rw [Bool.and_comm]
theorem same_self (k n : Int) : sameO k n k n = true ∨ sameE k n k n = 2200 := by
  unfold sameO sameE
  cases mayO k n <;> simp
theorem rem30 (s : Int) : 0 ≤ IntKind.i64.wrap ((IntKind.u64.wrap s).tmod 30) ∧ IntKind.i64.wrap ((IntKind.u64.wrap s).tmod 30) ≤ 29 := by
  have h0 : 0 ≤ IntKind.u64.wrap s := by simp [IntKind.wrap, IntKind.signed, IntKind.bits]; omega
  have h1 : 0 ≤ (IntKind.u64.wrap s).tmod 30 := Int.tmod_nonneg _ h0
  have h2 : (IntKind.u64.wrap s).tmod 30 < 30 := Int.tmod_lt_of_pos _ (by omega)
  rw [wrap_in ⟨by omega, by omega⟩]
  omega
theorem fuel_up {k : Int} (h : 0 ≤ k ∧ k ≤ 29) : fuelA k < fuelA (k + 1) ∧ fuelA (k + 1) ≤ 1048576 ∧ fuelE k = 0 ∧ fuelE (k + 1) = 0 := by
  obtain ⟨n, rfl⟩ : ∃ n : Nat, k = n := ⟨k.toNat, by omega⟩
  have hn : n < 30 := by omega
  have : ∀ n : Fin 30, fuelA (n.val : Int) < fuelA ((n.val : Int) + 1) ∧ fuelA ((n.val : Int) + 1) ≤ 1048576 ∧ fuelE (n.val : Int) = 0 ∧ fuelE ((n.val : Int) + 1) = 0 := by decide +kernel
  exact this ⟨n, hn⟩

theorem agreeBoth_law (k n k' n' s : Int) (H : Heap) : Ret Try.prog 5 [.agg (Is [k, n]).toArray, .agg (Is [k', n']).toArray, I s] H (fun v H' => v = .bool true ∧ Ext H H') := by
  obtain ⟨r0, r1⟩ := rem30 s
  obtain ⟨g1, g2, g3, g4⟩ := fuel_up ⟨r0, r1⟩
  have q1 := sameO_comm k n k' n'
  have q2 := sameE_comm k n k' n'
  have q3 : sameO k n k n = false → sameE k n k n = 2200 := fun h => (same_self k n).resolve_left (by rw [h]; decide)
  refine Ret.of_at (N := 90) Try.call5 Try.func5 rfl rfl rfl ?_
  refine At.region rfl rfl ?_
  refine Reg.op rfl rfl rfl rfl (Does.box rfl rfl) ?_
  rintro _ H01 ⟨rfl, hn1⟩
  refine Reg.op rfl rfl rfl rfl (Does.box rfl rfl) ?_
  rintro _ H02 ⟨rfl, hn2⟩
  refine Reg.pur rfl rfl rfl rfl (Pur.asg rfl) ?_
  refine Reg.nil ?_
  have hB := (hn1.own.ext hn2.ext).blk
  have hC := hn2.own.blk
  have hE := hn1.ext.trans hn2.ext
  refine At.region rfl rfl ?_
  refine Reg.op rfl rfl rfl rfl (Does.call rfl (awake22_ok _)) ?_
  rintro _ H1 ⟨rfl, hE1⟩
  refine Reg.pur rfl rfl rfl rfl (Pur.not rfl) ?_
  refine Reg.nil ?_
  refine At.condF rfl rfl rfl ?_
  refine At.region rfl rfl ?_
  refine Reg.lod rfl rfl rfl rfl (Lod.ldn ag24 rfl (hB.ext hE1) (by simp only [List.drop_succ_cons, List.drop_zero, List.take_succ_cons, List.take_zero]; rfl) rfl) ?_
  refine Reg.lod rfl rfl rfl rfl (Lod.ldn ag24 rfl (hC.ext hE1) (by simp only [List.drop_succ_cons, List.drop_zero, List.take_succ_cons, List.take_zero]; rfl) rfl) ?_
  refine Reg.op rfl rfl rfl rfl (Does.call rfl (same_ok _ _ _ _ _)) ?_
  rintro _ H2 ⟨rfl, hE2⟩
  refine Reg.pur rfl rfl rfl rfl (Pur.mv rfl) ?_
  refine Reg.pur rfl rfl rfl rfl (Pur.ext rfl rfl) ?_
  refine Reg.pur rfl rfl rfl rfl (Pur.ext rfl rfl) ?_
  refine Reg.pur rfl rfl rfl rfl (Pur.asg rfl) ?_
  refine Reg.pur rfl rfl rfl rfl (Pur.asg rfl) ?_
  refine Reg.nil ?_
  refine At.region rfl rfl ?_
  refine Reg.lod rfl rfl rfl rfl (Lod.ldn ag24 rfl ((hC.ext hE1).ext hE2) (by simp only [List.drop_succ_cons, List.drop_zero, List.take_succ_cons, List.take_zero]; rfl) rfl) ?_
  refine Reg.lod rfl rfl rfl rfl (Lod.ldn ag24 rfl ((hB.ext hE1).ext hE2) (by simp only [List.drop_succ_cons, List.drop_zero, List.take_succ_cons, List.take_zero]; rfl) rfl) ?_
  refine Reg.op rfl rfl rfl rfl (Does.call rfl (same_ok _ _ _ _ _)) ?_
  rintro _ H3 ⟨rfl, hE3⟩
  refine Reg.pur rfl rfl rfl rfl (Pur.mv rfl) ?_
  refine Reg.pur rfl rfl rfl rfl (Pur.ext rfl rfl) ?_
  refine Reg.pur rfl rfl rfl rfl (Pur.ext rfl rfl) ?_
  refine Reg.pur rfl rfl rfl rfl (Pur.asg rfl) ?_
  refine Reg.pur rfl rfl rfl rfl (Pur.asg rfl) ?_
  refine Reg.nil ?_
  refine At.region rfl rfl ?_
  refine Reg.lod rfl rfl rfl rfl (Lod.ldn ag24 rfl (((hB.ext hE1).ext hE2).ext hE3) (by simp only [List.drop_succ_cons, List.drop_zero, List.take_succ_cons, List.take_zero]; rfl) rfl) ?_
  refine Reg.lod rfl rfl rfl rfl (Lod.ldn ag24 rfl (((hB.ext hE1).ext hE2).ext hE3) (by simp only [List.drop_succ_cons, List.drop_zero, List.take_succ_cons, List.take_zero]; rfl) rfl) ?_
  refine Reg.op rfl rfl rfl rfl (Does.call rfl (same_ok _ _ _ _ _)) ?_
  rintro _ H4 ⟨rfl, hE4⟩
  refine Reg.pur rfl rfl rfl rfl (Pur.mv rfl) ?_
  refine Reg.pur rfl rfl rfl rfl (Pur.ext rfl rfl) ?_
  refine Reg.pur rfl rfl rfl rfl (Pur.ext rfl rfl) ?_
  refine Reg.pur rfl rfl rfl rfl (Pur.asg rfl) ?_
  refine Reg.pur rfl rfl rfl rfl (Pur.asg rfl) ?_
  refine Reg.nil ?_
  refine At.region rfl rfl ?_
  refine Reg.pur rfl rfl rfl rfl (Pur.mv rfl) ?_
  refine Reg.pur rfl rfl rfl rfl (Pur.cnv Try.underlying3 Try.underlying36 rfl) ?_
  first | refine Reg.pur rfl rfl rfl rfl (Pur.rem rfl rfl (by omega)) ?_ | refine Reg.pur rfl rfl rfl rfl (Pur.rem rfl rfl (by decide)) ?_
  refine Reg.pur rfl rfl rfl rfl (Pur.cnv Try.underlying36 Try.underlying3 rfl) ?_
  refine Reg.pur rfl rfl rfl rfl (Pur.asg rfl) ?_
  refine Reg.nil ?_
  refine At.region rfl rfl ?_
  refine Reg.pur rfl rfl rfl rfl (Pur.mv rfl) ?_
  refine Reg.op rfl rfl rfl rfl (Does.call rfl (fuel_ok _ ⟨by omega, by omega⟩ _)) ?_
  rintro _ _ ⟨rfl, rfl⟩
  refine Reg.pur rfl rfl rfl rfl (Pur.mv rfl) ?_
  refine Reg.pur rfl rfl rfl rfl (Pur.ext rfl rfl) ?_
  refine Reg.pur rfl rfl rfl rfl (Pur.ext rfl rfl) ?_
  refine Reg.pur rfl rfl rfl rfl (Pur.asg rfl) ?_
  refine Reg.pur rfl rfl rfl rfl (Pur.asg rfl) ?_
  refine Reg.nil ?_
  refine At.region rfl rfl ?_
  refine Reg.pur rfl rfl rfl rfl (Pur.mv rfl) ?_
  first | refine Reg.pur rfl rfl rfl rfl (Pur.add64 rfl rfl (by omega)) ?_ | refine Reg.pur rfl rfl rfl rfl (Pur.add64 rfl rfl (by assumption)) ?_ | refine Reg.pur rfl rfl rfl rfl (Pur.add rfl rfl) ?_
  refine Reg.op rfl rfl rfl rfl (Does.call rfl (fuel_ok _ ⟨by omega, by omega⟩ _)) ?_
  rintro _ _ ⟨rfl, rfl⟩
  refine Reg.pur rfl rfl rfl rfl (Pur.mv rfl) ?_
  refine Reg.pur rfl rfl rfl rfl (Pur.ext rfl rfl) ?_
  refine Reg.pur rfl rfl rfl rfl (Pur.ext rfl rfl) ?_
  refine Reg.pur rfl rfl rfl rfl (Pur.asg rfl) ?_
  refine Reg.pur rfl rfl rfl rfl (Pur.asg rfl) ?_
  refine Reg.nil ?_
  refine At.region rfl rfl ?_
  refine Reg.pur rfl rfl rfl rfl (Pur.mv rfl) ?_
  refine Reg.pur rfl rfl rfl rfl (Pur.mv rfl) ?_
  refine Reg.pur rfl rfl rfl rfl (Pur.eqB Try.underlying4 rfl rfl) ?_
  refine Reg.pur rfl rfl rfl rfl (Pur.mv rfl) ?_
  refine Reg.known (b' := true) 56 rfl (by first | (simp; done) | (simp [q1, q2, g1, g2, g3, g4]; done) | (simp_all; done)) ?_
  refine Reg.gpur rfl rfl rfl rfl rfl rfl (Pur.mv rfl) ?_
  refine Reg.gop rfl rfl rfl rfl rfl rfl (Does.call rfl (num_ok _ _ (by first | exact fuelE_fits _ | exact sameE_fits _ _ _ _))) ?_
  rintro _ _ ⟨rfl, rfl⟩
  refine Reg.gpur rfl rfl rfl rfl rfl rfl (Pur.mv rfl) ?_
  refine Reg.gop rfl rfl rfl rfl rfl rfl (Does.call rfl (num_ok _ _ (by first | exact fuelE_fits _ | exact sameE_fits _ _ _ _))) ?_
  rintro _ _ ⟨rfl, rfl⟩
  refine Reg.gpur rfl rfl rfl rfl rfl rfl (Pur.eql rfl rfl) ?_
  refine Reg.pur rfl rfl rfl rfl (Pur.pickT rfl rfl) ?_
  refine Reg.pur rfl rfl rfl rfl (Pur.mv rfl) ?_
  refine Reg.known (b' := true) 63 rfl (by first | (simp; done) | (simp [q1, q2, g1, g2, g3, g4]; done) | (simp_all; done)) ?_
  refine Reg.gpur rfl rfl rfl rfl rfl rfl (Pur.mv rfl) ?_
  refine Reg.gpur rfl rfl rfl rfl rfl rfl (Pur.mv rfl) ?_
  refine Reg.case 65 rfl (fun hc1 => ?_) (fun hc1 => ?_)
  · refine Reg.skip rfl rfl rfl rfl rfl rfl rfl ?_
    refine Reg.skip rfl rfl rfl rfl rfl rfl rfl ?_
    refine Reg.skip rfl rfl rfl rfl rfl rfl rfl ?_
    refine Reg.gpur rfl rfl rfl rfl rfl rfl (Pur.pickT rfl rfl) ?_
    refine Reg.pur rfl rfl rfl rfl (Pur.pickT rfl rfl) ?_
    refine Reg.pur rfl rfl rfl rfl (Pur.mv rfl) ?_
    refine Reg.gpur rfl rfl rfl rfl rfl rfl (Pur.mv rfl) ?_
    refine Reg.gop rfl rfl rfl rfl rfl rfl (Does.call rfl (num_ok _ _ (by first | exact fuelE_fits _ | exact sameE_fits _ _ _ _))) ?_
    rintro _ _ ⟨rfl, rfl⟩
    refine Reg.gpur rfl rfl rfl rfl rfl rfl (Pur.eql rfl rfl) ?_
    refine Reg.pur rfl rfl rfl rfl (Pur.pickT rfl rfl) ?_
    refine Reg.pur rfl rfl rfl rfl (Pur.mv rfl) ?_
    refine Reg.known (b' := true) 76 rfl (by first | (simp; done) | (simp [q1, q2, g1, g2, g3, g4]; done) | (simp_all; done)) ?_
    refine Reg.gpur rfl rfl rfl rfl rfl rfl (Pur.mv rfl) ?_
    refine Reg.gop rfl rfl rfl rfl rfl rfl (Does.call rfl (num_ok _ _ (by first | exact fuelE_fits _ | exact sameE_fits _ _ _ _))) ?_
    rintro _ _ ⟨rfl, rfl⟩
    refine Reg.gpur rfl rfl rfl rfl rfl rfl (Pur.eql rfl rfl) ?_
    refine Reg.pur rfl rfl rfl rfl (Pur.pickT rfl rfl) ?_
    refine Reg.pur rfl rfl rfl rfl (Pur.mv rfl) ?_
    refine Reg.known (b' := true) 81 rfl (by first | (simp; done) | (simp [q1, q2, g1, g2, g3, g4]; done) | (simp_all; done)) ?_
    refine Reg.gpur rfl rfl rfl rfl rfl rfl (Pur.mv rfl) ?_
    refine Reg.gpur rfl rfl rfl rfl rfl rfl (Pur.mv rfl) ?_
    refine Reg.gpur rfl rfl rfl rfl rfl rfl (Pur.lss rfl rfl) ?_
    refine Reg.pur rfl rfl rfl rfl (Pur.pickT rfl rfl) ?_
    refine Reg.pur rfl rfl rfl rfl (Pur.mv rfl) ?_
    refine Reg.known (b' := true) 86 rfl (by first | (simp; done) | (simp [q1, q2, g1, g2, g3, g4]; done) | (simp_all; done)) ?_
    refine Reg.gpur rfl rfl rfl rfl rfl rfl (Pur.mv rfl) ?_
    refine Reg.gpur rfl rfl rfl rfl rfl rfl (Pur.leq rfl rfl) ?_
    refine Reg.pur rfl rfl rfl rfl (Pur.pickT rfl rfl) ?_
    refine Reg.pur rfl rfl rfl rfl (Pur.asg rfl) ?_
    refine Reg.nil ?_
    refine At.ret rfl Try.func5 rfl ?_
    exact ⟨congrArg Value.bool (by simp [g2]), by repeat (first | exact Ext.refl _ | refine Ext.trans ?_ (by assumption))⟩
  · refine Reg.gpur rfl rfl rfl rfl rfl rfl (Pur.mv rfl) ?_
    refine Reg.gop rfl rfl rfl rfl rfl rfl (Does.call rfl (num_ok _ _ (by first | exact fuelE_fits _ | exact sameE_fits _ _ _ _))) ?_
    rintro _ _ ⟨rfl, rfl⟩
    refine Reg.gpur rfl rfl rfl rfl rfl rfl (Pur.eql rfl rfl) ?_
    refine Reg.gpur rfl rfl rfl rfl rfl rfl (Pur.pickF rfl rfl) ?_
    refine Reg.pur rfl rfl rfl rfl (Pur.pickT rfl rfl) ?_
    refine Reg.pur rfl rfl rfl rfl (Pur.mv rfl) ?_
    refine Reg.known (b' := true) 71 rfl (by first | (simp; done) | (simp [q1, q2, g1, g2, g3, g4]; done) | (simp_all; done)) ?_
    refine Reg.gpur rfl rfl rfl rfl rfl rfl (Pur.mv rfl) ?_
    refine Reg.gop rfl rfl rfl rfl rfl rfl (Does.call rfl (num_ok _ _ (by first | exact fuelE_fits _ | exact sameE_fits _ _ _ _))) ?_
    rintro _ _ ⟨rfl, rfl⟩
    refine Reg.gpur rfl rfl rfl rfl rfl rfl (Pur.eql rfl rfl) ?_
    refine Reg.pur rfl rfl rfl rfl (Pur.pickT rfl rfl) ?_
    refine Reg.pur rfl rfl rfl rfl (Pur.mv rfl) ?_
    refine Reg.known (b' := true) 76 rfl (by first | (simp; done) | (simp [q1, q2, g1, g2, g3, g4]; done) | (simp_all; done)) ?_
    refine Reg.gpur rfl rfl rfl rfl rfl rfl (Pur.mv rfl) ?_
    refine Reg.gop rfl rfl rfl rfl rfl rfl (Does.call rfl (num_ok _ _ (by first | exact fuelE_fits _ | exact sameE_fits _ _ _ _))) ?_
    rintro _ _ ⟨rfl, rfl⟩
    refine Reg.gpur rfl rfl rfl rfl rfl rfl (Pur.eql rfl rfl) ?_
    refine Reg.pur rfl rfl rfl rfl (Pur.pickT rfl rfl) ?_
    refine Reg.pur rfl rfl rfl rfl (Pur.mv rfl) ?_
    refine Reg.known (b' := true) 81 rfl (by first | (simp; done) | (simp [q1, q2, g1, g2, g3, g4]; done) | (simp_all; done)) ?_
    refine Reg.gpur rfl rfl rfl rfl rfl rfl (Pur.mv rfl) ?_
    refine Reg.gpur rfl rfl rfl rfl rfl rfl (Pur.mv rfl) ?_
    refine Reg.gpur rfl rfl rfl rfl rfl rfl (Pur.lss rfl rfl) ?_
    refine Reg.pur rfl rfl rfl rfl (Pur.pickT rfl rfl) ?_
    refine Reg.pur rfl rfl rfl rfl (Pur.mv rfl) ?_
    refine Reg.known (b' := true) 86 rfl (by first | (simp; done) | (simp [q1, q2, g1, g2, g3, g4]; done) | (simp_all; done)) ?_
    refine Reg.gpur rfl rfl rfl rfl rfl rfl (Pur.mv rfl) ?_
    refine Reg.gpur rfl rfl rfl rfl rfl rfl (Pur.leq rfl rfl) ?_
    refine Reg.pur rfl rfl rfl rfl (Pur.pickT rfl rfl) ?_
    refine Reg.pur rfl rfl rfl rfl (Pur.asg rfl) ?_
    refine Reg.nil ?_
    refine At.ret rfl Try.func5 rfl ?_
    exact ⟨congrArg Value.bool (by simp [g2]), by repeat (first | exact Ext.refl _ | refine Ext.trans ?_ (by assumption))⟩

def badL (d : Int) : List (List Int) := [[-d, 0], [5 + d, 0], [0, 1073741823 + d], [0, -1073741824 - d], [1, 1 + d], [1, -d], [2, d], [3, 1 + d], [3, -d], [4, d], [5, d]]
theorem bad_at (d r : Int) (hd : 1 ≤ d) (h0 : 0 ≤ r) (h1 : r < 11) : ∃ k n, (((badL d).flatMap Is).drop (0 + r.toNat * 2)).take 2 = Is [k, n] ∧ mayO k n = false := by
  obtain ⟨i, rfl⟩ : ∃ i : Nat, r = i := ⟨r.toNat, by omega⟩
  have hi : i < (badL d).length := by simp [badL]; omega
  have e : (((badL d).flatMap Is).drop (0 + (i : Int).toNat * 2)).take 2 = Is (badL d)[i] := by
    have := flat_at (f := Is) (n := 2) (badL d) i (by simp [badL]) hi
    simpa using this
  have : ∃ k n, (badL d)[i] = [k, n] ∧ mayO k n = false := by
    have hi' : i < 11 := by omega
    clear e h1
    have cases : i = 0 ∨ i = 1 ∨ i = 2 ∨ i = 3 ∨ i = 4 ∨ i = 5 ∨ i = 6 ∨ i = 7 ∨ i = 8 ∨ i = 9 ∨ i = 10 := by omega
    rcases cases with h | h | h | h | h | h | h | h | h | h | h <;> subst h <;> refine ⟨_, _, rfl, ?_⟩ <;> exact decide_eq_false (by unfold mayP; omega)
  obtain ⟨k, n, hk, hm⟩ := this
  exact ⟨k, n, by rw [e, hk], hm⟩

theorem agreeForms_law (w x : Int) (H : Heap) : Ret Try.prog 6 [I w, I x] H (fun v H' => v = .bool true ∧ Ext H H') := by
  obtain ⟨m0, m1⟩ := and_le x 1023 (by decide)
  obtain ⟨r0, r1⟩ := umod w 11 (by decide) (by decide)
  have e1023 : ((1023 : Nat) : Int) = 1023 := rfl
  rw [e1023] at m0 m1
  obtain ⟨k, n, hel, hbad⟩ := bad_at (1 + bits .and .i64 x 1023) _ (by omega) r0 r1
  have q1 : sameO 0 4 k n = false := by simp [sameO, hbad]
  have q2 : sameE 0 4 k n = 2200 := by simp [sameE, hbad]
  have q3 : sameO k n 0 4 = false := by simp [sameO, hbad]
  have q4 : sameE k n 0 4 = 2200 := by simp [sameE, hbad]
  have q5 : sameO k n k n = false := by simp [sameO, hbad]
  have q6 : sameE k n k n = 2200 := by simp [sameE, hbad]
  have q7 : fuelE (-(1 + bits .and .i64 x 1023)) = 2200 := by unfold fuelE; rw [if_pos (by omega)]
  have q8 : fuelE (30 + (1 + bits .and .i64 x 1023)) = 2200 := by unfold fuelE; rw [if_pos (by omega)]
  refine Ret.of_at (N := 128) Try.call6 Try.func6 rfl rfl rfl ?_
  refine At.region rfl rfl ?_
  refine Reg.pur rfl rfl rfl rfl (Pur.asg rfl) ?_
  refine Reg.nil ?_
  refine At.region rfl rfl ?_
  refine Reg.op rfl rfl rfl rfl (Does.call rfl (awake22_ok _)) ?_
  rintro _ H1 ⟨rfl, hE1⟩
  refine Reg.pur rfl rfl rfl rfl (Pur.not rfl) ?_
  refine Reg.nil ?_
  refine At.condF rfl rfl rfl ?_
  refine At.region rfl rfl ?_
  refine Reg.pur rfl rfl rfl rfl (Pur.mv rfl) ?_
  refine Reg.pur rfl rfl rfl rfl (Pur.and rfl rfl) ?_
  first | refine Reg.pur rfl rfl rfl rfl (Pur.add64 rfl rfl (by omega)) ?_ | refine Reg.pur rfl rfl rfl rfl (Pur.add64 rfl rfl (by assumption)) ?_ | refine Reg.pur rfl rfl rfl rfl (Pur.add rfl rfl) ?_
  refine Reg.pur rfl rfl rfl rfl (Pur.asg rfl) ?_
  refine Reg.nil ?_
  refine At.region rfl rfl ?_
  refine Reg.pur rfl rfl rfl rfl (Pur.bld (cs := [_, _]) pl24 zc24 rfl rfl ⟨rfl, rfl, rfl⟩) ?_
  refine Reg.op rfl rfl rfl rfl (Does.alloc zc24) ?_
  rintro _ H41 ⟨rfl, hn41⟩
  refine Reg.op0 rfl rfl rfl (Does.stn ag24 rfl rfl rfl rfl hn41.own (by decide)) ?_
  rintro _ H42 hu42
  refine Reg.nil ?_
  have hG : Own H42 _ (Is [0, 4]) := hu42.own
  have hE42 := hn41.ext.upd hu42 (Nat.le_refl _)
  refine At.region rfl rfl ?_
  refine Reg.pur rfl rfl rfl rfl (Pur.mv rfl) ?_
  first | refine Reg.pur rfl rfl rfl rfl (Pur.neg64 rfl (by omega)) ?_ | refine Reg.pur rfl rfl rfl rfl (Pur.neg rfl) ?_
  refine Reg.pur rfl rfl rfl rfl (Pur.bld (cs := [_, _]) pl24 zc24 rfl rfl ⟨rfl, rfl, rfl⟩) ?_
  refine Reg.pur rfl rfl rfl rfl (Pur.mv rfl) ?_
  first | refine Reg.pur rfl rfl rfl rfl (Pur.add64 rfl rfl (by omega)) ?_ | refine Reg.pur rfl rfl rfl rfl (Pur.add64 rfl rfl (by assumption)) ?_ | refine Reg.pur rfl rfl rfl rfl (Pur.add rfl rfl) ?_
  refine Reg.pur rfl rfl rfl rfl (Pur.bld (cs := [_, _]) pl24 zc24 rfl rfl ⟨rfl, rfl, rfl⟩) ?_
  refine Reg.pur rfl rfl rfl rfl (Pur.mv rfl) ?_
  first | refine Reg.pur rfl rfl rfl rfl (Pur.add64 rfl rfl (by omega)) ?_ | refine Reg.pur rfl rfl rfl rfl (Pur.add64 rfl rfl (by assumption)) ?_ | refine Reg.pur rfl rfl rfl rfl (Pur.add rfl rfl) ?_
  refine Reg.pur rfl rfl rfl rfl (Pur.bld (cs := [_, _]) pl24 zc24 rfl rfl ⟨rfl, rfl, rfl⟩) ?_
  refine Reg.pur rfl rfl rfl rfl (Pur.mv rfl) ?_
  first | refine Reg.pur rfl rfl rfl rfl (Pur.sub64 rfl rfl (by omega)) ?_ | refine Reg.pur rfl rfl rfl rfl (Pur.sub64 rfl rfl (by assumption)) ?_ | refine Reg.pur rfl rfl rfl rfl (Pur.sub rfl rfl) ?_
  refine Reg.pur rfl rfl rfl rfl (Pur.bld (cs := [_, _]) pl24 zc24 rfl rfl ⟨rfl, rfl, rfl⟩) ?_
  refine Reg.pur rfl rfl rfl rfl (Pur.mv rfl) ?_
  first | refine Reg.pur rfl rfl rfl rfl (Pur.add64 rfl rfl (by omega)) ?_ | refine Reg.pur rfl rfl rfl rfl (Pur.add64 rfl rfl (by assumption)) ?_ | refine Reg.pur rfl rfl rfl rfl (Pur.add rfl rfl) ?_
  refine Reg.pur rfl rfl rfl rfl (Pur.bld (cs := [_, _]) pl24 zc24 rfl rfl ⟨rfl, rfl, rfl⟩) ?_
  refine Reg.pur rfl rfl rfl rfl (Pur.mv rfl) ?_
  first | refine Reg.pur rfl rfl rfl rfl (Pur.neg64 rfl (by omega)) ?_ | refine Reg.pur rfl rfl rfl rfl (Pur.neg rfl) ?_
  refine Reg.pur rfl rfl rfl rfl (Pur.bld (cs := [_, _]) pl24 zc24 rfl rfl ⟨rfl, rfl, rfl⟩) ?_
  refine Reg.pur rfl rfl rfl rfl (Pur.mv rfl) ?_
  refine Reg.pur rfl rfl rfl rfl (Pur.bld (cs := [_, _]) pl24 zc24 rfl rfl ⟨rfl, rfl, rfl⟩) ?_
  refine Reg.pur rfl rfl rfl rfl (Pur.mv rfl) ?_
  first | refine Reg.pur rfl rfl rfl rfl (Pur.add64 rfl rfl (by omega)) ?_ | refine Reg.pur rfl rfl rfl rfl (Pur.add64 rfl rfl (by assumption)) ?_ | refine Reg.pur rfl rfl rfl rfl (Pur.add rfl rfl) ?_
  refine Reg.pur rfl rfl rfl rfl (Pur.bld (cs := [_, _]) pl24 zc24 rfl rfl ⟨rfl, rfl, rfl⟩) ?_
  refine Reg.pur rfl rfl rfl rfl (Pur.mv rfl) ?_
  first | refine Reg.pur rfl rfl rfl rfl (Pur.neg64 rfl (by omega)) ?_ | refine Reg.pur rfl rfl rfl rfl (Pur.neg rfl) ?_
  refine Reg.pur rfl rfl rfl rfl (Pur.bld (cs := [_, _]) pl24 zc24 rfl rfl ⟨rfl, rfl, rfl⟩) ?_
  refine Reg.pur rfl rfl rfl rfl (Pur.mv rfl) ?_
  refine Reg.pur rfl rfl rfl rfl (Pur.bld (cs := [_, _]) pl24 zc24 rfl rfl ⟨rfl, rfl, rfl⟩) ?_
  refine Reg.pur rfl rfl rfl rfl (Pur.mv rfl) ?_
  refine Reg.pur rfl rfl rfl rfl (Pur.bld (cs := [_, _]) pl24 zc24 rfl rfl ⟨rfl, rfl, rfl⟩) ?_
  refine Reg.op rfl rfl rfl rfl (Does.bslA ([[_, _], [_, _], [_, _], [_, _], [_, _], [_, _], [_, _], [_, _], [_, _], [_, _], [_, _]]) slA38 rfl rfl rfl rfl rfl rfl) ?_
  rintro _ H5 ⟨rfl, hp5⟩
  refine Reg.pur rfl rfl rfl rfl (Pur.asg rfl) ?_
  refine Reg.nil ?_
  have hn5 : New H42 H5 ((badL (1 + bits .and .i64 x 1023)).flatMap Is) := ⟨_, hp5⟩
  have hS := hn5.own.blk
  have hE5 := hn5.ext
  refine At.region rfl rfl ?_
  refine Reg.pur rfl rfl rfl rfl (Pur.mv rfl) ?_
  refine Reg.pur rfl rfl rfl rfl (Pur.mv rfl) ?_
  refine Reg.pur rfl rfl rfl rfl (Pur.cnv Try.underlying3 Try.underlying36 rfl) ?_
  first | refine Reg.pur rfl rfl rfl rfl (Pur.rem rfl rfl (by omega)) ?_ | refine Reg.pur rfl rfl rfl rfl (Pur.rem rfl rfl (by decide)) ?_
  refine Reg.pur rfl rfl rfl rfl (Pur.cnv Try.underlying36 Try.underlying3 rfl) ?_
  refine Reg.pur rfl rfl rfl rfl (Pur.idx _ es38 rfl rfl r0 r1) ?_
  refine Reg.lod rfl rfl rfl rfl (Lod.ldn ag24 rfl hS hel rfl) ?_
  refine Reg.op rfl rfl rfl rfl (Does.alloc zc24) ?_
  rintro _ H61 ⟨rfl, hn61⟩
  refine Reg.op0 rfl rfl rfl (Does.stn ag24 rfl rfl rfl rfl hn61.own (by decide)) ?_
  rintro _ H62 hu62
  refine Reg.nil ?_
  have hD : Own H62 _ (Is [k, n]) := hu62.own
  have hE62 := hn61.ext.upd hu62 (Nat.le_refl _)
  replace hG := (hG.ext hE5).ext hE62
  refine At.region rfl rfl ?_
  refine Reg.lod rfl rfl rfl rfl (Lod.ldn ag24 rfl hG.blk (by simp only [List.drop_succ_cons, List.drop_zero, List.take_succ_cons, List.take_zero]; rfl) rfl) ?_
  refine Reg.lod rfl rfl rfl rfl (Lod.ldn ag24 rfl hD.blk (by simp only [List.drop_succ_cons, List.drop_zero, List.take_succ_cons, List.take_zero]; rfl) rfl) ?_
  refine Reg.op rfl rfl rfl rfl (Does.call rfl (same_ok _ _ _ _ _)) ?_
  rintro _ H2 ⟨rfl, hE2⟩
  refine Reg.pur rfl rfl rfl rfl (Pur.mv rfl) ?_
  refine Reg.pur rfl rfl rfl rfl (Pur.ext rfl rfl) ?_
  refine Reg.pur rfl rfl rfl rfl (Pur.ext rfl rfl) ?_
  refine Reg.pur rfl rfl rfl rfl (Pur.asg rfl) ?_
  refine Reg.pur rfl rfl rfl rfl (Pur.asg rfl) ?_
  refine Reg.nil ?_
  replace hG := hG.ext hE2
  replace hD := hD.ext hE2
  refine At.region rfl rfl ?_
  refine Reg.lod rfl rfl rfl rfl (Lod.ldn ag24 rfl hD.blk (by simp only [List.drop_succ_cons, List.drop_zero, List.take_succ_cons, List.take_zero]; rfl) rfl) ?_
  refine Reg.lod rfl rfl rfl rfl (Lod.ldn ag24 rfl hG.blk (by simp only [List.drop_succ_cons, List.drop_zero, List.take_succ_cons, List.take_zero]; rfl) rfl) ?_
  refine Reg.op rfl rfl rfl rfl (Does.call rfl (same_ok _ _ _ _ _)) ?_
  rintro _ H3 ⟨rfl, hE3⟩
  refine Reg.pur rfl rfl rfl rfl (Pur.mv rfl) ?_
  refine Reg.pur rfl rfl rfl rfl (Pur.ext rfl rfl) ?_
  refine Reg.pur rfl rfl rfl rfl (Pur.ext rfl rfl) ?_
  refine Reg.pur rfl rfl rfl rfl (Pur.asg rfl) ?_
  refine Reg.pur rfl rfl rfl rfl (Pur.asg rfl) ?_
  refine Reg.nil ?_
  replace hG := hG.ext hE3
  replace hD := hD.ext hE3
  refine At.region rfl rfl ?_
  refine Reg.lod rfl rfl rfl rfl (Lod.ldn ag24 rfl hD.blk (by simp only [List.drop_succ_cons, List.drop_zero, List.take_succ_cons, List.take_zero]; rfl) rfl) ?_
  refine Reg.lod rfl rfl rfl rfl (Lod.ldn ag24 rfl hD.blk (by simp only [List.drop_succ_cons, List.drop_zero, List.take_succ_cons, List.take_zero]; rfl) rfl) ?_
  refine Reg.op rfl rfl rfl rfl (Does.call rfl (same_ok _ _ _ _ _)) ?_
  rintro _ H4 ⟨rfl, hE4⟩
  refine Reg.pur rfl rfl rfl rfl (Pur.mv rfl) ?_
  refine Reg.pur rfl rfl rfl rfl (Pur.ext rfl rfl) ?_
  refine Reg.pur rfl rfl rfl rfl (Pur.ext rfl rfl) ?_
  refine Reg.pur rfl rfl rfl rfl (Pur.asg rfl) ?_
  refine Reg.pur rfl rfl rfl rfl (Pur.asg rfl) ?_
  refine Reg.nil ?_
  refine At.region rfl rfl ?_
  refine Reg.pur rfl rfl rfl rfl (Pur.mv rfl) ?_
  first | refine Reg.pur rfl rfl rfl rfl (Pur.neg64 rfl (by omega)) ?_ | refine Reg.pur rfl rfl rfl rfl (Pur.neg rfl) ?_
  refine Reg.op rfl rfl rfl rfl (Does.call rfl (fuel_ok _ ⟨by omega, by omega⟩ _)) ?_
  rintro _ _ ⟨rfl, rfl⟩
  refine Reg.pur rfl rfl rfl rfl (Pur.mv rfl) ?_
  refine Reg.pur rfl rfl rfl rfl (Pur.ext rfl rfl) ?_
  refine Reg.pur rfl rfl rfl rfl (Pur.ext rfl rfl) ?_
  refine Reg.pur rfl rfl rfl rfl (Pur.asg rfl) ?_
  refine Reg.pur rfl rfl rfl rfl (Pur.asg rfl) ?_
  refine Reg.nil ?_
  refine At.region rfl rfl ?_
  refine Reg.pur rfl rfl rfl rfl (Pur.mv rfl) ?_
  first | refine Reg.pur rfl rfl rfl rfl (Pur.add64 rfl rfl (by omega)) ?_ | refine Reg.pur rfl rfl rfl rfl (Pur.add64 rfl rfl (by assumption)) ?_ | refine Reg.pur rfl rfl rfl rfl (Pur.add rfl rfl) ?_
  refine Reg.op rfl rfl rfl rfl (Does.call rfl (fuel_ok _ ⟨by omega, by omega⟩ _)) ?_
  rintro _ _ ⟨rfl, rfl⟩
  refine Reg.pur rfl rfl rfl rfl (Pur.mv rfl) ?_
  refine Reg.pur rfl rfl rfl rfl (Pur.ext rfl rfl) ?_
  refine Reg.pur rfl rfl rfl rfl (Pur.ext rfl rfl) ?_
  refine Reg.pur rfl rfl rfl rfl (Pur.asg rfl) ?_
  refine Reg.pur rfl rfl rfl rfl (Pur.asg rfl) ?_
  refine Reg.nil ?_
  refine At.region rfl rfl ?_
  refine Reg.pur rfl rfl rfl rfl (Pur.mv rfl) ?_
  refine Reg.pur rfl rfl rfl rfl (Pur.not rfl) ?_
  refine Reg.pur rfl rfl rfl rfl (Pur.mv rfl) ?_
  refine Reg.known (b' := true) 95 rfl (by first | (simp; done) | (simp_all; done)) ?_
  refine Reg.gpur rfl rfl rfl rfl rfl rfl (Pur.mv rfl) ?_
  refine Reg.gpur rfl rfl rfl rfl rfl rfl (Pur.not rfl) ?_
  refine Reg.pur rfl rfl rfl rfl (Pur.pickT rfl rfl) ?_
  refine Reg.pur rfl rfl rfl rfl (Pur.mv rfl) ?_
  refine Reg.known (b' := true) 99 rfl (by first | (simp; done) | (simp_all; done)) ?_
  refine Reg.gpur rfl rfl rfl rfl rfl rfl (Pur.mv rfl) ?_
  refine Reg.gpur rfl rfl rfl rfl rfl rfl (Pur.not rfl) ?_
  refine Reg.pur rfl rfl rfl rfl (Pur.pickT rfl rfl) ?_
  refine Reg.pur rfl rfl rfl rfl (Pur.mv rfl) ?_
  refine Reg.known (b' := true) 103 rfl (by first | (simp; done) | (simp_all; done)) ?_
  refine Reg.gpur rfl rfl rfl rfl rfl rfl (Pur.mv rfl) ?_
  refine Reg.gop rfl rfl rfl rfl rfl rfl (Does.call rfl (num_ok _ _ (by first | exact fuelE_fits _ | exact sameE_fits _ _ _ _))) ?_
  rintro _ _ ⟨rfl, rfl⟩
  refine Reg.gpur rfl rfl rfl rfl rfl rfl (Pur.eql rfl rfl) ?_
  refine Reg.pur rfl rfl rfl rfl (Pur.pickT rfl rfl) ?_
  refine Reg.pur rfl rfl rfl rfl (Pur.mv rfl) ?_
  refine Reg.known (b' := true) 108 rfl (by first | (simp; done) | (simp_all; done)) ?_
  refine Reg.gpur rfl rfl rfl rfl rfl rfl (Pur.mv rfl) ?_
  refine Reg.gop rfl rfl rfl rfl rfl rfl (Does.call rfl (num_ok _ _ (by first | exact fuelE_fits _ | exact sameE_fits _ _ _ _))) ?_
  rintro _ _ ⟨rfl, rfl⟩
  refine Reg.gpur rfl rfl rfl rfl rfl rfl (Pur.eql rfl rfl) ?_
  refine Reg.pur rfl rfl rfl rfl (Pur.pickT rfl rfl) ?_
  refine Reg.pur rfl rfl rfl rfl (Pur.mv rfl) ?_
  refine Reg.known (b' := true) 113 rfl (by first | (simp; done) | (simp_all; done)) ?_
  refine Reg.gpur rfl rfl rfl rfl rfl rfl (Pur.mv rfl) ?_
  refine Reg.gop rfl rfl rfl rfl rfl rfl (Does.call rfl (num_ok _ _ (by first | exact fuelE_fits _ | exact sameE_fits _ _ _ _))) ?_
  rintro _ _ ⟨rfl, rfl⟩
  refine Reg.gpur rfl rfl rfl rfl rfl rfl (Pur.eql rfl rfl) ?_
  refine Reg.pur rfl rfl rfl rfl (Pur.pickT rfl rfl) ?_
  refine Reg.pur rfl rfl rfl rfl (Pur.mv rfl) ?_
  refine Reg.known (b' := true) 118 rfl (by first | (simp; done) | (simp_all; done)) ?_
  refine Reg.gpur rfl rfl rfl rfl rfl rfl (Pur.mv rfl) ?_
  refine Reg.gop rfl rfl rfl rfl rfl rfl (Does.call rfl (num_ok _ _ (by first | exact fuelE_fits _ | exact sameE_fits _ _ _ _))) ?_
  rintro _ _ ⟨rfl, rfl⟩
  refine Reg.gpur rfl rfl rfl rfl rfl rfl (Pur.eql rfl rfl) ?_
  refine Reg.pur rfl rfl rfl rfl (Pur.pickT rfl rfl) ?_
  refine Reg.pur rfl rfl rfl rfl (Pur.mv rfl) ?_
  refine Reg.known (b' := true) 123 rfl (by first | (simp; done) | (simp_all; done)) ?_
  refine Reg.gpur rfl rfl rfl rfl rfl rfl (Pur.mv rfl) ?_
  refine Reg.gop rfl rfl rfl rfl rfl rfl (Does.call rfl (num_ok _ _ (by first | exact fuelE_fits _ | exact sameE_fits _ _ _ _))) ?_
  rintro _ _ ⟨rfl, rfl⟩
  refine Reg.gpur rfl rfl rfl rfl rfl rfl (Pur.eql rfl rfl) ?_
  refine Reg.pur rfl rfl rfl rfl (Pur.pickT rfl rfl) ?_
  refine Reg.pur rfl rfl rfl rfl (Pur.asg rfl) ?_
  refine Reg.nil ?_
  refine At.ret rfl Try.func6 rfl ?_
  exact ⟨congrArg Value.bool (by first | (simp; done) | (simp_all; done)), by repeat (first | exact Ext.refl _ | refine Ext.trans ?_ (by assumption))⟩
end Go.Proofs.Ytkniihjfcagdbaa
