/-
  Nodes: the laws of chapter 18, by the tree alone.
-/
import Derived.Test.YtjhkmebmbopfoaaDoorNodK
namespace Go.Proofs.YtjhkmebmbopfoaaDoor
set_option linter.unusedSimpArgs false
set_option linter.unusedVariables false
set_option maxRecDepth 8000
set_option maxHeartbeats 1000000
open Go Go.Fx Go.Proofs
namespace FactsNodL
theorem fo25_1 : foff Tryd.prog 25 1 = some 1 := by kernel_rfl
theorem pl35 : places Tryd.prog 35 = some [(0, 1), (1, 1), (2, 1), (3, 1), (4, 1), (5, 1), (6, 1), (7, 1), (8, 1), (9, 1)] := by kernel_rfl
theorem sc23 : sc Tryd.prog 23 = true := by kernel_rfl
theorem slA23 : slA Tryd.prog 23 = some (35, 10) := by kernel_rfl
theorem zc35 : zc Tryd.prog 35 = some [.int .i64 0, .int .i64 0, .int .i64 0, .int .i64 0, .int .i64 0, .string ⟨#[]⟩, .string ⟨#[]⟩, .string ⟨#[]⟩, .string ⟨#[]⟩, .int .i64 0] := by kernel_rfl
end FactsNodL
open FactsNodL

theorem lnum_ok (n : Int) (H : Heap) (h : -9223372036854775808 ≤ n ∧ n ≤ 9223372036854775807) : Ret Tryd.prog 13 [I n] H (fun v H' => v = I n ∧ H' = H) := by
  refine Ret.of_at (N := 4) Tryd.call13 Tryd.func13 rfl rfl rfl ?_
  have hE := Ext.refl H
  refine At.region rfl rfl ?_
  refine Reg.pur rfl rfl rfl rfl (Pur.asg rfl) ?_
  refine Reg.nil ?_
  refine At.region rfl rfl ?_
  refine Reg.pur rfl rfl rfl rfl (Pur.mv rfl) ?_
  refine Reg.pur rfl rfl rfl rfl (Pur.asg rfl) ?_
  refine Reg.nil ?_
  refine At.ret rfl Tryd.func13 rfl ?_
  exact ⟨rfl, rfl⟩
def awN : List Nd := [{ nd0 with num := 0 }, { nd0 with num := 0 }, { nd0 with k := 4, a := 0, b := 1 }, { nd0 with k := 3, a := 2 }, { nd0 with k := 1 }, { nd0 with k := 5, a := 3, b := 4 }]
theorem aw18 : thrN awN 5 = true ∧ drN awN 1000 5 = true ∧ thrN awN 2 = true ∧ drN awN 1000 2 = false ∧ thrN awN 6 = false := by
  refine ⟨by kernel_rfl, by kernel_rfl, by kernel_rfl, by kernel_rfl, by kernel_rfl⟩
theorem drV5 : drV awN 5 = .tuple #[.bool true, I 0] := by unfold drV; rw [aw18.1, aw18.2.1]; rfl
theorem drV2 : drV awN 2 = .tuple #[.bool false, I 0] := by unfold drV; rw [aw18.2.2.1, aw18.2.2.2.1]; rfl
theorem drV6 : drV awN 6 = .tuple #[.bool false, I 1800] := by unfold drV; rw [aw18.2.2.2.2]; rfl
theorem awake18_ok (H : Heap) : Ret Tryd.prog 14 [] H (fun v H' => v = .bool true ∧ Ext H H') := by
  have hL : Shs awN := by
    intro x hx
    simp only [awN, List.mem_cons, List.not_mem_nil, or_false] at hx
    rcases hx with rfl | rfl | rfl | rfl | rfl | rfl <;> exact ⟨by decide, by decide, by decide, by decide⟩
  refine Ret.of_at (N := 50) Tryd.call14 Tryd.func14 rfl rfl rfl ?_
  have hE := Ext.refl H
  refine At.region rfl rfl ?_
  refine Reg.pur rfl rfl rfl rfl (Pur.asg rfl) ?_
  refine Reg.nil ?_
  refine At.region rfl rfl ?_
  refine Reg.pur rfl rfl rfl rfl (Pur.bld (cs := [_, _, _, _, _, _, _, _, _, _]) pl35 zc35 rfl rfl ⟨rfl, rfl, rfl, rfl, rfl, rfl, rfl, rfl, rfl, rfl, rfl⟩) ?_
  refine Reg.pur rfl rfl rfl rfl (Pur.bld (cs := [_, _, _, _, _, _, _, _, _, _]) pl35 zc35 rfl rfl ⟨rfl, rfl, rfl, rfl, rfl, rfl, rfl, rfl, rfl, rfl, rfl⟩) ?_
  refine Reg.pur rfl rfl rfl rfl (Pur.bld (cs := [_, _, _, _, _, _, _, _, _, _]) pl35 zc35 rfl rfl ⟨rfl, rfl, rfl, rfl, rfl, rfl, rfl, rfl, rfl, rfl, rfl⟩) ?_
  refine Reg.pur rfl rfl rfl rfl (Pur.bld (cs := [_, _, _, _, _, _, _, _, _, _]) pl35 zc35 rfl rfl ⟨rfl, rfl, rfl, rfl, rfl, rfl, rfl, rfl, rfl, rfl, rfl⟩) ?_
  refine Reg.pur rfl rfl rfl rfl (Pur.bld (cs := [_, _, _, _, _, _, _, _, _, _]) pl35 zc35 rfl rfl ⟨rfl, rfl, rfl, rfl, rfl, rfl, rfl, rfl, rfl, rfl, rfl⟩) ?_
  refine Reg.pur rfl rfl rfl rfl (Pur.bld (cs := [_, _, _, _, _, _, _, _, _, _]) pl35 zc35 rfl rfl ⟨rfl, rfl, rfl, rfl, rfl, rfl, rfl, rfl, rfl, rfl, rfl⟩) ?_
  refine Reg.op rfl rfl rfl rfl (Does.bslA (awN.map eN) slA23 rfl rfl rfl rfl rfl rfl) ?_
  rintro _ H1_6 ⟨rfl, hp1_6⟩
  have hn1_6 := New.of_eq hp1_6
  have z1_6 := hn1_6.size
  replace hE := hE.ext hn1_6.ext
  have o1_6 := hn1_6.own
  refine Reg.pur rfl rfl rfl rfl (Pur.asg rfl) ?_
  refine Reg.nil ?_
  have hS : SlT H1_6 eN 10 (.slice (some ⟨H.size, 0, none⟩) awN.length 6) awN := sl_new (wideN _) (by decide) (by exact hn1_6) (by decide)
  refine At.region rfl rfl ?_
  refine Reg.pur rfl rfl rfl rfl (Pur.mv rfl) ?_
  refine Reg.op rfl rfl rfl rfl (Does.call rfl (direct_ok awN hL 5 hS (by decide))) ?_
  rintro _ H2_1 ⟨rfl, hE2_1⟩
  have z2_1 := hE2_1.lt
  replace hE := hE.ext hE2_1
  replace o1_6 := o1_6.ext hE2_1
  rw [drV5]
  refine Reg.pur rfl rfl rfl rfl (Pur.mv rfl) ?_
  refine Reg.pur rfl rfl rfl rfl (Pur.ext rfl rfl) ?_
  refine Reg.pur rfl rfl rfl rfl (Pur.ext rfl rfl) ?_
  refine Reg.pur rfl rfl rfl rfl (Pur.asg rfl) ?_
  refine Reg.pur rfl rfl rfl rfl (Pur.asg rfl) ?_
  refine Reg.nil ?_
  refine At.region rfl rfl ?_
  refine Reg.pur rfl rfl rfl rfl (Pur.mv rfl) ?_
  refine Reg.op rfl rfl rfl rfl (Does.call rfl (direct_ok awN hL 2 (hS.ext hE2_1) (by decide))) ?_
  rintro _ H3_1 ⟨rfl, hE3_1⟩
  have z3_1 := hE3_1.lt
  replace hE := hE.ext hE3_1
  replace o1_6 := o1_6.ext hE3_1
  rw [drV2]
  refine Reg.pur rfl rfl rfl rfl (Pur.mv rfl) ?_
  refine Reg.pur rfl rfl rfl rfl (Pur.ext rfl rfl) ?_
  refine Reg.pur rfl rfl rfl rfl (Pur.ext rfl rfl) ?_
  refine Reg.pur rfl rfl rfl rfl (Pur.asg rfl) ?_
  refine Reg.pur rfl rfl rfl rfl (Pur.asg rfl) ?_
  refine Reg.nil ?_
  refine At.region rfl rfl ?_
  refine Reg.pur rfl rfl rfl rfl (Pur.mv rfl) ?_
  refine Reg.op rfl rfl rfl rfl (Does.call rfl (direct_ok awN hL 6 ((hS.ext hE2_1).ext hE3_1) (by decide))) ?_
  rintro _ H4_1 ⟨rfl, hE4_1⟩
  have z4_1 := hE4_1.lt
  replace hE := hE.ext hE4_1
  replace o1_6 := o1_6.ext hE4_1
  rw [drV6]
  refine Reg.pur rfl rfl rfl rfl (Pur.mv rfl) ?_
  refine Reg.pur rfl rfl rfl rfl (Pur.ext rfl rfl) ?_
  refine Reg.pur rfl rfl rfl rfl (Pur.ext rfl rfl) ?_
  refine Reg.pur rfl rfl rfl rfl (Pur.asg rfl) ?_
  refine Reg.pur rfl rfl rfl rfl (Pur.asg rfl) ?_
  refine Reg.nil ?_
  refine At.region rfl rfl ?_
  refine Reg.pur rfl rfl rfl rfl (Pur.mv rfl) ?_
  refine Reg.pur rfl rfl rfl rfl (Pur.mv rfl) ?_
  refine Reg.known (b' := true) 31 rfl (by first | rfl | simp | decide) ?_
  refine Reg.gpur rfl rfl rfl rfl rfl rfl (Pur.mv rfl) ?_
  refine Reg.gop rfl rfl rfl rfl rfl rfl (Does.call rfl (lnum_ok _ _ (by decide))) ?_
  rintro _ H4_1 ⟨rfl, rfl⟩
  refine Reg.gpur rfl rfl rfl rfl rfl rfl (Pur.eql rfl rfl) ?_
  refine Reg.pur rfl rfl rfl rfl (Pur.pickT rfl rfl) ?_
  refine Reg.pur rfl rfl rfl rfl (Pur.mv rfl) ?_
  refine Reg.known (b' := true) 36 rfl (by first | rfl | simp | decide) ?_
  refine Reg.gpur rfl rfl rfl rfl rfl rfl (Pur.mv rfl) ?_
  refine Reg.gpur rfl rfl rfl rfl rfl rfl (Pur.not rfl) ?_
  refine Reg.pur rfl rfl rfl rfl (Pur.pickT rfl rfl) ?_
  refine Reg.pur rfl rfl rfl rfl (Pur.mv rfl) ?_
  refine Reg.known (b' := true) 40 rfl (by first | rfl | simp | decide) ?_
  refine Reg.gpur rfl rfl rfl rfl rfl rfl (Pur.mv rfl) ?_
  refine Reg.gop rfl rfl rfl rfl rfl rfl (Does.call rfl (lnum_ok _ _ (by decide))) ?_
  rintro _ H4_1 ⟨rfl, rfl⟩
  refine Reg.gpur rfl rfl rfl rfl rfl rfl (Pur.eql rfl rfl) ?_
  refine Reg.pur rfl rfl rfl rfl (Pur.pickT rfl rfl) ?_
  refine Reg.pur rfl rfl rfl rfl (Pur.mv rfl) ?_
  refine Reg.known (b' := true) 45 rfl (by first | rfl | simp | decide) ?_
  refine Reg.gpur rfl rfl rfl rfl rfl rfl (Pur.mv rfl) ?_
  refine Reg.gop rfl rfl rfl rfl rfl rfl (Does.call rfl (lnum_ok _ _ (by decide))) ?_
  rintro _ H4_1 ⟨rfl, rfl⟩
  refine Reg.gpur rfl rfl rfl rfl rfl rfl (Pur.eql rfl rfl) ?_
  refine Reg.pur rfl rfl rfl rfl (Pur.pickT rfl rfl) ?_
  refine Reg.pur rfl rfl rfl rfl (Pur.asg rfl) ?_
  refine Reg.nil ?_
  refine At.ret rfl Tryd.func14 rfl ?_
  exact ⟨rfl, hE⟩
theorem thr_fits (L : List Nd) (z : Int) : -9223372036854775808 ≤ (if thrN L z = true then (0 : Int) else 1800) ∧ (if thrN L z = true then (0 : Int) else 1800) ≤ 9223372036854775807 := by split <;> decide
theorem directs_law {vo : Value} {A : Option Addr} {cap : Nat} (L : List Nd) (hL : Shs L) (z : Int) {H : Heap} (hS : SlT H eN 10 (.slice A L.length cap) L) (hm : L.length ≤ 9223372036854775807) :
    Ret Tryd.prog 3 [.agg #[vo, .slice A L.length cap], I z] H (fun v H' => v = .bool true ∧ Ext H H') := by
  refine Ret.of_at (N := 35) Tryd.call3 Tryd.func3 rfl rfl rfl ?_
  have hE := Ext.refl H
  refine At.region rfl rfl ?_
  refine Reg.op rfl rfl rfl rfl (Does.box rfl rfl) ?_
  rintro _ H0_0 ⟨rfl, hn0_0⟩
  have z0_0 := hn0_0.size
  replace hE := hE.ext hn0_0.ext
  have o0_0 := hn0_0.own
  refine Reg.pur rfl rfl rfl rfl (Pur.asg rfl) ?_
  refine Reg.nil ?_
  refine At.region rfl rfl ?_
  refine Reg.pur rfl rfl rfl rfl (Pur.fld _ fo25_1 rfl) ?_
  refine Reg.lod rfl rfl rfl rfl (Lod.ld sc23 rfl o0_0.blk (by first | rfl | (simp; done))) ?_
  refine Reg.pur rfl rfl rfl rfl (Pur.mv rfl) ?_
  refine Reg.op rfl rfl rfl rfl (Does.call rfl (direct_ok L hL z (hS.ext hE) hm)) ?_
  rintro _ H1_3 ⟨rfl, hE1_3⟩
  have z1_3 := hE1_3.lt
  replace hE := hE.ext hE1_3
  replace o0_0 := o0_0.ext hE1_3
  refine Reg.pur rfl rfl rfl rfl (Pur.mv rfl) ?_
  refine Reg.pur rfl rfl rfl rfl (Pur.ext rfl rfl) ?_
  refine Reg.pur rfl rfl rfl rfl (Pur.ext rfl rfl) ?_
  refine Reg.pur rfl rfl rfl rfl (Pur.asg rfl) ?_
  refine Reg.pur rfl rfl rfl rfl (Pur.asg rfl) ?_
  refine Reg.nil ?_
  refine At.region rfl rfl ?_
  refine Reg.pur rfl rfl rfl rfl (Pur.fld _ fo25_1 rfl) ?_
  refine Reg.lod rfl rfl rfl rfl (Lod.ld sc23 rfl o0_0.blk (by first | rfl | (simp; done))) ?_
  refine Reg.pur rfl rfl rfl rfl (Pur.mv rfl) ?_
  refine Reg.op rfl rfl rfl rfl (Does.call rfl (directR_ok L hL z (hS.ext hE) hm)) ?_
  rintro _ H2_3 ⟨rfl, hE2_3⟩
  have z2_3 := hE2_3.lt
  replace hE := hE.ext hE2_3
  replace o0_0 := o0_0.ext hE2_3
  refine Reg.pur rfl rfl rfl rfl (Pur.mv rfl) ?_
  refine Reg.pur rfl rfl rfl rfl (Pur.ext rfl rfl) ?_
  refine Reg.pur rfl rfl rfl rfl (Pur.ext rfl rfl) ?_
  refine Reg.pur rfl rfl rfl rfl (Pur.asg rfl) ?_
  refine Reg.pur rfl rfl rfl rfl (Pur.asg rfl) ?_
  refine Reg.nil ?_
  refine At.region rfl rfl ?_
  refine Reg.pur rfl rfl rfl rfl (Pur.mv rfl) ?_
  refine Reg.pur rfl rfl rfl rfl (Pur.mv rfl) ?_
  refine Reg.pur rfl rfl rfl rfl (Pur.eqB Tryd.underlying4 rfl rfl) ?_
  refine Reg.pur rfl rfl rfl rfl (Pur.mv rfl) ?_
  refine Reg.known (b' := true) 26 rfl (by first | rfl | simp) ?_
  refine Reg.gpur rfl rfl rfl rfl rfl rfl (Pur.mv rfl) ?_
  refine Reg.gop rfl rfl rfl rfl rfl rfl (Does.call rfl (lnum_ok _ _ (thr_fits L z))) ?_
  rintro _ H2_3 ⟨rfl, rfl⟩
  refine Reg.gpur rfl rfl rfl rfl rfl rfl (Pur.mv rfl) ?_
  refine Reg.gpur rfl rfl rfl rfl rfl rfl (Pur.eql rfl rfl) ?_
  refine Reg.pur rfl rfl rfl rfl (Pur.pickT rfl rfl) ?_
  refine Reg.pur rfl rfl rfl rfl (Pur.mv rfl) ?_
  refine Reg.known (b' := true) 32 rfl (by first | rfl | simp) ?_
  refine Reg.gop rfl rfl rfl rfl rfl rfl (Does.call rfl (awake18_ok _)) ?_
  rintro _ H3_10 ⟨rfl, hE3_10⟩
  have z3_10 := hE3_10.lt
  replace hE := hE.ext hE3_10
  replace o0_0 := o0_0.ext hE3_10
  refine Reg.pur rfl rfl rfl rfl (Pur.pickT rfl rfl) ?_
  refine Reg.pur rfl rfl rfl rfl (Pur.asg rfl) ?_
  refine Reg.nil ?_
  refine At.ret rfl Tryd.func3 rfl ?_
  exact ⟨rfl, hE⟩
theorem drN_fuel {L : List Nd} (hT : Tn L) : ∀ (f g : Nat) (z : Int), 0 ≤ z → z < L.length → z.toNat < f → z.toNat < g → drN L f z = drN L g z
  | 0, _, z, _, _, h, _ => by omega
  | _, 0, z, _, _, _, h => by omega
  | f + 1, g + 1, z, h0, h1, hf, hg => by
    have hk := hT.kid z h0 h1
    simp only [drN]
    split
    · rfl
    · rw [Bool.eq_iff_iff, List.all_eq_true, List.all_eq_true]
      have key : ∀ o ∈ dkOffs (eln L z).k, drN L f (iget (eln L z) o) = drN L g (iget (eln L z) o) := by
        intro o ho
        have hm : o ∈ nkOffs (eln L z).k := by
          unfold dkOffs at ho
          split at ho
          · cases ho
          · split at ho
            · rename_i h6; rw [h6]; simp at ho; subst ho; decide
            · exact ho
        have := hk (iget (eln L z) o) (List.mem_map_of_mem (List.mem_reverse.2 hm))
        exact drN_fuel hT f g _ (by omega) (by omega) (by omega) (by omega)
      exact ⟨fun h o ho => by rw [← key o ho]; exact h o ho, fun h o ho => by rw [key o ho]; exact h o ho⟩
theorem thr_kid {L : List Nd} {z c : Int} (h : thrN L z = true) (h0 : 0 ≤ c) (h1 : c < z) : thrN L c = true := by
  unfold thrN at h ⊢
  simp only [Bool.and_eq_true, decide_eq_true_eq] at h ⊢
  exact ⟨h.1, by omega, by omega⟩
end Go.Proofs.YtjhkmebmbopfoaaDoor
