/-
  Law 19: awake, Targets.
-/
import Derived.Test.YtkniihjfcagdbaaTgtI
namespace Go.Proofs.Ytkniihjfcagdbaa
set_option linter.unusedSimpArgs false
set_option linter.unusedVariables false
open Go Go.Fx Go.Proofs
namespace FactsTgtJ
theorem es40 : esz Try.prog 40 = some 9 := by kernel_rfl
theorem pl47 : places Try.prog 47 = some [(0, 1), (1, 1), (2, 1), (3, 1), (4, 1), (5, 1), (6, 1), (7, 1), (8, 1)] := by kernel_rfl
theorem slA40 : slA Try.prog 40 = some (47, 9) := by kernel_rfl
theorem zc47 : zc Try.prog 47 = some [.int .i64 0, .int .i64 0, .int .i64 0, .int .i64 0, .int .i64 0, .int .i64 0, .int .i64 0, .int .i64 0, .int .i64 0] := by kernel_rfl
end FactsTgtJ
open FactsTgtJ

theorem sl_of {L : List (List Int)} (hL : ∀ x ∈ L, x.length = 9) {H : Heap} {b o cap : Nat} {c : List Value} (hb : Blk H b c) (h : (c.drop o).take (L.length * 9) = L.flatMap Is) (h1 : L.length ≤ cap) (h2 : cap ≤ 9223372036854775807) :
    SlT H Is 9 (.slice (some ⟨b, o, none⟩) L.length cap) L := by
  have hlen := congrArg List.length h
  rw [List.length_take, List.length_drop, flat_len hL] at hlen
  refine ⟨_, cap, rfl, h1, h2, (fun h => by cases h), .inr ⟨b, o, c, rfl, hb, fun i hi => ⟨by omega, ?_⟩⟩⟩
  rw [← List.drop_drop, take_mid h (by omega)]
  exact flat_at L i (Is_len hL) hi
theorem sl_new {L : List (List Int)} (hL : ∀ x ∈ L, x.length = 9) {H H' : Heap} (hn : New H H' (L.flatMap Is)) (h2 : L.length ≤ 9223372036854775807) : SlT H' Is 9 (.slice (some ⟨H.size, 0, none⟩) L.length L.length) L :=
  sl_of hL hn.own.blk (by rw [List.drop_zero, List.take_of_length_le (by rw [flat_len hL]; exact Nat.le_refl _)]) (Nat.le_refl _) h2
theorem sl_nil (H : Heap) : SlT H Is 9 (.slice none 0 0) [] := ⟨none, 0, rfl, by decide, by decide, fun _ => rfl, .inl rfl⟩

abbrev aw : List (List Int) := [[0, 0, 0, 0, 4, 0, 0, 0, 0], [9, 0, 0, 0, 0, 0, 0, 0, 0], [3, 1, 0, 0, 0, 7, 0, 0, 0]]
abbrev aw2 : List (List Int) := [[9, 0, 0, 0, 0, 0, 0, 0, 0], [3, 1, 0, 0, 0, 7, 0, 0, 0]]
theorem aw9 : ∀ x ∈ aw, x.length = 9 := by decide
theorem aw29 : ∀ x ∈ aw2, x.length = 9 := by decide
theorem nil9 : ∀ x ∈ ([] : List (List Int)), x.length = 9 := by decide
theorem awN : namesS aw = (8, 0) := by decide +kernel
theorem awN2 : namesS aw2 = (0, 1900) := by decide +kernel
theorem awM : mayS aw = true := by decide +kernel
theorem awM0 : mayS [] = false := by decide +kernel

theorem awake_ok (H : Heap) : Ret Try.prog 30 [] H (fun v H' => v = .bool true ∧ Ext H H') := by
  refine Ret.of_at (N := 41) Try.call30 Try.func30 rfl rfl rfl ?_
  refine At.region rfl rfl ?_
  refine Reg.pur rfl rfl rfl rfl (Pur.asg rfl) ?_
  refine Reg.nil ?_
  refine At.region rfl rfl ?_
  refine Reg.pur rfl rfl rfl rfl (Pur.bld (cs := [_, _, _, _, _, _, _, _, _]) pl47 zc47 rfl rfl ⟨rfl, rfl, rfl, rfl, rfl, rfl, rfl, rfl, rfl, rfl⟩) ?_
  refine Reg.pur rfl rfl rfl rfl (Pur.bld (cs := [_, _, _, _, _, _, _, _, _]) pl47 zc47 rfl rfl ⟨rfl, rfl, rfl, rfl, rfl, rfl, rfl, rfl, rfl, rfl⟩) ?_
  refine Reg.pur rfl rfl rfl rfl (Pur.bld (cs := [_, _, _, _, _, _, _, _, _]) pl47 zc47 rfl rfl ⟨rfl, rfl, rfl, rfl, rfl, rfl, rfl, rfl, rfl, rfl⟩) ?_
  refine Reg.op rfl rfl rfl rfl (Does.bslA ([[_, _, _, _, _, _, _, _, _], [_, _, _, _, _, _, _, _, _], [_, _, _, _, _, _, _, _, _]]) slA40 rfl rfl rfl rfl rfl rfl) ?_
  rintro _ H1 ⟨rfl, hp1⟩
  refine Reg.pur rfl rfl rfl rfl (Pur.asg rfl) ?_
  refine Reg.nil ?_
  have hn1 : New H H1 (aw.flatMap Is) := ⟨_, hp1⟩
  have hS := sl_new aw9 hn1 (by decide)
  have hS2 : SlT H1 Is 9 (.slice (some ⟨H.size, 0 + 1 * 9, none⟩) 2 2) aw2 := sl_of aw29 hn1.own.blk rfl (by decide) (by decide)
  refine At.region rfl rfl ?_
  refine Reg.pur rfl rfl rfl rfl (Pur.mv rfl) ?_
  refine Reg.op rfl rfl rfl rfl (Does.call rfl (namesP_ok aw aw9 hS (by decide))) ?_
  rintro _ H2 ⟨rfl, hE2⟩
  refine Reg.pur rfl rfl rfl rfl (Pur.mv rfl) ?_
  refine Reg.pur rfl rfl rfl rfl (Pur.ext rfl rfl) ?_
  refine Reg.pur rfl rfl rfl rfl (Pur.ext rfl rfl) ?_
  refine Reg.pur rfl rfl rfl rfl (Pur.asg rfl) ?_
  refine Reg.pur rfl rfl rfl rfl (Pur.asg rfl) ?_
  refine Reg.nil ?_
  refine At.region rfl rfl ?_
  refine Reg.pur rfl rfl rfl rfl (Pur.mv rfl) ?_
  refine Reg.pur rfl rfl rfl rfl (Pur.cutL es40 rfl rfl (by omega) (by omega) (by omega)) ?_
  refine Reg.op rfl rfl rfl rfl (Does.call rfl (namesP_ok aw2 aw29 (hS2.ext hE2) (by decide))) ?_
  rintro _ H3 ⟨rfl, hE3⟩
  refine Reg.pur rfl rfl rfl rfl (Pur.mv rfl) ?_
  refine Reg.pur rfl rfl rfl rfl (Pur.ext rfl rfl) ?_
  refine Reg.pur rfl rfl rfl rfl (Pur.ext rfl rfl) ?_
  refine Reg.pur rfl rfl rfl rfl (Pur.asg rfl) ?_
  refine Reg.pur rfl rfl rfl rfl (Pur.asg rfl) ?_
  refine Reg.nil ?_
  refine At.region rfl rfl ?_
  refine Reg.pur rfl rfl rfl rfl (Pur.mv rfl) ?_
  refine Reg.pur rfl rfl rfl rfl (Pur.eql rfl rfl) ?_
  refine Reg.pur rfl rfl rfl rfl (Pur.mv rfl) ?_
  refine Reg.known (b' := true) 23 rfl (by first | rfl | simp [awN, awN2, awM, awM0]) ?_
  refine Reg.gpur rfl rfl rfl rfl rfl rfl (Pur.mv rfl) ?_
  refine Reg.gop rfl rfl rfl rfl rfl rfl (Does.call rfl (num_ok _ _)) ?_
  rintro _ H3 ⟨rfl, rfl⟩
  refine Reg.gpur rfl rfl rfl rfl rfl rfl (Pur.eql rfl rfl) ?_
  refine Reg.pur rfl rfl rfl rfl (Pur.pickT rfl rfl) ?_
  refine Reg.pur rfl rfl rfl rfl (Pur.mv rfl) ?_
  refine Reg.known (b' := true) 28 rfl (by first | rfl | simp [awN, awN2, awM, awM0]) ?_
  refine Reg.gpur rfl rfl rfl rfl rfl rfl (Pur.mv rfl) ?_
  refine Reg.gop rfl rfl rfl rfl rfl rfl (Does.call rfl (num_ok _ _)) ?_
  rintro _ H3 ⟨rfl, rfl⟩
  refine Reg.gpur rfl rfl rfl rfl rfl rfl (Pur.eql rfl rfl) ?_
  refine Reg.pur rfl rfl rfl rfl (Pur.pickT rfl rfl) ?_
  refine Reg.pur rfl rfl rfl rfl (Pur.mv rfl) ?_
  refine Reg.known (b' := true) 33 rfl (by first | rfl | simp [awN, awN2, awM, awM0]) ?_
  refine Reg.gpur rfl rfl rfl rfl rfl rfl (Pur.mv rfl) ?_
  refine Reg.gop rfl rfl rfl rfl rfl rfl (Does.call rfl (mayP_ok aw aw9 ((hS.ext hE2).ext hE3) (by decide))) ?_
  rintro _ H4 ⟨rfl, hE4⟩
  refine Reg.pur rfl rfl rfl rfl (Pur.pickT rfl rfl) ?_
  refine Reg.pur rfl rfl rfl rfl (Pur.mv rfl) ?_
  refine Reg.known (b' := true) 37 rfl (by first | rfl | simp [awN, awN2, awM, awM0]) ?_
  refine Reg.gop rfl rfl rfl rfl rfl rfl (Does.call rfl (mayP_ok [] nil9 (sl_nil _) (by decide))) ?_
  rintro _ H5 ⟨rfl, hE5⟩
  refine Reg.gpur rfl rfl rfl rfl rfl rfl (Pur.not rfl) ?_
  refine Reg.pur rfl rfl rfl rfl (Pur.pickT rfl rfl) ?_
  refine Reg.pur rfl rfl rfl rfl (Pur.asg rfl) ?_
  refine Reg.nil ?_
  refine At.ret rfl Try.func30 rfl ?_
  exact ⟨congrArg Value.bool (by simp [awM0]), hn1.ext.trans (hE2.trans (hE3.trans (hE4.trans hE5)))⟩

theorem targets_law {A : Option Addr} {cap : Nat} (L : List (List Int)) (hL : ∀ x ∈ L, x.length = 9) {H : Heap} (hS : SlT H Is 9 (.slice A L.length cap) L) (hb : L.length * 72 ≤ 140737488351232) :
    Ret Try.prog 7 [.slice A L.length cap] H (fun v H' => v = .bool true ∧ Ext H H') := by
  have hm : L.length ≤ 9223372036854775807 := by omega
  refine Ret.of_at (N := 44) Try.call7 Try.func7 rfl rfl rfl ?_
  refine At.region rfl rfl ?_
  refine Reg.pur rfl rfl rfl rfl (Pur.asg rfl) ?_
  refine Reg.nil ?_
  refine At.region rfl rfl ?_
  refine Reg.pur rfl rfl rfl rfl (Pur.mv rfl) ?_
  refine Reg.op rfl rfl rfl rfl (Does.call rfl (lendT_ok L hL hS hb)) ?_
  rintro v H1 ⟨hv, hE1⟩
  refine Reg.pur rfl rfl rfl rfl (Pur.asg rfl) ?_
  refine Reg.nil ?_
  have hS2 := hv.sl hL
  have hv' := hv
  obtain ⟨g, cap', c, rfl, _⟩ := hv'
  refine At.region rfl rfl ?_
  refine Reg.pur rfl rfl rfl rfl (Pur.mv rfl) ?_
  refine Reg.op rfl rfl rfl rfl (Does.call rfl (namesP_ok L hL hS2 hm)) ?_
  rintro _ H2 ⟨rfl, hE2⟩
  refine Reg.pur rfl rfl rfl rfl (Pur.mv rfl) ?_
  refine Reg.pur rfl rfl rfl rfl (Pur.ext rfl rfl) ?_
  refine Reg.pur rfl rfl rfl rfl (Pur.ext rfl rfl) ?_
  refine Reg.pur rfl rfl rfl rfl (Pur.asg rfl) ?_
  refine Reg.pur rfl rfl rfl rfl (Pur.asg rfl) ?_
  refine Reg.nil ?_
  refine At.region rfl rfl ?_
  refine Reg.pur rfl rfl rfl rfl (Pur.mv rfl) ?_
  refine Reg.op rfl rfl rfl rfl (Does.call rfl (namesR_ok L hL (hS.ext (hE1.trans hE2)) hm)) ?_
  rintro _ H3 ⟨rfl, hE3⟩
  refine Reg.pur rfl rfl rfl rfl (Pur.mv rfl) ?_
  refine Reg.pur rfl rfl rfl rfl (Pur.ext rfl rfl) ?_
  refine Reg.pur rfl rfl rfl rfl (Pur.ext rfl rfl) ?_
  refine Reg.pur rfl rfl rfl rfl (Pur.asg rfl) ?_
  refine Reg.pur rfl rfl rfl rfl (Pur.asg rfl) ?_
  refine Reg.nil ?_
  refine At.region rfl rfl ?_
  refine Reg.pur rfl rfl rfl rfl (Pur.mv rfl) ?_
  refine Reg.pur rfl rfl rfl rfl (Pur.mv rfl) ?_
  refine Reg.pur rfl rfl rfl rfl (Pur.eql rfl rfl) ?_
  refine Reg.pur rfl rfl rfl rfl (Pur.mv rfl) ?_
  refine Reg.known (b' := true) 23 rfl (by first | rfl | simp) ?_
  refine Reg.gpur rfl rfl rfl rfl rfl rfl (Pur.mv rfl) ?_
  refine Reg.gop rfl rfl rfl rfl rfl rfl (Does.call rfl (num_ok _ _)) ?_
  rintro _ H3 ⟨rfl, rfl⟩
  refine Reg.gpur rfl rfl rfl rfl rfl rfl (Pur.mv rfl) ?_
  refine Reg.gpur rfl rfl rfl rfl rfl rfl (Pur.eql rfl rfl) ?_
  refine Reg.pur rfl rfl rfl rfl (Pur.pickT rfl rfl) ?_
  refine Reg.pur rfl rfl rfl rfl (Pur.mv rfl) ?_
  refine Reg.known (b' := true) 29 rfl (by first | rfl | simp) ?_
  refine Reg.gpur rfl rfl rfl rfl rfl rfl (Pur.mv rfl) ?_
  refine Reg.gop rfl rfl rfl rfl rfl rfl (Does.call rfl (mayP_ok L hL ((hS2.ext hE2).ext hE3) hm)) ?_
  rintro _ H4 ⟨rfl, hE4⟩
  refine Reg.gpur rfl rfl rfl rfl rfl rfl (Pur.mv rfl) ?_
  refine Reg.gop rfl rfl rfl rfl rfl rfl (Does.call rfl (targetMay_ok L hL (hS.ext (((hE1.trans hE2).trans hE3).trans hE4)) hm)) ?_
  rintro _ H5 ⟨rfl, hE5⟩
  refine Reg.gpur rfl rfl rfl rfl rfl rfl (Pur.eqB Try.underlying4 rfl rfl) ?_
  refine Reg.pur rfl rfl rfl rfl (Pur.pickT rfl rfl) ?_
  refine Reg.pur rfl rfl rfl rfl (Pur.mv rfl) ?_
  refine Reg.known (b' := true) 36 rfl (by first | rfl | simp) ?_
  refine Reg.gpur rfl rfl rfl rfl rfl rfl (Pur.mv rfl) ?_
  refine Reg.gpur rfl rfl rfl rfl rfl rfl (Pur.mv rfl) ?_
  refine Reg.gop rfl rfl rfl rfl rfl rfl (Does.call rfl (keptT_ok L hL (hS.ext ((((hE1.trans hE2).trans hE3).trans hE4).trans hE5)) (hv.ext (((hE2.trans hE3).trans hE4).trans hE5)) (by omega))) ?_
  rintro _ H5 ⟨rfl, rfl⟩
  refine Reg.pur rfl rfl rfl rfl (Pur.pickT rfl rfl) ?_
  refine Reg.pur rfl rfl rfl rfl (Pur.mv rfl) ?_
  refine Reg.known (b' := true) 41 rfl (by first | rfl | simp) ?_
  refine Reg.gop rfl rfl rfl rfl rfl rfl (Does.call rfl (awake_ok _)) ?_
  rintro _ H6 ⟨rfl, hE6⟩
  refine Reg.pur rfl rfl rfl rfl (Pur.pickT rfl rfl) ?_
  refine Reg.pur rfl rfl rfl rfl (Pur.asg rfl) ?_
  refine Reg.nil ?_
  refine At.ret rfl Try.func7 rfl ?_
  exact ⟨rfl, ((((hE1.trans hE2).trans hE3).trans hE4).trans hE5).trans hE6⟩
end Go.Proofs.Ytkniihjfcagdbaa
