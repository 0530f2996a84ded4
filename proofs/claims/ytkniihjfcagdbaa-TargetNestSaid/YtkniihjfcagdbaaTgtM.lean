/-
  Law 19: TargetNest's walk.
-/
import Derived.Test.YtkniihjfcagdbaaTgtL
namespace Go.Proofs.Ytkniihjfcagdbaa
set_option linter.unusedSimpArgs false
set_option linter.unusedVariables false
open Go Go.Fx Go.Proofs
namespace FactsTgtM
theorem apt40 : appT Try.prog 40 = some (47, 9, 72) := by kernel_rfl
theorem es48 : esz Try.prog 48 = some 1 := by kernel_rfl
theorem isl40 : isSl Try.prog 40 = true := by kernel_rfl
theorem isl48 : isSl Try.prog 48 = true := by kernel_rfl
theorem pl47 : places Try.prog 47 = some [(0, 1), (1, 1), (2, 1), (3, 1), (4, 1), (5, 1), (6, 1), (7, 1), (8, 1)] := by kernel_rfl
theorem sc3 : sc Try.prog 3 = true := by kernel_rfl
theorem slA40 : slA Try.prog 40 = some (47, 9) := by kernel_rfl
theorem zc47 : zc Try.prog 47 = some [.int .i64 0, .int .i64 0, .int .i64 0, .int .i64 0, .int .i64 0, .int .i64 0, .int .i64 0, .int .i64 0, .int .i64 0] := by kernel_rfl
end FactsTgtM
open FactsTgtM

theorem targetNest_law {A0 : Option Addr} {cap0 : Nat} (xs : List Int) (y : Int) {H : Heap} (hX : SlT H (fun n => [I n]) 1 (.slice A0 xs.length cap0) xs) (hm : xs.length ≤ 9223372036854775807) :
    Ret Try.prog 9 [.slice A0 xs.length cap0, I y] H (fun v H' => v = .bool true ∧ Ext H H') := by
  obtain ⟨m0, m1⟩ := and_le y 1023 (by decide)
  have e1023 : ((1023 : Nat) : Int) = 1023 := rfl
  rw [e1023] at m0 m1
  refine Ret.of_at (N := 67) Try.call9 Try.func9 rfl rfl rfl ?_
  refine At.region rfl rfl ?_
  refine Reg.pur rfl rfl rfl rfl (Pur.asg rfl) ?_
  refine Reg.nil ?_
  refine At.region rfl rfl ?_
  refine Reg.op rfl rfl rfl rfl (Does.call rfl (awake_ok _)) ?_
  rintro _ H3 ⟨rfl, hE3⟩
  refine Reg.pur rfl rfl rfl rfl (Pur.not rfl) ?_
  refine Reg.nil ?_
  refine At.condF rfl rfl rfl ?_
  refine At.region rfl rfl ?_
  refine Reg.pur rfl rfl rfl rfl (Pur.mv rfl) ?_
  refine Reg.pur rfl rfl rfl rfl (Pur.and rfl rfl) ?_
  refine Reg.pur rfl rfl rfl rfl (Pur.bld (cs := [_, _, _, _, _, _, _, _, _]) pl47 zc47 rfl rfl ⟨rfl, rfl, rfl, rfl, rfl, rfl, rfl, rfl, rfl, rfl⟩) ?_
  refine Reg.pur rfl rfl rfl rfl (Pur.bld (cs := [_, _, _, _, _, _, _, _, _]) pl47 zc47 rfl rfl ⟨rfl, rfl, rfl, rfl, rfl, rfl, rfl, rfl, rfl, rfl⟩) ?_
  refine Reg.op rfl rfl rfl rfl (Does.bslA ([[_, _, _, _, _, _, _, _, _], [_, _, _, _, _, _, _, _, _]]) slA40 rfl rfl rfl rfl rfl rfl) ?_
  rintro _ H4 ⟨rfl, hp4⟩
  refine Reg.pur rfl rfl rfl rfl (Pur.asg rfl) ?_
  refine Reg.nil ?_
  refine At.region rfl rfl ?_
  refine Reg.pur rfl rfl rfl rfl (Pur.mv rfl) ?_
  refine Reg.pur rfl rfl rfl rfl (Pur.and rfl rfl) ?_
  refine Reg.pur rfl rfl rfl rfl (Pur.asg rfl) ?_
  refine Reg.nil ?_
  generalize bits .and .i64 y 1023 = a at *
  have hn4 : New H3 H4 (([[0, 0, 0, 0, a, 0, 0, 0, 0], [9, 0, 0, 0, 0, 0, 0, 0, 0]] : List (List Int)).flatMap Is) := ⟨_, hp4⟩
  have hO4 : OwnS H4 H.size 47 9 (.slice (some ⟨H3.size, 0, none⟩) 2 2) 2 (([[0, 0, 0, 0, a, 0, 0, 0, 0], [9, 0, 0, 0, 0, 0, 0, 0, 0]] : List (List Int)).flatMap Is) := by rw [hp4]; exact OwnS.new (xs := ([[0, 0, 0, 0, a, 0, 0, 0, 0], [9, 0, 0, 0, 0, 0, 0, 0, 0]] : List (List Int)).flatMap Is) rfl (by decide) hE3.1
  refine At.region rfl rfl ?_
  refine Reg.pur rfl rfl rfl rfl (Pur.asg rfl) ?_
  refine Reg.nil ?_
  refine At.loop (σ := Nat × (Option Addr × Nat) × List (List Int) × Int) (fun s => [(7, I s.1), (5, .slice s.2.1.1 s.2.2.1.length s.2.1.2), (6, I s.2.2.2), (0, .slice A0 xs.length cap0)]) (fun s H' => s.1 ≤ 30 ∧ s.2.2.1.length = 2 + 2 * s.1 ∧ Nest s.2.2.1 s.2.2.2 ∧ OwnS H' H.size 47 9 (.slice s.2.1.1 s.2.2.1.length s.2.1.2) s.2.2.1.length (s.2.2.1.flatMap Is) ∧ Ext H H') (fun s => 30 - s.1) (0, (some ⟨H3.size, 0, none⟩, 2), [[0, 0, 0, 0, a, 0, 0, 0, 0], [9, 0, 0, 0, 0, 0, 0, 0, 0]], a) rfl ⟨rfl, rfl, rfl, rfl, trivial⟩ ⟨by omega, rfl, nest_base ⟨m0, m1⟩, hO4, hE3.trans hn4.ext⟩ ?_
  rintro ⟨i, ⟨A, cap⟩, L, m⟩ H5 ⟨hi, hl, hN, hO, hE⟩ ih
  dsimp only at hi hl hN hO hE ⊢
  clear hO4 hn4 hp4 m0 m1
  refine At.region rfl rfl ?_
  refine Reg.pur rfl rfl rfl rfl (Pur.mv rfl) ?_
  refine Reg.pur rfl rfl rfl rfl (Pur.mv rfl) ?_
  refine Reg.pur rfl rfl rfl rfl (Pur.lenS isl48 rfl) ?_
  refine Reg.pur rfl rfl rfl rfl (Pur.lss rfl rfl) ?_
  refine Reg.pur rfl rfl rfl rfl (Pur.mv rfl) ?_
  refine Reg.case 24 rfl (fun hc1 => ?_) (fun hc1 => ?_)
  · refine Reg.gpur rfl rfl rfl rfl rfl rfl (Pur.mv rfl) ?_
    refine Reg.gpur rfl rfl rfl rfl rfl rfl (Pur.lss rfl rfl) ?_
    refine Reg.pur rfl rfl rfl rfl (Pur.pickT rfl rfl) ?_
    refine Reg.nil ?_
    refine At.cond rfl rfl (fun hb2 => ?_) (fun hb2 => ?_)
    · simp only [decide_eq_true_eq] at *
      have hlt : i < xs.length := by omega
      obtain ⟨b, o, c, rfl, hB, _, hd⟩ := (hX.ext hE).at hlt
      generalize xs[i] = x at hd
      obtain ⟨c0, c1⟩ := and_le x 4095 (by decide)
      have e4095 : ((4095 : Nat) : Int) = 4095 := rfl
      rw [e4095] at c0 c1
      refine At.region rfl rfl ?_
      refine Reg.pur rfl rfl rfl rfl (Pur.mv rfl) ?_
      refine Reg.pur rfl rfl rfl rfl (Pur.mv rfl) ?_
      refine Reg.pur rfl rfl rfl rfl (Pur.idx _ es48 rfl rfl (by omega) (by omega)) ?_
      refine Reg.lod rfl rfl rfl rfl (Lod.ld sc3 rfl hB (at_tk (j := 0) hd (by decide) rfl)) ?_
      refine Reg.pur rfl rfl rfl rfl (Pur.and rfl rfl) ?_
      refine Reg.pur rfl rfl rfl rfl (Pur.asg rfl) ?_
      refine Reg.nil ?_
      generalize bits .and .i64 x 4095 = k at *
      refine At.region rfl rfl ?_
      refine Reg.pur rfl rfl rfl rfl (Pur.mv rfl) ?_
      refine Reg.pur rfl rfl rfl rfl (Pur.mv rfl) ?_
      refine Reg.pur rfl rfl rfl rfl (Pur.max2 rfl rfl) ?_
      refine Reg.pur rfl rfl rfl rfl (Pur.asg rfl) ?_
      refine Reg.nil ?_
      refine At.region rfl rfl ?_
      refine Reg.pur rfl rfl rfl rfl (Pur.mv rfl) ?_
      refine Reg.pur rfl rfl rfl rfl (Pur.mv rfl) ?_
      refine Reg.pur rfl rfl rfl rfl (Pur.mv rfl) ?_
      refine Reg.pur rfl rfl rfl rfl (Pur.lenS isl40 rfl) ?_
      first | refine Reg.pur rfl rfl rfl rfl (Pur.sub64 rfl rfl (by omega)) ?_ | refine Reg.pur rfl rfl rfl rfl (Pur.sub64 rfl rfl (by assumption)) ?_ | refine Reg.pur rfl rfl rfl rfl (Pur.sub rfl rfl) ?_
      refine Reg.pur rfl rfl rfl rfl (Pur.bld (cs := [_, _, _, _, _, _, _, _, _]) pl47 zc47 rfl rfl ⟨rfl, rfl, rfl, rfl, rfl, rfl, rfl, rfl, rfl, rfl⟩) ?_
      refine Reg.pur rfl rfl rfl rfl (Pur.mv rfl) ?_
      refine Reg.pur rfl rfl rfl rfl (Pur.lenS isl40 rfl) ?_
      refine Reg.pur rfl rfl rfl rfl (Pur.bld (cs := [_, _, _, _, _, _, _, _, _]) pl47 zc47 rfl rfl ⟨rfl, rfl, rfl, rfl, rfl, rfl, rfl, rfl, rfl, rfl⟩) ?_
      refine Reg.op rfl rfl rfl rfl (Does.bslA ([[_, _, _, _, _, _, _, _, _], [_, _, _, _, _, _, _, _, _]]) slA40 rfl rfl rfl rfl rfl rfl) ?_
      rintro _ H6 ⟨rfl, rfl⟩
      refine Reg.op rfl rfl rfl rfl (Does.app apt40 rfl rfl (hO.ext (New.of_push (xs := Is [3, (L.length : Int) - 1, 0, 0, 0, k, 0, 0, 0] ++ Is [9, L.length, 0, 0, 0, 0, 0, 0, 0]).ext)) (OwnS.new (xs := Is [3, (L.length : Int) - 1, 0, 0, 0, k, 0, 0, 0] ++ Is [9, L.length, 0, 0, 0, 0, 0, 0, 0]) (n := 2) (H := H5) (B := 0) rfl (by decide) (Nat.zero_le _)).src rfl (by rw [show maxLen = 9223372036854775807 from rfl]; omega) (by omega) (Nat.le_trans hE.1 (by simp))) ?_
      rintro v' H7 ⟨ho7, hbut, _, _⟩
      refine Reg.pur rfl rfl rfl rfl (Pur.asg rfl) ?_
      refine Reg.nil ?_
      refine At.region rfl rfl ?_
      refine Reg.pur rfl rfl rfl rfl (Pur.mv rfl) ?_
      first | refine Reg.pur rfl rfl rfl rfl (Pur.add64 rfl rfl (by omega)) ?_ | refine Reg.pur rfl rfl rfl rfl (Pur.add64 rfl rfl (by assumption)) ?_ | refine Reg.pur rfl rfl rfl rfl (Pur.add rfl rfl) ?_
      refine Reg.pur rfl rfl rfl rfl (Pur.asg rfl) ?_
      refine Reg.nil ?_
      have hO7 : OwnS H7 H.size 47 9 v' (L ++ [[3, (L.length : Int) - 1, 0, 0, 0, k, 0, 0, 0], [9, L.length, 0, 0, 0, 0, 0, 0, 0]]).length ((L ++ [[3, (L.length : Int) - 1, 0, 0, 0, k, 0, 0, 0], [9, L.length, 0, 0, 0, 0, 0, 0, 0]]).flatMap Is) := by rw [List.flatMap_append, List.length_append]; exact ho7
      have hE7 : Ext H H7 := (hE.trans (New.of_push (xs := Is [3, (L.length : Int) - 1, 0, 0, 0, k, 0, 0, 0] ++ Is [9, L.length, 0, 0, 0, 0, 0, 0, 0]).ext)).trBut hbut (fun b hb h => by have := hO.2; rcases this with ⟨_, h2⟩ | ⟨g', _, _, h1, hg', _⟩; (exact absurd h2 (by omega)); (cases h1; simp only [Value.ownBlock, Option.some.injEq] at h; omega))
      have hN7 := nest_step hN (c := k) ⟨c0, c1⟩
      have hl7 : (L ++ [[3, (L.length : Int) - 1, 0, 0, 0, k, 0, 0, 0], [9, L.length, 0, 0, 0, 0, 0, 0, 0]]).length = L.length + 2 := by simp
      generalize L ++ [[3, (L.length : Int) - 1, 0, 0, 0, k, 0, 0, 0], [9, L.length, 0, 0, 0, 0, 0, 0, 0]] = L7 at hO7 hN7 hl7
      obtain ⟨A7, cap7, rfl⟩ : ∃ A7 cap7, v' = .slice A7 L7.length cap7 := by obtain ⟨_, ⟨rfl, h⟩ | ⟨g, cap, cur, rfl, _⟩⟩ := hO7; exact ⟨none, 0, by rw [h]⟩; exact ⟨_, _, rfl⟩
      exact At.via (ih (i + 1, (A7, cap7), L7, max m k) H7 ⟨by omega, by rw [hl7, hl]; omega, hN7, hO7, hE7⟩ (by simp only; omega)) ⟨rfl, rfl, rfl, rfl, trivial⟩
    · have hS := own_sl hN.len hO
      have hM := hN.mayS (by omega)
      have hn0 := hN.m0
      have hn1 := hN.m1
      have hnm : namesS L = (m + 1, 0) := by rw [namesS_t hM, hN.nam]
      refine At.region rfl rfl ?_
      refine Reg.pur rfl rfl rfl rfl (Pur.mv rfl) ?_
      refine Reg.op rfl rfl rfl rfl (Does.call rfl (namesP_ok L hN.len hS (by omega))) ?_
      rintro _ H8 ⟨rfl, hE8⟩
      refine Reg.pur rfl rfl rfl rfl (Pur.mv rfl) ?_
      refine Reg.pur rfl rfl rfl rfl (Pur.ext rfl rfl) ?_
      refine Reg.pur rfl rfl rfl rfl (Pur.ext rfl rfl) ?_
      refine Reg.pur rfl rfl rfl rfl (Pur.asg rfl) ?_
      refine Reg.pur rfl rfl rfl rfl (Pur.asg rfl) ?_
      refine Reg.nil ?_
      refine At.region rfl rfl ?_
      refine Reg.pur rfl rfl rfl rfl (Pur.mv rfl) ?_
      refine Reg.op rfl rfl rfl rfl (Does.call rfl (mayP_ok L hN.len (hS.ext hE8) (by omega))) ?_
      rintro _ H9 ⟨rfl, hE9⟩
      refine Reg.pur rfl rfl rfl rfl (Pur.mv rfl) ?_
      refine Reg.known (b' := true) 56 rfl (by first | rfl | (simp; done) | assumption | (simp [hnm]; done)) ?_
      refine Reg.gpur rfl rfl rfl rfl rfl rfl (Pur.mv rfl) ?_
      refine Reg.gop rfl rfl rfl rfl rfl rfl (Does.call rfl (num_ok _ _)) ?_
      rintro _ H9 ⟨rfl, rfl⟩
      refine Reg.gpur rfl rfl rfl rfl rfl rfl (Pur.eql rfl rfl) ?_
      refine Reg.pur rfl rfl rfl rfl (Pur.pickT rfl rfl) ?_
      refine Reg.pur rfl rfl rfl rfl (Pur.mv rfl) ?_
      refine Reg.known (b' := true) 61 rfl (by first | rfl | (simp; done) | assumption | (simp [hnm]; done)) ?_
      refine Reg.gpur rfl rfl rfl rfl rfl rfl (Pur.mv rfl) ?_
      refine Reg.gpur rfl rfl rfl rfl rfl rfl (Pur.mv rfl) ?_
      first | refine Reg.gpur rfl rfl rfl rfl rfl rfl (Pur.add64 rfl rfl (by omega)) ?_ | refine Reg.gpur rfl rfl rfl rfl rfl rfl (Pur.add64 rfl rfl (by assumption)) ?_ | refine Reg.gpur rfl rfl rfl rfl rfl rfl (Pur.add rfl rfl) ?_
      refine Reg.gpur rfl rfl rfl rfl rfl rfl (Pur.eql rfl rfl) ?_
      refine Reg.pur rfl rfl rfl rfl (Pur.pickT rfl rfl) ?_
      refine Reg.pur rfl rfl rfl rfl (Pur.asg rfl) ?_
      refine Reg.nil ?_
      refine At.ret rfl Try.func9 rfl ?_
      exact ⟨congrArg Value.bool (by simp [hnm]), (hE.trans hE8).trans hE9⟩
  · refine Reg.skip rfl rfl rfl rfl rfl rfl rfl ?_
    refine Reg.skip rfl rfl rfl rfl rfl rfl rfl ?_
    refine Reg.pur rfl rfl rfl rfl (Pur.pickF rfl rfl) ?_
    refine Reg.nil ?_
    refine At.condF rfl rfl rfl ?_
    have hS := own_sl hN.len hO
    have hM := hN.mayS (by omega)
    have hn0 := hN.m0
    have hn1 := hN.m1
    have hnm : namesS L = (m + 1, 0) := by rw [namesS_t hM, hN.nam]
    refine At.region rfl rfl ?_
    refine Reg.pur rfl rfl rfl rfl (Pur.mv rfl) ?_
    refine Reg.op rfl rfl rfl rfl (Does.call rfl (namesP_ok L hN.len hS (by omega))) ?_
    rintro _ H8 ⟨rfl, hE8⟩
    refine Reg.pur rfl rfl rfl rfl (Pur.mv rfl) ?_
    refine Reg.pur rfl rfl rfl rfl (Pur.ext rfl rfl) ?_
    refine Reg.pur rfl rfl rfl rfl (Pur.ext rfl rfl) ?_
    refine Reg.pur rfl rfl rfl rfl (Pur.asg rfl) ?_
    refine Reg.pur rfl rfl rfl rfl (Pur.asg rfl) ?_
    refine Reg.nil ?_
    refine At.region rfl rfl ?_
    refine Reg.pur rfl rfl rfl rfl (Pur.mv rfl) ?_
    refine Reg.op rfl rfl rfl rfl (Does.call rfl (mayP_ok L hN.len (hS.ext hE8) (by omega))) ?_
    rintro _ H9 ⟨rfl, hE9⟩
    refine Reg.pur rfl rfl rfl rfl (Pur.mv rfl) ?_
    refine Reg.known (b' := true) 56 rfl (by first | rfl | (simp; done) | assumption | (simp [hnm]; done)) ?_
    refine Reg.gpur rfl rfl rfl rfl rfl rfl (Pur.mv rfl) ?_
    refine Reg.gop rfl rfl rfl rfl rfl rfl (Does.call rfl (num_ok _ _)) ?_
    rintro _ H9 ⟨rfl, rfl⟩
    refine Reg.gpur rfl rfl rfl rfl rfl rfl (Pur.eql rfl rfl) ?_
    refine Reg.pur rfl rfl rfl rfl (Pur.pickT rfl rfl) ?_
    refine Reg.pur rfl rfl rfl rfl (Pur.mv rfl) ?_
    refine Reg.known (b' := true) 61 rfl (by first | rfl | (simp; done) | assumption | (simp [hnm]; done)) ?_
    refine Reg.gpur rfl rfl rfl rfl rfl rfl (Pur.mv rfl) ?_
    refine Reg.gpur rfl rfl rfl rfl rfl rfl (Pur.mv rfl) ?_
    first | refine Reg.gpur rfl rfl rfl rfl rfl rfl (Pur.add64 rfl rfl (by omega)) ?_ | refine Reg.gpur rfl rfl rfl rfl rfl rfl (Pur.add64 rfl rfl (by assumption)) ?_ | refine Reg.gpur rfl rfl rfl rfl rfl rfl (Pur.add rfl rfl) ?_
    refine Reg.gpur rfl rfl rfl rfl rfl rfl (Pur.eql rfl rfl) ?_
    refine Reg.pur rfl rfl rfl rfl (Pur.pickT rfl rfl) ?_
    refine Reg.pur rfl rfl rfl rfl (Pur.asg rfl) ?_
    refine Reg.nil ?_
    refine At.ret rfl Try.func9 rfl ?_
    exact ⟨congrArg Value.bool (by simp [hnm]), (hE.trans hE8).trans hE9⟩
end Go.Proofs.Ytkniihjfcagdbaa
