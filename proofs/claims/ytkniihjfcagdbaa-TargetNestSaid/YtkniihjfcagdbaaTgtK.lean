/-
  Law 19: TargetForms.
-/
import Derived.Test.YtkniihjfcagdbaaTgtJ
namespace Go.Proofs.Ytkniihjfcagdbaa
set_option linter.unusedSimpArgs false
set_option linter.unusedVariables false
open Go Go.Fx Go.Proofs
namespace FactsTgtK
theorem apt40 : appT Try.prog 40 = some (47, 9, 72) := by kernel_rfl
theorem es40 : esz Try.prog 40 = some 9 := by kernel_rfl
theorem fo47_0 : foff Try.prog 47 0 = some 0 := by kernel_rfl
theorem fo47_1 : foff Try.prog 47 1 = some 1 := by kernel_rfl
theorem fo47_2 : foff Try.prog 47 2 = some 2 := by kernel_rfl
theorem fo47_4 : foff Try.prog 47 4 = some 4 := by kernel_rfl
theorem fo47_5 : foff Try.prog 47 5 = some 5 := by kernel_rfl
theorem fo47_6 : foff Try.prog 47 6 = some 6 := by kernel_rfl
theorem fo47_8 : foff Try.prog 47 8 = some 8 := by kernel_rfl
theorem pl47 : places Try.prog 47 = some [(0, 1), (1, 1), (2, 1), (3, 1), (4, 1), (5, 1), (6, 1), (7, 1), (8, 1)] := by kernel_rfl
theorem sc3 : sc Try.prog 3 = true := by kernel_rfl
theorem slA40 : slA Try.prog 40 = some (47, 9) := by kernel_rfl
theorem zc47 : zc Try.prog 47 = some [.int .i64 0, .int .i64 0, .int .i64 0, .int .i64 0, .int .i64 0, .int .i64 0, .int .i64 0, .int .i64 0, .int .i64 0] := by kernel_rfl
end FactsTgtK
open FactsTgtK

theorem mayS_row {L : List (List Int)} (i : Nat) (hi : i < L.length) (h : mayT L[i] = false) : mayS L = false := by
  unfold mayS; rw [all_of_take hi h]; simp
theorem _root_.Go.Fx.Ext.upd2 {H H3 H4 H6 : Heap} {c c' : List Value} (h : Ext H H3) {H5 : Heap} (hn : New H3 H4 c) (hE5 : Ext H4 H5) (hu : Upd H5 H6 H3.size c') : Ext H H6 :=
  ((h.trans hn.ext).trans hE5).upd hu h.1
theorem own_sl {L : List (List Int)} (hL : ∀ x ∈ L, x.length = 9) {H : Heap} {B : Nat} {ty : TypeId} {v : Value} (h : OwnS H B ty 9 v L.length (L.flatMap Is)) : SlT H Is 9 v L := by
  obtain ⟨h1, ⟨rfl, h0⟩ | ⟨g, cap, cur, rfl, h2, h3, h4, h5, h6, h7⟩⟩ := h
  · have : L = [] := by simpa using h0
    subst this; exact sl_nil H
  · exact sl_of (o := 0) hL ⟨ty, _, by simpa using h3⟩ (by simpa using h7) h4 h5

abbrev R0 : List Int := [0, 0, 0, 0, 1, 0, 0, 0, 0]
abbrev R1 : List Int := [1, 0, 0, 0, 2, 0, 0, 0, 0]
abbrev R2 : List Int := [8, 0, 1, 0, 5, 0, 0, 0, 0]
abbrev R3 : List Int := [9, 2, 0, 0, 0, 0, 0, 0, 0]
abbrev R4 : List Int := [0, 0, 0, 0, 2, 0, 0, 0, 0]
abbrev R5 : List Int := [10, 3, 4, 0, 3, 0, 0, 0, 0]
abbrev R6 : List Int := [4, 5, 0, 0, 0, 5, 6, 0, 0]
abbrev Rs : List (List Int) := [R0, R1, R2, R3, R4, R5, R6]
theorem Rs9 : ∀ x ∈ Rs, x.length = 9 := by decide
theorem RsM : mayS Rs = true := by decide +kernel

theorem targetForms_law (w x : Int) (H : Heap) : Ret Try.prog 8 [I w, I x] H (fun v H' => v = .bool true ∧ Ext H H') := by
  obtain ⟨m0, m1⟩ := and_le x 1023 (by decide)
  have e1023 : ((1023 : Nat) : Int) = 1023 := rfl
  rw [e1023] at m0 m1
  refine Ret.of_at (N := 140) Try.call8 Try.func8 rfl rfl rfl ?_
  refine At.region rfl rfl ?_
  refine Reg.pur rfl rfl rfl rfl (Pur.asg rfl) ?_
  refine Reg.nil ?_
  refine At.region rfl rfl ?_
  refine Reg.op rfl rfl rfl rfl (Does.call rfl (awake_ok _)) ?_
  rintro _ H3 ⟨rfl, hE3⟩
  refine Reg.pur rfl rfl rfl rfl (Pur.not rfl) ?_
  refine Reg.nil ?_
  refine At.condF rfl rfl rfl ?_
  refine At.region rfl rfl ?_
  refine Reg.pur rfl rfl rfl rfl (Pur.mv rfl) ?_
  refine Reg.pur rfl rfl rfl rfl (Pur.and rfl rfl) ?_
  first | refine Reg.pur rfl rfl rfl rfl (Pur.add64 rfl rfl (by omega)) ?_ | refine Reg.pur rfl rfl rfl rfl (Pur.add64 rfl rfl (by assumption)) ?_ | refine Reg.pur rfl rfl rfl rfl (Pur.add rfl rfl) ?_
  refine Reg.pur rfl rfl rfl rfl (Pur.asg rfl) ?_
  refine Reg.nil ?_
  generalize bits .and .i64 x 1023 = a at *
  refine At.region rfl rfl ?_
  refine Reg.pur rfl rfl rfl rfl (Pur.bld (cs := [_, _, _, _, _, _, _, _, _]) pl47 zc47 rfl rfl ⟨rfl, rfl, rfl, rfl, rfl, rfl, rfl, rfl, rfl, rfl⟩) ?_
  refine Reg.pur rfl rfl rfl rfl (Pur.bld (cs := [_, _, _, _, _, _, _, _, _]) pl47 zc47 rfl rfl ⟨rfl, rfl, rfl, rfl, rfl, rfl, rfl, rfl, rfl, rfl⟩) ?_
  refine Reg.pur rfl rfl rfl rfl (Pur.bld (cs := [_, _, _, _, _, _, _, _, _]) pl47 zc47 rfl rfl ⟨rfl, rfl, rfl, rfl, rfl, rfl, rfl, rfl, rfl, rfl⟩) ?_
  refine Reg.pur rfl rfl rfl rfl (Pur.bld (cs := [_, _, _, _, _, _, _, _, _]) pl47 zc47 rfl rfl ⟨rfl, rfl, rfl, rfl, rfl, rfl, rfl, rfl, rfl, rfl⟩) ?_
  refine Reg.pur rfl rfl rfl rfl (Pur.bld (cs := [_, _, _, _, _, _, _, _, _]) pl47 zc47 rfl rfl ⟨rfl, rfl, rfl, rfl, rfl, rfl, rfl, rfl, rfl, rfl⟩) ?_
  refine Reg.pur rfl rfl rfl rfl (Pur.bld (cs := [_, _, _, _, _, _, _, _, _]) pl47 zc47 rfl rfl ⟨rfl, rfl, rfl, rfl, rfl, rfl, rfl, rfl, rfl, rfl⟩) ?_
  refine Reg.pur rfl rfl rfl rfl (Pur.bld (cs := [_, _, _, _, _, _, _, _, _]) pl47 zc47 rfl rfl ⟨rfl, rfl, rfl, rfl, rfl, rfl, rfl, rfl, rfl, rfl⟩) ?_
  refine Reg.op rfl rfl rfl rfl (Does.bslA ([[_, _, _, _, _, _, _, _, _], [_, _, _, _, _, _, _, _, _], [_, _, _, _, _, _, _, _, _], [_, _, _, _, _, _, _, _, _], [_, _, _, _, _, _, _, _, _], [_, _, _, _, _, _, _, _, _], [_, _, _, _, _, _, _, _, _]]) slA40 rfl rfl rfl rfl rfl rfl) ?_
  rintro _ H4 ⟨rfl, hp4⟩
  refine Reg.pur rfl rfl rfl rfl (Pur.asg rfl) ?_
  refine Reg.nil ?_
  have hn4 : New H3 H4 (Rs.flatMap Is) := ⟨_, hp4⟩
  have hO4 : OwnS H4 H3.size 47 9 (.slice (some ⟨H3.size, 0, none⟩) 7 7) 7 (Rs.flatMap Is) := by rw [hp4]; exact OwnS.new (xs := Rs.flatMap Is) rfl (by decide) (Nat.le_refl _)
  have hS := sl_new Rs9 hn4 (by decide)
  refine At.region rfl rfl ?_
  refine Reg.pur rfl rfl rfl rfl (Pur.mv rfl) ?_
  refine Reg.op rfl rfl rfl rfl (Does.call rfl (mayP_ok Rs Rs9 hS (by decide))) ?_
  rintro _ H5 ⟨rfl, hE5⟩
  refine Reg.pur rfl rfl rfl rfl (Pur.not rfl) ?_
  refine Reg.nil ?_
  have hB := hn4.own.ext hE5
  refine At.condF rfl rfl (by simp [RsM]) ?_
  refine At.region rfl rfl ?_
  refine Reg.pur rfl rfl rfl rfl (Pur.mv rfl) ?_
  refine Reg.pur rfl rfl rfl rfl (Pur.cnv Try.underlying3 Try.underlying36 rfl) ?_
  first | refine Reg.pur rfl rfl rfl rfl (Pur.rem rfl rfl (by omega)) ?_ | refine Reg.pur rfl rfl rfl rfl (Pur.rem rfl rfl (by decide)) ?_
  refine Reg.nil ?_
  refine At.region rfl rfl ?_
  refine Reg.pur rfl rfl rfl rfl (Pur.eql rfl rfl) ?_
  refine Reg.pur rfl rfl rfl rfl (Pur.asg rfl) ?_
  refine Reg.nil ?_
  refine At.joinc (σ := Value × List (List Int)) (fun s => [(6, s.1)]) (fun s H' => SlT H' Is 9 s.1 s.2 ∧ (∀ x ∈ s.2, x.length = 9) ∧ s.2.length ≤ 100 ∧ mayS s.2 = false ∧ Ext H H') rfl (fun hJ => ?_) (fun s H7 ⟨hS, hL, hl, hM, hE7⟩ => ?_)
  · refine At.cond rfl rfl (fun hb1 => ?_) (fun hb1 => ?_)
    · refine At.region rfl rfl ?_
      refine Reg.pur rfl rfl rfl rfl (Pur.mv rfl) ?_
      refine Reg.pur rfl rfl rfl rfl (Pur.mv rfl) ?_
      first | refine Reg.pur rfl rfl rfl rfl (Pur.neg64 rfl (by omega)) ?_ | refine Reg.pur rfl rfl rfl rfl (Pur.neg rfl) ?_
      refine Reg.pur rfl rfl rfl rfl (Pur.idx _ es40 rfl rfl (by omega) (by omega)) ?_
      refine Reg.pur rfl rfl rfl rfl (Pur.fld _ fo47_4 rfl) ?_
      refine Reg.op0 rfl rfl rfl (Does.st sc3 rfl rfl rfl hB (by decide)) ?_
      rintro _ H6 hu6
      refine Reg.nil ?_
      have hX9 : ∀ x ∈ [[0, 0, 0, 0, -(1 + a), 0, 0, 0, 0], R1, R2, R3, R4, R5, R6], x.length = 9 := by simp
      have hX := sl_of (L := [[0, 0, 0, 0, -(1 + a), 0, 0, 0, 0], R1, R2, R3, R4, R5, R6]) (cap := 7) (o := 0) hX9 hu6.own.blk rfl (by simp) (by decide)
      have hEX : Ext H H6 := hE3.upd2 hn4 hE5 hu6
      have hXM : mayS [[0, 0, 0, 0, -(1 + a), 0, 0, 0, 0], R1, R2, R3, R4, R5, R6] = false := mayS_row 0 (by simp) (by simp [mayT, namesGo, nameOffs, kidOffs, zeroT, mostT] <;> first | omega | (rw [if_pos (by omega)]))
      refine At.meets rfl (hJ (_, _) _ ⟨hX, hX9, by simp, hXM, hEX⟩) ⟨rfl, trivial⟩
    · refine At.region rfl rfl ?_
      refine Reg.pur rfl rfl rfl rfl (Pur.eql rfl rfl) ?_
      refine Reg.pur rfl rfl rfl rfl (Pur.asg rfl) ?_
      refine Reg.nil ?_
      refine At.cond rfl rfl (fun hb2 => ?_) (fun hb2 => ?_)
      · refine At.region rfl rfl ?_
        refine Reg.pur rfl rfl rfl rfl (Pur.mv rfl) ?_
        refine Reg.pur rfl rfl rfl rfl (Pur.mv rfl) ?_
        first | refine Reg.pur rfl rfl rfl rfl (Pur.add64 rfl rfl (by omega)) ?_ | refine Reg.pur rfl rfl rfl rfl (Pur.add64 rfl rfl (by assumption)) ?_ | refine Reg.pur rfl rfl rfl rfl (Pur.add rfl rfl) ?_
        refine Reg.pur rfl rfl rfl rfl (Pur.idx _ es40 rfl rfl (by omega) (by omega)) ?_
        refine Reg.pur rfl rfl rfl rfl (Pur.fld _ fo47_4 rfl) ?_
        refine Reg.op0 rfl rfl rfl (Does.st sc3 rfl rfl rfl hB (by decide)) ?_
        rintro _ H6 hu6
        refine Reg.nil ?_
        have hX9 : ∀ x ∈ [[0, 0, 0, 0, 8191 + (1 + a), 0, 0, 0, 0], R1, R2, R3, R4, R5, R6], x.length = 9 := by simp
        have hX := sl_of (L := [[0, 0, 0, 0, 8191 + (1 + a), 0, 0, 0, 0], R1, R2, R3, R4, R5, R6]) (cap := 7) (o := 0) hX9 hu6.own.blk rfl (by simp) (by decide)
        have hEX : Ext H H6 := hE3.upd2 hn4 hE5 hu6
        have hXM : mayS [[0, 0, 0, 0, 8191 + (1 + a), 0, 0, 0, 0], R1, R2, R3, R4, R5, R6] = false := mayS_row 0 (by simp) (by simp [mayT, namesGo, nameOffs, kidOffs, zeroT, mostT] <;> first | omega | (rw [if_pos (by omega)]))
        refine At.meets rfl (hJ (_, _) _ ⟨hX, hX9, by simp, hXM, hEX⟩) ⟨rfl, trivial⟩
      · refine At.region rfl rfl ?_
        refine Reg.pur rfl rfl rfl rfl (Pur.eql rfl rfl) ?_
        refine Reg.pur rfl rfl rfl rfl (Pur.asg rfl) ?_
        refine Reg.nil ?_
        refine At.cond rfl rfl (fun hb3 => ?_) (fun hb3 => ?_)
        · refine At.region rfl rfl ?_
          refine Reg.pur rfl rfl rfl rfl (Pur.mv rfl) ?_
          refine Reg.pur rfl rfl rfl rfl (Pur.mv rfl) ?_
          first | refine Reg.pur rfl rfl rfl rfl (Pur.add64 rfl rfl (by omega)) ?_ | refine Reg.pur rfl rfl rfl rfl (Pur.add64 rfl rfl (by assumption)) ?_ | refine Reg.pur rfl rfl rfl rfl (Pur.add rfl rfl) ?_
          refine Reg.pur rfl rfl rfl rfl (Pur.idx _ es40 rfl rfl (by omega) (by omega)) ?_
          refine Reg.pur rfl rfl rfl rfl (Pur.fld _ fo47_4 rfl) ?_
          refine Reg.op0 rfl rfl rfl (Does.st sc3 rfl rfl rfl hB (by decide)) ?_
          rintro _ H6 hu6
          refine Reg.nil ?_
          have hX9 : ∀ x ∈ [R0, [1, 0, 0, 0, 1073741823 + (1 + a), 0, 0, 0, 0], R2, R3, R4, R5, R6], x.length = 9 := by simp
          have hX := sl_of (L := [R0, [1, 0, 0, 0, 1073741823 + (1 + a), 0, 0, 0, 0], R2, R3, R4, R5, R6]) (cap := 7) (o := 0) hX9 hu6.own.blk rfl (by simp) (by decide)
          have hEX : Ext H H6 := hE3.upd2 hn4 hE5 hu6
          have hXM : mayS [R0, [1, 0, 0, 0, 1073741823 + (1 + a), 0, 0, 0, 0], R2, R3, R4, R5, R6] = false := mayS_row 1 (by simp) (by simp [mayT, namesGo, nameOffs, kidOffs, zeroT, mostT] <;> first | omega | (rw [if_pos (by omega)]))
          refine At.meets rfl (hJ (_, _) _ ⟨hX, hX9, by simp, hXM, hEX⟩) ⟨rfl, trivial⟩
        · refine At.region rfl rfl ?_
          refine Reg.pur rfl rfl rfl rfl (Pur.eql rfl rfl) ?_
          refine Reg.pur rfl rfl rfl rfl (Pur.asg rfl) ?_
          refine Reg.nil ?_
          refine At.cond rfl rfl (fun hb4 => ?_) (fun hb4 => ?_)
          · refine At.region rfl rfl ?_
            refine Reg.pur rfl rfl rfl rfl (Pur.mv rfl) ?_
            refine Reg.pur rfl rfl rfl rfl (Pur.mv rfl) ?_
            refine Reg.pur rfl rfl rfl rfl (Pur.idx _ es40 rfl rfl (by omega) (by omega)) ?_
            refine Reg.pur rfl rfl rfl rfl (Pur.fld _ fo47_5 rfl) ?_
            refine Reg.op0 rfl rfl rfl (Does.st sc3 rfl rfl rfl hB (by decide)) ?_
            rintro _ H6 hu6
            refine Reg.nil ?_
            have hX9 : ∀ x ∈ [R0, [1, 0, 0, 0, 2, 1 + a, 0, 0, 0], R2, R3, R4, R5, R6], x.length = 9 := by simp
            have hX := sl_of (L := [R0, [1, 0, 0, 0, 2, 1 + a, 0, 0, 0], R2, R3, R4, R5, R6]) (cap := 7) (o := 0) hX9 hu6.own.blk rfl (by simp) (by decide)
            have hEX : Ext H H6 := hE3.upd2 hn4 hE5 hu6
            have hXM : mayS [R0, [1, 0, 0, 0, 2, 1 + a, 0, 0, 0], R2, R3, R4, R5, R6] = false := mayS_row 1 (by simp) (by simp [mayT, namesGo, nameOffs, kidOffs, zeroT, mostT] <;> first | omega | (rw [if_pos (by omega)]))
            refine At.meets rfl (hJ (_, _) _ ⟨hX, hX9, by simp, hXM, hEX⟩) ⟨rfl, trivial⟩
          · refine At.region rfl rfl ?_
            refine Reg.pur rfl rfl rfl rfl (Pur.eql rfl rfl) ?_
            refine Reg.pur rfl rfl rfl rfl (Pur.asg rfl) ?_
            refine Reg.nil ?_
            refine At.cond rfl rfl (fun hb5 => ?_) (fun hb5 => ?_)
            · refine At.region rfl rfl ?_
              refine Reg.pur rfl rfl rfl rfl (Pur.mv rfl) ?_
              refine Reg.pur rfl rfl rfl rfl (Pur.mv rfl) ?_
              first | refine Reg.pur rfl rfl rfl rfl (Pur.add64 rfl rfl (by omega)) ?_ | refine Reg.pur rfl rfl rfl rfl (Pur.add64 rfl rfl (by assumption)) ?_ | refine Reg.pur rfl rfl rfl rfl (Pur.add rfl rfl) ?_
              refine Reg.pur rfl rfl rfl rfl (Pur.idx _ es40 rfl rfl (by omega) (by omega)) ?_
              refine Reg.pur rfl rfl rfl rfl (Pur.fld _ fo47_4 rfl) ?_
              refine Reg.op0 rfl rfl rfl (Does.st sc3 rfl rfl rfl hB (by decide)) ?_
              rintro _ H6 hu6
              refine Reg.nil ?_
              have hX9 : ∀ x ∈ [R0, R1, [8, 0, 1, 0, 5 + (1 + a), 0, 0, 0, 0], R3, R4, R5, R6], x.length = 9 := by simp
              have hX := sl_of (L := [R0, R1, [8, 0, 1, 0, 5 + (1 + a), 0, 0, 0, 0], R3, R4, R5, R6]) (cap := 7) (o := 0) hX9 hu6.own.blk rfl (by simp) (by decide)
              have hEX : Ext H H6 := hE3.upd2 hn4 hE5 hu6
              have hXM : mayS [R0, R1, [8, 0, 1, 0, 5 + (1 + a), 0, 0, 0, 0], R3, R4, R5, R6] = false := mayS_row 2 (by simp) (by simp [mayT, namesGo, nameOffs, kidOffs, zeroT, mostT] <;> first | omega | (rw [if_pos (by omega)]))
              refine At.meets rfl (hJ (_, _) _ ⟨hX, hX9, by simp, hXM, hEX⟩) ⟨rfl, trivial⟩
            · refine At.region rfl rfl ?_
              refine Reg.pur rfl rfl rfl rfl (Pur.eql rfl rfl) ?_
              refine Reg.pur rfl rfl rfl rfl (Pur.asg rfl) ?_
              refine Reg.nil ?_
              refine At.cond rfl rfl (fun hb6 => ?_) (fun hb6 => ?_)
              · refine At.region rfl rfl ?_
                refine Reg.pur rfl rfl rfl rfl (Pur.mv rfl) ?_
                refine Reg.pur rfl rfl rfl rfl (Pur.idx _ es40 rfl rfl (by omega) (by omega)) ?_
                refine Reg.pur rfl rfl rfl rfl (Pur.fld _ fo47_1 rfl) ?_
                refine Reg.op0 rfl rfl rfl (Does.st sc3 rfl rfl rfl hB (by decide)) ?_
                rintro _ H6 hu6
                refine Reg.nil ?_
                have hX9 : ∀ x ∈ [R0, R1, [8, 1, 1, 0, 5, 0, 0, 0, 0], R3, R4, R5, R6], x.length = 9 := by simp
                have hX := sl_of (L := [R0, R1, [8, 1, 1, 0, 5, 0, 0, 0, 0], R3, R4, R5, R6]) (cap := 7) (o := 0) hX9 hu6.own.blk rfl (by simp) (by decide)
                have hEX : Ext H H6 := hE3.upd2 hn4 hE5 hu6
                have hXM : mayS [R0, R1, [8, 1, 1, 0, 5, 0, 0, 0, 0], R3, R4, R5, R6] = false := by decide +kernel
                refine At.meets rfl (hJ (_, _) _ ⟨hX, hX9, by simp, hXM, hEX⟩) ⟨rfl, trivial⟩
              · refine At.region rfl rfl ?_
                refine Reg.pur rfl rfl rfl rfl (Pur.eql rfl rfl) ?_
                refine Reg.pur rfl rfl rfl rfl (Pur.asg rfl) ?_
                refine Reg.nil ?_
                refine At.cond rfl rfl (fun hb7 => ?_) (fun hb7 => ?_)
                · refine At.region rfl rfl ?_
                  refine Reg.pur rfl rfl rfl rfl (Pur.mv rfl) ?_
                  refine Reg.pur rfl rfl rfl rfl (Pur.idx _ es40 rfl rfl (by omega) (by omega)) ?_
                  refine Reg.pur rfl rfl rfl rfl (Pur.fld _ fo47_1 rfl) ?_
                  refine Reg.op0 rfl rfl rfl (Does.st sc3 rfl rfl rfl hB (by decide)) ?_
                  rintro _ H6 hu6
                  refine Reg.nil ?_
                  have hX9 : ∀ x ∈ [R0, R1, R2, [9, 1, 0, 0, 0, 0, 0, 0, 0], R4, R5, R6], x.length = 9 := by simp
                  have hX := sl_of (L := [R0, R1, R2, [9, 1, 0, 0, 0, 0, 0, 0, 0], R4, R5, R6]) (cap := 7) (o := 0) hX9 hu6.own.blk rfl (by simp) (by decide)
                  have hEX : Ext H H6 := hE3.upd2 hn4 hE5 hu6
                  have hXM : mayS [R0, R1, R2, [9, 1, 0, 0, 0, 0, 0, 0, 0], R4, R5, R6] = false := by decide +kernel
                  refine At.meets rfl (hJ (_, _) _ ⟨hX, hX9, by simp, hXM, hEX⟩) ⟨rfl, trivial⟩
                · refine At.region rfl rfl ?_
                  refine Reg.pur rfl rfl rfl rfl (Pur.eql rfl rfl) ?_
                  refine Reg.pur rfl rfl rfl rfl (Pur.asg rfl) ?_
                  refine Reg.nil ?_
                  refine At.cond rfl rfl (fun hb8 => ?_) (fun hb8 => ?_)
                  · refine At.region rfl rfl ?_
                    refine Reg.pur rfl rfl rfl rfl (Pur.mv rfl) ?_
                    refine Reg.pur rfl rfl rfl rfl (Pur.mv rfl) ?_
                    refine Reg.pur rfl rfl rfl rfl (Pur.idx _ es40 rfl rfl (by omega) (by omega)) ?_
                    refine Reg.pur rfl rfl rfl rfl (Pur.fld _ fo47_2 rfl) ?_
                    refine Reg.op0 rfl rfl rfl (Does.st sc3 rfl rfl rfl hB (by decide)) ?_
                    rintro _ H6 hu6
                    refine Reg.nil ?_
                    have hX9 : ∀ x ∈ [R0, R1, R2, [9, 2, 1 + a, 0, 0, 0, 0, 0, 0], R4, R5, R6], x.length = 9 := by simp
                    have hX := sl_of (L := [R0, R1, R2, [9, 2, 1 + a, 0, 0, 0, 0, 0, 0], R4, R5, R6]) (cap := 7) (o := 0) hX9 hu6.own.blk rfl (by simp) (by decide)
                    have hEX : Ext H H6 := hE3.upd2 hn4 hE5 hu6
                    have hXM : mayS [R0, R1, R2, [9, 2, 1 + a, 0, 0, 0, 0, 0, 0], R4, R5, R6] = false := mayS_row 3 (by simp) (by simp [mayT, namesGo, nameOffs, kidOffs, zeroT, mostT] <;> first | omega | (rw [if_pos (by omega)]))
                    refine At.meets rfl (hJ (_, _) _ ⟨hX, hX9, by simp, hXM, hEX⟩) ⟨rfl, trivial⟩
                  · refine At.region rfl rfl ?_
                    refine Reg.pur rfl rfl rfl rfl (Pur.eql rfl rfl) ?_
                    refine Reg.pur rfl rfl rfl rfl (Pur.asg rfl) ?_
                    refine Reg.nil ?_
                    refine At.cond rfl rfl (fun hb9 => ?_) (fun hb9 => ?_)
                    · refine At.region rfl rfl ?_
                      refine Reg.pur rfl rfl rfl rfl (Pur.mv rfl) ?_
                      refine Reg.pur rfl rfl rfl rfl (Pur.mv rfl) ?_
                      first | refine Reg.pur rfl rfl rfl rfl (Pur.add64 rfl rfl (by omega)) ?_ | refine Reg.pur rfl rfl rfl rfl (Pur.add64 rfl rfl (by assumption)) ?_ | refine Reg.pur rfl rfl rfl rfl (Pur.add rfl rfl) ?_
                      refine Reg.pur rfl rfl rfl rfl (Pur.idx _ es40 rfl rfl (by omega) (by omega)) ?_
                      refine Reg.pur rfl rfl rfl rfl (Pur.fld _ fo47_4 rfl) ?_
                      refine Reg.op0 rfl rfl rfl (Does.st sc3 rfl rfl rfl hB (by decide)) ?_
                      rintro _ H6 hu6
                      refine Reg.nil ?_
                      have hX9 : ∀ x ∈ [R0, R1, R2, R3, R4, [10, 3, 4, 0, 3 + (1 + a), 0, 0, 0, 0], R6], x.length = 9 := by simp
                      have hX := sl_of (L := [R0, R1, R2, R3, R4, [10, 3, 4, 0, 3 + (1 + a), 0, 0, 0, 0], R6]) (cap := 7) (o := 0) hX9 hu6.own.blk rfl (by simp) (by decide)
                      have hEX : Ext H H6 := hE3.upd2 hn4 hE5 hu6
                      have hXM : mayS [R0, R1, R2, R3, R4, [10, 3, 4, 0, 3 + (1 + a), 0, 0, 0, 0], R6] = false := mayS_row 5 (by simp) (by simp [mayT, namesGo, nameOffs, kidOffs, zeroT, mostT] <;> first | omega | (rw [if_pos (by omega)]))
                      refine At.meets rfl (hJ (_, _) _ ⟨hX, hX9, by simp, hXM, hEX⟩) ⟨rfl, trivial⟩
                    · refine At.region rfl rfl ?_
                      refine Reg.pur rfl rfl rfl rfl (Pur.eql rfl rfl) ?_
                      refine Reg.pur rfl rfl rfl rfl (Pur.asg rfl) ?_
                      refine Reg.nil ?_
                      refine At.cond rfl rfl (fun hb10 => ?_) (fun hb10 => ?_)
                      · refine At.region rfl rfl ?_
                        refine Reg.pur rfl rfl rfl rfl (Pur.mv rfl) ?_
                        refine Reg.pur rfl rfl rfl rfl (Pur.idx _ es40 rfl rfl (by omega) (by omega)) ?_
                        refine Reg.pur rfl rfl rfl rfl (Pur.fld _ fo47_2 rfl) ?_
                        refine Reg.op0 rfl rfl rfl (Does.st sc3 rfl rfl rfl hB (by decide)) ?_
                        rintro _ H6 hu6
                        refine Reg.nil ?_
                        have hX9 : ∀ x ∈ [R0, R1, R2, R3, R4, [10, 3, 3, 0, 3, 0, 0, 0, 0], R6], x.length = 9 := by simp
                        have hX := sl_of (L := [R0, R1, R2, R3, R4, [10, 3, 3, 0, 3, 0, 0, 0, 0], R6]) (cap := 7) (o := 0) hX9 hu6.own.blk rfl (by simp) (by decide)
                        have hEX : Ext H H6 := hE3.upd2 hn4 hE5 hu6
                        have hXM : mayS [R0, R1, R2, R3, R4, [10, 3, 3, 0, 3, 0, 0, 0, 0], R6] = false := by decide +kernel
                        refine At.meets rfl (hJ (_, _) _ ⟨hX, hX9, by simp, hXM, hEX⟩) ⟨rfl, trivial⟩
                      · refine At.region rfl rfl ?_
                        refine Reg.pur rfl rfl rfl rfl (Pur.eql rfl rfl) ?_
                        refine Reg.pur rfl rfl rfl rfl (Pur.asg rfl) ?_
                        refine Reg.nil ?_
                        refine At.cond rfl rfl (fun hb11 => ?_) (fun hb11 => ?_)
                        · refine At.region rfl rfl ?_
                          refine Reg.pur rfl rfl rfl rfl (Pur.mv rfl) ?_
                          refine Reg.pur rfl rfl rfl rfl (Pur.mv rfl) ?_
                          first | refine Reg.pur rfl rfl rfl rfl (Pur.neg64 rfl (by omega)) ?_ | refine Reg.pur rfl rfl rfl rfl (Pur.neg rfl) ?_
                          refine Reg.pur rfl rfl rfl rfl (Pur.idx _ es40 rfl rfl (by omega) (by omega)) ?_
                          refine Reg.pur rfl rfl rfl rfl (Pur.fld _ fo47_5 rfl) ?_
                          refine Reg.op0 rfl rfl rfl (Does.st sc3 rfl rfl rfl hB (by decide)) ?_
                          rintro _ H6 hu6
                          refine Reg.nil ?_
                          have hX9 : ∀ x ∈ [R0, R1, R2, R3, R4, R5, [4, 5, 0, 0, 0, -(1 + a), 6, 0, 0]], x.length = 9 := by simp
                          have hX := sl_of (L := [R0, R1, R2, R3, R4, R5, [4, 5, 0, 0, 0, -(1 + a), 6, 0, 0]]) (cap := 7) (o := 0) hX9 hu6.own.blk rfl (by simp) (by decide)
                          have hEX : Ext H H6 := hE3.upd2 hn4 hE5 hu6
                          have hXM : mayS [R0, R1, R2, R3, R4, R5, [4, 5, 0, 0, 0, -(1 + a), 6, 0, 0]] = false := mayS_row 6 (by simp) (by simp [mayT, namesGo, nameOffs, kidOffs, zeroT, mostT] <;> first | omega | (rw [if_pos (by omega)]))
                          refine At.meets rfl (hJ (_, _) _ ⟨hX, hX9, by simp, hXM, hEX⟩) ⟨rfl, trivial⟩
                        · refine At.region rfl rfl ?_
                          refine Reg.pur rfl rfl rfl rfl (Pur.eql rfl rfl) ?_
                          refine Reg.pur rfl rfl rfl rfl (Pur.asg rfl) ?_
                          refine Reg.nil ?_
                          refine At.cond rfl rfl (fun hb12 => ?_) (fun hb12 => ?_)
                          · refine At.region rfl rfl ?_
                            refine Reg.pur rfl rfl rfl rfl (Pur.mv rfl) ?_
                            refine Reg.pur rfl rfl rfl rfl (Pur.mv rfl) ?_
                            first | refine Reg.pur rfl rfl rfl rfl (Pur.add64 rfl rfl (by omega)) ?_ | refine Reg.pur rfl rfl rfl rfl (Pur.add64 rfl rfl (by assumption)) ?_ | refine Reg.pur rfl rfl rfl rfl (Pur.add rfl rfl) ?_
                            refine Reg.pur rfl rfl rfl rfl (Pur.idx _ es40 rfl rfl (by omega) (by omega)) ?_
                            refine Reg.pur rfl rfl rfl rfl (Pur.fld _ fo47_6 rfl) ?_
                            refine Reg.op0 rfl rfl rfl (Does.st sc3 rfl rfl rfl hB (by decide)) ?_
                            rintro _ H6 hu6
                            refine Reg.nil ?_
                            have hX9 : ∀ x ∈ [R0, R1, R2, R3, R4, R5, [4, 5, 0, 0, 0, 5, 8191 + (1 + a), 0, 0]], x.length = 9 := by simp
                            have hX := sl_of (L := [R0, R1, R2, R3, R4, R5, [4, 5, 0, 0, 0, 5, 8191 + (1 + a), 0, 0]]) (cap := 7) (o := 0) hX9 hu6.own.blk rfl (by simp) (by decide)
                            have hEX : Ext H H6 := hE3.upd2 hn4 hE5 hu6
                            have hXM : mayS [R0, R1, R2, R3, R4, R5, [4, 5, 0, 0, 0, 5, 8191 + (1 + a), 0, 0]] = false := mayS_row 6 (by simp) (by simp [mayT, namesGo, nameOffs, kidOffs, zeroT, mostT] <;> first | omega | (rw [if_pos (by omega)]))
                            refine At.meets rfl (hJ (_, _) _ ⟨hX, hX9, by simp, hXM, hEX⟩) ⟨rfl, trivial⟩
                          · refine At.region rfl rfl ?_
                            refine Reg.pur rfl rfl rfl rfl (Pur.eql rfl rfl) ?_
                            refine Reg.pur rfl rfl rfl rfl (Pur.asg rfl) ?_
                            refine Reg.nil ?_
                            refine At.cond rfl rfl (fun hb13 => ?_) (fun hb13 => ?_)
                            · refine At.region rfl rfl ?_
                              refine Reg.pur rfl rfl rfl rfl (Pur.mv rfl) ?_
                              refine Reg.pur rfl rfl rfl rfl (Pur.mv rfl) ?_
                              first | refine Reg.pur rfl rfl rfl rfl (Pur.add64 rfl rfl (by omega)) ?_ | refine Reg.pur rfl rfl rfl rfl (Pur.add64 rfl rfl (by assumption)) ?_ | refine Reg.pur rfl rfl rfl rfl (Pur.add rfl rfl) ?_
                              refine Reg.pur rfl rfl rfl rfl (Pur.idx _ es40 rfl rfl (by omega) (by omega)) ?_
                              refine Reg.pur rfl rfl rfl rfl (Pur.fld _ fo47_0 rfl) ?_
                              refine Reg.op0 rfl rfl rfl (Does.st sc3 rfl rfl rfl hB (by decide)) ?_
                              rintro _ H6 hu6
                              refine Reg.nil ?_
                              have hX9 : ∀ x ∈ [R0, R1, R2, R3, R4, R5, [12 + (1 + a), 5, 0, 0, 0, 5, 6, 0, 0]], x.length = 9 := by simp
                              have hX := sl_of (L := [R0, R1, R2, R3, R4, R5, [12 + (1 + a), 5, 0, 0, 0, 5, 6, 0, 0]]) (cap := 7) (o := 0) hX9 hu6.own.blk rfl (by simp) (by decide)
                              have hEX : Ext H H6 := hE3.upd2 hn4 hE5 hu6
                              have hXM : mayS [R0, R1, R2, R3, R4, R5, [12 + (1 + a), 5, 0, 0, 0, 5, 6, 0, 0]] = false := mayS_row 6 (by simp) (by simp [mayT, namesGo, nameOffs, kidOffs, zeroT, mostT] <;> first | omega | (rw [if_pos (by omega)]))
                              refine At.meets rfl (hJ (_, _) _ ⟨hX, hX9, by simp, hXM, hEX⟩) ⟨rfl, trivial⟩
                            · refine At.region rfl rfl ?_
                              refine Reg.pur rfl rfl rfl rfl (Pur.eql rfl rfl) ?_
                              refine Reg.pur rfl rfl rfl rfl (Pur.asg rfl) ?_
                              refine Reg.nil ?_
                              refine At.cond rfl rfl (fun hb14 => ?_) (fun hb14 => ?_)
                              · refine At.region rfl rfl ?_
                                refine Reg.pur rfl rfl rfl rfl (Pur.mv rfl) ?_
                                refine Reg.pur rfl rfl rfl rfl (Pur.mv rfl) ?_
                                refine Reg.pur rfl rfl rfl rfl (Pur.idx _ es40 rfl rfl (by omega) (by omega)) ?_
                                refine Reg.pur rfl rfl rfl rfl (Pur.fld _ fo47_8 rfl) ?_
                                refine Reg.op0 rfl rfl rfl (Does.st sc3 rfl rfl rfl hB (by decide)) ?_
                                rintro _ H6 hu6
                                refine Reg.nil ?_
                                have hX9 : ∀ x ∈ [R0, R1, R2, R3, R4, R5, [4, 5, 0, 0, 0, 5, 6, 0, 1 + a]], x.length = 9 := by simp
                                have hX := sl_of (L := [R0, R1, R2, R3, R4, R5, [4, 5, 0, 0, 0, 5, 6, 0, 1 + a]]) (cap := 7) (o := 0) hX9 hu6.own.blk rfl (by simp) (by decide)
                                have hEX : Ext H H6 := hE3.upd2 hn4 hE5 hu6
                                have hXM : mayS [R0, R1, R2, R3, R4, R5, [4, 5, 0, 0, 0, 5, 6, 0, 1 + a]] = false := mayS_row 6 (by simp) (by simp [mayT, namesGo, nameOffs, kidOffs, zeroT, mostT] <;> first | omega | (rw [if_pos (by omega)]))
                                refine At.meets rfl (hJ (_, _) _ ⟨hX, hX9, by simp, hXM, hEX⟩) ⟨rfl, trivial⟩
                              · refine At.region rfl rfl ?_
                                refine Reg.pur rfl rfl rfl rfl (Pur.eql rfl rfl) ?_
                                refine Reg.pur rfl rfl rfl rfl (Pur.asg rfl) ?_
                                refine Reg.nil ?_
                                refine At.cond rfl rfl (fun hb15 => ?_) (fun hb15 => ?_)
                                · refine At.region rfl rfl ?_
                                  refine Reg.pur rfl rfl rfl rfl (Pur.mv rfl) ?_
                                  refine Reg.pur rfl rfl rfl rfl (Pur.cutH es40 rfl rfl (by omega) (by omega)) ?_
                                  refine Reg.pur rfl rfl rfl rfl (Pur.asg rfl) ?_
                                  refine Reg.nil ?_
                                  have hX : SlT H5 Is 9 (.slice (some ⟨H3.size, 0, none⟩) 5 7) [R0, R1, R2, R3, R4] := sl_of (L := [R0, R1, R2, R3, R4]) (cap := 7) (o := 0) (by decide) hB.blk rfl (by decide) (by decide)
                                  have hX9 : ∀ x ∈ [R0, R1, R2, R3, R4], x.length = 9 := by decide
                                  have hXM : mayS [R0, R1, R2, R3, R4] = false := by decide +kernel
                                  have hEX := (hE3.trans hn4.ext).trans hE5
                                  refine At.meets rfl (hJ (_, _) _ ⟨hX, hX9, by simp, hXM, hEX⟩) ⟨rfl, trivial⟩
                                · refine At.region rfl rfl ?_
                                  refine Reg.pur rfl rfl rfl rfl (Pur.mv rfl) ?_
                                  refine Reg.pur rfl rfl rfl rfl (Pur.mv rfl) ?_
                                  first | refine Reg.pur rfl rfl rfl rfl (Pur.add64 rfl rfl (by omega)) ?_ | refine Reg.pur rfl rfl rfl rfl (Pur.add64 rfl rfl (by assumption)) ?_ | refine Reg.pur rfl rfl rfl rfl (Pur.add rfl rfl) ?_
                                  refine Reg.pur rfl rfl rfl rfl (Pur.bld (cs := [_, _, _, _, _, _, _, _, _]) pl47 zc47 rfl rfl ⟨rfl, rfl, rfl, rfl, rfl, rfl, rfl, rfl, rfl, rfl⟩) ?_
                                  refine Reg.op rfl rfl rfl rfl (Does.bslA ([[_, _, _, _, _, _, _, _, _]]) slA40 rfl rfl rfl rfl rfl rfl) ?_
                                  rintro _ H6 ⟨rfl, rfl⟩
                                  refine Reg.op rfl rfl rfl rfl (Does.app apt40 rfl rfl (hO4.ext (hE5.trans (New.of_push (xs := Is [2, 0, 0, 0, 1 + (1 + a), 0, 0, 0, 0]).ext))) (OwnS.new (xs := Is [2, 0, 0, 0, 1 + (1 + a), 0, 0, 0, 0]) (n := 1) (H := H5) (B := 0) rfl (by decide) (Nat.zero_le _)).src rfl (by decide) (by decide) (by have := hn4.size; have := hE5.1; simp; omega)) ?_
                                  rintro v' H7 ⟨ho7, hbut, _, _⟩
                                  refine Reg.pur rfl rfl rfl rfl (Pur.asg rfl) ?_
                                  refine Reg.nil ?_
                                  have hX := own_sl (L := Rs ++ [[2, 0, 0, 0, 1 + (1 + a), 0, 0, 0, 0]]) (by simp) ho7
                                  have hX9 : ∀ x ∈ Rs ++ [[2, 0, 0, 0, 1 + (1 + a), 0, 0, 0, 0]], x.length = 9 := by simp
                                  have hXM : mayS (Rs ++ [[2, 0, 0, 0, 1 + (1 + a), 0, 0, 0, 0]]) = false := mayS_row 7 (by simp) (by simp [mayT, namesGo, nameOffs, kidOffs, zeroT, mostT] <;> first | omega | (rw [if_pos (by omega)]))
                                  have hEX : Ext H H7 := (((hE3.trans hn4.ext).trans hE5).trans (New.of_push (xs := Is [2, 0, 0, 0, 1 + (1 + a), 0, 0, 0, 0]).ext)).trBut hbut (fun b hb h => by simp only [Value.ownBlock, Option.some.injEq] at h; have := hE3.1; omega)
                                  refine At.meets rfl (hJ (_, _) _ ⟨hX, hX9, by simp, hXM, hEX⟩) ⟨rfl, trivial⟩
  · obtain ⟨v, L⟩ := s
    dsimp only at hS hL hl hM ⊢
    have hS' := hS
    obtain ⟨A, cap, rfl, _⟩ := hS'
    refine At.region rfl rfl ?_
    refine Reg.pur rfl rfl rfl rfl (Pur.mv rfl) ?_
    refine Reg.op rfl rfl rfl rfl (Does.call rfl (namesP_ok L hL hS (by omega))) ?_
    rintro _ H8 ⟨rfl, hE8⟩
    refine Reg.pur rfl rfl rfl rfl (Pur.mv rfl) ?_
    refine Reg.pur rfl rfl rfl rfl (Pur.ext rfl rfl) ?_
    refine Reg.pur rfl rfl rfl rfl (Pur.ext rfl rfl) ?_
    refine Reg.pur rfl rfl rfl rfl (Pur.asg rfl) ?_
    refine Reg.pur rfl rfl rfl rfl (Pur.asg rfl) ?_
    refine Reg.nil ?_
    refine At.region rfl rfl ?_
    refine Reg.pur rfl rfl rfl rfl (Pur.mv rfl) ?_
    refine Reg.op rfl rfl rfl rfl (Does.call rfl (mayP_ok L hL (hS.ext hE8) (by omega))) ?_
    rintro _ H9 ⟨rfl, hE9⟩
    refine Reg.pur rfl rfl rfl rfl (Pur.not rfl) ?_
    refine Reg.pur rfl rfl rfl rfl (Pur.mv rfl) ?_
    refine Reg.known (b' := true) 135 rfl (by first | rfl | (simp; done) | (simp [hM, namesS_f hM]; done)) ?_
    refine Reg.gpur rfl rfl rfl rfl rfl rfl (Pur.mv rfl) ?_
    refine Reg.gop rfl rfl rfl rfl rfl rfl (Does.call rfl (num_ok _ _)) ?_
    rintro _ H9 ⟨rfl, rfl⟩
    refine Reg.gpur rfl rfl rfl rfl rfl rfl (Pur.eql rfl rfl) ?_
    refine Reg.pur rfl rfl rfl rfl (Pur.pickT rfl rfl) ?_
    refine Reg.pur rfl rfl rfl rfl (Pur.asg rfl) ?_
    refine Reg.nil ?_
    refine At.ret rfl Try.func8 rfl ?_
    exact ⟨congrArg Value.bool (by simp [namesS_f hM]), (hE7.trans hE8).trans hE9⟩
end Go.Proofs.Ytkniihjfcagdbaa
