/-
  Chapter 9: without binds; the first bind.
-/
import Derived.Test.YtlfillhffpiffaaSubR
import Derived.Test.YtlfillhffpiffaaFxN
namespace Go.Proofs.Ytlfillhffpiffaa
set_option linter.unusedSimpArgs false
set_option linter.unusedVariables false
set_option maxRecDepth 8000
open Go Go.Fx Go.Proofs
namespace FactsSubS
theorem ag25 : ag Try.prog 25 = some 1 := by kernel_rfl
theorem ag47 : ag Try.prog 47 = some 9 := by kernel_rfl
theorem ag49 : ag Try.prog 49 = some 8 := by kernel_rfl
theorem apt22 : appT Try.prog 22 = some (49, 8, 80) := by kernel_rfl
theorem es22 : esz Try.prog 22 = some 8 := by kernel_rfl
theorem es23 : esz Try.prog 23 = some 9 := by kernel_rfl
theorem fo25_0 : foff Try.prog 25 0 = some 0 := by kernel_rfl
theorem fo28_1 : foff Try.prog 28 1 = some 4 := by kernel_rfl
theorem fo47_0 : foff Try.prog 47 0 = some 0 := by kernel_rfl
theorem fo47_1 : foff Try.prog 47 1 = some 1 := by kernel_rfl
theorem fo47_4 : foff Try.prog 47 4 = some 4 := by kernel_rfl
theorem fo49_0 : foff Try.prog 49 0 = some 0 := by kernel_rfl
theorem fo49_1 : foff Try.prog 49 1 = some 1 := by kernel_rfl
theorem isl22 : isSl Try.prog 22 = true := by kernel_rfl
theorem isl23 : isSl Try.prog 23 = true := by kernel_rfl
theorem mixed : Try.prog.follows .mixedOrders = true := by kernel_rfl
theorem pl25 : places Try.prog 25 = some [(0, 1)] := by kernel_rfl
theorem sc23 : sc Try.prog 23 = true := by kernel_rfl
theorem sc3 : sc Try.prog 3 = true := by kernel_rfl
theorem sc4 : sc Try.prog 4 = true := by kernel_rfl
theorem slA22 : slA Try.prog 22 = some (49, 8) := by kernel_rfl
theorem zc25 : zc Try.prog 25 = some [.slice none 0 0] := by kernel_rfl
theorem zc47 : zc Try.prog 47 = some [.int .i64 0, .int .i64 0, .int .i64 0, .int .i64 0, .int .i64 0, .int .i64 0, .int .i64 0, .int .i64 0, .int .i64 0] := by kernel_rfl
end FactsSubS
open FactsSubS

theorem subT_notin {Bs : List Bd} {L : List (List Int)} (hL : Nine L) (h : ∀ b ∈ Bs, L.any (inT b) = false) : (subT Bs L = some L ∧ bindsM Bs = true ∧ typM L = true) ∨ (subT Bs L = none ∧ (bindsM Bs = false ∨ typM L = false)) := by
  unfold subT
  split
  · rename_i hh; exact .inl ⟨typS_notin hL hh.2 h, hh⟩
  · rename_i hh
    refine .inr ⟨rfl, ?_⟩
    cases h1 : bindsM Bs <;> cases h2 : typM L <;> simp_all
theorem ce_ne {α : Type} {o : Option α} (h : ¬ ce o.isSome = 0) : o = none := by
  cases o with
  | none => rfl
  | some _ => exact (h rfl).elim
theorem ce_eq {α : Type} {o : Option α} (h : ce o.isSome = 0) : ∃ m, o = some m := by
  cases o with
  | none => cases h
  | some m => exact ⟨m, rfl⟩
theorem any_take {α : Type} {L : List α} {p : α → Bool} {i : Nat} (hi : i < L.length) : (L.take (i + 1)).any p = ((L.take i).any p || p L[i]) := by
  rw [List.take_succ_eq_append_getElem hi, List.any_append]; simp
theorem bds_nil (H : Heap) : Bds H (.slice none ([] : List Bd).length 0) [] := ⟨sl_nil H, (fun b hb => by cases hb), by simp⟩

theorem substNone_law {A A1 : Option Addr} {cap cap1 : Nat} {Bs : List Bd} {L : List (List Int)} {H : Heap} (hB : Bds H (.slice A Bs.length cap) Bs) (hS : SlT H Is 9 (.slice A1 L.length cap1) L) (hL : Nine L) (hm : L.length * 72 ≤ 140737488351232) :
    Ret Try.prog 4 [.slice A Bs.length cap, Ty A1 L.length cap1] H (fun v H' => v = .bool true ∧ Ext H H') := by
  have hbl := hB.fits
  refine Ret.of_at (N := 125) Try.call4 Try.func4 rfl rfl rfl ?_
  have hE := Ext.refl H
  refine At.region rfl rfl ?_
  refine Reg.op rfl rfl rfl rfl (Does.box rfl rfl) ?_
  rintro _ H0_0 ⟨rfl, hn0_0⟩
  have z0_0 := hn0_0.size
  replace hE := hE.ext hn0_0.ext
  have o0_0 := hn0_0.own
  refine Reg.pur rfl rfl rfl rfl (Pur.asg rfl) ?_
  refine Reg.nil ?_
  refine At.region rfl rfl ?_
  refine Reg.op rfl rfl rfl rfl (Does.call rfl (awake9_ok _)) ?_
  rintro _ H1_0 ⟨rfl, hE1_0⟩
  have z1_0 := hE1_0.lt
  replace hE := hE.ext hE1_0
  replace o0_0 := o0_0.ext hE1_0
  refine Reg.pur rfl rfl rfl rfl (Pur.not rfl) ?_
  refine Reg.nil ?_
  refine At.condF rfl rfl rfl ?_
  refine At.region rfl rfl ?_
  refine Reg.lod rfl rfl rfl rfl (Lod.ldn ag25 rfl o0_0.blk (by first | exact whole rfl | rfl | (simp only [List.drop_succ_cons, List.drop_zero, List.take_succ_cons, List.take_zero]; rfl)) (by first | rfl | (simp [*]; done))) ?_
  refine Reg.op rfl rfl rfl rfl (Does.call rfl (type_ok (bds_nil _) (hS.ext hE) hL hm)) ?_
  rintro v3_1 H3_1 ⟨hE3_1, hT3_1⟩
  have z3_1 := hE3_1.lt
  replace hE := hE.ext hE3_1
  replace o0_0 := o0_0.ext hE3_1
  have hsub := subT_notin (Bs := []) hL (fun b hb => by cases hb)
  obtain ⟨A4, cap4, rfl, ho4, hN4, hl4⟩ := hT3_1
  have z_ho4 := ho4.lt
  refine Reg.pur rfl rfl rfl rfl (Pur.mv rfl) ?_
  refine Reg.pur rfl rfl rfl rfl (Pur.ext rfl rfl) ?_
  refine Reg.pur rfl rfl rfl rfl (Pur.ext rfl rfl) ?_
  refine Reg.op rfl rfl rfl rfl (Does.alloc zc25) ?_
  rintro _ H3_5 ⟨rfl, hn3_5⟩
  have z3_5 := hn3_5.size
  replace hE := hE.ext hn3_5.ext
  replace o0_0 := o0_0.ext hn3_5.ext
  replace ho4 := ho4.ext hn3_5.ext
  have o3_5 := hn3_5.own
  refine Reg.op0 rfl rfl rfl (Does.stn ag25 rfl rfl (by first | rfl | exact ones_Is _) (by first | rfl | (simp [*]; done)) o3_5 (by first | decide | (simp; done) | (simp; omega) | omega)) ?_
  rintro _ H3_6 hu3_6
  have z3_6 := hu3_6.size
  replace hE := hE.upw hu3_6 (by omega)
  replace o0_0 := o0_0.upw hu3_6 (by omega)
  replace ho4 := ho4.upw hu3_6 (by omega)
  replace o3_5 := hu3_6.own
  first | rw [over (by first | rfl | (simp; done))] at o3_5 | skip
  refine Reg.pur rfl rfl rfl rfl (Pur.asg rfl) ?_
  refine Reg.nil ?_
  refine At.region rfl rfl ?_
  refine Reg.pur rfl rfl rfl rfl (Pur.mv rfl) ?_
  refine Reg.op rfl rfl rfl rfl (Does.call rfl (numE_ok _ _)) ?_
  rintro _ H3_6 ⟨rfl, rfl⟩
  refine Reg.pur rfl rfl rfl rfl (Pur.neq rfl rfl) ?_
  refine Reg.nil ?_
  refine At.cond rfl rfl (fun q23 => ?_) (fun q23 => ?_)
  · first | (simp only [decide_eq_true_eq, decide_eq_false_iff_not, Bool.not_eq_true', Bool.not_eq_false', ne_eq, Decidable.not_not, Bool.not_eq_true, Bool.not_eq_false] at q23) | (dsimp only at q23) | skip
    have hsub0 := ce_ne q23
    rw [hsub0] at ho4 hN4 hl4 o3_5 ⊢
    refine At.region rfl rfl ?_
    refine Reg.lod rfl rfl rfl rfl (Lod.ldn ag25 rfl o3_5.blk (by first | exact whole rfl | rfl | (simp only [List.drop_succ_cons, List.drop_zero, List.take_succ_cons, List.take_zero]; rfl)) (by first | rfl | (simp [*]; done))) ?_
    refine Reg.pur rfl rfl rfl rfl (Pur.bld (cs := [_]) pl25 zc25 rfl rfl ⟨rfl, rfl⟩) ?_
    refine Reg.op rfl rfl rfl rfl (Does.call rfl (sameType_ok hN4 (nine_lit (L := []) rfl) (own_sl (wide9 hN4) (by decide) ho4) (sl_nil _) (by omega))) ?_
    rintro _ H5_2 ⟨rfl, hE5_2⟩
    have z5_2 := hE5_2.lt
    replace hE := hE.ext hE5_2
    replace o0_0 := o0_0.ext hE5_2
    replace ho4 := ho4.ext hE5_2
    replace o3_5 := o3_5.ext hE5_2
    refine Reg.pur rfl rfl rfl rfl (Pur.mv rfl) ?_
    refine Reg.known (b' := true) 27 rfl (by simp) ?_
    refine Reg.gpur rfl rfl rfl rfl rfl rfl (Pur.mv rfl) ?_
    refine Reg.gop rfl rfl rfl rfl rfl rfl (Does.call rfl (numE_ok _ _)) ?_
    rintro _ H5_2 ⟨rfl, rfl⟩
    refine Reg.gpur rfl rfl rfl rfl rfl rfl (Pur.eql rfl rfl) ?_
    refine Reg.pur rfl rfl rfl rfl (Pur.pickT rfl rfl) ?_
    refine Reg.pur rfl rfl rfl rfl (Pur.asg rfl) ?_
    refine Reg.nil ?_
    refine At.ret rfl Try.func4 rfl ?_
    exact ⟨rfl, hE⟩
  · first | (simp only [decide_eq_true_eq, decide_eq_false_iff_not, Bool.not_eq_true', Bool.not_eq_false', ne_eq, Decidable.not_not, Bool.not_eq_true, Bool.not_eq_false] at q23) | (dsimp only at q23) | skip
    obtain ⟨m, hm2⟩ := ce_eq q23
    obtain ⟨hsub, _, hM⟩ : subT [] L = some L ∧ bindsM [] = true ∧ typM L = true := hsub.resolve_right (fun h => by rw [h.1] at hm2; cases hm2)
    rw [hsub] at ho4 hN4 hl4 o3_5 ⊢
    refine At.region rfl rfl ?_
    refine Reg.pur rfl rfl rfl rfl (Pur.asg rfl) ?_
    refine Reg.nil ?_
    refine At.region rfl rfl ?_
    refine Reg.pur rfl rfl rfl rfl (Pur.asg rfl) ?_
    refine Reg.nil ?_
    obtain ⟨Hs, hHs⟩ : ∃ X, X = H3_6 := ⟨_, rfl⟩
    have z_hs := congrArg Array.size hHs
    refine At.loop (σ := Nat × List Bd × Option Addr × Nat) (fun (i, out, A', cap') => [(8, I i), (7, .slice A' out.length cap'), (0, .slice A Bs.length cap), (3, ptr H.size 0), (5, ptr H3_1.size 0)]) (fun (i, out, A', cap') H' => i ≤ Bs.length ∧ out = (Bs.take i).filter (fun b => !L.any (inT b)) ∧ Gs H' Hs.size 49 8 A' cap' out.length (out.flatMap encB) ∧ Own H' H.size [.slice A1 L.length cap1] ∧ Own H' H3_1.size [.slice A4 L.length cap4] ∧ OwnS H' H1_0.size 47 9 (.slice A4 L.length cap4) L.length (L.flatMap Is) ∧ Ext H H') (fun s => Bs.length - s.1) (0, [], none, 0) rfl ⟨rfl, rfl, rfl, rfl, rfl, trivial⟩ ⟨by omega, rfl, OwnS.nilG, o0_0, o3_5, ho4, hE⟩ ?_
    clear o0_0 o3_5 ho4 hE
    rintro ⟨i, out, A', cap'⟩ H4 ⟨hi, hout, hg, o0_0, o3_5, ho4, hE⟩ ih
    dsimp only at hi hout hg ⊢
    have z_hE := hE.lt
    have z_o0_0 := o0_0.lt
    have z_o3_5 := o3_5.lt
    have z_ho4 := ho4.lt
    have z_hg := hg.lt
    have hol : out.length ≤ i := by rw [hout]; exact Nat.le_trans (List.length_filter_le _ _) (by simp; omega)
    refine At.region rfl rfl ?_
    refine Reg.pur rfl rfl rfl rfl (Pur.mv rfl) ?_
    refine Reg.pur rfl rfl rfl rfl (Pur.mv rfl) ?_
    refine Reg.pur rfl rfl rfl rfl (Pur.lenS isl22 rfl) ?_
    refine Reg.pur rfl rfl rfl rfl (Pur.lss rfl rfl) ?_
    refine Reg.nil ?_
    refine At.cond rfl rfl (fun q35 => ?_) (fun q35 => ?_)
    · first | (simp only [decide_eq_true_eq, decide_eq_false_iff_not, Bool.not_eq_true', Bool.not_eq_false', ne_eq, Decidable.not_not, Bool.not_eq_true, Bool.not_eq_false] at q35) | (dsimp only at q35) | skip
      have hlt : i < Bs.length := by omega
      obtain ⟨b, o, c, rfl, hB0, hd, _⟩ := (hB.ext hE).at hlt
      have hok := hB.ok _ (List.getElem_mem hlt)
      have hnx : (Bs.take (i + 1)).filter (fun b => !L.any (inT b)) = out ++ (if L.any (inT Bs[i]) then [] else [Bs[i]]) := by rw [List.take_succ_eq_append_getElem hlt, List.filter_append, ← hout]; cases h : L.any (inT Bs[i]) <;> simp [h]
      generalize Bs[i] = bd at hd hok hnx
      have z_hB0 := hB0.lt
      refine At.region rfl rfl ?_
      refine Reg.pur rfl rfl rfl rfl (Pur.asg rfl) ?_
      refine Reg.nil ?_
      refine At.region rfl rfl ?_
      refine Reg.pur rfl rfl rfl rfl (Pur.asg rfl) ?_
      refine Reg.nil ?_
      refine At.loop (σ := Nat × Bool) (fun (j, t) => [(10, I j), (9, .bool t), (8, I i), (7, .slice A' out.length cap'), (0, .slice (some ⟨b, o, none⟩) Bs.length cap), (3, ptr H.size 0), (5, ptr H3_1.size 0)]) (fun (j, t) H' => j ≤ L.length ∧ t = (L.take j).any (inT bd) ∧ Ext H4 H') (fun s => L.length - s.1) (0, false) rfl ⟨rfl, rfl, rfl, rfl, rfl, rfl, rfl, trivial⟩ ⟨by omega, rfl, Ext.refl _⟩ ?_
      rintro ⟨j, t⟩ H5 ⟨hj, ht, hL4⟩ ihj
      dsimp only at hj ht ⊢
      replace hE := hE.ext hL4
      replace o0_0 := o0_0.ext hL4
      replace o3_5 := o3_5.ext hL4
      replace ho4 := ho4.ext hL4
      replace hg := hg.ext hL4
      replace hB0 := hB0.ext hL4
      have z_hL4 := hL4.lt
      refine At.region rfl rfl ?_
      refine Reg.pur rfl rfl rfl rfl (Pur.mv rfl) ?_
      refine Reg.pur rfl rfl rfl rfl (Pur.fld _ fo25_0 rfl) ?_
      refine Reg.lod rfl rfl rfl rfl (Lod.ld sc23 rfl o0_0.blk (by first | rfl | (simp; done))) ?_
      refine Reg.pur rfl rfl rfl rfl (Pur.lenS isl23 rfl) ?_
      refine Reg.pur rfl rfl rfl rfl (Pur.lss rfl rfl) ?_
      refine Reg.nil ?_
      refine At.cond rfl rfl (fun q42 => ?_) (fun q42 => ?_)
      · first | (simp only [decide_eq_true_eq, decide_eq_false_iff_not, Bool.not_eq_true', Bool.not_eq_false', ne_eq, Decidable.not_not, Bool.not_eq_true, Bool.not_eq_false] at q42) | (dsimp only at q42) | skip
        have hlj : j < L.length := by omega
        obtain ⟨b', o', c', rfl, hB', hd', h9⟩ := sl_at (wide9 hL) (hS.ext hE) hlj
        have h9' := hL _ (List.getElem_mem hlj)
        have hany := any_take (p := inT bd) hlj
        rw [← ht] at hany
        generalize L[j] = x at hd' h9 h9' hany
        obtain ⟨k, v, p, q, c0, c1, c2, c3, tt, rfl⟩ : ∃ k v p q c0 c1 c2 c3 t, x = [k, v, p, q, c0, c1, c2, c3, t] := by match x, h9' with | [k, v, p, q, c0, c1, c2, c3, t], _ => exact ⟨_, _, _, _, _, _, _, _, _, rfl⟩
        refine At.region rfl rfl ?_
        refine Reg.pur rfl rfl rfl rfl (Pur.fld _ fo25_0 rfl) ?_
        refine Reg.lod rfl rfl rfl rfl (Lod.ld sc23 rfl o0_0.blk (by first | rfl | (simp; done))) ?_
        refine Reg.pur rfl rfl rfl rfl (Pur.mv rfl) ?_
        refine Reg.pur rfl rfl rfl rfl (Pur.idx _ es23 rfl rfl (by omega) (by omega)) ?_
        refine Reg.lod rfl rfl rfl rfl (Lod.ldn ag47 rfl hB' hd' h9) ?_
        refine Reg.op rfl rfl rfl rfl (Does.alloc zc47) ?_
        rintro _ H14_5 ⟨rfl, hn14_5⟩
        have z14_5 := hn14_5.size
        replace hE := hE.ext hn14_5.ext
        replace o0_0 := o0_0.ext hn14_5.ext
        replace o3_5 := o3_5.ext hn14_5.ext
        replace ho4 := ho4.ext hn14_5.ext
        replace hg := hg.ext hn14_5.ext
        replace hB0 := hB0.ext hn14_5.ext
        first | replace hL4 := hL4.ext hn14_5.ext | skip
        have o14_5 := hn14_5.own
        refine Reg.op0 rfl rfl rfl (Does.stn ag47 rfl rfl (by first | rfl | exact ones_Is _) (by first | rfl | (simp [*]; done)) o14_5 (by first | decide | (simp; done) | (simp; omega) | omega)) ?_
        rintro _ H14_6 hu14_6
        have z14_6 := hu14_6.size
        replace hE := hE.upw hu14_6 (by omega)
        replace o0_0 := o0_0.upw hu14_6 (by omega)
        replace o3_5 := o3_5.upw hu14_6 (by omega)
        replace ho4 := ho4.upw hu14_6 (by omega)
        replace hg := hg.upw hu14_6 (by omega)
        replace hB0 := hB0.upw hu14_6 (by omega)
        first | replace hL4 := hL4.upw hu14_6 (by omega) | skip
        replace o14_5 := hu14_6.own
        first | rw [over (by first | rfl | (simp; done))] at o14_5 | skip
        refine Reg.nil ?_
        refine At.drawE ((Bks.cons hB0.blk (Bks.cons o14_5.blk Bks.nil))) [] mixed rfl rfl ?_
        refine RegD.tpur (i := 0) rfl rfl rfl rfl (by kernel_rfl) (Pur.mv rfl) ?_
        refine RegD.tpur (i := 1) rfl rfl rfl rfl (by kernel_rfl) (Pur.mv rfl) ?_
        refine RegD.case 51 rfl (fun q51 => ?_) (fun q51 => ?_)
        · first | (simp only [decide_eq_true_eq, decide_eq_false_iff_not, Bool.not_eq_true', Bool.not_eq_false', ne_eq, Decidable.not_not, Bool.not_eq_true, Bool.not_eq_false] at q51) | (dsimp only at q51) | skip
          refine RegD.skip (i := 2) rfl rfl rfl rfl rfl rfl rfl (by kernel_rfl) ?_
          refine RegD.skip (i := 3) rfl rfl rfl rfl rfl rfl rfl (by kernel_rfl) ?_
          refine RegD.skip (i := 4) rfl rfl rfl rfl rfl rfl rfl (by kernel_rfl) ?_
          refine RegD.skip (i := 5) rfl rfl rfl rfl rfl rfl rfl (by kernel_rfl) ?_
          refine RegD.skip (i := 6) rfl rfl rfl rfl rfl rfl rfl (by kernel_rfl) ?_
          refine RegD.skip (i := 7) rfl rfl rfl rfl rfl rfl rfl (by kernel_rfl) ?_
          refine RegD.skip (i := 8) rfl rfl rfl rfl rfl rfl rfl (by kernel_rfl) ?_
          refine RegD.skipU (i := 9) rfl rfl rfl rfl rfl rfl (by kernel_rfl) ?_
          refine RegD.skipU (i := 10) rfl rfl rfl rfl rfl rfl (by kernel_rfl) ?_
          refine RegD.skipU (i := 11) rfl rfl rfl rfl rfl rfl (by kernel_rfl) ?_
          refine RegD.skip (i := 12) rfl rfl rfl rfl rfl rfl rfl (by kernel_rfl) ?_
          refine RegD.skip (i := 13) rfl rfl rfl rfl rfl rfl rfl (by kernel_rfl) ?_
          refine RegD.skipU (i := 14) rfl rfl rfl rfl rfl rfl (by kernel_rfl) ?_
          refine RegD.skipU (i := 15) rfl rfl rfl rfl rfl rfl (by kernel_rfl) ?_
          refine RegD.skipU (i := 16) rfl rfl rfl rfl rfl rfl (by kernel_rfl) ?_
          refine RegD.skipU (i := 17) rfl rfl rfl rfl rfl rfl (by kernel_rfl) ?_
          refine RegD.skipU (i := 18) rfl rfl rfl rfl rfl rfl (by kernel_rfl) ?_
          refine RegD.skipU (i := 19) rfl rfl rfl rfl rfl rfl (by kernel_rfl) ?_
          refine RegD.skipU (i := 20) rfl rfl rfl rfl rfl rfl (by kernel_rfl) ?_
          refine RegD.skipU (i := 21) rfl rfl rfl rfl rfl rfl (by kernel_rfl) ?_
          refine RegD.skip (i := 22) rfl rfl rfl rfl rfl rfl rfl (by kernel_rfl) ?_
          refine RegD.tpur (i := 23) rfl rfl rfl rfl (by kernel_rfl) (Pur.pickT rfl rfl) ?_
          refine RegD.tpur (i := 24) rfl rfl rfl rfl (by kernel_rfl) (Pur.mv rfl) ?_
          refine RegD.skip (i := 25) rfl rfl rfl rfl rfl rfl rfl (by kernel_rfl) ?_
          refine RegD.skip (i := 26) rfl rfl rfl rfl rfl rfl rfl (by kernel_rfl) ?_
          refine RegD.skip (i := 27) rfl rfl rfl rfl rfl rfl rfl (by kernel_rfl) ?_
          refine RegD.skip (i := 28) rfl rfl rfl rfl rfl rfl rfl (by kernel_rfl) ?_
          refine RegD.skip (i := 29) rfl rfl rfl rfl rfl rfl rfl (by kernel_rfl) ?_
          refine RegD.skip (i := 30) rfl rfl rfl rfl rfl rfl rfl (by kernel_rfl) ?_
          refine RegD.skipU (i := 31) rfl rfl rfl rfl rfl rfl (by kernel_rfl) ?_
          refine RegD.skipU (i := 32) rfl rfl rfl rfl rfl rfl (by kernel_rfl) ?_
          refine RegD.skipU (i := 33) rfl rfl rfl rfl rfl rfl (by kernel_rfl) ?_
          refine RegD.skip (i := 34) rfl rfl rfl rfl rfl rfl rfl (by kernel_rfl) ?_
          refine RegD.skip (i := 35) rfl rfl rfl rfl rfl rfl rfl (by kernel_rfl) ?_
          refine RegD.skipU (i := 36) rfl rfl rfl rfl rfl rfl (by kernel_rfl) ?_
          refine RegD.skipU (i := 37) rfl rfl rfl rfl rfl rfl (by kernel_rfl) ?_
          refine RegD.skipU (i := 38) rfl rfl rfl rfl rfl rfl (by kernel_rfl) ?_
          refine RegD.skipU (i := 39) rfl rfl rfl rfl rfl rfl (by kernel_rfl) ?_
          refine RegD.skipU (i := 40) rfl rfl rfl rfl rfl rfl (by kernel_rfl) ?_
          refine RegD.skipU (i := 41) rfl rfl rfl rfl rfl rfl (by kernel_rfl) ?_
          refine RegD.skipU (i := 42) rfl rfl rfl rfl rfl rfl (by kernel_rfl) ?_
          refine RegD.skipU (i := 43) rfl rfl rfl rfl rfl rfl (by kernel_rfl) ?_
          refine RegD.skipU (i := 44) rfl rfl rfl rfl rfl rfl (by kernel_rfl) ?_
          refine RegD.skip (i := 45) rfl rfl rfl rfl rfl rfl rfl (by kernel_rfl) ?_
          refine RegD.tpur (i := 46) rfl rfl rfl rfl (by kernel_rfl) (Pur.pickT rfl rfl) ?_
          refine RegD.tpur (i := 47) rfl rfl rfl rfl (by kernel_rfl) (Pur.asg rfl) ?_
          refine RegD.done (by kernel_rfl) ?_
          refine At.region rfl rfl ?_
          refine Reg.pur rfl rfl rfl rfl (Pur.mv rfl) ?_
          first | refine Reg.pur rfl rfl rfl rfl (Pur.add64 rfl rfl (by omega)) ?_ | refine Reg.pur rfl rfl rfl rfl (Pur.add64 rfl rfl (by assumption)) ?_ | refine Reg.pur rfl rfl rfl rfl (Pur.add rfl rfl) ?_
          refine Reg.pur rfl rfl rfl rfl (Pur.asg rfl) ?_
          refine Reg.nil ?_
          refine At.via (ihj (j + 1, (L.take (j + 1)).any (inT bd)) _ ⟨by omega, rfl, hL4⟩ (by simp only; omega)) ⟨rfl, congrArg (fun t => some (Value.bool t)) ?_, rfl, rfl, rfl, rfl, rfl, trivial⟩
          rw [hany]; unfold inT; revert q23 q35 q42 q51; cases bd.isRow <;> simp +contextual
        · first | (simp only [decide_eq_true_eq, decide_eq_false_iff_not, Bool.not_eq_true', Bool.not_eq_false', ne_eq, Decidable.not_not, Bool.not_eq_true, Bool.not_eq_false] at q51) | (dsimp only at q51) | skip
          refine RegD.gtpur (i := 2) rfl rfl rfl rfl rfl rfl (by kernel_rfl) (Pur.mv rfl) ?_
          refine RegD.gtpur (i := 3) rfl rfl rfl rfl rfl rfl (by kernel_rfl) (Pur.mv rfl) ?_
          refine RegD.gtpur (i := 4) rfl rfl rfl rfl rfl rfl (by kernel_rfl) (Pur.idx _ es22 rfl rfl (by omega) (by omega)) ?_
          refine RegD.gtpur (i := 5) rfl rfl rfl rfl rfl rfl (by kernel_rfl) (Pur.fld _ fo49_1 rfl) ?_
          refine RegD.gtake (i := 6) rfl rfl rfl rfl rfl rfl (by kernel_rfl) (Bks.cons hB0.blk (Bks.cons o14_5.blk Bks.nil)) (fun H hS => Lod.ld sc4 rfl hS.hd (at_tk (j := 1) hd (by decide) rfl)) ?_
          refine RegD.gtpur (i := 7) rfl rfl rfl rfl rfl rfl (by kernel_rfl) (Pur.not rfl) ?_
          refine RegD.gtpur (i := 8) rfl rfl rfl rfl rfl rfl (by kernel_rfl) (Pur.mv rfl) ?_
          refine RegD.case 58 rfl (fun q58 => ?_) (fun q58 => ?_)
          · first | (simp only [decide_eq_true_eq, decide_eq_false_iff_not, Bool.not_eq_true', Bool.not_eq_false', ne_eq, Decidable.not_not, Bool.not_eq_true, Bool.not_eq_false] at q58) | (dsimp only at q58) | skip
            refine RegD.gtpur (i := 9) rfl rfl rfl rfl rfl rfl (by kernel_rfl) (Pur.fld _ fo47_0 rfl) ?_
            refine RegD.gtake (i := 10) rfl rfl rfl rfl rfl rfl (by kernel_rfl) (Bks.cons hB0.blk (Bks.cons o14_5.blk Bks.nil)) (fun H hS => Lod.ld sc3 rfl hS.tl.hd (by first | rfl | (simp; done))) ?_
            refine RegD.gtpur (i := 11) rfl rfl rfl rfl rfl rfl (by kernel_rfl) (Pur.eql rfl rfl) ?_
            refine RegD.gtpur (i := 12) rfl rfl rfl rfl rfl rfl (by kernel_rfl) (Pur.pickT rfl rfl) ?_
            refine RegD.gtpur (i := 13) rfl rfl rfl rfl rfl rfl (by kernel_rfl) (Pur.mv rfl) ?_
            refine RegD.case 63 rfl (fun q63 => ?_) (fun q63 => ?_)
            · first | (simp only [decide_eq_true_eq, decide_eq_false_iff_not, Bool.not_eq_true', Bool.not_eq_false', ne_eq, Decidable.not_not, Bool.not_eq_true, Bool.not_eq_false] at q63) | (dsimp only at q63) | skip
              refine RegD.gtpur (i := 14) rfl rfl rfl rfl rfl rfl (by kernel_rfl) (Pur.fld _ fo47_1 rfl) ?_
              refine RegD.gtake (i := 15) rfl rfl rfl rfl rfl rfl (by kernel_rfl) (Bks.cons hB0.blk (Bks.cons o14_5.blk Bks.nil)) (fun H hS => Lod.ld sc3 rfl hS.tl.hd (by first | rfl | (simp; done))) ?_
              refine RegD.gtpur (i := 16) rfl rfl rfl rfl rfl rfl (by kernel_rfl) (Pur.mv rfl) ?_
              refine RegD.gtpur (i := 17) rfl rfl rfl rfl rfl rfl (by kernel_rfl) (Pur.mv rfl) ?_
              refine RegD.gtpur (i := 18) rfl rfl rfl rfl rfl rfl (by kernel_rfl) (Pur.idx _ es22 rfl rfl (by omega) (by omega)) ?_
              refine RegD.gtpur (i := 19) rfl rfl rfl rfl rfl rfl (by kernel_rfl) (Pur.fld _ fo49_0 rfl) ?_
              refine RegD.gtake (i := 20) rfl rfl rfl rfl rfl rfl (by kernel_rfl) (Bks.cons hB0.blk (Bks.cons o14_5.blk Bks.nil)) (fun H hS => Lod.ld sc3 rfl hS.hd (at_tk (j := 0) hd (by decide) rfl)) ?_
              refine RegD.gtpur (i := 21) rfl rfl rfl rfl rfl rfl (by kernel_rfl) (Pur.eql rfl rfl) ?_
              refine RegD.gtpur (i := 22) rfl rfl rfl rfl rfl rfl (by kernel_rfl) (Pur.pickT rfl rfl) ?_
              refine RegD.tpur (i := 23) rfl rfl rfl rfl (by kernel_rfl) (Pur.pickF rfl rfl) ?_
              refine RegD.tpur (i := 24) rfl rfl rfl rfl (by kernel_rfl) (Pur.mv rfl) ?_
              refine RegD.case 74 rfl (fun q74 => ?_) (fun q74 => ?_)
              · first | (simp only [decide_eq_true_eq, decide_eq_false_iff_not, Bool.not_eq_true', Bool.not_eq_false', ne_eq, Decidable.not_not, Bool.not_eq_true, Bool.not_eq_false] at q74) | (dsimp only at q74) | skip
                refine RegD.skip (i := 25) rfl rfl rfl rfl rfl rfl rfl (by kernel_rfl) ?_
                refine RegD.skip (i := 26) rfl rfl rfl rfl rfl rfl rfl (by kernel_rfl) ?_
                refine RegD.skip (i := 27) rfl rfl rfl rfl rfl rfl rfl (by kernel_rfl) ?_
                refine RegD.skip (i := 28) rfl rfl rfl rfl rfl rfl rfl (by kernel_rfl) ?_
                refine RegD.skip (i := 29) rfl rfl rfl rfl rfl rfl rfl (by kernel_rfl) ?_
                refine RegD.skip (i := 30) rfl rfl rfl rfl rfl rfl rfl (by kernel_rfl) ?_
                refine RegD.skipU (i := 31) rfl rfl rfl rfl rfl rfl (by kernel_rfl) ?_
                refine RegD.skipU (i := 32) rfl rfl rfl rfl rfl rfl (by kernel_rfl) ?_
                refine RegD.skipU (i := 33) rfl rfl rfl rfl rfl rfl (by kernel_rfl) ?_
                refine RegD.skip (i := 34) rfl rfl rfl rfl rfl rfl rfl (by kernel_rfl) ?_
                refine RegD.skip (i := 35) rfl rfl rfl rfl rfl rfl rfl (by kernel_rfl) ?_
                refine RegD.skipU (i := 36) rfl rfl rfl rfl rfl rfl (by kernel_rfl) ?_
                refine RegD.skipU (i := 37) rfl rfl rfl rfl rfl rfl (by kernel_rfl) ?_
                refine RegD.skipU (i := 38) rfl rfl rfl rfl rfl rfl (by kernel_rfl) ?_
                refine RegD.skipU (i := 39) rfl rfl rfl rfl rfl rfl (by kernel_rfl) ?_
                refine RegD.skipU (i := 40) rfl rfl rfl rfl rfl rfl (by kernel_rfl) ?_
                refine RegD.skipU (i := 41) rfl rfl rfl rfl rfl rfl (by kernel_rfl) ?_
                refine RegD.skipU (i := 42) rfl rfl rfl rfl rfl rfl (by kernel_rfl) ?_
                refine RegD.skipU (i := 43) rfl rfl rfl rfl rfl rfl (by kernel_rfl) ?_
                refine RegD.skipU (i := 44) rfl rfl rfl rfl rfl rfl (by kernel_rfl) ?_
                refine RegD.skip (i := 45) rfl rfl rfl rfl rfl rfl rfl (by kernel_rfl) ?_
                refine RegD.tpur (i := 46) rfl rfl rfl rfl (by kernel_rfl) (Pur.pickT rfl rfl) ?_
                refine RegD.tpur (i := 47) rfl rfl rfl rfl (by kernel_rfl) (Pur.asg rfl) ?_
                refine RegD.done (by kernel_rfl) ?_
                refine At.region rfl rfl ?_
                refine Reg.pur rfl rfl rfl rfl (Pur.mv rfl) ?_
                first | refine Reg.pur rfl rfl rfl rfl (Pur.add64 rfl rfl (by omega)) ?_ | refine Reg.pur rfl rfl rfl rfl (Pur.add64 rfl rfl (by assumption)) ?_ | refine Reg.pur rfl rfl rfl rfl (Pur.add rfl rfl) ?_
                refine Reg.pur rfl rfl rfl rfl (Pur.asg rfl) ?_
                refine Reg.nil ?_
                refine At.via (ihj (j + 1, (L.take (j + 1)).any (inT bd)) _ ⟨by omega, rfl, hL4⟩ (by simp only; omega)) ⟨rfl, congrArg (fun t => some (Value.bool t)) ?_, rfl, rfl, rfl, rfl, rfl, trivial⟩
                rw [hany]; unfold inT; revert q23 q35 q42 q51 q58 q63 q74; cases bd.isRow <;> simp +contextual
              · first | (simp only [decide_eq_true_eq, decide_eq_false_iff_not, Bool.not_eq_true', Bool.not_eq_false', ne_eq, Decidable.not_not, Bool.not_eq_true, Bool.not_eq_false] at q74) | (dsimp only at q74) | skip
                refine RegD.gtpur (i := 25) rfl rfl rfl rfl rfl rfl (by kernel_rfl) (Pur.mv rfl) ?_
                refine RegD.gtpur (i := 26) rfl rfl rfl rfl rfl rfl (by kernel_rfl) (Pur.mv rfl) ?_
                refine RegD.gtpur (i := 27) rfl rfl rfl rfl rfl rfl (by kernel_rfl) (Pur.idx _ es22 rfl rfl (by omega) (by omega)) ?_
                refine RegD.gtpur (i := 28) rfl rfl rfl rfl rfl rfl (by kernel_rfl) (Pur.fld _ fo49_1 rfl) ?_
                refine RegD.gtake (i := 29) rfl rfl rfl rfl rfl rfl (by kernel_rfl) (Bks.cons hB0.blk (Bks.cons o14_5.blk Bks.nil)) (fun H hS => Lod.ld sc4 rfl hS.hd (at_tk (j := 1) hd (by decide) rfl)) ?_
                refine RegD.gtpur (i := 30) rfl rfl rfl rfl rfl rfl (by kernel_rfl) (Pur.mv rfl) ?_
                refine RegD.case 80 rfl (fun q80 => ?_) (fun q80 => ?_)
                · first | (simp only [decide_eq_true_eq, decide_eq_false_iff_not, Bool.not_eq_true', Bool.not_eq_false', ne_eq, Decidable.not_not, Bool.not_eq_true, Bool.not_eq_false] at q80) | (dsimp only at q80) | skip
                  refine RegD.gtpur (i := 31) rfl rfl rfl rfl rfl rfl (by kernel_rfl) (Pur.fld _ fo47_0 rfl) ?_
                  refine RegD.gtake (i := 32) rfl rfl rfl rfl rfl rfl (by kernel_rfl) (Bks.cons hB0.blk (Bks.cons o14_5.blk Bks.nil)) (fun H hS => Lod.ld sc3 rfl hS.tl.hd (by first | rfl | (simp; done))) ?_
                  refine RegD.gtpur (i := 33) rfl rfl rfl rfl rfl rfl (by kernel_rfl) (Pur.eql rfl rfl) ?_
                  refine RegD.gtpur (i := 34) rfl rfl rfl rfl rfl rfl (by kernel_rfl) (Pur.pickT rfl rfl) ?_
                  refine RegD.gtpur (i := 35) rfl rfl rfl rfl rfl rfl (by kernel_rfl) (Pur.mv rfl) ?_
                  refine RegD.case 85 rfl (fun q85 => ?_) (fun q85 => ?_)
                  · first | (simp only [decide_eq_true_eq, decide_eq_false_iff_not, Bool.not_eq_true', Bool.not_eq_false', ne_eq, Decidable.not_not, Bool.not_eq_true, Bool.not_eq_false] at q85) | (dsimp only at q85) | skip
                    refine RegD.gtpur (i := 36) rfl rfl rfl rfl rfl rfl (by kernel_rfl) (Pur.fld _ fo47_4 rfl) ?_
                    refine RegD.gtpur (i := 37) rfl rfl rfl rfl rfl rfl (by kernel_rfl) (Pur.fld _ fo28_1 rfl) ?_
                    refine RegD.gtake (i := 38) rfl rfl rfl rfl rfl rfl (by kernel_rfl) (Bks.cons hB0.blk (Bks.cons o14_5.blk Bks.nil)) (fun H hS => Lod.ld sc3 rfl hS.tl.hd (by first | rfl | (simp; done))) ?_
                    refine RegD.gtpur (i := 39) rfl rfl rfl rfl rfl rfl (by kernel_rfl) (Pur.mv rfl) ?_
                    refine RegD.gtpur (i := 40) rfl rfl rfl rfl rfl rfl (by kernel_rfl) (Pur.mv rfl) ?_
                    refine RegD.gtpur (i := 41) rfl rfl rfl rfl rfl rfl (by kernel_rfl) (Pur.idx _ es22 rfl rfl (by omega) (by omega)) ?_
                    refine RegD.gtpur (i := 42) rfl rfl rfl rfl rfl rfl (by kernel_rfl) (Pur.fld _ fo49_0 rfl) ?_
                    refine RegD.gtake (i := 43) rfl rfl rfl rfl rfl rfl (by kernel_rfl) (Bks.cons hB0.blk (Bks.cons o14_5.blk Bks.nil)) (fun H hS => Lod.ld sc3 rfl hS.hd (at_tk (j := 0) hd (by decide) rfl)) ?_
                    refine RegD.gtpur (i := 44) rfl rfl rfl rfl rfl rfl (by kernel_rfl) (Pur.eql rfl rfl) ?_
                    refine RegD.gtpur (i := 45) rfl rfl rfl rfl rfl rfl (by kernel_rfl) (Pur.pickT rfl rfl) ?_
                    refine RegD.tpur (i := 46) rfl rfl rfl rfl (by kernel_rfl) (Pur.pickF rfl rfl) ?_
                    refine RegD.tpur (i := 47) rfl rfl rfl rfl (by kernel_rfl) (Pur.asg rfl) ?_
                    refine RegD.done (by kernel_rfl) ?_
                    refine At.region rfl rfl ?_
                    refine Reg.pur rfl rfl rfl rfl (Pur.mv rfl) ?_
                    first | refine Reg.pur rfl rfl rfl rfl (Pur.add64 rfl rfl (by omega)) ?_ | refine Reg.pur rfl rfl rfl rfl (Pur.add64 rfl rfl (by assumption)) ?_ | refine Reg.pur rfl rfl rfl rfl (Pur.add rfl rfl) ?_
                    refine Reg.pur rfl rfl rfl rfl (Pur.asg rfl) ?_
                    refine Reg.nil ?_
                    refine At.via (ihj (j + 1, (L.take (j + 1)).any (inT bd)) _ ⟨by omega, rfl, hL4⟩ (by simp only; omega)) ⟨rfl, congrArg (fun t => some (Value.bool t)) ?_, rfl, rfl, rfl, rfl, rfl, trivial⟩
                    rw [hany]; unfold inT; revert q23 q35 q42 q51 q58 q63 q74 q80 q85; cases bd.isRow <;> simp +contextual
                  · first | (simp only [decide_eq_true_eq, decide_eq_false_iff_not, Bool.not_eq_true', Bool.not_eq_false', ne_eq, Decidable.not_not, Bool.not_eq_true, Bool.not_eq_false] at q85) | (dsimp only at q85) | skip
                    refine RegD.skip (i := 36) rfl rfl rfl rfl rfl rfl rfl (by kernel_rfl) ?_
                    refine RegD.skip (i := 37) rfl rfl rfl rfl rfl rfl rfl (by kernel_rfl) ?_
                    refine RegD.skip (i := 38) rfl rfl rfl rfl rfl rfl rfl (by kernel_rfl) ?_
                    refine RegD.skip (i := 39) rfl rfl rfl rfl rfl rfl rfl (by kernel_rfl) ?_
                    refine RegD.skip (i := 40) rfl rfl rfl rfl rfl rfl rfl (by kernel_rfl) ?_
                    refine RegD.skip (i := 41) rfl rfl rfl rfl rfl rfl rfl (by kernel_rfl) ?_
                    refine RegD.skip (i := 42) rfl rfl rfl rfl rfl rfl rfl (by kernel_rfl) ?_
                    refine RegD.skip (i := 43) rfl rfl rfl rfl rfl rfl rfl (by kernel_rfl) ?_
                    refine RegD.skip (i := 44) rfl rfl rfl rfl rfl rfl rfl (by kernel_rfl) ?_
                    refine RegD.gtpur (i := 45) rfl rfl rfl rfl rfl rfl (by kernel_rfl) (Pur.pickF rfl rfl) ?_
                    refine RegD.tpur (i := 46) rfl rfl rfl rfl (by kernel_rfl) (Pur.pickF rfl rfl) ?_
                    refine RegD.tpur (i := 47) rfl rfl rfl rfl (by kernel_rfl) (Pur.asg rfl) ?_
                    refine RegD.done (by kernel_rfl) ?_
                    refine At.region rfl rfl ?_
                    refine Reg.pur rfl rfl rfl rfl (Pur.mv rfl) ?_
                    first | refine Reg.pur rfl rfl rfl rfl (Pur.add64 rfl rfl (by omega)) ?_ | refine Reg.pur rfl rfl rfl rfl (Pur.add64 rfl rfl (by assumption)) ?_ | refine Reg.pur rfl rfl rfl rfl (Pur.add rfl rfl) ?_
                    refine Reg.pur rfl rfl rfl rfl (Pur.asg rfl) ?_
                    refine Reg.nil ?_
                    refine At.via (ihj (j + 1, (L.take (j + 1)).any (inT bd)) _ ⟨by omega, rfl, hL4⟩ (by simp only; omega)) ⟨rfl, congrArg (fun t => some (Value.bool t)) ?_, rfl, rfl, rfl, rfl, rfl, trivial⟩
                    rw [hany]; unfold inT; revert q23 q35 q42 q51 q58 q63 q74 q80 q85; cases bd.isRow <;> simp +contextual
                · first | (simp only [decide_eq_true_eq, decide_eq_false_iff_not, Bool.not_eq_true', Bool.not_eq_false', ne_eq, Decidable.not_not, Bool.not_eq_true, Bool.not_eq_false] at q80) | (dsimp only at q80) | skip
                  refine RegD.skip (i := 31) rfl rfl rfl rfl rfl rfl rfl (by kernel_rfl) ?_
                  refine RegD.skip (i := 32) rfl rfl rfl rfl rfl rfl rfl (by kernel_rfl) ?_
                  refine RegD.skip (i := 33) rfl rfl rfl rfl rfl rfl rfl (by kernel_rfl) ?_
                  refine RegD.gtpur (i := 34) rfl rfl rfl rfl rfl rfl (by kernel_rfl) (Pur.pickF rfl rfl) ?_
                  refine RegD.gtpur (i := 35) rfl rfl rfl rfl rfl rfl (by kernel_rfl) (Pur.mv rfl) ?_
                  refine RegD.skip (i := 36) rfl rfl rfl rfl rfl rfl rfl (by kernel_rfl) ?_
                  refine RegD.skip (i := 37) rfl rfl rfl rfl rfl rfl rfl (by kernel_rfl) ?_
                  refine RegD.skip (i := 38) rfl rfl rfl rfl rfl rfl rfl (by kernel_rfl) ?_
                  refine RegD.skip (i := 39) rfl rfl rfl rfl rfl rfl rfl (by kernel_rfl) ?_
                  refine RegD.skip (i := 40) rfl rfl rfl rfl rfl rfl rfl (by kernel_rfl) ?_
                  refine RegD.skip (i := 41) rfl rfl rfl rfl rfl rfl rfl (by kernel_rfl) ?_
                  refine RegD.skip (i := 42) rfl rfl rfl rfl rfl rfl rfl (by kernel_rfl) ?_
                  refine RegD.skip (i := 43) rfl rfl rfl rfl rfl rfl rfl (by kernel_rfl) ?_
                  refine RegD.skip (i := 44) rfl rfl rfl rfl rfl rfl rfl (by kernel_rfl) ?_
                  refine RegD.gtpur (i := 45) rfl rfl rfl rfl rfl rfl (by kernel_rfl) (Pur.pickF rfl rfl) ?_
                  refine RegD.tpur (i := 46) rfl rfl rfl rfl (by kernel_rfl) (Pur.pickF rfl rfl) ?_
                  refine RegD.tpur (i := 47) rfl rfl rfl rfl (by kernel_rfl) (Pur.asg rfl) ?_
                  refine RegD.done (by kernel_rfl) ?_
                  refine At.region rfl rfl ?_
                  refine Reg.pur rfl rfl rfl rfl (Pur.mv rfl) ?_
                  first | refine Reg.pur rfl rfl rfl rfl (Pur.add64 rfl rfl (by omega)) ?_ | refine Reg.pur rfl rfl rfl rfl (Pur.add64 rfl rfl (by assumption)) ?_ | refine Reg.pur rfl rfl rfl rfl (Pur.add rfl rfl) ?_
                  refine Reg.pur rfl rfl rfl rfl (Pur.asg rfl) ?_
                  refine Reg.nil ?_
                  refine At.via (ihj (j + 1, (L.take (j + 1)).any (inT bd)) _ ⟨by omega, rfl, hL4⟩ (by simp only; omega)) ⟨rfl, congrArg (fun t => some (Value.bool t)) ?_, rfl, rfl, rfl, rfl, rfl, trivial⟩
                  rw [hany]; unfold inT; revert q23 q35 q42 q51 q58 q63 q74 q80; cases bd.isRow <;> simp +contextual
            · first | (simp only [decide_eq_true_eq, decide_eq_false_iff_not, Bool.not_eq_true', Bool.not_eq_false', ne_eq, Decidable.not_not, Bool.not_eq_true, Bool.not_eq_false] at q63) | (dsimp only at q63) | skip
              refine RegD.skip (i := 14) rfl rfl rfl rfl rfl rfl rfl (by kernel_rfl) ?_
              refine RegD.skip (i := 15) rfl rfl rfl rfl rfl rfl rfl (by kernel_rfl) ?_
              refine RegD.skip (i := 16) rfl rfl rfl rfl rfl rfl rfl (by kernel_rfl) ?_
              refine RegD.skip (i := 17) rfl rfl rfl rfl rfl rfl rfl (by kernel_rfl) ?_
              refine RegD.skip (i := 18) rfl rfl rfl rfl rfl rfl rfl (by kernel_rfl) ?_
              refine RegD.skip (i := 19) rfl rfl rfl rfl rfl rfl rfl (by kernel_rfl) ?_
              refine RegD.skip (i := 20) rfl rfl rfl rfl rfl rfl rfl (by kernel_rfl) ?_
              refine RegD.skip (i := 21) rfl rfl rfl rfl rfl rfl rfl (by kernel_rfl) ?_
              refine RegD.gtpur (i := 22) rfl rfl rfl rfl rfl rfl (by kernel_rfl) (Pur.pickF rfl rfl) ?_
              refine RegD.tpur (i := 23) rfl rfl rfl rfl (by kernel_rfl) (Pur.pickF rfl rfl) ?_
              refine RegD.tpur (i := 24) rfl rfl rfl rfl (by kernel_rfl) (Pur.mv rfl) ?_
              refine RegD.gtpur (i := 25) rfl rfl rfl rfl rfl rfl (by kernel_rfl) (Pur.mv rfl) ?_
              refine RegD.gtpur (i := 26) rfl rfl rfl rfl rfl rfl (by kernel_rfl) (Pur.mv rfl) ?_
              refine RegD.gtpur (i := 27) rfl rfl rfl rfl rfl rfl (by kernel_rfl) (Pur.idx _ es22 rfl rfl (by omega) (by omega)) ?_
              refine RegD.gtpur (i := 28) rfl rfl rfl rfl rfl rfl (by kernel_rfl) (Pur.fld _ fo49_1 rfl) ?_
              refine RegD.gtake (i := 29) rfl rfl rfl rfl rfl rfl (by kernel_rfl) (Bks.cons hB0.blk (Bks.cons o14_5.blk Bks.nil)) (fun H hS => Lod.ld sc4 rfl hS.hd (at_tk (j := 1) hd (by decide) rfl)) ?_
              refine RegD.gtpur (i := 30) rfl rfl rfl rfl rfl rfl (by kernel_rfl) (Pur.mv rfl) ?_
              refine RegD.case 80 rfl (fun q80 => ?_) (fun q80 => ?_)
              · first | (simp only [decide_eq_true_eq, decide_eq_false_iff_not, Bool.not_eq_true', Bool.not_eq_false', ne_eq, Decidable.not_not, Bool.not_eq_true, Bool.not_eq_false] at q80) | (dsimp only at q80) | skip
                refine RegD.gtpur (i := 31) rfl rfl rfl rfl rfl rfl (by kernel_rfl) (Pur.fld _ fo47_0 rfl) ?_
                refine RegD.gtake (i := 32) rfl rfl rfl rfl rfl rfl (by kernel_rfl) (Bks.cons hB0.blk (Bks.cons o14_5.blk Bks.nil)) (fun H hS => Lod.ld sc3 rfl hS.tl.hd (by first | rfl | (simp; done))) ?_
                refine RegD.gtpur (i := 33) rfl rfl rfl rfl rfl rfl (by kernel_rfl) (Pur.eql rfl rfl) ?_
                refine RegD.gtpur (i := 34) rfl rfl rfl rfl rfl rfl (by kernel_rfl) (Pur.pickT rfl rfl) ?_
                refine RegD.gtpur (i := 35) rfl rfl rfl rfl rfl rfl (by kernel_rfl) (Pur.mv rfl) ?_
                refine RegD.case 85 rfl (fun q85 => ?_) (fun q85 => ?_)
                · first | (simp only [decide_eq_true_eq, decide_eq_false_iff_not, Bool.not_eq_true', Bool.not_eq_false', ne_eq, Decidable.not_not, Bool.not_eq_true, Bool.not_eq_false] at q85) | (dsimp only at q85) | skip
                  refine RegD.gtpur (i := 36) rfl rfl rfl rfl rfl rfl (by kernel_rfl) (Pur.fld _ fo47_4 rfl) ?_
                  refine RegD.gtpur (i := 37) rfl rfl rfl rfl rfl rfl (by kernel_rfl) (Pur.fld _ fo28_1 rfl) ?_
                  refine RegD.gtake (i := 38) rfl rfl rfl rfl rfl rfl (by kernel_rfl) (Bks.cons hB0.blk (Bks.cons o14_5.blk Bks.nil)) (fun H hS => Lod.ld sc3 rfl hS.tl.hd (by first | rfl | (simp; done))) ?_
                  refine RegD.gtpur (i := 39) rfl rfl rfl rfl rfl rfl (by kernel_rfl) (Pur.mv rfl) ?_
                  refine RegD.gtpur (i := 40) rfl rfl rfl rfl rfl rfl (by kernel_rfl) (Pur.mv rfl) ?_
                  refine RegD.gtpur (i := 41) rfl rfl rfl rfl rfl rfl (by kernel_rfl) (Pur.idx _ es22 rfl rfl (by omega) (by omega)) ?_
                  refine RegD.gtpur (i := 42) rfl rfl rfl rfl rfl rfl (by kernel_rfl) (Pur.fld _ fo49_0 rfl) ?_
                  refine RegD.gtake (i := 43) rfl rfl rfl rfl rfl rfl (by kernel_rfl) (Bks.cons hB0.blk (Bks.cons o14_5.blk Bks.nil)) (fun H hS => Lod.ld sc3 rfl hS.hd (at_tk (j := 0) hd (by decide) rfl)) ?_
                  refine RegD.gtpur (i := 44) rfl rfl rfl rfl rfl rfl (by kernel_rfl) (Pur.eql rfl rfl) ?_
                  refine RegD.gtpur (i := 45) rfl rfl rfl rfl rfl rfl (by kernel_rfl) (Pur.pickT rfl rfl) ?_
                  refine RegD.tpur (i := 46) rfl rfl rfl rfl (by kernel_rfl) (Pur.pickF rfl rfl) ?_
                  refine RegD.tpur (i := 47) rfl rfl rfl rfl (by kernel_rfl) (Pur.asg rfl) ?_
                  refine RegD.done (by kernel_rfl) ?_
                  refine At.region rfl rfl ?_
                  refine Reg.pur rfl rfl rfl rfl (Pur.mv rfl) ?_
                  first | refine Reg.pur rfl rfl rfl rfl (Pur.add64 rfl rfl (by omega)) ?_ | refine Reg.pur rfl rfl rfl rfl (Pur.add64 rfl rfl (by assumption)) ?_ | refine Reg.pur rfl rfl rfl rfl (Pur.add rfl rfl) ?_
                  refine Reg.pur rfl rfl rfl rfl (Pur.asg rfl) ?_
                  refine Reg.nil ?_
                  refine At.via (ihj (j + 1, (L.take (j + 1)).any (inT bd)) _ ⟨by omega, rfl, hL4⟩ (by simp only; omega)) ⟨rfl, congrArg (fun t => some (Value.bool t)) ?_, rfl, rfl, rfl, rfl, rfl, trivial⟩
                  rw [hany]; unfold inT; revert q23 q35 q42 q51 q58 q63 q80 q85; cases bd.isRow <;> simp +contextual
                · first | (simp only [decide_eq_true_eq, decide_eq_false_iff_not, Bool.not_eq_true', Bool.not_eq_false', ne_eq, Decidable.not_not, Bool.not_eq_true, Bool.not_eq_false] at q85) | (dsimp only at q85) | skip
                  refine RegD.skip (i := 36) rfl rfl rfl rfl rfl rfl rfl (by kernel_rfl) ?_
                  refine RegD.skip (i := 37) rfl rfl rfl rfl rfl rfl rfl (by kernel_rfl) ?_
                  refine RegD.skip (i := 38) rfl rfl rfl rfl rfl rfl rfl (by kernel_rfl) ?_
                  refine RegD.skip (i := 39) rfl rfl rfl rfl rfl rfl rfl (by kernel_rfl) ?_
                  refine RegD.skip (i := 40) rfl rfl rfl rfl rfl rfl rfl (by kernel_rfl) ?_
                  refine RegD.skip (i := 41) rfl rfl rfl rfl rfl rfl rfl (by kernel_rfl) ?_
                  refine RegD.skip (i := 42) rfl rfl rfl rfl rfl rfl rfl (by kernel_rfl) ?_
                  refine RegD.skip (i := 43) rfl rfl rfl rfl rfl rfl rfl (by kernel_rfl) ?_
                  refine RegD.skip (i := 44) rfl rfl rfl rfl rfl rfl rfl (by kernel_rfl) ?_
                  refine RegD.gtpur (i := 45) rfl rfl rfl rfl rfl rfl (by kernel_rfl) (Pur.pickF rfl rfl) ?_
                  refine RegD.tpur (i := 46) rfl rfl rfl rfl (by kernel_rfl) (Pur.pickF rfl rfl) ?_
                  refine RegD.tpur (i := 47) rfl rfl rfl rfl (by kernel_rfl) (Pur.asg rfl) ?_
                  refine RegD.done (by kernel_rfl) ?_
                  refine At.region rfl rfl ?_
                  refine Reg.pur rfl rfl rfl rfl (Pur.mv rfl) ?_
                  first | refine Reg.pur rfl rfl rfl rfl (Pur.add64 rfl rfl (by omega)) ?_ | refine Reg.pur rfl rfl rfl rfl (Pur.add64 rfl rfl (by assumption)) ?_ | refine Reg.pur rfl rfl rfl rfl (Pur.add rfl rfl) ?_
                  refine Reg.pur rfl rfl rfl rfl (Pur.asg rfl) ?_
                  refine Reg.nil ?_
                  refine At.via (ihj (j + 1, (L.take (j + 1)).any (inT bd)) _ ⟨by omega, rfl, hL4⟩ (by simp only; omega)) ⟨rfl, congrArg (fun t => some (Value.bool t)) ?_, rfl, rfl, rfl, rfl, rfl, trivial⟩
                  rw [hany]; unfold inT; revert q23 q35 q42 q51 q58 q63 q80 q85; cases bd.isRow <;> simp +contextual
              · first | (simp only [decide_eq_true_eq, decide_eq_false_iff_not, Bool.not_eq_true', Bool.not_eq_false', ne_eq, Decidable.not_not, Bool.not_eq_true, Bool.not_eq_false] at q80) | (dsimp only at q80) | skip
                refine RegD.skip (i := 31) rfl rfl rfl rfl rfl rfl rfl (by kernel_rfl) ?_
                refine RegD.skip (i := 32) rfl rfl rfl rfl rfl rfl rfl (by kernel_rfl) ?_
                refine RegD.skip (i := 33) rfl rfl rfl rfl rfl rfl rfl (by kernel_rfl) ?_
                refine RegD.gtpur (i := 34) rfl rfl rfl rfl rfl rfl (by kernel_rfl) (Pur.pickF rfl rfl) ?_
                refine RegD.gtpur (i := 35) rfl rfl rfl rfl rfl rfl (by kernel_rfl) (Pur.mv rfl) ?_
                refine RegD.skip (i := 36) rfl rfl rfl rfl rfl rfl rfl (by kernel_rfl) ?_
                refine RegD.skip (i := 37) rfl rfl rfl rfl rfl rfl rfl (by kernel_rfl) ?_
                refine RegD.skip (i := 38) rfl rfl rfl rfl rfl rfl rfl (by kernel_rfl) ?_
                refine RegD.skip (i := 39) rfl rfl rfl rfl rfl rfl rfl (by kernel_rfl) ?_
                refine RegD.skip (i := 40) rfl rfl rfl rfl rfl rfl rfl (by kernel_rfl) ?_
                refine RegD.skip (i := 41) rfl rfl rfl rfl rfl rfl rfl (by kernel_rfl) ?_
                refine RegD.skip (i := 42) rfl rfl rfl rfl rfl rfl rfl (by kernel_rfl) ?_
                refine RegD.skip (i := 43) rfl rfl rfl rfl rfl rfl rfl (by kernel_rfl) ?_
                refine RegD.skip (i := 44) rfl rfl rfl rfl rfl rfl rfl (by kernel_rfl) ?_
                refine RegD.gtpur (i := 45) rfl rfl rfl rfl rfl rfl (by kernel_rfl) (Pur.pickF rfl rfl) ?_
                refine RegD.tpur (i := 46) rfl rfl rfl rfl (by kernel_rfl) (Pur.pickF rfl rfl) ?_
                refine RegD.tpur (i := 47) rfl rfl rfl rfl (by kernel_rfl) (Pur.asg rfl) ?_
                refine RegD.done (by kernel_rfl) ?_
                refine At.region rfl rfl ?_
                refine Reg.pur rfl rfl rfl rfl (Pur.mv rfl) ?_
                first | refine Reg.pur rfl rfl rfl rfl (Pur.add64 rfl rfl (by omega)) ?_ | refine Reg.pur rfl rfl rfl rfl (Pur.add64 rfl rfl (by assumption)) ?_ | refine Reg.pur rfl rfl rfl rfl (Pur.add rfl rfl) ?_
                refine Reg.pur rfl rfl rfl rfl (Pur.asg rfl) ?_
                refine Reg.nil ?_
                refine At.via (ihj (j + 1, (L.take (j + 1)).any (inT bd)) _ ⟨by omega, rfl, hL4⟩ (by simp only; omega)) ⟨rfl, congrArg (fun t => some (Value.bool t)) ?_, rfl, rfl, rfl, rfl, rfl, trivial⟩
                rw [hany]; unfold inT; revert q23 q35 q42 q51 q58 q63 q80; cases bd.isRow <;> simp +contextual
          · first | (simp only [decide_eq_true_eq, decide_eq_false_iff_not, Bool.not_eq_true', Bool.not_eq_false', ne_eq, Decidable.not_not, Bool.not_eq_true, Bool.not_eq_false] at q58) | (dsimp only at q58) | skip
            refine RegD.skip (i := 9) rfl rfl rfl rfl rfl rfl rfl (by kernel_rfl) ?_
            refine RegD.skip (i := 10) rfl rfl rfl rfl rfl rfl rfl (by kernel_rfl) ?_
            refine RegD.skip (i := 11) rfl rfl rfl rfl rfl rfl rfl (by kernel_rfl) ?_
            refine RegD.gtpur (i := 12) rfl rfl rfl rfl rfl rfl (by kernel_rfl) (Pur.pickF rfl rfl) ?_
            refine RegD.gtpur (i := 13) rfl rfl rfl rfl rfl rfl (by kernel_rfl) (Pur.mv rfl) ?_
            refine RegD.skip (i := 14) rfl rfl rfl rfl rfl rfl rfl (by kernel_rfl) ?_
            refine RegD.skip (i := 15) rfl rfl rfl rfl rfl rfl rfl (by kernel_rfl) ?_
            refine RegD.skip (i := 16) rfl rfl rfl rfl rfl rfl rfl (by kernel_rfl) ?_
            refine RegD.skip (i := 17) rfl rfl rfl rfl rfl rfl rfl (by kernel_rfl) ?_
            refine RegD.skip (i := 18) rfl rfl rfl rfl rfl rfl rfl (by kernel_rfl) ?_
            refine RegD.skip (i := 19) rfl rfl rfl rfl rfl rfl rfl (by kernel_rfl) ?_
            refine RegD.skip (i := 20) rfl rfl rfl rfl rfl rfl rfl (by kernel_rfl) ?_
            refine RegD.skip (i := 21) rfl rfl rfl rfl rfl rfl rfl (by kernel_rfl) ?_
            refine RegD.gtpur (i := 22) rfl rfl rfl rfl rfl rfl (by kernel_rfl) (Pur.pickF rfl rfl) ?_
            refine RegD.tpur (i := 23) rfl rfl rfl rfl (by kernel_rfl) (Pur.pickF rfl rfl) ?_
            refine RegD.tpur (i := 24) rfl rfl rfl rfl (by kernel_rfl) (Pur.mv rfl) ?_
            refine RegD.gtpur (i := 25) rfl rfl rfl rfl rfl rfl (by kernel_rfl) (Pur.mv rfl) ?_
            refine RegD.gtpur (i := 26) rfl rfl rfl rfl rfl rfl (by kernel_rfl) (Pur.mv rfl) ?_
            refine RegD.gtpur (i := 27) rfl rfl rfl rfl rfl rfl (by kernel_rfl) (Pur.idx _ es22 rfl rfl (by omega) (by omega)) ?_
            refine RegD.gtpur (i := 28) rfl rfl rfl rfl rfl rfl (by kernel_rfl) (Pur.fld _ fo49_1 rfl) ?_
            refine RegD.gtake (i := 29) rfl rfl rfl rfl rfl rfl (by kernel_rfl) (Bks.cons hB0.blk (Bks.cons o14_5.blk Bks.nil)) (fun H hS => Lod.ld sc4 rfl hS.hd (at_tk (j := 1) hd (by decide) rfl)) ?_
            refine RegD.gtpur (i := 30) rfl rfl rfl rfl rfl rfl (by kernel_rfl) (Pur.mv rfl) ?_
            refine RegD.case 80 rfl (fun q80 => ?_) (fun q80 => ?_)
            · first | (simp only [decide_eq_true_eq, decide_eq_false_iff_not, Bool.not_eq_true', Bool.not_eq_false', ne_eq, Decidable.not_not, Bool.not_eq_true, Bool.not_eq_false] at q80) | (dsimp only at q80) | skip
              refine RegD.gtpur (i := 31) rfl rfl rfl rfl rfl rfl (by kernel_rfl) (Pur.fld _ fo47_0 rfl) ?_
              refine RegD.gtake (i := 32) rfl rfl rfl rfl rfl rfl (by kernel_rfl) (Bks.cons hB0.blk (Bks.cons o14_5.blk Bks.nil)) (fun H hS => Lod.ld sc3 rfl hS.tl.hd (by first | rfl | (simp; done))) ?_
              refine RegD.gtpur (i := 33) rfl rfl rfl rfl rfl rfl (by kernel_rfl) (Pur.eql rfl rfl) ?_
              refine RegD.gtpur (i := 34) rfl rfl rfl rfl rfl rfl (by kernel_rfl) (Pur.pickT rfl rfl) ?_
              refine RegD.gtpur (i := 35) rfl rfl rfl rfl rfl rfl (by kernel_rfl) (Pur.mv rfl) ?_
              refine RegD.case 85 rfl (fun q85 => ?_) (fun q85 => ?_)
              · first | (simp only [decide_eq_true_eq, decide_eq_false_iff_not, Bool.not_eq_true', Bool.not_eq_false', ne_eq, Decidable.not_not, Bool.not_eq_true, Bool.not_eq_false] at q85) | (dsimp only at q85) | skip
                refine RegD.gtpur (i := 36) rfl rfl rfl rfl rfl rfl (by kernel_rfl) (Pur.fld _ fo47_4 rfl) ?_
                refine RegD.gtpur (i := 37) rfl rfl rfl rfl rfl rfl (by kernel_rfl) (Pur.fld _ fo28_1 rfl) ?_
                refine RegD.gtake (i := 38) rfl rfl rfl rfl rfl rfl (by kernel_rfl) (Bks.cons hB0.blk (Bks.cons o14_5.blk Bks.nil)) (fun H hS => Lod.ld sc3 rfl hS.tl.hd (by first | rfl | (simp; done))) ?_
                refine RegD.gtpur (i := 39) rfl rfl rfl rfl rfl rfl (by kernel_rfl) (Pur.mv rfl) ?_
                refine RegD.gtpur (i := 40) rfl rfl rfl rfl rfl rfl (by kernel_rfl) (Pur.mv rfl) ?_
                refine RegD.gtpur (i := 41) rfl rfl rfl rfl rfl rfl (by kernel_rfl) (Pur.idx _ es22 rfl rfl (by omega) (by omega)) ?_
                refine RegD.gtpur (i := 42) rfl rfl rfl rfl rfl rfl (by kernel_rfl) (Pur.fld _ fo49_0 rfl) ?_
                refine RegD.gtake (i := 43) rfl rfl rfl rfl rfl rfl (by kernel_rfl) (Bks.cons hB0.blk (Bks.cons o14_5.blk Bks.nil)) (fun H hS => Lod.ld sc3 rfl hS.hd (at_tk (j := 0) hd (by decide) rfl)) ?_
                refine RegD.gtpur (i := 44) rfl rfl rfl rfl rfl rfl (by kernel_rfl) (Pur.eql rfl rfl) ?_
                refine RegD.gtpur (i := 45) rfl rfl rfl rfl rfl rfl (by kernel_rfl) (Pur.pickT rfl rfl) ?_
                refine RegD.tpur (i := 46) rfl rfl rfl rfl (by kernel_rfl) (Pur.pickF rfl rfl) ?_
                refine RegD.tpur (i := 47) rfl rfl rfl rfl (by kernel_rfl) (Pur.asg rfl) ?_
                refine RegD.done (by kernel_rfl) ?_
                refine At.region rfl rfl ?_
                refine Reg.pur rfl rfl rfl rfl (Pur.mv rfl) ?_
                first | refine Reg.pur rfl rfl rfl rfl (Pur.add64 rfl rfl (by omega)) ?_ | refine Reg.pur rfl rfl rfl rfl (Pur.add64 rfl rfl (by assumption)) ?_ | refine Reg.pur rfl rfl rfl rfl (Pur.add rfl rfl) ?_
                refine Reg.pur rfl rfl rfl rfl (Pur.asg rfl) ?_
                refine Reg.nil ?_
                refine At.via (ihj (j + 1, (L.take (j + 1)).any (inT bd)) _ ⟨by omega, rfl, hL4⟩ (by simp only; omega)) ⟨rfl, congrArg (fun t => some (Value.bool t)) ?_, rfl, rfl, rfl, rfl, rfl, trivial⟩
                rw [hany]; unfold inT; revert q23 q35 q42 q51 q58 q80 q85; cases bd.isRow <;> simp +contextual
              · first | (simp only [decide_eq_true_eq, decide_eq_false_iff_not, Bool.not_eq_true', Bool.not_eq_false', ne_eq, Decidable.not_not, Bool.not_eq_true, Bool.not_eq_false] at q85) | (dsimp only at q85) | skip
                refine RegD.skip (i := 36) rfl rfl rfl rfl rfl rfl rfl (by kernel_rfl) ?_
                refine RegD.skip (i := 37) rfl rfl rfl rfl rfl rfl rfl (by kernel_rfl) ?_
                refine RegD.skip (i := 38) rfl rfl rfl rfl rfl rfl rfl (by kernel_rfl) ?_
                refine RegD.skip (i := 39) rfl rfl rfl rfl rfl rfl rfl (by kernel_rfl) ?_
                refine RegD.skip (i := 40) rfl rfl rfl rfl rfl rfl rfl (by kernel_rfl) ?_
                refine RegD.skip (i := 41) rfl rfl rfl rfl rfl rfl rfl (by kernel_rfl) ?_
                refine RegD.skip (i := 42) rfl rfl rfl rfl rfl rfl rfl (by kernel_rfl) ?_
                refine RegD.skip (i := 43) rfl rfl rfl rfl rfl rfl rfl (by kernel_rfl) ?_
                refine RegD.skip (i := 44) rfl rfl rfl rfl rfl rfl rfl (by kernel_rfl) ?_
                refine RegD.gtpur (i := 45) rfl rfl rfl rfl rfl rfl (by kernel_rfl) (Pur.pickF rfl rfl) ?_
                refine RegD.tpur (i := 46) rfl rfl rfl rfl (by kernel_rfl) (Pur.pickF rfl rfl) ?_
                refine RegD.tpur (i := 47) rfl rfl rfl rfl (by kernel_rfl) (Pur.asg rfl) ?_
                refine RegD.done (by kernel_rfl) ?_
                refine At.region rfl rfl ?_
                refine Reg.pur rfl rfl rfl rfl (Pur.mv rfl) ?_
                first | refine Reg.pur rfl rfl rfl rfl (Pur.add64 rfl rfl (by omega)) ?_ | refine Reg.pur rfl rfl rfl rfl (Pur.add64 rfl rfl (by assumption)) ?_ | refine Reg.pur rfl rfl rfl rfl (Pur.add rfl rfl) ?_
                refine Reg.pur rfl rfl rfl rfl (Pur.asg rfl) ?_
                refine Reg.nil ?_
                refine At.via (ihj (j + 1, (L.take (j + 1)).any (inT bd)) _ ⟨by omega, rfl, hL4⟩ (by simp only; omega)) ⟨rfl, congrArg (fun t => some (Value.bool t)) ?_, rfl, rfl, rfl, rfl, rfl, trivial⟩
                rw [hany]; unfold inT; revert q23 q35 q42 q51 q58 q80 q85; cases bd.isRow <;> simp +contextual
            · first | (simp only [decide_eq_true_eq, decide_eq_false_iff_not, Bool.not_eq_true', Bool.not_eq_false', ne_eq, Decidable.not_not, Bool.not_eq_true, Bool.not_eq_false] at q80) | (dsimp only at q80) | skip
              refine RegD.skip (i := 31) rfl rfl rfl rfl rfl rfl rfl (by kernel_rfl) ?_
              refine RegD.skip (i := 32) rfl rfl rfl rfl rfl rfl rfl (by kernel_rfl) ?_
              refine RegD.skip (i := 33) rfl rfl rfl rfl rfl rfl rfl (by kernel_rfl) ?_
              refine RegD.gtpur (i := 34) rfl rfl rfl rfl rfl rfl (by kernel_rfl) (Pur.pickF rfl rfl) ?_
              refine RegD.gtpur (i := 35) rfl rfl rfl rfl rfl rfl (by kernel_rfl) (Pur.mv rfl) ?_
              refine RegD.skip (i := 36) rfl rfl rfl rfl rfl rfl rfl (by kernel_rfl) ?_
              refine RegD.skip (i := 37) rfl rfl rfl rfl rfl rfl rfl (by kernel_rfl) ?_
              refine RegD.skip (i := 38) rfl rfl rfl rfl rfl rfl rfl (by kernel_rfl) ?_
              refine RegD.skip (i := 39) rfl rfl rfl rfl rfl rfl rfl (by kernel_rfl) ?_
              refine RegD.skip (i := 40) rfl rfl rfl rfl rfl rfl rfl (by kernel_rfl) ?_
              refine RegD.skip (i := 41) rfl rfl rfl rfl rfl rfl rfl (by kernel_rfl) ?_
              refine RegD.skip (i := 42) rfl rfl rfl rfl rfl rfl rfl (by kernel_rfl) ?_
              refine RegD.skip (i := 43) rfl rfl rfl rfl rfl rfl rfl (by kernel_rfl) ?_
              refine RegD.skip (i := 44) rfl rfl rfl rfl rfl rfl rfl (by kernel_rfl) ?_
              refine RegD.gtpur (i := 45) rfl rfl rfl rfl rfl rfl (by kernel_rfl) (Pur.pickF rfl rfl) ?_
              refine RegD.tpur (i := 46) rfl rfl rfl rfl (by kernel_rfl) (Pur.pickF rfl rfl) ?_
              refine RegD.tpur (i := 47) rfl rfl rfl rfl (by kernel_rfl) (Pur.asg rfl) ?_
              refine RegD.done (by kernel_rfl) ?_
              refine At.region rfl rfl ?_
              refine Reg.pur rfl rfl rfl rfl (Pur.mv rfl) ?_
              first | refine Reg.pur rfl rfl rfl rfl (Pur.add64 rfl rfl (by omega)) ?_ | refine Reg.pur rfl rfl rfl rfl (Pur.add64 rfl rfl (by assumption)) ?_ | refine Reg.pur rfl rfl rfl rfl (Pur.add rfl rfl) ?_
              refine Reg.pur rfl rfl rfl rfl (Pur.asg rfl) ?_
              refine Reg.nil ?_
              refine At.via (ihj (j + 1, (L.take (j + 1)).any (inT bd)) _ ⟨by omega, rfl, hL4⟩ (by simp only; omega)) ⟨rfl, congrArg (fun t => some (Value.bool t)) ?_, rfl, rfl, rfl, rfl, rfl, trivial⟩
              rw [hany]; unfold inT; revert q23 q35 q42 q51 q58 q80; cases bd.isRow <;> simp +contextual
      · first | (simp only [decide_eq_true_eq, decide_eq_false_iff_not, Bool.not_eq_true', Bool.not_eq_false', ne_eq, Decidable.not_not, Bool.not_eq_true, Bool.not_eq_false] at q42) | (dsimp only at q42) | skip
        rw [List.take_of_length_le (by omega)] at ht
        refine At.region rfl rfl ?_
        refine Reg.pur rfl rfl rfl rfl (Pur.mv rfl) ?_
        refine Reg.pur rfl rfl rfl rfl (Pur.not rfl) ?_
        refine Reg.nil ?_
        refine At.cond rfl rfl (fun q98 => ?_) (fun q98 => ?_)
        · first | (simp only [decide_eq_true_eq, decide_eq_false_iff_not, Bool.not_eq_true', Bool.not_eq_false', ne_eq, Decidable.not_not, Bool.not_eq_true, Bool.not_eq_false] at q98) | (dsimp only at q98) | skip
          refine At.region rfl rfl ?_
          refine Reg.pur rfl rfl rfl rfl (Pur.mv rfl) ?_
          refine Reg.pur rfl rfl rfl rfl (Pur.mv rfl) ?_
          refine Reg.pur rfl rfl rfl rfl (Pur.mv rfl) ?_
          refine Reg.pur rfl rfl rfl rfl (Pur.idx _ es22 rfl rfl (by omega) (by omega)) ?_
          refine Reg.lod rfl rfl rfl rfl (Lod.ldn ag49 rfl hB0 hd hok.len) ?_
          refine Reg.op rfl rfl rfl rfl (Does.bslA ([encB bd]) slA22 rfl rfl rfl (by simp [hok.row]) rfl rfl) ?_
          rintro _ H17_5 ⟨rfl, hp17_5⟩
          have hn17_5 := New.of_eq hp17_5
          have z17_5 := hn17_5.size
          replace hE := hE.ext hn17_5.ext
          replace o0_0 := o0_0.ext hn17_5.ext
          replace o3_5 := o3_5.ext hn17_5.ext
          replace ho4 := ho4.ext hn17_5.ext
          replace hg := hg.ext hn17_5.ext
          replace hB0 := hB0.ext hn17_5.ext
          first | replace hL4 := hL4.ext hn17_5.ext | skip
          have o17_5 := hn17_5.own

          refine Reg.op rfl rfl rfl rfl (Does.appL apt22 rfl rfl (by decide) hg (fun x hx ↦ by simp at hx; subst hx; exact hok.len) (sl_one (x := bd) hok.len (by decide) hn17_5) (by simp [ones, Value.oneCell']) (by simp; omega) (by omega)) ?_
          rintro _ H17_6 ⟨A17_6, cap17_6, rfl, g17_6, hbut17_6, ha17_6⟩
          have z17_6 := hbut17_6.lt
          replace hE := hE.via hbut17_6 (by first | omega | (intro g; omega) | (intro g hg; omega) | (intro g hg h; omega))
          replace o0_0 := o0_0.via hbut17_6 (by first | omega | (intro g; omega) | (intro g hg; omega) | (intro g hg h; omega))
          replace o3_5 := o3_5.via hbut17_6 (by first | omega | (intro g; omega) | (intro g hg; omega) | (intro g hg h; omega))
          replace ho4 := ho4.via hbut17_6 (by first | omega | (intro g; omega) | (intro g hg; omega) | (intro g hg h; omega))
          first | replace hL4 := hL4.via hbut17_6 (by first | omega | (intro g; omega) | (intro g hg; omega) | (intro g hg h; omega)) | skip
          replace o17_5 := o17_5.via hbut17_6 (by first | omega | (intro g; omega) | (intro g hg; omega) | (intro g hg h; omega))
          replace hg := g17_6
          have zg17_6 := g17_6.lt
          refine Reg.pur rfl rfl rfl rfl (Pur.asg rfl) ?_
          refine Reg.nil ?_
          refine At.region rfl rfl ?_
          refine Reg.pur rfl rfl rfl rfl (Pur.mv rfl) ?_
          first | refine Reg.pur rfl rfl rfl rfl (Pur.add64 rfl rfl (by omega)) ?_ | refine Reg.pur rfl rfl rfl rfl (Pur.add64 rfl rfl (by assumption)) ?_ | refine Reg.pur rfl rfl rfl rfl (Pur.add rfl rfl) ?_
          refine Reg.pur rfl rfl rfl rfl (Pur.asg rfl) ?_
          refine Reg.nil ?_
          rw [← ht] at hnx
          first | (rw [q98, if_neg (by decide)] at hnx; exact At.via (ih (i + 1, out ++ [bd], A17_6, cap17_6) _ ⟨by omega, hnx.symm, hg, o0_0, o3_5, ho4, hE⟩ (by simp only; omega)) ⟨rfl, rfl, rfl, rfl, rfl, trivial⟩) | (rw [q98, if_pos rfl, List.append_nil] at hnx; exact At.via (ih (i + 1, out, A', cap') _ ⟨by omega, hnx.symm, hg, o0_0, o3_5, ho4, hE⟩ (by simp only; omega)) ⟨rfl, rfl, rfl, rfl, rfl, trivial⟩)
        · first | (simp only [decide_eq_true_eq, decide_eq_false_iff_not, Bool.not_eq_true', Bool.not_eq_false', ne_eq, Decidable.not_not, Bool.not_eq_true, Bool.not_eq_false] at q98) | (dsimp only at q98) | skip
          refine At.region rfl rfl ?_
          refine Reg.pur rfl rfl rfl rfl (Pur.mv rfl) ?_
          first | refine Reg.pur rfl rfl rfl rfl (Pur.add64 rfl rfl (by omega)) ?_ | refine Reg.pur rfl rfl rfl rfl (Pur.add64 rfl rfl (by assumption)) ?_ | refine Reg.pur rfl rfl rfl rfl (Pur.add rfl rfl) ?_
          refine Reg.pur rfl rfl rfl rfl (Pur.asg rfl) ?_
          refine Reg.nil ?_
          rw [← ht] at hnx
          first | (rw [q98, if_neg (by decide)] at hnx; exact At.via (ih (i + 1, out ++ [bd], A17_6, cap17_6) _ ⟨by omega, hnx.symm, hg, o0_0, o3_5, ho4, hE⟩ (by simp only; omega)) ⟨rfl, rfl, rfl, rfl, rfl, trivial⟩) | (rw [q98, if_pos rfl, List.append_nil] at hnx; exact At.via (ih (i + 1, out, A', cap') _ ⟨by omega, hnx.symm, hg, o0_0, o3_5, ho4, hE⟩ (by simp only; omega)) ⟨rfl, rfl, rfl, rfl, rfl, trivial⟩)
    · first | (simp only [decide_eq_true_eq, decide_eq_false_iff_not, Bool.not_eq_true', Bool.not_eq_false', ne_eq, Decidable.not_not, Bool.not_eq_true, Bool.not_eq_false] at q35) | (dsimp only at q35) | skip
      have hmem : ∀ b ∈ out, b ∈ Bs ∧ L.any (inT b) = false := by { intro b hb; rw [hout, List.mem_filter] at hb; exact ⟨List.mem_of_mem_take hb.1, by simpa using hb.2⟩ }
      have hC : Bds H4 (.slice A' out.length cap') out := ⟨own_sl (fun x hx => (hB.ok x (hmem x hx).1).len) (by decide) hg, fun x hx => (hB.ok x (hmem x hx).1).ext hE, by omega⟩
      refine At.region rfl rfl ?_
      refine Reg.pur rfl rfl rfl rfl (Pur.mv rfl) ?_
      refine Reg.lod rfl rfl rfl rfl (Lod.ldn ag25 rfl o0_0.blk (by first | exact whole rfl | rfl | (simp only [List.drop_succ_cons, List.drop_zero, List.take_succ_cons, List.take_zero]; rfl)) (by first | rfl | (simp [*]; done))) ?_
      refine Reg.op rfl rfl rfl rfl (Does.call rfl (type_ok hC (hS.ext hE) hL hm)) ?_
      rintro v18_2 H18_2 ⟨hE18_2, hT18_2⟩
      have z18_2 := hE18_2.lt
      replace hE := hE.ext hE18_2
      replace o0_0 := o0_0.ext hE18_2
      replace o3_5 := o3_5.ext hE18_2
      replace ho4 := ho4.ext hE18_2
      replace hg := hg.ext hE18_2
      have hsub2 := subT_notin (Bs := out) hL (fun b hb => (hmem b hb).2)
      obtain ⟨A6, cap6, rfl, ho6, hN6, hl6⟩ := hT18_2
      have z_ho6 := ho6.lt
      refine Reg.pur rfl rfl rfl rfl (Pur.mv rfl) ?_
      refine Reg.pur rfl rfl rfl rfl (Pur.ext rfl rfl) ?_
      refine Reg.pur rfl rfl rfl rfl (Pur.ext rfl rfl) ?_
      refine Reg.op rfl rfl rfl rfl (Does.alloc zc25) ?_
      rintro _ H18_6 ⟨rfl, hn18_6⟩
      have z18_6 := hn18_6.size
      replace hE := hE.ext hn18_6.ext
      replace o0_0 := o0_0.ext hn18_6.ext
      replace o3_5 := o3_5.ext hn18_6.ext
      replace ho4 := ho4.ext hn18_6.ext
      replace hg := hg.ext hn18_6.ext
      replace ho6 := ho6.ext hn18_6.ext
      have o18_6 := hn18_6.own
      refine Reg.op0 rfl rfl rfl (Does.stn ag25 rfl rfl (by first | rfl | exact ones_Is _) (by first | rfl | (simp [*]; done)) o18_6 (by first | decide | (simp; done) | (simp; omega) | omega)) ?_
      rintro _ H18_7 hu18_7
      have z18_7 := hu18_7.size
      replace hE := hE.upw hu18_7 (by omega)
      replace o0_0 := o0_0.upw hu18_7 (by omega)
      replace o3_5 := o3_5.upw hu18_7 (by omega)
      replace ho4 := ho4.upw hu18_7 (by omega)
      replace hg := hg.upw hu18_7 (by omega)
      replace ho6 := ho6.upw hu18_7 (by omega)
      replace o18_6 := hu18_7.own
      first | rw [over (by first | rfl | (simp; done))] at o18_6 | skip
      refine Reg.pur rfl rfl rfl rfl (Pur.asg rfl) ?_
      refine Reg.nil ?_
      refine At.region rfl rfl ?_
      refine Reg.lod rfl rfl rfl rfl (Lod.ldn ag25 rfl o3_5.blk (by first | exact whole rfl | rfl | (simp only [List.drop_succ_cons, List.drop_zero, List.take_succ_cons, List.take_zero]; rfl)) (by first | rfl | (simp [*]; done))) ?_
      refine Reg.lod rfl rfl rfl rfl (Lod.ldn ag25 rfl o0_0.blk (by first | exact whole rfl | rfl | (simp only [List.drop_succ_cons, List.drop_zero, List.take_succ_cons, List.take_zero]; rfl)) (by first | rfl | (simp [*]; done))) ?_
      refine Reg.op rfl rfl rfl rfl (Does.call rfl (sameType_ok hL hL (own_sl (wide9 hL) (by decide) ho4) (hS.ext hE) (by omega))) ?_
      rintro _ H19_2 ⟨rfl, hE19_2⟩
      have z19_2 := hE19_2.lt
      replace hE := hE.ext hE19_2
      replace o0_0 := o0_0.ext hE19_2
      replace o3_5 := o3_5.ext hE19_2
      replace ho4 := ho4.ext hE19_2
      replace hg := hg.ext hE19_2
      replace ho6 := ho6.ext hE19_2
      replace o18_6 := o18_6.ext hE19_2
      refine Reg.pur rfl rfl rfl rfl (Pur.mv rfl) ?_
      refine Reg.known (b' := true) 115 rfl (by simp) ?_
      refine Reg.gpur rfl rfl rfl rfl rfl rfl (Pur.mv rfl) ?_
      refine Reg.gop rfl rfl rfl rfl rfl rfl (Does.call rfl (numE_ok _ _)) ?_
      rintro _ H19_2 ⟨rfl, rfl⟩
      refine Reg.gpur rfl rfl rfl rfl rfl rfl (Pur.neq rfl rfl) ?_
      refine Reg.gpur rfl rfl rfl rfl rfl rfl (Pur.mv rfl) ?_
      refine Reg.case 119 rfl (fun q119 => ?_) (fun q119 => ?_)
      · first | (simp only [decide_eq_true_eq, decide_eq_false_iff_not, Bool.not_eq_true', Bool.not_eq_false', ne_eq, Decidable.not_not, Bool.not_eq_true, Bool.not_eq_false] at q119) | (dsimp only at q119) | skip
        refine Reg.skip rfl rfl rfl rfl rfl rfl rfl ?_
        refine Reg.skip rfl rfl rfl rfl rfl rfl rfl ?_
        refine Reg.skip rfl rfl rfl rfl rfl rfl rfl ?_
        refine Reg.gpur rfl rfl rfl rfl rfl rfl (Pur.pickT rfl rfl) ?_
        refine Reg.pur rfl rfl rfl rfl (Pur.pickT rfl rfl) ?_
        refine Reg.pur rfl rfl rfl rfl (Pur.asg rfl) ?_
        refine Reg.nil ?_
        refine At.ret rfl Try.func4 rfl ?_
        refine ⟨congrArg Value.bool ?_, hE⟩
        by_cases hq' : subT out L = none
        · first | rfl | exact absurd q119 (by rw [hq']; decide)
        rcases hsub2 with hq | hq
        · first | rfl | simp [hq.1]
        · exact (hq' hq.1).elim
      · first | (simp only [decide_eq_true_eq, decide_eq_false_iff_not, Bool.not_eq_true', Bool.not_eq_false', ne_eq, Decidable.not_not, Bool.not_eq_true, Bool.not_eq_false] at q119) | (dsimp only at q119) | skip
        refine Reg.glod rfl rfl rfl rfl rfl rfl (Lod.ldn ag25 rfl o18_6.blk (by first | exact whole rfl | rfl | (simp only [List.drop_succ_cons, List.drop_zero, List.take_succ_cons, List.take_zero]; rfl)) (by first | rfl | (simp [*]; done))) ?_
        refine Reg.glod rfl rfl rfl rfl rfl rfl (Lod.ldn ag25 rfl o0_0.blk (by first | exact whole rfl | rfl | (simp only [List.drop_succ_cons, List.drop_zero, List.take_succ_cons, List.take_zero]; rfl)) (by first | rfl | (simp [*]; done))) ?_
        refine Reg.gop rfl rfl rfl rfl rfl rfl (Does.call rfl (sameType_ok hN6 hL (own_sl (wide9 hN6) (by decide) ho6) (hS.ext hE) (by omega))) ?_
        rintro _ H19_10 ⟨rfl, hE19_10⟩
        have z19_10 := hE19_10.lt
        replace hE := hE.ext hE19_10
        replace o0_0 := o0_0.ext hE19_10
        replace o3_5 := o3_5.ext hE19_10
        replace ho4 := ho4.ext hE19_10
        replace hg := hg.ext hE19_10
        replace ho6 := ho6.ext hE19_10
        replace o18_6 := o18_6.ext hE19_10
        refine Reg.gpur rfl rfl rfl rfl rfl rfl (Pur.pickF rfl rfl) ?_
        refine Reg.pur rfl rfl rfl rfl (Pur.pickT rfl rfl) ?_
        refine Reg.pur rfl rfl rfl rfl (Pur.asg rfl) ?_
        refine Reg.nil ?_
        refine At.ret rfl Try.func4 rfl ?_
        refine ⟨congrArg Value.bool ?_, hE⟩
        by_cases hq' : subT out L = none
        · first | rfl | exact absurd q119 (by rw [hq']; decide)
        rcases hsub2 with hq | hq
        · first | rfl | simp [hq.1]
        · exact (hq' hq.1).elim
end Go.Proofs.Ytlfillhffpiffaa
