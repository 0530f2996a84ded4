/-
  Parts of the proof, 3.
-/
import Derived.Test.YtlfillhffpiffaaR2
namespace Go.Proofs.Ytlfillhffpiffaa
set_option linter.unusedSimpArgs false
set_option linter.unusedVariables false
set_option maxRecDepth 8000
open Go Go.Fx Go.Proofs
namespace FactsSubL
theorem ag25 : ag Try.prog 25 = some 1 := by kernel_rfl
theorem ag28 : ag Try.prog 28 = some 5 := by kernel_rfl
theorem ag47 : ag Try.prog 47 = some 9 := by kernel_rfl
theorem apt23 : appT Try.prog 23 = some (47, 9, 72) := by kernel_rfl
theorem apt54 : appT Try.prog 54 = some (3, 1, 8) := by kernel_rfl
theorem es22 : esz Try.prog 22 = some 8 := by kernel_rfl
theorem es23 : esz Try.prog 23 = some 9 := by kernel_rfl
theorem es54 : esz Try.prog 54 = some 1 := by kernel_rfl
theorem fo25_0 : foff Try.prog 25 0 = some 0 := by kernel_rfl
theorem fo47_0 : foff Try.prog 47 0 = some 0 := by kernel_rfl
theorem fo47_1 : foff Try.prog 47 1 = some 1 := by kernel_rfl
theorem fo47_2 : foff Try.prog 47 2 = some 2 := by kernel_rfl
theorem fo47_3 : foff Try.prog 47 3 = some 3 := by kernel_rfl
theorem fo47_4 : foff Try.prog 47 4 = some 4 := by kernel_rfl
theorem fo49_0 : foff Try.prog 49 0 = some 0 := by kernel_rfl
theorem fo49_1 : foff Try.prog 49 1 = some 1 := by kernel_rfl
theorem fo49_2 : foff Try.prog 49 2 = some 2 := by kernel_rfl
theorem isl22 : isSl Try.prog 22 = true := by kernel_rfl
theorem isl23 : isSl Try.prog 23 = true := by kernel_rfl
theorem mixed : Try.prog.follows .mixedOrders = true := by kernel_rfl
theorem pl25 : places Try.prog 25 = some [(0, 1)] := by kernel_rfl
theorem sc23 : sc Try.prog 23 = true := by kernel_rfl
theorem sc3 : sc Try.prog 3 = true := by kernel_rfl
theorem sc4 : sc Try.prog 4 = true := by kernel_rfl
theorem sl1_54 : sl1 Try.prog 54 = true := by kernel_rfl
theorem slA23 : slA Try.prog 23 = some (47, 9) := by kernel_rfl
theorem zc25 : zc Try.prog 25 = some [.slice none 0 0] := by kernel_rfl
theorem zc28 : zc Try.prog 28 = some [.int .i64 0, .int .i64 0, .int .i64 0, .int .i64 0, .int .i64 0] := by kernel_rfl
theorem zc47 : zc Try.prog 47 = some [.int .i64 0, .int .i64 0, .int .i64 0, .int .i64 0, .int .i64 0, .int .i64 0, .int .i64 0, .int .i64 0, .int .i64 0] := by kernel_rfl
end FactsSubL
open FactsSubL

theorem movS_not3 {k : Int} {x : List Int} (h : ¬ x.getD 0 0 = 3) : movS k x = x := by unfold movS; rw [if_neg h]
theorem map1_mov {k : Int} {U : List (List Int)} {j : Nat} (h : j < U.length) : (U.take (j + 1)).map (movS k) = (U.take j).map (movS k) ++ [movS k U[j]] := by
  rw [List.take_succ_eq_append_getElem h, List.map_append]; rfl
theorem nine_app {L M : List (List Int)} (h : Nine L) (h' : Nine M) : Nine (L ++ M) := fun x hx => (List.mem_append.1 hx).elim (h x) (h' x)

theorem typeOf_ok {A A1 : Option Addr} {cap cap1 : Nat} {Bs : List Bd} {L : List (List Int)} {H : Heap} (hB : Bds H (.slice A Bs.length cap) Bs) (h256 : ∀ b ∈ Bs, b.nodes.length ≤ 256) (hS : SlT H Is 9 (.slice A1 L.length cap1) L) (hL : Nine L) (hM : typM L = true) :
    Ret Try.prog 57 [.slice A Bs.length cap, Ty A1 L.length cap1] H (fun v H' => Ext H H' ∧ TypB H.size H' v (typS Bs L)) := by
  have hlen : 1 ≤ L.length ∧ L.length ≤ 256 := by unfold typM at hM; simp only [Bool.and_eq_true, decide_eq_true_eq] at hM; exact hM.1.1
  have hbl : Bs.length ≤ 9223372036854775807 := hB.max
  refine Ret.of_at (N := 140) Try.call57 Try.func57 rfl rfl rfl ?_
  have hE := Ext.refl H
  refine At.region rfl rfl ?_
  refine Reg.op rfl rfl rfl rfl (Does.box rfl rfl) ?_
  rintro _ H0_0 ⟨rfl, hn0_0⟩
  have z0_0 := hn0_0.size
  replace hE := hE.ext hn0_0.ext
  have o0_0 := hn0_0.own
  refine Reg.op rfl rfl rfl rfl (Does.alloc zc25) ?_
  rintro _ H0_1 ⟨rfl, hn0_1⟩
  have z0_1 := hn0_1.size
  replace hE := hE.ext hn0_1.ext
  replace o0_0 := o0_0.ext hn0_1.ext
  have o0_1 := hn0_1.own
  refine Reg.pur rfl rfl rfl rfl (Pur.asg rfl) ?_
  refine Reg.nil ?_
  refine At.region rfl rfl ?_
  refine Reg.pur rfl rfl rfl rfl (Pur.asg rfl) ?_
  refine Reg.nil ?_
  refine At.region rfl rfl ?_
  refine Reg.pur rfl rfl rfl rfl (Pur.asg rfl) ?_
  refine Reg.nil ?_
  refine At.region rfl rfl ?_
  refine Reg.pur rfl rfl rfl rfl (Pur.asg rfl) ?_
  refine Reg.nil ?_
  refine At.loop (σ := Nat × List (List Int) × List Int × Option Addr × Nat × Option Addr × Nat) (fun (i, out, ends, A', cap', A2, cap2) => [(8, I i), (6, .slice A' out.length cap'), (7, .slice A2 ends.length cap2), (0, .slice A Bs.length cap), (3, ptr H.size 0), (4, ptr H0_0.size 0)]) (fun (i, out, ends, A', cap', A2, cap2) H' => i ≤ L.length ∧ out.length ≤ 256 ∧ ends.length = i ∧ Nine out ∧ Gs H' H0_1.size 47 9 A' cap' out.length (out.flatMap Is) ∧ Gs H' H0_1.size 3 1 A2 cap2 ends.length (ends.flatMap e1) ∧ (ob A' = -1 ∨ ob A' ≠ ob A2) ∧ Own H' H.size [.slice A1 L.length cap1] ∧ Own H' H0_0.size [.slice none 0 0] ∧ Ext H H' ∧ goS Bs (L.drop i) out ends = typS Bs L) (fun s => L.length - s.1) (0, [], [], none, 0, none, 0) rfl ⟨rfl, rfl, rfl, rfl, rfl, rfl, trivial⟩ ⟨by omega, by simp, rfl, (fun x hx => by cases hx), OwnS.nilG, OwnS.nilG, .inl rfl, o0_0, o0_1, hE, rfl⟩ ?_
  clear hE o0_0 o0_1
  rintro ⟨i, out, ends, A', cap', A2, cap2⟩ H3 ⟨hi, hol, hel, hN, hg1, hg2, hap, o0_0, o0_1, hE, hgo⟩ ih
  dsimp only at hi hol hel hN hg1 hg2 hap hgo ⊢
  have z_hE := hE.lt
  have z_o0_0 := o0_0.lt
  have z_o0_1 := o0_1.lt
  have z_hg1 := hg1.lt
  have z_hg2 := hg2.lt
  refine At.region rfl rfl ?_
  refine Reg.pur rfl rfl rfl rfl (Pur.mv rfl) ?_
  refine Reg.pur rfl rfl rfl rfl (Pur.fld _ fo25_0 rfl) ?_
  refine Reg.lod rfl rfl rfl rfl (Lod.ld sc23 rfl o0_0.blk (by first | rfl | (simp; done))) ?_
  refine Reg.pur rfl rfl rfl rfl (Pur.lenS isl23 rfl) ?_
  refine Reg.pur rfl rfl rfl rfl (Pur.lss rfl rfl) ?_
  refine Reg.nil ?_
  refine At.cond rfl rfl (fun q21 => ?_) (fun q21 => ?_)
  · first | (simp only [decide_eq_true_eq, decide_eq_false_iff_not, Bool.not_eq_true', Bool.not_eq_false', ne_eq, Decidable.not_not, Bool.not_eq_true, Bool.not_eq_false] at q21) | (dsimp only at q21) | skip
    have hlt : i < L.length := by omega
    obtain ⟨b, o, c, rfl, hB0, hd, h9⟩ := sl_at (wide9 hL) (hS.ext hE) hlt
    have h9' := hL _ (List.getElem_mem hlt)
    have hfun := typM_all hM hlt
    have hnod := typM_nod hM hlt
    rw [dropL hlt, goS] at hgo
    generalize L[i] = x at hgo hd h9 h9' hfun hnod
    obtain ⟨k, v, p, q, c0, c1, c2, c3, t, rfl⟩ : ∃ k v p q c0 c1 c2 c3 t, x = [k, v, p, q, c0, c1, c2, c3, t] := by match x, h9' with | [k, v, p, q, c0, c1, c2, c3, t], _ => exact ⟨_, _, _, _, _, _, _, _, _, rfl⟩
    refine At.region rfl rfl ?_
    refine Reg.pur rfl rfl rfl rfl (Pur.fld _ fo25_0 rfl) ?_
    refine Reg.lod rfl rfl rfl rfl (Lod.ld sc23 rfl o0_0.blk (by first | rfl | (simp; done))) ?_
    refine Reg.pur rfl rfl rfl rfl (Pur.mv rfl) ?_
    refine Reg.pur rfl rfl rfl rfl (Pur.idx _ es23 rfl rfl (by omega) (by omega)) ?_
    refine Reg.lod rfl rfl rfl rfl (Lod.ldn ag47 rfl hB0 hd h9) ?_
    refine Reg.op rfl rfl rfl rfl (Does.alloc zc47) ?_
    rintro _ H6_5 ⟨rfl, hn6_5⟩
    have z6_5 := hn6_5.size
    replace hE := hE.ext hn6_5.ext
    replace o0_0 := o0_0.ext hn6_5.ext
    replace o0_1 := o0_1.ext hn6_5.ext
    replace hg1 := hg1.ext hn6_5.ext
    replace hg2 := hg2.ext hn6_5.ext
    have o6_5 := hn6_5.own
    refine Reg.op0 rfl rfl rfl (Does.stn ag47 rfl rfl (by first | rfl | exact ones_Is _) (by first | rfl | (simp [*]; done)) o6_5 (by first | decide | (simp; done) | (simp; omega) | omega)) ?_
    rintro _ H6_6 hu6_6
    have z6_6 := hu6_6.size
    replace hE := hE.upw hu6_6 (by omega)
    replace o0_0 := o0_0.upw hu6_6 (by omega)
    replace o0_1 := o0_1.upw hu6_6 (by omega)
    replace hg1 := hg1.upw hu6_6 (by omega)
    replace hg2 := hg2.upw hu6_6 (by omega)
    replace o6_5 := hu6_6.own
    first | rw [over (by first | rfl | (simp; done))] at o6_5 | skip
    refine Reg.nil ?_
    refine At.region rfl rfl ?_
    refine Reg.pur rfl rfl rfl rfl (Pur.fld _ fo47_0 rfl) ?_
    refine Reg.lod rfl rfl rfl rfl (Lod.ld sc3 rfl o6_5.blk (by first | rfl | (simp; done))) ?_
    refine Reg.nil ?_
    refine At.region rfl rfl ?_
    refine Reg.pur rfl rfl rfl rfl (Pur.eql rfl rfl) ?_
    refine Reg.pur rfl rfl rfl rfl (Pur.asg rfl) ?_
    refine Reg.nil ?_
    refine At.joinc (σ := List (List Int) × List (List Int) × Option Addr × Nat) (fun (m, out', A', cap') => [(6, .slice A' out'.length cap'), (7, .slice A2 ends.length cap2), (8, I i), (0, .slice A Bs.length cap), (3, ptr H.size 0), (4, ptr H0_0.size 0)]) (fun (m, out', A', cap') H' => moreS Bs out ends [k, v, p, q, c0, c1, c2, c3, t] = some m ∧ out' = out ++ m ∧ Nine m ∧ m.length ≤ 256 ∧ Gs H' H0_1.size 47 9 A' cap' out'.length (out'.flatMap Is) ∧ Gs H' H0_1.size 3 1 A2 cap2 ends.length (ends.flatMap e1) ∧ (ob A' = -1 ∨ ob A' ≠ ob A2) ∧ Own H' H.size [.slice (some ⟨b, o, none⟩) L.length cap1] ∧ Own H' H0_0.size [.slice none 0 0] ∧ Ext H H') rfl (fun hJ => ?_) (fun s H7 hs => ?_)
    · refine At.cond rfl rfl (fun q35 => ?_) (fun q35 => ?_)
      · first | (simp only [decide_eq_true_eq, decide_eq_false_iff_not, Bool.not_eq_true', Bool.not_eq_false', ne_eq, Decidable.not_not, Bool.not_eq_true, Bool.not_eq_false] at q35) | (dsimp only at q35) | skip
        obtain rfl : k = 2 := q35
        refine At.region rfl rfl ?_
        refine Reg.lod rfl rfl rfl rfl (Lod.ldn ag47 rfl o6_5.blk (by first | exact whole rfl | rfl | (simp only [List.drop_succ_cons, List.drop_zero, List.take_succ_cons, List.take_zero]; rfl)) (by first | rfl | (simp [*]; done))) ?_
        refine Reg.op rfl rfl rfl rfl (Does.bslA ([[_, _, _, _, _, _, _, _, _]]) slA23 rfl rfl rfl rfl rfl rfl) ?_
        rintro _ H10_1 ⟨rfl, hp10_1⟩
        have hn10_1 := New.of_eq hp10_1
        have z10_1 := hn10_1.size
        replace hE := hE.ext hn10_1.ext
        replace o0_0 := o0_0.ext hn10_1.ext
        replace o0_1 := o0_1.ext hn10_1.ext
        replace hg1 := hg1.ext hn10_1.ext
        replace hg2 := hg2.ext hn10_1.ext
        replace o6_5 := o6_5.ext hn10_1.ext
        have o10_1 := hn10_1.own
        refine Reg.pur rfl rfl rfl rfl (Pur.bld (cs := [_]) pl25 zc25 rfl rfl ⟨rfl, rfl⟩) ?_
        refine Reg.op rfl rfl rfl rfl (Does.alloc zc25) ?_
        rintro _ H10_3 ⟨rfl, hn10_3⟩
        have z10_3 := hn10_3.size
        replace hE := hE.ext hn10_3.ext
        replace o0_0 := o0_0.ext hn10_3.ext
        replace o0_1 := o0_1.ext hn10_3.ext
        replace hg1 := hg1.ext hn10_3.ext
        replace hg2 := hg2.ext hn10_3.ext
        replace o6_5 := o6_5.ext hn10_3.ext
        replace o10_1 := o10_1.ext hn10_3.ext
        have hT := hn10_3.own
        refine Reg.op0 rfl rfl rfl (Does.stn ag25 rfl rfl (by first | rfl | exact ones_Is _) (by first | rfl | (simp [*]; done)) hT (by first | decide | (simp; done) | (simp; omega) | omega)) ?_
        rintro _ H10_4 hu10_4
        have z10_4 := hu10_4.size
        replace hE := hE.upw hu10_4 (by omega)
        replace o0_0 := o0_0.upw hu10_4 (by omega)
        replace o0_1 := o0_1.upw hu10_4 (by omega)
        replace hg1 := hg1.upw hu10_4 (by omega)
        replace hg2 := hg2.upw hu10_4 (by omega)
        replace o6_5 := o6_5.upw hu10_4 (by omega)
        replace o10_1 := o10_1.upw hu10_4 (by omega)
        replace hT := hu10_4.own
        first | rw [over (by first | rfl | (simp; done))] at hT | skip
        refine Reg.nil ?_
        refine At.region rfl rfl ?_
        refine Reg.pur rfl rfl rfl rfl (Pur.asg rfl) ?_
        refine Reg.nil ?_
        refine At.joinb (σ := List (List Int) × Option Addr × Nat) (fun (U, Au, capu) => [(10, ptr H10_1.size 0), (9, ptr H3.size 0), (6, .slice A' out.length cap'), (7, .slice A2 ends.length cap2), (8, I i), (0, .slice A Bs.length cap), (3, ptr H.size 0), (4, ptr H0_0.size 0)]) (fun (U, Au, capu) H' => H'.size = H10_4.size ∧ moreS Bs out ends [2, v, p, q, c0, c1, c2, c3, t] = some (U.map (movS out.length)) ∧ Nine U ∧ U.length ≤ 256 ∧ SlT H' Is 9 (.slice Au U.length capu) U ∧ (U.length = 0 ∨ ob Au ≠ ob A') ∧ Own H' H10_1.size [.slice Au U.length capu] ∧ Gs H' H0_1.size 47 9 A' cap' out.length (out.flatMap Is) ∧ Gs H' H0_1.size 3 1 A2 cap2 ends.length (ends.flatMap e1) ∧ Own H' H.size [.slice (some ⟨b, o, none⟩) L.length cap1] ∧ Own H' H0_0.size [.slice none 0 0] ∧ Ext H H') (fun hK => ?_) (fun s H7 hs => ?_)
        · have hx10 : SlT H10_4 Is 9 (.slice (some ⟨H6_6.size, 0, none⟩) 1 1) [[2, v, p, q, c0, c1, c2, c3, t]] := ((sl_one (x := [2, v, p, q, c0, c1, c2, c3, t]) (by rfl) (by decide) hn10_1).ext hn10_3.ext).upw hu10_4 (.inr (by rw [ob_some]; omega))
          refine At.loop (σ := Nat) (fun j => [(11, I j), (10, ptr H10_1.size 0), (9, ptr H3.size 0), (6, .slice A' out.length cap'), (7, .slice A2 ends.length cap2), (8, I i), (0, .slice A Bs.length cap), (3, ptr H.size 0), (4, ptr H0_0.size 0)]) (fun j H' => j ≤ Bs.length ∧ H' = H10_4 ∧ (Bs.drop j).find? (mt false v) = Bs.find? (mt false v)) (fun j => Bs.length - j) 0 rfl ⟨rfl, rfl, rfl, rfl, rfl, rfl, rfl, rfl, rfl, trivial⟩ ⟨by omega, rfl, rfl⟩ ?_
          rintro j H10_4 ⟨hj, rfl, hgj⟩ ihj
          refine At.region rfl rfl ?_
          refine Reg.pur rfl rfl rfl rfl (Pur.mv rfl) ?_
          refine Reg.pur rfl rfl rfl rfl (Pur.mv rfl) ?_
          refine Reg.pur rfl rfl rfl rfl (Pur.lenS isl22 rfl) ?_
          refine Reg.pur rfl rfl rfl rfl (Pur.lss rfl rfl) ?_
          refine Reg.nil ?_
          refine At.cond rfl rfl (fun q43 => ?_) (fun q43 => ?_)
          · first | (simp only [decide_eq_true_eq, decide_eq_false_iff_not, Bool.not_eq_true', Bool.not_eq_false', ne_eq, Decidable.not_not, Bool.not_eq_true, Bool.not_eq_false] at q43) | (dsimp only at q43) | skip
            have hlj : j < Bs.length := by omega
            obtain ⟨b', o', c', rfl, hB', hd', _⟩ := (hB.ext hE).at hlj
            have hok := hB.ok _ (List.getElem_mem hlj)
            have h256j := h256 _ (List.getElem_mem hlj)
            rw [dropL hlj, List.find?_cons] at hgj
            generalize Bs[j] = bd at *
            refine At.drawE ((Bks.cons hB'.blk (Bks.cons o6_5.blk Bks.nil))) [] mixed rfl rfl ?_
            refine RegD.tpur (i := 0) rfl rfl rfl rfl (by kernel_rfl) (Pur.mv rfl) ?_
            refine RegD.tpur (i := 1) rfl rfl rfl rfl (by kernel_rfl) (Pur.mv rfl) ?_
            refine RegD.tpur (i := 2) rfl rfl rfl rfl (by kernel_rfl) (Pur.idx _ es22 rfl rfl (by omega) (by omega)) ?_
            refine RegD.tpur (i := 3) rfl rfl rfl rfl (by kernel_rfl) (Pur.fld _ fo49_1 rfl) ?_
            refine RegD.take (i := 4) rfl rfl rfl rfl (by kernel_rfl) (Bks.cons hB'.blk (Bks.cons o6_5.blk Bks.nil)) (fun H hS => Lod.ld sc4 rfl hS.hd (at_tk (j := 1) hd' (by decide) rfl)) ?_
            refine RegD.tpur (i := 5) rfl rfl rfl rfl (by kernel_rfl) (Pur.not rfl) ?_
            refine RegD.tpur (i := 6) rfl rfl rfl rfl (by kernel_rfl) (Pur.mv rfl) ?_
            refine RegD.case 52 rfl (fun q52 => ?_) (fun q52 => ?_)
            · first | (simp only [decide_eq_true_eq, decide_eq_false_iff_not, Bool.not_eq_true', Bool.not_eq_false', ne_eq, Decidable.not_not, Bool.not_eq_true, Bool.not_eq_false] at q52) | (dsimp only at q52) | skip
              refine RegD.gtpur (i := 7) rfl rfl rfl rfl rfl rfl (by kernel_rfl) (Pur.mv rfl) ?_
              refine RegD.gtpur (i := 8) rfl rfl rfl rfl rfl rfl (by kernel_rfl) (Pur.mv rfl) ?_
              refine RegD.gtpur (i := 9) rfl rfl rfl rfl rfl rfl (by kernel_rfl) (Pur.idx _ es22 rfl rfl (by omega) (by omega)) ?_
              refine RegD.gtpur (i := 10) rfl rfl rfl rfl rfl rfl (by kernel_rfl) (Pur.fld _ fo49_0 rfl) ?_
              refine RegD.gtake (i := 11) rfl rfl rfl rfl rfl rfl (by kernel_rfl) (Bks.cons hB'.blk (Bks.cons o6_5.blk Bks.nil)) (fun H hS => Lod.ld sc3 rfl hS.hd (at_tk (j := 0) hd' (by decide) rfl)) ?_
              refine RegD.gtpur (i := 12) rfl rfl rfl rfl rfl rfl (by kernel_rfl) (Pur.fld _ fo47_1 rfl) ?_
              refine RegD.gtake (i := 13) rfl rfl rfl rfl rfl rfl (by kernel_rfl) (Bks.cons hB'.blk (Bks.cons o6_5.blk Bks.nil)) (fun H hS => Lod.ld sc3 rfl hS.tl.hd (by first | rfl | (simp; done))) ?_
              refine RegD.gtpur (i := 14) rfl rfl rfl rfl rfl rfl (by kernel_rfl) (Pur.eql rfl rfl) ?_
              refine RegD.tpur (i := 15) rfl rfl rfl rfl (by kernel_rfl) (Pur.pickT rfl rfl) ?_
              refine RegD.done (by kernel_rfl) ?_
              refine At.cond rfl rfl (fun q61 => ?_) (fun q61 => ?_)
              · first | (simp only [decide_eq_true_eq, decide_eq_false_iff_not, Bool.not_eq_true', Bool.not_eq_false', ne_eq, Decidable.not_not, Bool.not_eq_true, Bool.not_eq_false] at q61) | (dsimp only at q61) | skip
                refine At.region rfl rfl ?_
                refine Reg.pur rfl rfl rfl rfl (Pur.mv rfl) ?_
                refine Reg.pur rfl rfl rfl rfl (Pur.mv rfl) ?_
                refine Reg.pur rfl rfl rfl rfl (Pur.idx _ es22 rfl rfl (by omega) (by omega)) ?_
                refine Reg.pur rfl rfl rfl rfl (Pur.fld _ fo49_2 rfl) ?_
                refine Reg.lod rfl rfl rfl rfl (Lod.ldn ag25 rfl hB' (show _ = [Value.slice bd.A bd.nodes.length bd.cap] by rw [← List.drop_drop]; exact (take_mid hd' (by decide)).trans rfl) rfl) ?_
                refine Reg.op0 rfl rfl rfl (Does.stn ag25 rfl rfl (by first | rfl | exact ones_Is _) (by first | rfl | (simp [*]; done)) hT (by first | decide | (simp; done) | (simp; omega) | omega)) ?_
                rintro _ H15_5 hu15_5
                have z15_5 := hu15_5.size
                replace hE := hE.upw hu15_5 (by omega)
                replace o0_0 := o0_0.upw hu15_5 (by omega)
                replace o0_1 := o0_1.upw hu15_5 (by omega)
                replace hg1 := hg1.upw hu15_5 (by omega)
                replace hg2 := hg2.upw hu15_5 (by omega)
                replace o6_5 := o6_5.upw hu15_5 (by omega)
                replace o10_1 := o10_1.upw hu15_5 (by omega)
                replace hT := hu15_5.own
                first | rw [over (by first | rfl | (simp; done))] at hT | skip
                refine Reg.nil ?_
                have hfd : Bs.find? (mt false v) = some bd := by rw [← hgj, show mt false v bd = true by simp [mt, q52, q61]]
                exact At.meets rfl (hK (bd.nodes, bd.A, bd.cap) _ ⟨by omega, by simp [moreS, hfd], hok.nine, h256j, hok.sl.ext hE, by have := hok.sl.lt; omega, hT, hg1, hg2, o0_0, o0_1, hE⟩) ⟨rfl, rfl, rfl, rfl, rfl, rfl, rfl, rfl, trivial⟩
              first | (simp only [decide_eq_true_eq, decide_eq_false_iff_not, Bool.not_eq_true', Bool.not_eq_false', ne_eq, Decidable.not_not, Bool.not_eq_true, Bool.not_eq_false] at q61) | (dsimp only at q61) | skip
              refine At.region rfl rfl ?_
              refine Reg.pur rfl rfl rfl rfl (Pur.mv rfl) ?_
              first | refine Reg.pur rfl rfl rfl rfl (Pur.add64 rfl rfl (by omega)) ?_ | refine Reg.pur rfl rfl rfl rfl (Pur.add64 rfl rfl (by assumption)) ?_ | refine Reg.pur rfl rfl rfl rfl (Pur.add rfl rfl) ?_
              refine Reg.pur rfl rfl rfl rfl (Pur.asg rfl) ?_
              refine Reg.nil ?_
              exact At.via (ihj (j + 1) _ ⟨by omega, rfl, by rw [← hgj, show mt false v bd = false by first | (simp [mt, q52]; done) | (simp [mt, q52, q61]; done) | (simp [mt, q61]; done)]⟩ (by omega)) ⟨rfl, rfl, rfl, rfl, rfl, rfl, rfl, rfl, rfl, trivial⟩
            first | (simp only [decide_eq_true_eq, decide_eq_false_iff_not, Bool.not_eq_true', Bool.not_eq_false', ne_eq, Decidable.not_not, Bool.not_eq_true, Bool.not_eq_false] at q52) | (dsimp only at q52) | skip
            refine RegD.skip (i := 7) rfl rfl rfl rfl rfl rfl rfl (by kernel_rfl) ?_
            refine RegD.skip (i := 8) rfl rfl rfl rfl rfl rfl rfl (by kernel_rfl) ?_
            refine RegD.skip (i := 9) rfl rfl rfl rfl rfl rfl rfl (by kernel_rfl) ?_
            refine RegD.skip (i := 10) rfl rfl rfl rfl rfl rfl rfl (by kernel_rfl) ?_
            refine RegD.skip (i := 11) rfl rfl rfl rfl rfl rfl rfl (by kernel_rfl) ?_
            refine RegD.skip (i := 12) rfl rfl rfl rfl rfl rfl rfl (by kernel_rfl) ?_
            refine RegD.skip (i := 13) rfl rfl rfl rfl rfl rfl rfl (by kernel_rfl) ?_
            refine RegD.skip (i := 14) rfl rfl rfl rfl rfl rfl rfl (by kernel_rfl) ?_
            refine RegD.tpur (i := 15) rfl rfl rfl rfl (by kernel_rfl) (Pur.pickF rfl rfl) ?_
            refine RegD.done (by kernel_rfl) ?_
            refine At.condF rfl rfl rfl ?_
            refine At.region rfl rfl ?_
            refine Reg.pur rfl rfl rfl rfl (Pur.mv rfl) ?_
            first | refine Reg.pur rfl rfl rfl rfl (Pur.add64 rfl rfl (by omega)) ?_ | refine Reg.pur rfl rfl rfl rfl (Pur.add64 rfl rfl (by assumption)) ?_ | refine Reg.pur rfl rfl rfl rfl (Pur.add rfl rfl) ?_
            refine Reg.pur rfl rfl rfl rfl (Pur.asg rfl) ?_
            refine Reg.nil ?_
            exact At.via (ihj (j + 1) _ ⟨by omega, rfl, by rw [← hgj, show mt false v bd = false by first | (simp [mt, q52]; done) | (simp [mt, q52, q61]; done) | (simp [mt, q61]; done)]⟩ (by omega)) ⟨rfl, rfl, rfl, rfl, rfl, rfl, rfl, rfl, rfl, trivial⟩
          first | (simp only [decide_eq_true_eq, decide_eq_false_iff_not, Bool.not_eq_true', Bool.not_eq_false', ne_eq, Decidable.not_not, Bool.not_eq_true, Bool.not_eq_false] at q43) | (dsimp only at q43) | skip
          have hfd : Bs.find? (mt false v) = none := by rw [← hgj, List.drop_of_length_le (by omega)]; rfl
          exact At.meets rfl (hK ([[2, v, p, q, c0, c1, c2, c3, t]], some ⟨H6_6.size, 0, none⟩, 1) _ ⟨by omega, by simp [moreS, hfd, movS], nine1 rfl, by simp, hx10, .inr (by rw [ob_some]; omega), hT, hg1, hg2, o0_0, o0_1, hE⟩) ⟨rfl, rfl, rfl, rfl, rfl, rfl, rfl, rfl, trivial⟩
        obtain ⟨U, Au, capu⟩ := s
        obtain ⟨hsz, hmo, hNU, hUl, hSU, hau, hT, hg1, hg2, o0_0, o0_1, hE⟩ := hs
        dsimp only at hau hg1 hap ⊢
        have z_hE := hE.lt
        have z_o0_0 := o0_0.lt
        have z_o0_1 := o0_1.lt
        have z_hg1 := hg1.lt
        have z_hg2 := hg2.lt
        have z_hT := hT.lt
        refine At.region rfl rfl ?_
        refine Reg.pur rfl rfl rfl rfl (Pur.mv rfl) ?_
        refine Reg.pur rfl rfl rfl rfl (Pur.lenS isl23 rfl) ?_
        refine Reg.pur rfl rfl rfl rfl (Pur.asg rfl) ?_
        refine Reg.nil ?_
        refine At.region rfl rfl ?_
        refine Reg.pur rfl rfl rfl rfl (Pur.asg rfl) ?_
        refine Reg.nil ?_
        refine At.loop (σ := Nat × List (List Int) × Option Addr × Nat) (fun (j, out', A', cap') => [(13, I j), (12, I out.length), (10, ptr H10_1.size 0), (6, .slice A' out'.length cap'), (7, .slice A2 ends.length cap2), (8, I i), (0, .slice A Bs.length cap), (3, ptr H.size 0), (4, ptr H0_0.size 0)]) (fun (j, out', A', cap') H' => j ≤ U.length ∧ out' = out ++ (U.take j).map (movS out.length) ∧ Nine out' ∧ SlT H' Is 9 (.slice Au U.length capu) U ∧ (U.length = 0 ∨ ob Au ≠ ob A') ∧ Own H' H10_1.size [.slice Au U.length capu] ∧ Gs H' H0_1.size 47 9 A' cap' out'.length (out'.flatMap Is) ∧ (ob A' = -1 ∨ ob A' ≠ ob A2 ∧ ob A' ≠ H10_1.size) ∧ Gs H' H0_1.size 3 1 A2 cap2 ends.length (ends.flatMap e1) ∧ Own H' H.size [.slice (some ⟨b, o, none⟩) L.length cap1] ∧ Own H' H0_0.size [.slice none 0 0] ∧ Ext H H') (fun s => U.length - s.1) (0, out, A', cap') rfl ⟨rfl, rfl, rfl, rfl, rfl, rfl, rfl, rfl, rfl, trivial⟩ ⟨by omega, by simp, hN, hSU, hau, hT, hg1, by omega, hg2, o0_0, o0_1, hE⟩ ?_
        clear hSU hau hT hg1 hap hg2 o0_0 o0_1 hE
        rintro ⟨j, out', A', cap'⟩ H8 ⟨hj, hout', hN', hSU, hau, hT, hg1, hap, hg2, o0_0, o0_1, hE⟩ ihj
        dsimp only at hj hout' hN' hau hg1 hap ⊢
        have z_hE := hE.lt
        have z_o0_0 := o0_0.lt
        have z_o0_1 := o0_1.lt
        have z_hg1 := hg1.lt
        have z_hg2 := hg2.lt
        have z_hT := hT.lt
        have z_hSU := hSU.lt
        refine At.region rfl rfl ?_
        refine Reg.pur rfl rfl rfl rfl (Pur.mv rfl) ?_
        refine Reg.pur rfl rfl rfl rfl (Pur.fld _ fo25_0 rfl) ?_
        refine Reg.lod rfl rfl rfl rfl (Lod.ld sc23 rfl hT.blk (by first | rfl | (simp; done))) ?_
        refine Reg.pur rfl rfl rfl rfl (Pur.lenS isl23 rfl) ?_
        refine Reg.pur rfl rfl rfl rfl (Pur.lss rfl rfl) ?_
        refine Reg.nil ?_
        refine At.cond rfl rfl (fun q73 => ?_) (fun q73 => ?_)
        · first | (simp only [decide_eq_true_eq, decide_eq_false_iff_not, Bool.not_eq_true', Bool.not_eq_false', ne_eq, Decidable.not_not, Bool.not_eq_true, Bool.not_eq_false] at q73) | (dsimp only at q73) | skip
          have hlj : j < U.length := by omega
          obtain ⟨b', o', c', rfl, hB', hd', h9j⟩ := sl_at (wide9 hNU) hSU hlj
          have h9j' := hNU _ (List.getElem_mem hlj)
          have hnx := map1_mov (k := out.length) hlj
          generalize U[j] = y at hnx hd' h9j h9j'
          obtain ⟨k', v', p', q', d0, d1, d2, d3, t', rfl⟩ : ∃ k v p q c0 c1 c2 c3 t, y = [k, v, p, q, c0, c1, c2, c3, t] := by match y, h9j' with | [k, v, p, q, c0, c1, c2, c3, t], _ => exact ⟨_, _, _, _, _, _, _, _, _, rfl⟩
          refine At.region rfl rfl ?_
          refine Reg.pur rfl rfl rfl rfl (Pur.fld _ fo25_0 rfl) ?_
          refine Reg.lod rfl rfl rfl rfl (Lod.ld sc23 rfl hT.blk (by first | rfl | (simp; done))) ?_
          refine Reg.pur rfl rfl rfl rfl (Pur.mv rfl) ?_
          refine Reg.pur rfl rfl rfl rfl (Pur.idx _ es23 rfl rfl (by omega) (by omega)) ?_
          refine Reg.lod rfl rfl rfl rfl (Lod.ldn ag47 rfl hB' hd' h9j) ?_
          refine Reg.op rfl rfl rfl rfl (Does.alloc zc47) ?_
          rintro _ H20_5 ⟨rfl, hn20_5⟩
          have z20_5 := hn20_5.size
          replace hE := hE.ext hn20_5.ext
          replace o0_0 := o0_0.ext hn20_5.ext
          replace o0_1 := o0_1.ext hn20_5.ext
          replace hg1 := hg1.ext hn20_5.ext
          replace hg2 := hg2.ext hn20_5.ext
          replace hT := hT.ext hn20_5.ext
          replace hSU := hSU.ext hn20_5.ext
          have o20_5 := hn20_5.own
          refine Reg.op0 rfl rfl rfl (Does.stn ag47 rfl rfl (by first | rfl | exact ones_Is _) (by first | rfl | (simp [*]; done)) o20_5 (by first | decide | (simp; done) | (simp; omega) | omega)) ?_
          rintro _ H20_6 hu20_6
          have z20_6 := hu20_6.size
          replace hE := hE.upw hu20_6 (by omega)
          replace o0_0 := o0_0.upw hu20_6 (by omega)
          replace o0_1 := o0_1.upw hu20_6 (by omega)
          replace hg1 := hg1.upw hu20_6 (by omega)
          replace hg2 := hg2.upw hu20_6 (by omega)
          replace hT := hT.upw hu20_6 (by omega)
          replace hSU := hSU.upw hu20_6 (by omega)
          replace o20_5 := hu20_6.own
          first | rw [over (by first | rfl | (simp; done))] at o20_5 | skip
          refine Reg.nil ?_
          refine At.region rfl rfl ?_
          refine Reg.pur rfl rfl rfl rfl (Pur.fld _ fo47_0 rfl) ?_
          refine Reg.lod rfl rfl rfl rfl (Lod.ld sc3 rfl o20_5.blk (by first | rfl | (simp; done))) ?_
          refine Reg.pur rfl rfl rfl rfl (Pur.eql rfl rfl) ?_
          refine Reg.nil ?_
          refine At.cond rfl rfl (fun q83 => ?_) (fun q83 => ?_)
          · first | (simp only [decide_eq_true_eq, decide_eq_false_iff_not, Bool.not_eq_true', Bool.not_eq_false', ne_eq, Decidable.not_not, Bool.not_eq_true, Bool.not_eq_false] at q83) | (dsimp only at q83) | skip
            refine At.region rfl rfl ?_
            refine Reg.pur rfl rfl rfl rfl (Pur.fld _ fo47_2 rfl) ?_
            refine Reg.lod rfl rfl rfl rfl (Lod.ld sc3 rfl o20_5.blk (by first | rfl | (simp; done))) ?_
            refine Reg.pur rfl rfl rfl rfl (Pur.mv rfl) ?_
            first | refine Reg.pur rfl rfl rfl rfl (Pur.add64 rfl rfl (by omega)) ?_ | refine Reg.pur rfl rfl rfl rfl (Pur.add64 rfl rfl (by assumption)) ?_ | refine Reg.pur rfl rfl rfl rfl (Pur.add rfl rfl) ?_
            refine Reg.pur rfl rfl rfl rfl (Pur.fld _ fo47_2 rfl) ?_
            refine Reg.op0 rfl rfl rfl (Does.st sc3 rfl rfl rfl o20_5 (by first | decide | (simp; done) | (simp; omega) | omega)) ?_
            rintro _ H22_5 hu22_5
            have z22_5 := hu22_5.size
            replace hE := hE.upw hu22_5 (by omega)
            replace o0_0 := o0_0.upw hu22_5 (by omega)
            replace o0_1 := o0_1.upw hu22_5 (by omega)
            replace hg1 := hg1.upw hu22_5 (by omega)
            replace hg2 := hg2.upw hu22_5 (by omega)
            replace hT := hT.upw hu22_5 (by omega)
            replace hSU := hSU.upw hu22_5 (by omega)
            replace o20_5 := hu22_5.own
            refine Reg.nil ?_
            refine At.region rfl rfl ?_
            refine Reg.pur rfl rfl rfl rfl (Pur.fld _ fo47_3 rfl) ?_
            refine Reg.lod rfl rfl rfl rfl (Lod.ld sc3 rfl o20_5.blk (by first | rfl | (simp; done))) ?_
            refine Reg.pur rfl rfl rfl rfl (Pur.mv rfl) ?_
            first | refine Reg.pur rfl rfl rfl rfl (Pur.add64 rfl rfl (by omega)) ?_ | refine Reg.pur rfl rfl rfl rfl (Pur.add64 rfl rfl (by assumption)) ?_ | refine Reg.pur rfl rfl rfl rfl (Pur.add rfl rfl) ?_
            refine Reg.pur rfl rfl rfl rfl (Pur.fld _ fo47_3 rfl) ?_
            refine Reg.op0 rfl rfl rfl (Does.st sc3 rfl rfl rfl o20_5 (by first | decide | (simp; done) | (simp; omega) | omega)) ?_
            rintro _ H23_5 hu23_5
            have z23_5 := hu23_5.size
            replace hE := hE.upw hu23_5 (by omega)
            replace o0_0 := o0_0.upw hu23_5 (by omega)
            replace o0_1 := o0_1.upw hu23_5 (by omega)
            replace hg1 := hg1.upw hu23_5 (by omega)
            replace hg2 := hg2.upw hu23_5 (by omega)
            replace hT := hT.upw hu23_5 (by omega)
            replace hSU := hSU.upw hu23_5 (by omega)
            replace o20_5 := hu23_5.own
            refine Reg.nil ?_
            have hy : Own H23_5 H8.size (Is (movS out.length [k', v', p', q', d0, d1, d2, d3, t'])) := by first | exact o20_5 | (rw [movS_not3 (x := [k', v', p', q', d0, d1, d2, d3, t']) q83]; exact o20_5) | (rw [show movS out.length [k', v', p', q', d0, d1, d2, d3, t'] = [k', v', IntKind.i64.wrap (p' + out.length), IntKind.i64.wrap (q' + out.length), d0, d1, d2, d3, t'] by subst q83; rfl]; exact o20_5)
            have hyl : (movS out.length [k', v', p', q', d0, d1, d2, d3, t']).length = 9 := movS_len _ _
            have hyl' : (Is (movS out.length [k', v', p', q', d0, d1, d2, d3, t'])).length = 9 := by simp [hyl]
            generalize hyy : movS out.length [k', v', p', q', d0, d1, d2, d3, t'] = y' at hy hyl hyl' hnx
            refine At.region rfl rfl ?_
            refine Reg.pur rfl rfl rfl rfl (Pur.mv rfl) ?_
            refine Reg.lod rfl rfl rfl rfl (Lod.ldn ag47 rfl hy.blk (whole hyl') hyl') ?_
            refine Reg.op rfl rfl rfl rfl (Does.bslA ([Is y']) slA23 rfl rfl rfl (by simp [hyl]) rfl rfl) ?_
            rintro _ H24_2 ⟨rfl, hp24_2⟩
            have hn24_2 := New.of_eq hp24_2
            have z24_2 := hn24_2.size
            replace hE := hE.ext hn24_2.ext
            replace o0_0 := o0_0.ext hn24_2.ext
            replace o0_1 := o0_1.ext hn24_2.ext
            replace hg1 := hg1.ext hn24_2.ext
            replace hg2 := hg2.ext hn24_2.ext
            replace hT := hT.ext hn24_2.ext
            replace hSU := hSU.ext hn24_2.ext
            replace o20_5 := o20_5.ext hn24_2.ext
            have o24_2 := hn24_2.own
            refine Reg.op rfl rfl rfl rfl (Does.appL apt23 rfl rfl (by decide) hg1 (wide9 (nine1 hyl)) (sl_one (x := y') hyl' (by decide) hn24_2) (ones_flat _) (by have := congrArg List.length hout'; simp at this ⊢; omega) (by omega)) ?_
            rintro _ H24_3 ⟨A24_3, cap24_3, rfl, g24_3, hbut24_3, ha24_3⟩
            have z24_3 := hbut24_3.lt
            replace hE := hE.via hbut24_3 (by first | omega | (intro g; omega) | (intro g hg; omega) | (intro g hg h; omega))
            replace o0_0 := o0_0.via hbut24_3 (by first | omega | (intro g; omega) | (intro g hg; omega) | (intro g hg h; omega))
            replace o0_1 := o0_1.via hbut24_3 (by first | omega | (intro g; omega) | (intro g hg; omega) | (intro g hg h; omega))
            replace hg2 := hg2.via hbut24_3 (by first | omega | (intro g; omega) | (intro g hg; omega) | (intro g hg h; omega))
            replace hT := hT.via hbut24_3 (by first | omega | (intro g; omega) | (intro g hg; omega) | (intro g hg h; omega))
            replace hSU := hSU.via hbut24_3 (by first | omega | (intro g; omega) | (intro g hg; omega) | (intro g hg h; omega))
            replace o20_5 := o20_5.via hbut24_3 (by first | omega | (intro g; omega) | (intro g hg; omega) | (intro g hg h; omega))
            replace o24_2 := o24_2.via hbut24_3 (by first | omega | (intro g; omega) | (intro g hg; omega) | (intro g hg h; omega))
            replace hg1 := g24_3
            have zg24_3 := g24_3.lt
            refine Reg.pur rfl rfl rfl rfl (Pur.asg rfl) ?_
            refine Reg.nil ?_
            refine At.region rfl rfl ?_
            refine Reg.pur rfl rfl rfl rfl (Pur.mv rfl) ?_
            first | refine Reg.pur rfl rfl rfl rfl (Pur.add64 rfl rfl (by omega)) ?_ | refine Reg.pur rfl rfl rfl rfl (Pur.add64 rfl rfl (by assumption)) ?_ | refine Reg.pur rfl rfl rfl rfl (Pur.add rfl rfl) ?_
            refine Reg.pur rfl rfl rfl rfl (Pur.asg rfl) ?_
            refine Reg.nil ?_
            exact At.via (ihj (j + 1, out' ++ [y'], A24_3, cap24_3) _ ⟨by omega, by rw [hnx, hout', List.append_assoc], nine_app hN' (nine1 hyl), hSU, by omega, hT, hg1, by omega, hg2, o0_0, o0_1, hE⟩ (by simp only; omega)) ⟨rfl, rfl, rfl, rfl, rfl, rfl, rfl, rfl, rfl, trivial⟩
          first | (simp only [decide_eq_true_eq, decide_eq_false_iff_not, Bool.not_eq_true', Bool.not_eq_false', ne_eq, Decidable.not_not, Bool.not_eq_true, Bool.not_eq_false] at q83) | (dsimp only at q83) | skip
          have hy : Own H20_6 H8.size (Is (movS out.length [k', v', p', q', d0, d1, d2, d3, t'])) := by first | exact o20_5 | (rw [movS_not3 (x := [k', v', p', q', d0, d1, d2, d3, t']) q83]; exact o20_5) | (rw [show movS out.length [k', v', p', q', d0, d1, d2, d3, t'] = [k', v', IntKind.i64.wrap (p' + out.length), IntKind.i64.wrap (q' + out.length), d0, d1, d2, d3, t'] by subst q83; rfl]; exact o20_5)
          have hyl : (movS out.length [k', v', p', q', d0, d1, d2, d3, t']).length = 9 := movS_len _ _
          have hyl' : (Is (movS out.length [k', v', p', q', d0, d1, d2, d3, t'])).length = 9 := by simp [hyl]
          generalize hyy : movS out.length [k', v', p', q', d0, d1, d2, d3, t'] = y' at hy hyl hyl' hnx
          refine At.region rfl rfl ?_
          refine Reg.pur rfl rfl rfl rfl (Pur.mv rfl) ?_
          refine Reg.lod rfl rfl rfl rfl (Lod.ldn ag47 rfl hy.blk (whole hyl') hyl') ?_
          refine Reg.op rfl rfl rfl rfl (Does.bslA ([Is y']) slA23 rfl rfl rfl (by simp [hyl]) rfl rfl) ?_
          rintro _ H24_2 ⟨rfl, hp24_2⟩
          have hn24_2 := New.of_eq hp24_2
          have z24_2 := hn24_2.size
          replace hE := hE.ext hn24_2.ext
          replace o0_0 := o0_0.ext hn24_2.ext
          replace o0_1 := o0_1.ext hn24_2.ext
          replace hg1 := hg1.ext hn24_2.ext
          replace hg2 := hg2.ext hn24_2.ext
          replace hT := hT.ext hn24_2.ext
          replace hSU := hSU.ext hn24_2.ext
          replace o20_5 := o20_5.ext hn24_2.ext
          have o24_2 := hn24_2.own
          refine Reg.op rfl rfl rfl rfl (Does.appL apt23 rfl rfl (by decide) hg1 (wide9 (nine1 hyl)) (sl_one (x := y') hyl' (by decide) hn24_2) (ones_flat _) (by have := congrArg List.length hout'; simp at this ⊢; omega) (by omega)) ?_
          rintro _ H24_3 ⟨A24_3, cap24_3, rfl, g24_3, hbut24_3, ha24_3⟩
          have z24_3 := hbut24_3.lt
          replace hE := hE.via hbut24_3 (by first | omega | (intro g; omega) | (intro g hg; omega) | (intro g hg h; omega))
          replace o0_0 := o0_0.via hbut24_3 (by first | omega | (intro g; omega) | (intro g hg; omega) | (intro g hg h; omega))
          replace o0_1 := o0_1.via hbut24_3 (by first | omega | (intro g; omega) | (intro g hg; omega) | (intro g hg h; omega))
          replace hg2 := hg2.via hbut24_3 (by first | omega | (intro g; omega) | (intro g hg; omega) | (intro g hg h; omega))
          replace hT := hT.via hbut24_3 (by first | omega | (intro g; omega) | (intro g hg; omega) | (intro g hg h; omega))
          replace hSU := hSU.via hbut24_3 (by first | omega | (intro g; omega) | (intro g hg; omega) | (intro g hg h; omega))
          replace o20_5 := o20_5.via hbut24_3 (by first | omega | (intro g; omega) | (intro g hg; omega) | (intro g hg h; omega))
          replace o24_2 := o24_2.via hbut24_3 (by first | omega | (intro g; omega) | (intro g hg; omega) | (intro g hg h; omega))
          replace hg1 := g24_3
          have zg24_3 := g24_3.lt
          refine Reg.pur rfl rfl rfl rfl (Pur.asg rfl) ?_
          refine Reg.nil ?_
          refine At.region rfl rfl ?_
          refine Reg.pur rfl rfl rfl rfl (Pur.mv rfl) ?_
          first | refine Reg.pur rfl rfl rfl rfl (Pur.add64 rfl rfl (by omega)) ?_ | refine Reg.pur rfl rfl rfl rfl (Pur.add64 rfl rfl (by assumption)) ?_ | refine Reg.pur rfl rfl rfl rfl (Pur.add rfl rfl) ?_
          refine Reg.pur rfl rfl rfl rfl (Pur.asg rfl) ?_
          refine Reg.nil ?_
          exact At.via (ihj (j + 1, out' ++ [y'], A24_3, cap24_3) _ ⟨by omega, by rw [hnx, hout', List.append_assoc], nine_app hN' (nine1 hyl), hSU, by omega, hT, hg1, by omega, hg2, o0_0, o0_1, hE⟩ (by simp only; omega)) ⟨rfl, rfl, rfl, rfl, rfl, rfl, rfl, rfl, rfl, trivial⟩
        first | (simp only [decide_eq_true_eq, decide_eq_false_iff_not, Bool.not_eq_true', Bool.not_eq_false', ne_eq, Decidable.not_not, Bool.not_eq_true, Bool.not_eq_false] at q73) | (dsimp only at q73) | skip
        rw [List.take_of_length_le (by omega)] at hout'
        exact At.meets rfl (hJ (U.map (movS out.length), out', A', cap') _ ⟨hmo, hout', nine_mov hNU, by simpa using hUl, hg1, hg2, by omega, o0_0, o0_1, hE⟩) ⟨rfl, rfl, rfl, rfl, rfl, rfl, trivial⟩
      first | (simp only [decide_eq_true_eq, decide_eq_false_iff_not, Bool.not_eq_true', Bool.not_eq_false', ne_eq, Decidable.not_not, Bool.not_eq_true, Bool.not_eq_false] at q35) | (dsimp only at q35) | skip
      refine At.region rfl rfl ?_
      refine Reg.pur rfl rfl rfl rfl (Pur.eql rfl rfl) ?_
      refine Reg.pur rfl rfl rfl rfl (Pur.asg rfl) ?_
      refine Reg.nil ?_
      refine At.cond rfl rfl (fun q98 => ?_) (fun q98 => ?_)
      · first | (simp only [decide_eq_true_eq, decide_eq_false_iff_not, Bool.not_eq_true', Bool.not_eq_false', ne_eq, Decidable.not_not, Bool.not_eq_true, Bool.not_eq_false] at q98) | (dsimp only at q98) | skip
        refine At.region rfl rfl ?_
        refine Reg.pur rfl rfl rfl rfl (Pur.mv rfl) ?_
        refine Reg.pur rfl rfl rfl rfl (Pur.fld _ fo47_4 rfl) ?_
        refine Reg.lod rfl rfl rfl rfl (Lod.ldn ag28 rfl o6_5.blk (by first | exact whole rfl | rfl | (simp only [List.drop_succ_cons, List.drop_zero, List.take_succ_cons, List.take_zero]; rfl)) (by first | rfl | (simp [*]; done))) ?_
        refine Reg.op rfl rfl rfl rfl (Does.call rfl (rowOf_ok (hB.ext hE) [c0, c1, c2, c3, t] rfl)) ?_
        rintro _ H26_3 ⟨rfl, hrl, hE26_3⟩
        have z26_3 := hE26_3.lt
        replace hE := hE.ext hE26_3
        replace o0_0 := o0_0.ext hE26_3
        replace o0_1 := o0_1.ext hE26_3
        replace hg1 := hg1.ext hE26_3
        replace hg2 := hg2.ext hE26_3
        replace o6_5 := o6_5.ext hE26_3
        refine Reg.pur rfl rfl rfl rfl (Pur.mv rfl) ?_
        refine Reg.pur rfl rfl rfl rfl (Pur.ext rfl rfl) ?_
        refine Reg.pur rfl rfl rfl rfl (Pur.ext rfl rfl) ?_
        refine Reg.op rfl rfl rfl rfl (Does.alloc zc28) ?_
        rintro _ H26_7 ⟨rfl, hn26_7⟩
        have z26_7 := hn26_7.size
        replace hE := hE.ext hn26_7.ext
        replace o0_0 := o0_0.ext hn26_7.ext
        replace o0_1 := o0_1.ext hn26_7.ext
        replace hg1 := hg1.ext hn26_7.ext
        replace hg2 := hg2.ext hn26_7.ext
        replace o6_5 := o6_5.ext hn26_7.ext
        have o26_7 := hn26_7.own
        refine Reg.op0 rfl rfl rfl (Does.stn ag28 rfl rfl (by first | rfl | exact ones_Is _) (by first | rfl | (simp [*]; done)) o26_7 (by first | decide | (simp; done) | (simp; omega) | omega)) ?_
        rintro _ H26_8 hu26_8
        have z26_8 := hu26_8.size
        replace hE := hE.upw hu26_8 (by omega)
        replace o0_0 := o0_0.upw hu26_8 (by omega)
        replace o0_1 := o0_1.upw hu26_8 (by omega)
        replace hg1 := hg1.upw hu26_8 (by omega)
        replace hg2 := hg2.upw hu26_8 (by omega)
        replace o6_5 := o6_5.upw hu26_8 (by omega)
        replace o26_7 := hu26_8.own
        first | rw [over (by first | rfl | (simp; done))] at o26_7 | skip
        refine Reg.pur rfl rfl rfl rfl (Pur.asg rfl) ?_
        refine Reg.nil ?_
        refine At.region rfl rfl ?_
        refine Reg.pur rfl rfl rfl rfl (Pur.mv rfl) ?_
        refine Reg.pur rfl rfl rfl rfl (Pur.not rfl) ?_
        refine Reg.nil ?_
        refine At.cond rfl rfl (fun q108 => ?_) (fun q108 => ?_)
        · first | (simp only [decide_eq_true_eq, decide_eq_false_iff_not, Bool.not_eq_true', Bool.not_eq_false', ne_eq, Decidable.not_not, Bool.not_eq_true, Bool.not_eq_false] at q108) | (dsimp only at q108) | skip
          refine At.region rfl rfl ?_
          refine Reg.pur rfl rfl rfl rfl (Pur.bld (cs := [_]) pl25 zc25 rfl rfl ⟨rfl, rfl⟩) ?_
          refine Reg.op0 rfl rfl rfl (Does.stn ag25 rfl rfl (by first | rfl | exact ones_Is _) (by first | rfl | (simp [*]; done)) o0_1 (by first | decide | (simp; done) | (simp; omega) | omega)) ?_
          rintro _ H28_1 hu28_1
          have z28_1 := hu28_1.size
          replace hE := hE.upw hu28_1 (by omega)
          replace o0_0 := o0_0.upw hu28_1 (by omega)
          replace hg1 := hg1.upw hu28_1 (by omega)
          replace hg2 := hg2.upw hu28_1 (by omega)
          replace o6_5 := o6_5.upw hu28_1 (by omega)
          replace o26_7 := o26_7.upw hu28_1 (by omega)
          replace o0_1 := hu28_1.own
          first | rw [over (by first | rfl | (simp; done))] at o0_1 | skip
          refine Reg.pur rfl rfl rfl rfl (Pur.asg rfl) ?_
          refine Reg.nil ?_
          refine At.retC rfl Try.func57 ⟨_, _, _, _, rfl, rfl, ⟨_, o0_1.blk, .inr ⟨_, _, ag25, (by first | exact whole rfl | exact whole (by simp [*])), (by first | rfl | simp [*]), rfl⟩⟩, ⟨_, _, rfl, rfl, rfl⟩⟩ ?_
          refine ⟨hE, ?_⟩
          obtain rfl : k = 3 := q98
          rw [← hgo, show moreS Bs out ends [3, v, p, q, c0, c1, c2, c3, t] = none by simp [moreS, q108]]; exact rfl
        first | (simp only [decide_eq_true_eq, decide_eq_false_iff_not, Bool.not_eq_true', Bool.not_eq_false', ne_eq, Decidable.not_not, Bool.not_eq_true, Bool.not_eq_false] at q108) | (dsimp only at q108) | skip
        have hk3 : k = 3 := q98
        have hf3 : q = (i : Int) - 1 ∧ 0 ≤ p ∧ p < (i : Int) - 1 ∧ 1 ≤ i := hfun hk3
        obtain ⟨b2, cc2, rfl, hb2, hc2⟩ := gs_int hg2 (z := p) (by omega) (by omega)
        obtain ⟨b2', cc2', e2, hb2', hc2'⟩ := gs_int hg2 (z := q) (by omega) (by omega)
        cases e2
        have hob : ob (some ⟨b2, 0, none⟩) = b2 := rfl
        have z_hb2 := hb2.lt
        have z_hb2' := hb2'.lt
        refine At.region rfl rfl ?_
        refine Reg.pur rfl rfl rfl rfl (Pur.mv rfl) ?_
        refine Reg.pur rfl rfl rfl rfl (Pur.fld _ fo47_2 rfl) ?_
        refine Reg.lod rfl rfl rfl rfl (Lod.ld sc3 rfl o6_5.blk (by first | rfl | (simp; done))) ?_
        refine Reg.pur rfl rfl rfl rfl (Pur.idx _ es54 rfl rfl (by omega) (by omega)) ?_
        refine Reg.lod rfl rfl rfl rfl (Lod.ld sc3 rfl hb2 hc2) ?_
        refine Reg.pur rfl rfl rfl rfl (Pur.fld _ fo47_2 rfl) ?_
        refine Reg.op0 rfl rfl rfl (Does.st sc3 rfl rfl rfl o6_5 (by first | decide | (simp; done) | (simp; omega) | omega)) ?_
        rintro _ H29_6 hu29_6
        have z29_6 := hu29_6.size
        replace hE := hE.upw hu29_6 (by omega)
        replace o0_0 := o0_0.upw hu29_6 (by omega)
        replace o0_1 := o0_1.upw hu29_6 (by omega)
        replace hg1 := hg1.upw hu29_6 (by omega)
        replace hg2 := hg2.upw hu29_6 (by omega)
        replace o26_7 := o26_7.upw hu29_6 (by omega)
        replace hb2 := hb2.upw hu29_6 (by omega)
        replace hb2' := hb2'.upw hu29_6 (by omega)
        replace o6_5 := hu29_6.own
        refine Reg.nil ?_
        refine At.region rfl rfl ?_
        refine Reg.pur rfl rfl rfl rfl (Pur.mv rfl) ?_
        refine Reg.pur rfl rfl rfl rfl (Pur.fld _ fo47_3 rfl) ?_
        refine Reg.lod rfl rfl rfl rfl (Lod.ld sc3 rfl o6_5.blk (by first | rfl | (simp; done))) ?_
        refine Reg.pur rfl rfl rfl rfl (Pur.idx _ es54 rfl rfl (by omega) (by omega)) ?_
        refine Reg.lod rfl rfl rfl rfl (Lod.ld sc3 rfl hb2' hc2') ?_
        refine Reg.pur rfl rfl rfl rfl (Pur.fld _ fo47_3 rfl) ?_
        refine Reg.op0 rfl rfl rfl (Does.st sc3 rfl rfl rfl o6_5 (by first | decide | (simp; done) | (simp; omega) | omega)) ?_
        rintro _ H30_6 hu30_6
        have z30_6 := hu30_6.size
        replace hE := hE.upw hu30_6 (by omega)
        replace o0_0 := o0_0.upw hu30_6 (by omega)
        replace o0_1 := o0_1.upw hu30_6 (by omega)
        replace hg1 := hg1.upw hu30_6 (by omega)
        replace hg2 := hg2.upw hu30_6 (by omega)
        replace o26_7 := o26_7.upw hu30_6 (by omega)
        replace hb2 := hb2.upw hu30_6 (by omega)
        replace hb2' := hb2'.upw hu30_6 (by omega)
        replace o6_5 := hu30_6.own
        refine Reg.nil ?_
        refine At.region rfl rfl ?_
        refine Reg.lod rfl rfl rfl rfl (Lod.ldn ag28 rfl o26_7.blk (whole (by simp [hrl])) (by simp [hrl])) ?_
        refine Reg.pur rfl rfl rfl rfl (Pur.fld _ fo47_4 rfl) ?_
        refine Reg.op0 rfl rfl rfl (Does.stn ag28 rfl rfl (by first | rfl | exact ones_Is _) (by first | rfl | (simp [*]; done)) o6_5 (by first | decide | (simp; done) | (simp; omega) | omega)) ?_
        rintro _ H31_2 hu31_2
        have z31_2 := hu31_2.size
        replace hE := hE.upw hu31_2 (by omega)
        replace o0_0 := o0_0.upw hu31_2 (by omega)
        replace o0_1 := o0_1.upw hu31_2 (by omega)
        replace hg1 := hg1.upw hu31_2 (by omega)
        replace hg2 := hg2.upw hu31_2 (by omega)
        replace o26_7 := o26_7.upw hu31_2 (by omega)
        replace hb2 := hb2.upw hu31_2 (by omega)
        replace hb2' := hb2'.upw hu31_2 (by omega)
        replace o6_5 := hu31_2.own
        first | rw [over (by first | rfl | (simp; done))] at o6_5 | skip
        replace o6_5 : Own H31_2 H3.size (Is (funS [k, v, p, q, c0, c1, c2, c3, t] (ends.getD p.toNat 0) (ends.getD q.toNat 0) (rowS Bs [c0, c1, c2, c3, t]).1)) := (by simpa [Is, funS] using o6_5)
        refine Reg.nil ?_
        have hFl : (funS [k, v, p, q, c0, c1, c2, c3, t] (ends.getD p.toNat 0) (ends.getD q.toNat 0) (rowS Bs [c0, c1, c2, c3, t]).1).length = 9 := by simp [funS, hrl]
        generalize hyy : (funS [k, v, p, q, c0, c1, c2, c3, t] (ends.getD p.toNat 0) (ends.getD q.toNat 0) (rowS Bs [c0, c1, c2, c3, t]).1) = y' at o6_5 hFl
        have hFl' : (Is y').length = 9 := by simp [hFl]
        refine At.region rfl rfl ?_
        refine Reg.pur rfl rfl rfl rfl (Pur.mv rfl) ?_
        refine Reg.lod rfl rfl rfl rfl (Lod.ldn ag47 rfl o6_5.blk (whole hFl') hFl') ?_
        refine Reg.op rfl rfl rfl rfl (Does.bslA ([Is y']) slA23 rfl rfl rfl (by simp [hFl]) rfl rfl) ?_
        rintro _ H32_2 ⟨rfl, hp32_2⟩
        have hn32_2 := New.of_eq hp32_2
        have z32_2 := hn32_2.size
        replace hE := hE.ext hn32_2.ext
        replace o0_0 := o0_0.ext hn32_2.ext
        replace o0_1 := o0_1.ext hn32_2.ext
        replace hg1 := hg1.ext hn32_2.ext
        replace hg2 := hg2.ext hn32_2.ext
        replace o6_5 := o6_5.ext hn32_2.ext
        replace o26_7 := o26_7.ext hn32_2.ext
        replace hb2 := hb2.ext hn32_2.ext
        replace hb2' := hb2'.ext hn32_2.ext
        have o32_2 := hn32_2.own
        refine Reg.op rfl rfl rfl rfl (Does.appL apt23 rfl rfl (by decide) hg1 (wide9 (nine1 hFl)) (sl_one (x := y') hFl' (by decide) hn32_2) (ones_flat _) (by simp; omega) (by omega)) ?_
        rintro _ H32_3 ⟨A32_3, cap32_3, rfl, g32_3, hbut32_3, ha32_3⟩
        have z32_3 := hbut32_3.lt
        replace hE := hE.via hbut32_3 (by first | omega | (intro g; omega) | (intro g hg; omega) | (intro g hg h; omega))
        replace o0_0 := o0_0.via hbut32_3 (by first | omega | (intro g; omega) | (intro g hg; omega) | (intro g hg h; omega))
        replace o0_1 := o0_1.via hbut32_3 (by first | omega | (intro g; omega) | (intro g hg; omega) | (intro g hg h; omega))
        replace hg2 := hg2.via hbut32_3 (by first | omega | (intro g; omega) | (intro g hg; omega) | (intro g hg h; omega))
        replace o6_5 := o6_5.via hbut32_3 (by first | omega | (intro g; omega) | (intro g hg; omega) | (intro g hg h; omega))
        replace o26_7 := o26_7.via hbut32_3 (by first | omega | (intro g; omega) | (intro g hg; omega) | (intro g hg h; omega))
        replace hb2 := hb2.via hbut32_3 (by first | omega | (intro g; omega) | (intro g hg; omega) | (intro g hg h; omega))
        replace hb2' := hb2'.via hbut32_3 (by first | omega | (intro g; omega) | (intro g hg; omega) | (intro g hg h; omega))
        replace o32_2 := o32_2.via hbut32_3 (by first | omega | (intro g; omega) | (intro g hg; omega) | (intro g hg h; omega))
        replace hg1 := g32_3
        have zg32_3 := g32_3.lt
        refine Reg.pur rfl rfl rfl rfl (Pur.asg rfl) ?_
        refine Reg.nil ?_
        exact At.meets rfl (hJ ([y'], out ++ [y'], A32_3, cap32_3) _ ⟨by rw [← hyy]; subst hk3; simp [moreS, q108], rfl, nine1 hFl, by simp, hg1, hg2, by omega, o0_0, o0_1, hE⟩) ⟨rfl, rfl, rfl, rfl, rfl, rfl, trivial⟩
      first | (simp only [decide_eq_true_eq, decide_eq_false_iff_not, Bool.not_eq_true', Bool.not_eq_false', ne_eq, Decidable.not_not, Bool.not_eq_true, Bool.not_eq_false] at q98) | (dsimp only at q98) | skip
      refine At.region rfl rfl ?_
      refine Reg.pur rfl rfl rfl rfl (Pur.mv rfl) ?_
      refine Reg.lod rfl rfl rfl rfl (Lod.ldn ag47 rfl o6_5.blk (by first | exact whole rfl | rfl | (simp only [List.drop_succ_cons, List.drop_zero, List.take_succ_cons, List.take_zero]; rfl)) (by first | rfl | (simp [*]; done))) ?_
      refine Reg.op rfl rfl rfl rfl (Does.bslA ([[_, _, _, _, _, _, _, _, _]]) slA23 rfl rfl rfl rfl rfl rfl) ?_
      rintro _ H8_2 ⟨rfl, hp8_2⟩
      have hn8_2 := New.of_eq hp8_2
      have z8_2 := hn8_2.size
      replace hE := hE.ext hn8_2.ext
      replace o0_0 := o0_0.ext hn8_2.ext
      replace o0_1 := o0_1.ext hn8_2.ext
      replace hg1 := hg1.ext hn8_2.ext
      replace hg2 := hg2.ext hn8_2.ext
      replace o6_5 := o6_5.ext hn8_2.ext
      have o8_2 := hn8_2.own
      refine Reg.op rfl rfl rfl rfl (Does.appL apt23 rfl rfl (by decide) hg1 (wide9 (nine1 (by rfl))) (sl_one (x := [k, v, p, q, c0, c1, c2, c3, t]) (by rfl) (by decide) hn8_2) (ones_flat _) (by simp; omega) (by omega)) ?_
      rintro _ H8_3 ⟨A8_3, cap8_3, rfl, g8_3, hbut8_3, ha8_3⟩
      have z8_3 := hbut8_3.lt
      replace hE := hE.via hbut8_3 (by first | omega | (intro g; omega) | (intro g hg; omega) | (intro g hg h; omega))
      replace o0_0 := o0_0.via hbut8_3 (by first | omega | (intro g; omega) | (intro g hg; omega) | (intro g hg h; omega))
      replace o0_1 := o0_1.via hbut8_3 (by first | omega | (intro g; omega) | (intro g hg; omega) | (intro g hg h; omega))
      replace hg2 := hg2.via hbut8_3 (by first | omega | (intro g; omega) | (intro g hg; omega) | (intro g hg h; omega))
      replace o6_5 := o6_5.via hbut8_3 (by first | omega | (intro g; omega) | (intro g hg; omega) | (intro g hg h; omega))
      replace o8_2 := o8_2.via hbut8_3 (by first | omega | (intro g; omega) | (intro g hg; omega) | (intro g hg h; omega))
      replace hg1 := g8_3
      have zg8_3 := g8_3.lt
      refine Reg.pur rfl rfl rfl rfl (Pur.asg rfl) ?_
      refine Reg.nil ?_
      exact At.meets rfl (hJ ([[k, v, p, q, c0, c1, c2, c3, t]], out ++ [[k, v, p, q, c0, c1, c2, c3, t]], A8_3, cap8_3) _ ⟨more_else q35 q98, rfl, nine1 rfl, by simp, hg1, hg2, by omega, o0_0, o0_1, hE⟩) ⟨rfl, rfl, rfl, rfl, rfl, rfl, trivial⟩
    obtain ⟨m, out', A', cap'⟩ := s
    obtain ⟨hmo, rfl, hNm, hml, hg1, hg2, hap, o0_0, o0_1, hE⟩ := hs
    dsimp only at hg1 hap ⊢
    have z_hE := hE.lt
    have z_o0_0 := o0_0.lt
    have z_o0_1 := o0_1.lt
    have z_hg1 := hg1.lt
    have z_hg2 := hg2.lt
    have hla : (out ++ m).length = out.length + m.length := List.length_append
    rw [hmo] at hgo
    dsimp only at hgo
    refine At.region rfl rfl ?_
    refine Reg.pur rfl rfl rfl rfl (Pur.mv rfl) ?_
    refine Reg.pur rfl rfl rfl rfl (Pur.mv rfl) ?_
    refine Reg.pur rfl rfl rfl rfl (Pur.lenS isl23 rfl) ?_
    first | refine Reg.pur rfl rfl rfl rfl (Pur.sub64 rfl rfl (by omega)) ?_ | refine Reg.pur rfl rfl rfl rfl (Pur.sub64 rfl rfl (by assumption)) ?_ | refine Reg.pur rfl rfl rfl rfl (Pur.sub rfl rfl) ?_
    refine Reg.op rfl rfl rfl rfl (Does.bsl1 sl1_54 rfl rfl rfl rfl rfl) ?_
    rintro _ H33_4 ⟨rfl, hn33_4⟩
    have z33_4 := hn33_4.size
    replace hE := hE.ext hn33_4.ext
    replace o0_0 := o0_0.ext hn33_4.ext
    replace o0_1 := o0_1.ext hn33_4.ext
    replace hg1 := hg1.ext hn33_4.ext
    replace hg2 := hg2.ext hn33_4.ext
    have o33_4 := hn33_4.own
    refine Reg.op rfl rfl rfl rfl (Does.appL apt54 rfl rfl (by decide) hg2 (wide1 _) (sl_new (L := [((out ++ m).length : Int) - 1]) (wide1 _) (by decide) hn33_4 (by simp)) (ones_e1 _) (by simp; omega) (by omega)) ?_
    rintro _ H33_5 ⟨A33_5, cap33_5, rfl, g33_5, hbut33_5, ha33_5⟩
    have z33_5 := hbut33_5.lt
    replace hE := hE.via hbut33_5 (by first | omega | (intro g; omega) | (intro g hg; omega) | (intro g hg h; omega))
    replace o0_0 := o0_0.via hbut33_5 (by first | omega | (intro g; omega) | (intro g hg; omega) | (intro g hg h; omega))
    replace o0_1 := o0_1.via hbut33_5 (by first | omega | (intro g; omega) | (intro g hg; omega) | (intro g hg h; omega))
    replace hg1 := hg1.via hbut33_5 (by first | omega | (intro g; omega) | (intro g hg; omega) | (intro g hg h; omega))
    replace o33_4 := o33_4.via hbut33_5 (by first | omega | (intro g; omega) | (intro g hg; omega) | (intro g hg h; omega))
    replace hg2 := g33_5
    have zg33_5 := g33_5.lt
    refine Reg.pur rfl rfl rfl rfl (Pur.asg rfl) ?_
    refine Reg.nil ?_
    refine At.region rfl rfl ?_
    refine Reg.pur rfl rfl rfl rfl (Pur.mv rfl) ?_
    refine Reg.pur rfl rfl rfl rfl (Pur.lenS isl23 rfl) ?_
    refine Reg.pur rfl rfl rfl rfl (Pur.gtr rfl rfl) ?_
    refine Reg.nil ?_
    refine At.cond rfl rfl (fun q136 => ?_) (fun q136 => ?_)
    · first | (simp only [decide_eq_true_eq, decide_eq_false_iff_not, Bool.not_eq_true', Bool.not_eq_false', ne_eq, Decidable.not_not, Bool.not_eq_true, Bool.not_eq_false] at q136) | (dsimp only at q136) | skip
      refine At.region rfl rfl ?_
      refine Reg.pur rfl rfl rfl rfl (Pur.bld (cs := [_]) pl25 zc25 rfl rfl ⟨rfl, rfl⟩) ?_
      refine Reg.op0 rfl rfl rfl (Does.stn ag25 rfl rfl (by first | rfl | exact ones_Is _) (by first | rfl | (simp [*]; done)) o0_1 (by first | decide | (simp; done) | (simp; omega) | omega)) ?_
      rintro _ H35_1 hu35_1
      have z35_1 := hu35_1.size
      replace hE := hE.upw hu35_1 (by omega)
      replace o0_0 := o0_0.upw hu35_1 (by omega)
      replace hg1 := hg1.upw hu35_1 (by omega)
      replace hg2 := hg2.upw hu35_1 (by omega)
      replace o33_4 := o33_4.upw hu35_1 (by omega)
      replace o0_1 := hu35_1.own
      first | rw [over (by first | rfl | (simp; done))] at o0_1 | skip
      refine Reg.pur rfl rfl rfl rfl (Pur.asg rfl) ?_
      refine Reg.nil ?_
      refine At.retC rfl Try.func57 ⟨_, _, _, _, rfl, rfl, ⟨_, o0_1.blk, .inr ⟨_, _, ag25, (by first | exact whole rfl | exact whole (by simp [*])), (by first | rfl | simp [*]), rfl⟩⟩, ⟨_, _, rfl, rfl, rfl⟩⟩ ?_
      refine ⟨hE, ?_⟩
      rw [← hgo, if_pos (by omega)]; exact rfl
    first | (simp only [decide_eq_true_eq, decide_eq_false_iff_not, Bool.not_eq_true', Bool.not_eq_false', ne_eq, Decidable.not_not, Bool.not_eq_true, Bool.not_eq_false] at q136) | (dsimp only at q136) | skip
    refine At.region rfl rfl ?_
    refine Reg.pur rfl rfl rfl rfl (Pur.mv rfl) ?_
    first | refine Reg.pur rfl rfl rfl rfl (Pur.add64 rfl rfl (by omega)) ?_ | refine Reg.pur rfl rfl rfl rfl (Pur.add64 rfl rfl (by assumption)) ?_ | refine Reg.pur rfl rfl rfl rfl (Pur.add rfl rfl) ?_
    refine Reg.pur rfl rfl rfl rfl (Pur.asg rfl) ?_
    refine Reg.nil ?_
    exact At.via (ih (i + 1, out ++ m, ends ++ [((out ++ m).length : Int) - 1], A', cap', A33_5, cap33_5) _ ⟨by omega, by omega, by simp [hel], nine_app hN hNm, hg1, hg2, by omega, o0_0, o0_1, hE, by rw [hla, ← hgo, if_neg (by omega)]⟩ (by simp only; omega)) ⟨rfl, rfl, rfl, rfl, rfl, rfl, trivial⟩
  first | (simp only [decide_eq_true_eq, decide_eq_false_iff_not, Bool.not_eq_true', Bool.not_eq_false', ne_eq, Decidable.not_not, Bool.not_eq_true, Bool.not_eq_false] at q21) | (dsimp only at q21) | skip
  refine At.region rfl rfl ?_
  refine Reg.pur rfl rfl rfl rfl (Pur.mv rfl) ?_
  refine Reg.pur rfl rfl rfl rfl (Pur.bld (cs := [_]) pl25 zc25 rfl rfl ⟨rfl, rfl⟩) ?_
  refine Reg.op0 rfl rfl rfl (Does.stn ag25 rfl rfl (by first | rfl | exact ones_Is _) (by first | rfl | (simp [*]; done)) o0_1 (by first | decide | (simp; done) | (simp; omega) | omega)) ?_
  rintro _ H36_2 hu36_2
  have z36_2 := hu36_2.size
  replace hE := hE.upw hu36_2 (by omega)
  replace o0_0 := o0_0.upw hu36_2 (by omega)
  replace hg1 := hg1.upw hu36_2 (by omega)
  replace hg2 := hg2.upw hu36_2 (by omega)
  replace o0_1 := hu36_2.own
  first | rw [over (by first | rfl | (simp; done))] at o0_1 | skip
  refine Reg.pur rfl rfl rfl rfl (Pur.asg rfl) ?_
  refine Reg.nil ?_
  refine At.retC rfl Try.func57 ⟨_, _, _, _, rfl, rfl, ⟨_, o0_1.blk, .inr ⟨_, _, ag25, (by first | exact whole rfl | exact whole (by simp [*])), (by first | rfl | simp [*]), rfl⟩⟩, ⟨_, _, rfl, rfl, rfl⟩⟩ ?_
  refine ⟨hE, ?_⟩
  rw [List.drop_of_length_le (by omega)] at hgo
  rw [← hgo]; exact ⟨A', cap', rfl, hg1.mono (by omega), hN, hol⟩
end Go.Proofs.Ytlfillhffpiffaa

namespace Go.Proofs.Ytlfillhffpiffaa
set_option linter.unusedSimpArgs false
set_option linter.unusedVariables false
set_option maxRecDepth 8000
open Go Go.Fx Go.Proofs
namespace FactsSubM
theorem ag25 : ag Try.prog 25 = some 1 := by kernel_rfl
theorem ag28 : ag Try.prog 28 = some 5 := by kernel_rfl
theorem pl25 : places Try.prog 25 = some [(0, 1)] := by kernel_rfl
theorem pl28 : places Try.prog 28 = some [(0, 4), (4, 1)] := by kernel_rfl
theorem zc25 : zc Try.prog 25 = some [.slice none 0 0] := by kernel_rfl
theorem zc28 : zc Try.prog 28 = some [.int .i64 0, .int .i64 0, .int .i64 0, .int .i64 0, .int .i64 0] := by kernel_rfl
end FactsSubM
open FactsSubM

def TypV (B : Nat) (H' : Heap) (w v : Value) (out : List (List Int)) : Prop :=
  ∃ A' cap', v = .tuple #[Ty A' out.length cap', w] ∧ OwnS H' B 47 9 (.slice A' out.length cap') out.length (out.flatMap Is) ∧ Nine out ∧ out.length ≤ 256
theorem TypB.v {B : Nat} {H' : Heap} {v : Value} {o : Option (List (List Int))} (h : TypB B H' v o) : TypV B H' (.bool o.isSome) v (o.getD []) := by
  cases o with
  | none => exact ⟨none, 0, h, OwnS.nil _ _ _ _, (fun x hx => by cases hx), by simp⟩
  | some out => exact h
theorem TypV.non {B : Nat} {H' : Heap} {w v : Value} (h : v = .tuple #[Ty none 0 0, w]) : TypV B H' w v [] := ⟨none, 0, h, OwnS.nil _ _ _ _, (fun x hx => by cases hx), by simp⟩
def ce (b : Bool) : Int := if b then 0 else 900
def subT (Bs : List Bd) (L : List (List Int)) : Option (List (List Int)) := if bindsM Bs = true ∧ typM L = true then typS Bs L else none
theorem type_ok {A A1 : Option Addr} {cap cap1 : Nat} {Bs : List Bd} {L : List (List Int)} {H : Heap} (hB : Bds H (.slice A Bs.length cap) Bs) (hS : SlT H Is 9 (.slice A1 L.length cap1) L) (hL : Nine L) (hm : L.length * 72 ≤ 140737488351232) :
    Ret Try.prog 20 [.slice A Bs.length cap, Ty A1 L.length cap1] H (fun v H' => Ext H H' ∧ TypV H.size H' (I (ce (subT Bs L).isSome)) v ((subT Bs L).getD [])) := by
  refine Ret.of_at (N := 26) Try.call20 Try.func20 rfl rfl rfl ?_
  have hE := Ext.refl H
  refine At.region rfl rfl ?_
  refine Reg.op rfl rfl rfl rfl (Does.box rfl rfl) ?_
  rintro _ H0_0 ⟨rfl, hn0_0⟩
  have z0_0 := hn0_0.size
  replace hE := hE.ext hn0_0.ext
  have o0_0 := hn0_0.own
  refine Reg.op rfl rfl rfl rfl (Does.alloc zc25) ?_
  rintro _ H0_1 ⟨rfl, hn0_1⟩
  have z0_1 := hn0_1.size
  replace hE := hE.ext hn0_1.ext
  replace o0_0 := o0_0.ext hn0_1.ext
  have o0_1 := hn0_1.own
  refine Reg.pur rfl rfl rfl rfl (Pur.asg rfl) ?_
  refine Reg.nil ?_
  refine At.region rfl rfl ?_
  refine Reg.pur rfl rfl rfl rfl (Pur.mv rfl) ?_
  refine Reg.op rfl rfl rfl rfl (Does.call rfl (bindsMay_ok (hB.ext hE))) ?_
  rintro _ H1_1 ⟨rfl, hE1_1⟩
  have z1_1 := hE1_1.lt
  replace hE := hE.ext hE1_1
  replace o0_0 := o0_0.ext hE1_1
  replace o0_1 := o0_1.ext hE1_1
  refine Reg.pur rfl rfl rfl rfl (Pur.not rfl) ?_
  refine Reg.pur rfl rfl rfl rfl (Pur.mv rfl) ?_
  refine Reg.case 11 rfl (fun q11 => ?_) (fun q11 => ?_)
  · first | (simp only [decide_eq_true_eq, decide_eq_false_iff_not, Bool.not_eq_true', Bool.not_eq_false', ne_eq, Decidable.not_not, Bool.not_eq_true, Bool.not_eq_false] at q11) | (dsimp only at q11) | skip
    refine Reg.skip rfl rfl rfl rfl rfl rfl rfl ?_
    refine Reg.skip rfl rfl rfl rfl rfl rfl rfl ?_
    refine Reg.skip rfl rfl rfl rfl rfl rfl rfl ?_
    refine Reg.pur rfl rfl rfl rfl (Pur.pickT rfl rfl) ?_
    refine Reg.nil ?_
    refine At.condT rfl rfl rfl ?_
    refine At.region rfl rfl ?_
    refine Reg.pur rfl rfl rfl rfl (Pur.bld (cs := [_]) pl25 zc25 rfl rfl ⟨rfl, rfl⟩) ?_
    refine Reg.op0 rfl rfl rfl (Does.stn ag25 rfl rfl (by first | rfl | exact ones_Is _) (by first | rfl | (simp [*]; done)) o0_1 (by first | decide | (simp; done) | (simp; omega) | omega)) ?_
    rintro _ H2_1 hu2_1
    have z2_1 := hu2_1.size
    replace hE := hE.upw hu2_1 (by omega)
    replace o0_0 := o0_0.upw hu2_1 (by omega)
    replace o0_1 := hu2_1.own
    first | rw [over (by first | rfl | (simp; done))] at o0_1 | skip
    refine Reg.pur rfl rfl rfl rfl (Pur.asg rfl) ?_
    refine Reg.nil ?_
    refine At.retC rfl Try.func20 ⟨_, _, _, _, rfl, rfl, ⟨_, o0_1.blk, .inr ⟨_, _, ag25, (by first | exact whole rfl | exact whole (by simp [*])), (by first | rfl | simp [*]), rfl⟩⟩, ⟨_, _, rfl, rfl, rfl⟩⟩ ?_
    refine ⟨hE, ?_⟩
    rw [show subT Bs L = none by unfold subT; rw [if_neg]; simp_all]
    exact TypV.non rfl
  first | (simp only [decide_eq_true_eq, decide_eq_false_iff_not, Bool.not_eq_true', Bool.not_eq_false', ne_eq, Decidable.not_not, Bool.not_eq_true, Bool.not_eq_false] at q11) | (dsimp only at q11) | skip
  refine Reg.glod rfl rfl rfl rfl rfl rfl (Lod.ldn ag25 rfl o0_0.blk (by first | exact whole rfl | rfl | (simp only [List.drop_succ_cons, List.drop_zero, List.take_succ_cons, List.take_zero]; rfl)) (by first | rfl | (simp [*]; done))) ?_
  refine Reg.gop rfl rfl rfl rfl rfl rfl (Does.call rfl (typMay_ok L hL (hS.ext hE) (by omega))) ?_
  rintro _ H1_5 ⟨rfl, hE1_5⟩
  have z1_5 := hE1_5.lt
  replace hE := hE.ext hE1_5
  replace o0_0 := o0_0.ext hE1_5
  replace o0_1 := o0_1.ext hE1_5
  refine Reg.gpur rfl rfl rfl rfl rfl rfl (Pur.not rfl) ?_
  refine Reg.pur rfl rfl rfl rfl (Pur.pickF rfl rfl) ?_
  refine Reg.nil ?_
  refine At.cond rfl rfl (fun q15 => ?_) (fun q15 => ?_)
  · first | (simp only [decide_eq_true_eq, decide_eq_false_iff_not, Bool.not_eq_true', Bool.not_eq_false', ne_eq, Decidable.not_not, Bool.not_eq_true, Bool.not_eq_false] at q15) | (dsimp only at q15) | skip
    refine At.region rfl rfl ?_
    refine Reg.pur rfl rfl rfl rfl (Pur.bld (cs := [_]) pl25 zc25 rfl rfl ⟨rfl, rfl⟩) ?_
    refine Reg.op0 rfl rfl rfl (Does.stn ag25 rfl rfl (by first | rfl | exact ones_Is _) (by first | rfl | (simp [*]; done)) o0_1 (by first | decide | (simp; done) | (simp; omega) | omega)) ?_
    rintro _ H2_1 hu2_1
    have z2_1 := hu2_1.size
    replace hE := hE.upw hu2_1 (by omega)
    replace o0_0 := o0_0.upw hu2_1 (by omega)
    replace o0_1 := hu2_1.own
    first | rw [over (by first | rfl | (simp; done))] at o0_1 | skip
    refine Reg.pur rfl rfl rfl rfl (Pur.asg rfl) ?_
    refine Reg.nil ?_
    refine At.retC rfl Try.func20 ⟨_, _, _, _, rfl, rfl, ⟨_, o0_1.blk, .inr ⟨_, _, ag25, (by first | exact whole rfl | exact whole (by simp [*])), (by first | rfl | simp [*]), rfl⟩⟩, ⟨_, _, rfl, rfl, rfl⟩⟩ ?_
    refine ⟨hE, ?_⟩
    rw [show subT Bs L = none by unfold subT; rw [if_neg]; simp_all]
    exact TypV.non rfl
  first | (simp only [decide_eq_true_eq, decide_eq_false_iff_not, Bool.not_eq_true', Bool.not_eq_false', ne_eq, Decidable.not_not, Bool.not_eq_true, Bool.not_eq_false] at q15) | (dsimp only at q15) | skip
  have hM : typM L = true := q15
  refine At.region rfl rfl ?_
  refine Reg.pur rfl rfl rfl rfl (Pur.mv rfl) ?_
  refine Reg.op rfl rfl rfl rfl (Does.call rfl (ofType_ok (hB.ext hE) (hS.ext hE) hL hM o0_0.blk rfl)) ?_
  rintro v3_1 H3_1 ⟨hE3_1, hT3_1⟩
  have z3_1 := hE3_1.lt
  replace hE := hE.ext hE3_1
  replace o0_0 := o0_0.ext hE3_1
  replace o0_1 := o0_1.ext hE3_1
  obtain ⟨A', cap', rfl, ho, hN, hl⟩ := hT3_1.v
  have z_ho := ho.lt
  refine Reg.pur rfl rfl rfl rfl (Pur.mv rfl) ?_
  refine Reg.pur rfl rfl rfl rfl (Pur.ext rfl rfl) ?_
  refine Reg.pur rfl rfl rfl rfl (Pur.ext rfl rfl) ?_
  refine Reg.op rfl rfl rfl rfl (Does.alloc zc25) ?_
  rintro _ H3_5 ⟨rfl, hn3_5⟩
  have z3_5 := hn3_5.size
  replace hE := hE.ext hn3_5.ext
  replace o0_0 := o0_0.ext hn3_5.ext
  replace o0_1 := o0_1.ext hn3_5.ext
  replace ho := ho.ext hn3_5.ext
  have o3_5 := hn3_5.own
  refine Reg.op0 rfl rfl rfl (Does.stn ag25 rfl rfl (by first | rfl | exact ones_Is _) (by first | rfl | (simp [*]; done)) o3_5 (by first | decide | (simp; done) | (simp; omega) | omega)) ?_
  rintro _ H3_6 hu3_6
  have z3_6 := hu3_6.size
  replace hE := hE.upw hu3_6 (by omega)
  replace o0_0 := o0_0.upw hu3_6 (by omega)
  replace o0_1 := o0_1.upw hu3_6 (by omega)
  replace ho := ho.upw hu3_6 (by omega)
  replace o3_5 := hu3_6.own
  first | rw [over (by first | rfl | (simp; done))] at o3_5 | skip
  refine Reg.pur rfl rfl rfl rfl (Pur.asg rfl) ?_
  refine Reg.nil ?_
  have hq : subT Bs L = typS Bs L := by unfold subT; rw [if_pos ⟨q11, hM⟩]
  refine At.region rfl rfl ?_
  refine Reg.pur rfl rfl rfl rfl (Pur.mv rfl) ?_
  refine Reg.pur rfl rfl rfl rfl (Pur.not rfl) ?_
  refine Reg.nil ?_
  refine At.cond rfl rfl (fun q23 => ?_) (fun q23 => ?_)
  · first | (simp only [decide_eq_true_eq, decide_eq_false_iff_not, Bool.not_eq_true', Bool.not_eq_false', ne_eq, Decidable.not_not, Bool.not_eq_true, Bool.not_eq_false] at q23) | (dsimp only at q23) | skip
    refine At.region rfl rfl ?_
    refine Reg.pur rfl rfl rfl rfl (Pur.bld (cs := [_]) pl25 zc25 rfl rfl ⟨rfl, rfl⟩) ?_
    refine Reg.op0 rfl rfl rfl (Does.stn ag25 rfl rfl (by first | rfl | exact ones_Is _) (by first | rfl | (simp [*]; done)) o0_1 (by first | decide | (simp; done) | (simp; omega) | omega)) ?_
    rintro _ H5_1 hu5_1
    have z5_1 := hu5_1.size
    replace hE := hE.upw hu5_1 (by omega)
    replace o0_0 := o0_0.upw hu5_1 (by omega)
    replace ho := ho.upw hu5_1 (by omega)
    replace o3_5 := o3_5.upw hu5_1 (by omega)
    replace o0_1 := hu5_1.own
    first | rw [over (by first | rfl | (simp; done))] at o0_1 | skip
    refine Reg.pur rfl rfl rfl rfl (Pur.asg rfl) ?_
    refine Reg.nil ?_
    refine At.retC rfl Try.func20 ⟨_, _, _, _, rfl, rfl, ⟨_, o0_1.blk, .inr ⟨_, _, ag25, (by first | exact whole rfl | exact whole (by simp [*])), (by first | rfl | simp [*]), rfl⟩⟩, ⟨_, _, rfl, rfl, rfl⟩⟩ ?_
    refine ⟨hE, ?_⟩
    rw [hq]
    cases hh : typS Bs L with
    | none => exact TypV.non rfl
    | some out => rw [hh] at q23; cases q23
  first | (simp only [decide_eq_true_eq, decide_eq_false_iff_not, Bool.not_eq_true', Bool.not_eq_false', ne_eq, Decidable.not_not, Bool.not_eq_true, Bool.not_eq_false] at q23) | (dsimp only at q23) | skip
  refine At.region rfl rfl ?_
  refine Reg.lod rfl rfl rfl rfl (Lod.ldn ag25 rfl o3_5.blk (by first | exact whole rfl | rfl | (simp only [List.drop_succ_cons, List.drop_zero, List.take_succ_cons, List.take_zero]; rfl)) (by first | rfl | (simp [*]; done))) ?_
  refine Reg.op0 rfl rfl rfl (Does.stn ag25 rfl rfl (by first | rfl | exact ones_Is _) (by first | rfl | (simp [*]; done)) o0_1 (by first | decide | (simp; done) | (simp; omega) | omega)) ?_
  rintro _ H6_1 hu6_1
  have z6_1 := hu6_1.size
  replace hE := hE.upw hu6_1 (by omega)
  replace o0_0 := o0_0.upw hu6_1 (by omega)
  replace ho := ho.upw hu6_1 (by omega)
  replace o3_5 := o3_5.upw hu6_1 (by omega)
  replace o0_1 := hu6_1.own
  first | rw [over (by first | rfl | (simp; done))] at o0_1 | skip
  refine Reg.pur rfl rfl rfl rfl (Pur.asg rfl) ?_
  refine Reg.nil ?_
  refine At.retC rfl Try.func20 ⟨_, _, _, _, rfl, rfl, ⟨_, o0_1.blk, .inr ⟨_, _, ag25, (by first | exact whole rfl | exact whole (by simp [*])), (by first | rfl | simp [*]), rfl⟩⟩, ⟨_, _, rfl, rfl, rfl⟩⟩ ?_
  refine ⟨hE, ?_⟩
  rw [hq]
  rw [show (typS Bs L).isSome = true from q23]
  exact ⟨A', cap', rfl, ho.mono (by omega), hN, hl⟩

end Go.Proofs.Ytlfillhffpiffaa

namespace Go.Proofs.Ytlfillhffpiffaa
set_option linter.unusedSimpArgs false
set_option linter.unusedVariables false
set_option maxRecDepth 8000
open Go Go.Fx Go.Proofs
namespace FactsSubN
theorem ag25 : ag Try.prog 25 = some 1 := by kernel_rfl
theorem ag28 : ag Try.prog 28 = some 5 := by kernel_rfl
theorem ag49 : ag Try.prog 49 = some 8 := by kernel_rfl
theorem apt22 : appT Try.prog 22 = some (49, 8, 80) := by kernel_rfl
theorem eqt28 : eqT Try.prog 28 = some [.int .i64, .int .i64, .int .i64, .int .i64, .int .i64] := by kernel_rfl
theorem es22 : esz Try.prog 22 = some 8 := by kernel_rfl
theorem fo49_0 : foff Try.prog 49 0 = some 0 := by kernel_rfl
theorem fo49_1 : foff Try.prog 49 1 = some 1 := by kernel_rfl
theorem fo49_2 : foff Try.prog 49 2 = some 2 := by kernel_rfl
theorem fo49_3 : foff Try.prog 49 3 = some 3 := by kernel_rfl
theorem isl22 : isSl Try.prog 22 = true := by kernel_rfl
theorem mixed : Try.prog.follows .mixedOrders = true := by kernel_rfl
theorem sc3 : sc Try.prog 3 = true := by kernel_rfl
theorem sc4 : sc Try.prog 4 = true := by kernel_rfl
theorem slA22 : slA Try.prog 22 = some (49, 8) := by kernel_rfl
theorem zc49 : zc Try.prog 49 = some [.int .i64 0, .bool false, .slice none 0 0, .int .i64 0, .int .i64 0, .int .i64 0, .int .i64 0, .int .i64 0] := by kernel_rfl
end FactsSubN
open FactsSubN

def pl (b : Bd) : Int × Bool × List (List Int) × List Int := (b.var, b.isRow, b.nodes, b.row)
theorem Bd.Ok.via {H H' : Heap} {S : Nat → Prop} {b : Bd} (h : b.Ok H) (he : But S H H') (hs : b.nodes.length ≠ 0 → ∀ g : Nat, (g : Int) = ob b.A → ¬ S g) : b.Ok H' :=
  ⟨h.sl.via he hs, h.nine, h.row, h.fits⟩
theorem Bd.Ok.upw {H H' : Heap} {x : Nat} {c : List Value} {b : Bd} (h : b.Ok H) (u : Upd H H' x c) (hs : b.nodes.length = 0 ∨ ob b.A ≠ x) : b.Ok H' :=
  ⟨h.sl.upw u hs, h.nine, h.row, h.fits⟩
theorem Bd.Ok.lt {H : Heap} {b : Bd} (h : b.Ok H) : b.nodes.length = 0 ∨ (0 ≤ ob b.A ∧ ob b.A < H.size) := h.sl.lt
theorem Bds.lt' {H : Heap} {A : Option Addr} {n cap : Nat} {L : List Bd} (h : Bds H (.slice A n cap) L) : (L.length = 0 ∨ (0 ≤ ob A ∧ ob A < H.size)) ∧ ∀ b ∈ L, b.nodes.length = 0 ∨ (0 ≤ ob b.A ∧ ob b.A < H.size) :=
  ⟨h.sl.lt, fun b hb => (h.ok b hb).lt⟩
theorem take1_map {α β : Type} {f : α → β} {L L' : List α} {i : Nat} (h : i < L.length) (h' : i < L'.length) (hp : (L.take i).map f = (L'.take i).map f) (hx : f L[i] = f L'[i]) : (L.take (i + 1)).map f = (L'.take (i + 1)).map f := by
  rw [List.take_succ_eq_append_getElem h, List.take_succ_eq_append_getElem h', List.map_append, List.map_append, hp, List.map_cons, List.map_cons, hx]
theorem ne_at {α β : Type} {f : α → β} {L L' : List α} {i : Nat} (h : i < L.length) (h' : i < L'.length) (hx : f L[i] ≠ f L'[i]) : L.map f ≠ L'.map f := by
  intro e
  have := congrArg (fun l => l[i]?) e
  simp [h, h'] at this
  exact hx this

theorem sameBinds_ok {A A' : Option Addr} {cap cap' : Nat} {Bs Cs : List Bd} {H : Heap} (hB : Bds H (.slice A Bs.length cap) Bs) (hC : Bds H (.slice A' Cs.length cap') Cs) :
    Ret Try.prog 27 [.slice A Bs.length cap, .slice A' Cs.length cap'] H (fun v H' => v = .bool (decide (Bs.map pl = Cs.map pl)) ∧ Ext H H') := by
  have hbl := hB.fits
  refine Ret.of_at (N := 68) Try.call27 Try.func27 rfl rfl rfl ?_
  have hE := Ext.refl H
  refine At.region rfl rfl ?_
  refine Reg.pur rfl rfl rfl rfl (Pur.asg rfl) ?_
  refine Reg.nil ?_
  refine At.region rfl rfl ?_
  refine Reg.pur rfl rfl rfl rfl (Pur.mv rfl) ?_
  refine Reg.pur rfl rfl rfl rfl (Pur.lenS isl22 rfl) ?_
  refine Reg.pur rfl rfl rfl rfl (Pur.mv rfl) ?_
  refine Reg.pur rfl rfl rfl rfl (Pur.lenS isl22 rfl) ?_
  refine Reg.pur rfl rfl rfl rfl (Pur.neq rfl rfl) ?_
  refine Reg.nil ?_
  refine At.cond rfl rfl (fun q10 => ?_) (fun q10 => ?_)
  · first | (simp only [decide_eq_true_eq, decide_eq_false_iff_not, Bool.not_eq_true', Bool.not_eq_false', ne_eq, Decidable.not_not, Bool.not_eq_true, Bool.not_eq_false] at q10) | (dsimp only at q10) | skip
    refine At.region rfl rfl ?_
    refine Reg.pur rfl rfl rfl rfl (Pur.asg rfl) ?_
    refine Reg.nil ?_
    refine At.ret rfl Try.func27 rfl ?_
    exact ⟨congrArg Value.bool (decide_eq_false fun e => by have := congrArg List.length e; simp only [List.length_map] at this; omega).symm, hE⟩
  first | (simp only [decide_eq_true_eq, decide_eq_false_iff_not, Bool.not_eq_true', Bool.not_eq_false', ne_eq, Decidable.not_not, Bool.not_eq_true, Bool.not_eq_false] at q10) | (dsimp only at q10) | skip
  refine At.region rfl rfl ?_
  refine Reg.pur rfl rfl rfl rfl (Pur.asg rfl) ?_
  refine Reg.nil ?_
  have hll : Bs.length = Cs.length := by omega
  refine At.loop (σ := Nat) (fun i => [(5, I i), (0, .slice A Bs.length cap), (1, .slice A' Cs.length cap')]) (fun i H' => i ≤ Bs.length ∧ (Bs.take i).map pl = (Cs.take i).map pl ∧ Ext H H') (fun i => Bs.length - i) 0 rfl ⟨rfl, rfl, rfl, trivial⟩ ⟨by omega, rfl, hE⟩ ?_
  rintro i H3 ⟨hi, hmap, hE⟩ ih
  have z_hE := hE.lt
  refine At.region rfl rfl ?_
  refine Reg.pur rfl rfl rfl rfl (Pur.mv rfl) ?_
  refine Reg.pur rfl rfl rfl rfl (Pur.mv rfl) ?_
  refine Reg.pur rfl rfl rfl rfl (Pur.lenS isl22 rfl) ?_
  refine Reg.pur rfl rfl rfl rfl (Pur.lss rfl rfl) ?_
  refine Reg.nil ?_
  refine At.cond rfl rfl (fun q14 => ?_) (fun q14 => ?_)
  · first | (simp only [decide_eq_true_eq, decide_eq_false_iff_not, Bool.not_eq_true', Bool.not_eq_false', ne_eq, Decidable.not_not, Bool.not_eq_true, Bool.not_eq_false] at q14) | (dsimp only at q14) | skip
    have hlt : i < Bs.length := by omega
    have hlt' : i < Cs.length := by omega
    obtain ⟨b, o, c, rfl, hB0, hd, _⟩ := (hB.ext hE).at hlt
    obtain ⟨b', o', c', rfl, hB0', hd', _⟩ := (hC.ext hE).at hlt'
    have hok := hB.ok _ (List.getElem_mem hlt)
    have hok' := hC.ok _ (List.getElem_mem hlt')
    have hgo := take1_map hlt hlt' hmap
    have hne := ne_at (f := pl) hlt hlt'
    generalize Bs[i] = bd at hd hok hgo hne
    generalize Cs[i] = bd' at hd' hok' hgo hne
    have hr := hok.row
    have hr' := hok'.row
    have hf := fks_ints .i64 bd.row
    have hf' := fks_ints .i64 bd'.row
    rw [hr] at hf
    rw [hr'] at hf'
    have hq := eqs_ints .i64 bd.row bd'.row
    have z_hB0 := hB0.lt
    have z_hB0' := hB0'.lt
    refine At.drawE ((Bks.cons hB0.blk (Bks.cons hB0'.blk Bks.nil))) [] mixed rfl rfl ?_
    refine RegD.tpur (i := 0) rfl rfl rfl rfl (by kernel_rfl) (Pur.mv rfl) ?_
    refine RegD.tpur (i := 1) rfl rfl rfl rfl (by kernel_rfl) (Pur.mv rfl) ?_
    refine RegD.tpur (i := 2) rfl rfl rfl rfl (by kernel_rfl) (Pur.idx _ es22 rfl rfl (by omega) (by omega)) ?_
    refine RegD.tpur (i := 3) rfl rfl rfl rfl (by kernel_rfl) (Pur.fld _ fo49_0 rfl) ?_
    refine RegD.take (i := 4) rfl rfl rfl rfl (by kernel_rfl) (Bks.cons hB0.blk (Bks.cons hB0'.blk Bks.nil)) (fun H hS => Lod.ld sc3 rfl hS.hd (at_tk (j := 0) hd (by decide) rfl)) ?_
    refine RegD.tpur (i := 5) rfl rfl rfl rfl (by kernel_rfl) (Pur.mv rfl) ?_
    refine RegD.tpur (i := 6) rfl rfl rfl rfl (by kernel_rfl) (Pur.mv rfl) ?_
    refine RegD.tpur (i := 7) rfl rfl rfl rfl (by kernel_rfl) (Pur.idx _ es22 rfl rfl (by omega) (by omega)) ?_
    refine RegD.tpur (i := 8) rfl rfl rfl rfl (by kernel_rfl) (Pur.fld _ fo49_0 rfl) ?_
    refine RegD.take (i := 9) rfl rfl rfl rfl (by kernel_rfl) (Bks.cons hB0.blk (Bks.cons hB0'.blk Bks.nil)) (fun H hS => Lod.ld sc3 rfl hS.tl.hd (at_tk (j := 0) hd' (by decide) rfl)) ?_
    refine RegD.tpur (i := 10) rfl rfl rfl rfl (by kernel_rfl) (Pur.neq rfl rfl) ?_
    refine RegD.tpur (i := 11) rfl rfl rfl rfl (by kernel_rfl) (Pur.mv rfl) ?_
    refine RegD.case 28 rfl (fun q28 => ?_) (fun q28 => ?_)
    · first | (simp only [decide_eq_true_eq, decide_eq_false_iff_not, Bool.not_eq_true', Bool.not_eq_false', ne_eq, Decidable.not_not, Bool.not_eq_true, Bool.not_eq_false] at q28) | (dsimp only at q28) | skip
      refine RegD.skip (i := 12) rfl rfl rfl rfl rfl rfl rfl (by kernel_rfl) ?_
      refine RegD.skip (i := 13) rfl rfl rfl rfl rfl rfl rfl (by kernel_rfl) ?_
      refine RegD.skip (i := 14) rfl rfl rfl rfl rfl rfl rfl (by kernel_rfl) ?_
      refine RegD.skip (i := 15) rfl rfl rfl rfl rfl rfl rfl (by kernel_rfl) ?_
      refine RegD.skip (i := 16) rfl rfl rfl rfl rfl rfl rfl (by kernel_rfl) ?_
      refine RegD.skip (i := 17) rfl rfl rfl rfl rfl rfl rfl (by kernel_rfl) ?_
      refine RegD.skip (i := 18) rfl rfl rfl rfl rfl rfl rfl (by kernel_rfl) ?_
      refine RegD.skip (i := 19) rfl rfl rfl rfl rfl rfl rfl (by kernel_rfl) ?_
      refine RegD.skip (i := 20) rfl rfl rfl rfl rfl rfl rfl (by kernel_rfl) ?_
      refine RegD.skip (i := 21) rfl rfl rfl rfl rfl rfl rfl (by kernel_rfl) ?_
      refine RegD.skip (i := 22) rfl rfl rfl rfl rfl rfl rfl (by kernel_rfl) ?_
      refine RegD.tpur (i := 23) rfl rfl rfl rfl (by kernel_rfl) (Pur.pickT rfl rfl) ?_
      refine RegD.tpur (i := 24) rfl rfl rfl rfl (by kernel_rfl) (Pur.mv rfl) ?_
      refine RegD.skip (i := 25) rfl rfl rfl rfl rfl rfl rfl (by kernel_rfl) ?_
      refine RegD.skip (i := 26) rfl rfl rfl rfl rfl rfl rfl (by kernel_rfl) ?_
      refine RegD.skip (i := 27) rfl rfl rfl rfl rfl rfl rfl (by kernel_rfl) ?_
      refine RegD.skip (i := 28) rfl rfl rfl rfl rfl rfl rfl (by kernel_rfl) ?_
      refine RegD.skip (i := 29) rfl rfl rfl rfl rfl rfl rfl (by kernel_rfl) ?_
      refine RegD.skip (i := 30) rfl rfl rfl rfl rfl rfl rfl (by kernel_rfl) ?_
      refine RegD.skip (i := 31) rfl rfl rfl rfl rfl rfl rfl (by kernel_rfl) ?_
      refine RegD.skip (i := 32) rfl rfl rfl rfl rfl rfl rfl (by kernel_rfl) ?_
      refine RegD.skip (i := 33) rfl rfl rfl rfl rfl rfl rfl (by kernel_rfl) ?_
      refine RegD.skip (i := 34) rfl rfl rfl rfl rfl rfl rfl (by kernel_rfl) ?_
      refine RegD.skip (i := 35) rfl rfl rfl rfl rfl rfl rfl (by kernel_rfl) ?_
      refine RegD.tpur (i := 36) rfl rfl rfl rfl (by kernel_rfl) (Pur.pickT rfl rfl) ?_
      refine RegD.tpur (i := 37) rfl rfl rfl rfl (by kernel_rfl) (Pur.mv rfl) ?_
      refine RegD.skip (i := 38) rfl rfl rfl rfl rfl rfl rfl (by kernel_rfl) ?_
      refine RegD.skip (i := 39) rfl rfl rfl rfl rfl rfl rfl (by kernel_rfl) ?_
      refine RegD.skip (i := 40) rfl rfl rfl rfl rfl rfl rfl (by kernel_rfl) ?_
      refine RegD.skip (i := 41) rfl rfl rfl rfl rfl rfl rfl (by kernel_rfl) ?_
      refine RegD.skip (i := 42) rfl rfl rfl rfl rfl rfl rfl (by kernel_rfl) ?_
      refine RegD.skip (i := 43) rfl rfl rfl rfl rfl rfl rfl (by kernel_rfl) ?_
      refine RegD.skip (i := 44) rfl rfl rfl rfl rfl rfl rfl (by kernel_rfl) ?_
      refine RegD.skip (i := 45) rfl rfl rfl rfl rfl rfl rfl (by kernel_rfl) ?_
      refine RegD.skip (i := 46) rfl rfl rfl rfl rfl rfl rfl (by kernel_rfl) ?_
      refine RegD.skip (i := 47) rfl rfl rfl rfl rfl rfl rfl (by kernel_rfl) ?_
      refine RegD.skip (i := 48) rfl rfl rfl rfl rfl rfl rfl (by kernel_rfl) ?_
      refine RegD.skip (i := 49) rfl rfl rfl rfl rfl rfl rfl (by kernel_rfl) ?_
      refine RegD.tpur (i := 50) rfl rfl rfl rfl (by kernel_rfl) (Pur.pickT rfl rfl) ?_
      refine RegD.done (by kernel_rfl) ?_
      refine At.condT rfl rfl rfl ?_
      refine At.region rfl rfl ?_
      refine Reg.pur rfl rfl rfl rfl (Pur.asg rfl) ?_
      refine Reg.nil ?_
      refine At.ret rfl Try.func27 rfl ?_
      refine ⟨congrArg Value.bool (decide_eq_false (hne ?_)).symm, hE⟩
      intro e
      simp only [pl, Prod.mk.injEq] at e
      obtain ⟨e1, e2, e3, e4⟩ := e
      first | exact q28 e1 | (rw [e2] at q41; simp at q41; done) | (rw [hq, e4] at q54; simp at q54; done) | exact q67 e3
    first | (simp only [decide_eq_true_eq, decide_eq_false_iff_not, Bool.not_eq_true', Bool.not_eq_false', ne_eq, Decidable.not_not, Bool.not_eq_true, Bool.not_eq_false] at q28) | (dsimp only at q28) | skip
    refine RegD.gtpur (i := 12) rfl rfl rfl rfl rfl rfl (by kernel_rfl) (Pur.mv rfl) ?_
    refine RegD.gtpur (i := 13) rfl rfl rfl rfl rfl rfl (by kernel_rfl) (Pur.mv rfl) ?_
    refine RegD.gtpur (i := 14) rfl rfl rfl rfl rfl rfl (by kernel_rfl) (Pur.idx _ es22 rfl rfl (by omega) (by omega)) ?_
    refine RegD.gtpur (i := 15) rfl rfl rfl rfl rfl rfl (by kernel_rfl) (Pur.fld _ fo49_1 rfl) ?_
    refine RegD.gtake (i := 16) rfl rfl rfl rfl rfl rfl (by kernel_rfl) (Bks.cons hB0.blk (Bks.cons hB0'.blk Bks.nil)) (fun H hS => Lod.ld sc4 rfl hS.hd (at_tk (j := 1) hd (by decide) rfl)) ?_
    refine RegD.gtpur (i := 17) rfl rfl rfl rfl rfl rfl (by kernel_rfl) (Pur.mv rfl) ?_
    refine RegD.gtpur (i := 18) rfl rfl rfl rfl rfl rfl (by kernel_rfl) (Pur.mv rfl) ?_
    refine RegD.gtpur (i := 19) rfl rfl rfl rfl rfl rfl (by kernel_rfl) (Pur.idx _ es22 rfl rfl (by omega) (by omega)) ?_
    refine RegD.gtpur (i := 20) rfl rfl rfl rfl rfl rfl (by kernel_rfl) (Pur.fld _ fo49_1 rfl) ?_
    refine RegD.gtake (i := 21) rfl rfl rfl rfl rfl rfl (by kernel_rfl) (Bks.cons hB0.blk (Bks.cons hB0'.blk Bks.nil)) (fun H hS => Lod.ld sc4 rfl hS.tl.hd (at_tk (j := 1) hd' (by decide) rfl)) ?_
    refine RegD.gtpur (i := 22) rfl rfl rfl rfl rfl rfl (by kernel_rfl) (Pur.neB Try.underlying4 rfl rfl) ?_
    refine RegD.tpur (i := 23) rfl rfl rfl rfl (by kernel_rfl) (Pur.pickF rfl rfl) ?_
    refine RegD.tpur (i := 24) rfl rfl rfl rfl (by kernel_rfl) (Pur.mv rfl) ?_
    refine RegD.case 41 rfl (fun q41 => ?_) (fun q41 => ?_)
    · first | (simp only [decide_eq_true_eq, decide_eq_false_iff_not, Bool.not_eq_true', Bool.not_eq_false', ne_eq, Decidable.not_not, Bool.not_eq_true, Bool.not_eq_false] at q41) | (dsimp only at q41) | skip
      refine RegD.skip (i := 25) rfl rfl rfl rfl rfl rfl rfl (by kernel_rfl) ?_
      refine RegD.skip (i := 26) rfl rfl rfl rfl rfl rfl rfl (by kernel_rfl) ?_
      refine RegD.skip (i := 27) rfl rfl rfl rfl rfl rfl rfl (by kernel_rfl) ?_
      refine RegD.skip (i := 28) rfl rfl rfl rfl rfl rfl rfl (by kernel_rfl) ?_
      refine RegD.skip (i := 29) rfl rfl rfl rfl rfl rfl rfl (by kernel_rfl) ?_
      refine RegD.skip (i := 30) rfl rfl rfl rfl rfl rfl rfl (by kernel_rfl) ?_
      refine RegD.skip (i := 31) rfl rfl rfl rfl rfl rfl rfl (by kernel_rfl) ?_
      refine RegD.skip (i := 32) rfl rfl rfl rfl rfl rfl rfl (by kernel_rfl) ?_
      refine RegD.skip (i := 33) rfl rfl rfl rfl rfl rfl rfl (by kernel_rfl) ?_
      refine RegD.skip (i := 34) rfl rfl rfl rfl rfl rfl rfl (by kernel_rfl) ?_
      refine RegD.skip (i := 35) rfl rfl rfl rfl rfl rfl rfl (by kernel_rfl) ?_
      refine RegD.tpur (i := 36) rfl rfl rfl rfl (by kernel_rfl) (Pur.pickT rfl rfl) ?_
      refine RegD.tpur (i := 37) rfl rfl rfl rfl (by kernel_rfl) (Pur.mv rfl) ?_
      refine RegD.skip (i := 38) rfl rfl rfl rfl rfl rfl rfl (by kernel_rfl) ?_
      refine RegD.skip (i := 39) rfl rfl rfl rfl rfl rfl rfl (by kernel_rfl) ?_
      refine RegD.skip (i := 40) rfl rfl rfl rfl rfl rfl rfl (by kernel_rfl) ?_
      refine RegD.skip (i := 41) rfl rfl rfl rfl rfl rfl rfl (by kernel_rfl) ?_
      refine RegD.skip (i := 42) rfl rfl rfl rfl rfl rfl rfl (by kernel_rfl) ?_
      refine RegD.skip (i := 43) rfl rfl rfl rfl rfl rfl rfl (by kernel_rfl) ?_
      refine RegD.skip (i := 44) rfl rfl rfl rfl rfl rfl rfl (by kernel_rfl) ?_
      refine RegD.skip (i := 45) rfl rfl rfl rfl rfl rfl rfl (by kernel_rfl) ?_
      refine RegD.skip (i := 46) rfl rfl rfl rfl rfl rfl rfl (by kernel_rfl) ?_
      refine RegD.skip (i := 47) rfl rfl rfl rfl rfl rfl rfl (by kernel_rfl) ?_
      refine RegD.skip (i := 48) rfl rfl rfl rfl rfl rfl rfl (by kernel_rfl) ?_
      refine RegD.skip (i := 49) rfl rfl rfl rfl rfl rfl rfl (by kernel_rfl) ?_
      refine RegD.tpur (i := 50) rfl rfl rfl rfl (by kernel_rfl) (Pur.pickT rfl rfl) ?_
      refine RegD.done (by kernel_rfl) ?_
      refine At.condT rfl rfl rfl ?_
      refine At.region rfl rfl ?_
      refine Reg.pur rfl rfl rfl rfl (Pur.asg rfl) ?_
      refine Reg.nil ?_
      refine At.ret rfl Try.func27 rfl ?_
      refine ⟨congrArg Value.bool (decide_eq_false (hne ?_)).symm, hE⟩
      intro e
      simp only [pl, Prod.mk.injEq] at e
      obtain ⟨e1, e2, e3, e4⟩ := e
      first | exact q28 e1 | (rw [e2] at q41; simp at q41; done) | (rw [hq, e4] at q54; simp at q54; done) | exact q67 e3
    first | (simp only [decide_eq_true_eq, decide_eq_false_iff_not, Bool.not_eq_true', Bool.not_eq_false', ne_eq, Decidable.not_not, Bool.not_eq_true, Bool.not_eq_false] at q41) | (dsimp only at q41) | skip
    refine RegD.gtpur (i := 25) rfl rfl rfl rfl rfl rfl (by kernel_rfl) (Pur.mv rfl) ?_
    refine RegD.gtpur (i := 26) rfl rfl rfl rfl rfl rfl (by kernel_rfl) (Pur.mv rfl) ?_
    refine RegD.gtpur (i := 27) rfl rfl rfl rfl rfl rfl (by kernel_rfl) (Pur.idx _ es22 rfl rfl (by omega) (by omega)) ?_
    refine RegD.gtpur (i := 28) rfl rfl rfl rfl rfl rfl (by kernel_rfl) (Pur.fld _ fo49_3 rfl) ?_
    refine RegD.gtake (i := 29) rfl rfl rfl rfl rfl rfl (by kernel_rfl) (Bks.cons hB0.blk (Bks.cons hB0'.blk Bks.nil)) (fun H hS => Lod.ldn ag28 rfl hS.hd (show _ = Is bd.row by rw [← List.drop_drop]; exact (take_mid hd (by decide)).trans (List.take_of_length_le (by simp [hr]))) (by simp [hr])) ?_
    refine RegD.gtpur (i := 30) rfl rfl rfl rfl rfl rfl (by kernel_rfl) (Pur.mv rfl) ?_
    refine RegD.gtpur (i := 31) rfl rfl rfl rfl rfl rfl (by kernel_rfl) (Pur.mv rfl) ?_
    refine RegD.gtpur (i := 32) rfl rfl rfl rfl rfl rfl (by kernel_rfl) (Pur.idx _ es22 rfl rfl (by omega) (by omega)) ?_
    refine RegD.gtpur (i := 33) rfl rfl rfl rfl rfl rfl (by kernel_rfl) (Pur.fld _ fo49_3 rfl) ?_
    refine RegD.gtake (i := 34) rfl rfl rfl rfl rfl rfl (by kernel_rfl) (Bks.cons hB0.blk (Bks.cons hB0'.blk Bks.nil)) (fun H hS => Lod.ldn ag28 rfl hS.tl.hd (show _ = Is bd'.row by rw [← List.drop_drop]; exact (take_mid hd' (by decide)).trans (List.take_of_length_le (by simp [hr']))) (by simp [hr'])) ?_
    refine RegD.gtpur (i := 35) rfl rfl rfl rfl rfl rfl (by kernel_rfl) (Pur.neA eqt28 rfl rfl hf hf') ?_
    refine RegD.tpur (i := 36) rfl rfl rfl rfl (by kernel_rfl) (Pur.pickF rfl rfl) ?_
    refine RegD.tpur (i := 37) rfl rfl rfl rfl (by kernel_rfl) (Pur.mv rfl) ?_
    refine RegD.case 54 rfl (fun q54 => ?_) (fun q54 => ?_)
    · first | (simp only [decide_eq_true_eq, decide_eq_false_iff_not, Bool.not_eq_true', Bool.not_eq_false', ne_eq, Decidable.not_not, Bool.not_eq_true, Bool.not_eq_false] at q54) | (dsimp only at q54) | skip
      refine RegD.skip (i := 38) rfl rfl rfl rfl rfl rfl rfl (by kernel_rfl) ?_
      refine RegD.skip (i := 39) rfl rfl rfl rfl rfl rfl rfl (by kernel_rfl) ?_
      refine RegD.skip (i := 40) rfl rfl rfl rfl rfl rfl rfl (by kernel_rfl) ?_
      refine RegD.skip (i := 41) rfl rfl rfl rfl rfl rfl rfl (by kernel_rfl) ?_
      refine RegD.skip (i := 42) rfl rfl rfl rfl rfl rfl rfl (by kernel_rfl) ?_
      refine RegD.skip (i := 43) rfl rfl rfl rfl rfl rfl rfl (by kernel_rfl) ?_
      refine RegD.skip (i := 44) rfl rfl rfl rfl rfl rfl rfl (by kernel_rfl) ?_
      refine RegD.skip (i := 45) rfl rfl rfl rfl rfl rfl rfl (by kernel_rfl) ?_
      refine RegD.skip (i := 46) rfl rfl rfl rfl rfl rfl rfl (by kernel_rfl) ?_
      refine RegD.skip (i := 47) rfl rfl rfl rfl rfl rfl rfl (by kernel_rfl) ?_
      refine RegD.skip (i := 48) rfl rfl rfl rfl rfl rfl rfl (by kernel_rfl) ?_
      refine RegD.skip (i := 49) rfl rfl rfl rfl rfl rfl rfl (by kernel_rfl) ?_
      refine RegD.tpur (i := 50) rfl rfl rfl rfl (by kernel_rfl) (Pur.pickT rfl rfl) ?_
      refine RegD.done (by kernel_rfl) ?_
      refine At.condT rfl rfl rfl ?_
      refine At.region rfl rfl ?_
      refine Reg.pur rfl rfl rfl rfl (Pur.asg rfl) ?_
      refine Reg.nil ?_
      refine At.ret rfl Try.func27 rfl ?_
      refine ⟨congrArg Value.bool (decide_eq_false (hne ?_)).symm, hE⟩
      intro e
      simp only [pl, Prod.mk.injEq] at e
      obtain ⟨e1, e2, e3, e4⟩ := e
      first | exact q28 e1 | (rw [e2] at q41; simp at q41; done) | (rw [hq, e4] at q54; simp at q54; done) | exact q67 e3
    first | (simp only [decide_eq_true_eq, decide_eq_false_iff_not, Bool.not_eq_true', Bool.not_eq_false', ne_eq, Decidable.not_not, Bool.not_eq_true, Bool.not_eq_false] at q54) | (dsimp only at q54) | skip
    refine RegD.gtpur (i := 38) rfl rfl rfl rfl rfl rfl (by kernel_rfl) (Pur.mv rfl) ?_
    refine RegD.gtpur (i := 39) rfl rfl rfl rfl rfl rfl (by kernel_rfl) (Pur.mv rfl) ?_
    refine RegD.gtpur (i := 40) rfl rfl rfl rfl rfl rfl (by kernel_rfl) (Pur.idx _ es22 rfl rfl (by omega) (by omega)) ?_
    refine RegD.gtpur (i := 41) rfl rfl rfl rfl rfl rfl (by kernel_rfl) (Pur.fld _ fo49_2 rfl) ?_
    refine RegD.gtake (i := 42) rfl rfl rfl rfl rfl rfl (by kernel_rfl) (Bks.cons hB0.blk (Bks.cons hB0'.blk Bks.nil)) (fun H hS => Lod.ldn ag25 rfl hS.hd (show _ = [bd.sl] by rw [← List.drop_drop]; exact (take_mid hd (by decide)).trans rfl) rfl) ?_
    refine RegD.gtpur (i := 43) rfl rfl rfl rfl rfl rfl (by kernel_rfl) (Pur.mv rfl) ?_
    refine RegD.gtpur (i := 44) rfl rfl rfl rfl rfl rfl (by kernel_rfl) (Pur.mv rfl) ?_
    refine RegD.gtpur (i := 45) rfl rfl rfl rfl rfl rfl (by kernel_rfl) (Pur.idx _ es22 rfl rfl (by omega) (by omega)) ?_
    refine RegD.gtpur (i := 46) rfl rfl rfl rfl rfl rfl (by kernel_rfl) (Pur.fld _ fo49_2 rfl) ?_
    refine RegD.gtake (i := 47) rfl rfl rfl rfl rfl rfl (by kernel_rfl) (Bks.cons hB0.blk (Bks.cons hB0'.blk Bks.nil)) (fun H hS => Lod.ldn ag25 rfl hS.tl.hd (show _ = [bd'.sl] by rw [← List.drop_drop]; exact (take_mid hd' (by decide)).trans rfl) rfl) ?_
    refine RegD.gone (i := 48) (by kernel_rfl) rfl rfl rfl rfl rfl rfl (Does.call rfl (sameType_ok hok.nine hok'.nine (hok.sl.ext hE) (hok'.sl.ext hE) hok.max)) ?_
    rintro _ H6_48 ⟨rfl, hE6_48⟩
    have z6_48 := hE6_48.lt
    replace hE := hE.ext hE6_48
    replace hB0 := hB0.ext hE6_48
    replace hB0' := hB0'.ext hE6_48
    refine ⟨fun _ _ => (Bks.cons hB0.blk (Bks.cons hB0'.blk Bks.nil)), ?_⟩
    refine RegD.gtpur (i := 49) rfl rfl rfl rfl rfl rfl (by kernel_rfl) (Pur.not rfl) ?_
    refine RegD.tpur (i := 50) rfl rfl rfl rfl (by kernel_rfl) (Pur.pickF rfl rfl) ?_
    refine RegD.done (by kernel_rfl) ?_
    refine At.cond rfl rfl (fun q67 => ?_) (fun q67 => ?_)
    · first | (simp only [decide_eq_true_eq, decide_eq_false_iff_not, Bool.not_eq_true', Bool.not_eq_false', ne_eq, Decidable.not_not, Bool.not_eq_true, Bool.not_eq_false] at q67) | (dsimp only at q67) | skip
      refine At.region rfl rfl ?_
      refine Reg.pur rfl rfl rfl rfl (Pur.asg rfl) ?_
      refine Reg.nil ?_
      refine At.ret rfl Try.func27 rfl ?_
      refine ⟨congrArg Value.bool (decide_eq_false (hne ?_)).symm, hE⟩
      intro e
      simp only [pl, Prod.mk.injEq] at e
      obtain ⟨e1, e2, e3, e4⟩ := e
      first | exact q28 e1 | (rw [e2] at q41; simp at q41; done) | (rw [hq, e4] at q54; simp at q54; done) | exact q67 e3
    first | (simp only [decide_eq_true_eq, decide_eq_false_iff_not, Bool.not_eq_true', Bool.not_eq_false', ne_eq, Decidable.not_not, Bool.not_eq_true, Bool.not_eq_false] at q67) | (dsimp only at q67) | skip
    refine At.region rfl rfl ?_
    refine Reg.pur rfl rfl rfl rfl (Pur.mv rfl) ?_
    first | refine Reg.pur rfl rfl rfl rfl (Pur.add64 rfl rfl (by omega)) ?_ | refine Reg.pur rfl rfl rfl rfl (Pur.add64 rfl rfl (by assumption)) ?_ | refine Reg.pur rfl rfl rfl rfl (Pur.add rfl rfl) ?_
    refine Reg.pur rfl rfl rfl rfl (Pur.asg rfl) ?_
    refine Reg.nil ?_
    rw [hq] at q54
    refine At.via (ih (i + 1) _ ⟨by omega, hgo ?_, hE⟩ (by omega)) ⟨rfl, rfl, rfl, trivial⟩
    simp only [pl, Prod.mk.injEq]
    exact ⟨q28, by simpa using q41, q67, by simpa using q54⟩
  first | (simp only [decide_eq_true_eq, decide_eq_false_iff_not, Bool.not_eq_true', Bool.not_eq_false', ne_eq, Decidable.not_not, Bool.not_eq_true, Bool.not_eq_false] at q14) | (dsimp only at q14) | skip
  refine At.region rfl rfl ?_
  refine Reg.pur rfl rfl rfl rfl (Pur.asg rfl) ?_
  refine Reg.nil ?_
  refine At.ret rfl Try.func27 rfl ?_
  rw [List.take_of_length_le (by omega), List.take_of_length_le (by omega)] at hmap
  exact ⟨congrArg Value.bool (decide_eq_true hmap).symm, hE⟩
end Go.Proofs.Ytlfillhffpiffaa

namespace Go.Proofs.Ytlfillhffpiffaa
set_option linter.unusedSimpArgs false
set_option linter.unusedVariables false
set_option maxRecDepth 8000
open Go Go.Fx Go.Proofs
namespace FactsSchI
theorem apt54 : appT Try.prog 54 = some (3, 1, 8) := by kernel_rfl
theorem es54 : esz Try.prog 54 = some 1 := by kernel_rfl
theorem mixed : Try.prog.follows .mixedOrders = true := by kernel_rfl
theorem sc3 : sc Try.prog 3 = true := by kernel_rfl
theorem sl1_54 : sl1 Try.prog 54 = true := by kernel_rfl
end FactsSchI
open FactsSchI

end Go.Proofs.Ytlfillhffpiffaa

namespace Go.Proofs.Ytlfillhffpiffaa
set_option linter.unusedSimpArgs false
set_option linter.unusedVariables false
set_option maxRecDepth 8000
open Go Go.Fx Go.Proofs
namespace FactsSchJ
theorem ag25 : ag Try.prog 25 = some 1 := by kernel_rfl
end FactsSchJ
open FactsSchJ

theorem spoilG_ok {A : Option Addr} {cap B : Nat} {L : List (List Int)} (hL : Nine L) {H : Heap} (hm : L.length ≤ 9223372036854775807) (hg : Gw H B 9 A cap L.length (L.flatMap Is)) :
    Ret Try.prog 26 [Ty A L.length cap] H (fun v H' => But (fun g => L.length ≠ 0 ∧ (g : Int) = ob A) H H') := by
  by_cases h0 : L.length = 0
  · refine (spoilT_ok (g := H.size) (c0 := []) hL hm (.inl h0)).mono ?_
    rintro v H' (⟨_, h⟩ | h)
    · exact h.but
    · exact h.mono (fun b hb e => by omega)
  · obtain ⟨_, _, _, _, h4⟩ := hg
    obtain ⟨g, c, rfl, _, h2, h3⟩ := h4.resolve_left h0
    refine (spoilT_ok (g := g) hL hm (.inr ⟨rfl, h2, h3⟩)).mono ?_
    rintro v H' (⟨_, h⟩ | h)
    · exact h.but
    · exact h.mono (fun b hb e => ⟨h0, by subst e; rfl⟩)
end Go.Proofs.Ytlfillhffpiffaa

namespace Go.Proofs.Ytlfillhffpiffaa
set_option linter.unusedSimpArgs false
set_option linter.unusedVariables false
set_option maxRecDepth 8000
open Go Go.Fx Go.Proofs
namespace FactsSchL

end FactsSchL
open FactsSchL

theorem filter_len {a : Int} : ∀ {l : List Int}, l.Pairwise (· ≠ ·) → l.length ≤ (l.filter (fun x => decide (x ≠ a))).length + 1
  | [], _ => by simp
  | x :: l, h => by
    rw [List.pairwise_cons] at h
    by_cases hx : x = a
    · subst hx
      have hf : l.filter (fun y => decide (y ≠ x)) = l := by
        rw [List.filter_eq_self]
        intro y hy
        simpa using fun e : y = x => h.1 y hy e.symm
      rw [List.filter_cons_of_neg (by simp), hf]; simp
    · rw [List.filter_cons_of_pos (by simpa using hx)]
      have := filter_len (a := a) h.2
      simp only [List.length_cons]; omega
theorem pigeon : ∀ (N : Nat) (l : List Int), l.Pairwise (· ≠ ·) → (∀ x ∈ l, 0 ≤ x ∧ x < (N : Int)) → l.length ≤ N
  | 0, l, _, h => by
    cases l with
    | nil => simp
    | cons x l => have := h x List.mem_cons_self; omega
  | N + 1, l, hp, h => by
    have h1 := filter_len (a := (N : Int)) hp
    have h2 := pigeon N (l.filter (fun x => decide (x ≠ (N : Int)))) (hp.filter _) (fun x hx => by
      rw [List.mem_filter] at hx
      have := h x hx.1
      have h3 : x ≠ (N : Int) := by simpa using hx.2
      omega)
    omega
abbrev Five (L : List (List Int)) : Prop := ∀ x ∈ L, x.length = 5
def bR (v : Int) (r : List Int) : Bd := ⟨v, true, none, 0, [], r⟩
end Go.Proofs.Ytlfillhffpiffaa

namespace Go.Proofs.Ytlfillhffpiffaa
set_option linter.unusedSimpArgs false
set_option linter.unusedVariables false
set_option maxRecDepth 8000
open Go Go.Fx Go.Proofs
namespace FactsSubO

end FactsSubO
open FactsSubO

theorem numE_ok (n : Int) (H : Heap) : Ret Try.prog 25 [I n] H (fun v H' => v = I n ∧ H' = H) := by
  refine Ret.of_at (N := 4) Try.call25 Try.func25 rfl rfl rfl ?_
  refine At.region rfl rfl ?_
  refine Reg.pur rfl rfl rfl rfl (Pur.asg rfl) ?_
  refine Reg.nil ?_
  refine At.region rfl rfl ?_
  refine Reg.pur rfl rfl rfl rfl (Pur.mv rfl) ?_
  refine Reg.pur rfl rfl rfl rfl (Pur.asg rfl) ?_
  refine Reg.nil ?_
  refine At.ret rfl Try.func25 rfl ?_
  exact ⟨rfl, rfl⟩
end Go.Proofs.Ytlfillhffpiffaa

namespace Go.Proofs.Ytlfillhffpiffaa
set_option linter.unusedSimpArgs false
set_option linter.unusedVariables false
set_option maxRecDepth 8000
open Go Go.Fx Go.Proofs
namespace FactsSubP
theorem ag25 : ag Try.prog 25 = some 1 := by kernel_rfl
theorem ag28 : ag Try.prog 28 = some 5 := by kernel_rfl
theorem arr26 : arr Try.prog 26 = some (4, 1) := by kernel_rfl
theorem eqt28 : eqT Try.prog 28 = some [.int .i64, .int .i64, .int .i64, .int .i64, .int .i64] := by kernel_rfl
theorem es23 : esz Try.prog 23 = some 9 := by kernel_rfl
theorem fo25_0 : foff Try.prog 25 0 = some 0 := by kernel_rfl
theorem fo28_0 : foff Try.prog 28 0 = some 0 := by kernel_rfl
theorem fo28_1 : foff Try.prog 28 1 = some 4 := by kernel_rfl
theorem fo47_2 : foff Try.prog 47 2 = some 2 := by kernel_rfl
theorem fo47_4 : foff Try.prog 47 4 = some 4 := by kernel_rfl
theorem isl23 : isSl Try.prog 23 = true := by kernel_rfl
theorem mixed : Try.prog.follows .mixedOrders = true := by kernel_rfl
theorem pl25 : places Try.prog 25 = some [(0, 1)] := by kernel_rfl
theorem pl28 : places Try.prog 28 = some [(0, 4), (4, 1)] := by kernel_rfl
theorem pl47 : places Try.prog 47 = some [(0, 1), (1, 1), (2, 1), (3, 1), (4, 5)] := by kernel_rfl
theorem pl49 : places Try.prog 49 = some [(0, 1), (1, 1), (2, 1), (3, 5)] := by kernel_rfl
theorem sc23 : sc Try.prog 23 = true := by kernel_rfl
theorem sc3 : sc Try.prog 3 = true := by kernel_rfl
theorem slA22 : slA Try.prog 22 = some (49, 8) := by kernel_rfl
theorem slA23 : slA Try.prog 23 = some (47, 9) := by kernel_rfl
theorem zc25 : zc Try.prog 25 = some [.slice none 0 0] := by kernel_rfl
theorem zc28 : zc Try.prog 28 = some [.int .i64 0, .int .i64 0, .int .i64 0, .int .i64 0, .int .i64 0] := by kernel_rfl
theorem zc47 : zc Try.prog 47 = some [.int .i64 0, .int .i64 0, .int .i64 0, .int .i64 0, .int .i64 0, .int .i64 0, .int .i64 0, .int .i64 0, .int .i64 0] := by kernel_rfl
theorem zc49 : zc Try.prog 49 = some [.int .i64 0, .bool false, .slice none 0 0, .int .i64 0, .int .i64 0, .int .i64 0, .int .i64 0, .int .i64 0] := by kernel_rfl
end FactsSubP
open FactsSubP

theorem nine_lit {L : List (List Int)} (h : (L.all fun x => x.length == 9) = true) : Nine L := by
  intro x hx
  have := List.all_eq_true.1 h x hx
  simpa using this
end Go.Proofs.Ytlfillhffpiffaa

namespace Go.Proofs.Ytlfillhffpiffaa
set_option linter.unusedSimpArgs false
set_option linter.unusedVariables false
set_option maxRecDepth 8000
set_option maxHeartbeats 1000000
open Go Go.Fx Go.Proofs
namespace FactsSchM
theorem ag25 : ag Try.prog 25 = some 1 := by kernel_rfl
theorem ag28 : ag Try.prog 28 = some 5 := by kernel_rfl
theorem apt22 : appT Try.prog 22 = some (49, 8, 80) := by kernel_rfl
theorem es54 : esz Try.prog 54 = some 1 := by kernel_rfl
theorem mixed : Try.prog.follows .mixedOrders = true := by kernel_rfl
theorem pl49 : places Try.prog 49 = some [(0, 1), (1, 1), (2, 1), (3, 5)] := by kernel_rfl
theorem sc3 : sc Try.prog 3 = true := by kernel_rfl
theorem slA22 : slA Try.prog 22 = some (49, 8) := by kernel_rfl
theorem zc25 : zc Try.prog 25 = some [.slice none 0 0] := by kernel_rfl
theorem zc28 : zc Try.prog 28 = some [.int .i64 0, .int .i64 0, .int .i64 0, .int .i64 0, .int .i64 0] := by kernel_rfl
theorem zc49 : zc Try.prog 49 = some [.int .i64 0, .bool false, .slice none 0 0, .int .i64 0, .int .i64 0, .int .i64 0, .int .i64 0, .int .i64 0] := by kernel_rfl
end FactsSchM
open FactsSchM

theorem bds_nil' (H : Heap) : Bds H (.slice none ([] : List Bd).length 0) [] := ⟨sl_nil H, (fun b hb => by cases hb), by simp⟩
theorem ones_fl (b : Bd) : ones ([b].flatMap encB) = true := by simpa using ones_encB b
end Go.Proofs.Ytlfillhffpiffaa

namespace Go.Proofs.Ytlfillhffpiffaa
set_option linter.unusedSimpArgs false
set_option linter.unusedVariables false
set_option maxRecDepth 8000
set_option maxHeartbeats 1000000
open Go Go.Fx Go.Proofs
namespace FactsSchN
theorem ag25 : ag Try.prog 25 = some 1 := by kernel_rfl
theorem ag28 : ag Try.prog 28 = some 5 := by kernel_rfl
theorem apt22 : appT Try.prog 22 = some (49, 8, 80) := by kernel_rfl
theorem es54 : esz Try.prog 54 = some 1 := by kernel_rfl
theorem mixed : Try.prog.follows .mixedOrders = true := by kernel_rfl
theorem pl25 : places Try.prog 25 = some [(0, 1)] := by kernel_rfl
theorem pl49 : places Try.prog 49 = some [(0, 1), (1, 1), (2, 1), (3, 5)] := by kernel_rfl
theorem sc3 : sc Try.prog 3 = true := by kernel_rfl
theorem slA22 : slA Try.prog 22 = some (49, 8) := by kernel_rfl
theorem zc25 : zc Try.prog 25 = some [.slice none 0 0] := by kernel_rfl
theorem zc49 : zc Try.prog 49 = some [.int .i64 0, .bool false, .slice none 0 0, .int .i64 0, .int .i64 0, .int .i64 0, .int .i64 0, .int .i64 0] := by kernel_rfl
end FactsSchN
open FactsSchN

end Go.Proofs.Ytlfillhffpiffaa

namespace Go.Proofs.Ytlfillhffpiffaa
set_option linter.unusedSimpArgs false
set_option linter.unusedVariables false
set_option maxRecDepth 8000
set_option maxHeartbeats 1000000
open Go Go.Fx Go.Proofs
namespace FactsSchO
theorem ag25 : ag Try.prog 25 = some 1 := by kernel_rfl
theorem es23 : esz Try.prog 23 = some 9 := by kernel_rfl
theorem fo25_0 : foff Try.prog 25 0 = some 0 := by kernel_rfl
theorem fo28_1 : foff Try.prog 28 1 = some 4 := by kernel_rfl
theorem fo47_0 : foff Try.prog 47 0 = some 0 := by kernel_rfl
theorem fo47_1 : foff Try.prog 47 1 = some 1 := by kernel_rfl
theorem fo47_4 : foff Try.prog 47 4 = some 4 := by kernel_rfl
theorem isl23 : isSl Try.prog 23 = true := by kernel_rfl
theorem pl25 : places Try.prog 25 = some [(0, 1)] := by kernel_rfl
theorem pl28 : places Try.prog 28 = some [(0, 4), (4, 1)] := by kernel_rfl
theorem pl47 : places Try.prog 47 = some [(0, 1), (1, 1), (2, 1), (3, 1), (4, 5)] := by kernel_rfl
theorem sc23 : sc Try.prog 23 = true := by kernel_rfl
theorem sc3 : sc Try.prog 3 = true := by kernel_rfl
theorem sl1_54 : sl1 Try.prog 54 = true := by kernel_rfl
theorem slA23 : slA Try.prog 23 = some (47, 9) := by kernel_rfl
theorem zc25 : zc Try.prog 25 = some [.slice none 0 0] := by kernel_rfl
theorem zc28 : zc Try.prog 28 = some [.int .i64 0, .int .i64 0, .int .i64 0, .int .i64 0, .int .i64 0] := by kernel_rfl
theorem zc47 : zc Try.prog 47 = some [.int .i64 0, .int .i64 0, .int .i64 0, .int .i64 0, .int .i64 0, .int .i64 0, .int .i64 0, .int .i64 0, .int .i64 0] := by kernel_rfl
end FactsSchO
open FactsSchO

theorem k5 : Five [[0, 0, 0, 0, -1]] := by intro x hx; simp at hx; subst hx; rfl
end Go.Proofs.Ytlfillhffpiffaa

namespace Go.Proofs.Ytlfillhffpiffaa
set_option linter.unusedSimpArgs false
set_option linter.unusedVariables false
set_option maxRecDepth 8000
set_option maxHeartbeats 2000000
open Go Go.Fx Go.Proofs
namespace FactsSchP
theorem ag25 : ag Try.prog 25 = some 1 := by kernel_rfl
theorem mixed : Try.prog.follows .mixedOrders = true := by kernel_rfl
theorem zc25 : zc Try.prog 25 = some [.slice none 0 0] := by kernel_rfl
end FactsSchP
open FactsSchP

end Go.Proofs.Ytlfillhffpiffaa

namespace Go.Proofs.Ytlfillhffpiffaa
set_option linter.unusedSimpArgs false
set_option linter.unusedVariables false
set_option maxRecDepth 8000
set_option maxHeartbeats 1000000
open Go Go.Fx Go.Proofs
namespace FactsSchQ
theorem ag25 : ag Try.prog 25 = some 1 := by kernel_rfl
theorem apt54 : appT Try.prog 54 = some (3, 1, 8) := by kernel_rfl
theorem es54 : esz Try.prog 54 = some 1 := by kernel_rfl
theorem fo25_0 : foff Try.prog 25 0 = some 0 := by kernel_rfl
theorem isl23 : isSl Try.prog 23 = true := by kernel_rfl
theorem mixed : Try.prog.follows .mixedOrders = true := by kernel_rfl
theorem sc23 : sc Try.prog 23 = true := by kernel_rfl
theorem sc3 : sc Try.prog 3 = true := by kernel_rfl
theorem sl1_54 : sl1 Try.prog 54 = true := by kernel_rfl
end FactsSchQ
open FactsSchQ

theorem any_take1 {α : Type} {L : List α} {p : α → Bool} {i : Nat} (hi : i < L.length) : (L.take (i + 1)).any p = ((L.take i).any p || p L[i]) := by
  rw [List.take_succ_eq_append_getElem hi, List.any_append]; simp

end Go.Proofs.Ytlfillhffpiffaa

namespace Go.Proofs.Ytlfillhffpiffaa
set_option linter.unusedSimpArgs false
set_option linter.unusedVariables false
set_option maxRecDepth 8000
set_option maxHeartbeats 2000000
open Go Go.Fx Go.Proofs
namespace FactsSchR
theorem ag25 : ag Try.prog 25 = some 1 := by kernel_rfl
theorem es54 : esz Try.prog 54 = some 1 := by kernel_rfl
theorem fo25_0 : foff Try.prog 25 0 = some 0 := by kernel_rfl
theorem isl23 : isSl Try.prog 23 = true := by kernel_rfl
theorem pl25 : places Try.prog 25 = some [(0, 1)] := by kernel_rfl
theorem pl28 : places Try.prog 28 = some [(0, 4), (4, 1)] := by kernel_rfl
theorem pl47 : places Try.prog 47 = some [(0, 1), (1, 1), (2, 1), (3, 1), (4, 5)] := by kernel_rfl
theorem sc23 : sc Try.prog 23 = true := by kernel_rfl
theorem sc3 : sc Try.prog 3 = true := by kernel_rfl
theorem sl1_54 : sl1 Try.prog 54 = true := by kernel_rfl
theorem slA23 : slA Try.prog 23 = some (47, 9) := by kernel_rfl
theorem zc25 : zc Try.prog 25 = some [.slice none 0 0] := by kernel_rfl
theorem zc28 : zc Try.prog 28 = some [.int .i64 0, .int .i64 0, .int .i64 0, .int .i64 0, .int .i64 0] := by kernel_rfl
theorem zc47 : zc Try.prog 47 = some [.int .i64 0, .int .i64 0, .int .i64 0, .int .i64 0, .int .i64 0, .int .i64 0, .int .i64 0, .int .i64 0, .int .i64 0] := by kernel_rfl
end FactsSchR
open FactsSchR

theorem sl_own {α : Type} {enc : α → List Value} {n b : Nat} {L : List α} {H : Heap} (hL : Wide enc n L) (hn : 0 < n) (h : Own H b (L.flatMap enc)) (hl : L.length ≤ 1000) : SlT H enc n (.slice (some ⟨b, 0, none⟩) L.length L.length) L :=
  sl_of hL hn h.blk (by rw [List.drop_zero, List.take_of_length_le (by rw [flat_len hL]; exact Nat.le_refl _)]) (Nat.le_refl _) (by omega)
end Go.Proofs.Ytlfillhffpiffaa

namespace Go.Proofs.Ytlfillhffpiffaa
set_option linter.unusedSimpArgs false
set_option linter.unusedVariables false
set_option maxRecDepth 8000
open Go Go.Fx Go.Proofs
namespace FactsSubQ
theorem ag25 : ag Try.prog 25 = some 1 := by kernel_rfl
theorem ag28 : ag Try.prog 28 = some 5 := by kernel_rfl
theorem eqt28 : eqT Try.prog 28 = some [.int .i64, .int .i64, .int .i64, .int .i64, .int .i64] := by kernel_rfl
theorem mixed : Try.prog.follows .mixedOrders = true := by kernel_rfl
theorem zc25 : zc Try.prog 25 = some [.slice none 0 0] := by kernel_rfl
theorem zc28 : zc Try.prog 28 = some [.int .i64 0, .int .i64 0, .int .i64 0, .int .i64 0, .int .i64 0] := by kernel_rfl
end FactsSubQ
open FactsSubQ

theorem type_of_fits {H : Heap} {v : Value} (h : fitc H (.sl 72 (List.replicate 9 (.int .i64))) v) : ∃ (A : Option Addr) (cap : Nat) (L : List (List Int)), v = .slice A L.length cap ∧ Nine L ∧ SlT H Is 9 (.slice A L.length cap) L ∧ L.length * 72 ≤ 140737488351232 := by
  obtain ⟨L, hL, hS, hb⟩ := SlT.of_fits (p := fun x : List Int => x.length = 9) (enc := Is) h (fun cs h => by obtain ⟨xs, rfl, hl, _⟩ := fit_ints h; exact ⟨xs, hl, rfl⟩)
  have hS' := hS
  obtain ⟨A, cap, rfl, _⟩ := hS'
  exact ⟨A, cap, L, rfl, hL, hS, by rw [show reachBytes = 140737488351232 from rfl] at hb; omega⟩
end Go.Proofs.Ytlfillhffpiffaa

namespace Go.Proofs.Ytlfillhffpiffaa
set_option linter.unusedSimpArgs false
set_option linter.unusedVariables false
set_option maxRecDepth 8000
set_option maxHeartbeats 1000000
open Go Go.Fx Go.Proofs
namespace FactsSchS
theorem ag25 : ag Try.prog 25 = some 1 := by kernel_rfl
theorem ag28 : ag Try.prog 28 = some 5 := by kernel_rfl
theorem ag47 : ag Try.prog 47 = some 9 := by kernel_rfl
theorem apt23 : appT Try.prog 23 = some (47, 9, 72) := by kernel_rfl
theorem es23 : esz Try.prog 23 = some 9 := by kernel_rfl
theorem fo25_0 : foff Try.prog 25 0 = some 0 := by kernel_rfl
theorem fo47_0 : foff Try.prog 47 0 = some 0 := by kernel_rfl
theorem fo47_2 : foff Try.prog 47 2 = some 2 := by kernel_rfl
theorem fo47_3 : foff Try.prog 47 3 = some 3 := by kernel_rfl
theorem isl23 : isSl Try.prog 23 = true := by kernel_rfl
theorem pl25 : places Try.prog 25 = some [(0, 1)] := by kernel_rfl
theorem pl47 : places Try.prog 47 = some [(0, 1), (1, 1), (2, 1), (3, 1), (4, 5)] := by kernel_rfl
theorem sc23 : sc Try.prog 23 = true := by kernel_rfl
theorem sc3 : sc Try.prog 3 = true := by kernel_rfl
theorem slA23 : slA Try.prog 23 = some (47, 9) := by kernel_rfl
theorem zc25 : zc Try.prog 25 = some [.slice none 0 0] := by kernel_rfl
theorem zc47 : zc Try.prog 47 = some [.int .i64 0, .int .i64 0, .int .i64 0, .int .i64 0, .int .i64 0, .int .i64 0, .int .i64 0, .int .i64 0, .int .i64 0] := by kernel_rfl
end FactsSchS
open FactsSchS

def arrN (a b : Int) (r : List Int) : List Int := [3, 0, a - 1, a + b - 1] ++ r
def arr2 (La : List (List Int)) (r : List Int) (Lb : List (List Int)) : List (List Int) := La ++ Lb.map (movS La.length) ++ [arrN La.length Lb.length r]
theorem arrow_ok {A B : Option Addr} {ca cb : Nat} {La Lb : List (List Int)} {r : List Int} (ha : Nine La) (hb : Nine Lb) (hr : r.length = 5) {H : Heap} (hS : SlT H Is 9 (.slice A La.length ca) La) (hT : SlT H Is 9 (.slice B Lb.length cb) Lb) (hla : La.length ≤ 100000) (hlb : Lb.length ≤ 100000) :
    Ret Try.prog 42 [Ty A La.length ca, .agg (Is r).toArray, Ty B Lb.length cb] H (fun v H' => (∃ A' cap', v = Ty A' (arr2 La r Lb).length cap' ∧ Gs H' H.size 47 9 A' cap' (arr2 La r Lb).length ((arr2 La r Lb).flatMap Is)) ∧ Ext H H') := by
  obtain ⟨ra, rb, rc, rd, re, rfl⟩ : ∃ a b c d e, r = [a, b, c, d, e] := by match r, hr with | [a, b, c, d, e], _ => exact ⟨_, _, _, _, _, rfl⟩
  refine Ret.of_at (N := 62) Try.call42 Try.func42 rfl rfl rfl ?_
  have hE := Ext.refl H
  refine At.region rfl rfl ?_
  refine Reg.op rfl rfl rfl rfl (Does.box rfl rfl) ?_
  rintro _ H0_0 ⟨rfl, hn0_0⟩
  have z0_0 := hn0_0.size
  replace hE := hE.ext hn0_0.ext
  have o0_0 := hn0_0.own
  refine Reg.op rfl rfl rfl rfl (Does.box rfl rfl) ?_
  rintro _ H0_1 ⟨rfl, hn0_1⟩
  have z0_1 := hn0_1.size
  replace hE := hE.ext hn0_1.ext
  replace o0_0 := o0_0.ext hn0_1.ext
  have o0_1 := hn0_1.own
  refine Reg.op rfl rfl rfl rfl (Does.box rfl rfl) ?_
  rintro _ H0_2 ⟨rfl, hn0_2⟩
  have z0_2 := hn0_2.size
  replace hE := hE.ext hn0_2.ext
  replace o0_0 := o0_0.ext hn0_2.ext
  replace o0_1 := o0_1.ext hn0_2.ext
  have o0_2 := hn0_2.own
  refine Reg.op rfl rfl rfl rfl (Does.alloc zc25) ?_
  rintro _ H0_3 ⟨rfl, hn0_3⟩
  have z0_3 := hn0_3.size
  replace hE := hE.ext hn0_3.ext
  replace o0_0 := o0_0.ext hn0_3.ext
  replace o0_1 := o0_1.ext hn0_3.ext
  replace o0_2 := o0_2.ext hn0_3.ext
  have o0_3 := hn0_3.own
  refine Reg.nil ?_
  refine At.region rfl rfl ?_
  refine Reg.pur rfl rfl rfl rfl (Pur.fld _ fo25_0 rfl) ?_
  refine Reg.lod rfl rfl rfl rfl (Lod.ld sc23 rfl o0_0.blk (by first | rfl | (simp; done))) ?_
  refine Reg.pur rfl rfl rfl rfl (Pur.lenS isl23 rfl) ?_
  refine Reg.pur rfl rfl rfl rfl (Pur.asg rfl) ?_
  refine Reg.nil ?_
  refine At.region rfl rfl ?_
  refine Reg.op rfl rfl rfl rfl (Does.bslA ([]) slA23 rfl rfl rfl rfl rfl rfl) ?_
  rintro _ H2_0 ⟨rfl, hp2_0⟩
  have hn2_0 := New.of_eq hp2_0
  have z2_0 := hn2_0.size
  replace hE := hE.ext hn2_0.ext
  replace o0_0 := o0_0.ext hn2_0.ext
  replace o0_1 := o0_1.ext hn2_0.ext
  replace o0_2 := o0_2.ext hn2_0.ext
  replace o0_3 := o0_3.ext hn2_0.ext
  have o2_0 := hn2_0.own
  have hg : Gs H2_0 H0_3.size 47 9 (some ⟨H0_3.size, 0, none⟩) 0 ([] : List (List Int)).length (([] : List (List Int)).flatMap Is) := by rw [hp2_0]; exact OwnS.new (xs := []) (n := 0) rfl (by decide) (Nat.le_refl _)
  refine Reg.pur rfl rfl rfl rfl (Pur.fld _ fo25_0 rfl) ?_
  refine Reg.lod rfl rfl rfl rfl (Lod.ld sc23 rfl o0_0.blk (by first | rfl | (simp; done))) ?_

  have z_hg := hg.lt
  refine Reg.op rfl rfl rfl rfl (Does.appL apt23 rfl rfl (by decide) hg (wide9 ha) (hS.ext hE) (ones_flat La) (by simp; omega) (by omega)) ?_
  rintro _ H2_3 ⟨A2_3, cap2_3, rfl, g2_3, hbut2_3, ha2_3⟩
  have z2_3 := hbut2_3.lt
  replace hE := hE.via hbut2_3 (by first | omega | (intro g; omega) | (intro g hg; omega) | (intro g hg h; omega))
  replace o0_0 := o0_0.via hbut2_3 (by first | omega | (intro g; omega) | (intro g hg; omega) | (intro g hg h; omega))
  replace o0_1 := o0_1.via hbut2_3 (by first | omega | (intro g; omega) | (intro g hg; omega) | (intro g hg h; omega))
  replace o0_2 := o0_2.via hbut2_3 (by first | omega | (intro g; omega) | (intro g hg; omega) | (intro g hg h; omega))
  replace o0_3 := o0_3.via hbut2_3 (by first | omega | (intro g; omega) | (intro g hg; omega) | (intro g hg h; omega))
  replace hg := g2_3
  have zg2_3 := g2_3.lt
  refine Reg.pur rfl rfl rfl rfl (Pur.asg rfl) ?_
  refine Reg.nil ?_
  refine At.region rfl rfl ?_
  refine Reg.pur rfl rfl rfl rfl (Pur.asg rfl) ?_
  refine Reg.nil ?_
  refine At.loop (σ := Nat × List (List Int) × Option Addr × Nat) (fun (j, out', A', cap') => [(9, I j), (8, .slice A' out'.length cap'), (7, I La.length), (4, ptr H0_0.size 0), (5, ptr H0_1.size 0), (6, ptr H0_2.size 0)]) (fun (j, out', A', cap') H' => j ≤ Lb.length ∧ out' = La ++ (Lb.take j).map (movS La.length) ∧ Gs H' H0_3.size 47 9 A' cap' out'.length (out'.flatMap Is) ∧ Own H' H0_0.size (Is [ra, rb, rc, rd, re]) ∧ Own H' H0_1.size [.slice B Lb.length cb] ∧ Own H' H0_2.size [.slice none 0 0] ∧ Ext H H') (fun s => Lb.length - s.1) (0, [] ++ La, A2_3, cap2_3) rfl ⟨rfl, rfl, rfl, rfl, rfl, rfl, trivial⟩ ⟨by omega, by simp, hg, o0_1, o0_2, o0_3, hE⟩ ?_
  clear hg o0_0 o0_1 o0_2 o0_3 hE
  rintro ⟨j, out', A', cap'⟩ H8 ⟨hj, hout', hg, o0_1, o0_2, o0_3, hE⟩ ihj
  dsimp only at hj hout' hg ⊢
  have z_hE := hE.lt
  have z_hg := hg.lt
  have z_o0_1 := o0_1.lt
  have z_o0_2 := o0_2.lt
  have z_o0_3 := o0_3.lt
  have hol : out'.length = La.length + j := by rw [hout', List.length_append, List.length_map, List.length_take]; omega
  refine At.region rfl rfl ?_
  refine Reg.pur rfl rfl rfl rfl (Pur.mv rfl) ?_
  refine Reg.pur rfl rfl rfl rfl (Pur.fld _ fo25_0 rfl) ?_
  refine Reg.lod rfl rfl rfl rfl (Lod.ld sc23 rfl o0_2.blk (by first | rfl | (simp; done))) ?_
  refine Reg.pur rfl rfl rfl rfl (Pur.lenS isl23 rfl) ?_
  refine Reg.pur rfl rfl rfl rfl (Pur.lss rfl rfl) ?_
  refine Reg.nil ?_
  refine At.cond rfl rfl (fun q22 => ?_) (fun q22 => ?_)
  · first | (simp only [decide_eq_true_eq, decide_eq_false_iff_not, Bool.not_eq_true', Bool.not_eq_false', ne_eq, Decidable.not_not, Bool.not_eq_true, Bool.not_eq_false] at q22) | (dsimp only at q22) | skip
    have hlj : j < Lb.length := by omega
    obtain ⟨b', o', c', rfl, hB', hd', h9j⟩ := sl_at (wide9 hb) (hT.ext hE) hlj
    have h9j' := hb _ (List.getElem_mem hlj)
    have hnx := map1_mov (k := La.length) hlj
    generalize Lb[j] = y at hnx hd' h9j h9j'
    obtain ⟨k', v', p', q', d0, d1, d2, d3, t', rfl⟩ : ∃ k v p q c0 c1 c2 c3 t, y = [k, v, p, q, c0, c1, c2, c3, t] := by match y, h9j' with | [k, v, p, q, c0, c1, c2, c3, t], _ => exact ⟨_, _, _, _, _, _, _, _, _, rfl⟩
    refine At.region rfl rfl ?_
    refine Reg.pur rfl rfl rfl rfl (Pur.fld _ fo25_0 rfl) ?_
    refine Reg.lod rfl rfl rfl rfl (Lod.ld sc23 rfl o0_2.blk (by first | rfl | (simp; done))) ?_
    refine Reg.pur rfl rfl rfl rfl (Pur.mv rfl) ?_
    refine Reg.pur rfl rfl rfl rfl (Pur.idx _ es23 rfl rfl (by omega) (by omega)) ?_
    refine Reg.lod rfl rfl rfl rfl (Lod.ldn ag47 rfl hB' hd' h9j) ?_
    refine Reg.op rfl rfl rfl rfl (Does.alloc zc47) ?_
    rintro _ H6_5 ⟨rfl, hn6_5⟩
    have z6_5 := hn6_5.size
    replace hE := hE.ext hn6_5.ext
    replace hg := hg.ext hn6_5.ext
    replace o0_1 := o0_1.ext hn6_5.ext
    replace o0_2 := o0_2.ext hn6_5.ext
    replace o0_3 := o0_3.ext hn6_5.ext
    have o6_5 := hn6_5.own
    refine Reg.op0 rfl rfl rfl (Does.stn ag47 rfl rfl (by first | rfl | exact ones_Is _) (by first | rfl | (simp [*]; done)) o6_5 (by first | decide | (simp; done) | (simp; omega) | omega)) ?_
    rintro _ H6_6 hu6_6
    have z6_6 := hu6_6.size
    replace hE := hE.upw hu6_6 (by omega)
    replace hg := hg.upw hu6_6 (by omega)
    replace o0_1 := o0_1.upw hu6_6 (by omega)
    replace o0_2 := o0_2.upw hu6_6 (by omega)
    replace o0_3 := o0_3.upw hu6_6 (by omega)
    replace o6_5 := hu6_6.own
    first | rw [over (by first | rfl | (simp; done))] at o6_5 | skip
    refine Reg.nil ?_
    refine At.region rfl rfl ?_
    refine Reg.pur rfl rfl rfl rfl (Pur.fld _ fo47_0 rfl) ?_
    refine Reg.lod rfl rfl rfl rfl (Lod.ld sc3 rfl o6_5.blk (by first | rfl | (simp; done))) ?_
    refine Reg.pur rfl rfl rfl rfl (Pur.eql rfl rfl) ?_
    refine Reg.nil ?_
    refine At.cond rfl rfl (fun q32 => ?_) (fun q32 => ?_)
    · first | (simp only [decide_eq_true_eq, decide_eq_false_iff_not, Bool.not_eq_true', Bool.not_eq_false', ne_eq, Decidable.not_not, Bool.not_eq_true, Bool.not_eq_false] at q32) | (dsimp only at q32) | skip
      refine At.region rfl rfl ?_
      refine Reg.pur rfl rfl rfl rfl (Pur.fld _ fo47_2 rfl) ?_
      refine Reg.lod rfl rfl rfl rfl (Lod.ld sc3 rfl o6_5.blk (by first | rfl | (simp; done))) ?_
      refine Reg.pur rfl rfl rfl rfl (Pur.mv rfl) ?_
      first | refine Reg.pur rfl rfl rfl rfl (Pur.add64 rfl rfl (by omega)) ?_ | refine Reg.pur rfl rfl rfl rfl (Pur.add64 rfl rfl (by assumption)) ?_ | refine Reg.pur rfl rfl rfl rfl (Pur.add rfl rfl) ?_
      refine Reg.pur rfl rfl rfl rfl (Pur.fld _ fo47_2 rfl) ?_
      refine Reg.op0 rfl rfl rfl (Does.st sc3 rfl rfl rfl o6_5 (by first | decide | (simp; done) | (simp; omega) | omega)) ?_
      rintro _ H8_5 hu8_5
      have z8_5 := hu8_5.size
      replace hE := hE.upw hu8_5 (by omega)
      replace hg := hg.upw hu8_5 (by omega)
      replace o0_1 := o0_1.upw hu8_5 (by omega)
      replace o0_2 := o0_2.upw hu8_5 (by omega)
      replace o0_3 := o0_3.upw hu8_5 (by omega)
      replace o6_5 := hu8_5.own
      refine Reg.nil ?_
      refine At.region rfl rfl ?_
      refine Reg.pur rfl rfl rfl rfl (Pur.fld _ fo47_3 rfl) ?_
      refine Reg.lod rfl rfl rfl rfl (Lod.ld sc3 rfl o6_5.blk (by first | rfl | (simp; done))) ?_
      refine Reg.pur rfl rfl rfl rfl (Pur.mv rfl) ?_
      first | refine Reg.pur rfl rfl rfl rfl (Pur.add64 rfl rfl (by omega)) ?_ | refine Reg.pur rfl rfl rfl rfl (Pur.add64 rfl rfl (by assumption)) ?_ | refine Reg.pur rfl rfl rfl rfl (Pur.add rfl rfl) ?_
      refine Reg.pur rfl rfl rfl rfl (Pur.fld _ fo47_3 rfl) ?_
      refine Reg.op0 rfl rfl rfl (Does.st sc3 rfl rfl rfl o6_5 (by first | decide | (simp; done) | (simp; omega) | omega)) ?_
      rintro _ H9_5 hu9_5
      have z9_5 := hu9_5.size
      replace hE := hE.upw hu9_5 (by omega)
      replace hg := hg.upw hu9_5 (by omega)
      replace o0_1 := o0_1.upw hu9_5 (by omega)
      replace o0_2 := o0_2.upw hu9_5 (by omega)
      replace o0_3 := o0_3.upw hu9_5 (by omega)
      replace o6_5 := hu9_5.own
      refine Reg.nil ?_
      have hy : Own H9_5 H8.size (Is (movS La.length [k', v', p', q', d0, d1, d2, d3, t'])) := by first | exact o6_5 | (rw [movS_not3 (x := [k', v', p', q', d0, d1, d2, d3, t']) q32]; exact o6_5) | (rw [show movS La.length [k', v', p', q', d0, d1, d2, d3, t'] = [k', v', IntKind.i64.wrap (p' + La.length), IntKind.i64.wrap (q' + La.length), d0, d1, d2, d3, t'] by subst q32; rfl]; exact o6_5)
      have hyl : (movS La.length [k', v', p', q', d0, d1, d2, d3, t']).length = 9 := movS_len _ _
      have hyl' : (Is (movS La.length [k', v', p', q', d0, d1, d2, d3, t'])).length = 9 := by simp [hyl]
      generalize hyy : movS La.length [k', v', p', q', d0, d1, d2, d3, t'] = y' at hy hyl hyl' hnx
      refine At.region rfl rfl ?_
      refine Reg.pur rfl rfl rfl rfl (Pur.mv rfl) ?_
      refine Reg.lod rfl rfl rfl rfl (Lod.ldn ag47 rfl hy.blk (whole hyl') hyl') ?_
      refine Reg.op rfl rfl rfl rfl (Does.bslA ([Is y']) slA23 rfl rfl rfl (by simp [hyl]) rfl rfl) ?_
      rintro _ H10_2 ⟨rfl, hp10_2⟩
      have hn10_2 := New.of_eq hp10_2
      have z10_2 := hn10_2.size
      replace hE := hE.ext hn10_2.ext
      replace hg := hg.ext hn10_2.ext
      replace o0_1 := o0_1.ext hn10_2.ext
      replace o0_2 := o0_2.ext hn10_2.ext
      replace o0_3 := o0_3.ext hn10_2.ext
      replace o6_5 := o6_5.ext hn10_2.ext
      have o10_2 := hn10_2.own
      refine Reg.op rfl rfl rfl rfl (Does.appL apt23 rfl rfl (by decide) hg (wide9 (nine1 hyl)) (sl_one (x := y') hyl' (by decide) hn10_2) (ones_flat _) (by simp; omega) (by omega)) ?_
      rintro _ H10_3 ⟨A10_3, cap10_3, rfl, g10_3, hbut10_3, ha10_3⟩
      have z10_3 := hbut10_3.lt
      replace hE := hE.via hbut10_3 (by first | omega | (intro g; omega) | (intro g hg; omega) | (intro g hg h; omega))
      replace o0_1 := o0_1.via hbut10_3 (by first | omega | (intro g; omega) | (intro g hg; omega) | (intro g hg h; omega))
      replace o0_2 := o0_2.via hbut10_3 (by first | omega | (intro g; omega) | (intro g hg; omega) | (intro g hg h; omega))
      replace o0_3 := o0_3.via hbut10_3 (by first | omega | (intro g; omega) | (intro g hg; omega) | (intro g hg h; omega))
      replace o6_5 := o6_5.via hbut10_3 (by first | omega | (intro g; omega) | (intro g hg; omega) | (intro g hg h; omega))
      replace o10_2 := o10_2.via hbut10_3 (by first | omega | (intro g; omega) | (intro g hg; omega) | (intro g hg h; omega))
      replace hg := g10_3
      have zg10_3 := g10_3.lt
      refine Reg.pur rfl rfl rfl rfl (Pur.asg rfl) ?_
      refine Reg.nil ?_
      refine At.region rfl rfl ?_
      refine Reg.pur rfl rfl rfl rfl (Pur.mv rfl) ?_
      first | refine Reg.pur rfl rfl rfl rfl (Pur.add64 rfl rfl (by omega)) ?_ | refine Reg.pur rfl rfl rfl rfl (Pur.add64 rfl rfl (by assumption)) ?_ | refine Reg.pur rfl rfl rfl rfl (Pur.add rfl rfl) ?_
      refine Reg.pur rfl rfl rfl rfl (Pur.asg rfl) ?_
      refine Reg.nil ?_
      exact At.via (ihj (j + 1, out' ++ [y'], A10_3, cap10_3) _ ⟨by omega, by rw [hnx, hout', List.append_assoc], hg, o0_1, o0_2, o0_3, hE⟩ (by simp only; omega)) ⟨rfl, rfl, rfl, rfl, rfl, rfl, trivial⟩
    first | (simp only [decide_eq_true_eq, decide_eq_false_iff_not, Bool.not_eq_true', Bool.not_eq_false', ne_eq, Decidable.not_not, Bool.not_eq_true, Bool.not_eq_false] at q32) | (dsimp only at q32) | skip
    have hy : Own H6_6 H8.size (Is (movS La.length [k', v', p', q', d0, d1, d2, d3, t'])) := by first | exact o6_5 | (rw [movS_not3 (x := [k', v', p', q', d0, d1, d2, d3, t']) q32]; exact o6_5) | (rw [show movS La.length [k', v', p', q', d0, d1, d2, d3, t'] = [k', v', IntKind.i64.wrap (p' + La.length), IntKind.i64.wrap (q' + La.length), d0, d1, d2, d3, t'] by subst q32; rfl]; exact o6_5)
    have hyl : (movS La.length [k', v', p', q', d0, d1, d2, d3, t']).length = 9 := movS_len _ _
    have hyl' : (Is (movS La.length [k', v', p', q', d0, d1, d2, d3, t'])).length = 9 := by simp [hyl]
    generalize hyy : movS La.length [k', v', p', q', d0, d1, d2, d3, t'] = y' at hy hyl hyl' hnx
    refine At.region rfl rfl ?_
    refine Reg.pur rfl rfl rfl rfl (Pur.mv rfl) ?_
    refine Reg.lod rfl rfl rfl rfl (Lod.ldn ag47 rfl hy.blk (whole hyl') hyl') ?_
    refine Reg.op rfl rfl rfl rfl (Does.bslA ([Is y']) slA23 rfl rfl rfl (by simp [hyl]) rfl rfl) ?_
    rintro _ H10_2 ⟨rfl, hp10_2⟩
    have hn10_2 := New.of_eq hp10_2
    have z10_2 := hn10_2.size
    replace hE := hE.ext hn10_2.ext
    replace hg := hg.ext hn10_2.ext
    replace o0_1 := o0_1.ext hn10_2.ext
    replace o0_2 := o0_2.ext hn10_2.ext
    replace o0_3 := o0_3.ext hn10_2.ext
    replace o6_5 := o6_5.ext hn10_2.ext
    have o10_2 := hn10_2.own
    refine Reg.op rfl rfl rfl rfl (Does.appL apt23 rfl rfl (by decide) hg (wide9 (nine1 hyl)) (sl_one (x := y') hyl' (by decide) hn10_2) (ones_flat _) (by simp; omega) (by omega)) ?_
    rintro _ H10_3 ⟨A10_3, cap10_3, rfl, g10_3, hbut10_3, ha10_3⟩
    have z10_3 := hbut10_3.lt
    replace hE := hE.via hbut10_3 (by first | omega | (intro g; omega) | (intro g hg; omega) | (intro g hg h; omega))
    replace o0_1 := o0_1.via hbut10_3 (by first | omega | (intro g; omega) | (intro g hg; omega) | (intro g hg h; omega))
    replace o0_2 := o0_2.via hbut10_3 (by first | omega | (intro g; omega) | (intro g hg; omega) | (intro g hg h; omega))
    replace o0_3 := o0_3.via hbut10_3 (by first | omega | (intro g; omega) | (intro g hg; omega) | (intro g hg h; omega))
    replace o6_5 := o6_5.via hbut10_3 (by first | omega | (intro g; omega) | (intro g hg; omega) | (intro g hg h; omega))
    replace o10_2 := o10_2.via hbut10_3 (by first | omega | (intro g; omega) | (intro g hg; omega) | (intro g hg h; omega))
    replace hg := g10_3
    have zg10_3 := g10_3.lt
    refine Reg.pur rfl rfl rfl rfl (Pur.asg rfl) ?_
    refine Reg.nil ?_
    refine At.region rfl rfl ?_
    refine Reg.pur rfl rfl rfl rfl (Pur.mv rfl) ?_
    first | refine Reg.pur rfl rfl rfl rfl (Pur.add64 rfl rfl (by omega)) ?_ | refine Reg.pur rfl rfl rfl rfl (Pur.add64 rfl rfl (by assumption)) ?_ | refine Reg.pur rfl rfl rfl rfl (Pur.add rfl rfl) ?_
    refine Reg.pur rfl rfl rfl rfl (Pur.asg rfl) ?_
    refine Reg.nil ?_
    exact At.via (ihj (j + 1, out' ++ [y'], A10_3, cap10_3) _ ⟨by omega, by rw [hnx, hout', List.append_assoc], hg, o0_1, o0_2, o0_3, hE⟩ (by simp only; omega)) ⟨rfl, rfl, rfl, rfl, rfl, rfl, trivial⟩
  first | (simp only [decide_eq_true_eq, decide_eq_false_iff_not, Bool.not_eq_true', Bool.not_eq_false', ne_eq, Decidable.not_not, Bool.not_eq_true, Bool.not_eq_false] at q22) | (dsimp only at q22) | skip
  refine At.region rfl rfl ?_
  refine Reg.pur rfl rfl rfl rfl (Pur.mv rfl) ?_
  refine Reg.pur rfl rfl rfl rfl (Pur.mv rfl) ?_
  refine Reg.pur rfl rfl rfl rfl (Pur.sub64 rfl rfl (by omega)) ?_
  refine Reg.pur rfl rfl rfl rfl (Pur.mv rfl) ?_
  refine Reg.pur rfl rfl rfl rfl (Pur.fld _ fo25_0 rfl) ?_
  refine Reg.lod rfl rfl rfl rfl (Lod.ld sc23 rfl o0_2.blk (by first | rfl | (simp; done))) ?_
  refine Reg.pur rfl rfl rfl rfl (Pur.lenS isl23 rfl) ?_
  refine Reg.pur rfl rfl rfl rfl (Pur.add64 rfl rfl (by omega)) ?_
  refine Reg.pur rfl rfl rfl rfl (Pur.sub64 rfl rfl (by omega)) ?_
  refine Reg.lod rfl rfl rfl rfl (Lod.ldn ag28 rfl o0_1.blk (by first | exact whole rfl | rfl | (simp only [List.drop_succ_cons, List.drop_zero, List.take_succ_cons, List.take_zero]; rfl)) (by first | rfl | (simp [*]; done))) ?_
  refine Reg.pur rfl rfl rfl rfl (Pur.bld (cs := [_, _, _, _, _, _, _, _, _]) pl47 zc47 rfl rfl ⟨rfl, rfl, rfl, rfl, rfl, rfl, rfl, rfl, rfl, rfl⟩) ?_
  refine Reg.op rfl rfl rfl rfl (Does.bslA ([[_, _, _, _, _, _, _, _, _]]) slA23 rfl rfl rfl rfl rfl rfl) ?_
  rintro _ H11_11 ⟨rfl, hp11_11⟩
  have hn11_11 := New.of_eq hp11_11
  have z11_11 := hn11_11.size
  replace hE := hE.ext hn11_11.ext
  replace hg := hg.ext hn11_11.ext
  replace o0_1 := o0_1.ext hn11_11.ext
  replace o0_2 := o0_2.ext hn11_11.ext
  replace o0_3 := o0_3.ext hn11_11.ext
  have o11_11 := hn11_11.own
  refine Reg.op rfl rfl rfl rfl (Does.appL apt23 rfl rfl (by decide) hg (wide9 (nine1 (x := arrN La.length Lb.length [ra, rb, rc, rd, re]) rfl)) (sl_one (x := arrN La.length Lb.length [ra, rb, rc, rd, re]) rfl (by decide) hn11_11) (ones_flat _) (by simp; omega) (by omega)) ?_
  rintro _ H11_12 ⟨A11_12, cap11_12, rfl, g11_12, hbut11_12, ha11_12⟩
  have z11_12 := hbut11_12.lt
  replace hE := hE.via hbut11_12 (by first | omega | (intro g; omega) | (intro g hg; omega) | (intro g hg h; omega))
  replace o0_1 := o0_1.via hbut11_12 (by first | omega | (intro g; omega) | (intro g hg; omega) | (intro g hg h; omega))
  replace o0_2 := o0_2.via hbut11_12 (by first | omega | (intro g; omega) | (intro g hg; omega) | (intro g hg h; omega))
  replace o0_3 := o0_3.via hbut11_12 (by first | omega | (intro g; omega) | (intro g hg; omega) | (intro g hg h; omega))
  replace o11_11 := o11_11.via hbut11_12 (by first | omega | (intro g; omega) | (intro g hg; omega) | (intro g hg h; omega))
  replace hg := g11_12
  have zg11_12 := g11_12.lt
  refine Reg.pur rfl rfl rfl rfl (Pur.asg rfl) ?_
  refine Reg.nil ?_
  refine At.region rfl rfl ?_
  refine Reg.pur rfl rfl rfl rfl (Pur.mv rfl) ?_
  refine Reg.pur rfl rfl rfl rfl (Pur.bld (cs := [_]) pl25 zc25 rfl rfl ⟨rfl, rfl⟩) ?_
  refine Reg.op0 rfl rfl rfl (Does.stn ag25 rfl rfl (by first | rfl | exact ones_Is _) (by first | rfl | (simp [*]; done)) o0_3 (by first | decide | (simp; done) | (simp; omega) | omega)) ?_
  rintro _ H12_2 hu12_2
  have z12_2 := hu12_2.size
  replace hE := hE.upw hu12_2 (by omega)
  replace hg := hg.upw hu12_2 (by omega)
  replace o0_1 := o0_1.upw hu12_2 (by omega)
  replace o0_2 := o0_2.upw hu12_2 (by omega)
  replace o11_11 := o11_11.upw hu12_2 (by omega)
  replace o0_3 := hu12_2.own
  first | rw [over (by first | rfl | (simp; done))] at o0_3 | skip
  refine Reg.nil ?_
  refine At.retC rfl Try.func42 ⟨_, _, _, _, rfl, rfl, ⟨_, o0_3.blk, .inr ⟨_, _, ag25, (by first | exact whole rfl | exact whole (by simp [*])), (by first | rfl | simp [*]), rfl⟩⟩, rfl⟩ ?_
  have hall : out' ++ [arrN La.length Lb.length [ra, rb, rc, rd, re]] = arr2 La [ra, rb, rc, rd, re] Lb := by rw [hout', List.take_of_length_le (by omega)]; rfl
  rw [← hall]
  exact ⟨⟨A11_12, cap11_12, rfl, hg.mono (by omega)⟩, hE⟩

end Go.Proofs.Ytlfillhffpiffaa

namespace Go.Proofs.Ytlfillhffpiffaa
set_option linter.unusedSimpArgs false
set_option linter.unusedVariables false
set_option maxRecDepth 8000
set_option maxHeartbeats 1000000
open Go Go.Fx Go.Proofs
namespace FactsSchT
theorem ag25 : ag Try.prog 25 = some 1 := by kernel_rfl
theorem ag28 : ag Try.prog 28 = some 5 := by kernel_rfl
theorem fo25_0 : foff Try.prog 25 0 = some 0 := by kernel_rfl
theorem isl23 : isSl Try.prog 23 = true := by kernel_rfl
theorem mixed : Try.prog.follows .mixedOrders = true := by kernel_rfl
theorem pl25 : places Try.prog 25 = some [(0, 1)] := by kernel_rfl
theorem pl28 : places Try.prog 28 = some [(0, 4), (4, 1)] := by kernel_rfl
theorem pl47 : places Try.prog 47 = some [(0, 1), (1, 1), (2, 1), (3, 1), (4, 5)] := by kernel_rfl
theorem sc23 : sc Try.prog 23 = true := by kernel_rfl
theorem slA23 : slA Try.prog 23 = some (47, 9) := by kernel_rfl
theorem zc25 : zc Try.prog 25 = some [.slice none 0 0] := by kernel_rfl
theorem zc28 : zc Try.prog 28 = some [.int .i64 0, .int .i64 0, .int .i64 0, .int .i64 0, .int .i64 0] := by kernel_rfl
theorem zc47 : zc Try.prog 47 = some [.int .i64 0, .int .i64 0, .int .i64 0, .int .i64 0, .int .i64 0, .int .i64 0, .int .i64 0, .int .i64 0, .int .i64 0] := by kernel_rfl
end FactsSchT
open FactsSchT

theorem goS_cons (Bs : List Bd) (x : List Int) (xs out : List (List Int)) (ends : List Int) : goS Bs (x :: xs) out ends = match moreS Bs out ends x with
    | none => none
    | some m => if 256 < out.length + m.length then none else goS Bs xs (out ++ m) (ends ++ [((out.length + m.length : Nat) : Int) - 1]) := rfl
end Go.Proofs.Ytlfillhffpiffaa

namespace Go.Proofs.Ytlfillhffpiffaa
set_option linter.unusedSimpArgs false
set_option linter.unusedVariables false
set_option maxRecDepth 8000
open Go Go.Fx Go.Proofs

inductive Tm where
  | bas (k : Bool)
  | var (v : Int)
  | fn (a : Tm) (r : List Int) (b : Tm)
deriving DecidableEq
def Tm.sz : Tm → Nat
  | .bas _ => 1
  | .var _ => 1
  | .fn a _ b => a.sz + b.sz + 1
theorem Tm.sz_pos : ∀ t : Tm, 1 ≤ t.sz
  | .bas _ => Nat.le_refl 1
  | .var _ => Nat.le_refl 1
  | .fn a _ b => by simp only [Tm.sz]; omega
def Tm.ok : Tm → Prop
  | .bas _ => True
  | .var v => 0 ≤ v ∧ v < 4096
  | .fn a r b => a.ok ∧ r.length = 5 ∧ rowM r = true ∧ b.ok
abbrev bNode (k : Bool) : List Int := [if k then 1 else 0, 0, 0, 0, 0, 0, 0, 0, 0]
abbrev vNode (v : Int) : List Int := [2, v, 0, 0, 0, 0, 0, 0, 0]
abbrev fNode (a b : Int) (r : List Int) : List Int := [3, 0, a, b] ++ r
def Tm.enc (k : Int) : Tm → List (List Int)
  | .bas b => [bNode b]
  | .var v => [vNode v]
  | .fn a r b => a.enc k ++ b.enc (k + a.sz) ++ [fNode (k + a.sz - 1) (k + a.sz + b.sz - 1) r]
theorem Tm.enc_len : ∀ (t : Tm) (k : Int), (t.enc k).length = t.sz
  | .bas _, _ => rfl
  | .var _, _ => rfl
  | .fn a r b, k => by simp only [Tm.enc, List.length_append, Tm.enc_len a, Tm.enc_len b, Tm.sz, List.length_singleton]
theorem Tm.enc_nine : ∀ (t : Tm) (k : Int), t.ok → Nine (t.enc k)
  | .bas _, _, _ => nine1 rfl
  | .var _, _, _ => nine1 rfl
  | .fn a r b, k, h => nine_app (nine_app (a.enc_nine k h.1) (b.enc_nine _ h.2.2.2)) (nine1 (by simp [h.2.1]))
theorem mov_fn {j a b : Int} {r : List Int} (h1 : -9223372036854775808 ≤ a + j ∧ a + j ≤ 9223372036854775807) (h2 : -9223372036854775808 ≤ b + j ∧ b + j ≤ 9223372036854775807) : movS j (fNode a b r) = fNode (a + j) (b + j) r := by
  unfold movS
  rw [if_pos (by rfl)]
  show [3, 0, IntKind.i64.wrap (a + j), IntKind.i64.wrap (b + j)] ++ r = _
  rw [wrap_in h1, wrap_in h2]
theorem Tm.enc_mov : ∀ (t : Tm) (k j : Int), -1000000 ≤ k → -1000000 ≤ k + j → k ≤ 1000000 → k + j ≤ 1000000 → k + t.sz ≤ 1000000 → k + j + t.sz ≤ 1000000 → (t.enc k).map (movS j) = t.enc (k + j)
  | .bas b, _, _, _, _, _, _, _, _ => by cases b <;> rfl
  | .var _, _, _, _, _, _, _, _, _ => rfl
  | .fn a r b, k, j, h1, h2, h3, h4, h5, h6 => by
    have ha := a.sz_pos
    have hb := b.sz_pos
    simp only [Tm.sz, Int.natCast_add] at h5 h6
    simp only [Tm.enc, List.map_append, List.map_cons, List.map_nil]
    rw [Tm.enc_mov a k j h1 h2 h3 h4 (by omega) (by omega), Tm.enc_mov b (k + a.sz) j (by omega) (by omega) (by omega) (by omega) (by omega) (by omega), mov_fn (by omega) (by omega)]
    rw [show k + (a.sz : Int) + j = k + j + a.sz by omega, show k + (a.sz : Int) - 1 + j = k + j + a.sz - 1 by omega, show k + (a.sz : Int) + b.sz - 1 + j = k + j + a.sz + b.sz - 1 by omega]

theorem nod_fn {x : List Int} (h9 : x.length = 9) (hn : nodM x = true) (hk : x.getD 0 0 = 3) : ∃ r, r.length = 5 ∧ rowM r = true ∧ x = fNode (x.getD 2 0) (x.getD 3 0) r := by
  match x, h9 with
  | [k, v, p, q, c0, c1, c2, c3, t], _ =>
    unfold nodM at hn
    rw [if_pos hk] at hn
    simp only [Bool.and_eq_true, decide_eq_true_eq] at hn
    obtain ⟨h1, h2⟩ := hn
    change k = 3 at hk
    change v = 0 at h2
    subst hk h2
    exact ⟨[c0, c1, c2, c3, t], rfl, h1, rfl⟩
theorem nod_else {x : List Int} (hn : nodM x = true) (hk : x.getD 0 0 ≠ 3) : (∃ b, x = bNode b) ∨ ∃ v, 0 ≤ v ∧ v < 4096 ∧ x = vNode v := by
  unfold nodM at hn
  rw [if_neg hk] at hn
  split at hn
  · simp only [Bool.and_eq_true, decide_eq_true_eq] at hn
    exact .inr ⟨_, hn.1.1, hn.1.2, hn.2⟩
  · split at hn
    · rename_i h
      rw [decide_eq_true_eq] at hn
      rcases h with h | h
      · rw [h] at hn; exact .inl ⟨false, hn⟩
      · rw [h] at hn; exact .inl ⟨true, hn⟩
    · cases hn
theorem el_nat {L : List (List Int)} {n : Nat} (h : n < L.length) : el L (n : Int) = L[n] := by
  simp [el, List.getD_eq_getElem?_getD, List.getElem?_eq_getElem h]
abbrev seg (L : List (List Int)) (p z : Int) : List (List Int) := (L.drop p.toNat).take (z + 1 - p).toNat
theorem seg_app {L : List (List Int)} {p q z : Int} (h0 : 0 ≤ p) (h1 : p ≤ q) (h2 : q ≤ z + 1) : seg L p (q - 1) ++ seg L q z = seg L p z := by
  have h : (z + 1 - p).toNat = (q - 1 + 1 - p).toNat + (z + 1 - q).toNat := by omega
  unfold seg
  rw [h, List.take_add, List.drop_drop, show p.toNat + (q - 1 + 1 - p).toNat = q.toNat by omega]
theorem seg_one {L : List (List Int)} {z : Int} (h0 : 0 ≤ z) (h1 : z < L.length) : seg L z z = [el L z] := by
  obtain ⟨n, rfl⟩ := Int.eq_ofNat_of_zero_le h0
  unfold seg
  rw [show ((n : Int) + 1 - n).toNat = 1 by omega, el_nat (by omega), Int.toNat_natCast, List.drop_eq_getElem_cons (by omega)]
  rfl
theorem dec_at {L : List (List Int)} (h9 : Nine L) (hn : L.all nodM = true) : ∀ (f : Nat) (z : Int), 0 ≤ z → z < L.length → 0 ≤ bgn L f z → ∃ t : Tm, t.ok ∧ seg L (bgn L f z) z = t.enc (bgn L f z) ∧ (t.sz : Int) = z + 1 - bgn L f z
  | 0, z, _, _, h => by simp only [bgn] at h; omega
  | f + 1, z, h0, h1, h => by
    have hx : el L z ∈ L := by
      obtain ⟨n, rfl⟩ := Int.eq_ofNat_of_zero_le h0
      rw [el_nat (by omega)]; exact List.getElem_mem _
    have hx9 := h9 _ hx
    have hxn := List.all_eq_true.1 hn _ hx
    by_cases hk : (el L z).getD 0 0 = 3
    · obtain ⟨hz, hB, hb, hA, hbA⟩ := bgn_fun h hk
      have hle := bgn_le L f ((el L z).getD 3 0) (by omega)
      have hle2 := bgn_le L f ((el L z).getD 2 0) (by omega)
      have hq : bgn L (f + 1) z = bgn L f ((el L z).getD 2 0) := by
        rw [bgn_succ, if_neg (by omega), if_neg (by omega), if_neg (by omega)]
      obtain ⟨a, ha, hsa, hza⟩ := dec_at h9 hn f ((el L z).getD 2 0) (by omega) (by omega) hbA
      obtain ⟨b, hb', hsb, hzb⟩ := dec_at h9 hn f ((el L z).getD 3 0) (by omega) (by omega) (by omega)
      obtain ⟨r, hr5, hrm, hx⟩ := nod_fn hx9 hxn hk
      have e0 := seg_one h0 h1
      rw [hx] at e0
      rw [hq]
      clear h hq hxn hx9 hx hk hn h9
      generalize (el L z).getD 2 0 = A at *
      generalize (el L z).getD 3 0 = B at *
      generalize bgn L f A = p at *
      generalize bgn L f B = q at *
      subst hA hB
      refine ⟨.fn a r b, ⟨ha, hr5, hrm, hb'⟩, ?_, by simp only [Tm.sz]; omega⟩
      rw [← seg_app (L := L) (p := p) (q := z) (z := z) (by omega) (by omega) (by omega), ← seg_app (L := L) (p := p) (q := q) (z := z - 1) (by omega) (by omega) (by omega), hsa, hsb, e0]
      simp only [Tm.enc]
      rw [show p + (a.sz : Int) = q by omega, show q + (b.sz : Int) - 1 = z - 1 by omega]
    · have hq : bgn L (f + 1) z = z := by rw [bgn_succ, if_pos hk]
      rw [hq, seg_one h0 h1]
      rcases nod_else hxn hk with ⟨b, hb⟩ | ⟨v, hv1, hv2, hv⟩
      · exact ⟨.bas b, trivial, by rw [hb]; rfl, by simp only [Tm.sz]; omega⟩
      · exact ⟨.var v, ⟨hv1, hv2⟩, by rw [hv]; rfl, by simp only [Tm.sz]; omega⟩

theorem el_mid {pre post : List (List Int)} {x : List Int} : el (pre ++ x :: post) (pre.length : Int) = x := by
  simp [el, List.getD_eq_getElem?_getD]
theorem enc_bgn : ∀ (t : Tm) (f : Nat) (pre post : List (List Int)), t.sz ≤ f → bgn (pre ++ t.enc pre.length ++ post) f ((pre.length : Int) + t.sz - 1) = pre.length
  | t, 0, _, _, h => by have := t.sz_pos; omega
  | .bas b, f + 1, pre, post, h => by
    rw [bgn_succ, if_pos]
    · simp only [Tm.sz]; omega
    · rw [show (pre.length : Int) + (Tm.bas b).sz - 1 = pre.length by simp only [Tm.sz]; omega]
      simp only [Tm.enc, List.append_assoc, List.singleton_append]
      rw [el_mid]
      cases b <;> decide
  | .var v, f + 1, pre, post, h => by
    rw [bgn_succ, if_pos]
    · simp only [Tm.sz]; omega
    · rw [show (pre.length : Int) + (Tm.var v).sz - 1 = pre.length by simp only [Tm.sz]; omega]
      simp only [Tm.enc, List.append_assoc, List.singleton_append]
      rw [el_mid]
      show (2 : Int) ≠ 3
      decide
  | .fn a r b, f + 1, pre, post, h => by
    have ha := a.sz_pos
    have hb := b.sz_pos
    simp only [Tm.sz] at h ⊢
    have hp : ((pre ++ a.enc pre.length).length : Int) = (pre.length : Int) + a.sz := by rw [List.length_append, Tm.enc_len]; omega
    have hp2 : ((pre ++ a.enc pre.length ++ b.enc ((pre.length : Int) + a.sz)).length : Int) = (pre.length : Int) + a.sz + b.sz := by rw [List.length_append, List.length_append, Tm.enc_len, Tm.enc_len]; omega
    have hL1 : pre ++ (Tm.fn a r b).enc pre.length ++ post = (pre ++ a.enc pre.length ++ b.enc ((pre.length : Int) + a.sz)) ++ fNode ((pre.length : Int) + a.sz - 1) ((pre.length : Int) + a.sz + b.sz - 1) r :: post := by
      simp only [Tm.enc, List.append_assoc, List.singleton_append]
    have hL2 : pre ++ (Tm.fn a r b).enc pre.length ++ post = (pre ++ a.enc pre.length) ++ b.enc ((pre ++ a.enc pre.length).length : Int) ++ (fNode ((pre.length : Int) + a.sz - 1) ((pre.length : Int) + a.sz + b.sz - 1) r :: post) := by
      rw [hp]; simp only [Tm.enc, List.append_assoc, List.singleton_append]
    have hL3 : pre ++ (Tm.fn a r b).enc pre.length ++ post = pre ++ a.enc pre.length ++ (b.enc ((pre.length : Int) + a.sz) ++ fNode ((pre.length : Int) + a.sz - 1) ((pre.length : Int) + a.sz + b.sz - 1) r :: post) := by
      simp only [Tm.enc, List.append_assoc, List.singleton_append]
    have hel : el (pre ++ (Tm.fn a r b).enc pre.length ++ post) ((pre.length : Int) + (a.sz + b.sz + 1 : Nat) - 1) = fNode ((pre.length : Int) + a.sz - 1) ((pre.length : Int) + a.sz + b.sz - 1) r := by
      rw [hL1, show (pre.length : Int) + (a.sz + b.sz + 1 : Nat) - 1 = ((pre ++ a.enc pre.length ++ b.enc ((pre.length : Int) + a.sz)).length : Int) by rw [hp2]; omega, el_mid]
    have hb1 : bgn (pre ++ (Tm.fn a r b).enc pre.length ++ post) f ((pre.length : Int) + a.sz + b.sz - 1) = (pre.length : Int) + a.sz := by
      rw [hL2, ← hp, enc_bgn b f _ _ (by omega)]
    have hb2 : bgn (pre ++ (Tm.fn a r b).enc pre.length ++ post) f ((pre.length : Int) + a.sz - 1) = pre.length := by
      rw [hL3, enc_bgn a f _ _ (by omega)]
    have e2 : (fNode ((pre.length : Int) + a.sz - 1) ((pre.length : Int) + a.sz + b.sz - 1) r).getD 2 0 = (pre.length : Int) + a.sz - 1 := rfl
    have e3 : (fNode ((pre.length : Int) + a.sz - 1) ((pre.length : Int) + a.sz + b.sz - 1) r).getD 3 0 = (pre.length : Int) + a.sz + b.sz - 1 := rfl
    have e0 : (fNode ((pre.length : Int) + a.sz - 1) ((pre.length : Int) + a.sz + b.sz - 1) r).getD 0 0 = 3 := rfl
    rw [bgn_succ, hel, e0, e2, e3, hb1, hb2, if_neg (by decide), if_neg (by omega), if_neg (by omega)]
theorem enc_nod : ∀ (t : Tm) (k : Int), t.ok → ∀ x ∈ t.enc k, nodM x = true
  | .bas b, _, _, x, h => by rw [List.mem_singleton.1 h]; cases b <;> decide
  | .var v, _, hk, x, h => by
    rw [List.mem_singleton.1 h]
    unfold nodM
    rw [if_neg (by show ¬ (2 : Int) = 3; decide), if_pos (by rfl)]
    simp only [Bool.and_eq_true, decide_eq_true_eq]
    exact ⟨hk, rfl⟩
  | .fn a r b, k, hk, x, h => by
    simp only [Tm.enc, List.mem_append, List.mem_singleton] at h
    rcases h with (h | h) | h
    · exact enc_nod a _ hk.1 x h
    · exact enc_nod b _ hk.2.2.2 x h
    · subst h
      unfold nodM
      rw [if_pos (by rfl)]
      simp only [Bool.and_eq_true, decide_eq_true_eq]
      exact ⟨hk.2.2.1, rfl⟩
theorem enc_typ {t : Tm} (h : t.ok) (hs : t.sz ≤ 256) : typM (t.enc 0) = true := by
  have := t.sz_pos
  unfold typM
  rw [Tm.enc_len]
  simp only [Bool.and_eq_true, decide_eq_true_eq, List.all_eq_true]
  have hb := enc_bgn t t.sz [] [] (Nat.le_refl _)
  simp only [List.nil_append, List.append_nil, List.length_nil, Int.natCast_zero, Int.zero_add] at hb
  exact ⟨⟨⟨by omega, hs⟩, enc_nod t 0 h⟩, hb⟩
theorem typ_dec {L : List (List Int)} (h9 : Nine L) (h : typM L = true) : ∃ t : Tm, t.ok ∧ L = t.enc 0 ∧ t.sz ≤ 256 := by
  obtain ⟨⟨h1, h2⟩, hb⟩ := typM_bgn h
  unfold typM at h
  simp only [Bool.and_eq_true] at h
  obtain ⟨t, ht, hs, hz⟩ := dec_at h9 h.1.2 L.length ((L.length : Int) - 1) (by omega) (by omega) (by omega)
  rw [hb] at hs hz
  refine ⟨t, ht, ?_, by omega⟩
  rw [← hs]
  unfold seg
  rw [List.take_of_length_le (by simp)]
  rfl
theorem enc_parts (a : Tm) (r : List Int) (b : Tm) : el ((Tm.fn a r b).enc 0) (((Tm.fn a r b).enc 0).length - 1 : Int) = fNode ((a.sz : Int) - 1) ((a.sz : Int) + b.sz - 1) r ∧
    bgn ((Tm.fn a r b).enc 0) ((Tm.fn a r b).enc 0).length ((a.sz : Int) - 1) = 0 ∧ bgn ((Tm.fn a r b).enc 0) ((Tm.fn a r b).enc 0).length ((a.sz : Int) + b.sz - 1) = a.sz ∧
    seg ((Tm.fn a r b).enc 0) 0 ((a.sz : Int) - 1) = a.enc 0 ∧ seg ((Tm.fn a r b).enc 0) a.sz ((a.sz : Int) + b.sz - 1) = b.enc a.sz := by
  have ha := a.sz_pos
  have hb := b.sz_pos
  have hl : ((Tm.fn a r b).enc 0).length = a.sz + b.sz + 1 := Tm.enc_len _ _
  have hL : (Tm.fn a r b).enc 0 = a.enc 0 ++ b.enc a.sz ++ [fNode ((a.sz : Int) - 1) ((a.sz : Int) + b.sz - 1) r] := by simp only [Tm.enc, Int.zero_add]
  have l1 : (a.enc 0).length = a.sz := Tm.enc_len _ _
  have l2 : (b.enc a.sz).length = b.sz := Tm.enc_len _ _
  refine ⟨?_, ?_, ?_, ?_, ?_⟩
  · rw [hl, hL, show ((a.sz + b.sz + 1 : Nat) : Int) - 1 = ((a.enc 0 ++ b.enc a.sz).length : Int) by rw [List.length_append, l1, l2]; omega, el_mid]
  · have := enc_bgn a (a.sz + b.sz + 1) [] (b.enc a.sz ++ [fNode ((a.sz : Int) - 1) ((a.sz : Int) + b.sz - 1) r]) (by omega)
    rw [hl, hL, List.append_assoc]
    simpa using this
  · have := enc_bgn b (a.sz + b.sz + 1) (a.enc 0) [fNode ((a.sz : Int) - 1) ((a.sz : Int) + b.sz - 1) r] (by omega)
    rw [l1] at this
    rw [hl, hL]
    exact this
  · unfold seg
    rw [hL, List.append_assoc, show ((a.sz : Int) - 1 + 1 - 0).toNat = (a.enc 0).length by rw [l1]; omega]
    show List.take _ (_ ++ _) = _
    rw [List.take_left]
  · unfold seg
    rw [hL, List.append_assoc, show ((a.sz : Int)).toNat = (a.enc 0).length by rw [l1]; omega, List.drop_left, show ((a.sz : Int) + b.sz - 1 + 1 - a.sz).toNat = (b.enc a.sz).length by rw [l2]; omega, List.take_left]
end Go.Proofs.Ytlfillhffpiffaa

namespace Go.Fx
open Go
set_option linter.unusedSimpArgs false
set_option linter.unusedVariables false
theorem Pur.cutB {P : Program} {dst : Option Tmp} {ty : TypeId} {pos : String} {aft : Array Edge} {gd : Option (Nat × Bool)} {e : Env} {t : TypeId} {x y z : Operand} {b o : Nat} {n c s : Nat} {k k' : IntKind} {l h : Int} (hs : esz P t = some s) (hx : ev e x = some (.slice (some ⟨b, o, none⟩) n c)) (hy : ev e y = some (.int k l)) (hz : ev e z = some (.int k' h)) (h0 : 0 ≤ l) (h1 : l ≤ h) (h2 : h ≤ c) (h3 : l < c) :
    Pur P ⟨dst, .slice t x (some y) (some z) none, ty, pos, aft, gd⟩ e (.slice (some ⟨b, o + l.toNat * s, none⟩) (h.toNat - l.toNat) (c - l.toNat)) := by
  intro a w hA
  have e1 := hA.ev hx
  have e2 := hA.ev hy
  have e3 := hA.ev hz
  unfold esz at hs
  split at hs
  case h_2 => cases hs
  rename_i el hu
  simp only [Option.map_eq_some_iff] at hs
  obtain ⟨i, hi, rfl⟩ := hs
  have g1 : 0 ≤ h ∧ h ≤ (c : Int) := by omega
  have g2 : 0 ≤ l ∧ l ≤ ((h.toNat : Nat) : Int) := by omega
  have hne : c ≠ l.toNat := by omega
  simp only [execOp, e1, e2, e3, Option.map_some, Option.map_none, Instr.sliceAt, Sem.run_bind, run_underlying hu, Result.andThen_ok, Instr.slice, Instr.sliceBounds, Sem.run_pure, Instr.sliceBound, asIntOf, run_sizeOf' hi, if_pos g1, if_pos g2]
  simp [g1, g2, Addr.add, hne]
end Go.Fx
namespace Go.Proofs.Ytlfillhffpiffaa
set_option linter.unusedSimpArgs false
set_option linter.unusedVariables false
set_option maxRecDepth 8000
open Go Go.Fx Go.Proofs
namespace FactsUniC
theorem ag25 : ag Try.prog 25 = some 1 := by kernel_rfl
theorem es23 : esz Try.prog 23 = some 9 := by kernel_rfl
theorem fo25_0 : foff Try.prog 25 0 = some 0 := by kernel_rfl
theorem fo47_2 : foff Try.prog 47 2 = some 2 := by kernel_rfl
theorem fo47_3 : foff Try.prog 47 3 = some 3 := by kernel_rfl
theorem isl23 : isSl Try.prog 23 = true := by kernel_rfl
theorem mixed : Try.prog.follows .mixedOrders = true := by kernel_rfl
theorem pl25 : places Try.prog 25 = some [(0, 1)] := by kernel_rfl
theorem sc23 : sc Try.prog 23 = true := by kernel_rfl
theorem sc3 : sc Try.prog 3 = true := by kernel_rfl
theorem zc25 : zc Try.prog 25 = some [.slice none 0 0] := by kernel_rfl
end FactsUniC
open FactsUniC

def TyF (B : Nat) (H : Heap) (v : Value) (M : List (List Int)) : Prop := ∃ A cap, v = Ty A M.length cap ∧ SlT H Is 9 (.slice A M.length cap) M ∧ (M.length = 0 ∨ (B : Int) ≤ ob A)
theorem TyF.ext {B : Nat} {H H' : Heap} {v : Value} {M : List (List Int)} (h : TyF B H v M) (he : Ext H H') : TyF B H' v M := by
  obtain ⟨A, cap, h1, h2, h3⟩ := h
  exact ⟨A, cap, h1, h2.ext he, h3⟩
theorem TyF.via {B : Nat} {H H' : Heap} {S : Nat → Prop} {v : Value} {M : List (List Int)} (h : TyF B H v M) (he : But S H H') (hs : ∀ g, B ≤ g → ¬ S g) : TyF B H' v M := by
  obtain ⟨A, cap, h1, h2, h3⟩ := h
  exact ⟨A, cap, h1, h2.via he (fun h0 g hg => hs g (by omega)), h3⟩
theorem TyF.upw {B b : Nat} {H H' : Heap} {c : List Value} {v : Value} {M : List (List Int)} (h : TyF B H v M) (u : Upd H H' b c) (hb : b < B) : TyF B H' v M :=
  h.via u.but (fun g hg e => by omega)
theorem TyF.mono {B B' : Nat} {H : Heap} {v : Value} {M : List (List Int)} (h : TyF B H v M) (hb : B' ≤ B) : TyF B' H v M := by
  obtain ⟨A, cap, h1, h2, h3⟩ := h
  exact ⟨A, cap, h1, h2, by omega⟩
theorem TyF.lt {B : Nat} {H : Heap} {v : Value} {M : List (List Int)} (h : TyF B H v M) : True := trivial
theorem TyF.one {B : Nat} {H : Heap} {v : Value} {M : List (List Int)} (h : TyF B H v M) : ∃ A n c, v = .agg #[.slice A n c] := by
  obtain ⟨A, cap, h1, _⟩ := h
  exact ⟨A, _, cap, h1⟩
theorem sl_seg {H : Heap} {b o cap lo hi : Nat} {L : List (List Int)} (hS : SlT H Is 9 (.slice (some ⟨b, o, none⟩) L.length cap) L) (h1 : lo ≤ hi) (h2 : hi ≤ L.length) (h3 : lo < L.length) :
    SlT H Is 9 (.slice (some ⟨b, o + lo * 9, none⟩) (hi - lo) (cap - lo)) ((L.drop lo).take (hi - lo)) ∧ hi ≤ cap := by
  obtain ⟨A, cap', he, k1, k2, _, k4⟩ := hS
  cases he
  obtain ⟨b', o', c, hA, hB, hc⟩ := k4.resolve_left (by omega)
  cases hA
  have hl : ((L.drop lo).take (hi - lo)).length = hi - lo := by rw [List.length_take, List.length_drop]; omega
  refine ⟨⟨_, cap - lo, by rw [hl], by rw [hl]; omega, by omega, (fun h => by cases h), .inr ⟨b, o + lo * 9, c, rfl, hB, fun i hi' => ?_⟩⟩, by omega⟩
  rw [hl] at hi'
  have := hc (lo + i) (by omega)
  rw [show o + lo * 9 + i * 9 = o + (lo + i) * 9 by omega]
  refine ⟨this.1, ?_⟩
  rw [this.2]
  congr 1
  rw [List.getElem_take, List.getElem_drop]
theorem nine_seg {L : List (List Int)} (h : Nine L) (p q : Nat) : Nine ((L.drop p).take q) := fun x hx => h x (List.mem_of_mem_drop (List.mem_of_mem_take hx))
theorem part_ok {L : List (List Int)} (hL : Nine L) {A : Option Addr} {cap yb yo : Nat} {cy : List Value} (hcy : cy[yo]? = some (.slice A L.length cap)) {H : Heap} (hS : SlT H Is 9 (.slice A L.length cap) L) (hY : Blk H yb cy) (h256 : L.length ≤ 256) {z p : Int} (h0 : 0 ≤ z) (h1 : z < L.length) (hp : bgn L L.length z = p) (hp0 : 0 ≤ p) :
    Ret Try.prog 130 [ptr yb yo, I z] H (fun v H' => TyF H.size H' v ((seg L p z).map (movS (-p))) ∧ Ext H H') := by
  obtain ⟨b, o, c, rfl, _⟩ := el_cells hL hS h0 h1
  have hle := bgn_le L L.length z h0
  rw [hp] at hle
  have hsg := sl_seg (lo := p.toNat) (hi := (z + 1).toNat) hS (by omega) (by omega) (by omega)
  have hsl : ((L.drop p.toNat).take ((z + 1).toNat - p.toNat)).length = (z + 1).toNat - p.toNat := by rw [List.length_take, List.length_drop]; omega
  have hsd : seg L p z = (L.drop p.toNat).take ((z + 1).toNat - p.toNat) := by unfold seg; congr 1; omega
  have h9 := nine_seg hL p.toNat ((z + 1).toNat - p.toNat)
  rw [hsd]
  generalize (L.drop p.toNat).take ((z + 1).toNat - p.toNat) = M at hsg hsl h9
  rw [← hsl] at hsg
  refine Ret.of_at (N := 24) Try.call130 Try.func130 rfl rfl rfl ?_
  have hE := Ext.refl H
  have z_hE := hE.lt
  have z_hY := hY.lt
  refine At.region rfl rfl ?_
  refine Reg.op rfl rfl rfl rfl (Does.alloc zc25) ?_
  rintro _ H0_0 ⟨rfl, hn0_0⟩
  have z0_0 := hn0_0.size
  replace hE := hE.ext hn0_0.ext
  replace hY := hY.ext hn0_0.ext
  have o0_0 := hn0_0.own
  refine Reg.nil ?_
  refine At.region rfl rfl ?_
  refine Reg.pur rfl rfl rfl rfl (Pur.mv rfl) ?_
  refine Reg.pur rfl rfl rfl rfl (Pur.nilc rfl) ?_
  refine Reg.pur rfl rfl rfl rfl (Pur.fld _ fo25_0 rfl) ?_
  refine Reg.lod rfl rfl rfl rfl (Lod.ld sc23 rfl hY hcy) ?_
  refine Reg.pur rfl rfl rfl rfl (Pur.mv rfl) ?_
  refine Reg.op rfl rfl rfl rfl (Does.call rfl (begin_ok L hL (hS.ext hE) (by omega) L.length z h0 h1 (by omega))) ?_
  rintro _ H0_0 ⟨rfl, rfl⟩
  refine Reg.pur rfl rfl rfl rfl (Pur.asg rfl) ?_
  refine Reg.nil ?_
  refine At.region rfl rfl ?_
  rw [hp]
  refine Reg.pur rfl rfl rfl rfl (Pur.mv rfl) ?_
  refine Reg.pur rfl rfl rfl rfl (Pur.nilc rfl) ?_
  refine Reg.pur rfl rfl rfl rfl (Pur.fld _ fo25_0 rfl) ?_
  refine Reg.lod rfl rfl rfl rfl (Lod.ld sc23 rfl hY hcy) ?_
  refine Reg.pur rfl rfl rfl rfl (Pur.mv rfl) ?_
  refine Reg.pur rfl rfl rfl rfl (Pur.mv rfl) ?_
  first | refine Reg.pur rfl rfl rfl rfl (Pur.add64 rfl rfl (by omega)) ?_ | refine Reg.pur rfl rfl rfl rfl (Pur.add64 rfl rfl (by assumption)) ?_ | refine Reg.pur rfl rfl rfl rfl (Pur.add rfl rfl) ?_
  refine Reg.pur rfl rfl rfl rfl (Pur.cutB es23 rfl rfl rfl (by omega) (by omega) (by omega) (by omega)) ?_
  rw [← hsl]
  refine Reg.pur rfl rfl rfl rfl (Pur.mv rfl) ?_
  refine Reg.pur rfl rfl rfl rfl (Pur.neg64 rfl (by omega)) ?_
  refine Reg.op rfl rfl rfl rfl (Does.call rfl (moved_ok h9 (hsg.1.ext hE) (by omega) (-p))) ?_
  rintro v2_10 H2_10 ⟨⟨A', cap', rfl, hA'⟩, hS', hE2_10⟩
  have z2_10 := hE2_10.lt
  replace hE := hE.ext hE2_10
  replace hY := hY.ext hE2_10
  replace o0_0 := o0_0.ext hE2_10
  have hA2 : M.length = 0 ∨ (H0_0.size : Int) ≤ ob A' := hA'.imp id (by rintro ⟨g, hg, rfl⟩; exact Int.ofNat_le.2 hg)
  refine Reg.pur rfl rfl rfl rfl (Pur.bld (cs := [_]) pl25 zc25 rfl rfl ⟨rfl, rfl⟩) ?_
  refine Reg.op0 rfl rfl rfl (Does.stn ag25 rfl rfl (by first | rfl | exact ones_Is _) (by first | rfl | (simp [*]; done)) o0_0 (by first | decide | (simp; done) | (simp; omega) | omega)) ?_
  rintro _ H2_12 hu2_12
  have z2_12 := hu2_12.size
  replace hE := hE.upw hu2_12 (by omega)
  replace hY := hY.upw hu2_12 (by omega)
  replace o0_0 := hu2_12.own
  first | rw [over (by first | rfl | (simp; done))] at o0_0 | skip
  refine Reg.nil ?_
  refine At.retC rfl Try.func130 ⟨_, _, _, _, rfl, rfl, ⟨_, o0_0.blk, .inr ⟨_, _, ag25, (by first | exact whole rfl | exact whole (by simp [*])), (by first | rfl | simp [*]), rfl⟩⟩, rfl⟩ ?_
  refine ⟨⟨A', cap', by rw [List.length_map]; rfl, ?_, by rw [List.length_map]; omega⟩, hE⟩
  rw [List.length_map]
  exact hS'.upw hu2_12 (by omega)
theorem root_ok {L : List (List Int)} {A : Option Addr} {b o cap yb yo : Nat} {cy : List Value} (hcy : cy[yo]? = some (.slice A L.length cap)) {H : Heap} (hA : A = some ⟨b, o, none⟩) (hY : Blk H yb cy) (h256 : L.length ≤ 256) (h1 : 1 ≤ L.length) :
    Ret Try.prog 103 [ptr yb yo] H (fun v H' => v = ptr b (o + (L.length - 1) * 9) ∧ H' = H) := by
  subst hA
  refine Ret.of_at (N := 14) Try.call103 Try.func103 rfl rfl rfl ?_
  have hE := Ext.refl H

  refine At.region rfl rfl ?_
  refine Reg.pur rfl rfl rfl rfl (Pur.asg rfl) ?_
  refine Reg.nil ?_
  refine At.drawE ((Bks.cons hY.blk Bks.nil)) [] mixed rfl rfl ?_
  refine RegD.tpur (i := 0) rfl rfl rfl rfl (by kernel_rfl) (Pur.mv rfl) ?_
  refine RegD.tpur (i := 1) rfl rfl rfl rfl (by kernel_rfl) (Pur.nilc rfl) ?_
  refine RegD.tpur (i := 2) rfl rfl rfl rfl (by kernel_rfl) (Pur.fld _ fo25_0 rfl) ?_
  refine RegD.take (i := 3) rfl rfl rfl rfl (by kernel_rfl) (Bks.cons hY.blk Bks.nil) (fun H hS => Lod.ld sc23 rfl hS.hd hcy) ?_
  refine RegD.tpur (i := 4) rfl rfl rfl rfl (by kernel_rfl) (Pur.mv rfl) ?_
  refine RegD.tpur (i := 5) rfl rfl rfl rfl (by kernel_rfl) (Pur.nilc rfl) ?_
  refine RegD.tpur (i := 6) rfl rfl rfl rfl (by kernel_rfl) (Pur.fld _ fo25_0 rfl) ?_
  refine RegD.take (i := 7) rfl rfl rfl rfl (by kernel_rfl) (Bks.cons hY.blk Bks.nil) (fun H hS => Lod.ld sc23 rfl hS.hd hcy) ?_
  refine RegD.tpur (i := 8) rfl rfl rfl rfl (by kernel_rfl) (Pur.lenS isl23 rfl) ?_
  first | refine RegD.tpur (i := 9) rfl rfl rfl rfl (by kernel_rfl) (Pur.sub64 rfl rfl (by omega)) ?_ | refine RegD.tpur (i := 9) rfl rfl rfl rfl (by kernel_rfl) (Pur.sub64 rfl rfl (by assumption)) ?_ | refine RegD.tpur (i := 9) rfl rfl rfl rfl (by kernel_rfl) (Pur.sub rfl rfl) ?_
  refine RegD.tpur (i := 10) rfl rfl rfl rfl (by kernel_rfl) (Pur.idx _ es23 rfl rfl (by omega) (by omega)) ?_
  refine RegD.tpur (i := 11) rfl rfl rfl rfl (by kernel_rfl) (Pur.asg rfl) ?_
  refine RegD.done (by kernel_rfl) ?_
  refine At.ret rfl Try.func103 rfl ?_
  refine ⟨?_, rfl⟩
  rw [show ((L.length : Int) - 1).toNat = L.length - 1 by omega]
theorem sides_ok {a b : Tm} {r : List Int} (hok : (Tm.fn a r b).ok) (hsz : (Tm.fn a r b).sz ≤ 256) {A : Option Addr} {cap yb yo : Nat} {cy : List Value} (hcy : cy[yo]? = some (.slice A ((Tm.fn a r b).enc 0).length cap)) {H : Heap} (hS : SlT H Is 9 (.slice A ((Tm.fn a r b).enc 0).length cap) ((Tm.fn a r b).enc 0)) (hY : Blk H yb cy) :
    Ret Try.prog 105 [ptr yb yo] H (fun v H' => (∃ v1 v2, v = .tuple #[v1, v2] ∧ TyF H.size H' v1 (a.enc 0) ∧ TyF H.size H' v2 (b.enc 0)) ∧ Ext H H') := by
  have hL := (Tm.fn a r b).enc_nine 0 hok
  have hlen : ((Tm.fn a r b).enc 0).length = a.sz + b.sz + 1 := Tm.enc_len _ _
  have haz := a.sz_pos
  have hbz := b.sz_pos
  simp only [Tm.sz] at hsz
  obtain ⟨e1, e2, e3, e4, e5⟩ := enc_parts a r b
  have ha' := Tm.enc_mov a 0 (-0) (by omega) (by omega) (by omega) (by omega) (by omega) (by omega)
  have hb' := Tm.enc_mov b a.sz (-a.sz) (by omega) (by omega) (by omega) (by omega) (by omega) (by omega)
  rw [show (a.sz : Int) + -a.sz = 0 by omega] at hb'
  obtain ⟨b0, o0, c0, rfl, hB, hd, hx9, hat⟩ := el_cells hL hS (z := (((Tm.fn a r b).enc 0).length : Int) - 1) (by omega) (by omega)
  rw [e1] at hat
  rw [show ((((Tm.fn a r b).enc 0).length : Int) - 1).toNat = ((Tm.fn a r b).enc 0).length - 1 by omega] at hat
  generalize hLg : (Tm.fn a r b).enc 0 = L at *
  refine Ret.of_at (N := 19) Try.call105 Try.func105 rfl rfl rfl ?_
  have hE := Ext.refl H
  have z_hE := hE.lt
  have z_hY := hY.lt
  have z_hB := hB.lt
  refine At.region rfl rfl ?_
  refine Reg.op rfl rfl rfl rfl (Does.alloc zc25) ?_
  rintro _ H0_0 ⟨rfl, hn0_0⟩
  have z0_0 := hn0_0.size
  replace hE := hE.ext hn0_0.ext
  replace hY := hY.ext hn0_0.ext
  replace hB := hB.ext hn0_0.ext
  have o0_0 := hn0_0.own
  refine Reg.op rfl rfl rfl rfl (Does.alloc zc25) ?_
  rintro _ H0_1 ⟨rfl, hn0_1⟩
  have z0_1 := hn0_1.size
  replace hE := hE.ext hn0_1.ext
  replace hY := hY.ext hn0_1.ext
  replace hB := hB.ext hn0_1.ext
  replace o0_0 := o0_0.ext hn0_1.ext
  have o0_1 := hn0_1.own
  refine Reg.nil ?_
  refine At.region rfl rfl ?_
  refine Reg.pur rfl rfl rfl rfl (Pur.mv rfl) ?_
  refine Reg.op rfl rfl rfl rfl (Does.call rfl (root_ok hcy rfl hY (by omega) (by omega))) ?_
  rintro _ H0_1 ⟨rfl, rfl⟩
  refine Reg.pur rfl rfl rfl rfl (Pur.asg rfl) ?_
  refine Reg.nil ?_
  refine At.drawE ((Bks.cons hB.blk (Bks.cons hY.blk Bks.nil))) [13] mixed rfl rfl ?_
  refine RegD.tpur (i := 0) rfl rfl rfl rfl (by kernel_rfl) (Pur.mv rfl) ?_
  refine RegD.tpur (i := 1) rfl rfl rfl rfl (by kernel_rfl) (Pur.mv rfl) ?_
  refine RegD.tpur (i := 2) rfl rfl rfl rfl (by kernel_rfl) (Pur.nilc rfl) ?_
  refine RegD.tpur (i := 3) rfl rfl rfl rfl (by kernel_rfl) (Pur.fld _ fo47_2 rfl) ?_
  refine RegD.take (i := 4) rfl rfl rfl rfl (by kernel_rfl) (Bks.cons hB.blk (Bks.cons hY.blk Bks.nil)) (fun H hS => Lod.ld sc3 rfl hS.hd (hat 2 (by omega))) ?_
  refine RegD.tpur (i := 6) rfl rfl rfl rfl (by kernel_rfl) (Pur.mv rfl) ?_
  refine RegD.tpur (i := 7) rfl rfl rfl rfl (by kernel_rfl) (Pur.mv rfl) ?_
  refine RegD.tpur (i := 8) rfl rfl rfl rfl (by kernel_rfl) (Pur.nilc rfl) ?_
  refine RegD.tpur (i := 9) rfl rfl rfl rfl (by kernel_rfl) (Pur.fld _ fo47_3 rfl) ?_
  refine RegD.take (i := 10) rfl rfl rfl rfl (by kernel_rfl) (Bks.cons hB.blk (Bks.cons hY.blk Bks.nil)) (fun H hS => Lod.ld sc3 rfl hS.hd (hat 3 (by omega))) ?_
  refine RegD.one (i := 5) (by kernel_rfl) rfl rfl rfl rfl (Does.call rfl (part_ok hL hcy (hS.ext hE) hY (by omega) (z := (a.sz : Int) - 1) (p := 0) (by omega) (by omega) e2 (by omega))) ?_
  rintro v1 H2_5 ⟨hT1, hE2_5⟩
  have z2_5 := hE2_5.lt
  replace hE := hE.ext hE2_5
  replace hY := hY.ext hE2_5
  replace hB := hB.ext hE2_5
  replace o0_0 := o0_0.ext hE2_5
  replace o0_1 := o0_1.ext hE2_5
  rw [e4, ha'] at hT1
  have z_hT1 := hT1.lt
  obtain ⟨B1, n1, k1, rfl⟩ := hT1.one
  refine ⟨fun _ _ => (Bks.cons hB.blk (Bks.cons hY.blk Bks.nil)), ?_⟩
  refine RegD.one (i := 11) (by kernel_rfl) rfl rfl rfl rfl (Does.call rfl (part_ok hL hcy (hS.ext hE) hY (by omega) (z := (a.sz : Int) + b.sz - 1) (p := a.sz) (by omega) (by omega) e3 (by omega))) ?_
  rintro v2 H2_11 ⟨hT2, hE2_11⟩
  have z2_11 := hE2_11.lt
  replace hE := hE.ext hE2_11
  replace hY := hY.ext hE2_11
  replace hB := hB.ext hE2_11
  replace o0_0 := o0_0.ext hE2_11
  replace o0_1 := o0_1.ext hE2_11
  replace hT1 := hT1.ext hE2_11
  rw [e5, hb'] at hT2
  have z_hT2 := hT2.lt
  obtain ⟨B2, n2, k2, rfl⟩ := hT2.one
  refine ⟨fun _ _ => (Bks.cons hB.blk (Bks.cons hY.blk Bks.nil)), ?_⟩
  refine RegD.one0 (i := 12) (by kernel_rfl) rfl rfl rfl (Does.stn ag25 rfl rfl (by first | rfl | exact ones_Is _) (by first | rfl | (simp [*]; done)) o0_0 (by first | decide | (simp; done) | (simp; omega) | omega)) ?_
  rintro _ H2_12 hu2_12
  have z2_12 := hu2_12.size
  replace hE := hE.upw hu2_12 (by omega)
  replace hY := hY.upw hu2_12 (by omega)
  replace hB := hB.upw hu2_12 (by omega)
  replace o0_1 := o0_1.upw hu2_12 (by omega)
  replace hT1 := hT1.upw hu2_12 (by omega)
  replace hT2 := hT2.upw hu2_12 (by omega)
  replace o0_0 := hu2_12.own
  first | rw [over (by first | rfl | (simp; done))] at o0_0 | skip
  refine ⟨fun _ _ => (Bks.cons hB.blk (Bks.cons hY.blk Bks.nil)), ?_⟩
  refine RegD.one0 (i := 13) (by kernel_rfl) rfl rfl rfl (Does.stn ag25 rfl rfl (by first | rfl | exact ones_Is _) (by first | rfl | (simp [*]; done)) o0_1 (by first | decide | (simp; done) | (simp; omega) | omega)) ?_
  rintro _ H2_13 hu2_13
  have z2_13 := hu2_13.size
  replace hE := hE.upw hu2_13 (by omega)
  replace hY := hY.upw hu2_13 (by omega)
  replace hB := hB.upw hu2_13 (by omega)
  replace o0_0 := o0_0.upw hu2_13 (by omega)
  replace hT1 := hT1.upw hu2_13 (by omega)
  replace hT2 := hT2.upw hu2_13 (by omega)
  replace o0_1 := hu2_13.own
  first | rw [over (by first | rfl | (simp; done))] at o0_1 | skip
  refine ⟨fun h => (by cases h), ?_⟩
  refine RegD.done (by kernel_rfl) ?_
  refine At.retC rfl Try.func105 ⟨_, _, _, _, rfl, rfl, ⟨_, o0_0.blk, .inr ⟨_, _, ag25, (by first | exact whole rfl | exact whole (by simp [*])), (by first | rfl | simp [*]), rfl⟩⟩, ⟨_, _, _, _, rfl, rfl, ⟨_, o0_1.blk, .inr ⟨_, _, ag25, (by first | exact whole rfl | exact whole (by simp [*])), (by first | rfl | simp [*]), rfl⟩⟩, rfl⟩⟩ ?_
  exact ⟨⟨_, _, rfl, hT1.mono (by omega), hT2.mono (by omega)⟩, hE⟩
end Go.Proofs.Ytlfillhffpiffaa

namespace Go.Proofs.Ytlfillhffpiffaa
set_option linter.unusedSimpArgs false
set_option linter.unusedVariables false
set_option maxRecDepth 8000
open Go Go.Fx Go.Proofs

inductive Bt where
  | t (v : Int) (u : Tm)
  | r (v : Int) (s : List Int)
def Bt.pl : Bt → Int × Bool × List (List Int) × List Int
  | .t v u => (v, false, u.enc 0, noRow)
  | .r v s => (v, true, [], s)
def Bt.ok : Bt → Prop
  | .t v u => u.ok ∧ u.sz ≤ 256
  | .r v s => s.length = 5 ∧ rowM s = true
def findT : List Bt → Int → Option Tm
  | [], _ => none
  | .t w u :: l, v => if w = v then some u else findT l v
  | .r _ _ :: l, v => findT l v
def findR : List Bt → Int → Option (List Int)
  | [], _ => none
  | .r w s :: l, v => if w = v then some s else findR l v
  | .t _ _ :: l, v => findR l v
theorem find_T {v : Int} : ∀ {Bs : List Bd} {Ts : List Bt}, Bs.map pl = Ts.map Bt.pl → (Bs.find? (mt false v)).map (·.nodes) = (findT Ts v).map (·.enc 0)
  | [], [], _ => rfl
  | [], _ :: _, h => by simp at h
  | _ :: _, [], h => by simp at h
  | b :: Bs, .t w u :: Ts, h => by
    simp only [List.map_cons, List.cons.injEq] at h
    obtain ⟨h1, h2⟩ := h
    simp only [pl, Bt.pl, Prod.mk.injEq] at h1
    have hm : mt false v b = decide (w = v) := by unfold mt; rw [h1.2.1, h1.1]; rfl
    rw [List.find?_cons, hm]
    simp only [findT]
    by_cases hw : w = v
    · rw [if_pos hw, decide_eq_true hw]; simp only [Option.map_some]; rw [h1.2.2.1]
    · rw [if_neg hw, decide_eq_false hw]; exact find_T h2
  | b :: Bs, .r w s :: Ts, h => by
    simp only [List.map_cons, List.cons.injEq] at h
    obtain ⟨h1, h2⟩ := h
    simp only [pl, Bt.pl, Prod.mk.injEq] at h1
    have hm : mt false v b = false := by unfold mt; rw [h1.2.1]; rfl
    rw [List.find?_cons, hm]
    simp only [findT]
    exact find_T h2
theorem find_R {v : Int} : ∀ {Bs : List Bd} {Ts : List Bt}, Bs.map pl = Ts.map Bt.pl → (Bs.find? (mt true v)).map (·.row) = findR Ts v
  | [], [], _ => rfl
  | [], _ :: _, h => by simp at h
  | _ :: _, [], h => by simp at h
  | b :: Bs, .r w s :: Ts, h => by
    simp only [List.map_cons, List.cons.injEq] at h
    obtain ⟨h1, h2⟩ := h
    simp only [pl, Bt.pl, Prod.mk.injEq] at h1
    have hm : mt true v b = decide (w = v) := by unfold mt; rw [h1.2.1, h1.1]; rfl
    rw [List.find?_cons, hm]
    simp only [findR]
    by_cases hw : w = v
    · rw [if_pos hw, decide_eq_true hw]; simp only [Option.map_some]; rw [h1.2.2.2]
    · rw [if_neg hw, decide_eq_false hw]; exact find_R h2
  | b :: Bs, .t w u :: Ts, h => by
    simp only [List.map_cons, List.cons.injEq] at h
    obtain ⟨h1, h2⟩ := h
    simp only [pl, Bt.pl, Prod.mk.injEq] at h1
    have hm : mt true v b = false := by unfold mt; rw [h1.2.1]; rfl
    rw [List.find?_cons, hm]
    simp only [findR]
    exact find_R h2
def rwS (Ts : List Bt) (r : List Int) : Option (List Int) :=
  if r.getD 4 0 < 0 then some r else match findR Ts (r.getD 4 0) with
    | none => some r
    | some s => if sumOk r s then some (sumR r s) else none
def rwP (o : Option (List Int)) : List Int × Bool := match o with | some x => (x, true) | none => (noRow, false)
theorem rowS_rw {Bs : List Bd} {Ts : List Bt} (h : Bs.map pl = Ts.map Bt.pl) (r : List Int) : rowS Bs r = rwP (rwS Ts r) := by
  have hf := find_R (v := r.getD 4 0) h
  unfold rowS rwS
  split
  · rfl
  · cases hq : Bs.find? (mt true (r.getD 4 0)) with
    | none => rw [hq] at hf; rw [← hf]; rfl
    | some bd =>
      rw [hq] at hf; rw [← hf]
      simp only [Option.map_some]
      split <;> rfl
def sub (Ts : List Bt) : Tm → Option Tm
  | .bas k => some (.bas k)
  | .var v => match findT Ts v with | some u => some u | none => some (.var v)
  | .fn a r b => match sub Ts a, rwS Ts r, sub Ts b with
    | some a', some r', some b' => some (.fn a' r' b')
    | _, _, _ => none
def tys (Ts : List Bt) (t : Tm) : Option Tm := match sub Ts t with
  | some u => if u.sz ≤ 256 then some u else none
  | none => none

def tys' (n : Nat) (o : Option Tm) : Option Tm := match o with | some u => if n + u.sz ≤ 256 then some u else none | none => none
theorem ends_get {ends es fs : List Int} {j : Nat} (h : j < es.length) : (ends ++ es ++ fs).getD (ends.length + j) 0 = es.getD j 0 := by
  simp [List.getD_eq_getElem?_getD, List.getElem?_append, h]
  rw [if_neg (by omega)]; rfl
theorem go_one {Bs : List Bd} {x : List Int} {rest out m : List (List Int)} {ends : List Int} (h : moreS Bs out ends x = some m) :
    goS Bs (x :: rest) out ends = if 256 < out.length + m.length then none else goS Bs rest (out ++ m) (ends ++ [((out.length + m.length : Nat) : Int) - 1]) := by
  rw [goS_cons, h]
def GoP (Bs : List Bd) (t : Tm) (o : Option Tm) (out rest : List (List Int)) (ends : List Int) : Prop :=
  match tys' out.length o with
    | some u => ∃ es : List Int, es.length = t.sz ∧ es.getD (t.sz - 1) 0 = (out.length : Int) + u.sz - 1 ∧ goS Bs (t.enc ends.length ++ rest) out ends = goS Bs rest (out ++ u.enc out.length) (ends ++ es)
    | none => goS Bs (t.enc ends.length ++ rest) out ends = none
theorem go_leaf {Bs : List Bd} {t u : Tm} {x : List Int} {out rest : List (List Int)} {ends : List Int} (ht : t.sz = 1) (hx : t.enc ends.length = [x]) (hm : moreS Bs out ends x = some (u.enc out.length)) : GoP Bs t (some u) out rest ends := by
  unfold GoP tys'
  have h1 := go_one (rest := rest) hm
  rw [Tm.enc_len] at h1
  dsimp only
  by_cases hs : out.length + u.sz ≤ 256
  · rw [if_pos hs]
    rw [if_neg (by omega)] at h1
    refine ⟨_, ?_, ?_, by rw [hx]; exact h1⟩
    · rw [ht]; rfl
    · rw [ht]; show ((out.length + u.sz : Nat) : Int) - 1 = _; omega
  · rw [if_neg hs]
    rw [if_pos (by omega)] at h1
    dsimp only
    rw [hx]; exact h1
theorem more_var {Bs : List Bd} {Ts : List Bt} (h : Bs.map pl = Ts.map Bt.pl) (hok : ∀ b ∈ Ts, b.ok) {out : List (List Int)} (ho : out.length ≤ 256) {ends : List Int} {v : Int} :
    moreS Bs out ends (vNode v) = some ((match findT Ts v with | some u => u | none => Tm.var v).enc out.length) := by
  have hf := find_T (v := v) h
  unfold moreS
  rw [if_pos (by rfl)]
  show (match Bs.find? (mt false v) with | some bd => some (bd.nodes.map (movS out.length)) | none => some [vNode v]) = _
  cases hq : findT Ts v with
  | none =>
    rw [hq] at hf
    cases hb : Bs.find? (mt false v) with
    | none => rfl
    | some bd => rw [hb] at hf; cases hf
  | some u =>
    rw [hq] at hf
    have hu : u.sz ≤ 256 := by
      have : ∀ {l : List Bt}, (∀ b ∈ l, b.ok) → findT l v = some u → u.sz ≤ 256 := by
        intro l
        induction l with
        | nil => intro _ h; cases h
        | cons b l ih =>
          intro hl h
          cases b with
          | t w x =>
            simp only [findT] at h
            split at h
            · cases h; exact (hl _ List.mem_cons_self).2
            · exact ih (fun b hb => hl b (List.mem_cons_of_mem _ hb)) h
          | r w x => exact ih (fun b hb => hl b (List.mem_cons_of_mem _ hb)) h
      exact this hok hq
    cases hb : Bs.find? (mt false v) with
    | none => rw [hb] at hf; cases hf
    | some bd =>
      rw [hb] at hf
      simp only [Option.map_some, Option.some.injEq] at hf
      dsimp only
      rw [hf, Tm.enc_mov u 0 out.length (by omega) (by omega) (by omega) (by omega) (by omega) (by omega), Int.zero_add]
theorem go_enc {Bs : List Bd} {Ts : List Bt} (h : Bs.map pl = Ts.map Bt.pl) (hok : ∀ b ∈ Ts, b.ok) : ∀ (t : Tm) (out rest : List (List Int)) (ends : List Int), out.length ≤ 256 → GoP Bs t (sub Ts t) out rest ends
  | .bas b, out, rest, ends, ho => go_leaf rfl rfl (by cases b <;> rfl)
  | .var v, out, rest, ends, ho => by
    have := more_var h hok ho (ends := ends) (v := v)
    simp only [sub]
    cases hq : findT Ts v with
    | none => rw [hq] at this; exact go_leaf rfl rfl this
    | some u => rw [hq] at this; exact go_leaf rfl rfl this
  | .fn a r b, out, rest, ends, ho => by
    have haz := a.sz_pos
    have hbz := b.sz_pos
    have ha := go_enc h hok a out (b.enc (ends.length + a.sz) ++ fNode (ends.length + a.sz - 1) (ends.length + a.sz + b.sz - 1) r :: rest) ends ho
    have hL : (Tm.fn a r b).enc ends.length ++ rest = a.enc ends.length ++ (b.enc (ends.length + a.sz) ++ fNode (ends.length + a.sz - 1) (ends.length + a.sz + b.sz - 1) r :: rest) := by
      simp only [Tm.enc, List.append_assoc, List.singleton_append]
    unfold GoP
    rw [hL]
    unfold GoP at ha
    simp only [sub]
    cases hsa : sub Ts a with
    | none => rw [hsa] at ha; exact ha
    | some ua =>
      rw [hsa] at ha
      have huz := ua.sz_pos
      unfold tys' at ha
      dsimp only at ha
      by_cases h1 : out.length + ua.sz ≤ 256
      · rw [if_pos h1] at ha
        obtain ⟨es, hes, hel, hga⟩ := ha
        rw [hga]
        have hb := go_enc h hok b (out ++ ua.enc out.length) (fNode (ends.length + a.sz - 1) (ends.length + a.sz + b.sz - 1) r :: rest) (ends ++ es) (by rw [List.length_append, Tm.enc_len]; exact h1)
        unfold GoP at hb
        rw [List.length_append, Tm.enc_len, List.length_append, hes] at hb
        simp only [Int.natCast_add] at hb
        cases hsb : sub Ts b with
        | none =>
          rw [hsb] at hb
          have : tys' out.length (match some ua, rwS Ts r, (none : Option Tm) with | some a', some r', some b' => some (Tm.fn a' r' b') | _, _, _ => none) = none := by cases rwS Ts r <;> rfl
          rw [this]
          exact hb
        | some ub =>
          rw [hsb] at hb
          have hvz := ub.sz_pos
          unfold tys' at hb
          dsimp only at hb
          by_cases h2 : out.length + ua.sz + ub.sz ≤ 256
          · rw [if_pos h2] at hb
            obtain ⟨fs, hfs, hfl, hgb⟩ := hb
            rw [hgb]
            have hi1 : ((ends ++ es ++ fs).getD ((fNode (ends.length + a.sz - 1) (ends.length + a.sz + b.sz - 1) r).getD 2 0).toNat 0) = (out.length : Int) + ua.sz - 1 := by
              rw [show ((fNode (ends.length + a.sz - 1) (ends.length + a.sz + b.sz - 1) r).getD 2 0).toNat = ends.length + (a.sz - 1) by show ((ends.length : Int) + a.sz - 1).toNat = _; omega, ends_get (by omega), hel]
            have hi2 : ((ends ++ es ++ fs).getD ((fNode (ends.length + a.sz - 1) (ends.length + a.sz + b.sz - 1) r).getD 3 0).toNat 0) = (out.length : Int) + ua.sz + ub.sz - 1 := by
              have := ends_get (ends := ends ++ es) (es := fs) (fs := []) (j := b.sz - 1) (by omega)
              rw [List.append_nil] at this
              rw [show ((fNode (ends.length + a.sz - 1) (ends.length + a.sz + b.sz - 1) r).getD 3 0).toNat = (ends ++ es).length + (b.sz - 1) by rw [List.length_append, hes]; show ((ends.length : Int) + a.sz + b.sz - 1).toNat = _; omega, this, hfl]
            have hrow := rowS_rw h r
            have hdr : (fNode (ends.length + a.sz - 1) (ends.length + a.sz + b.sz - 1) r).drop 4 = r := rfl
            cases hr : rwS Ts r with
            | none =>
              rw [hr] at hrow
              dsimp only [tys']
              rw [goS_cons]
              have hm : moreS Bs (out ++ ua.enc out.length ++ ub.enc ((out.length : Int) + ua.sz)) (ends ++ es ++ fs) (fNode (ends.length + a.sz - 1) (ends.length + a.sz + b.sz - 1) r) = none := by
                unfold moreS
                rw [if_neg (by show ¬ (3 : Int) = 2; decide), if_pos (by rfl), hdr, hrow]
                rfl
              rw [hm]
            | some r' =>
              rw [hr] at hrow
              have hm : moreS Bs (out ++ ua.enc out.length ++ ub.enc ((out.length : Int) + ua.sz)) (ends ++ es ++ fs) (fNode (ends.length + a.sz - 1) (ends.length + a.sz + b.sz - 1) r) = some [fNode ((out.length : Int) + ua.sz - 1) ((out.length : Int) + ua.sz + ub.sz - 1) r'] := by
                unfold moreS
                rw [if_neg (by show ¬ (3 : Int) = 2; decide), if_pos (by rfl), hdr, hrow, hi1, hi2]
                rfl
              have hl : (out ++ ua.enc out.length ++ ub.enc ((out.length : Int) + ua.sz)).length = out.length + ua.sz + ub.sz := by rw [List.length_append, List.length_append, Tm.enc_len, Tm.enc_len]
              have h3 := go_one (rest := rest) hm
              rw [hl, List.length_singleton] at h3
              rw [h3]
              dsimp only [tys']
              have hz : (Tm.fn ua r' ub).sz = ua.sz + ub.sz + 1 := rfl
              have hz' : (Tm.fn a r b).sz = a.sz + b.sz + 1 := rfl
              by_cases h4 : out.length + (Tm.fn ua r' ub).sz ≤ 256
              · rw [if_pos h4, if_neg (by omega)]
                refine ⟨es ++ fs ++ [((out.length + ua.sz + ub.sz + 1 : Nat) : Int) - 1], by rw [List.length_append, List.length_append, hes, hfs]; rfl, ?_, ?_⟩
                · rw [show (Tm.fn a r b).sz - 1 = (es ++ fs).length by rw [List.length_append, hes, hfs]; rfl]
                  simp [List.getD_eq_getElem?_getD]; omega
                · simp only [Tm.enc, List.append_assoc]
              · rw [if_neg h4, if_pos (by omega)]
          · rw [if_neg h2] at hb
            have : tys' out.length (match some ua, rwS Ts r, some ub with | some a', some r', some b' => some (Tm.fn a' r' b') | _, _, _ => none) = none := by
              cases rwS Ts r with
              | none => rfl
              | some r' => dsimp only [tys']; rw [if_neg (by simp only [Tm.sz]; omega)]
            rw [this]
            exact hb
      · rw [if_neg h1] at ha
        have : tys' out.length (match some ua, rwS Ts r, sub Ts b with | some a', some r', some b' => some (Tm.fn a' r' b') | _, _, _ => none) = none := by
          cases rwS Ts r with
          | none => rfl
          | some r' =>
            cases sub Ts b with
            | none => rfl
            | some ub => dsimp only [tys']; rw [if_neg (by simp only [Tm.sz]; omega)]
        rw [this]
        exact ha
theorem typS_tys {Bs : List Bd} {Ts : List Bt} (h : Bs.map pl = Ts.map Bt.pl) (hok : ∀ b ∈ Ts, b.ok) (t : Tm) : typS Bs (t.enc 0) = (tys Ts t).map (·.enc 0) := by
  have := go_enc h hok t [] [] [] (by simp)
  unfold GoP tys' at this
  unfold typS tys
  simp only [List.append_nil, List.length_nil, Nat.zero_add, List.nil_append, Int.natCast_zero] at this
  cases hs : sub Ts t with
  | none => rw [hs] at this; exact this
  | some u =>
    rw [hs] at this
    dsimp only at this ⊢
    by_cases h1 : u.sz ≤ 256
    · rw [if_pos h1] at this ⊢
      obtain ⟨es, _, _, hg⟩ := this
      rw [hg]; rfl
    · rw [if_neg h1] at this ⊢
      exact this
end Go.Proofs.Ytlfillhffpiffaa

namespace Go.Proofs.Ytlfillhffpiffaa
set_option linter.unusedSimpArgs false
set_option linter.unusedVariables false
set_option maxRecDepth 8000
open Go Go.Fx Go.Proofs
namespace FactsUniA
theorem ag26 : ag Try.prog 26 = some 4 := by kernel_rfl
theorem ag49 : ag Try.prog 49 = some 8 := by kernel_rfl
theorem arr26 : arr Try.prog 26 = some (4, 1) := by kernel_rfl
theorem fo28_0 : foff Try.prog 28 0 = some 0 := by kernel_rfl
theorem pl28 : places Try.prog 28 = some [(0, 4), (4, 1)] := by kernel_rfl
theorem pl49 : places Try.prog 49 = some [(0, 1), (1, 1), (2, 1), (3, 5)] := by kernel_rfl
theorem sc3 : sc Try.prog 3 = true := by kernel_rfl
theorem zc26 : zc Try.prog 26 = some [.int .i64 0, .int .i64 0, .int .i64 0, .int .i64 0] := by kernel_rfl
theorem zc28 : zc Try.prog 28 = some [.int .i64 0, .int .i64 0, .int .i64 0, .int .i64 0, .int .i64 0] := by kernel_rfl
theorem zc49 : zc Try.prog 49 = some [.int .i64 0, .bool false, .slice none 0 0, .int .i64 0, .int .i64 0, .int .i64 0, .int .i64 0, .int .i64 0] := by kernel_rfl
end FactsUniA
open FactsUniA

theorem min_fold {P : Program} (w : World) : ∀ (l : List Int) (a : Int), ((l.map (Value.int .i64)).foldlM Builtin.min2 (.int .i64 a)).run P w = .ok (.int .i64 (l.foldl min a)) w
  | [], a => by simp
  | b :: l, a => by
    have h : (if b < a then b else a) = min a b := by omega
    simp only [List.map_cons, List.foldlM_cons, Sem.run_bind, Builtin.min2, Sem.run_pure, Result.andThen_ok, List.foldl_cons, h, min_fold w l]
theorem Pur.mins {P : Program} {dst ty pos aft gd} {e : Env} (l : List Int) {xs : List Operand} {ats : Array TypeId} {a : Int} (hx : evs e xs = some (.int .i64 a :: l.map (Value.int .i64))) :
    Pur P ⟨dst, .call { callee := .builtin .min, args := xs.toArray, argTypes := ats }, ty, pos, aft, gd⟩ e (.int .i64 (l.foldl min a)) := by
  intro A w hA
  obtain ⟨cs, h⟩ := run_call_builtin (P := P) (dst := dst) (b := .min) (xs := xs) (ats := ats) (ty := ty) (pos := pos) (aft := aft) (gd := gd) A w hA hx
  rw [h]
  simp only [builtin, Builtin.min_, Sem.run_bind, min_fold, Result.andThen_ok, Sem.run_pure]
theorem Pur.min2 {P : Program} {dst ty pos aft gd} {e : Env} {t : TypeId} {x y : Operand} {a b : Int} (hx : ev e x = some (.int .i64 a)) (hy : ev e y = some (.int .i64 b)) :
    Pur P ⟨dst, .call { callee := .builtin .min, args := #[x, y], argTypes := #[t, t] }, ty, pos, aft, gd⟩ e (.int .i64 (min a b)) :=
  Pur.mins [b] (xs := [x, y]) (by simp [evs, hx, hy])

def sb1 (a b : List Int) (i : Nat) : Int := if b.getD i 0 < a.getD i 0 then a.getD i 0 - b.getD i 0 else 0
def subC (a b : List Int) : List Int := (List.range 4).map (sb1 a b)
def mixS (a b : List Int) (i : Nat) : List Int := (List.range 4).map fun j => if j < i then sb1 a b j else 0
def moreTo (a b : List Int) (i : Nat) : Bool := (List.range i).any fun i => decide (b.getD i 0 < a.getD i 0)
def moreC (a b : List Int) : Bool := moreTo a b 4
theorem subC_len (a b : List Int) : (subC a b).length = 4 := rfl
theorem mixS_len (a b : List Int) (i : Nat) : (mixS a b i).length = 4 := rfl
theorem mixS_set (a b : List Int) {i : Nat} (h : i < 4) : (mixS a b i).set i (sb1 a b i) = mixS a b (i + 1) := by
  apply List.ext_getElem (by simp [mixS])
  intro j h1 h2
  rw [List.getElem_set]
  by_cases hj : i = j
  · subst hj; simp [mixS]
  · rw [if_neg hj]
    simp [mixS]
    by_cases hk : j < i
    · rw [if_pos hk, if_pos (by omega)]
    · rw [if_neg hk, if_neg (by omega)]
theorem mixS_same (a b : List Int) {i : Nat} (h : i < 4) (hk : ¬ b.getD i 0 < a.getD i 0) : mixS a b (i + 1) = mixS a b i := by
  have hz : sb1 a b i = 0 := if_neg hk
  apply List.ext_getElem (by simp [mixS])
  intro j h1 h2
  simp only [mixS, List.getElem_map, List.getElem_range]
  by_cases hj : i = j
  · subst hj; rw [if_pos (by omega), if_neg (by omega), hz]
  · by_cases hk : j < i
    · rw [if_pos hk, if_pos (by omega)]
    · rw [if_neg hk, if_neg (by omega)]
theorem moreTo_succ (a b : List Int) (i : Nat) : moreTo a b (i + 1) = (moreTo a b i || decide (b.getD i 0 < a.getD i 0)) := by
  simp [moreTo, List.range_succ]
theorem rowM_all {r : List Int} (h : rowM r = true) {i : Nat} (hi : i < 4) (hl : r.length = 5) : 0 ≤ r.getD i 0 ∧ r.getD i 0 ≤ 32 := by
  unfold rowM at h
  simp only [Bool.and_eq_true] at h
  have := List.all_eq_true.1 h.1 (r.getD i 0) (by
    rw [← take4_at hl hi]; exact List.getElem_mem _)
  simpa [okc] using this
theorem rowM_t {r : List Int} (h : rowM r = true) : -1 ≤ r.getD 4 0 ∧ r.getD 4 0 < 4096 := by
  unfold rowM at h
  simp only [Bool.and_eq_true, decide_eq_true_eq] at h
  exact h.2

theorem rowLess_ok {ab bb : Nat} (a b : List Int) (ha5 : a.length = 5) (hb5 : b.length = 5) (hra : rowM a = true) (hrb : rowM b = true) {H : Heap} (hA : Blk H ab (Is a)) (hB : Blk H bb (Is b)) :
    Ret Try.prog 139 [ptr ab 0, ptr bb 0] H (fun v H' => v = .tuple #[.agg (Is (subC a b)).toArray, .bool (moreC a b)] ∧ Ext H H') := by
  refine Ret.of_at (N := 39) Try.call139 Try.func139 rfl rfl rfl ?_
  have hE := Ext.refl H
  have z_hE := hE.lt
  have z_hA := hA.lt
  have z_hB := hB.lt
  refine At.region rfl rfl ?_
  refine Reg.op rfl rfl rfl rfl (Does.alloc zc26) ?_
  rintro _ H0_0 ⟨rfl, hn0_0⟩
  have z0_0 := hn0_0.size
  replace hE := hE.ext hn0_0.ext
  replace hA := hA.ext hn0_0.ext
  replace hB := hB.ext hn0_0.ext
  have o0_0 := hn0_0.own
  refine Reg.pur rfl rfl rfl rfl (Pur.asg rfl) ?_
  refine Reg.nil ?_
  refine At.region rfl rfl ?_
  refine Reg.op rfl rfl rfl rfl (Does.alloc zc26) ?_
  rintro _ H1_0 ⟨rfl, hn1_0⟩
  have z1_0 := hn1_0.size
  replace hE := hE.ext hn1_0.ext
  replace hA := hA.ext hn1_0.ext
  replace hB := hB.ext hn1_0.ext
  replace o0_0 := o0_0.ext hn1_0.ext
  have o1_0 := hn1_0.own
  refine Reg.nil ?_
  refine At.region rfl rfl ?_
  refine Reg.pur rfl rfl rfl rfl (Pur.asg rfl) ?_
  refine Reg.nil ?_
  refine At.region rfl rfl ?_
  refine Reg.pur rfl rfl rfl rfl (Pur.mv rfl) ?_
  refine Reg.pur rfl rfl rfl rfl (Pur.nilc rfl) ?_
  refine Reg.pur rfl rfl rfl rfl (Pur.fld _ fo28_0 rfl) ?_
  refine Reg.lod rfl rfl rfl rfl (Lod.ldn ag26 rfl hA (show _ = Is (a.take 4) by simp [Is, List.map_take]) (by simp [ha5])) ?_
  refine Reg.pur rfl rfl rfl rfl (Pur.mv rfl) ?_
  refine Reg.nil ?_
  refine At.loop (σ := Nat) (fun i => [(14, I i), (13, .agg (Is (a.take 4)).toArray), (7, .bool (moreTo a b i)), (1, ptr bb 0), (6, ptr H0_0.size 0), (4, ptr H.size 0)]) (fun i H' => i ≤ 4 ∧ Own H' H0_0.size (Is (mixS a b i)) ∧ Own H' H.size [I 0, I 0, I 0, I 0] ∧ Blk H' bb (Is b) ∧ Ext H H') (fun i => 4 - i) 0 rfl ⟨rfl, rfl, rfl, rfl, rfl, rfl, trivial⟩ ⟨by omega, o1_0, o0_0, hB, hE⟩ ?_
  have hlt0 := hn0_0.size
  rintro i H3 ⟨hi, o1_0, o0_0, hB, hE⟩ ih
  have hbb := hB.lt
  have z_hE := hE.lt
  have z_hB := hB.lt
  have z_o0_0 := o0_0.lt
  have z_o1_0 := o1_0.lt
  refine At.region rfl rfl ?_
  refine Reg.pur rfl rfl rfl rfl (Pur.lss rfl rfl) ?_
  refine Reg.nil ?_
  refine At.cond rfl rfl (fun q15 => ?_) (fun q15 => ?_)
  · first | (simp only [decide_eq_true_eq, decide_eq_false_iff_not, Bool.not_eq_true', Bool.not_eq_false', ne_eq, Decidable.not_not, Bool.not_eq_true, Bool.not_eq_false] at q15) | (dsimp only at q15) | skip
    have hi4 : i < 4 := by omega
    have ha1 := rowM_all hra hi4 ha5
    have hb1 := rowM_all hrb hi4 hb5
    have hbi : (Is b)[0 + 0 + (i : Int).toNat * 1]? = some (I (b.getD i 0)) := by rw [Int.toNat_natCast, show 0 + 0 + i * 1 = i by omega]; exact at_Is (by omega)
    refine At.region rfl rfl ?_
    refine Reg.pur rfl rfl rfl rfl (Pur.mv rfl) ?_
    refine Reg.pur rfl rfl rfl rfl (Pur.ixA (n := 4) (by kernel_rfl) rfl rfl (by omega) (by omega) (by rw [Int.toNat_natCast]; exact take4_Is ha5 hi4)) ?_
    refine Reg.pur rfl rfl rfl rfl (Pur.asg rfl) ?_
    refine Reg.pur rfl rfl rfl rfl (Pur.asg rfl) ?_
    refine Reg.nil ?_
    refine At.region rfl rfl ?_
    refine Reg.pur rfl rfl rfl rfl (Pur.mv rfl) ?_
    refine Reg.pur rfl rfl rfl rfl (Pur.mv rfl) ?_
    refine Reg.pur rfl rfl rfl rfl (Pur.mv rfl) ?_
    refine Reg.pur rfl rfl rfl rfl (Pur.nilc rfl) ?_
    refine Reg.pur rfl rfl rfl rfl (Pur.fld _ fo28_0 rfl) ?_
    refine Reg.pur rfl rfl rfl rfl (Pur.idxP arr26 rfl rfl (by omega) (by omega)) ?_
    refine Reg.lod rfl rfl rfl rfl (Lod.ld sc3 rfl hB hbi) ?_
    refine Reg.pur rfl rfl rfl rfl (Pur.gtr rfl rfl) ?_
    refine Reg.nil ?_
    refine At.cond rfl rfl (fun q25 => ?_) (fun q25 => ?_)
    · first | (simp only [decide_eq_true_eq, decide_eq_false_iff_not, Bool.not_eq_true', Bool.not_eq_false', ne_eq, Decidable.not_not, Bool.not_eq_true, Bool.not_eq_false] at q25) | (dsimp only at q25) | skip
      refine At.region rfl rfl ?_
      refine Reg.pur rfl rfl rfl rfl (Pur.mv rfl) ?_
      refine Reg.pur rfl rfl rfl rfl (Pur.mv rfl) ?_
      refine Reg.pur rfl rfl rfl rfl (Pur.mv rfl) ?_
      refine Reg.pur rfl rfl rfl rfl (Pur.mv rfl) ?_
      refine Reg.pur rfl rfl rfl rfl (Pur.nilc rfl) ?_
      refine Reg.pur rfl rfl rfl rfl (Pur.fld _ fo28_0 rfl) ?_
      refine Reg.pur rfl rfl rfl rfl (Pur.idxP arr26 rfl rfl (by omega) (by omega)) ?_
      refine Reg.lod rfl rfl rfl rfl (Lod.ld sc3 rfl hB hbi) ?_
      first | refine Reg.pur rfl rfl rfl rfl (Pur.sub64 rfl rfl (by omega)) ?_ | refine Reg.pur rfl rfl rfl rfl (Pur.sub64 rfl rfl (by assumption)) ?_ | refine Reg.pur rfl rfl rfl rfl (Pur.sub rfl rfl) ?_
      refine Reg.pur rfl rfl rfl rfl (Pur.idxP arr26 rfl rfl (by omega) (by omega)) ?_
      refine Reg.op0 rfl rfl rfl (Does.st sc3 rfl rfl rfl o1_0 (by rw [List.length_map, mixS_len]; omega)) ?_
      rintro _ H7_10 hu7_10
      have z7_10 := hu7_10.size
      replace hE := hE.upw hu7_10 (by omega)
      replace hB := hB.upw hu7_10 (by omega)
      replace o0_0 := o0_0.upw hu7_10 (by omega)
      replace o1_0 := hu7_10.own
      refine Reg.pur rfl rfl rfl rfl (Pur.asg rfl) ?_
      refine Reg.nil ?_
      refine At.region rfl rfl ?_
      first | refine Reg.pur rfl rfl rfl rfl (Pur.add64 rfl rfl (by omega)) ?_ | refine Reg.pur rfl rfl rfl rfl (Pur.add64 rfl rfl (by assumption)) ?_ | refine Reg.pur rfl rfl rfl rfl (Pur.add rfl rfl) ?_
      refine Reg.pur rfl rfl rfl rfl (Pur.mv rfl) ?_
      refine Reg.nil ?_
      have hm : moreTo a b (i + 1) = true := by rw [moreTo_succ, decide_eq_true q25]; simp
      have hs : sb1 a b i = a.getD i 0 - b.getD i 0 := if_pos q25
      refine At.via (ih (i + 1) _ ⟨by omega, o1_0.of ?_, o0_0, hB, hE⟩ (by omega)) ⟨rfl, rfl, ?_, rfl, rfl, rfl, trivial⟩
      · rw [← mixS_set a b hi4, hs, Nat.zero_add, Nat.mul_one, Int.toNat_natCast]; simp [Is, List.map_set]
      · rw [hm]; rfl
    first | (simp only [decide_eq_true_eq, decide_eq_false_iff_not, Bool.not_eq_true', Bool.not_eq_false', ne_eq, Decidable.not_not, Bool.not_eq_true, Bool.not_eq_false] at q25) | (dsimp only at q25) | skip
    refine At.region rfl rfl ?_
    first | refine Reg.pur rfl rfl rfl rfl (Pur.add64 rfl rfl (by omega)) ?_ | refine Reg.pur rfl rfl rfl rfl (Pur.add64 rfl rfl (by assumption)) ?_ | refine Reg.pur rfl rfl rfl rfl (Pur.add rfl rfl) ?_
    refine Reg.pur rfl rfl rfl rfl (Pur.mv rfl) ?_
    refine Reg.nil ?_
    have hm : moreTo a b (i + 1) = moreTo a b i := by rw [moreTo_succ, decide_eq_false q25]; simp
    refine At.via (ih (i + 1) _ ⟨by omega, o1_0.of (by rw [mixS_same a b hi4 q25]), o0_0, hB, hE⟩ (by omega)) ⟨rfl, rfl, by rw [hm]; rfl, rfl, rfl, rfl, trivial⟩
  first | (simp only [decide_eq_true_eq, decide_eq_false_iff_not, Bool.not_eq_true', Bool.not_eq_false', ne_eq, Decidable.not_not, Bool.not_eq_true, Bool.not_eq_false] at q15) | (dsimp only at q15) | skip
  refine At.region rfl rfl ?_
  refine Reg.lod rfl rfl rfl rfl (Lod.ldn ag26 rfl o1_0.blk (by first | exact whole rfl | rfl | (simp only [List.drop_succ_cons, List.drop_zero, List.take_succ_cons, List.take_zero]; rfl)) (by first | rfl | (simp [*]; done))) ?_
  refine Reg.pur rfl rfl rfl rfl (Pur.mv rfl) ?_
  refine Reg.op0 rfl rfl rfl (Does.stn ag26 rfl rfl (by first | rfl | exact ones_Is _) (by first | rfl | (simp [*]; done)) o0_0 (by first | decide | (simp; done) | (simp; omega) | omega)) ?_
  rintro _ H9_2 hu9_2
  have z9_2 := hu9_2.size
  replace hE := hE.upw hu9_2 (by omega)
  replace hB := hB.upw hu9_2 (by omega)
  replace o1_0 := o1_0.upw hu9_2 (by omega)
  replace o0_0 := hu9_2.own
  first | rw [over (by first | rfl | (simp; done))] at o0_0 | skip
  refine Reg.pur rfl rfl rfl rfl (Pur.asg rfl) ?_
  refine Reg.nil ?_
  refine At.retC rfl Try.func139 ⟨_, _, _, _, rfl, rfl, ⟨_, o0_0.blk, .inr ⟨_, _, ag26, (by first | exact whole rfl | exact whole (by simp [*])), (by first | rfl | simp [*]), rfl⟩⟩, ⟨_, _, rfl, rfl, rfl⟩⟩ ?_
  obtain rfl : i = 4 := by omega
  exact ⟨rfl, hE⟩

theorem rowBind_ok (v t : Int) (c : List Int) (hc : c.length = 4) {H : Heap} : Ret Try.prog 140 [I v, .agg (Is c).toArray, I t] H (fun r H' => r = .agg (encB (bR v (c ++ [t]))).toArray ∧ Ext H H') := by
  obtain ⟨c0, c1, c2, c3, rfl⟩ : ∃ c0 c1 c2 c3, c = [c0, c1, c2, c3] := by
    match c, hc with
    | [c0, c1, c2, c3], _ => exact ⟨c0, c1, c2, c3, rfl⟩
  refine Ret.of_at (N := 12) Try.call140 Try.func140 rfl rfl rfl ?_
  have hE := Ext.refl H
  have z_hE := hE.lt
  refine At.region rfl rfl ?_
  refine Reg.op rfl rfl rfl rfl (Does.box rfl rfl) ?_
  rintro _ H0_0 ⟨rfl, hn0_0⟩
  have z0_0 := hn0_0.size
  replace hE := hE.ext hn0_0.ext
  have o0_0 := hn0_0.own
  refine Reg.op rfl rfl rfl rfl (Does.alloc zc49) ?_
  rintro _ H0_1 ⟨rfl, hn0_1⟩
  have z0_1 := hn0_1.size
  replace hE := hE.ext hn0_1.ext
  replace o0_0 := o0_0.ext hn0_1.ext
  have o0_1 := hn0_1.own
  refine Reg.nil ?_
  refine At.region rfl rfl ?_
  refine Reg.pur rfl rfl rfl rfl (Pur.mv rfl) ?_
  refine Reg.lod rfl rfl rfl rfl (Lod.ldn ag26 rfl o0_0.blk (by first | exact whole rfl | rfl | (simp only [List.drop_succ_cons, List.drop_zero, List.take_succ_cons, List.take_zero]; rfl)) (by first | rfl | (simp [*]; done))) ?_
  refine Reg.pur rfl rfl rfl rfl (Pur.mv rfl) ?_
  refine Reg.pur rfl rfl rfl rfl (Pur.bld (cs := [_, _, _, _, _]) pl28 zc28 rfl rfl ⟨rfl, rfl, rfl, rfl, rfl, rfl⟩) ?_
  refine Reg.pur rfl rfl rfl rfl (Pur.bld (cs := [_, _, _, _, _, _, _, _]) pl49 zc49 rfl rfl ⟨rfl, rfl, rfl, rfl, rfl, rfl, rfl, rfl, rfl⟩) ?_
  refine Reg.op0 rfl rfl rfl (Does.stn ag49 rfl rfl (by first | rfl | exact ones_Is _) (by first | rfl | (simp [*]; done)) o0_1 (by first | decide | (simp; done) | (simp; omega) | omega)) ?_
  rintro _ H1_5 hu1_5
  have z1_5 := hu1_5.size
  replace hE := hE.upw hu1_5 (by omega)
  replace o0_0 := o0_0.upw hu1_5 (by omega)
  replace o0_1 := hu1_5.own
  first | rw [over (by first | rfl | (simp; done))] at o0_1 | skip
  refine Reg.nil ?_
  refine At.retC rfl Try.func140 ⟨_, _, _, _, rfl, rfl, ⟨_, o0_1.blk, .inr ⟨_, _, ag49, (by first | exact whole rfl | exact whole (by simp [*])), (by first | rfl | simp [*]), rfl⟩⟩, rfl⟩ ?_
  exact ⟨rfl, hE⟩
theorem rowBindR_ok (v t : Int) (c : List Int) (hc : c.length = 4) {H : Heap} : Ret Try.prog 137 [I v, .agg (Is c).toArray, I t] H (fun r H' => r = .agg (encB (bR v (c ++ [t]))).toArray ∧ Ext H H') := by
  obtain ⟨c0, c1, c2, c3, rfl⟩ : ∃ c0 c1 c2 c3, c = [c0, c1, c2, c3] := by
    match c, hc with
    | [c0, c1, c2, c3], _ => exact ⟨c0, c1, c2, c3, rfl⟩
  refine Ret.of_at (N := 12) Try.call137 Try.func137 rfl rfl rfl ?_
  have hE := Ext.refl H
  have z_hE := hE.lt
  refine At.region rfl rfl ?_
  refine Reg.op rfl rfl rfl rfl (Does.box rfl rfl) ?_
  rintro _ H0_0 ⟨rfl, hn0_0⟩
  have z0_0 := hn0_0.size
  replace hE := hE.ext hn0_0.ext
  have o0_0 := hn0_0.own
  refine Reg.op rfl rfl rfl rfl (Does.alloc zc49) ?_
  rintro _ H0_1 ⟨rfl, hn0_1⟩
  have z0_1 := hn0_1.size
  replace hE := hE.ext hn0_1.ext
  replace o0_0 := o0_0.ext hn0_1.ext
  have o0_1 := hn0_1.own
  refine Reg.nil ?_
  refine At.region rfl rfl ?_
  refine Reg.pur rfl rfl rfl rfl (Pur.mv rfl) ?_
  refine Reg.lod rfl rfl rfl rfl (Lod.ldn ag26 rfl o0_0.blk (by first | exact whole rfl | rfl | (simp only [List.drop_succ_cons, List.drop_zero, List.take_succ_cons, List.take_zero]; rfl)) (by first | rfl | (simp [*]; done))) ?_
  refine Reg.pur rfl rfl rfl rfl (Pur.mv rfl) ?_
  refine Reg.pur rfl rfl rfl rfl (Pur.bld (cs := [_, _, _, _, _]) pl28 zc28 rfl rfl ⟨rfl, rfl, rfl, rfl, rfl, rfl⟩) ?_
  refine Reg.pur rfl rfl rfl rfl (Pur.bld (cs := [_, _, _, _, _, _, _, _]) pl49 zc49 rfl rfl ⟨rfl, rfl, rfl, rfl, rfl, rfl, rfl, rfl, rfl⟩) ?_
  refine Reg.op0 rfl rfl rfl (Does.stn ag49 rfl rfl (by first | rfl | exact ones_Is _) (by first | rfl | (simp [*]; done)) o0_1 (by first | decide | (simp; done) | (simp; omega) | omega)) ?_
  rintro _ H1_5 hu1_5
  have z1_5 := hu1_5.size
  replace hE := hE.upw hu1_5 (by omega)
  replace o0_0 := o0_0.upw hu1_5 (by omega)
  replace o0_1 := hu1_5.own
  first | rw [over (by first | rfl | (simp; done))] at o0_1 | skip
  refine Reg.nil ?_
  refine At.retC rfl Try.func137 ⟨_, _, _, _, rfl, rfl, ⟨_, o0_1.blk, .inr ⟨_, _, ag49, (by first | exact whole rfl | exact whole (by simp [*])), (by first | rfl | simp [*]), rfl⟩⟩, rfl⟩ ?_
  exact ⟨rfl, hE⟩
end Go.Proofs.Ytlfillhffpiffaa

