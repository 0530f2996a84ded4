/-
  The reference's typeOf.
-/
import Derived.Test.YtlfillhffpiffaaSubK
import Derived.Test.YtlfillhffpiffaaFxM
namespace Go.Proofs.Ytlfillhffpiffaa
set_option linter.unusedSimpArgs false
set_option linter.unusedVariables false
set_option maxRecDepth 8000
open Go Go.Fx Go.Proofs
namespace FactsSubL
theorem ag25 : ag Try.prog 25 = some 1 := by kernel_rfl
theorem ag28 : ag Try.prog 28 = some 5 := by kernel_rfl
theorem ag47 : ag Try.prog 47 = some 9 := by kernel_rfl
theorem apt23 : appT Try.prog 23 = some (47, 9, 72) := by kernel_rfl
theorem apt54 : appT Try.prog 54 = some (3, 1, 8) := by kernel_rfl
theorem es22 : esz Try.prog 22 = some 8 := by kernel_rfl
theorem es23 : esz Try.prog 23 = some 9 := by kernel_rfl
theorem es54 : esz Try.prog 54 = some 1 := by kernel_rfl
theorem fo25_0 : foff Try.prog 25 0 = some 0 := by kernel_rfl
theorem fo47_0 : foff Try.prog 47 0 = some 0 := by kernel_rfl
theorem fo47_1 : foff Try.prog 47 1 = some 1 := by kernel_rfl
theorem fo47_2 : foff Try.prog 47 2 = some 2 := by kernel_rfl
theorem fo47_3 : foff Try.prog 47 3 = some 3 := by kernel_rfl
theorem fo47_4 : foff Try.prog 47 4 = some 4 := by kernel_rfl
theorem fo49_0 : foff Try.prog 49 0 = some 0 := by kernel_rfl
theorem fo49_1 : foff Try.prog 49 1 = some 1 := by kernel_rfl
theorem fo49_2 : foff Try.prog 49 2 = some 2 := by kernel_rfl
theorem isl22 : isSl Try.prog 22 = true := by kernel_rfl
theorem isl23 : isSl Try.prog 23 = true := by kernel_rfl
theorem mixed : Try.prog.follows .mixedOrders = true := by kernel_rfl
theorem pl25 : places Try.prog 25 = some [(0, 1)] := by kernel_rfl
theorem sc23 : sc Try.prog 23 = true := by kernel_rfl
theorem sc3 : sc Try.prog 3 = true := by kernel_rfl
theorem sc4 : sc Try.prog 4 = true := by kernel_rfl
theorem sl1_54 : sl1 Try.prog 54 = true := by kernel_rfl
theorem slA23 : slA Try.prog 23 = some (47, 9) := by kernel_rfl
theorem zc25 : zc Try.prog 25 = some [.slice none 0 0] := by kernel_rfl
theorem zc28 : zc Try.prog 28 = some [.int .i64 0, .int .i64 0, .int .i64 0, .int .i64 0, .int .i64 0] := by kernel_rfl
theorem zc47 : zc Try.prog 47 = some [.int .i64 0, .int .i64 0, .int .i64 0, .int .i64 0, .int .i64 0, .int .i64 0, .int .i64 0, .int .i64 0, .int .i64 0] := by kernel_rfl
end FactsSubL
open FactsSubL

theorem movS_not3 {k : Int} {x : List Int} (h : ¬ x.getD 0 0 = 3) : movS k x = x := by unfold movS; rw [if_neg h]
theorem map1_mov {k : Int} {U : List (List Int)} {j : Nat} (h : j < U.length) : (U.take (j + 1)).map (movS k) = (U.take j).map (movS k) ++ [movS k U[j]] := by
  rw [List.take_succ_eq_append_getElem h, List.map_append]; rfl
theorem nine_app {L M : List (List Int)} (h : Nine L) (h' : Nine M) : Nine (L ++ M) := fun x hx => (List.mem_append.1 hx).elim (h x) (h' x)

theorem typeOf_ok {A A1 : Option Addr} {cap cap1 : Nat} {Bs : List Bd} {L : List (List Int)} {H : Heap} (hB : Bds H (.slice A Bs.length cap) Bs) (h256 : ∀ b ∈ Bs, b.nodes.length ≤ 256) (hS : SlT H Is 9 (.slice A1 L.length cap1) L) (hL : Nine L) (hM : typM L = true) :
    Ret Try.prog 57 [.slice A Bs.length cap, Ty A1 L.length cap1] H (fun v H' => Ext H H' ∧ TypB H.size H' v (typS Bs L)) := by
  have hlen : 1 ≤ L.length ∧ L.length ≤ 256 := by unfold typM at hM; simp only [Bool.and_eq_true, decide_eq_true_eq] at hM; exact hM.1.1
  have hbl : Bs.length ≤ 9223372036854775807 := hB.max
  refine Ret.of_at (N := 140) Try.call57 Try.func57 rfl rfl rfl ?_
  have hE := Ext.refl H
  refine At.region rfl rfl ?_
  refine Reg.op rfl rfl rfl rfl (Does.box rfl rfl) ?_
  rintro _ H0_0 ⟨rfl, hn0_0⟩
  have z0_0 := hn0_0.size
  replace hE := hE.ext hn0_0.ext
  have o0_0 := hn0_0.own
  refine Reg.op rfl rfl rfl rfl (Does.alloc zc25) ?_
  rintro _ H0_1 ⟨rfl, hn0_1⟩
  have z0_1 := hn0_1.size
  replace hE := hE.ext hn0_1.ext
  replace o0_0 := o0_0.ext hn0_1.ext
  have o0_1 := hn0_1.own
  refine Reg.pur rfl rfl rfl rfl (Pur.asg rfl) ?_
  refine Reg.nil ?_
  refine At.region rfl rfl ?_
  refine Reg.pur rfl rfl rfl rfl (Pur.asg rfl) ?_
  refine Reg.nil ?_
  refine At.region rfl rfl ?_
  refine Reg.pur rfl rfl rfl rfl (Pur.asg rfl) ?_
  refine Reg.nil ?_
  refine At.region rfl rfl ?_
  refine Reg.pur rfl rfl rfl rfl (Pur.asg rfl) ?_
  refine Reg.nil ?_
  refine At.loop (σ := Nat × List (List Int) × List Int × Option Addr × Nat × Option Addr × Nat) (fun (i, out, ends, A', cap', A2, cap2) => [(8, I i), (6, .slice A' out.length cap'), (7, .slice A2 ends.length cap2), (0, .slice A Bs.length cap), (3, ptr H.size 0), (4, ptr H0_0.size 0)]) (fun (i, out, ends, A', cap', A2, cap2) H' => i ≤ L.length ∧ out.length ≤ 256 ∧ ends.length = i ∧ Nine out ∧ Gs H' H0_1.size 47 9 A' cap' out.length (out.flatMap Is) ∧ Gs H' H0_1.size 3 1 A2 cap2 ends.length (ends.flatMap e1) ∧ (ob A' = -1 ∨ ob A' ≠ ob A2) ∧ Own H' H.size [.slice A1 L.length cap1] ∧ Own H' H0_0.size [.slice none 0 0] ∧ Ext H H' ∧ goS Bs (L.drop i) out ends = typS Bs L) (fun s => L.length - s.1) (0, [], [], none, 0, none, 0) rfl ⟨rfl, rfl, rfl, rfl, rfl, rfl, trivial⟩ ⟨by omega, by simp, rfl, (fun x hx => by cases hx), OwnS.nilG, OwnS.nilG, .inl rfl, o0_0, o0_1, hE, rfl⟩ ?_
  clear hE o0_0 o0_1
  rintro ⟨i, out, ends, A', cap', A2, cap2⟩ H3 ⟨hi, hol, hel, hN, hg1, hg2, hap, o0_0, o0_1, hE, hgo⟩ ih
  dsimp only at hi hol hel hN hg1 hg2 hap hgo ⊢
  have z_hE := hE.lt
  have z_o0_0 := o0_0.lt
  have z_o0_1 := o0_1.lt
  have z_hg1 := hg1.lt
  have z_hg2 := hg2.lt
  refine At.region rfl rfl ?_
  refine Reg.pur rfl rfl rfl rfl (Pur.mv rfl) ?_
  refine Reg.pur rfl rfl rfl rfl (Pur.fld _ fo25_0 rfl) ?_
  refine Reg.lod rfl rfl rfl rfl (Lod.ld sc23 rfl o0_0.blk (by first | rfl | (simp; done))) ?_
  refine Reg.pur rfl rfl rfl rfl (Pur.lenS isl23 rfl) ?_
  refine Reg.pur rfl rfl rfl rfl (Pur.lss rfl rfl) ?_
  refine Reg.nil ?_
  refine At.cond rfl rfl (fun q21 => ?_) (fun q21 => ?_)
  · first | (simp only [decide_eq_true_eq, decide_eq_false_iff_not, Bool.not_eq_true', Bool.not_eq_false', ne_eq, Decidable.not_not, Bool.not_eq_true, Bool.not_eq_false] at q21) | (dsimp only at q21) | skip
    have hlt : i < L.length := by omega
    obtain ⟨b, o, c, rfl, hB0, hd, h9⟩ := sl_at (wide9 hL) (hS.ext hE) hlt
    have h9' := hL _ (List.getElem_mem hlt)
    have hfun := typM_all hM hlt
    have hnod := typM_nod hM hlt
    rw [dropL hlt, goS] at hgo
    generalize L[i] = x at hgo hd h9 h9' hfun hnod
    obtain ⟨k, v, p, q, c0, c1, c2, c3, t, rfl⟩ : ∃ k v p q c0 c1 c2 c3 t, x = [k, v, p, q, c0, c1, c2, c3, t] := by match x, h9' with | [k, v, p, q, c0, c1, c2, c3, t], _ => exact ⟨_, _, _, _, _, _, _, _, _, rfl⟩
    refine At.region rfl rfl ?_
    refine Reg.pur rfl rfl rfl rfl (Pur.fld _ fo25_0 rfl) ?_
    refine Reg.lod rfl rfl rfl rfl (Lod.ld sc23 rfl o0_0.blk (by first | rfl | (simp; done))) ?_
    refine Reg.pur rfl rfl rfl rfl (Pur.mv rfl) ?_
    refine Reg.pur rfl rfl rfl rfl (Pur.idx _ es23 rfl rfl (by omega) (by omega)) ?_
    refine Reg.lod rfl rfl rfl rfl (Lod.ldn ag47 rfl hB0 hd h9) ?_
    refine Reg.op rfl rfl rfl rfl (Does.alloc zc47) ?_
    rintro _ H6_5 ⟨rfl, hn6_5⟩
    have z6_5 := hn6_5.size
    replace hE := hE.ext hn6_5.ext
    replace o0_0 := o0_0.ext hn6_5.ext
    replace o0_1 := o0_1.ext hn6_5.ext
    replace hg1 := hg1.ext hn6_5.ext
    replace hg2 := hg2.ext hn6_5.ext
    have o6_5 := hn6_5.own
    refine Reg.op0 rfl rfl rfl (Does.stn ag47 rfl rfl (by first | rfl | exact ones_Is _) (by first | rfl | (simp [*]; done)) o6_5 (by first | decide | (simp; done) | (simp; omega) | omega)) ?_
    rintro _ H6_6 hu6_6
    have z6_6 := hu6_6.size
    replace hE := hE.upw hu6_6 (by omega)
    replace o0_0 := o0_0.upw hu6_6 (by omega)
    replace o0_1 := o0_1.upw hu6_6 (by omega)
    replace hg1 := hg1.upw hu6_6 (by omega)
    replace hg2 := hg2.upw hu6_6 (by omega)
    replace o6_5 := hu6_6.own
    first | rw [over (by first | rfl | (simp; done))] at o6_5 | skip
    refine Reg.nil ?_
    refine At.region rfl rfl ?_
    refine Reg.pur rfl rfl rfl rfl (Pur.fld _ fo47_0 rfl) ?_
    refine Reg.lod rfl rfl rfl rfl (Lod.ld sc3 rfl o6_5.blk (by first | rfl | (simp; done))) ?_
    refine Reg.nil ?_
    refine At.region rfl rfl ?_
    refine Reg.pur rfl rfl rfl rfl (Pur.eql rfl rfl) ?_
    refine Reg.pur rfl rfl rfl rfl (Pur.asg rfl) ?_
    refine Reg.nil ?_
    refine At.joinc (σ := List (List Int) × List (List Int) × Option Addr × Nat) (fun (m, out', A', cap') => [(6, .slice A' out'.length cap'), (7, .slice A2 ends.length cap2), (8, I i), (0, .slice A Bs.length cap), (3, ptr H.size 0), (4, ptr H0_0.size 0)]) (fun (m, out', A', cap') H' => moreS Bs out ends [k, v, p, q, c0, c1, c2, c3, t] = some m ∧ out' = out ++ m ∧ Nine m ∧ m.length ≤ 256 ∧ Gs H' H0_1.size 47 9 A' cap' out'.length (out'.flatMap Is) ∧ Gs H' H0_1.size 3 1 A2 cap2 ends.length (ends.flatMap e1) ∧ (ob A' = -1 ∨ ob A' ≠ ob A2) ∧ Own H' H.size [.slice (some ⟨b, o, none⟩) L.length cap1] ∧ Own H' H0_0.size [.slice none 0 0] ∧ Ext H H') rfl (fun hJ => ?_) (fun s H7 hs => ?_)
    · refine At.cond rfl rfl (fun q35 => ?_) (fun q35 => ?_)
      · first | (simp only [decide_eq_true_eq, decide_eq_false_iff_not, Bool.not_eq_true', Bool.not_eq_false', ne_eq, Decidable.not_not, Bool.not_eq_true, Bool.not_eq_false] at q35) | (dsimp only at q35) | skip
        obtain rfl : k = 2 := q35
        refine At.region rfl rfl ?_
        refine Reg.lod rfl rfl rfl rfl (Lod.ldn ag47 rfl o6_5.blk (by first | exact whole rfl | rfl | (simp only [List.drop_succ_cons, List.drop_zero, List.take_succ_cons, List.take_zero]; rfl)) (by first | rfl | (simp [*]; done))) ?_
        refine Reg.op rfl rfl rfl rfl (Does.bslA ([[_, _, _, _, _, _, _, _, _]]) slA23 rfl rfl rfl rfl rfl rfl) ?_
        rintro _ H10_1 ⟨rfl, hp10_1⟩
        have hn10_1 := New.of_eq hp10_1
        have z10_1 := hn10_1.size
        replace hE := hE.ext hn10_1.ext
        replace o0_0 := o0_0.ext hn10_1.ext
        replace o0_1 := o0_1.ext hn10_1.ext
        replace hg1 := hg1.ext hn10_1.ext
        replace hg2 := hg2.ext hn10_1.ext
        replace o6_5 := o6_5.ext hn10_1.ext
        have o10_1 := hn10_1.own
        refine Reg.pur rfl rfl rfl rfl (Pur.bld (cs := [_]) pl25 zc25 rfl rfl ⟨rfl, rfl⟩) ?_
        refine Reg.op rfl rfl rfl rfl (Does.alloc zc25) ?_
        rintro _ H10_3 ⟨rfl, hn10_3⟩
        have z10_3 := hn10_3.size
        replace hE := hE.ext hn10_3.ext
        replace o0_0 := o0_0.ext hn10_3.ext
        replace o0_1 := o0_1.ext hn10_3.ext
        replace hg1 := hg1.ext hn10_3.ext
        replace hg2 := hg2.ext hn10_3.ext
        replace o6_5 := o6_5.ext hn10_3.ext
        replace o10_1 := o10_1.ext hn10_3.ext
        have hT := hn10_3.own
        refine Reg.op0 rfl rfl rfl (Does.stn ag25 rfl rfl (by first | rfl | exact ones_Is _) (by first | rfl | (simp [*]; done)) hT (by first | decide | (simp; done) | (simp; omega) | omega)) ?_
        rintro _ H10_4 hu10_4
        have z10_4 := hu10_4.size
        replace hE := hE.upw hu10_4 (by omega)
        replace o0_0 := o0_0.upw hu10_4 (by omega)
        replace o0_1 := o0_1.upw hu10_4 (by omega)
        replace hg1 := hg1.upw hu10_4 (by omega)
        replace hg2 := hg2.upw hu10_4 (by omega)
        replace o6_5 := o6_5.upw hu10_4 (by omega)
        replace o10_1 := o10_1.upw hu10_4 (by omega)
        replace hT := hu10_4.own
        first | rw [over (by first | rfl | (simp; done))] at hT | skip
        refine Reg.nil ?_
        refine At.region rfl rfl ?_
        refine Reg.pur rfl rfl rfl rfl (Pur.asg rfl) ?_
        refine Reg.nil ?_
        refine At.joinb (σ := List (List Int) × Option Addr × Nat) (fun (U, Au, capu) => [(10, ptr H10_1.size 0), (9, ptr H3.size 0), (6, .slice A' out.length cap'), (7, .slice A2 ends.length cap2), (8, I i), (0, .slice A Bs.length cap), (3, ptr H.size 0), (4, ptr H0_0.size 0)]) (fun (U, Au, capu) H' => H'.size = H10_4.size ∧ moreS Bs out ends [2, v, p, q, c0, c1, c2, c3, t] = some (U.map (movS out.length)) ∧ Nine U ∧ U.length ≤ 256 ∧ SlT H' Is 9 (.slice Au U.length capu) U ∧ (U.length = 0 ∨ ob Au ≠ ob A') ∧ Own H' H10_1.size [.slice Au U.length capu] ∧ Gs H' H0_1.size 47 9 A' cap' out.length (out.flatMap Is) ∧ Gs H' H0_1.size 3 1 A2 cap2 ends.length (ends.flatMap e1) ∧ Own H' H.size [.slice (some ⟨b, o, none⟩) L.length cap1] ∧ Own H' H0_0.size [.slice none 0 0] ∧ Ext H H') (fun hK => ?_) (fun s H7 hs => ?_)
        · have hx10 : SlT H10_4 Is 9 (.slice (some ⟨H6_6.size, 0, none⟩) 1 1) [[2, v, p, q, c0, c1, c2, c3, t]] := ((sl_one (x := [2, v, p, q, c0, c1, c2, c3, t]) (by rfl) (by decide) hn10_1).ext hn10_3.ext).upw hu10_4 (.inr (by rw [ob_some]; omega))
          refine At.loop (σ := Nat) (fun j => [(11, I j), (10, ptr H10_1.size 0), (9, ptr H3.size 0), (6, .slice A' out.length cap'), (7, .slice A2 ends.length cap2), (8, I i), (0, .slice A Bs.length cap), (3, ptr H.size 0), (4, ptr H0_0.size 0)]) (fun j H' => j ≤ Bs.length ∧ H' = H10_4 ∧ (Bs.drop j).find? (mt false v) = Bs.find? (mt false v)) (fun j => Bs.length - j) 0 rfl ⟨rfl, rfl, rfl, rfl, rfl, rfl, rfl, rfl, rfl, trivial⟩ ⟨by omega, rfl, rfl⟩ ?_
          rintro j H10_4 ⟨hj, rfl, hgj⟩ ihj
          refine At.region rfl rfl ?_
          refine Reg.pur rfl rfl rfl rfl (Pur.mv rfl) ?_
          refine Reg.pur rfl rfl rfl rfl (Pur.mv rfl) ?_
          refine Reg.pur rfl rfl rfl rfl (Pur.lenS isl22 rfl) ?_
          refine Reg.pur rfl rfl rfl rfl (Pur.lss rfl rfl) ?_
          refine Reg.nil ?_
          refine At.cond rfl rfl (fun q43 => ?_) (fun q43 => ?_)
          · first | (simp only [decide_eq_true_eq, decide_eq_false_iff_not, Bool.not_eq_true', Bool.not_eq_false', ne_eq, Decidable.not_not, Bool.not_eq_true, Bool.not_eq_false] at q43) | (dsimp only at q43) | skip
            have hlj : j < Bs.length := by omega
            obtain ⟨b', o', c', rfl, hB', hd', _⟩ := (hB.ext hE).at hlj
            have hok := hB.ok _ (List.getElem_mem hlj)
            have h256j := h256 _ (List.getElem_mem hlj)
            rw [dropL hlj, List.find?_cons] at hgj
            generalize Bs[j] = bd at *
            refine At.drawE ((Bks.cons hB'.blk (Bks.cons o6_5.blk Bks.nil))) [] mixed rfl rfl ?_
            refine RegD.tpur (i := 0) rfl rfl rfl rfl (by kernel_rfl) (Pur.mv rfl) ?_
            refine RegD.tpur (i := 1) rfl rfl rfl rfl (by kernel_rfl) (Pur.mv rfl) ?_
            refine RegD.tpur (i := 2) rfl rfl rfl rfl (by kernel_rfl) (Pur.idx _ es22 rfl rfl (by omega) (by omega)) ?_
            refine RegD.tpur (i := 3) rfl rfl rfl rfl (by kernel_rfl) (Pur.fld _ fo49_1 rfl) ?_
            refine RegD.take (i := 4) rfl rfl rfl rfl (by kernel_rfl) (Bks.cons hB'.blk (Bks.cons o6_5.blk Bks.nil)) (fun H hS => Lod.ld sc4 rfl hS.hd (at_tk (j := 1) hd' (by decide) rfl)) ?_
            refine RegD.tpur (i := 5) rfl rfl rfl rfl (by kernel_rfl) (Pur.not rfl) ?_
            refine RegD.tpur (i := 6) rfl rfl rfl rfl (by kernel_rfl) (Pur.mv rfl) ?_
            refine RegD.case 52 rfl (fun q52 => ?_) (fun q52 => ?_)
            · first | (simp only [decide_eq_true_eq, decide_eq_false_iff_not, Bool.not_eq_true', Bool.not_eq_false', ne_eq, Decidable.not_not, Bool.not_eq_true, Bool.not_eq_false] at q52) | (dsimp only at q52) | skip
              refine RegD.gtpur (i := 7) rfl rfl rfl rfl rfl rfl (by kernel_rfl) (Pur.mv rfl) ?_
              refine RegD.gtpur (i := 8) rfl rfl rfl rfl rfl rfl (by kernel_rfl) (Pur.mv rfl) ?_
              refine RegD.gtpur (i := 9) rfl rfl rfl rfl rfl rfl (by kernel_rfl) (Pur.idx _ es22 rfl rfl (by omega) (by omega)) ?_
              refine RegD.gtpur (i := 10) rfl rfl rfl rfl rfl rfl (by kernel_rfl) (Pur.fld _ fo49_0 rfl) ?_
              refine RegD.gtake (i := 11) rfl rfl rfl rfl rfl rfl (by kernel_rfl) (Bks.cons hB'.blk (Bks.cons o6_5.blk Bks.nil)) (fun H hS => Lod.ld sc3 rfl hS.hd (at_tk (j := 0) hd' (by decide) rfl)) ?_
              refine RegD.gtpur (i := 12) rfl rfl rfl rfl rfl rfl (by kernel_rfl) (Pur.fld _ fo47_1 rfl) ?_
              refine RegD.gtake (i := 13) rfl rfl rfl rfl rfl rfl (by kernel_rfl) (Bks.cons hB'.blk (Bks.cons o6_5.blk Bks.nil)) (fun H hS => Lod.ld sc3 rfl hS.tl.hd (by first | rfl | (simp; done))) ?_
              refine RegD.gtpur (i := 14) rfl rfl rfl rfl rfl rfl (by kernel_rfl) (Pur.eql rfl rfl) ?_
              refine RegD.tpur (i := 15) rfl rfl rfl rfl (by kernel_rfl) (Pur.pickT rfl rfl) ?_
              refine RegD.done (by kernel_rfl) ?_
              refine At.cond rfl rfl (fun q61 => ?_) (fun q61 => ?_)
              · first | (simp only [decide_eq_true_eq, decide_eq_false_iff_not, Bool.not_eq_true', Bool.not_eq_false', ne_eq, Decidable.not_not, Bool.not_eq_true, Bool.not_eq_false] at q61) | (dsimp only at q61) | skip
                refine At.region rfl rfl ?_
                refine Reg.pur rfl rfl rfl rfl (Pur.mv rfl) ?_
                refine Reg.pur rfl rfl rfl rfl (Pur.mv rfl) ?_
                refine Reg.pur rfl rfl rfl rfl (Pur.idx _ es22 rfl rfl (by omega) (by omega)) ?_
                refine Reg.pur rfl rfl rfl rfl (Pur.fld _ fo49_2 rfl) ?_
                refine Reg.lod rfl rfl rfl rfl (Lod.ldn ag25 rfl hB' (show _ = [Value.slice bd.A bd.nodes.length bd.cap] by rw [← List.drop_drop]; exact (take_mid hd' (by decide)).trans rfl) rfl) ?_
                refine Reg.op0 rfl rfl rfl (Does.stn ag25 rfl rfl (by first | rfl | exact ones_Is _) (by first | rfl | (simp [*]; done)) hT (by first | decide | (simp; done) | (simp; omega) | omega)) ?_
                rintro _ H15_5 hu15_5
                have z15_5 := hu15_5.size
                replace hE := hE.upw hu15_5 (by omega)
                replace o0_0 := o0_0.upw hu15_5 (by omega)
                replace o0_1 := o0_1.upw hu15_5 (by omega)
                replace hg1 := hg1.upw hu15_5 (by omega)
                replace hg2 := hg2.upw hu15_5 (by omega)
                replace o6_5 := o6_5.upw hu15_5 (by omega)
                replace o10_1 := o10_1.upw hu15_5 (by omega)
                replace hT := hu15_5.own
                first | rw [over (by first | rfl | (simp; done))] at hT | skip
                refine Reg.nil ?_
                have hfd : Bs.find? (mt false v) = some bd := by rw [← hgj, show mt false v bd = true by simp [mt, q52, q61]]
                exact At.meets rfl (hK (bd.nodes, bd.A, bd.cap) _ ⟨by omega, by simp [moreS, hfd], hok.nine, h256j, hok.sl.ext hE, by have := hok.sl.lt; omega, hT, hg1, hg2, o0_0, o0_1, hE⟩) ⟨rfl, rfl, rfl, rfl, rfl, rfl, rfl, rfl, trivial⟩
              · first | (simp only [decide_eq_true_eq, decide_eq_false_iff_not, Bool.not_eq_true', Bool.not_eq_false', ne_eq, Decidable.not_not, Bool.not_eq_true, Bool.not_eq_false] at q61) | (dsimp only at q61) | skip
                refine At.region rfl rfl ?_
                refine Reg.pur rfl rfl rfl rfl (Pur.mv rfl) ?_
                first | refine Reg.pur rfl rfl rfl rfl (Pur.add64 rfl rfl (by omega)) ?_ | refine Reg.pur rfl rfl rfl rfl (Pur.add64 rfl rfl (by assumption)) ?_ | refine Reg.pur rfl rfl rfl rfl (Pur.add rfl rfl) ?_
                refine Reg.pur rfl rfl rfl rfl (Pur.asg rfl) ?_
                refine Reg.nil ?_
                exact At.via (ihj (j + 1) _ ⟨by omega, rfl, by rw [← hgj, show mt false v bd = false by first | (simp [mt, q52]; done) | (simp [mt, q52, q61]; done) | (simp [mt, q61]; done)]⟩ (by omega)) ⟨rfl, rfl, rfl, rfl, rfl, rfl, rfl, rfl, rfl, trivial⟩
            · first | (simp only [decide_eq_true_eq, decide_eq_false_iff_not, Bool.not_eq_true', Bool.not_eq_false', ne_eq, Decidable.not_not, Bool.not_eq_true, Bool.not_eq_false] at q52) | (dsimp only at q52) | skip
              refine RegD.skip (i := 7) rfl rfl rfl rfl rfl rfl rfl (by kernel_rfl) ?_
              refine RegD.skip (i := 8) rfl rfl rfl rfl rfl rfl rfl (by kernel_rfl) ?_
              refine RegD.skip (i := 9) rfl rfl rfl rfl rfl rfl rfl (by kernel_rfl) ?_
              refine RegD.skip (i := 10) rfl rfl rfl rfl rfl rfl rfl (by kernel_rfl) ?_
              refine RegD.skip (i := 11) rfl rfl rfl rfl rfl rfl rfl (by kernel_rfl) ?_
              refine RegD.skip (i := 12) rfl rfl rfl rfl rfl rfl rfl (by kernel_rfl) ?_
              refine RegD.skip (i := 13) rfl rfl rfl rfl rfl rfl rfl (by kernel_rfl) ?_
              refine RegD.skip (i := 14) rfl rfl rfl rfl rfl rfl rfl (by kernel_rfl) ?_
              refine RegD.tpur (i := 15) rfl rfl rfl rfl (by kernel_rfl) (Pur.pickF rfl rfl) ?_
              refine RegD.done (by kernel_rfl) ?_
              refine At.condF rfl rfl rfl ?_
              refine At.region rfl rfl ?_
              refine Reg.pur rfl rfl rfl rfl (Pur.mv rfl) ?_
              first | refine Reg.pur rfl rfl rfl rfl (Pur.add64 rfl rfl (by omega)) ?_ | refine Reg.pur rfl rfl rfl rfl (Pur.add64 rfl rfl (by assumption)) ?_ | refine Reg.pur rfl rfl rfl rfl (Pur.add rfl rfl) ?_
              refine Reg.pur rfl rfl rfl rfl (Pur.asg rfl) ?_
              refine Reg.nil ?_
              exact At.via (ihj (j + 1) _ ⟨by omega, rfl, by rw [← hgj, show mt false v bd = false by first | (simp [mt, q52]; done) | (simp [mt, q52, q61]; done) | (simp [mt, q61]; done)]⟩ (by omega)) ⟨rfl, rfl, rfl, rfl, rfl, rfl, rfl, rfl, rfl, trivial⟩
          · first | (simp only [decide_eq_true_eq, decide_eq_false_iff_not, Bool.not_eq_true', Bool.not_eq_false', ne_eq, Decidable.not_not, Bool.not_eq_true, Bool.not_eq_false] at q43) | (dsimp only at q43) | skip
            have hfd : Bs.find? (mt false v) = none := by rw [← hgj, List.drop_of_length_le (by omega)]; rfl
            exact At.meets rfl (hK ([[2, v, p, q, c0, c1, c2, c3, t]], some ⟨H6_6.size, 0, none⟩, 1) _ ⟨by omega, by simp [moreS, hfd, movS], nine1 rfl, by simp, hx10, .inr (by rw [ob_some]; omega), hT, hg1, hg2, o0_0, o0_1, hE⟩) ⟨rfl, rfl, rfl, rfl, rfl, rfl, rfl, rfl, trivial⟩
        · obtain ⟨U, Au, capu⟩ := s
          obtain ⟨hsz, hmo, hNU, hUl, hSU, hau, hT, hg1, hg2, o0_0, o0_1, hE⟩ := hs
          dsimp only at hau hg1 hap ⊢
          have z_hE := hE.lt
          have z_o0_0 := o0_0.lt
          have z_o0_1 := o0_1.lt
          have z_hg1 := hg1.lt
          have z_hg2 := hg2.lt
          have z_hT := hT.lt
          refine At.region rfl rfl ?_
          refine Reg.pur rfl rfl rfl rfl (Pur.mv rfl) ?_
          refine Reg.pur rfl rfl rfl rfl (Pur.lenS isl23 rfl) ?_
          refine Reg.pur rfl rfl rfl rfl (Pur.asg rfl) ?_
          refine Reg.nil ?_
          refine At.region rfl rfl ?_
          refine Reg.pur rfl rfl rfl rfl (Pur.asg rfl) ?_
          refine Reg.nil ?_
          refine At.loop (σ := Nat × List (List Int) × Option Addr × Nat) (fun (j, out', A', cap') => [(13, I j), (12, I out.length), (10, ptr H10_1.size 0), (6, .slice A' out'.length cap'), (7, .slice A2 ends.length cap2), (8, I i), (0, .slice A Bs.length cap), (3, ptr H.size 0), (4, ptr H0_0.size 0)]) (fun (j, out', A', cap') H' => j ≤ U.length ∧ out' = out ++ (U.take j).map (movS out.length) ∧ Nine out' ∧ SlT H' Is 9 (.slice Au U.length capu) U ∧ (U.length = 0 ∨ ob Au ≠ ob A') ∧ Own H' H10_1.size [.slice Au U.length capu] ∧ Gs H' H0_1.size 47 9 A' cap' out'.length (out'.flatMap Is) ∧ (ob A' = -1 ∨ ob A' ≠ ob A2 ∧ ob A' ≠ H10_1.size) ∧ Gs H' H0_1.size 3 1 A2 cap2 ends.length (ends.flatMap e1) ∧ Own H' H.size [.slice (some ⟨b, o, none⟩) L.length cap1] ∧ Own H' H0_0.size [.slice none 0 0] ∧ Ext H H') (fun s => U.length - s.1) (0, out, A', cap') rfl ⟨rfl, rfl, rfl, rfl, rfl, rfl, rfl, rfl, rfl, trivial⟩ ⟨by omega, by simp, hN, hSU, hau, hT, hg1, by omega, hg2, o0_0, o0_1, hE⟩ ?_
          clear hSU hau hT hg1 hap hg2 o0_0 o0_1 hE
          rintro ⟨j, out', A', cap'⟩ H8 ⟨hj, hout', hN', hSU, hau, hT, hg1, hap, hg2, o0_0, o0_1, hE⟩ ihj
          dsimp only at hj hout' hN' hau hg1 hap ⊢
          have z_hE := hE.lt
          have z_o0_0 := o0_0.lt
          have z_o0_1 := o0_1.lt
          have z_hg1 := hg1.lt
          have z_hg2 := hg2.lt
          have z_hT := hT.lt
          have z_hSU := hSU.lt
          refine At.region rfl rfl ?_
          refine Reg.pur rfl rfl rfl rfl (Pur.mv rfl) ?_
          refine Reg.pur rfl rfl rfl rfl (Pur.fld _ fo25_0 rfl) ?_
          refine Reg.lod rfl rfl rfl rfl (Lod.ld sc23 rfl hT.blk (by first | rfl | (simp; done))) ?_
          refine Reg.pur rfl rfl rfl rfl (Pur.lenS isl23 rfl) ?_
          refine Reg.pur rfl rfl rfl rfl (Pur.lss rfl rfl) ?_
          refine Reg.nil ?_
          refine At.cond rfl rfl (fun q73 => ?_) (fun q73 => ?_)
          · first | (simp only [decide_eq_true_eq, decide_eq_false_iff_not, Bool.not_eq_true', Bool.not_eq_false', ne_eq, Decidable.not_not, Bool.not_eq_true, Bool.not_eq_false] at q73) | (dsimp only at q73) | skip
            have hlj : j < U.length := by omega
            obtain ⟨b', o', c', rfl, hB', hd', h9j⟩ := sl_at (wide9 hNU) hSU hlj
            have h9j' := hNU _ (List.getElem_mem hlj)
            have hnx := map1_mov (k := out.length) hlj
            generalize U[j] = y at hnx hd' h9j h9j'
            obtain ⟨k', v', p', q', d0, d1, d2, d3, t', rfl⟩ : ∃ k v p q c0 c1 c2 c3 t, y = [k, v, p, q, c0, c1, c2, c3, t] := by match y, h9j' with | [k, v, p, q, c0, c1, c2, c3, t], _ => exact ⟨_, _, _, _, _, _, _, _, _, rfl⟩
            refine At.region rfl rfl ?_
            refine Reg.pur rfl rfl rfl rfl (Pur.fld _ fo25_0 rfl) ?_
            refine Reg.lod rfl rfl rfl rfl (Lod.ld sc23 rfl hT.blk (by first | rfl | (simp; done))) ?_
            refine Reg.pur rfl rfl rfl rfl (Pur.mv rfl) ?_
            refine Reg.pur rfl rfl rfl rfl (Pur.idx _ es23 rfl rfl (by omega) (by omega)) ?_
            refine Reg.lod rfl rfl rfl rfl (Lod.ldn ag47 rfl hB' hd' h9j) ?_
            refine Reg.op rfl rfl rfl rfl (Does.alloc zc47) ?_
            rintro _ H20_5 ⟨rfl, hn20_5⟩
            have z20_5 := hn20_5.size
            replace hE := hE.ext hn20_5.ext
            replace o0_0 := o0_0.ext hn20_5.ext
            replace o0_1 := o0_1.ext hn20_5.ext
            replace hg1 := hg1.ext hn20_5.ext
            replace hg2 := hg2.ext hn20_5.ext
            replace hT := hT.ext hn20_5.ext
            replace hSU := hSU.ext hn20_5.ext
            have o20_5 := hn20_5.own
            refine Reg.op0 rfl rfl rfl (Does.stn ag47 rfl rfl (by first | rfl | exact ones_Is _) (by first | rfl | (simp [*]; done)) o20_5 (by first | decide | (simp; done) | (simp; omega) | omega)) ?_
            rintro _ H20_6 hu20_6
            have z20_6 := hu20_6.size
            replace hE := hE.upw hu20_6 (by omega)
            replace o0_0 := o0_0.upw hu20_6 (by omega)
            replace o0_1 := o0_1.upw hu20_6 (by omega)
            replace hg1 := hg1.upw hu20_6 (by omega)
            replace hg2 := hg2.upw hu20_6 (by omega)
            replace hT := hT.upw hu20_6 (by omega)
            replace hSU := hSU.upw hu20_6 (by omega)
            replace o20_5 := hu20_6.own
            first | rw [over (by first | rfl | (simp; done))] at o20_5 | skip
            refine Reg.nil ?_
            refine At.region rfl rfl ?_
            refine Reg.pur rfl rfl rfl rfl (Pur.fld _ fo47_0 rfl) ?_
            refine Reg.lod rfl rfl rfl rfl (Lod.ld sc3 rfl o20_5.blk (by first | rfl | (simp; done))) ?_
            refine Reg.pur rfl rfl rfl rfl (Pur.eql rfl rfl) ?_
            refine Reg.nil ?_
            refine At.cond rfl rfl (fun q83 => ?_) (fun q83 => ?_)
            · first | (simp only [decide_eq_true_eq, decide_eq_false_iff_not, Bool.not_eq_true', Bool.not_eq_false', ne_eq, Decidable.not_not, Bool.not_eq_true, Bool.not_eq_false] at q83) | (dsimp only at q83) | skip
              refine At.region rfl rfl ?_
              refine Reg.pur rfl rfl rfl rfl (Pur.fld _ fo47_2 rfl) ?_
              refine Reg.lod rfl rfl rfl rfl (Lod.ld sc3 rfl o20_5.blk (by first | rfl | (simp; done))) ?_
              refine Reg.pur rfl rfl rfl rfl (Pur.mv rfl) ?_
              first | refine Reg.pur rfl rfl rfl rfl (Pur.add64 rfl rfl (by omega)) ?_ | refine Reg.pur rfl rfl rfl rfl (Pur.add64 rfl rfl (by assumption)) ?_ | refine Reg.pur rfl rfl rfl rfl (Pur.add rfl rfl) ?_
              refine Reg.pur rfl rfl rfl rfl (Pur.fld _ fo47_2 rfl) ?_
              refine Reg.op0 rfl rfl rfl (Does.st sc3 rfl rfl rfl o20_5 (by first | decide | (simp; done) | (simp; omega) | omega)) ?_
              rintro _ H22_5 hu22_5
              have z22_5 := hu22_5.size
              replace hE := hE.upw hu22_5 (by omega)
              replace o0_0 := o0_0.upw hu22_5 (by omega)
              replace o0_1 := o0_1.upw hu22_5 (by omega)
              replace hg1 := hg1.upw hu22_5 (by omega)
              replace hg2 := hg2.upw hu22_5 (by omega)
              replace hT := hT.upw hu22_5 (by omega)
              replace hSU := hSU.upw hu22_5 (by omega)
              replace o20_5 := hu22_5.own
              refine Reg.nil ?_
              refine At.region rfl rfl ?_
              refine Reg.pur rfl rfl rfl rfl (Pur.fld _ fo47_3 rfl) ?_
              refine Reg.lod rfl rfl rfl rfl (Lod.ld sc3 rfl o20_5.blk (by first | rfl | (simp; done))) ?_
              refine Reg.pur rfl rfl rfl rfl (Pur.mv rfl) ?_
              first | refine Reg.pur rfl rfl rfl rfl (Pur.add64 rfl rfl (by omega)) ?_ | refine Reg.pur rfl rfl rfl rfl (Pur.add64 rfl rfl (by assumption)) ?_ | refine Reg.pur rfl rfl rfl rfl (Pur.add rfl rfl) ?_
              refine Reg.pur rfl rfl rfl rfl (Pur.fld _ fo47_3 rfl) ?_
              refine Reg.op0 rfl rfl rfl (Does.st sc3 rfl rfl rfl o20_5 (by first | decide | (simp; done) | (simp; omega) | omega)) ?_
              rintro _ H23_5 hu23_5
              have z23_5 := hu23_5.size
              replace hE := hE.upw hu23_5 (by omega)
              replace o0_0 := o0_0.upw hu23_5 (by omega)
              replace o0_1 := o0_1.upw hu23_5 (by omega)
              replace hg1 := hg1.upw hu23_5 (by omega)
              replace hg2 := hg2.upw hu23_5 (by omega)
              replace hT := hT.upw hu23_5 (by omega)
              replace hSU := hSU.upw hu23_5 (by omega)
              replace o20_5 := hu23_5.own
              refine Reg.nil ?_
              have hy : Own H23_5 H8.size (Is (movS out.length [k', v', p', q', d0, d1, d2, d3, t'])) := by first | exact o20_5 | (rw [movS_not3 (x := [k', v', p', q', d0, d1, d2, d3, t']) q83]; exact o20_5) | (rw [show movS out.length [k', v', p', q', d0, d1, d2, d3, t'] = [k', v', IntKind.i64.wrap (p' + out.length), IntKind.i64.wrap (q' + out.length), d0, d1, d2, d3, t'] by subst q83; rfl]; exact o20_5)
              have hyl : (movS out.length [k', v', p', q', d0, d1, d2, d3, t']).length = 9 := movS_len _ _
              have hyl' : (Is (movS out.length [k', v', p', q', d0, d1, d2, d3, t'])).length = 9 := by simp [hyl]
              generalize hyy : movS out.length [k', v', p', q', d0, d1, d2, d3, t'] = y' at hy hyl hyl' hnx
              refine At.region rfl rfl ?_
              refine Reg.pur rfl rfl rfl rfl (Pur.mv rfl) ?_
              refine Reg.lod rfl rfl rfl rfl (Lod.ldn ag47 rfl hy.blk (whole hyl') hyl') ?_
              refine Reg.op rfl rfl rfl rfl (Does.bslA ([Is y']) slA23 rfl rfl rfl (by simp [hyl]) rfl rfl) ?_
              rintro _ H24_2 ⟨rfl, hp24_2⟩
              have hn24_2 := New.of_eq hp24_2
              have z24_2 := hn24_2.size
              replace hE := hE.ext hn24_2.ext
              replace o0_0 := o0_0.ext hn24_2.ext
              replace o0_1 := o0_1.ext hn24_2.ext
              replace hg1 := hg1.ext hn24_2.ext
              replace hg2 := hg2.ext hn24_2.ext
              replace hT := hT.ext hn24_2.ext
              replace hSU := hSU.ext hn24_2.ext
              replace o20_5 := o20_5.ext hn24_2.ext
              have o24_2 := hn24_2.own
              refine Reg.op rfl rfl rfl rfl (Does.appL apt23 rfl rfl (by decide) hg1 (wide9 (nine1 hyl)) (sl_one (x := y') hyl' (by decide) hn24_2) (ones_flat _) (by have := congrArg List.length hout'; simp at this ⊢; omega) (by omega)) ?_
              rintro _ H24_3 ⟨A24_3, cap24_3, rfl, g24_3, hbut24_3, ha24_3⟩
              have z24_3 := hbut24_3.lt
              replace hE := hE.via hbut24_3 (by first | omega | (intro g; omega) | (intro g hg; omega) | (intro g hg h; omega))
              replace o0_0 := o0_0.via hbut24_3 (by first | omega | (intro g; omega) | (intro g hg; omega) | (intro g hg h; omega))
              replace o0_1 := o0_1.via hbut24_3 (by first | omega | (intro g; omega) | (intro g hg; omega) | (intro g hg h; omega))
              replace hg2 := hg2.via hbut24_3 (by first | omega | (intro g; omega) | (intro g hg; omega) | (intro g hg h; omega))
              replace hT := hT.via hbut24_3 (by first | omega | (intro g; omega) | (intro g hg; omega) | (intro g hg h; omega))
              replace hSU := hSU.via hbut24_3 (by first | omega | (intro g; omega) | (intro g hg; omega) | (intro g hg h; omega))
              replace o20_5 := o20_5.via hbut24_3 (by first | omega | (intro g; omega) | (intro g hg; omega) | (intro g hg h; omega))
              replace o24_2 := o24_2.via hbut24_3 (by first | omega | (intro g; omega) | (intro g hg; omega) | (intro g hg h; omega))
              replace hg1 := g24_3
              have zg24_3 := g24_3.lt
              refine Reg.pur rfl rfl rfl rfl (Pur.asg rfl) ?_
              refine Reg.nil ?_
              refine At.region rfl rfl ?_
              refine Reg.pur rfl rfl rfl rfl (Pur.mv rfl) ?_
              first | refine Reg.pur rfl rfl rfl rfl (Pur.add64 rfl rfl (by omega)) ?_ | refine Reg.pur rfl rfl rfl rfl (Pur.add64 rfl rfl (by assumption)) ?_ | refine Reg.pur rfl rfl rfl rfl (Pur.add rfl rfl) ?_
              refine Reg.pur rfl rfl rfl rfl (Pur.asg rfl) ?_
              refine Reg.nil ?_
              exact At.via (ihj (j + 1, out' ++ [y'], A24_3, cap24_3) _ ⟨by omega, by rw [hnx, hout', List.append_assoc], nine_app hN' (nine1 hyl), hSU, by omega, hT, hg1, by omega, hg2, o0_0, o0_1, hE⟩ (by simp only; omega)) ⟨rfl, rfl, rfl, rfl, rfl, rfl, rfl, rfl, rfl, trivial⟩
            · first | (simp only [decide_eq_true_eq, decide_eq_false_iff_not, Bool.not_eq_true', Bool.not_eq_false', ne_eq, Decidable.not_not, Bool.not_eq_true, Bool.not_eq_false] at q83) | (dsimp only at q83) | skip
              have hy : Own H20_6 H8.size (Is (movS out.length [k', v', p', q', d0, d1, d2, d3, t'])) := by first | exact o20_5 | (rw [movS_not3 (x := [k', v', p', q', d0, d1, d2, d3, t']) q83]; exact o20_5) | (rw [show movS out.length [k', v', p', q', d0, d1, d2, d3, t'] = [k', v', IntKind.i64.wrap (p' + out.length), IntKind.i64.wrap (q' + out.length), d0, d1, d2, d3, t'] by subst q83; rfl]; exact o20_5)
              have hyl : (movS out.length [k', v', p', q', d0, d1, d2, d3, t']).length = 9 := movS_len _ _
              have hyl' : (Is (movS out.length [k', v', p', q', d0, d1, d2, d3, t'])).length = 9 := by simp [hyl]
              generalize hyy : movS out.length [k', v', p', q', d0, d1, d2, d3, t'] = y' at hy hyl hyl' hnx
              refine At.region rfl rfl ?_
              refine Reg.pur rfl rfl rfl rfl (Pur.mv rfl) ?_
              refine Reg.lod rfl rfl rfl rfl (Lod.ldn ag47 rfl hy.blk (whole hyl') hyl') ?_
              refine Reg.op rfl rfl rfl rfl (Does.bslA ([Is y']) slA23 rfl rfl rfl (by simp [hyl]) rfl rfl) ?_
              rintro _ H24_2 ⟨rfl, hp24_2⟩
              have hn24_2 := New.of_eq hp24_2
              have z24_2 := hn24_2.size
              replace hE := hE.ext hn24_2.ext
              replace o0_0 := o0_0.ext hn24_2.ext
              replace o0_1 := o0_1.ext hn24_2.ext
              replace hg1 := hg1.ext hn24_2.ext
              replace hg2 := hg2.ext hn24_2.ext
              replace hT := hT.ext hn24_2.ext
              replace hSU := hSU.ext hn24_2.ext
              replace o20_5 := o20_5.ext hn24_2.ext
              have o24_2 := hn24_2.own
              refine Reg.op rfl rfl rfl rfl (Does.appL apt23 rfl rfl (by decide) hg1 (wide9 (nine1 hyl)) (sl_one (x := y') hyl' (by decide) hn24_2) (ones_flat _) (by have := congrArg List.length hout'; simp at this ⊢; omega) (by omega)) ?_
              rintro _ H24_3 ⟨A24_3, cap24_3, rfl, g24_3, hbut24_3, ha24_3⟩
              have z24_3 := hbut24_3.lt
              replace hE := hE.via hbut24_3 (by first | omega | (intro g; omega) | (intro g hg; omega) | (intro g hg h; omega))
              replace o0_0 := o0_0.via hbut24_3 (by first | omega | (intro g; omega) | (intro g hg; omega) | (intro g hg h; omega))
              replace o0_1 := o0_1.via hbut24_3 (by first | omega | (intro g; omega) | (intro g hg; omega) | (intro g hg h; omega))
              replace hg2 := hg2.via hbut24_3 (by first | omega | (intro g; omega) | (intro g hg; omega) | (intro g hg h; omega))
              replace hT := hT.via hbut24_3 (by first | omega | (intro g; omega) | (intro g hg; omega) | (intro g hg h; omega))
              replace hSU := hSU.via hbut24_3 (by first | omega | (intro g; omega) | (intro g hg; omega) | (intro g hg h; omega))
              replace o20_5 := o20_5.via hbut24_3 (by first | omega | (intro g; omega) | (intro g hg; omega) | (intro g hg h; omega))
              replace o24_2 := o24_2.via hbut24_3 (by first | omega | (intro g; omega) | (intro g hg; omega) | (intro g hg h; omega))
              replace hg1 := g24_3
              have zg24_3 := g24_3.lt
              refine Reg.pur rfl rfl rfl rfl (Pur.asg rfl) ?_
              refine Reg.nil ?_
              refine At.region rfl rfl ?_
              refine Reg.pur rfl rfl rfl rfl (Pur.mv rfl) ?_
              first | refine Reg.pur rfl rfl rfl rfl (Pur.add64 rfl rfl (by omega)) ?_ | refine Reg.pur rfl rfl rfl rfl (Pur.add64 rfl rfl (by assumption)) ?_ | refine Reg.pur rfl rfl rfl rfl (Pur.add rfl rfl) ?_
              refine Reg.pur rfl rfl rfl rfl (Pur.asg rfl) ?_
              refine Reg.nil ?_
              exact At.via (ihj (j + 1, out' ++ [y'], A24_3, cap24_3) _ ⟨by omega, by rw [hnx, hout', List.append_assoc], nine_app hN' (nine1 hyl), hSU, by omega, hT, hg1, by omega, hg2, o0_0, o0_1, hE⟩ (by simp only; omega)) ⟨rfl, rfl, rfl, rfl, rfl, rfl, rfl, rfl, rfl, trivial⟩
          · first | (simp only [decide_eq_true_eq, decide_eq_false_iff_not, Bool.not_eq_true', Bool.not_eq_false', ne_eq, Decidable.not_not, Bool.not_eq_true, Bool.not_eq_false] at q73) | (dsimp only at q73) | skip
            rw [List.take_of_length_le (by omega)] at hout'
            exact At.meets rfl (hJ (U.map (movS out.length), out', A', cap') _ ⟨hmo, hout', nine_mov hNU, by simpa using hUl, hg1, hg2, by omega, o0_0, o0_1, hE⟩) ⟨rfl, rfl, rfl, rfl, rfl, rfl, trivial⟩
      · first | (simp only [decide_eq_true_eq, decide_eq_false_iff_not, Bool.not_eq_true', Bool.not_eq_false', ne_eq, Decidable.not_not, Bool.not_eq_true, Bool.not_eq_false] at q35) | (dsimp only at q35) | skip
        refine At.region rfl rfl ?_
        refine Reg.pur rfl rfl rfl rfl (Pur.eql rfl rfl) ?_
        refine Reg.pur rfl rfl rfl rfl (Pur.asg rfl) ?_
        refine Reg.nil ?_
        refine At.cond rfl rfl (fun q98 => ?_) (fun q98 => ?_)
        · first | (simp only [decide_eq_true_eq, decide_eq_false_iff_not, Bool.not_eq_true', Bool.not_eq_false', ne_eq, Decidable.not_not, Bool.not_eq_true, Bool.not_eq_false] at q98) | (dsimp only at q98) | skip
          refine At.region rfl rfl ?_
          refine Reg.pur rfl rfl rfl rfl (Pur.mv rfl) ?_
          refine Reg.pur rfl rfl rfl rfl (Pur.fld _ fo47_4 rfl) ?_
          refine Reg.lod rfl rfl rfl rfl (Lod.ldn ag28 rfl o6_5.blk (by first | exact whole rfl | rfl | (simp only [List.drop_succ_cons, List.drop_zero, List.take_succ_cons, List.take_zero]; rfl)) (by first | rfl | (simp [*]; done))) ?_
          refine Reg.op rfl rfl rfl rfl (Does.call rfl (rowOf_ok (hB.ext hE) [c0, c1, c2, c3, t] rfl)) ?_
          rintro _ H26_3 ⟨rfl, hrl, hE26_3⟩
          have z26_3 := hE26_3.lt
          replace hE := hE.ext hE26_3
          replace o0_0 := o0_0.ext hE26_3
          replace o0_1 := o0_1.ext hE26_3
          replace hg1 := hg1.ext hE26_3
          replace hg2 := hg2.ext hE26_3
          replace o6_5 := o6_5.ext hE26_3
          refine Reg.pur rfl rfl rfl rfl (Pur.mv rfl) ?_
          refine Reg.pur rfl rfl rfl rfl (Pur.ext rfl rfl) ?_
          refine Reg.pur rfl rfl rfl rfl (Pur.ext rfl rfl) ?_
          refine Reg.op rfl rfl rfl rfl (Does.alloc zc28) ?_
          rintro _ H26_7 ⟨rfl, hn26_7⟩
          have z26_7 := hn26_7.size
          replace hE := hE.ext hn26_7.ext
          replace o0_0 := o0_0.ext hn26_7.ext
          replace o0_1 := o0_1.ext hn26_7.ext
          replace hg1 := hg1.ext hn26_7.ext
          replace hg2 := hg2.ext hn26_7.ext
          replace o6_5 := o6_5.ext hn26_7.ext
          have o26_7 := hn26_7.own
          refine Reg.op0 rfl rfl rfl (Does.stn ag28 rfl rfl (by first | rfl | exact ones_Is _) (by first | rfl | (simp [*]; done)) o26_7 (by first | decide | (simp; done) | (simp; omega) | omega)) ?_
          rintro _ H26_8 hu26_8
          have z26_8 := hu26_8.size
          replace hE := hE.upw hu26_8 (by omega)
          replace o0_0 := o0_0.upw hu26_8 (by omega)
          replace o0_1 := o0_1.upw hu26_8 (by omega)
          replace hg1 := hg1.upw hu26_8 (by omega)
          replace hg2 := hg2.upw hu26_8 (by omega)
          replace o6_5 := o6_5.upw hu26_8 (by omega)
          replace o26_7 := hu26_8.own
          first | rw [over (by first | rfl | (simp; done))] at o26_7 | skip
          refine Reg.pur rfl rfl rfl rfl (Pur.asg rfl) ?_
          refine Reg.nil ?_
          refine At.region rfl rfl ?_
          refine Reg.pur rfl rfl rfl rfl (Pur.mv rfl) ?_
          refine Reg.pur rfl rfl rfl rfl (Pur.not rfl) ?_
          refine Reg.nil ?_
          refine At.cond rfl rfl (fun q108 => ?_) (fun q108 => ?_)
          · first | (simp only [decide_eq_true_eq, decide_eq_false_iff_not, Bool.not_eq_true', Bool.not_eq_false', ne_eq, Decidable.not_not, Bool.not_eq_true, Bool.not_eq_false] at q108) | (dsimp only at q108) | skip
            refine At.region rfl rfl ?_
            refine Reg.pur rfl rfl rfl rfl (Pur.bld (cs := [_]) pl25 zc25 rfl rfl ⟨rfl, rfl⟩) ?_
            refine Reg.op0 rfl rfl rfl (Does.stn ag25 rfl rfl (by first | rfl | exact ones_Is _) (by first | rfl | (simp [*]; done)) o0_1 (by first | decide | (simp; done) | (simp; omega) | omega)) ?_
            rintro _ H28_1 hu28_1
            have z28_1 := hu28_1.size
            replace hE := hE.upw hu28_1 (by omega)
            replace o0_0 := o0_0.upw hu28_1 (by omega)
            replace hg1 := hg1.upw hu28_1 (by omega)
            replace hg2 := hg2.upw hu28_1 (by omega)
            replace o6_5 := o6_5.upw hu28_1 (by omega)
            replace o26_7 := o26_7.upw hu28_1 (by omega)
            replace o0_1 := hu28_1.own
            first | rw [over (by first | rfl | (simp; done))] at o0_1 | skip
            refine Reg.pur rfl rfl rfl rfl (Pur.asg rfl) ?_
            refine Reg.nil ?_
            refine At.retC rfl Try.func57 ⟨_, _, _, _, rfl, rfl, ⟨_, o0_1.blk, .inr ⟨_, _, ag25, (by first | exact whole rfl | exact whole (by simp [*])), (by first | rfl | simp [*]), rfl⟩⟩, ⟨_, _, rfl, rfl, rfl⟩⟩ ?_
            refine ⟨hE, ?_⟩
            obtain rfl : k = 3 := q98
            rw [← hgo, show moreS Bs out ends [3, v, p, q, c0, c1, c2, c3, t] = none by simp [moreS, q108]]; exact rfl
          · first | (simp only [decide_eq_true_eq, decide_eq_false_iff_not, Bool.not_eq_true', Bool.not_eq_false', ne_eq, Decidable.not_not, Bool.not_eq_true, Bool.not_eq_false] at q108) | (dsimp only at q108) | skip
            have hk3 : k = 3 := q98
            have hf3 : q = (i : Int) - 1 ∧ 0 ≤ p ∧ p < (i : Int) - 1 ∧ 1 ≤ i := hfun hk3
            obtain ⟨b2, cc2, rfl, hb2, hc2⟩ := gs_int hg2 (z := p) (by omega) (by omega)
            obtain ⟨b2', cc2', e2, hb2', hc2'⟩ := gs_int hg2 (z := q) (by omega) (by omega)
            cases e2
            have hob : ob (some ⟨b2, 0, none⟩) = b2 := rfl
            have z_hb2 := hb2.lt
            have z_hb2' := hb2'.lt
            refine At.region rfl rfl ?_
            refine Reg.pur rfl rfl rfl rfl (Pur.mv rfl) ?_
            refine Reg.pur rfl rfl rfl rfl (Pur.fld _ fo47_2 rfl) ?_
            refine Reg.lod rfl rfl rfl rfl (Lod.ld sc3 rfl o6_5.blk (by first | rfl | (simp; done))) ?_
            refine Reg.pur rfl rfl rfl rfl (Pur.idx _ es54 rfl rfl (by omega) (by omega)) ?_
            refine Reg.lod rfl rfl rfl rfl (Lod.ld sc3 rfl hb2 hc2) ?_
            refine Reg.pur rfl rfl rfl rfl (Pur.fld _ fo47_2 rfl) ?_
            refine Reg.op0 rfl rfl rfl (Does.st sc3 rfl rfl rfl o6_5 (by first | decide | (simp; done) | (simp; omega) | omega)) ?_
            rintro _ H29_6 hu29_6
            have z29_6 := hu29_6.size
            replace hE := hE.upw hu29_6 (by omega)
            replace o0_0 := o0_0.upw hu29_6 (by omega)
            replace o0_1 := o0_1.upw hu29_6 (by omega)
            replace hg1 := hg1.upw hu29_6 (by omega)
            replace hg2 := hg2.upw hu29_6 (by omega)
            replace o26_7 := o26_7.upw hu29_6 (by omega)
            replace hb2 := hb2.upw hu29_6 (by omega)
            replace hb2' := hb2'.upw hu29_6 (by omega)
            replace o6_5 := hu29_6.own
            refine Reg.nil ?_
            refine At.region rfl rfl ?_
            refine Reg.pur rfl rfl rfl rfl (Pur.mv rfl) ?_
            refine Reg.pur rfl rfl rfl rfl (Pur.fld _ fo47_3 rfl) ?_
            refine Reg.lod rfl rfl rfl rfl (Lod.ld sc3 rfl o6_5.blk (by first | rfl | (simp; done))) ?_
            refine Reg.pur rfl rfl rfl rfl (Pur.idx _ es54 rfl rfl (by omega) (by omega)) ?_
            refine Reg.lod rfl rfl rfl rfl (Lod.ld sc3 rfl hb2' hc2') ?_
            refine Reg.pur rfl rfl rfl rfl (Pur.fld _ fo47_3 rfl) ?_
            refine Reg.op0 rfl rfl rfl (Does.st sc3 rfl rfl rfl o6_5 (by first | decide | (simp; done) | (simp; omega) | omega)) ?_
            rintro _ H30_6 hu30_6
            have z30_6 := hu30_6.size
            replace hE := hE.upw hu30_6 (by omega)
            replace o0_0 := o0_0.upw hu30_6 (by omega)
            replace o0_1 := o0_1.upw hu30_6 (by omega)
            replace hg1 := hg1.upw hu30_6 (by omega)
            replace hg2 := hg2.upw hu30_6 (by omega)
            replace o26_7 := o26_7.upw hu30_6 (by omega)
            replace hb2 := hb2.upw hu30_6 (by omega)
            replace hb2' := hb2'.upw hu30_6 (by omega)
            replace o6_5 := hu30_6.own
            refine Reg.nil ?_
            refine At.region rfl rfl ?_
            refine Reg.lod rfl rfl rfl rfl (Lod.ldn ag28 rfl o26_7.blk (whole (by simp [hrl])) (by simp [hrl])) ?_
            refine Reg.pur rfl rfl rfl rfl (Pur.fld _ fo47_4 rfl) ?_
            refine Reg.op0 rfl rfl rfl (Does.stn ag28 rfl rfl (by first | rfl | exact ones_Is _) (by first | rfl | (simp [*]; done)) o6_5 (by first | decide | (simp; done) | (simp; omega) | omega)) ?_
            rintro _ H31_2 hu31_2
            have z31_2 := hu31_2.size
            replace hE := hE.upw hu31_2 (by omega)
            replace o0_0 := o0_0.upw hu31_2 (by omega)
            replace o0_1 := o0_1.upw hu31_2 (by omega)
            replace hg1 := hg1.upw hu31_2 (by omega)
            replace hg2 := hg2.upw hu31_2 (by omega)
            replace o26_7 := o26_7.upw hu31_2 (by omega)
            replace hb2 := hb2.upw hu31_2 (by omega)
            replace hb2' := hb2'.upw hu31_2 (by omega)
            replace o6_5 := hu31_2.own
            first | rw [over (by first | rfl | (simp; done))] at o6_5 | skip
            replace o6_5 : Own H31_2 H3.size (Is (funS [k, v, p, q, c0, c1, c2, c3, t] (ends.getD p.toNat 0) (ends.getD q.toNat 0) (rowS Bs [c0, c1, c2, c3, t]).1)) := (by simpa [Is, funS] using o6_5)
            refine Reg.nil ?_
            have hFl : (funS [k, v, p, q, c0, c1, c2, c3, t] (ends.getD p.toNat 0) (ends.getD q.toNat 0) (rowS Bs [c0, c1, c2, c3, t]).1).length = 9 := by simp [funS, hrl]
            generalize hyy : (funS [k, v, p, q, c0, c1, c2, c3, t] (ends.getD p.toNat 0) (ends.getD q.toNat 0) (rowS Bs [c0, c1, c2, c3, t]).1) = y' at o6_5 hFl
            have hFl' : (Is y').length = 9 := by simp [hFl]
            refine At.region rfl rfl ?_
            refine Reg.pur rfl rfl rfl rfl (Pur.mv rfl) ?_
            refine Reg.lod rfl rfl rfl rfl (Lod.ldn ag47 rfl o6_5.blk (whole hFl') hFl') ?_
            refine Reg.op rfl rfl rfl rfl (Does.bslA ([Is y']) slA23 rfl rfl rfl (by simp [hFl]) rfl rfl) ?_
            rintro _ H32_2 ⟨rfl, hp32_2⟩
            have hn32_2 := New.of_eq hp32_2
            have z32_2 := hn32_2.size
            replace hE := hE.ext hn32_2.ext
            replace o0_0 := o0_0.ext hn32_2.ext
            replace o0_1 := o0_1.ext hn32_2.ext
            replace hg1 := hg1.ext hn32_2.ext
            replace hg2 := hg2.ext hn32_2.ext
            replace o6_5 := o6_5.ext hn32_2.ext
            replace o26_7 := o26_7.ext hn32_2.ext
            replace hb2 := hb2.ext hn32_2.ext
            replace hb2' := hb2'.ext hn32_2.ext
            have o32_2 := hn32_2.own
            refine Reg.op rfl rfl rfl rfl (Does.appL apt23 rfl rfl (by decide) hg1 (wide9 (nine1 hFl)) (sl_one (x := y') hFl' (by decide) hn32_2) (ones_flat _) (by simp; omega) (by omega)) ?_
            rintro _ H32_3 ⟨A32_3, cap32_3, rfl, g32_3, hbut32_3, ha32_3⟩
            have z32_3 := hbut32_3.lt
            replace hE := hE.via hbut32_3 (by first | omega | (intro g; omega) | (intro g hg; omega) | (intro g hg h; omega))
            replace o0_0 := o0_0.via hbut32_3 (by first | omega | (intro g; omega) | (intro g hg; omega) | (intro g hg h; omega))
            replace o0_1 := o0_1.via hbut32_3 (by first | omega | (intro g; omega) | (intro g hg; omega) | (intro g hg h; omega))
            replace hg2 := hg2.via hbut32_3 (by first | omega | (intro g; omega) | (intro g hg; omega) | (intro g hg h; omega))
            replace o6_5 := o6_5.via hbut32_3 (by first | omega | (intro g; omega) | (intro g hg; omega) | (intro g hg h; omega))
            replace o26_7 := o26_7.via hbut32_3 (by first | omega | (intro g; omega) | (intro g hg; omega) | (intro g hg h; omega))
            replace hb2 := hb2.via hbut32_3 (by first | omega | (intro g; omega) | (intro g hg; omega) | (intro g hg h; omega))
            replace hb2' := hb2'.via hbut32_3 (by first | omega | (intro g; omega) | (intro g hg; omega) | (intro g hg h; omega))
            replace o32_2 := o32_2.via hbut32_3 (by first | omega | (intro g; omega) | (intro g hg; omega) | (intro g hg h; omega))
            replace hg1 := g32_3
            have zg32_3 := g32_3.lt
            refine Reg.pur rfl rfl rfl rfl (Pur.asg rfl) ?_
            refine Reg.nil ?_
            exact At.meets rfl (hJ ([y'], out ++ [y'], A32_3, cap32_3) _ ⟨by rw [← hyy]; subst hk3; simp [moreS, q108], rfl, nine1 hFl, by simp, hg1, hg2, by omega, o0_0, o0_1, hE⟩) ⟨rfl, rfl, rfl, rfl, rfl, rfl, trivial⟩
        · first | (simp only [decide_eq_true_eq, decide_eq_false_iff_not, Bool.not_eq_true', Bool.not_eq_false', ne_eq, Decidable.not_not, Bool.not_eq_true, Bool.not_eq_false] at q98) | (dsimp only at q98) | skip
          refine At.region rfl rfl ?_
          refine Reg.pur rfl rfl rfl rfl (Pur.mv rfl) ?_
          refine Reg.lod rfl rfl rfl rfl (Lod.ldn ag47 rfl o6_5.blk (by first | exact whole rfl | rfl | (simp only [List.drop_succ_cons, List.drop_zero, List.take_succ_cons, List.take_zero]; rfl)) (by first | rfl | (simp [*]; done))) ?_
          refine Reg.op rfl rfl rfl rfl (Does.bslA ([[_, _, _, _, _, _, _, _, _]]) slA23 rfl rfl rfl rfl rfl rfl) ?_
          rintro _ H8_2 ⟨rfl, hp8_2⟩
          have hn8_2 := New.of_eq hp8_2
          have z8_2 := hn8_2.size
          replace hE := hE.ext hn8_2.ext
          replace o0_0 := o0_0.ext hn8_2.ext
          replace o0_1 := o0_1.ext hn8_2.ext
          replace hg1 := hg1.ext hn8_2.ext
          replace hg2 := hg2.ext hn8_2.ext
          replace o6_5 := o6_5.ext hn8_2.ext
          have o8_2 := hn8_2.own
          refine Reg.op rfl rfl rfl rfl (Does.appL apt23 rfl rfl (by decide) hg1 (wide9 (nine1 (by rfl))) (sl_one (x := [k, v, p, q, c0, c1, c2, c3, t]) (by rfl) (by decide) hn8_2) (ones_flat _) (by simp; omega) (by omega)) ?_
          rintro _ H8_3 ⟨A8_3, cap8_3, rfl, g8_3, hbut8_3, ha8_3⟩
          have z8_3 := hbut8_3.lt
          replace hE := hE.via hbut8_3 (by first | omega | (intro g; omega) | (intro g hg; omega) | (intro g hg h; omega))
          replace o0_0 := o0_0.via hbut8_3 (by first | omega | (intro g; omega) | (intro g hg; omega) | (intro g hg h; omega))
          replace o0_1 := o0_1.via hbut8_3 (by first | omega | (intro g; omega) | (intro g hg; omega) | (intro g hg h; omega))
          replace hg2 := hg2.via hbut8_3 (by first | omega | (intro g; omega) | (intro g hg; omega) | (intro g hg h; omega))
          replace o6_5 := o6_5.via hbut8_3 (by first | omega | (intro g; omega) | (intro g hg; omega) | (intro g hg h; omega))
          replace o8_2 := o8_2.via hbut8_3 (by first | omega | (intro g; omega) | (intro g hg; omega) | (intro g hg h; omega))
          replace hg1 := g8_3
          have zg8_3 := g8_3.lt
          refine Reg.pur rfl rfl rfl rfl (Pur.asg rfl) ?_
          refine Reg.nil ?_
          exact At.meets rfl (hJ ([[k, v, p, q, c0, c1, c2, c3, t]], out ++ [[k, v, p, q, c0, c1, c2, c3, t]], A8_3, cap8_3) _ ⟨more_else q35 q98, rfl, nine1 rfl, by simp, hg1, hg2, by omega, o0_0, o0_1, hE⟩) ⟨rfl, rfl, rfl, rfl, rfl, rfl, trivial⟩
    · obtain ⟨m, out', A', cap'⟩ := s
      obtain ⟨hmo, rfl, hNm, hml, hg1, hg2, hap, o0_0, o0_1, hE⟩ := hs
      dsimp only at hg1 hap ⊢
      have z_hE := hE.lt
      have z_o0_0 := o0_0.lt
      have z_o0_1 := o0_1.lt
      have z_hg1 := hg1.lt
      have z_hg2 := hg2.lt
      have hla : (out ++ m).length = out.length + m.length := List.length_append
      rw [hmo] at hgo
      dsimp only at hgo
      refine At.region rfl rfl ?_
      refine Reg.pur rfl rfl rfl rfl (Pur.mv rfl) ?_
      refine Reg.pur rfl rfl rfl rfl (Pur.mv rfl) ?_
      refine Reg.pur rfl rfl rfl rfl (Pur.lenS isl23 rfl) ?_
      first | refine Reg.pur rfl rfl rfl rfl (Pur.sub64 rfl rfl (by omega)) ?_ | refine Reg.pur rfl rfl rfl rfl (Pur.sub64 rfl rfl (by assumption)) ?_ | refine Reg.pur rfl rfl rfl rfl (Pur.sub rfl rfl) ?_
      refine Reg.op rfl rfl rfl rfl (Does.bsl1 sl1_54 rfl rfl rfl rfl rfl) ?_
      rintro _ H33_4 ⟨rfl, hn33_4⟩
      have z33_4 := hn33_4.size
      replace hE := hE.ext hn33_4.ext
      replace o0_0 := o0_0.ext hn33_4.ext
      replace o0_1 := o0_1.ext hn33_4.ext
      replace hg1 := hg1.ext hn33_4.ext
      replace hg2 := hg2.ext hn33_4.ext
      have o33_4 := hn33_4.own
      refine Reg.op rfl rfl rfl rfl (Does.appL apt54 rfl rfl (by decide) hg2 (wide1 _) (sl_new (L := [((out ++ m).length : Int) - 1]) (wide1 _) (by decide) hn33_4 (by simp)) (ones_e1 _) (by simp; omega) (by omega)) ?_
      rintro _ H33_5 ⟨A33_5, cap33_5, rfl, g33_5, hbut33_5, ha33_5⟩
      have z33_5 := hbut33_5.lt
      replace hE := hE.via hbut33_5 (by first | omega | (intro g; omega) | (intro g hg; omega) | (intro g hg h; omega))
      replace o0_0 := o0_0.via hbut33_5 (by first | omega | (intro g; omega) | (intro g hg; omega) | (intro g hg h; omega))
      replace o0_1 := o0_1.via hbut33_5 (by first | omega | (intro g; omega) | (intro g hg; omega) | (intro g hg h; omega))
      replace hg1 := hg1.via hbut33_5 (by first | omega | (intro g; omega) | (intro g hg; omega) | (intro g hg h; omega))
      replace o33_4 := o33_4.via hbut33_5 (by first | omega | (intro g; omega) | (intro g hg; omega) | (intro g hg h; omega))
      replace hg2 := g33_5
      have zg33_5 := g33_5.lt
      refine Reg.pur rfl rfl rfl rfl (Pur.asg rfl) ?_
      refine Reg.nil ?_
      refine At.region rfl rfl ?_
      refine Reg.pur rfl rfl rfl rfl (Pur.mv rfl) ?_
      refine Reg.pur rfl rfl rfl rfl (Pur.lenS isl23 rfl) ?_
      refine Reg.pur rfl rfl rfl rfl (Pur.gtr rfl rfl) ?_
      refine Reg.nil ?_
      refine At.cond rfl rfl (fun q136 => ?_) (fun q136 => ?_)
      · first | (simp only [decide_eq_true_eq, decide_eq_false_iff_not, Bool.not_eq_true', Bool.not_eq_false', ne_eq, Decidable.not_not, Bool.not_eq_true, Bool.not_eq_false] at q136) | (dsimp only at q136) | skip
        refine At.region rfl rfl ?_
        refine Reg.pur rfl rfl rfl rfl (Pur.bld (cs := [_]) pl25 zc25 rfl rfl ⟨rfl, rfl⟩) ?_
        refine Reg.op0 rfl rfl rfl (Does.stn ag25 rfl rfl (by first | rfl | exact ones_Is _) (by first | rfl | (simp [*]; done)) o0_1 (by first | decide | (simp; done) | (simp; omega) | omega)) ?_
        rintro _ H35_1 hu35_1
        have z35_1 := hu35_1.size
        replace hE := hE.upw hu35_1 (by omega)
        replace o0_0 := o0_0.upw hu35_1 (by omega)
        replace hg1 := hg1.upw hu35_1 (by omega)
        replace hg2 := hg2.upw hu35_1 (by omega)
        replace o33_4 := o33_4.upw hu35_1 (by omega)
        replace o0_1 := hu35_1.own
        first | rw [over (by first | rfl | (simp; done))] at o0_1 | skip
        refine Reg.pur rfl rfl rfl rfl (Pur.asg rfl) ?_
        refine Reg.nil ?_
        refine At.retC rfl Try.func57 ⟨_, _, _, _, rfl, rfl, ⟨_, o0_1.blk, .inr ⟨_, _, ag25, (by first | exact whole rfl | exact whole (by simp [*])), (by first | rfl | simp [*]), rfl⟩⟩, ⟨_, _, rfl, rfl, rfl⟩⟩ ?_
        refine ⟨hE, ?_⟩
        rw [← hgo, if_pos (by omega)]; exact rfl
      · first | (simp only [decide_eq_true_eq, decide_eq_false_iff_not, Bool.not_eq_true', Bool.not_eq_false', ne_eq, Decidable.not_not, Bool.not_eq_true, Bool.not_eq_false] at q136) | (dsimp only at q136) | skip
        refine At.region rfl rfl ?_
        refine Reg.pur rfl rfl rfl rfl (Pur.mv rfl) ?_
        first | refine Reg.pur rfl rfl rfl rfl (Pur.add64 rfl rfl (by omega)) ?_ | refine Reg.pur rfl rfl rfl rfl (Pur.add64 rfl rfl (by assumption)) ?_ | refine Reg.pur rfl rfl rfl rfl (Pur.add rfl rfl) ?_
        refine Reg.pur rfl rfl rfl rfl (Pur.asg rfl) ?_
        refine Reg.nil ?_
        exact At.via (ih (i + 1, out ++ m, ends ++ [((out ++ m).length : Int) - 1], A', cap', A33_5, cap33_5) _ ⟨by omega, by omega, by simp [hel], nine_app hN hNm, hg1, hg2, by omega, o0_0, o0_1, hE, by rw [hla, ← hgo, if_neg (by omega)]⟩ (by simp only; omega)) ⟨rfl, rfl, rfl, rfl, rfl, rfl, trivial⟩
  · first | (simp only [decide_eq_true_eq, decide_eq_false_iff_not, Bool.not_eq_true', Bool.not_eq_false', ne_eq, Decidable.not_not, Bool.not_eq_true, Bool.not_eq_false] at q21) | (dsimp only at q21) | skip
    refine At.region rfl rfl ?_
    refine Reg.pur rfl rfl rfl rfl (Pur.mv rfl) ?_
    refine Reg.pur rfl rfl rfl rfl (Pur.bld (cs := [_]) pl25 zc25 rfl rfl ⟨rfl, rfl⟩) ?_
    refine Reg.op0 rfl rfl rfl (Does.stn ag25 rfl rfl (by first | rfl | exact ones_Is _) (by first | rfl | (simp [*]; done)) o0_1 (by first | decide | (simp; done) | (simp; omega) | omega)) ?_
    rintro _ H36_2 hu36_2
    have z36_2 := hu36_2.size
    replace hE := hE.upw hu36_2 (by omega)
    replace o0_0 := o0_0.upw hu36_2 (by omega)
    replace hg1 := hg1.upw hu36_2 (by omega)
    replace hg2 := hg2.upw hu36_2 (by omega)
    replace o0_1 := hu36_2.own
    first | rw [over (by first | rfl | (simp; done))] at o0_1 | skip
    refine Reg.pur rfl rfl rfl rfl (Pur.asg rfl) ?_
    refine Reg.nil ?_
    refine At.retC rfl Try.func57 ⟨_, _, _, _, rfl, rfl, ⟨_, o0_1.blk, .inr ⟨_, _, ag25, (by first | exact whole rfl | exact whole (by simp [*])), (by first | rfl | simp [*]), rfl⟩⟩, ⟨_, _, rfl, rfl, rfl⟩⟩ ?_
    refine ⟨hE, ?_⟩
    rw [List.drop_of_length_le (by omega)] at hgo
    rw [← hgo]; exact ⟨A', cap', rfl, hg1.mono (by omega), hN, hol⟩
end Go.Proofs.Ytlfillhffpiffaa
