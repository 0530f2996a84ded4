/-
  SubL SubM SubN SubO SubP SubQ SubR: joined texts.
-/
import Derived.Test.YtlfillhffpiffaaM2
import Derived.Test.YtlfillhffpiffaaM1
/-
  The reference's typeOf.
-/
namespace Go.Proofs.Ytlfillhffpiffaa
set_option linter.unusedSimpArgs false
set_option linter.unusedVariables false
set_option maxRecDepth 8000
open Go Go.Fx Go.Proofs
namespace FactsSubL
theorem ag25 : ag Try.prog 25 = some 1 := by kernel_rfl
theorem ag28 : ag Try.prog 28 = some 5 := by kernel_rfl
theorem ag47 : ag Try.prog 47 = some 9 := by kernel_rfl
theorem apt23 : appT Try.prog 23 = some (47, 9, 72) := by kernel_rfl
theorem apt54 : appT Try.prog 54 = some (3, 1, 8) := by kernel_rfl
theorem es22 : esz Try.prog 22 = some 8 := by kernel_rfl
theorem es23 : esz Try.prog 23 = some 9 := by kernel_rfl
theorem es54 : esz Try.prog 54 = some 1 := by kernel_rfl
theorem fo25_0 : foff Try.prog 25 0 = some 0 := by kernel_rfl
theorem fo47_0 : foff Try.prog 47 0 = some 0 := by kernel_rfl
theorem fo47_1 : foff Try.prog 47 1 = some 1 := by kernel_rfl
theorem fo47_2 : foff Try.prog 47 2 = some 2 := by kernel_rfl
theorem fo47_3 : foff Try.prog 47 3 = some 3 := by kernel_rfl
theorem fo47_4 : foff Try.prog 47 4 = some 4 := by kernel_rfl
theorem fo49_0 : foff Try.prog 49 0 = some 0 := by kernel_rfl
theorem fo49_1 : foff Try.prog 49 1 = some 1 := by kernel_rfl
theorem fo49_2 : foff Try.prog 49 2 = some 2 := by kernel_rfl
theorem isl22 : isSl Try.prog 22 = true := by kernel_rfl
theorem isl23 : isSl Try.prog 23 = true := by kernel_rfl
theorem mixed : Try.prog.follows .mixedOrders = true := by kernel_rfl
theorem pl25 : places Try.prog 25 = some [(0, 1)] := by kernel_rfl
theorem sc23 : sc Try.prog 23 = true := by kernel_rfl
theorem sc3 : sc Try.prog 3 = true := by kernel_rfl
theorem sc4 : sc Try.prog 4 = true := by kernel_rfl
theorem sl1_54 : sl1 Try.prog 54 = true := by kernel_rfl
theorem slA23 : slA Try.prog 23 = some (47, 9) := by kernel_rfl
theorem zc25 : zc Try.prog 25 = some [.slice none 0 0] := by kernel_rfl
theorem zc28 : zc Try.prog 28 = some [.int .i64 0, .int .i64 0, .int .i64 0, .int .i64 0, .int .i64 0] := by kernel_rfl
theorem zc47 : zc Try.prog 47 = some [.int .i64 0, .int .i64 0, .int .i64 0, .int .i64 0, .int .i64 0, .int .i64 0, .int .i64 0, .int .i64 0, .int .i64 0] := by kernel_rfl
end FactsSubL
open FactsSubL

theorem movS_not3 {k : Int} {x : List Int} (h : ¬ x.getD 0 0 = 3) : movS k x = x := by unfold movS; rw [if_neg h]
theorem map1_mov {k : Int} {U : List (List Int)} {j : Nat} (h : j < U.length) : (U.take (j + 1)).map (movS k) = (U.take j).map (movS k) ++ [movS k U[j]] := by
  rw [List.take_succ_eq_append_getElem h, List.map_append]; rfl
theorem nine_app {L M : List (List Int)} (h : Nine L) (h' : Nine M) : Nine (L ++ M) := fun x hx => (List.mem_append.1 hx).elim (h x) (h' x)

theorem typeOf_ok {A A1 : Option Addr} {cap cap1 : Nat} {Bs : List Bd} {L : List (List Int)} {H : Heap} (hB : Bds H (.slice A Bs.length cap) Bs) (h256 : ∀ b ∈ Bs, b.nodes.length ≤ 256) (hS : SlT H Is 9 (.slice A1 L.length cap1) L) (hL : Nine L) (hM : typM L = true) :
    Ret Try.prog 57 [.slice A Bs.length cap, Ty A1 L.length cap1] H (fun v H' => Ext H H' ∧ TypB H.size H' v (typS Bs L)) := by
  have hlen : 1 ≤ L.length ∧ L.length ≤ 256 := by unfold typM at hM; simp only [Bool.and_eq_true, decide_eq_true_eq] at hM; exact hM.1.1
  have hbl : Bs.length ≤ 9223372036854775807 := hB.max
  refine Ret.of_at (N := 140) Try.call57 Try.func57 rfl rfl rfl ?_
  have hE := Ext.refl H
  refine At.region rfl rfl ?_
  refine Reg.op rfl rfl rfl rfl (Does.box rfl rfl) ?_
  rintro _ H0_0 ⟨rfl, hn0_0⟩
  have z0_0 := hn0_0.size
  replace hE := hE.ext hn0_0.ext
  have o0_0 := hn0_0.own
  refine Reg.op rfl rfl rfl rfl (Does.alloc zc25) ?_
  rintro _ H0_1 ⟨rfl, hn0_1⟩
  have z0_1 := hn0_1.size
  replace hE := hE.ext hn0_1.ext
  replace o0_0 := o0_0.ext hn0_1.ext
  have o0_1 := hn0_1.own
  refine Reg.pur rfl rfl rfl rfl (Pur.asg rfl) ?_
  refine Reg.nil ?_
  refine At.region rfl rfl ?_
  refine Reg.pur rfl rfl rfl rfl (Pur.asg rfl) ?_
  refine Reg.nil ?_
  refine At.region rfl rfl ?_
  refine Reg.pur rfl rfl rfl rfl (Pur.asg rfl) ?_
  refine Reg.nil ?_
  refine At.region rfl rfl ?_
  refine Reg.pur rfl rfl rfl rfl (Pur.asg rfl) ?_
  refine Reg.nil ?_
  refine At.loop (σ := Nat × List (List Int) × List Int × Option Addr × Nat × Option Addr × Nat) (fun (i, out, ends, A', cap', A2, cap2) => [(8, I i), (6, .slice A' out.length cap'), (7, .slice A2 ends.length cap2), (0, .slice A Bs.length cap), (3, ptr H.size 0), (4, ptr H0_0.size 0)]) (fun (i, out, ends, A', cap', A2, cap2) H' => i ≤ L.length ∧ out.length ≤ 256 ∧ ends.length = i ∧ Nine out ∧ Gs H' H0_1.size 47 9 A' cap' out.length (out.flatMap Is) ∧ Gs H' H0_1.size 3 1 A2 cap2 ends.length (ends.flatMap e1) ∧ (ob A' = -1 ∨ ob A' ≠ ob A2) ∧ Own H' H.size [.slice A1 L.length cap1] ∧ Own H' H0_0.size [.slice none 0 0] ∧ Ext H H' ∧ goS Bs (L.drop i) out ends = typS Bs L) (fun s => L.length - s.1) (0, [], [], none, 0, none, 0) rfl ⟨rfl, rfl, rfl, rfl, rfl, rfl, trivial⟩ ⟨by omega, by simp, rfl, (fun x hx => by cases hx), OwnS.nilG, OwnS.nilG, .inl rfl, o0_0, o0_1, hE, rfl⟩ ?_
  clear hE o0_0 o0_1
  rintro ⟨i, out, ends, A', cap', A2, cap2⟩ H3 ⟨hi, hol, hel, hN, hg1, hg2, hap, o0_0, o0_1, hE, hgo⟩ ih
  dsimp only at hi hol hel hN hg1 hg2 hap hgo ⊢
  have z_hE := hE.lt
  have z_o0_0 := o0_0.lt
  have z_o0_1 := o0_1.lt
  have z_hg1 := hg1.lt
  have z_hg2 := hg2.lt
  refine At.region rfl rfl ?_
  refine Reg.pur rfl rfl rfl rfl (Pur.mv rfl) ?_
  refine Reg.pur rfl rfl rfl rfl (Pur.fld _ fo25_0 rfl) ?_
  refine Reg.lod rfl rfl rfl rfl (Lod.ld sc23 rfl o0_0.blk (by first | rfl | (simp; done))) ?_
  refine Reg.pur rfl rfl rfl rfl (Pur.lenS isl23 rfl) ?_
  refine Reg.pur rfl rfl rfl rfl (Pur.lss rfl rfl) ?_
  refine Reg.nil ?_
  refine At.cond rfl rfl (fun q21 => ?_) (fun q21 => ?_)
  · first | (simp only [decide_eq_true_eq, decide_eq_false_iff_not, Bool.not_eq_true', Bool.not_eq_false', ne_eq, Decidable.not_not, Bool.not_eq_true, Bool.not_eq_false] at q21) | (dsimp only at q21) | skip
    have hlt : i < L.length := by omega
    obtain ⟨b, o, c, rfl, hB0, hd, h9⟩ := sl_at (wide9 hL) (hS.ext hE) hlt
    have h9' := hL _ (List.getElem_mem hlt)
    have hfun := typM_all hM hlt
    have hnod := typM_nod hM hlt
    rw [dropL hlt, goS] at hgo
    generalize L[i] = x at hgo hd h9 h9' hfun hnod
    obtain ⟨k, v, p, q, c0, c1, c2, c3, t, rfl⟩ : ∃ k v p q c0 c1 c2 c3 t, x = [k, v, p, q, c0, c1, c2, c3, t] := by match x, h9' with | [k, v, p, q, c0, c1, c2, c3, t], _ => exact ⟨_, _, _, _, _, _, _, _, _, rfl⟩
    refine At.region rfl rfl ?_
    refine Reg.pur rfl rfl rfl rfl (Pur.fld _ fo25_0 rfl) ?_
    refine Reg.lod rfl rfl rfl rfl (Lod.ld sc23 rfl o0_0.blk (by first | rfl | (simp; done))) ?_
    refine Reg.pur rfl rfl rfl rfl (Pur.mv rfl) ?_
    refine Reg.pur rfl rfl rfl rfl (Pur.idx _ es23 rfl rfl (by omega) (by omega)) ?_
    refine Reg.lod rfl rfl rfl rfl (Lod.ldn ag47 rfl hB0 hd h9) ?_
    refine Reg.op rfl rfl rfl rfl (Does.alloc zc47) ?_
    rintro _ H6_5 ⟨rfl, hn6_5⟩
    have z6_5 := hn6_5.size
    replace hE := hE.ext hn6_5.ext
    replace o0_0 := o0_0.ext hn6_5.ext
    replace o0_1 := o0_1.ext hn6_5.ext
    replace hg1 := hg1.ext hn6_5.ext
    replace hg2 := hg2.ext hn6_5.ext
    have o6_5 := hn6_5.own
    refine Reg.op0 rfl rfl rfl (Does.stn ag47 rfl rfl (by first | rfl | exact ones_Is _) (by first | rfl | (simp [*]; done)) o6_5 (by first | decide | (simp; done) | (simp; omega) | omega)) ?_
    rintro _ H6_6 hu6_6
    have z6_6 := hu6_6.size
    replace hE := hE.upw hu6_6 (by omega)
    replace o0_0 := o0_0.upw hu6_6 (by omega)
    replace o0_1 := o0_1.upw hu6_6 (by omega)
    replace hg1 := hg1.upw hu6_6 (by omega)
    replace hg2 := hg2.upw hu6_6 (by omega)
    replace o6_5 := hu6_6.own
    first | rw [over (by first | rfl | (simp; done))] at o6_5 | skip
    refine Reg.nil ?_
    refine At.region rfl rfl ?_
    refine Reg.pur rfl rfl rfl rfl (Pur.fld _ fo47_0 rfl) ?_
    refine Reg.lod rfl rfl rfl rfl (Lod.ld sc3 rfl o6_5.blk (by first | rfl | (simp; done))) ?_
    refine Reg.nil ?_
    refine At.region rfl rfl ?_
    refine Reg.pur rfl rfl rfl rfl (Pur.eql rfl rfl) ?_
    refine Reg.pur rfl rfl rfl rfl (Pur.asg rfl) ?_
    refine Reg.nil ?_
    refine At.joinc (σ := List (List Int) × List (List Int) × Option Addr × Nat) (fun (m, out', A', cap') => [(6, .slice A' out'.length cap'), (7, .slice A2 ends.length cap2), (8, I i), (0, .slice A Bs.length cap), (3, ptr H.size 0), (4, ptr H0_0.size 0)]) (fun (m, out', A', cap') H' => moreS Bs out ends [k, v, p, q, c0, c1, c2, c3, t] = some m ∧ out' = out ++ m ∧ Nine m ∧ m.length ≤ 256 ∧ Gs H' H0_1.size 47 9 A' cap' out'.length (out'.flatMap Is) ∧ Gs H' H0_1.size 3 1 A2 cap2 ends.length (ends.flatMap e1) ∧ (ob A' = -1 ∨ ob A' ≠ ob A2) ∧ Own H' H.size [.slice (some ⟨b, o, none⟩) L.length cap1] ∧ Own H' H0_0.size [.slice none 0 0] ∧ Ext H H') rfl (fun hJ => ?_) (fun s H7 hs => ?_)
    · refine At.cond rfl rfl (fun q35 => ?_) (fun q35 => ?_)
      · first | (simp only [decide_eq_true_eq, decide_eq_false_iff_not, Bool.not_eq_true', Bool.not_eq_false', ne_eq, Decidable.not_not, Bool.not_eq_true, Bool.not_eq_false] at q35) | (dsimp only at q35) | skip
        obtain rfl : k = 2 := q35
        refine At.region rfl rfl ?_
        refine Reg.lod rfl rfl rfl rfl (Lod.ldn ag47 rfl o6_5.blk (by first | exact whole rfl | rfl | (simp only [List.drop_succ_cons, List.drop_zero, List.take_succ_cons, List.take_zero]; rfl)) (by first | rfl | (simp [*]; done))) ?_
        refine Reg.op rfl rfl rfl rfl (Does.bslA ([[_, _, _, _, _, _, _, _, _]]) slA23 rfl rfl rfl rfl rfl rfl) ?_
        rintro _ H10_1 ⟨rfl, hp10_1⟩
        have hn10_1 := New.of_eq hp10_1
        have z10_1 := hn10_1.size
        replace hE := hE.ext hn10_1.ext
        replace o0_0 := o0_0.ext hn10_1.ext
        replace o0_1 := o0_1.ext hn10_1.ext
        replace hg1 := hg1.ext hn10_1.ext
        replace hg2 := hg2.ext hn10_1.ext
        replace o6_5 := o6_5.ext hn10_1.ext
        have o10_1 := hn10_1.own
        refine Reg.pur rfl rfl rfl rfl (Pur.bld (cs := [_]) pl25 zc25 rfl rfl ⟨rfl, rfl⟩) ?_
        refine Reg.op rfl rfl rfl rfl (Does.alloc zc25) ?_
        rintro _ H10_3 ⟨rfl, hn10_3⟩
        have z10_3 := hn10_3.size
        replace hE := hE.ext hn10_3.ext
        replace o0_0 := o0_0.ext hn10_3.ext
        replace o0_1 := o0_1.ext hn10_3.ext
        replace hg1 := hg1.ext hn10_3.ext
        replace hg2 := hg2.ext hn10_3.ext
        replace o6_5 := o6_5.ext hn10_3.ext
        replace o10_1 := o10_1.ext hn10_3.ext
        have hT := hn10_3.own
        refine Reg.op0 rfl rfl rfl (Does.stn ag25 rfl rfl (by first | rfl | exact ones_Is _) (by first | rfl | (simp [*]; done)) hT (by first | decide | (simp; done) | (simp; omega) | omega)) ?_
        rintro _ H10_4 hu10_4
        have z10_4 := hu10_4.size
        replace hE := hE.upw hu10_4 (by omega)
        replace o0_0 := o0_0.upw hu10_4 (by omega)
        replace o0_1 := o0_1.upw hu10_4 (by omega)
        replace hg1 := hg1.upw hu10_4 (by omega)
        replace hg2 := hg2.upw hu10_4 (by omega)
        replace o6_5 := o6_5.upw hu10_4 (by omega)
        replace o10_1 := o10_1.upw hu10_4 (by omega)
        replace hT := hu10_4.own
        first | rw [over (by first | rfl | (simp; done))] at hT | skip
        refine Reg.nil ?_
        refine At.region rfl rfl ?_
        refine Reg.pur rfl rfl rfl rfl (Pur.asg rfl) ?_
        refine Reg.nil ?_
        refine At.joinb (σ := List (List Int) × Option Addr × Nat) (fun (U, Au, capu) => [(10, ptr H10_1.size 0), (9, ptr H3.size 0), (6, .slice A' out.length cap'), (7, .slice A2 ends.length cap2), (8, I i), (0, .slice A Bs.length cap), (3, ptr H.size 0), (4, ptr H0_0.size 0)]) (fun (U, Au, capu) H' => H'.size = H10_4.size ∧ moreS Bs out ends [2, v, p, q, c0, c1, c2, c3, t] = some (U.map (movS out.length)) ∧ Nine U ∧ U.length ≤ 256 ∧ SlT H' Is 9 (.slice Au U.length capu) U ∧ (U.length = 0 ∨ ob Au ≠ ob A') ∧ Own H' H10_1.size [.slice Au U.length capu] ∧ Gs H' H0_1.size 47 9 A' cap' out.length (out.flatMap Is) ∧ Gs H' H0_1.size 3 1 A2 cap2 ends.length (ends.flatMap e1) ∧ Own H' H.size [.slice (some ⟨b, o, none⟩) L.length cap1] ∧ Own H' H0_0.size [.slice none 0 0] ∧ Ext H H') (fun hK => ?_) (fun s H7 hs => ?_)
        · have hx10 : SlT H10_4 Is 9 (.slice (some ⟨H6_6.size, 0, none⟩) 1 1) [[2, v, p, q, c0, c1, c2, c3, t]] := ((sl_one (x := [2, v, p, q, c0, c1, c2, c3, t]) (by rfl) (by decide) hn10_1).ext hn10_3.ext).upw hu10_4 (.inr (by rw [ob_some]; omega))
          refine At.loop (σ := Nat) (fun j => [(11, I j), (10, ptr H10_1.size 0), (9, ptr H3.size 0), (6, .slice A' out.length cap'), (7, .slice A2 ends.length cap2), (8, I i), (0, .slice A Bs.length cap), (3, ptr H.size 0), (4, ptr H0_0.size 0)]) (fun j H' => j ≤ Bs.length ∧ H' = H10_4 ∧ (Bs.drop j).find? (mt false v) = Bs.find? (mt false v)) (fun j => Bs.length - j) 0 rfl ⟨rfl, rfl, rfl, rfl, rfl, rfl, rfl, rfl, rfl, trivial⟩ ⟨by omega, rfl, rfl⟩ ?_
          rintro j H10_4 ⟨hj, rfl, hgj⟩ ihj
          refine At.region rfl rfl ?_
          refine Reg.pur rfl rfl rfl rfl (Pur.mv rfl) ?_
          refine Reg.pur rfl rfl rfl rfl (Pur.mv rfl) ?_
          refine Reg.pur rfl rfl rfl rfl (Pur.lenS isl22 rfl) ?_
          refine Reg.pur rfl rfl rfl rfl (Pur.lss rfl rfl) ?_
          refine Reg.nil ?_
          refine At.cond rfl rfl (fun q43 => ?_) (fun q43 => ?_)
          · first | (simp only [decide_eq_true_eq, decide_eq_false_iff_not, Bool.not_eq_true', Bool.not_eq_false', ne_eq, Decidable.not_not, Bool.not_eq_true, Bool.not_eq_false] at q43) | (dsimp only at q43) | skip
            have hlj : j < Bs.length := by omega
            obtain ⟨b', o', c', rfl, hB', hd', _⟩ := (hB.ext hE).at hlj
            have hok := hB.ok _ (List.getElem_mem hlj)
            have h256j := h256 _ (List.getElem_mem hlj)
            rw [dropL hlj, List.find?_cons] at hgj
            generalize Bs[j] = bd at *
            refine At.drawE ((Bks.cons hB'.blk (Bks.cons o6_5.blk Bks.nil))) [] mixed rfl rfl ?_
            refine RegD.tpur (i := 0) rfl rfl rfl rfl (by kernel_rfl) (Pur.mv rfl) ?_
            refine RegD.tpur (i := 1) rfl rfl rfl rfl (by kernel_rfl) (Pur.mv rfl) ?_
            refine RegD.tpur (i := 2) rfl rfl rfl rfl (by kernel_rfl) (Pur.idx _ es22 rfl rfl (by omega) (by omega)) ?_
            refine RegD.tpur (i := 3) rfl rfl rfl rfl (by kernel_rfl) (Pur.fld _ fo49_1 rfl) ?_
            refine RegD.take (i := 4) rfl rfl rfl rfl (by kernel_rfl) (Bks.cons hB'.blk (Bks.cons o6_5.blk Bks.nil)) (fun H hS => Lod.ld sc4 rfl hS.hd (at_tk (j := 1) hd' (by decide) rfl)) ?_
            refine RegD.tpur (i := 5) rfl rfl rfl rfl (by kernel_rfl) (Pur.not rfl) ?_
            refine RegD.tpur (i := 6) rfl rfl rfl rfl (by kernel_rfl) (Pur.mv rfl) ?_
            refine RegD.case 52 rfl (fun q52 => ?_) (fun q52 => ?_)
            · first | (simp only [decide_eq_true_eq, decide_eq_false_iff_not, Bool.not_eq_true', Bool.not_eq_false', ne_eq, Decidable.not_not, Bool.not_eq_true, Bool.not_eq_false] at q52) | (dsimp only at q52) | skip
              refine RegD.gtpur (i := 7) rfl rfl rfl rfl rfl rfl (by kernel_rfl) (Pur.mv rfl) ?_
              refine RegD.gtpur (i := 8) rfl rfl rfl rfl rfl rfl (by kernel_rfl) (Pur.mv rfl) ?_
              refine RegD.gtpur (i := 9) rfl rfl rfl rfl rfl rfl (by kernel_rfl) (Pur.idx _ es22 rfl rfl (by omega) (by omega)) ?_
              refine RegD.gtpur (i := 10) rfl rfl rfl rfl rfl rfl (by kernel_rfl) (Pur.fld _ fo49_0 rfl) ?_
              refine RegD.gtake (i := 11) rfl rfl rfl rfl rfl rfl (by kernel_rfl) (Bks.cons hB'.blk (Bks.cons o6_5.blk Bks.nil)) (fun H hS => Lod.ld sc3 rfl hS.hd (at_tk (j := 0) hd' (by decide) rfl)) ?_
              refine RegD.gtpur (i := 12) rfl rfl rfl rfl rfl rfl (by kernel_rfl) (Pur.fld _ fo47_1 rfl) ?_
              refine RegD.gtake (i := 13) rfl rfl rfl rfl rfl rfl (by kernel_rfl) (Bks.cons hB'.blk (Bks.cons o6_5.blk Bks.nil)) (fun H hS => Lod.ld sc3 rfl hS.tl.hd (by first | rfl | (simp; done))) ?_
              refine RegD.gtpur (i := 14) rfl rfl rfl rfl rfl rfl (by kernel_rfl) (Pur.eql rfl rfl) ?_
              refine RegD.tpur (i := 15) rfl rfl rfl rfl (by kernel_rfl) (Pur.pickT rfl rfl) ?_
              refine RegD.done (by kernel_rfl) ?_
              refine At.cond rfl rfl (fun q61 => ?_) (fun q61 => ?_)
              · first | (simp only [decide_eq_true_eq, decide_eq_false_iff_not, Bool.not_eq_true', Bool.not_eq_false', ne_eq, Decidable.not_not, Bool.not_eq_true, Bool.not_eq_false] at q61) | (dsimp only at q61) | skip
                refine At.region rfl rfl ?_
                refine Reg.pur rfl rfl rfl rfl (Pur.mv rfl) ?_
                refine Reg.pur rfl rfl rfl rfl (Pur.mv rfl) ?_
                refine Reg.pur rfl rfl rfl rfl (Pur.idx _ es22 rfl rfl (by omega) (by omega)) ?_
                refine Reg.pur rfl rfl rfl rfl (Pur.fld _ fo49_2 rfl) ?_
                refine Reg.lod rfl rfl rfl rfl (Lod.ldn ag25 rfl hB' (show _ = [Value.slice bd.A bd.nodes.length bd.cap] by rw [← List.drop_drop]; exact (take_mid hd' (by decide)).trans rfl) rfl) ?_
                refine Reg.op0 rfl rfl rfl (Does.stn ag25 rfl rfl (by first | rfl | exact ones_Is _) (by first | rfl | (simp [*]; done)) hT (by first | decide | (simp; done) | (simp; omega) | omega)) ?_
                rintro _ H15_5 hu15_5
                have z15_5 := hu15_5.size
                replace hE := hE.upw hu15_5 (by omega)
                replace o0_0 := o0_0.upw hu15_5 (by omega)
                replace o0_1 := o0_1.upw hu15_5 (by omega)
                replace hg1 := hg1.upw hu15_5 (by omega)
                replace hg2 := hg2.upw hu15_5 (by omega)
                replace o6_5 := o6_5.upw hu15_5 (by omega)
                replace o10_1 := o10_1.upw hu15_5 (by omega)
                replace hT := hu15_5.own
                first | rw [over (by first | rfl | (simp; done))] at hT | skip
                refine Reg.nil ?_
                have hfd : Bs.find? (mt false v) = some bd := by rw [← hgj, show mt false v bd = true by simp [mt, q52, q61]]
                exact At.meets rfl (hK (bd.nodes, bd.A, bd.cap) _ ⟨by omega, by simp [moreS, hfd], hok.nine, h256j, hok.sl.ext hE, by have := hok.sl.lt; omega, hT, hg1, hg2, o0_0, o0_1, hE⟩) ⟨rfl, rfl, rfl, rfl, rfl, rfl, rfl, rfl, trivial⟩
              · first | (simp only [decide_eq_true_eq, decide_eq_false_iff_not, Bool.not_eq_true', Bool.not_eq_false', ne_eq, Decidable.not_not, Bool.not_eq_true, Bool.not_eq_false] at q61) | (dsimp only at q61) | skip
                refine At.region rfl rfl ?_
                refine Reg.pur rfl rfl rfl rfl (Pur.mv rfl) ?_
                first | refine Reg.pur rfl rfl rfl rfl (Pur.add64 rfl rfl (by omega)) ?_ | refine Reg.pur rfl rfl rfl rfl (Pur.add64 rfl rfl (by assumption)) ?_ | refine Reg.pur rfl rfl rfl rfl (Pur.add rfl rfl) ?_
                refine Reg.pur rfl rfl rfl rfl (Pur.asg rfl) ?_
                refine Reg.nil ?_
                exact At.via (ihj (j + 1) _ ⟨by omega, rfl, by rw [← hgj, show mt false v bd = false by first | (simp [mt, q52]; done) | (simp [mt, q52, q61]; done) | (simp [mt, q61]; done)]⟩ (by omega)) ⟨rfl, rfl, rfl, rfl, rfl, rfl, rfl, rfl, rfl, trivial⟩
            · first | (simp only [decide_eq_true_eq, decide_eq_false_iff_not, Bool.not_eq_true', Bool.not_eq_false', ne_eq, Decidable.not_not, Bool.not_eq_true, Bool.not_eq_false] at q52) | (dsimp only at q52) | skip
              refine RegD.skip (i := 7) rfl rfl rfl rfl rfl rfl rfl (by kernel_rfl) ?_
              refine RegD.skip (i := 8) rfl rfl rfl rfl rfl rfl rfl (by kernel_rfl) ?_
              refine RegD.skip (i := 9) rfl rfl rfl rfl rfl rfl rfl (by kernel_rfl) ?_
              refine RegD.skip (i := 10) rfl rfl rfl rfl rfl rfl rfl (by kernel_rfl) ?_
              refine RegD.skip (i := 11) rfl rfl rfl rfl rfl rfl rfl (by kernel_rfl) ?_
              refine RegD.skip (i := 12) rfl rfl rfl rfl rfl rfl rfl (by kernel_rfl) ?_
              refine RegD.skip (i := 13) rfl rfl rfl rfl rfl rfl rfl (by kernel_rfl) ?_
              refine RegD.skip (i := 14) rfl rfl rfl rfl rfl rfl rfl (by kernel_rfl) ?_
              refine RegD.tpur (i := 15) rfl rfl rfl rfl (by kernel_rfl) (Pur.pickF rfl rfl) ?_
              refine RegD.done (by kernel_rfl) ?_
              refine At.condF rfl rfl rfl ?_
              refine At.region rfl rfl ?_
              refine Reg.pur rfl rfl rfl rfl (Pur.mv rfl) ?_
              first | refine Reg.pur rfl rfl rfl rfl (Pur.add64 rfl rfl (by omega)) ?_ | refine Reg.pur rfl rfl rfl rfl (Pur.add64 rfl rfl (by assumption)) ?_ | refine Reg.pur rfl rfl rfl rfl (Pur.add rfl rfl) ?_
              refine Reg.pur rfl rfl rfl rfl (Pur.asg rfl) ?_
              refine Reg.nil ?_
              exact At.via (ihj (j + 1) _ ⟨by omega, rfl, by rw [← hgj, show mt false v bd = false by first | (simp [mt, q52]; done) | (simp [mt, q52, q61]; done) | (simp [mt, q61]; done)]⟩ (by omega)) ⟨rfl, rfl, rfl, rfl, rfl, rfl, rfl, rfl, rfl, trivial⟩
          · first | (simp only [decide_eq_true_eq, decide_eq_false_iff_not, Bool.not_eq_true', Bool.not_eq_false', ne_eq, Decidable.not_not, Bool.not_eq_true, Bool.not_eq_false] at q43) | (dsimp only at q43) | skip
            have hfd : Bs.find? (mt false v) = none := by rw [← hgj, List.drop_of_length_le (by omega)]; rfl
            exact At.meets rfl (hK ([[2, v, p, q, c0, c1, c2, c3, t]], some ⟨H6_6.size, 0, none⟩, 1) _ ⟨by omega, by simp [moreS, hfd, movS], nine1 rfl, by simp, hx10, .inr (by rw [ob_some]; omega), hT, hg1, hg2, o0_0, o0_1, hE⟩) ⟨rfl, rfl, rfl, rfl, rfl, rfl, rfl, rfl, trivial⟩
        · obtain ⟨U, Au, capu⟩ := s
          obtain ⟨hsz, hmo, hNU, hUl, hSU, hau, hT, hg1, hg2, o0_0, o0_1, hE⟩ := hs
          dsimp only at hau hg1 hap ⊢
          have z_hE := hE.lt
          have z_o0_0 := o0_0.lt
          have z_o0_1 := o0_1.lt
          have z_hg1 := hg1.lt
          have z_hg2 := hg2.lt
          have z_hT := hT.lt
          refine At.region rfl rfl ?_
          refine Reg.pur rfl rfl rfl rfl (Pur.mv rfl) ?_
          refine Reg.pur rfl rfl rfl rfl (Pur.lenS isl23 rfl) ?_
          refine Reg.pur rfl rfl rfl rfl (Pur.asg rfl) ?_
          refine Reg.nil ?_
          refine At.region rfl rfl ?_
          refine Reg.pur rfl rfl rfl rfl (Pur.asg rfl) ?_
          refine Reg.nil ?_
          refine At.loop (σ := Nat × List (List Int) × Option Addr × Nat) (fun (j, out', A', cap') => [(13, I j), (12, I out.length), (10, ptr H10_1.size 0), (6, .slice A' out'.length cap'), (7, .slice A2 ends.length cap2), (8, I i), (0, .slice A Bs.length cap), (3, ptr H.size 0), (4, ptr H0_0.size 0)]) (fun (j, out', A', cap') H' => j ≤ U.length ∧ out' = out ++ (U.take j).map (movS out.length) ∧ Nine out' ∧ SlT H' Is 9 (.slice Au U.length capu) U ∧ (U.length = 0 ∨ ob Au ≠ ob A') ∧ Own H' H10_1.size [.slice Au U.length capu] ∧ Gs H' H0_1.size 47 9 A' cap' out'.length (out'.flatMap Is) ∧ (ob A' = -1 ∨ ob A' ≠ ob A2 ∧ ob A' ≠ H10_1.size) ∧ Gs H' H0_1.size 3 1 A2 cap2 ends.length (ends.flatMap e1) ∧ Own H' H.size [.slice (some ⟨b, o, none⟩) L.length cap1] ∧ Own H' H0_0.size [.slice none 0 0] ∧ Ext H H') (fun s => U.length - s.1) (0, out, A', cap') rfl ⟨rfl, rfl, rfl, rfl, rfl, rfl, rfl, rfl, rfl, trivial⟩ ⟨by omega, by simp, hN, hSU, hau, hT, hg1, by omega, hg2, o0_0, o0_1, hE⟩ ?_
          clear hSU hau hT hg1 hap hg2 o0_0 o0_1 hE
          rintro ⟨j, out', A', cap'⟩ H8 ⟨hj, hout', hN', hSU, hau, hT, hg1, hap, hg2, o0_0, o0_1, hE⟩ ihj
          dsimp only at hj hout' hN' hau hg1 hap ⊢
          have z_hE := hE.lt
          have z_o0_0 := o0_0.lt
          have z_o0_1 := o0_1.lt
          have z_hg1 := hg1.lt
          have z_hg2 := hg2.lt
          have z_hT := hT.lt
          have z_hSU := hSU.lt
          refine At.region rfl rfl ?_
          refine Reg.pur rfl rfl rfl rfl (Pur.mv rfl) ?_
          refine Reg.pur rfl rfl rfl rfl (Pur.fld _ fo25_0 rfl) ?_
          refine Reg.lod rfl rfl rfl rfl (Lod.ld sc23 rfl hT.blk (by first | rfl | (simp; done))) ?_
          refine Reg.pur rfl rfl rfl rfl (Pur.lenS isl23 rfl) ?_
          refine Reg.pur rfl rfl rfl rfl (Pur.lss rfl rfl) ?_
          refine Reg.nil ?_
          refine At.cond rfl rfl (fun q73 => ?_) (fun q73 => ?_)
          · first | (simp only [decide_eq_true_eq, decide_eq_false_iff_not, Bool.not_eq_true', Bool.not_eq_false', ne_eq, Decidable.not_not, Bool.not_eq_true, Bool.not_eq_false] at q73) | (dsimp only at q73) | skip
            have hlj : j < U.length := by omega
            obtain ⟨b', o', c', rfl, hB', hd', h9j⟩ := sl_at (wide9 hNU) hSU hlj
            have h9j' := hNU _ (List.getElem_mem hlj)
            have hnx := map1_mov (k := out.length) hlj
            generalize U[j] = y at hnx hd' h9j h9j'
            obtain ⟨k', v', p', q', d0, d1, d2, d3, t', rfl⟩ : ∃ k v p q c0 c1 c2 c3 t, y = [k, v, p, q, c0, c1, c2, c3, t] := by match y, h9j' with | [k, v, p, q, c0, c1, c2, c3, t], _ => exact ⟨_, _, _, _, _, _, _, _, _, rfl⟩
            refine At.region rfl rfl ?_
            refine Reg.pur rfl rfl rfl rfl (Pur.fld _ fo25_0 rfl) ?_
            refine Reg.lod rfl rfl rfl rfl (Lod.ld sc23 rfl hT.blk (by first | rfl | (simp; done))) ?_
            refine Reg.pur rfl rfl rfl rfl (Pur.mv rfl) ?_
            refine Reg.pur rfl rfl rfl rfl (Pur.idx _ es23 rfl rfl (by omega) (by omega)) ?_
            refine Reg.lod rfl rfl rfl rfl (Lod.ldn ag47 rfl hB' hd' h9j) ?_
            refine Reg.op rfl rfl rfl rfl (Does.alloc zc47) ?_
            rintro _ H20_5 ⟨rfl, hn20_5⟩
            have z20_5 := hn20_5.size
            replace hE := hE.ext hn20_5.ext
            replace o0_0 := o0_0.ext hn20_5.ext
            replace o0_1 := o0_1.ext hn20_5.ext
            replace hg1 := hg1.ext hn20_5.ext
            replace hg2 := hg2.ext hn20_5.ext
            replace hT := hT.ext hn20_5.ext
            replace hSU := hSU.ext hn20_5.ext
            have o20_5 := hn20_5.own
            refine Reg.op0 rfl rfl rfl (Does.stn ag47 rfl rfl (by first | rfl | exact ones_Is _) (by first | rfl | (simp [*]; done)) o20_5 (by first | decide | (simp; done) | (simp; omega) | omega)) ?_
            rintro _ H20_6 hu20_6
            have z20_6 := hu20_6.size
            replace hE := hE.upw hu20_6 (by omega)
            replace o0_0 := o0_0.upw hu20_6 (by omega)
            replace o0_1 := o0_1.upw hu20_6 (by omega)
            replace hg1 := hg1.upw hu20_6 (by omega)
            replace hg2 := hg2.upw hu20_6 (by omega)
            replace hT := hT.upw hu20_6 (by omega)
            replace hSU := hSU.upw hu20_6 (by omega)
            replace o20_5 := hu20_6.own
            first | rw [over (by first | rfl | (simp; done))] at o20_5 | skip
            refine Reg.nil ?_
            refine At.region rfl rfl ?_
            refine Reg.pur rfl rfl rfl rfl (Pur.fld _ fo47_0 rfl) ?_
            refine Reg.lod rfl rfl rfl rfl (Lod.ld sc3 rfl o20_5.blk (by first | rfl | (simp; done))) ?_
            refine Reg.pur rfl rfl rfl rfl (Pur.eql rfl rfl) ?_
            refine Reg.nil ?_
            refine At.cond rfl rfl (fun q83 => ?_) (fun q83 => ?_)
            · first | (simp only [decide_eq_true_eq, decide_eq_false_iff_not, Bool.not_eq_true', Bool.not_eq_false', ne_eq, Decidable.not_not, Bool.not_eq_true, Bool.not_eq_false] at q83) | (dsimp only at q83) | skip
              refine At.region rfl rfl ?_
              refine Reg.pur rfl rfl rfl rfl (Pur.fld _ fo47_2 rfl) ?_
              refine Reg.lod rfl rfl rfl rfl (Lod.ld sc3 rfl o20_5.blk (by first | rfl | (simp; done))) ?_
              refine Reg.pur rfl rfl rfl rfl (Pur.mv rfl) ?_
              first | refine Reg.pur rfl rfl rfl rfl (Pur.add64 rfl rfl (by omega)) ?_ | refine Reg.pur rfl rfl rfl rfl (Pur.add64 rfl rfl (by assumption)) ?_ | refine Reg.pur rfl rfl rfl rfl (Pur.add rfl rfl) ?_
              refine Reg.pur rfl rfl rfl rfl (Pur.fld _ fo47_2 rfl) ?_
              refine Reg.op0 rfl rfl rfl (Does.st sc3 rfl rfl rfl o20_5 (by first | decide | (simp; done) | (simp; omega) | omega)) ?_
              rintro _ H22_5 hu22_5
              have z22_5 := hu22_5.size
              replace hE := hE.upw hu22_5 (by omega)
              replace o0_0 := o0_0.upw hu22_5 (by omega)
              replace o0_1 := o0_1.upw hu22_5 (by omega)
              replace hg1 := hg1.upw hu22_5 (by omega)
              replace hg2 := hg2.upw hu22_5 (by omega)
              replace hT := hT.upw hu22_5 (by omega)
              replace hSU := hSU.upw hu22_5 (by omega)
              replace o20_5 := hu22_5.own
              refine Reg.nil ?_
              refine At.region rfl rfl ?_
              refine Reg.pur rfl rfl rfl rfl (Pur.fld _ fo47_3 rfl) ?_
              refine Reg.lod rfl rfl rfl rfl (Lod.ld sc3 rfl o20_5.blk (by first | rfl | (simp; done))) ?_
              refine Reg.pur rfl rfl rfl rfl (Pur.mv rfl) ?_
              first | refine Reg.pur rfl rfl rfl rfl (Pur.add64 rfl rfl (by omega)) ?_ | refine Reg.pur rfl rfl rfl rfl (Pur.add64 rfl rfl (by assumption)) ?_ | refine Reg.pur rfl rfl rfl rfl (Pur.add rfl rfl) ?_
              refine Reg.pur rfl rfl rfl rfl (Pur.fld _ fo47_3 rfl) ?_
              refine Reg.op0 rfl rfl rfl (Does.st sc3 rfl rfl rfl o20_5 (by first | decide | (simp; done) | (simp; omega) | omega)) ?_
              rintro _ H23_5 hu23_5
              have z23_5 := hu23_5.size
              replace hE := hE.upw hu23_5 (by omega)
              replace o0_0 := o0_0.upw hu23_5 (by omega)
              replace o0_1 := o0_1.upw hu23_5 (by omega)
              replace hg1 := hg1.upw hu23_5 (by omega)
              replace hg2 := hg2.upw hu23_5 (by omega)
              replace hT := hT.upw hu23_5 (by omega)
              replace hSU := hSU.upw hu23_5 (by omega)
              replace o20_5 := hu23_5.own
              refine Reg.nil ?_
              have hy : Own H23_5 H8.size (Is (movS out.length [k', v', p', q', d0, d1, d2, d3, t'])) := by first | exact o20_5 | (rw [movS_not3 (x := [k', v', p', q', d0, d1, d2, d3, t']) q83]; exact o20_5) | (rw [show movS out.length [k', v', p', q', d0, d1, d2, d3, t'] = [k', v', IntKind.i64.wrap (p' + out.length), IntKind.i64.wrap (q' + out.length), d0, d1, d2, d3, t'] by subst q83; rfl]; exact o20_5)
              have hyl : (movS out.length [k', v', p', q', d0, d1, d2, d3, t']).length = 9 := movS_len _ _
              have hyl' : (Is (movS out.length [k', v', p', q', d0, d1, d2, d3, t'])).length = 9 := by simp [hyl]
              generalize hyy : movS out.length [k', v', p', q', d0, d1, d2, d3, t'] = y' at hy hyl hyl' hnx
              refine At.region rfl rfl ?_
              refine Reg.pur rfl rfl rfl rfl (Pur.mv rfl) ?_
              refine Reg.lod rfl rfl rfl rfl (Lod.ldn ag47 rfl hy.blk (whole hyl') hyl') ?_
              refine Reg.op rfl rfl rfl rfl (Does.bslA ([Is y']) slA23 rfl rfl rfl (by simp [hyl]) rfl rfl) ?_
              rintro _ H24_2 ⟨rfl, hp24_2⟩
              have hn24_2 := New.of_eq hp24_2
              have z24_2 := hn24_2.size
              replace hE := hE.ext hn24_2.ext
              replace o0_0 := o0_0.ext hn24_2.ext
              replace o0_1 := o0_1.ext hn24_2.ext
              replace hg1 := hg1.ext hn24_2.ext
              replace hg2 := hg2.ext hn24_2.ext
              replace hT := hT.ext hn24_2.ext
              replace hSU := hSU.ext hn24_2.ext
              replace o20_5 := o20_5.ext hn24_2.ext
              have o24_2 := hn24_2.own
              refine Reg.op rfl rfl rfl rfl (Does.appL apt23 rfl rfl (by decide) hg1 (wide9 (nine1 hyl)) (sl_one (x := y') hyl' (by decide) hn24_2) (ones_flat _) (by have := congrArg List.length hout'; simp at this ⊢; omega) (by omega)) ?_
              rintro _ H24_3 ⟨A24_3, cap24_3, rfl, g24_3, hbut24_3, ha24_3⟩
              have z24_3 := hbut24_3.lt
              replace hE := hE.via hbut24_3 (by first | omega | (intro g; omega) | (intro g hg; omega) | (intro g hg h; omega))
              replace o0_0 := o0_0.via hbut24_3 (by first | omega | (intro g; omega) | (intro g hg; omega) | (intro g hg h; omega))
              replace o0_1 := o0_1.via hbut24_3 (by first | omega | (intro g; omega) | (intro g hg; omega) | (intro g hg h; omega))
              replace hg2 := hg2.via hbut24_3 (by first | omega | (intro g; omega) | (intro g hg; omega) | (intro g hg h; omega))
              replace hT := hT.via hbut24_3 (by first | omega | (intro g; omega) | (intro g hg; omega) | (intro g hg h; omega))
              replace hSU := hSU.via hbut24_3 (by first | omega | (intro g; omega) | (intro g hg; omega) | (intro g hg h; omega))
              replace o20_5 := o20_5.via hbut24_3 (by first | omega | (intro g; omega) | (intro g hg; omega) | (intro g hg h; omega))
              replace o24_2 := o24_2.via hbut24_3 (by first | omega | (intro g; omega) | (intro g hg; omega) | (intro g hg h; omega))
              replace hg1 := g24_3
              have zg24_3 := g24_3.lt
              refine Reg.pur rfl rfl rfl rfl (Pur.asg rfl) ?_
              refine Reg.nil ?_
              refine At.region rfl rfl ?_
              refine Reg.pur rfl rfl rfl rfl (Pur.mv rfl) ?_
              first | refine Reg.pur rfl rfl rfl rfl (Pur.add64 rfl rfl (by omega)) ?_ | refine Reg.pur rfl rfl rfl rfl (Pur.add64 rfl rfl (by assumption)) ?_ | refine Reg.pur rfl rfl rfl rfl (Pur.add rfl rfl) ?_
              refine Reg.pur rfl rfl rfl rfl (Pur.asg rfl) ?_
              refine Reg.nil ?_
              exact At.via (ihj (j + 1, out' ++ [y'], A24_3, cap24_3) _ ⟨by omega, by rw [hnx, hout', List.append_assoc], nine_app hN' (nine1 hyl), hSU, by omega, hT, hg1, by omega, hg2, o0_0, o0_1, hE⟩ (by simp only; omega)) ⟨rfl, rfl, rfl, rfl, rfl, rfl, rfl, rfl, rfl, trivial⟩
            · first | (simp only [decide_eq_true_eq, decide_eq_false_iff_not, Bool.not_eq_true', Bool.not_eq_false', ne_eq, Decidable.not_not, Bool.not_eq_true, Bool.not_eq_false] at q83) | (dsimp only at q83) | skip
              have hy : Own H20_6 H8.size (Is (movS out.length [k', v', p', q', d0, d1, d2, d3, t'])) := by first | exact o20_5 | (rw [movS_not3 (x := [k', v', p', q', d0, d1, d2, d3, t']) q83]; exact o20_5) | (rw [show movS out.length [k', v', p', q', d0, d1, d2, d3, t'] = [k', v', IntKind.i64.wrap (p' + out.length), IntKind.i64.wrap (q' + out.length), d0, d1, d2, d3, t'] by subst q83; rfl]; exact o20_5)
              have hyl : (movS out.length [k', v', p', q', d0, d1, d2, d3, t']).length = 9 := movS_len _ _
              have hyl' : (Is (movS out.length [k', v', p', q', d0, d1, d2, d3, t'])).length = 9 := by simp [hyl]
              generalize hyy : movS out.length [k', v', p', q', d0, d1, d2, d3, t'] = y' at hy hyl hyl' hnx
              refine At.region rfl rfl ?_
              refine Reg.pur rfl rfl rfl rfl (Pur.mv rfl) ?_
              refine Reg.lod rfl rfl rfl rfl (Lod.ldn ag47 rfl hy.blk (whole hyl') hyl') ?_
              refine Reg.op rfl rfl rfl rfl (Does.bslA ([Is y']) slA23 rfl rfl rfl (by simp [hyl]) rfl rfl) ?_
              rintro _ H24_2 ⟨rfl, hp24_2⟩
              have hn24_2 := New.of_eq hp24_2
              have z24_2 := hn24_2.size
              replace hE := hE.ext hn24_2.ext
              replace o0_0 := o0_0.ext hn24_2.ext
              replace o0_1 := o0_1.ext hn24_2.ext
              replace hg1 := hg1.ext hn24_2.ext
              replace hg2 := hg2.ext hn24_2.ext
              replace hT := hT.ext hn24_2.ext
              replace hSU := hSU.ext hn24_2.ext
              replace o20_5 := o20_5.ext hn24_2.ext
              have o24_2 := hn24_2.own
              refine Reg.op rfl rfl rfl rfl (Does.appL apt23 rfl rfl (by decide) hg1 (wide9 (nine1 hyl)) (sl_one (x := y') hyl' (by decide) hn24_2) (ones_flat _) (by have := congrArg List.length hout'; simp at this ⊢; omega) (by omega)) ?_
              rintro _ H24_3 ⟨A24_3, cap24_3, rfl, g24_3, hbut24_3, ha24_3⟩
              have z24_3 := hbut24_3.lt
              replace hE := hE.via hbut24_3 (by first | omega | (intro g; omega) | (intro g hg; omega) | (intro g hg h; omega))
              replace o0_0 := o0_0.via hbut24_3 (by first | omega | (intro g; omega) | (intro g hg; omega) | (intro g hg h; omega))
              replace o0_1 := o0_1.via hbut24_3 (by first | omega | (intro g; omega) | (intro g hg; omega) | (intro g hg h; omega))
              replace hg2 := hg2.via hbut24_3 (by first | omega | (intro g; omega) | (intro g hg; omega) | (intro g hg h; omega))
              replace hT := hT.via hbut24_3 (by first | omega | (intro g; omega) | (intro g hg; omega) | (intro g hg h; omega))
              replace hSU := hSU.via hbut24_3 (by first | omega | (intro g; omega) | (intro g hg; omega) | (intro g hg h; omega))
              replace o20_5 := o20_5.via hbut24_3 (by first | omega | (intro g; omega) | (intro g hg; omega) | (intro g hg h; omega))
              replace o24_2 := o24_2.via hbut24_3 (by first | omega | (intro g; omega) | (intro g hg; omega) | (intro g hg h; omega))
              replace hg1 := g24_3
              have zg24_3 := g24_3.lt
              refine Reg.pur rfl rfl rfl rfl (Pur.asg rfl) ?_
              refine Reg.nil ?_
              refine At.region rfl rfl ?_
              refine Reg.pur rfl rfl rfl rfl (Pur.mv rfl) ?_
              first | refine Reg.pur rfl rfl rfl rfl (Pur.add64 rfl rfl (by omega)) ?_ | refine Reg.pur rfl rfl rfl rfl (Pur.add64 rfl rfl (by assumption)) ?_ | refine Reg.pur rfl rfl rfl rfl (Pur.add rfl rfl) ?_
              refine Reg.pur rfl rfl rfl rfl (Pur.asg rfl) ?_
              refine Reg.nil ?_
              exact At.via (ihj (j + 1, out' ++ [y'], A24_3, cap24_3) _ ⟨by omega, by rw [hnx, hout', List.append_assoc], nine_app hN' (nine1 hyl), hSU, by omega, hT, hg1, by omega, hg2, o0_0, o0_1, hE⟩ (by simp only; omega)) ⟨rfl, rfl, rfl, rfl, rfl, rfl, rfl, rfl, rfl, trivial⟩
          · first | (simp only [decide_eq_true_eq, decide_eq_false_iff_not, Bool.not_eq_true', Bool.not_eq_false', ne_eq, Decidable.not_not, Bool.not_eq_true, Bool.not_eq_false] at q73) | (dsimp only at q73) | skip
            rw [List.take_of_length_le (by omega)] at hout'
            exact At.meets rfl (hJ (U.map (movS out.length), out', A', cap') _ ⟨hmo, hout', nine_mov hNU, by simpa using hUl, hg1, hg2, by omega, o0_0, o0_1, hE⟩) ⟨rfl, rfl, rfl, rfl, rfl, rfl, trivial⟩
      · first | (simp only [decide_eq_true_eq, decide_eq_false_iff_not, Bool.not_eq_true', Bool.not_eq_false', ne_eq, Decidable.not_not, Bool.not_eq_true, Bool.not_eq_false] at q35) | (dsimp only at q35) | skip
        refine At.region rfl rfl ?_
        refine Reg.pur rfl rfl rfl rfl (Pur.eql rfl rfl) ?_
        refine Reg.pur rfl rfl rfl rfl (Pur.asg rfl) ?_
        refine Reg.nil ?_
        refine At.cond rfl rfl (fun q98 => ?_) (fun q98 => ?_)
        · first | (simp only [decide_eq_true_eq, decide_eq_false_iff_not, Bool.not_eq_true', Bool.not_eq_false', ne_eq, Decidable.not_not, Bool.not_eq_true, Bool.not_eq_false] at q98) | (dsimp only at q98) | skip
          refine At.region rfl rfl ?_
          refine Reg.pur rfl rfl rfl rfl (Pur.mv rfl) ?_
          refine Reg.pur rfl rfl rfl rfl (Pur.fld _ fo47_4 rfl) ?_
          refine Reg.lod rfl rfl rfl rfl (Lod.ldn ag28 rfl o6_5.blk (by first | exact whole rfl | rfl | (simp only [List.drop_succ_cons, List.drop_zero, List.take_succ_cons, List.take_zero]; rfl)) (by first | rfl | (simp [*]; done))) ?_
          refine Reg.op rfl rfl rfl rfl (Does.call rfl (rowOf_ok (hB.ext hE) [c0, c1, c2, c3, t] rfl)) ?_
          rintro _ H26_3 ⟨rfl, hrl, hE26_3⟩
          have z26_3 := hE26_3.lt
          replace hE := hE.ext hE26_3
          replace o0_0 := o0_0.ext hE26_3
          replace o0_1 := o0_1.ext hE26_3
          replace hg1 := hg1.ext hE26_3
          replace hg2 := hg2.ext hE26_3
          replace o6_5 := o6_5.ext hE26_3
          refine Reg.pur rfl rfl rfl rfl (Pur.mv rfl) ?_
          refine Reg.pur rfl rfl rfl rfl (Pur.ext rfl rfl) ?_
          refine Reg.pur rfl rfl rfl rfl (Pur.ext rfl rfl) ?_
          refine Reg.op rfl rfl rfl rfl (Does.alloc zc28) ?_
          rintro _ H26_7 ⟨rfl, hn26_7⟩
          have z26_7 := hn26_7.size
          replace hE := hE.ext hn26_7.ext
          replace o0_0 := o0_0.ext hn26_7.ext
          replace o0_1 := o0_1.ext hn26_7.ext
          replace hg1 := hg1.ext hn26_7.ext
          replace hg2 := hg2.ext hn26_7.ext
          replace o6_5 := o6_5.ext hn26_7.ext
          have o26_7 := hn26_7.own
          refine Reg.op0 rfl rfl rfl (Does.stn ag28 rfl rfl (by first | rfl | exact ones_Is _) (by first | rfl | (simp [*]; done)) o26_7 (by first | decide | (simp; done) | (simp; omega) | omega)) ?_
          rintro _ H26_8 hu26_8
          have z26_8 := hu26_8.size
          replace hE := hE.upw hu26_8 (by omega)
          replace o0_0 := o0_0.upw hu26_8 (by omega)
          replace o0_1 := o0_1.upw hu26_8 (by omega)
          replace hg1 := hg1.upw hu26_8 (by omega)
          replace hg2 := hg2.upw hu26_8 (by omega)
          replace o6_5 := o6_5.upw hu26_8 (by omega)
          replace o26_7 := hu26_8.own
          first | rw [over (by first | rfl | (simp; done))] at o26_7 | skip
          refine Reg.pur rfl rfl rfl rfl (Pur.asg rfl) ?_
          refine Reg.nil ?_
          refine At.region rfl rfl ?_
          refine Reg.pur rfl rfl rfl rfl (Pur.mv rfl) ?_
          refine Reg.pur rfl rfl rfl rfl (Pur.not rfl) ?_
          refine Reg.nil ?_
          refine At.cond rfl rfl (fun q108 => ?_) (fun q108 => ?_)
          · first | (simp only [decide_eq_true_eq, decide_eq_false_iff_not, Bool.not_eq_true', Bool.not_eq_false', ne_eq, Decidable.not_not, Bool.not_eq_true, Bool.not_eq_false] at q108) | (dsimp only at q108) | skip
            refine At.region rfl rfl ?_
            refine Reg.pur rfl rfl rfl rfl (Pur.bld (cs := [_]) pl25 zc25 rfl rfl ⟨rfl, rfl⟩) ?_
            refine Reg.op0 rfl rfl rfl (Does.stn ag25 rfl rfl (by first | rfl | exact ones_Is _) (by first | rfl | (simp [*]; done)) o0_1 (by first | decide | (simp; done) | (simp; omega) | omega)) ?_
            rintro _ H28_1 hu28_1
            have z28_1 := hu28_1.size
            replace hE := hE.upw hu28_1 (by omega)
            replace o0_0 := o0_0.upw hu28_1 (by omega)
            replace hg1 := hg1.upw hu28_1 (by omega)
            replace hg2 := hg2.upw hu28_1 (by omega)
            replace o6_5 := o6_5.upw hu28_1 (by omega)
            replace o26_7 := o26_7.upw hu28_1 (by omega)
            replace o0_1 := hu28_1.own
            first | rw [over (by first | rfl | (simp; done))] at o0_1 | skip
            refine Reg.pur rfl rfl rfl rfl (Pur.asg rfl) ?_
            refine Reg.nil ?_
            refine At.retC rfl Try.func57 ⟨_, _, _, _, rfl, rfl, ⟨_, o0_1.blk, .inr ⟨_, _, ag25, (by first | exact whole rfl | exact whole (by simp [*])), (by first | rfl | simp [*]), rfl⟩⟩, ⟨_, _, rfl, rfl, rfl⟩⟩ ?_
            refine ⟨hE, ?_⟩
            obtain rfl : k = 3 := q98
            rw [← hgo, show moreS Bs out ends [3, v, p, q, c0, c1, c2, c3, t] = none by simp [moreS, q108]]; exact rfl
          · first | (simp only [decide_eq_true_eq, decide_eq_false_iff_not, Bool.not_eq_true', Bool.not_eq_false', ne_eq, Decidable.not_not, Bool.not_eq_true, Bool.not_eq_false] at q108) | (dsimp only at q108) | skip
            have hk3 : k = 3 := q98
            have hf3 : q = (i : Int) - 1 ∧ 0 ≤ p ∧ p < (i : Int) - 1 ∧ 1 ≤ i := hfun hk3
            obtain ⟨b2, cc2, rfl, hb2, hc2⟩ := gs_int hg2 (z := p) (by omega) (by omega)
            obtain ⟨b2', cc2', e2, hb2', hc2'⟩ := gs_int hg2 (z := q) (by omega) (by omega)
            cases e2
            have hob : ob (some ⟨b2, 0, none⟩) = b2 := rfl
            have z_hb2 := hb2.lt
            have z_hb2' := hb2'.lt
            refine At.region rfl rfl ?_
            refine Reg.pur rfl rfl rfl rfl (Pur.mv rfl) ?_
            refine Reg.pur rfl rfl rfl rfl (Pur.fld _ fo47_2 rfl) ?_
            refine Reg.lod rfl rfl rfl rfl (Lod.ld sc3 rfl o6_5.blk (by first | rfl | (simp; done))) ?_
            refine Reg.pur rfl rfl rfl rfl (Pur.idx _ es54 rfl rfl (by omega) (by omega)) ?_
            refine Reg.lod rfl rfl rfl rfl (Lod.ld sc3 rfl hb2 hc2) ?_
            refine Reg.pur rfl rfl rfl rfl (Pur.fld _ fo47_2 rfl) ?_
            refine Reg.op0 rfl rfl rfl (Does.st sc3 rfl rfl rfl o6_5 (by first | decide | (simp; done) | (simp; omega) | omega)) ?_
            rintro _ H29_6 hu29_6
            have z29_6 := hu29_6.size
            replace hE := hE.upw hu29_6 (by omega)
            replace o0_0 := o0_0.upw hu29_6 (by omega)
            replace o0_1 := o0_1.upw hu29_6 (by omega)
            replace hg1 := hg1.upw hu29_6 (by omega)
            replace hg2 := hg2.upw hu29_6 (by omega)
            replace o26_7 := o26_7.upw hu29_6 (by omega)
            replace hb2 := hb2.upw hu29_6 (by omega)
            replace hb2' := hb2'.upw hu29_6 (by omega)
            replace o6_5 := hu29_6.own
            refine Reg.nil ?_
            refine At.region rfl rfl ?_
            refine Reg.pur rfl rfl rfl rfl (Pur.mv rfl) ?_
            refine Reg.pur rfl rfl rfl rfl (Pur.fld _ fo47_3 rfl) ?_
            refine Reg.lod rfl rfl rfl rfl (Lod.ld sc3 rfl o6_5.blk (by first | rfl | (simp; done))) ?_
            refine Reg.pur rfl rfl rfl rfl (Pur.idx _ es54 rfl rfl (by omega) (by omega)) ?_
            refine Reg.lod rfl rfl rfl rfl (Lod.ld sc3 rfl hb2' hc2') ?_
            refine Reg.pur rfl rfl rfl rfl (Pur.fld _ fo47_3 rfl) ?_
            refine Reg.op0 rfl rfl rfl (Does.st sc3 rfl rfl rfl o6_5 (by first | decide | (simp; done) | (simp; omega) | omega)) ?_
            rintro _ H30_6 hu30_6
            have z30_6 := hu30_6.size
            replace hE := hE.upw hu30_6 (by omega)
            replace o0_0 := o0_0.upw hu30_6 (by omega)
            replace o0_1 := o0_1.upw hu30_6 (by omega)
            replace hg1 := hg1.upw hu30_6 (by omega)
            replace hg2 := hg2.upw hu30_6 (by omega)
            replace o26_7 := o26_7.upw hu30_6 (by omega)
            replace hb2 := hb2.upw hu30_6 (by omega)
            replace hb2' := hb2'.upw hu30_6 (by omega)
            replace o6_5 := hu30_6.own
            refine Reg.nil ?_
            refine At.region rfl rfl ?_
            refine Reg.lod rfl rfl rfl rfl (Lod.ldn ag28 rfl o26_7.blk (whole (by simp [hrl])) (by simp [hrl])) ?_
            refine Reg.pur rfl rfl rfl rfl (Pur.fld _ fo47_4 rfl) ?_
            refine Reg.op0 rfl rfl rfl (Does.stn ag28 rfl rfl (by first | rfl | exact ones_Is _) (by first | rfl | (simp [*]; done)) o6_5 (by first | decide | (simp; done) | (simp; omega) | omega)) ?_
            rintro _ H31_2 hu31_2
            have z31_2 := hu31_2.size
            replace hE := hE.upw hu31_2 (by omega)
            replace o0_0 := o0_0.upw hu31_2 (by omega)
            replace o0_1 := o0_1.upw hu31_2 (by omega)
            replace hg1 := hg1.upw hu31_2 (by omega)
            replace hg2 := hg2.upw hu31_2 (by omega)
            replace o26_7 := o26_7.upw hu31_2 (by omega)
            replace hb2 := hb2.upw hu31_2 (by omega)
            replace hb2' := hb2'.upw hu31_2 (by omega)
            replace o6_5 := hu31_2.own
            first | rw [over (by first | rfl | (simp; done))] at o6_5 | skip
            replace o6_5 : Own H31_2 H3.size (Is (funS [k, v, p, q, c0, c1, c2, c3, t] (ends.getD p.toNat 0) (ends.getD q.toNat 0) (rowS Bs [c0, c1, c2, c3, t]).1)) := (by simpa [Is, funS] using o6_5)
            refine Reg.nil ?_
            have hFl : (funS [k, v, p, q, c0, c1, c2, c3, t] (ends.getD p.toNat 0) (ends.getD q.toNat 0) (rowS Bs [c0, c1, c2, c3, t]).1).length = 9 := by simp [funS, hrl]
            generalize hyy : (funS [k, v, p, q, c0, c1, c2, c3, t] (ends.getD p.toNat 0) (ends.getD q.toNat 0) (rowS Bs [c0, c1, c2, c3, t]).1) = y' at o6_5 hFl
            have hFl' : (Is y').length = 9 := by simp [hFl]
            refine At.region rfl rfl ?_
            refine Reg.pur rfl rfl rfl rfl (Pur.mv rfl) ?_
            refine Reg.lod rfl rfl rfl rfl (Lod.ldn ag47 rfl o6_5.blk (whole hFl') hFl') ?_
            refine Reg.op rfl rfl rfl rfl (Does.bslA ([Is y']) slA23 rfl rfl rfl (by simp [hFl]) rfl rfl) ?_
            rintro _ H32_2 ⟨rfl, hp32_2⟩
            have hn32_2 := New.of_eq hp32_2
            have z32_2 := hn32_2.size
            replace hE := hE.ext hn32_2.ext
            replace o0_0 := o0_0.ext hn32_2.ext
            replace o0_1 := o0_1.ext hn32_2.ext
            replace hg1 := hg1.ext hn32_2.ext
            replace hg2 := hg2.ext hn32_2.ext
            replace o6_5 := o6_5.ext hn32_2.ext
            replace o26_7 := o26_7.ext hn32_2.ext
            replace hb2 := hb2.ext hn32_2.ext
            replace hb2' := hb2'.ext hn32_2.ext
            have o32_2 := hn32_2.own
            refine Reg.op rfl rfl rfl rfl (Does.appL apt23 rfl rfl (by decide) hg1 (wide9 (nine1 hFl)) (sl_one (x := y') hFl' (by decide) hn32_2) (ones_flat _) (by simp; omega) (by omega)) ?_
            rintro _ H32_3 ⟨A32_3, cap32_3, rfl, g32_3, hbut32_3, ha32_3⟩
            have z32_3 := hbut32_3.lt
            replace hE := hE.via hbut32_3 (by first | omega | (intro g; omega) | (intro g hg; omega) | (intro g hg h; omega))
            replace o0_0 := o0_0.via hbut32_3 (by first | omega | (intro g; omega) | (intro g hg; omega) | (intro g hg h; omega))
            replace o0_1 := o0_1.via hbut32_3 (by first | omega | (intro g; omega) | (intro g hg; omega) | (intro g hg h; omega))
            replace hg2 := hg2.via hbut32_3 (by first | omega | (intro g; omega) | (intro g hg; omega) | (intro g hg h; omega))
            replace o6_5 := o6_5.via hbut32_3 (by first | omega | (intro g; omega) | (intro g hg; omega) | (intro g hg h; omega))
            replace o26_7 := o26_7.via hbut32_3 (by first | omega | (intro g; omega) | (intro g hg; omega) | (intro g hg h; omega))
            replace hb2 := hb2.via hbut32_3 (by first | omega | (intro g; omega) | (intro g hg; omega) | (intro g hg h; omega))
            replace hb2' := hb2'.via hbut32_3 (by first | omega | (intro g; omega) | (intro g hg; omega) | (intro g hg h; omega))
            replace o32_2 := o32_2.via hbut32_3 (by first | omega | (intro g; omega) | (intro g hg; omega) | (intro g hg h; omega))
            replace hg1 := g32_3
            have zg32_3 := g32_3.lt
            refine Reg.pur rfl rfl rfl rfl (Pur.asg rfl) ?_
            refine Reg.nil ?_
            exact At.meets rfl (hJ ([y'], out ++ [y'], A32_3, cap32_3) _ ⟨by rw [← hyy]; subst hk3; simp [moreS, q108], rfl, nine1 hFl, by simp, hg1, hg2, by omega, o0_0, o0_1, hE⟩) ⟨rfl, rfl, rfl, rfl, rfl, rfl, trivial⟩
        · first | (simp only [decide_eq_true_eq, decide_eq_false_iff_not, Bool.not_eq_true', Bool.not_eq_false', ne_eq, Decidable.not_not, Bool.not_eq_true, Bool.not_eq_false] at q98) | (dsimp only at q98) | skip
          refine At.region rfl rfl ?_
          refine Reg.pur rfl rfl rfl rfl (Pur.mv rfl) ?_
          refine Reg.lod rfl rfl rfl rfl (Lod.ldn ag47 rfl o6_5.blk (by first | exact whole rfl | rfl | (simp only [List.drop_succ_cons, List.drop_zero, List.take_succ_cons, List.take_zero]; rfl)) (by first | rfl | (simp [*]; done))) ?_
          refine Reg.op rfl rfl rfl rfl (Does.bslA ([[_, _, _, _, _, _, _, _, _]]) slA23 rfl rfl rfl rfl rfl rfl) ?_
          rintro _ H8_2 ⟨rfl, hp8_2⟩
          have hn8_2 := New.of_eq hp8_2
          have z8_2 := hn8_2.size
          replace hE := hE.ext hn8_2.ext
          replace o0_0 := o0_0.ext hn8_2.ext
          replace o0_1 := o0_1.ext hn8_2.ext
          replace hg1 := hg1.ext hn8_2.ext
          replace hg2 := hg2.ext hn8_2.ext
          replace o6_5 := o6_5.ext hn8_2.ext
          have o8_2 := hn8_2.own
          refine Reg.op rfl rfl rfl rfl (Does.appL apt23 rfl rfl (by decide) hg1 (wide9 (nine1 (by rfl))) (sl_one (x := [k, v, p, q, c0, c1, c2, c3, t]) (by rfl) (by decide) hn8_2) (ones_flat _) (by simp; omega) (by omega)) ?_
          rintro _ H8_3 ⟨A8_3, cap8_3, rfl, g8_3, hbut8_3, ha8_3⟩
          have z8_3 := hbut8_3.lt
          replace hE := hE.via hbut8_3 (by first | omega | (intro g; omega) | (intro g hg; omega) | (intro g hg h; omega))
          replace o0_0 := o0_0.via hbut8_3 (by first | omega | (intro g; omega) | (intro g hg; omega) | (intro g hg h; omega))
          replace o0_1 := o0_1.via hbut8_3 (by first | omega | (intro g; omega) | (intro g hg; omega) | (intro g hg h; omega))
          replace hg2 := hg2.via hbut8_3 (by first | omega | (intro g; omega) | (intro g hg; omega) | (intro g hg h; omega))
          replace o6_5 := o6_5.via hbut8_3 (by first | omega | (intro g; omega) | (intro g hg; omega) | (intro g hg h; omega))
          replace o8_2 := o8_2.via hbut8_3 (by first | omega | (intro g; omega) | (intro g hg; omega) | (intro g hg h; omega))
          replace hg1 := g8_3
          have zg8_3 := g8_3.lt
          refine Reg.pur rfl rfl rfl rfl (Pur.asg rfl) ?_
          refine Reg.nil ?_
          exact At.meets rfl (hJ ([[k, v, p, q, c0, c1, c2, c3, t]], out ++ [[k, v, p, q, c0, c1, c2, c3, t]], A8_3, cap8_3) _ ⟨more_else q35 q98, rfl, nine1 rfl, by simp, hg1, hg2, by omega, o0_0, o0_1, hE⟩) ⟨rfl, rfl, rfl, rfl, rfl, rfl, trivial⟩
    · obtain ⟨m, out', A', cap'⟩ := s
      obtain ⟨hmo, rfl, hNm, hml, hg1, hg2, hap, o0_0, o0_1, hE⟩ := hs
      dsimp only at hg1 hap ⊢
      have z_hE := hE.lt
      have z_o0_0 := o0_0.lt
      have z_o0_1 := o0_1.lt
      have z_hg1 := hg1.lt
      have z_hg2 := hg2.lt
      have hla : (out ++ m).length = out.length + m.length := List.length_append
      rw [hmo] at hgo
      dsimp only at hgo
      refine At.region rfl rfl ?_
      refine Reg.pur rfl rfl rfl rfl (Pur.mv rfl) ?_
      refine Reg.pur rfl rfl rfl rfl (Pur.mv rfl) ?_
      refine Reg.pur rfl rfl rfl rfl (Pur.lenS isl23 rfl) ?_
      first | refine Reg.pur rfl rfl rfl rfl (Pur.sub64 rfl rfl (by omega)) ?_ | refine Reg.pur rfl rfl rfl rfl (Pur.sub64 rfl rfl (by assumption)) ?_ | refine Reg.pur rfl rfl rfl rfl (Pur.sub rfl rfl) ?_
      refine Reg.op rfl rfl rfl rfl (Does.bsl1 sl1_54 rfl rfl rfl rfl rfl) ?_
      rintro _ H33_4 ⟨rfl, hn33_4⟩
      have z33_4 := hn33_4.size
      replace hE := hE.ext hn33_4.ext
      replace o0_0 := o0_0.ext hn33_4.ext
      replace o0_1 := o0_1.ext hn33_4.ext
      replace hg1 := hg1.ext hn33_4.ext
      replace hg2 := hg2.ext hn33_4.ext
      have o33_4 := hn33_4.own
      refine Reg.op rfl rfl rfl rfl (Does.appL apt54 rfl rfl (by decide) hg2 (wide1 _) (sl_new (L := [((out ++ m).length : Int) - 1]) (wide1 _) (by decide) hn33_4 (by simp)) (ones_e1 _) (by simp; omega) (by omega)) ?_
      rintro _ H33_5 ⟨A33_5, cap33_5, rfl, g33_5, hbut33_5, ha33_5⟩
      have z33_5 := hbut33_5.lt
      replace hE := hE.via hbut33_5 (by first | omega | (intro g; omega) | (intro g hg; omega) | (intro g hg h; omega))
      replace o0_0 := o0_0.via hbut33_5 (by first | omega | (intro g; omega) | (intro g hg; omega) | (intro g hg h; omega))
      replace o0_1 := o0_1.via hbut33_5 (by first | omega | (intro g; omega) | (intro g hg; omega) | (intro g hg h; omega))
      replace hg1 := hg1.via hbut33_5 (by first | omega | (intro g; omega) | (intro g hg; omega) | (intro g hg h; omega))
      replace o33_4 := o33_4.via hbut33_5 (by first | omega | (intro g; omega) | (intro g hg; omega) | (intro g hg h; omega))
      replace hg2 := g33_5
      have zg33_5 := g33_5.lt
      refine Reg.pur rfl rfl rfl rfl (Pur.asg rfl) ?_
      refine Reg.nil ?_
      refine At.region rfl rfl ?_
      refine Reg.pur rfl rfl rfl rfl (Pur.mv rfl) ?_
      refine Reg.pur rfl rfl rfl rfl (Pur.lenS isl23 rfl) ?_
      refine Reg.pur rfl rfl rfl rfl (Pur.gtr rfl rfl) ?_
      refine Reg.nil ?_
      refine At.cond rfl rfl (fun q136 => ?_) (fun q136 => ?_)
      · first | (simp only [decide_eq_true_eq, decide_eq_false_iff_not, Bool.not_eq_true', Bool.not_eq_false', ne_eq, Decidable.not_not, Bool.not_eq_true, Bool.not_eq_false] at q136) | (dsimp only at q136) | skip
        refine At.region rfl rfl ?_
        refine Reg.pur rfl rfl rfl rfl (Pur.bld (cs := [_]) pl25 zc25 rfl rfl ⟨rfl, rfl⟩) ?_
        refine Reg.op0 rfl rfl rfl (Does.stn ag25 rfl rfl (by first | rfl | exact ones_Is _) (by first | rfl | (simp [*]; done)) o0_1 (by first | decide | (simp; done) | (simp; omega) | omega)) ?_
        rintro _ H35_1 hu35_1
        have z35_1 := hu35_1.size
        replace hE := hE.upw hu35_1 (by omega)
        replace o0_0 := o0_0.upw hu35_1 (by omega)
        replace hg1 := hg1.upw hu35_1 (by omega)
        replace hg2 := hg2.upw hu35_1 (by omega)
        replace o33_4 := o33_4.upw hu35_1 (by omega)
        replace o0_1 := hu35_1.own
        first | rw [over (by first | rfl | (simp; done))] at o0_1 | skip
        refine Reg.pur rfl rfl rfl rfl (Pur.asg rfl) ?_
        refine Reg.nil ?_
        refine At.retC rfl Try.func57 ⟨_, _, _, _, rfl, rfl, ⟨_, o0_1.blk, .inr ⟨_, _, ag25, (by first | exact whole rfl | exact whole (by simp [*])), (by first | rfl | simp [*]), rfl⟩⟩, ⟨_, _, rfl, rfl, rfl⟩⟩ ?_
        refine ⟨hE, ?_⟩
        rw [← hgo, if_pos (by omega)]; exact rfl
      · first | (simp only [decide_eq_true_eq, decide_eq_false_iff_not, Bool.not_eq_true', Bool.not_eq_false', ne_eq, Decidable.not_not, Bool.not_eq_true, Bool.not_eq_false] at q136) | (dsimp only at q136) | skip
        refine At.region rfl rfl ?_
        refine Reg.pur rfl rfl rfl rfl (Pur.mv rfl) ?_
        first | refine Reg.pur rfl rfl rfl rfl (Pur.add64 rfl rfl (by omega)) ?_ | refine Reg.pur rfl rfl rfl rfl (Pur.add64 rfl rfl (by assumption)) ?_ | refine Reg.pur rfl rfl rfl rfl (Pur.add rfl rfl) ?_
        refine Reg.pur rfl rfl rfl rfl (Pur.asg rfl) ?_
        refine Reg.nil ?_
        exact At.via (ih (i + 1, out ++ m, ends ++ [((out ++ m).length : Int) - 1], A', cap', A33_5, cap33_5) _ ⟨by omega, by omega, by simp [hel], nine_app hN hNm, hg1, hg2, by omega, o0_0, o0_1, hE, by rw [hla, ← hgo, if_neg (by omega)]⟩ (by simp only; omega)) ⟨rfl, rfl, rfl, rfl, rfl, rfl, trivial⟩
  · first | (simp only [decide_eq_true_eq, decide_eq_false_iff_not, Bool.not_eq_true', Bool.not_eq_false', ne_eq, Decidable.not_not, Bool.not_eq_true, Bool.not_eq_false] at q21) | (dsimp only at q21) | skip
    refine At.region rfl rfl ?_
    refine Reg.pur rfl rfl rfl rfl (Pur.mv rfl) ?_
    refine Reg.pur rfl rfl rfl rfl (Pur.bld (cs := [_]) pl25 zc25 rfl rfl ⟨rfl, rfl⟩) ?_
    refine Reg.op0 rfl rfl rfl (Does.stn ag25 rfl rfl (by first | rfl | exact ones_Is _) (by first | rfl | (simp [*]; done)) o0_1 (by first | decide | (simp; done) | (simp; omega) | omega)) ?_
    rintro _ H36_2 hu36_2
    have z36_2 := hu36_2.size
    replace hE := hE.upw hu36_2 (by omega)
    replace o0_0 := o0_0.upw hu36_2 (by omega)
    replace hg1 := hg1.upw hu36_2 (by omega)
    replace hg2 := hg2.upw hu36_2 (by omega)
    replace o0_1 := hu36_2.own
    first | rw [over (by first | rfl | (simp; done))] at o0_1 | skip
    refine Reg.pur rfl rfl rfl rfl (Pur.asg rfl) ?_
    refine Reg.nil ?_
    refine At.retC rfl Try.func57 ⟨_, _, _, _, rfl, rfl, ⟨_, o0_1.blk, .inr ⟨_, _, ag25, (by first | exact whole rfl | exact whole (by simp [*])), (by first | rfl | simp [*]), rfl⟩⟩, ⟨_, _, rfl, rfl, rfl⟩⟩ ?_
    refine ⟨hE, ?_⟩
    rw [List.drop_of_length_le (by omega)] at hgo
    rw [← hgo]; exact ⟨A', cap', rfl, hg1.mono (by omega), hN, hol⟩
end Go.Proofs.Ytlfillhffpiffaa

/-
  subst.Type, subst.Row, and the reference's.
-/
namespace Go.Proofs.Ytlfillhffpiffaa
set_option linter.unusedSimpArgs false
set_option linter.unusedVariables false
set_option maxRecDepth 8000
open Go Go.Fx Go.Proofs
namespace FactsSubM
theorem ag25 : ag Try.prog 25 = some 1 := by kernel_rfl
theorem ag28 : ag Try.prog 28 = some 5 := by kernel_rfl
theorem pl25 : places Try.prog 25 = some [(0, 1)] := by kernel_rfl
theorem pl28 : places Try.prog 28 = some [(0, 4), (4, 1)] := by kernel_rfl
theorem zc25 : zc Try.prog 25 = some [.slice none 0 0] := by kernel_rfl
theorem zc28 : zc Try.prog 28 = some [.int .i64 0, .int .i64 0, .int .i64 0, .int .i64 0, .int .i64 0] := by kernel_rfl
end FactsSubM
open FactsSubM

/-- a type in new memory, and something beside it -/
def TypV (B : Nat) (H' : Heap) (w v : Value) (out : List (List Int)) : Prop :=
  ∃ A' cap', v = .tuple #[Ty A' out.length cap', w] ∧ OwnS H' B 47 9 (.slice A' out.length cap') out.length (out.flatMap Is) ∧ Nine out ∧ out.length ≤ 256
theorem TypB.v {B : Nat} {H' : Heap} {v : Value} {o : Option (List (List Int))} (h : TypB B H' v o) : TypV B H' (.bool o.isSome) v (o.getD []) := by
  cases o with
  | none => exact ⟨none, 0, h, OwnS.nil _ _ _ _, (fun x hx => by cases hx), by simp⟩
  | some out => exact h
theorem TypV.non {B : Nat} {H' : Heap} {w v : Value} (h : v = .tuple #[Ty none 0 0, w]) : TypV B H' w v [] := ⟨none, 0, h, OwnS.nil _ _ _ _, (fun x hx => by cases hx), by simp⟩
def ce (b : Bool) : Int := if b then 0 else 900
def subT (Bs : List Bd) (L : List (List Int)) : Option (List (List Int)) := if bindsM Bs = true ∧ typM L = true then typS Bs L else none
def subR (Bs : List Bd) (r : List Int) : List Int × Bool := if bindsM Bs = true ∧ rowM r = true then rowS Bs r else (noRow, false)

theorem binds256 {L : List Bd} (h : bindsM L = true) : ∀ b ∈ L, b.nodes.length ≤ 256 := by
  intro b hb
  unfold bindsM at h
  simp only [Bool.and_eq_true, List.all_eq_true] at h
  have := h.2 b hb
  unfold bindM at this
  simp only [Bool.and_eq_true, decide_eq_true_eq] at this
  have h2 := this.2
  split at h2
  · simp only [Bool.and_eq_true, decide_eq_true_eq] at h2; omega
  · simp only [Bool.and_eq_true, decide_eq_true_eq] at h2
    have h3 := h2.2
    unfold typM at h3
    simp only [Bool.and_eq_true, decide_eq_true_eq] at h3
    exact h3.1.1.2

theorem type_ok {A A1 : Option Addr} {cap cap1 : Nat} {Bs : List Bd} {L : List (List Int)} {H : Heap} (hB : Bds H (.slice A Bs.length cap) Bs) (hS : SlT H Is 9 (.slice A1 L.length cap1) L) (hL : Nine L) (hm : L.length * 72 ≤ 140737488351232) :
    Ret Try.prog 20 [.slice A Bs.length cap, Ty A1 L.length cap1] H (fun v H' => Ext H H' ∧ TypV H.size H' (I (ce (subT Bs L).isSome)) v ((subT Bs L).getD [])) := by
  refine Ret.of_at (N := 26) Try.call20 Try.func20 rfl rfl rfl ?_
  have hE := Ext.refl H
  refine At.region rfl rfl ?_
  refine Reg.op rfl rfl rfl rfl (Does.box rfl rfl) ?_
  rintro _ H0_0 ⟨rfl, hn0_0⟩
  have z0_0 := hn0_0.size
  replace hE := hE.ext hn0_0.ext
  have o0_0 := hn0_0.own
  refine Reg.op rfl rfl rfl rfl (Does.alloc zc25) ?_
  rintro _ H0_1 ⟨rfl, hn0_1⟩
  have z0_1 := hn0_1.size
  replace hE := hE.ext hn0_1.ext
  replace o0_0 := o0_0.ext hn0_1.ext
  have o0_1 := hn0_1.own
  refine Reg.pur rfl rfl rfl rfl (Pur.asg rfl) ?_
  refine Reg.nil ?_
  refine At.region rfl rfl ?_
  refine Reg.pur rfl rfl rfl rfl (Pur.mv rfl) ?_
  refine Reg.op rfl rfl rfl rfl (Does.call rfl (bindsMay_ok (hB.ext hE))) ?_
  rintro _ H1_1 ⟨rfl, hE1_1⟩
  have z1_1 := hE1_1.lt
  replace hE := hE.ext hE1_1
  replace o0_0 := o0_0.ext hE1_1
  replace o0_1 := o0_1.ext hE1_1
  refine Reg.pur rfl rfl rfl rfl (Pur.not rfl) ?_
  refine Reg.pur rfl rfl rfl rfl (Pur.mv rfl) ?_
  refine Reg.case 11 rfl (fun q11 => ?_) (fun q11 => ?_)
  · first | (simp only [decide_eq_true_eq, decide_eq_false_iff_not, Bool.not_eq_true', Bool.not_eq_false', ne_eq, Decidable.not_not, Bool.not_eq_true, Bool.not_eq_false] at q11) | (dsimp only at q11) | skip
    refine Reg.skip rfl rfl rfl rfl rfl rfl rfl ?_
    refine Reg.skip rfl rfl rfl rfl rfl rfl rfl ?_
    refine Reg.skip rfl rfl rfl rfl rfl rfl rfl ?_
    refine Reg.pur rfl rfl rfl rfl (Pur.pickT rfl rfl) ?_
    refine Reg.nil ?_
    refine At.condT rfl rfl rfl ?_
    refine At.region rfl rfl ?_
    refine Reg.pur rfl rfl rfl rfl (Pur.bld (cs := [_]) pl25 zc25 rfl rfl ⟨rfl, rfl⟩) ?_
    refine Reg.op0 rfl rfl rfl (Does.stn ag25 rfl rfl (by first | rfl | exact ones_Is _) (by first | rfl | (simp [*]; done)) o0_1 (by first | decide | (simp; done) | (simp; omega) | omega)) ?_
    rintro _ H2_1 hu2_1
    have z2_1 := hu2_1.size
    replace hE := hE.upw hu2_1 (by omega)
    replace o0_0 := o0_0.upw hu2_1 (by omega)
    replace o0_1 := hu2_1.own
    first | rw [over (by first | rfl | (simp; done))] at o0_1 | skip
    refine Reg.pur rfl rfl rfl rfl (Pur.asg rfl) ?_
    refine Reg.nil ?_
    refine At.retC rfl Try.func20 ⟨_, _, _, _, rfl, rfl, ⟨_, o0_1.blk, .inr ⟨_, _, ag25, (by first | exact whole rfl | exact whole (by simp [*])), (by first | rfl | simp [*]), rfl⟩⟩, ⟨_, _, rfl, rfl, rfl⟩⟩ ?_
    refine ⟨hE, ?_⟩
    rw [show subT Bs L = none by unfold subT; rw [if_neg]; simp_all]
    exact TypV.non rfl
  · first | (simp only [decide_eq_true_eq, decide_eq_false_iff_not, Bool.not_eq_true', Bool.not_eq_false', ne_eq, Decidable.not_not, Bool.not_eq_true, Bool.not_eq_false] at q11) | (dsimp only at q11) | skip
    refine Reg.glod rfl rfl rfl rfl rfl rfl (Lod.ldn ag25 rfl o0_0.blk (by first | exact whole rfl | rfl | (simp only [List.drop_succ_cons, List.drop_zero, List.take_succ_cons, List.take_zero]; rfl)) (by first | rfl | (simp [*]; done))) ?_
    refine Reg.gop rfl rfl rfl rfl rfl rfl (Does.call rfl (typMay_ok L hL (hS.ext hE) (by omega))) ?_
    rintro _ H1_5 ⟨rfl, hE1_5⟩
    have z1_5 := hE1_5.lt
    replace hE := hE.ext hE1_5
    replace o0_0 := o0_0.ext hE1_5
    replace o0_1 := o0_1.ext hE1_5
    refine Reg.gpur rfl rfl rfl rfl rfl rfl (Pur.not rfl) ?_
    refine Reg.pur rfl rfl rfl rfl (Pur.pickF rfl rfl) ?_
    refine Reg.nil ?_
    refine At.cond rfl rfl (fun q15 => ?_) (fun q15 => ?_)
    · first | (simp only [decide_eq_true_eq, decide_eq_false_iff_not, Bool.not_eq_true', Bool.not_eq_false', ne_eq, Decidable.not_not, Bool.not_eq_true, Bool.not_eq_false] at q15) | (dsimp only at q15) | skip
      refine At.region rfl rfl ?_
      refine Reg.pur rfl rfl rfl rfl (Pur.bld (cs := [_]) pl25 zc25 rfl rfl ⟨rfl, rfl⟩) ?_
      refine Reg.op0 rfl rfl rfl (Does.stn ag25 rfl rfl (by first | rfl | exact ones_Is _) (by first | rfl | (simp [*]; done)) o0_1 (by first | decide | (simp; done) | (simp; omega) | omega)) ?_
      rintro _ H2_1 hu2_1
      have z2_1 := hu2_1.size
      replace hE := hE.upw hu2_1 (by omega)
      replace o0_0 := o0_0.upw hu2_1 (by omega)
      replace o0_1 := hu2_1.own
      first | rw [over (by first | rfl | (simp; done))] at o0_1 | skip
      refine Reg.pur rfl rfl rfl rfl (Pur.asg rfl) ?_
      refine Reg.nil ?_
      refine At.retC rfl Try.func20 ⟨_, _, _, _, rfl, rfl, ⟨_, o0_1.blk, .inr ⟨_, _, ag25, (by first | exact whole rfl | exact whole (by simp [*])), (by first | rfl | simp [*]), rfl⟩⟩, ⟨_, _, rfl, rfl, rfl⟩⟩ ?_
      refine ⟨hE, ?_⟩
      rw [show subT Bs L = none by unfold subT; rw [if_neg]; simp_all]
      exact TypV.non rfl
    · first | (simp only [decide_eq_true_eq, decide_eq_false_iff_not, Bool.not_eq_true', Bool.not_eq_false', ne_eq, Decidable.not_not, Bool.not_eq_true, Bool.not_eq_false] at q15) | (dsimp only at q15) | skip
      have hM : typM L = true := q15
      refine At.region rfl rfl ?_
      refine Reg.pur rfl rfl rfl rfl (Pur.mv rfl) ?_
      refine Reg.op rfl rfl rfl rfl (Does.call rfl (ofType_ok (hB.ext hE) (hS.ext hE) hL hM o0_0.blk rfl)) ?_
      rintro v3_1 H3_1 ⟨hE3_1, hT3_1⟩
      have z3_1 := hE3_1.lt
      replace hE := hE.ext hE3_1
      replace o0_0 := o0_0.ext hE3_1
      replace o0_1 := o0_1.ext hE3_1
      obtain ⟨A', cap', rfl, ho, hN, hl⟩ := hT3_1.v
      have z_ho := ho.lt
      refine Reg.pur rfl rfl rfl rfl (Pur.mv rfl) ?_
      refine Reg.pur rfl rfl rfl rfl (Pur.ext rfl rfl) ?_
      refine Reg.pur rfl rfl rfl rfl (Pur.ext rfl rfl) ?_
      refine Reg.op rfl rfl rfl rfl (Does.alloc zc25) ?_
      rintro _ H3_5 ⟨rfl, hn3_5⟩
      have z3_5 := hn3_5.size
      replace hE := hE.ext hn3_5.ext
      replace o0_0 := o0_0.ext hn3_5.ext
      replace o0_1 := o0_1.ext hn3_5.ext
      replace ho := ho.ext hn3_5.ext
      have o3_5 := hn3_5.own
      refine Reg.op0 rfl rfl rfl (Does.stn ag25 rfl rfl (by first | rfl | exact ones_Is _) (by first | rfl | (simp [*]; done)) o3_5 (by first | decide | (simp; done) | (simp; omega) | omega)) ?_
      rintro _ H3_6 hu3_6
      have z3_6 := hu3_6.size
      replace hE := hE.upw hu3_6 (by omega)
      replace o0_0 := o0_0.upw hu3_6 (by omega)
      replace o0_1 := o0_1.upw hu3_6 (by omega)
      replace ho := ho.upw hu3_6 (by omega)
      replace o3_5 := hu3_6.own
      first | rw [over (by first | rfl | (simp; done))] at o3_5 | skip
      refine Reg.pur rfl rfl rfl rfl (Pur.asg rfl) ?_
      refine Reg.nil ?_
      have hq : subT Bs L = typS Bs L := by unfold subT; rw [if_pos ⟨q11, hM⟩]
      refine At.region rfl rfl ?_
      refine Reg.pur rfl rfl rfl rfl (Pur.mv rfl) ?_
      refine Reg.pur rfl rfl rfl rfl (Pur.not rfl) ?_
      refine Reg.nil ?_
      refine At.cond rfl rfl (fun q23 => ?_) (fun q23 => ?_)
      · first | (simp only [decide_eq_true_eq, decide_eq_false_iff_not, Bool.not_eq_true', Bool.not_eq_false', ne_eq, Decidable.not_not, Bool.not_eq_true, Bool.not_eq_false] at q23) | (dsimp only at q23) | skip
        refine At.region rfl rfl ?_
        refine Reg.pur rfl rfl rfl rfl (Pur.bld (cs := [_]) pl25 zc25 rfl rfl ⟨rfl, rfl⟩) ?_
        refine Reg.op0 rfl rfl rfl (Does.stn ag25 rfl rfl (by first | rfl | exact ones_Is _) (by first | rfl | (simp [*]; done)) o0_1 (by first | decide | (simp; done) | (simp; omega) | omega)) ?_
        rintro _ H5_1 hu5_1
        have z5_1 := hu5_1.size
        replace hE := hE.upw hu5_1 (by omega)
        replace o0_0 := o0_0.upw hu5_1 (by omega)
        replace ho := ho.upw hu5_1 (by omega)
        replace o3_5 := o3_5.upw hu5_1 (by omega)
        replace o0_1 := hu5_1.own
        first | rw [over (by first | rfl | (simp; done))] at o0_1 | skip
        refine Reg.pur rfl rfl rfl rfl (Pur.asg rfl) ?_
        refine Reg.nil ?_
        refine At.retC rfl Try.func20 ⟨_, _, _, _, rfl, rfl, ⟨_, o0_1.blk, .inr ⟨_, _, ag25, (by first | exact whole rfl | exact whole (by simp [*])), (by first | rfl | simp [*]), rfl⟩⟩, ⟨_, _, rfl, rfl, rfl⟩⟩ ?_
        refine ⟨hE, ?_⟩
        rw [hq]
        cases hh : typS Bs L with
        | none => exact TypV.non rfl
        | some out => rw [hh] at q23; cases q23
      · first | (simp only [decide_eq_true_eq, decide_eq_false_iff_not, Bool.not_eq_true', Bool.not_eq_false', ne_eq, Decidable.not_not, Bool.not_eq_true, Bool.not_eq_false] at q23) | (dsimp only at q23) | skip
        refine At.region rfl rfl ?_
        refine Reg.lod rfl rfl rfl rfl (Lod.ldn ag25 rfl o3_5.blk (by first | exact whole rfl | rfl | (simp only [List.drop_succ_cons, List.drop_zero, List.take_succ_cons, List.take_zero]; rfl)) (by first | rfl | (simp [*]; done))) ?_
        refine Reg.op0 rfl rfl rfl (Does.stn ag25 rfl rfl (by first | rfl | exact ones_Is _) (by first | rfl | (simp [*]; done)) o0_1 (by first | decide | (simp; done) | (simp; omega) | omega)) ?_
        rintro _ H6_1 hu6_1
        have z6_1 := hu6_1.size
        replace hE := hE.upw hu6_1 (by omega)
        replace o0_0 := o0_0.upw hu6_1 (by omega)
        replace ho := ho.upw hu6_1 (by omega)
        replace o3_5 := o3_5.upw hu6_1 (by omega)
        replace o0_1 := hu6_1.own
        first | rw [over (by first | rfl | (simp; done))] at o0_1 | skip
        refine Reg.pur rfl rfl rfl rfl (Pur.asg rfl) ?_
        refine Reg.nil ?_
        refine At.retC rfl Try.func20 ⟨_, _, _, _, rfl, rfl, ⟨_, o0_1.blk, .inr ⟨_, _, ag25, (by first | exact whole rfl | exact whole (by simp [*])), (by first | rfl | simp [*]), rfl⟩⟩, ⟨_, _, rfl, rfl, rfl⟩⟩ ?_
        refine ⟨hE, ?_⟩
        rw [hq]
        rw [show (typS Bs L).isSome = true from q23]
        exact ⟨A', cap', rfl, ho.mono (by omega), hN, hl⟩

theorem typeR_ok {A A1 : Option Addr} {cap cap1 : Nat} {Bs : List Bd} {L : List (List Int)} {H : Heap} (hB : Bds H (.slice A Bs.length cap) Bs) (hS : SlT H Is 9 (.slice A1 L.length cap1) L) (hL : Nine L) (hm : L.length * 72 ≤ 140737488351232) :
    Ret Try.prog 21 [.slice A Bs.length cap, Ty A1 L.length cap1] H (fun v H' => Ext H H' ∧ TypV H.size H' (I (ce (subT Bs L).isSome)) v ((subT Bs L).getD [])) := by
  refine Ret.of_at (N := 27) Try.call21 Try.func21 rfl rfl rfl ?_
  have hE := Ext.refl H
  refine At.region rfl rfl ?_
  refine Reg.op rfl rfl rfl rfl (Does.box rfl rfl) ?_
  rintro _ H0_0 ⟨rfl, hn0_0⟩
  have z0_0 := hn0_0.size
  replace hE := hE.ext hn0_0.ext
  have o0_0 := hn0_0.own
  refine Reg.op rfl rfl rfl rfl (Does.alloc zc25) ?_
  rintro _ H0_1 ⟨rfl, hn0_1⟩
  have z0_1 := hn0_1.size
  replace hE := hE.ext hn0_1.ext
  replace o0_0 := o0_0.ext hn0_1.ext
  have o0_1 := hn0_1.own
  refine Reg.pur rfl rfl rfl rfl (Pur.asg rfl) ?_
  refine Reg.nil ?_
  refine At.region rfl rfl ?_
  refine Reg.pur rfl rfl rfl rfl (Pur.mv rfl) ?_
  refine Reg.op rfl rfl rfl rfl (Does.call rfl (bindsMayR_ok (hB.ext hE))) ?_
  rintro _ H1_1 ⟨rfl, hE1_1⟩
  have z1_1 := hE1_1.lt
  replace hE := hE.ext hE1_1
  replace o0_0 := o0_0.ext hE1_1
  replace o0_1 := o0_1.ext hE1_1
  refine Reg.pur rfl rfl rfl rfl (Pur.not rfl) ?_
  refine Reg.pur rfl rfl rfl rfl (Pur.mv rfl) ?_
  refine Reg.case 11 rfl (fun q11 => ?_) (fun q11 => ?_)
  · first | (simp only [decide_eq_true_eq, decide_eq_false_iff_not, Bool.not_eq_true', Bool.not_eq_false', ne_eq, Decidable.not_not, Bool.not_eq_true, Bool.not_eq_false] at q11) | (dsimp only at q11) | skip
    refine Reg.skip rfl rfl rfl rfl rfl rfl rfl ?_
    refine Reg.skip rfl rfl rfl rfl rfl rfl rfl ?_
    refine Reg.skip rfl rfl rfl rfl rfl rfl rfl ?_
    refine Reg.pur rfl rfl rfl rfl (Pur.pickT rfl rfl) ?_
    refine Reg.nil ?_
    refine At.condT rfl rfl rfl ?_
    refine At.region rfl rfl ?_
    refine Reg.pur rfl rfl rfl rfl (Pur.bld (cs := [_]) pl25 zc25 rfl rfl ⟨rfl, rfl⟩) ?_
    refine Reg.op0 rfl rfl rfl (Does.stn ag25 rfl rfl (by first | rfl | exact ones_Is _) (by first | rfl | (simp [*]; done)) o0_1 (by first | decide | (simp; done) | (simp; omega) | omega)) ?_
    rintro _ H2_1 hu2_1
    have z2_1 := hu2_1.size
    replace hE := hE.upw hu2_1 (by omega)
    replace o0_0 := o0_0.upw hu2_1 (by omega)
    replace o0_1 := hu2_1.own
    first | rw [over (by first | rfl | (simp; done))] at o0_1 | skip
    refine Reg.pur rfl rfl rfl rfl (Pur.asg rfl) ?_
    refine Reg.nil ?_
    refine At.retC rfl Try.func21 ⟨_, _, _, _, rfl, rfl, ⟨_, o0_1.blk, .inr ⟨_, _, ag25, (by first | exact whole rfl | exact whole (by simp [*])), (by first | rfl | simp [*]), rfl⟩⟩, ⟨_, _, rfl, rfl, rfl⟩⟩ ?_
    refine ⟨hE, ?_⟩
    rw [show subT Bs L = none by unfold subT; rw [if_neg]; simp_all]
    exact TypV.non rfl
  · first | (simp only [decide_eq_true_eq, decide_eq_false_iff_not, Bool.not_eq_true', Bool.not_eq_false', ne_eq, Decidable.not_not, Bool.not_eq_true, Bool.not_eq_false] at q11) | (dsimp only at q11) | skip
    refine Reg.glod rfl rfl rfl rfl rfl rfl (Lod.ldn ag25 rfl o0_0.blk (by first | exact whole rfl | rfl | (simp only [List.drop_succ_cons, List.drop_zero, List.take_succ_cons, List.take_zero]; rfl)) (by first | rfl | (simp [*]; done))) ?_
    refine Reg.gop rfl rfl rfl rfl rfl rfl (Does.call rfl (typMayR_ok L hL (hS.ext hE) (by omega))) ?_
    rintro _ H1_5 ⟨rfl, hE1_5⟩
    have z1_5 := hE1_5.lt
    replace hE := hE.ext hE1_5
    replace o0_0 := o0_0.ext hE1_5
    replace o0_1 := o0_1.ext hE1_5
    refine Reg.gpur rfl rfl rfl rfl rfl rfl (Pur.not rfl) ?_
    refine Reg.pur rfl rfl rfl rfl (Pur.pickF rfl rfl) ?_
    refine Reg.nil ?_
    refine At.cond rfl rfl (fun q15 => ?_) (fun q15 => ?_)
    · first | (simp only [decide_eq_true_eq, decide_eq_false_iff_not, Bool.not_eq_true', Bool.not_eq_false', ne_eq, Decidable.not_not, Bool.not_eq_true, Bool.not_eq_false] at q15) | (dsimp only at q15) | skip
      refine At.region rfl rfl ?_
      refine Reg.pur rfl rfl rfl rfl (Pur.bld (cs := [_]) pl25 zc25 rfl rfl ⟨rfl, rfl⟩) ?_
      refine Reg.op0 rfl rfl rfl (Does.stn ag25 rfl rfl (by first | rfl | exact ones_Is _) (by first | rfl | (simp [*]; done)) o0_1 (by first | decide | (simp; done) | (simp; omega) | omega)) ?_
      rintro _ H2_1 hu2_1
      have z2_1 := hu2_1.size
      replace hE := hE.upw hu2_1 (by omega)
      replace o0_0 := o0_0.upw hu2_1 (by omega)
      replace o0_1 := hu2_1.own
      first | rw [over (by first | rfl | (simp; done))] at o0_1 | skip
      refine Reg.pur rfl rfl rfl rfl (Pur.asg rfl) ?_
      refine Reg.nil ?_
      refine At.retC rfl Try.func21 ⟨_, _, _, _, rfl, rfl, ⟨_, o0_1.blk, .inr ⟨_, _, ag25, (by first | exact whole rfl | exact whole (by simp [*])), (by first | rfl | simp [*]), rfl⟩⟩, ⟨_, _, rfl, rfl, rfl⟩⟩ ?_
      refine ⟨hE, ?_⟩
      rw [show subT Bs L = none by unfold subT; rw [if_neg]; simp_all]
      exact TypV.non rfl
    · first | (simp only [decide_eq_true_eq, decide_eq_false_iff_not, Bool.not_eq_true', Bool.not_eq_false', ne_eq, Decidable.not_not, Bool.not_eq_true, Bool.not_eq_false] at q15) | (dsimp only at q15) | skip
      refine At.region rfl rfl ?_
      refine Reg.pur rfl rfl rfl rfl (Pur.mv rfl) ?_
      refine Reg.lod rfl rfl rfl rfl (Lod.ldn ag25 rfl o0_0.blk (by first | exact whole rfl | rfl | (simp only [List.drop_succ_cons, List.drop_zero, List.take_succ_cons, List.take_zero]; rfl)) (by first | rfl | (simp [*]; done))) ?_
      refine Reg.op rfl rfl rfl rfl (Does.call rfl (typeOf_ok (hB.ext hE) (binds256 q11) (hS.ext hE) hL q15)) ?_
      rintro v3_2 H3_2 ⟨hE3_2, hT3_2⟩
      have z3_2 := hE3_2.lt
      replace hE := hE.ext hE3_2
      replace o0_0 := o0_0.ext hE3_2
      replace o0_1 := o0_1.ext hE3_2
      obtain ⟨A', cap', rfl, ho, hN, hl⟩ := hT3_2.v
      have z_ho := ho.lt
      refine Reg.pur rfl rfl rfl rfl (Pur.mv rfl) ?_
      refine Reg.pur rfl rfl rfl rfl (Pur.ext rfl rfl) ?_
      refine Reg.pur rfl rfl rfl rfl (Pur.ext rfl rfl) ?_
      refine Reg.op rfl rfl rfl rfl (Does.alloc zc25) ?_
      rintro _ H3_6 ⟨rfl, hn3_6⟩
      have z3_6 := hn3_6.size
      replace hE := hE.ext hn3_6.ext
      replace o0_0 := o0_0.ext hn3_6.ext
      replace o0_1 := o0_1.ext hn3_6.ext
      replace ho := ho.ext hn3_6.ext
      have o3_6 := hn3_6.own
      refine Reg.op0 rfl rfl rfl (Does.stn ag25 rfl rfl (by first | rfl | exact ones_Is _) (by first | rfl | (simp [*]; done)) o3_6 (by first | decide | (simp; done) | (simp; omega) | omega)) ?_
      rintro _ H3_7 hu3_7
      have z3_7 := hu3_7.size
      replace hE := hE.upw hu3_7 (by omega)
      replace o0_0 := o0_0.upw hu3_7 (by omega)
      replace o0_1 := o0_1.upw hu3_7 (by omega)
      replace ho := ho.upw hu3_7 (by omega)
      replace o3_6 := hu3_7.own
      first | rw [over (by first | rfl | (simp; done))] at o3_6 | skip
      refine Reg.pur rfl rfl rfl rfl (Pur.asg rfl) ?_
      refine Reg.nil ?_
      have hq : subT Bs L = typS Bs L := by unfold subT; rw [if_pos ⟨q11, q15⟩]
      refine At.region rfl rfl ?_
      refine Reg.pur rfl rfl rfl rfl (Pur.mv rfl) ?_
      refine Reg.pur rfl rfl rfl rfl (Pur.not rfl) ?_
      refine Reg.nil ?_
      refine At.cond rfl rfl (fun q24 => ?_) (fun q24 => ?_)
      · first | (simp only [decide_eq_true_eq, decide_eq_false_iff_not, Bool.not_eq_true', Bool.not_eq_false', ne_eq, Decidable.not_not, Bool.not_eq_true, Bool.not_eq_false] at q24) | (dsimp only at q24) | skip
        refine At.region rfl rfl ?_
        refine Reg.pur rfl rfl rfl rfl (Pur.bld (cs := [_]) pl25 zc25 rfl rfl ⟨rfl, rfl⟩) ?_
        refine Reg.op0 rfl rfl rfl (Does.stn ag25 rfl rfl (by first | rfl | exact ones_Is _) (by first | rfl | (simp [*]; done)) o0_1 (by first | decide | (simp; done) | (simp; omega) | omega)) ?_
        rintro _ H5_1 hu5_1
        have z5_1 := hu5_1.size
        replace hE := hE.upw hu5_1 (by omega)
        replace o0_0 := o0_0.upw hu5_1 (by omega)
        replace ho := ho.upw hu5_1 (by omega)
        replace o3_6 := o3_6.upw hu5_1 (by omega)
        replace o0_1 := hu5_1.own
        first | rw [over (by first | rfl | (simp; done))] at o0_1 | skip
        refine Reg.pur rfl rfl rfl rfl (Pur.asg rfl) ?_
        refine Reg.nil ?_
        refine At.retC rfl Try.func21 ⟨_, _, _, _, rfl, rfl, ⟨_, o0_1.blk, .inr ⟨_, _, ag25, (by first | exact whole rfl | exact whole (by simp [*])), (by first | rfl | simp [*]), rfl⟩⟩, ⟨_, _, rfl, rfl, rfl⟩⟩ ?_
        refine ⟨hE, ?_⟩
        rw [hq]
        cases hh : typS Bs L with
        | none => exact TypV.non rfl
        | some out => rw [hh] at q24; cases q24
      · first | (simp only [decide_eq_true_eq, decide_eq_false_iff_not, Bool.not_eq_true', Bool.not_eq_false', ne_eq, Decidable.not_not, Bool.not_eq_true, Bool.not_eq_false] at q24) | (dsimp only at q24) | skip
        refine At.region rfl rfl ?_
        refine Reg.lod rfl rfl rfl rfl (Lod.ldn ag25 rfl o3_6.blk (by first | exact whole rfl | rfl | (simp only [List.drop_succ_cons, List.drop_zero, List.take_succ_cons, List.take_zero]; rfl)) (by first | rfl | (simp [*]; done))) ?_
        refine Reg.op0 rfl rfl rfl (Does.stn ag25 rfl rfl (by first | rfl | exact ones_Is _) (by first | rfl | (simp [*]; done)) o0_1 (by first | decide | (simp; done) | (simp; omega) | omega)) ?_
        rintro _ H6_1 hu6_1
        have z6_1 := hu6_1.size
        replace hE := hE.upw hu6_1 (by omega)
        replace o0_0 := o0_0.upw hu6_1 (by omega)
        replace ho := ho.upw hu6_1 (by omega)
        replace o3_6 := o3_6.upw hu6_1 (by omega)
        replace o0_1 := hu6_1.own
        first | rw [over (by first | rfl | (simp; done))] at o0_1 | skip
        refine Reg.pur rfl rfl rfl rfl (Pur.asg rfl) ?_
        refine Reg.nil ?_
        refine At.retC rfl Try.func21 ⟨_, _, _, _, rfl, rfl, ⟨_, o0_1.blk, .inr ⟨_, _, ag25, (by first | exact whole rfl | exact whole (by simp [*])), (by first | rfl | simp [*]), rfl⟩⟩, ⟨_, _, rfl, rfl, rfl⟩⟩ ?_
        refine ⟨hE, ?_⟩
        rw [hq]
        rw [show (typS Bs L).isSome = true from q24]
        exact ⟨A', cap', rfl, ho.mono (by omega), hN, hl⟩

theorem rowS_false {Bs : List Bd} {r : List Int} (h : (rowS Bs r).2 = false) : rowS Bs r = (noRow, false) := by
  revert h; unfold rowS
  split
  · intro h; cases h
  · split
    · intro h; cases h
    · split
      · intro h; cases h
      · intro _; rfl
/-- a row and a code -/
abbrev RowE (p : List Int × Bool) : Value := .tuple #[.agg (Is p.1).toArray, I (ce p.2)]
theorem row_ok {A : Option Addr} {cap : Nat} {Bs : List Bd} {H : Heap} (hB : Bds H (.slice A Bs.length cap) Bs) (r : List Int) (hr : r.length = 5) :
    Ret Try.prog 22 [.slice A Bs.length cap, .agg (Is r).toArray] H (fun v H' => v = RowE (subR Bs r) ∧ (subR Bs r).1.length = 5 ∧ Ext H H') := by
  have hr' : (Is r).length = 5 := by simp [hr]
  refine Ret.of_at (N := 27) Try.call22 Try.func22 rfl rfl rfl ?_
  have hE := Ext.refl H
  refine At.region rfl rfl ?_
  refine Reg.op rfl rfl rfl rfl (Does.box rfl rfl) ?_
  rintro _ H0_0 ⟨rfl, hn0_0⟩
  have z0_0 := hn0_0.size
  replace hE := hE.ext hn0_0.ext
  have o0_0 := hn0_0.own
  refine Reg.op rfl rfl rfl rfl (Does.alloc zc28) ?_
  rintro _ H0_1 ⟨rfl, hn0_1⟩
  have z0_1 := hn0_1.size
  replace hE := hE.ext hn0_1.ext
  replace o0_0 := o0_0.ext hn0_1.ext
  have o0_1 := hn0_1.own
  refine Reg.pur rfl rfl rfl rfl (Pur.asg rfl) ?_
  refine Reg.nil ?_
  refine At.region rfl rfl ?_
  refine Reg.pur rfl rfl rfl rfl (Pur.mv rfl) ?_
  refine Reg.op rfl rfl rfl rfl (Does.call rfl (bindsMay_ok (hB.ext hE))) ?_
  rintro _ H1_1 ⟨rfl, hE1_1⟩
  have z1_1 := hE1_1.lt
  replace hE := hE.ext hE1_1
  replace o0_0 := o0_0.ext hE1_1
  replace o0_1 := o0_1.ext hE1_1
  refine Reg.pur rfl rfl rfl rfl (Pur.not rfl) ?_
  refine Reg.pur rfl rfl rfl rfl (Pur.mv rfl) ?_
  refine Reg.case 11 rfl (fun q11 => ?_) (fun q11 => ?_)
  · first | (simp only [decide_eq_true_eq, decide_eq_false_iff_not, Bool.not_eq_true', Bool.not_eq_false', ne_eq, Decidable.not_not, Bool.not_eq_true, Bool.not_eq_false] at q11) | (dsimp only at q11) | skip
    refine Reg.skip rfl rfl rfl rfl rfl rfl rfl ?_
    refine Reg.skip rfl rfl rfl rfl rfl rfl rfl ?_
    refine Reg.skip rfl rfl rfl rfl rfl rfl rfl ?_
    refine Reg.pur rfl rfl rfl rfl (Pur.pickT rfl rfl) ?_
    refine Reg.nil ?_
    refine At.condT rfl rfl rfl ?_
    refine At.region rfl rfl ?_
    refine Reg.pur rfl rfl rfl rfl (Pur.bld (cs := [_, _, _, _, _]) pl28 zc28 rfl rfl ⟨rfl, rfl, rfl, rfl, rfl, rfl⟩) ?_
    refine Reg.op0 rfl rfl rfl (Does.stn ag28 rfl rfl (by first | rfl | exact ones_Is _) (by first | rfl | (simp [*]; done)) o0_1 (by first | decide | (simp; done) | (simp; omega) | omega)) ?_
    rintro _ H2_1 hu2_1
    have z2_1 := hu2_1.size
    replace hE := hE.upw hu2_1 (by omega)
    replace o0_0 := o0_0.upw hu2_1 (by omega)
    replace o0_1 := hu2_1.own
    first | rw [over (by first | rfl | (simp; done))] at o0_1 | skip
    refine Reg.pur rfl rfl rfl rfl (Pur.asg rfl) ?_
    refine Reg.nil ?_
    refine At.retC rfl Try.func22 ⟨_, _, _, _, rfl, rfl, ⟨_, o0_1.blk, .inr ⟨_, _, ag28, (by first | exact whole rfl | exact whole (by simp [*])), (by first | rfl | simp [*]), rfl⟩⟩, ⟨_, _, rfl, rfl, rfl⟩⟩ ?_
    rw [show subR Bs r = (noRow, false) by unfold subR; rw [if_neg]; simp_all]
    exact ⟨rfl, rfl, hE⟩
  · first | (simp only [decide_eq_true_eq, decide_eq_false_iff_not, Bool.not_eq_true', Bool.not_eq_false', ne_eq, Decidable.not_not, Bool.not_eq_true, Bool.not_eq_false] at q11) | (dsimp only at q11) | skip
    refine Reg.glod rfl rfl rfl rfl rfl rfl (Lod.ldn ag28 rfl o0_0.blk (whole hr') hr') ?_
    refine Reg.gop rfl rfl rfl rfl rfl rfl (Does.call rfl (rowMay_ok r hr _)) ?_
    rintro _ H1_5 ⟨rfl, hE1_5⟩
    have z1_5 := hE1_5.lt
    replace hE := hE.ext hE1_5
    replace o0_0 := o0_0.ext hE1_5
    replace o0_1 := o0_1.ext hE1_5
    refine Reg.gpur rfl rfl rfl rfl rfl rfl (Pur.not rfl) ?_
    refine Reg.pur rfl rfl rfl rfl (Pur.pickF rfl rfl) ?_
    refine Reg.nil ?_
    refine At.cond rfl rfl (fun q15 => ?_) (fun q15 => ?_)
    · first | (simp only [decide_eq_true_eq, decide_eq_false_iff_not, Bool.not_eq_true', Bool.not_eq_false', ne_eq, Decidable.not_not, Bool.not_eq_true, Bool.not_eq_false] at q15) | (dsimp only at q15) | skip
      refine At.region rfl rfl ?_
      refine Reg.pur rfl rfl rfl rfl (Pur.bld (cs := [_, _, _, _, _]) pl28 zc28 rfl rfl ⟨rfl, rfl, rfl, rfl, rfl, rfl⟩) ?_
      refine Reg.op0 rfl rfl rfl (Does.stn ag28 rfl rfl (by first | rfl | exact ones_Is _) (by first | rfl | (simp [*]; done)) o0_1 (by first | decide | (simp; done) | (simp; omega) | omega)) ?_
      rintro _ H2_1 hu2_1
      have z2_1 := hu2_1.size
      replace hE := hE.upw hu2_1 (by omega)
      replace o0_0 := o0_0.upw hu2_1 (by omega)
      replace o0_1 := hu2_1.own
      first | rw [over (by first | rfl | (simp; done))] at o0_1 | skip
      refine Reg.pur rfl rfl rfl rfl (Pur.asg rfl) ?_
      refine Reg.nil ?_
      refine At.retC rfl Try.func22 ⟨_, _, _, _, rfl, rfl, ⟨_, o0_1.blk, .inr ⟨_, _, ag28, (by first | exact whole rfl | exact whole (by simp [*])), (by first | rfl | simp [*]), rfl⟩⟩, ⟨_, _, rfl, rfl, rfl⟩⟩ ?_
      rw [show subR Bs r = (noRow, false) by unfold subR; rw [if_neg]; simp_all]
      exact ⟨rfl, rfl, hE⟩
    · first | (simp only [decide_eq_true_eq, decide_eq_false_iff_not, Bool.not_eq_true', Bool.not_eq_false', ne_eq, Decidable.not_not, Bool.not_eq_true, Bool.not_eq_false] at q15) | (dsimp only at q15) | skip
      refine At.region rfl rfl ?_
      refine Reg.pur rfl rfl rfl rfl (Pur.mv rfl) ?_
      refine Reg.lod rfl rfl rfl rfl (Lod.ldn ag28 rfl o0_0.blk (whole hr') hr') ?_
      refine Reg.op rfl rfl rfl rfl (Does.call rfl (ofRow_ok (hB.ext hE) r hr (row_tail q15))) ?_
      rintro _ H3_2 ⟨rfl, hl, hE3_2⟩
      have z3_2 := hE3_2.lt
      replace hE := hE.ext hE3_2
      replace o0_0 := o0_0.ext hE3_2
      replace o0_1 := o0_1.ext hE3_2
      refine Reg.pur rfl rfl rfl rfl (Pur.mv rfl) ?_
      refine Reg.pur rfl rfl rfl rfl (Pur.ext rfl rfl) ?_
      refine Reg.pur rfl rfl rfl rfl (Pur.ext rfl rfl) ?_
      refine Reg.op rfl rfl rfl rfl (Does.alloc zc28) ?_
      rintro _ H3_6 ⟨rfl, hn3_6⟩
      have z3_6 := hn3_6.size
      replace hE := hE.ext hn3_6.ext
      replace o0_0 := o0_0.ext hn3_6.ext
      replace o0_1 := o0_1.ext hn3_6.ext
      have o3_6 := hn3_6.own
      refine Reg.op0 rfl rfl rfl (Does.stn ag28 rfl rfl (by first | rfl | exact ones_Is _) (by first | rfl | (simp [*]; done)) o3_6 (by first | decide | (simp; done) | (simp; omega) | omega)) ?_
      rintro _ H3_7 hu3_7
      have z3_7 := hu3_7.size
      replace hE := hE.upw hu3_7 (by omega)
      replace o0_0 := o0_0.upw hu3_7 (by omega)
      replace o0_1 := o0_1.upw hu3_7 (by omega)
      replace o3_6 := hu3_7.own
      first | rw [over (by first | rfl | (simp; done))] at o3_6 | skip
      refine Reg.pur rfl rfl rfl rfl (Pur.asg rfl) ?_
      refine Reg.nil ?_
      have hl' : (Is (rowS Bs r).1).length = 5 := by simp [hl]
      have hq : subR Bs r = rowS Bs r := by unfold subR; rw [if_pos ⟨q11, q15⟩]
      refine At.region rfl rfl ?_
      refine Reg.pur rfl rfl rfl rfl (Pur.mv rfl) ?_
      refine Reg.pur rfl rfl rfl rfl (Pur.not rfl) ?_
      refine Reg.nil ?_
      refine At.cond rfl rfl (fun q24 => ?_) (fun q24 => ?_)
      · first | (simp only [decide_eq_true_eq, decide_eq_false_iff_not, Bool.not_eq_true', Bool.not_eq_false', ne_eq, Decidable.not_not, Bool.not_eq_true, Bool.not_eq_false] at q24) | (dsimp only at q24) | skip
        refine At.region rfl rfl ?_
        refine Reg.pur rfl rfl rfl rfl (Pur.bld (cs := [_, _, _, _, _]) pl28 zc28 rfl rfl ⟨rfl, rfl, rfl, rfl, rfl, rfl⟩) ?_
        refine Reg.op0 rfl rfl rfl (Does.stn ag28 rfl rfl (by first | rfl | exact ones_Is _) (by first | rfl | (simp [*]; done)) o0_1 (by first | decide | (simp; done) | (simp; omega) | omega)) ?_
        rintro _ H5_1 hu5_1
        have z5_1 := hu5_1.size
        replace hE := hE.upw hu5_1 (by omega)
        replace o0_0 := o0_0.upw hu5_1 (by omega)
        replace o3_6 := o3_6.upw hu5_1 (by omega)
        replace o0_1 := hu5_1.own
        first | rw [over (by first | rfl | (simp; done))] at o0_1 | skip
        refine Reg.pur rfl rfl rfl rfl (Pur.asg rfl) ?_
        refine Reg.nil ?_
        refine At.retC rfl Try.func22 ⟨_, _, _, _, rfl, rfl, ⟨_, o0_1.blk, .inr ⟨_, _, ag28, (by first | exact whole rfl | exact whole (by simp [*])), (by first | rfl | simp [*]), rfl⟩⟩, ⟨_, _, rfl, rfl, rfl⟩⟩ ?_
        rw [hq]
        have hz := rowS_false q24
        rw [hz]
        exact ⟨rfl, rfl, hE⟩
      · first | (simp only [decide_eq_true_eq, decide_eq_false_iff_not, Bool.not_eq_true', Bool.not_eq_false', ne_eq, Decidable.not_not, Bool.not_eq_true, Bool.not_eq_false] at q24) | (dsimp only at q24) | skip
        refine At.region rfl rfl ?_
        refine Reg.lod rfl rfl rfl rfl (Lod.ldn ag28 rfl o3_6.blk (whole hl') hl') ?_
        refine Reg.op0 rfl rfl rfl (Does.stn ag28 rfl rfl (by first | rfl | exact ones_Is _) (by first | rfl | (simp [*]; done)) o0_1 (by first | decide | (simp; done) | (simp; omega) | omega)) ?_
        rintro _ H6_1 hu6_1
        have z6_1 := hu6_1.size
        replace hE := hE.upw hu6_1 (by omega)
        replace o0_0 := o0_0.upw hu6_1 (by omega)
        replace o3_6 := o3_6.upw hu6_1 (by omega)
        replace o0_1 := hu6_1.own
        first | rw [over (by first | rfl | (simp; done))] at o0_1 | skip
        refine Reg.pur rfl rfl rfl rfl (Pur.asg rfl) ?_
        refine Reg.nil ?_
        refine At.retC rfl Try.func22 ⟨_, _, _, _, rfl, rfl, ⟨_, o0_1.blk, .inr ⟨_, _, ag28, (whole hl'), hl', rfl⟩⟩, ⟨_, _, rfl, rfl, rfl⟩⟩ ?_
        rw [hq]
        refine ⟨?_, hl, hE⟩
        unfold RowE; rw [show (rowS Bs r).2 = true from q24]; rfl
theorem rowR_ok {A : Option Addr} {cap : Nat} {Bs : List Bd} {H : Heap} (hB : Bds H (.slice A Bs.length cap) Bs) (r : List Int) (hr : r.length = 5) :
    Ret Try.prog 23 [.slice A Bs.length cap, .agg (Is r).toArray] H (fun v H' => v = RowE (subR Bs r) ∧ (subR Bs r).1.length = 5 ∧ Ext H H') := by
  have hr' : (Is r).length = 5 := by simp [hr]
  refine Ret.of_at (N := 27) Try.call23 Try.func23 rfl rfl rfl ?_
  have hE := Ext.refl H
  refine At.region rfl rfl ?_
  refine Reg.op rfl rfl rfl rfl (Does.box rfl rfl) ?_
  rintro _ H0_0 ⟨rfl, hn0_0⟩
  have z0_0 := hn0_0.size
  replace hE := hE.ext hn0_0.ext
  have o0_0 := hn0_0.own
  refine Reg.op rfl rfl rfl rfl (Does.alloc zc28) ?_
  rintro _ H0_1 ⟨rfl, hn0_1⟩
  have z0_1 := hn0_1.size
  replace hE := hE.ext hn0_1.ext
  replace o0_0 := o0_0.ext hn0_1.ext
  have o0_1 := hn0_1.own
  refine Reg.pur rfl rfl rfl rfl (Pur.asg rfl) ?_
  refine Reg.nil ?_
  refine At.region rfl rfl ?_
  refine Reg.pur rfl rfl rfl rfl (Pur.mv rfl) ?_
  refine Reg.op rfl rfl rfl rfl (Does.call rfl (bindsMayR_ok (hB.ext hE))) ?_
  rintro _ H1_1 ⟨rfl, hE1_1⟩
  have z1_1 := hE1_1.lt
  replace hE := hE.ext hE1_1
  replace o0_0 := o0_0.ext hE1_1
  replace o0_1 := o0_1.ext hE1_1
  refine Reg.pur rfl rfl rfl rfl (Pur.not rfl) ?_
  refine Reg.pur rfl rfl rfl rfl (Pur.mv rfl) ?_
  refine Reg.case 11 rfl (fun q11 => ?_) (fun q11 => ?_)
  · first | (simp only [decide_eq_true_eq, decide_eq_false_iff_not, Bool.not_eq_true', Bool.not_eq_false', ne_eq, Decidable.not_not, Bool.not_eq_true, Bool.not_eq_false] at q11) | (dsimp only at q11) | skip
    refine Reg.skip rfl rfl rfl rfl rfl rfl rfl ?_
    refine Reg.skip rfl rfl rfl rfl rfl rfl rfl ?_
    refine Reg.skip rfl rfl rfl rfl rfl rfl rfl ?_
    refine Reg.pur rfl rfl rfl rfl (Pur.pickT rfl rfl) ?_
    refine Reg.nil ?_
    refine At.condT rfl rfl rfl ?_
    refine At.region rfl rfl ?_
    refine Reg.pur rfl rfl rfl rfl (Pur.bld (cs := [_, _, _, _, _]) pl28 zc28 rfl rfl ⟨rfl, rfl, rfl, rfl, rfl, rfl⟩) ?_
    refine Reg.op0 rfl rfl rfl (Does.stn ag28 rfl rfl (by first | rfl | exact ones_Is _) (by first | rfl | (simp [*]; done)) o0_1 (by first | decide | (simp; done) | (simp; omega) | omega)) ?_
    rintro _ H2_1 hu2_1
    have z2_1 := hu2_1.size
    replace hE := hE.upw hu2_1 (by omega)
    replace o0_0 := o0_0.upw hu2_1 (by omega)
    replace o0_1 := hu2_1.own
    first | rw [over (by first | rfl | (simp; done))] at o0_1 | skip
    refine Reg.pur rfl rfl rfl rfl (Pur.asg rfl) ?_
    refine Reg.nil ?_
    refine At.retC rfl Try.func23 ⟨_, _, _, _, rfl, rfl, ⟨_, o0_1.blk, .inr ⟨_, _, ag28, (by first | exact whole rfl | exact whole (by simp [*])), (by first | rfl | simp [*]), rfl⟩⟩, ⟨_, _, rfl, rfl, rfl⟩⟩ ?_
    rw [show subR Bs r = (noRow, false) by unfold subR; rw [if_neg]; simp_all]
    exact ⟨rfl, rfl, hE⟩
  · first | (simp only [decide_eq_true_eq, decide_eq_false_iff_not, Bool.not_eq_true', Bool.not_eq_false', ne_eq, Decidable.not_not, Bool.not_eq_true, Bool.not_eq_false] at q11) | (dsimp only at q11) | skip
    refine Reg.glod rfl rfl rfl rfl rfl rfl (Lod.ldn ag28 rfl o0_0.blk (whole hr') hr') ?_
    refine Reg.gop rfl rfl rfl rfl rfl rfl (Does.call rfl (rowMayR_ok r hr _)) ?_
    rintro _ H1_5 ⟨rfl, hE1_5⟩
    have z1_5 := hE1_5.lt
    replace hE := hE.ext hE1_5
    replace o0_0 := o0_0.ext hE1_5
    replace o0_1 := o0_1.ext hE1_5
    refine Reg.gpur rfl rfl rfl rfl rfl rfl (Pur.not rfl) ?_
    refine Reg.pur rfl rfl rfl rfl (Pur.pickF rfl rfl) ?_
    refine Reg.nil ?_
    refine At.cond rfl rfl (fun q15 => ?_) (fun q15 => ?_)
    · first | (simp only [decide_eq_true_eq, decide_eq_false_iff_not, Bool.not_eq_true', Bool.not_eq_false', ne_eq, Decidable.not_not, Bool.not_eq_true, Bool.not_eq_false] at q15) | (dsimp only at q15) | skip
      refine At.region rfl rfl ?_
      refine Reg.pur rfl rfl rfl rfl (Pur.bld (cs := [_, _, _, _, _]) pl28 zc28 rfl rfl ⟨rfl, rfl, rfl, rfl, rfl, rfl⟩) ?_
      refine Reg.op0 rfl rfl rfl (Does.stn ag28 rfl rfl (by first | rfl | exact ones_Is _) (by first | rfl | (simp [*]; done)) o0_1 (by first | decide | (simp; done) | (simp; omega) | omega)) ?_
      rintro _ H2_1 hu2_1
      have z2_1 := hu2_1.size
      replace hE := hE.upw hu2_1 (by omega)
      replace o0_0 := o0_0.upw hu2_1 (by omega)
      replace o0_1 := hu2_1.own
      first | rw [over (by first | rfl | (simp; done))] at o0_1 | skip
      refine Reg.pur rfl rfl rfl rfl (Pur.asg rfl) ?_
      refine Reg.nil ?_
      refine At.retC rfl Try.func23 ⟨_, _, _, _, rfl, rfl, ⟨_, o0_1.blk, .inr ⟨_, _, ag28, (by first | exact whole rfl | exact whole (by simp [*])), (by first | rfl | simp [*]), rfl⟩⟩, ⟨_, _, rfl, rfl, rfl⟩⟩ ?_
      rw [show subR Bs r = (noRow, false) by unfold subR; rw [if_neg]; simp_all]
      exact ⟨rfl, rfl, hE⟩
    · first | (simp only [decide_eq_true_eq, decide_eq_false_iff_not, Bool.not_eq_true', Bool.not_eq_false', ne_eq, Decidable.not_not, Bool.not_eq_true, Bool.not_eq_false] at q15) | (dsimp only at q15) | skip
      refine At.region rfl rfl ?_
      refine Reg.pur rfl rfl rfl rfl (Pur.mv rfl) ?_
      refine Reg.lod rfl rfl rfl rfl (Lod.ldn ag28 rfl o0_0.blk (whole hr') hr') ?_
      refine Reg.op rfl rfl rfl rfl (Does.call rfl (rowOf_ok (hB.ext hE) r hr)) ?_
      rintro _ H3_2 ⟨rfl, hl, hE3_2⟩
      have z3_2 := hE3_2.lt
      replace hE := hE.ext hE3_2
      replace o0_0 := o0_0.ext hE3_2
      replace o0_1 := o0_1.ext hE3_2
      refine Reg.pur rfl rfl rfl rfl (Pur.mv rfl) ?_
      refine Reg.pur rfl rfl rfl rfl (Pur.ext rfl rfl) ?_
      refine Reg.pur rfl rfl rfl rfl (Pur.ext rfl rfl) ?_
      refine Reg.op rfl rfl rfl rfl (Does.alloc zc28) ?_
      rintro _ H3_6 ⟨rfl, hn3_6⟩
      have z3_6 := hn3_6.size
      replace hE := hE.ext hn3_6.ext
      replace o0_0 := o0_0.ext hn3_6.ext
      replace o0_1 := o0_1.ext hn3_6.ext
      have o3_6 := hn3_6.own
      refine Reg.op0 rfl rfl rfl (Does.stn ag28 rfl rfl (by first | rfl | exact ones_Is _) (by first | rfl | (simp [*]; done)) o3_6 (by first | decide | (simp; done) | (simp; omega) | omega)) ?_
      rintro _ H3_7 hu3_7
      have z3_7 := hu3_7.size
      replace hE := hE.upw hu3_7 (by omega)
      replace o0_0 := o0_0.upw hu3_7 (by omega)
      replace o0_1 := o0_1.upw hu3_7 (by omega)
      replace o3_6 := hu3_7.own
      first | rw [over (by first | rfl | (simp; done))] at o3_6 | skip
      refine Reg.pur rfl rfl rfl rfl (Pur.asg rfl) ?_
      refine Reg.nil ?_
      have hl' : (Is (rowS Bs r).1).length = 5 := by simp [hl]
      have hq : subR Bs r = rowS Bs r := by unfold subR; rw [if_pos ⟨q11, q15⟩]
      refine At.region rfl rfl ?_
      refine Reg.pur rfl rfl rfl rfl (Pur.mv rfl) ?_
      refine Reg.pur rfl rfl rfl rfl (Pur.not rfl) ?_
      refine Reg.nil ?_
      refine At.cond rfl rfl (fun q24 => ?_) (fun q24 => ?_)
      · first | (simp only [decide_eq_true_eq, decide_eq_false_iff_not, Bool.not_eq_true', Bool.not_eq_false', ne_eq, Decidable.not_not, Bool.not_eq_true, Bool.not_eq_false] at q24) | (dsimp only at q24) | skip
        refine At.region rfl rfl ?_
        refine Reg.pur rfl rfl rfl rfl (Pur.bld (cs := [_, _, _, _, _]) pl28 zc28 rfl rfl ⟨rfl, rfl, rfl, rfl, rfl, rfl⟩) ?_
        refine Reg.op0 rfl rfl rfl (Does.stn ag28 rfl rfl (by first | rfl | exact ones_Is _) (by first | rfl | (simp [*]; done)) o0_1 (by first | decide | (simp; done) | (simp; omega) | omega)) ?_
        rintro _ H5_1 hu5_1
        have z5_1 := hu5_1.size
        replace hE := hE.upw hu5_1 (by omega)
        replace o0_0 := o0_0.upw hu5_1 (by omega)
        replace o3_6 := o3_6.upw hu5_1 (by omega)
        replace o0_1 := hu5_1.own
        first | rw [over (by first | rfl | (simp; done))] at o0_1 | skip
        refine Reg.pur rfl rfl rfl rfl (Pur.asg rfl) ?_
        refine Reg.nil ?_
        refine At.retC rfl Try.func23 ⟨_, _, _, _, rfl, rfl, ⟨_, o0_1.blk, .inr ⟨_, _, ag28, (by first | exact whole rfl | exact whole (by simp [*])), (by first | rfl | simp [*]), rfl⟩⟩, ⟨_, _, rfl, rfl, rfl⟩⟩ ?_
        rw [hq]
        have hz := rowS_false q24
        rw [hz]
        exact ⟨rfl, rfl, hE⟩
      · first | (simp only [decide_eq_true_eq, decide_eq_false_iff_not, Bool.not_eq_true', Bool.not_eq_false', ne_eq, Decidable.not_not, Bool.not_eq_true, Bool.not_eq_false] at q24) | (dsimp only at q24) | skip
        refine At.region rfl rfl ?_
        refine Reg.lod rfl rfl rfl rfl (Lod.ldn ag28 rfl o3_6.blk (whole hl') hl') ?_
        refine Reg.op0 rfl rfl rfl (Does.stn ag28 rfl rfl (by first | rfl | exact ones_Is _) (by first | rfl | (simp [*]; done)) o0_1 (by first | decide | (simp; done) | (simp; omega) | omega)) ?_
        rintro _ H6_1 hu6_1
        have z6_1 := hu6_1.size
        replace hE := hE.upw hu6_1 (by omega)
        replace o0_0 := o0_0.upw hu6_1 (by omega)
        replace o3_6 := o3_6.upw hu6_1 (by omega)
        replace o0_1 := hu6_1.own
        first | rw [over (by first | rfl | (simp; done))] at o0_1 | skip
        refine Reg.pur rfl rfl rfl rfl (Pur.asg rfl) ?_
        refine Reg.nil ?_
        refine At.retC rfl Try.func23 ⟨_, _, _, _, rfl, rfl, ⟨_, o0_1.blk, .inr ⟨_, _, ag28, (whole hl'), hl', rfl⟩⟩, ⟨_, _, rfl, rfl, rfl⟩⟩ ?_
        rw [hq]
        refine ⟨?_, hl, hE⟩
        unfold RowE; rw [show (rowS Bs r).2 = true from q24]; rfl
end Go.Proofs.Ytlfillhffpiffaa

/-
  Binds copied and compared; types spoilt.
-/
namespace Go.Proofs.Ytlfillhffpiffaa
set_option linter.unusedSimpArgs false
set_option linter.unusedVariables false
set_option maxRecDepth 8000
open Go Go.Fx Go.Proofs
namespace FactsSubN
theorem ag25 : ag Try.prog 25 = some 1 := by kernel_rfl
theorem ag28 : ag Try.prog 28 = some 5 := by kernel_rfl
theorem ag49 : ag Try.prog 49 = some 8 := by kernel_rfl
theorem apt22 : appT Try.prog 22 = some (49, 8, 80) := by kernel_rfl
theorem eqt28 : eqT Try.prog 28 = some [.int .i64, .int .i64, .int .i64, .int .i64, .int .i64] := by kernel_rfl
theorem es22 : esz Try.prog 22 = some 8 := by kernel_rfl
theorem fo49_0 : foff Try.prog 49 0 = some 0 := by kernel_rfl
theorem fo49_1 : foff Try.prog 49 1 = some 1 := by kernel_rfl
theorem fo49_2 : foff Try.prog 49 2 = some 2 := by kernel_rfl
theorem fo49_3 : foff Try.prog 49 3 = some 3 := by kernel_rfl
theorem isl22 : isSl Try.prog 22 = true := by kernel_rfl
theorem mixed : Try.prog.follows .mixedOrders = true := by kernel_rfl
theorem sc3 : sc Try.prog 3 = true := by kernel_rfl
theorem sc4 : sc Try.prog 4 = true := by kernel_rfl
theorem slA22 : slA Try.prog 22 = some (49, 8) := by kernel_rfl
theorem zc49 : zc Try.prog 49 = some [.int .i64 0, .bool false, .slice none 0 0, .int .i64 0, .int .i64 0, .int .i64 0, .int .i64 0, .int .i64 0] := by kernel_rfl
end FactsSubN
open FactsSubN

/-- a bind without where it lies -/
def pl (b : Bd) : Int × Bool × List (List Int) × List Int := (b.var, b.isRow, b.nodes, b.row)
theorem Bd.Ok.via {H H' : Heap} {S : Nat → Prop} {b : Bd} (h : b.Ok H) (he : But S H H') (hs : b.nodes.length ≠ 0 → ∀ g : Nat, (g : Int) = ob b.A → ¬ S g) : b.Ok H' :=
  ⟨h.sl.via he hs, h.nine, h.row, h.fits⟩
theorem Bd.Ok.upw {H H' : Heap} {x : Nat} {c : List Value} {b : Bd} (h : b.Ok H) (u : Upd H H' x c) (hs : b.nodes.length = 0 ∨ ob b.A ≠ x) : b.Ok H' :=
  ⟨h.sl.upw u hs, h.nine, h.row, h.fits⟩
theorem Bd.Ok.lt {H : Heap} {b : Bd} (h : b.Ok H) : b.nodes.length = 0 ∨ (0 ≤ ob b.A ∧ ob b.A < H.size) := h.sl.lt
/-- binds, none of them in block g -/
def Oks (H : Heap) (g : Int) (L : List Bd) : Prop := ∀ b ∈ L, b.Ok H ∧ (b.nodes.length = 0 ∨ ob b.A ≠ g)
theorem Oks.ext {H H' : Heap} {g : Int} {L : List Bd} (h : Oks H g L) (he : Ext H H') : Oks H' g L := fun b hb => ⟨(h b hb).1.ext he, (h b hb).2⟩

/-- binds that lie from block lo on -/
def BdsFrom (lo : Nat) (A : Option Addr) (L : List Bd) : Prop := (L.length = 0 ∨ (lo : Int) ≤ ob A) ∧ ∀ b ∈ L, b.nodes.length = 0 ∨ (lo : Int) ≤ ob b.A
theorem Bds.via {H H' : Heap} {S : Nat → Prop} {A : Option Addr} {n cap : Nat} {L : List Bd} (h : Bds H (.slice A n cap) L) (he : But S H H') (hs : L.length ≠ 0 → ∀ g : Nat, (g : Int) = ob A → ¬ S g) (hb : ∀ b ∈ L, b.nodes.length ≠ 0 → ∀ g : Nat, (g : Int) = ob b.A → ¬ S g) : Bds H' (.slice A n cap) L :=
  ⟨h.sl.via he hs, fun b hm => (h.ok b hm).via he (hb b hm), h.fits⟩
theorem Bds.lt' {H : Heap} {A : Option Addr} {n cap : Nat} {L : List Bd} (h : Bds H (.slice A n cap) L) : (L.length = 0 ∨ (0 ≤ ob A ∧ ob A < H.size)) ∧ ∀ b ∈ L, b.nodes.length = 0 ∨ (0 ≤ ob b.A ∧ ob b.A < H.size) :=
  ⟨h.sl.lt, fun b hb => (h.ok b hb).lt⟩
theorem copyBinds_ok {A : Option Addr} {cap : Nat} {Bs : List Bd} {H : Heap} (hB : Bds H (.slice A Bs.length cap) Bs) :
    Ret Try.prog 18 [.slice A Bs.length cap] H (fun v H' => ∃ A' cap' Bs', v = .slice A' Bs'.length cap' ∧ Bds H' (.slice A' Bs'.length cap') Bs' ∧ Bs'.map pl = Bs.map pl ∧ BdsFrom H.size A' Bs' ∧ Ext H H') := by
  have hbl := hB.fits
  refine Ret.of_at (N := 25) Try.call18 Try.func18 rfl rfl rfl ?_
  have hE := Ext.refl H
  refine At.region rfl rfl ?_
  refine Reg.pur rfl rfl rfl rfl (Pur.asg rfl) ?_
  refine Reg.nil ?_
  refine At.region rfl rfl ?_
  refine Reg.pur rfl rfl rfl rfl (Pur.asg rfl) ?_
  refine Reg.nil ?_
  refine At.region rfl rfl ?_
  refine Reg.pur rfl rfl rfl rfl (Pur.asg rfl) ?_
  refine Reg.nil ?_
  refine At.loop (σ := Nat × List Bd × Option Addr × Nat) (fun (i, out, A', cap') => [(4, I i), (3, .slice A' out.length cap'), (0, .slice A Bs.length cap)]) (fun (i, out, A', cap') H' => i ≤ Bs.length ∧ out.map pl = (Bs.take i).map pl ∧ Oks H' (ob A') out ∧ (∀ b ∈ out, b.nodes.length = 0 ∨ (H.size : Int) ≤ ob b.A) ∧ Gs H' H.size 49 8 A' cap' out.length (out.flatMap encB) ∧ Ext H H') (fun s => Bs.length - s.1) (0, [], none, 0) rfl ⟨rfl, rfl, rfl, trivial⟩ ⟨by omega, rfl, (fun x hx => by cases hx), (fun x hx => by cases hx), OwnS.nilG, hE⟩ ?_
  rintro ⟨i, out, A', cap'⟩ H3 ⟨hi, hmap, hoks, hfr, hg, hE⟩ ih
  dsimp only at hi hmap hoks hfr hg ⊢
  have z_hE := hE.lt
  have z_hg := hg.lt
  have hL := Ext.refl H3
  have z_hL := hL.lt
  refine At.region rfl rfl ?_
  refine Reg.pur rfl rfl rfl rfl (Pur.mv rfl) ?_
  refine Reg.pur rfl rfl rfl rfl (Pur.mv rfl) ?_
  refine Reg.pur rfl rfl rfl rfl (Pur.lenS isl22 rfl) ?_
  refine Reg.pur rfl rfl rfl rfl (Pur.lss rfl rfl) ?_
  refine Reg.nil ?_
  refine At.cond rfl rfl (fun q9 => ?_) (fun q9 => ?_)
  · first | (simp only [decide_eq_true_eq, decide_eq_false_iff_not, Bool.not_eq_true', Bool.not_eq_false', ne_eq, Decidable.not_not, Bool.not_eq_true, Bool.not_eq_false] at q9) | (dsimp only at q9) | skip
    have hlt : i < Bs.length := by omega
    obtain ⟨b, o, c, rfl, hB0, hd, _⟩ := (hB.ext hE).at hlt
    have hok := hB.ok _ (List.getElem_mem hlt)
    have hlen := congrArg List.length hmap
    simp only [List.length_map, List.length_take] at hlen
    have hnx : (Bs.take (i + 1)).map pl = out.map pl ++ [pl Bs[i]] := by rw [List.take_succ_eq_append_getElem hlt, List.map_append, ← hmap]; rfl
    generalize Bs[i] = bd at hd hok hnx
    have hrl := hok.row
    refine At.region rfl rfl ?_
    refine Reg.pur rfl rfl rfl rfl (Pur.mv rfl) ?_
    refine Reg.pur rfl rfl rfl rfl (Pur.mv rfl) ?_
    refine Reg.pur rfl rfl rfl rfl (Pur.idx _ es22 rfl rfl (by omega) (by omega)) ?_
    refine Reg.lod rfl rfl rfl rfl (Lod.ldn ag49 rfl hB0 hd hok.len) ?_
    refine Reg.op rfl rfl rfl rfl (Does.alloc zc49) ?_
    rintro _ H5_4 ⟨rfl, hn5_4⟩
    have z5_4 := hn5_4.size
    replace hE := hE.ext hn5_4.ext
    replace hg := hg.ext hn5_4.ext
    first | replace hL := hL.ext hn5_4.ext | skip
    have o5_4 := hn5_4.own
    refine Reg.op0 rfl rfl rfl (Does.stn ag49 rfl rfl (by first | rfl | exact ones_Is _) (by first | rfl | (simp [*]; done)) o5_4 (by first | decide | (simp; done) | (simp; omega) | omega)) ?_
    rintro _ H5_5 hu5_5
    have z5_5 := hu5_5.size
    replace hE := hE.upw hu5_5 (by omega)
    replace hg := hg.upw hu5_5 (by omega)
    first | replace hL := hL.upw hu5_5 (by omega) | skip
    replace o5_4 := hu5_5.own
    first | rw [over (by first | rfl | (simp; done))] at o5_4 | skip
    refine Reg.nil ?_
    refine At.region rfl rfl ?_
    refine Reg.pur rfl rfl rfl rfl (Pur.fld _ fo49_2 rfl) ?_
    refine Reg.lod rfl rfl rfl rfl (Lod.ldn ag25 rfl o5_4.blk (show _ = [bd.sl] from rfl) rfl) ?_
    refine Reg.op rfl rfl rfl rfl (Does.call rfl (copyType_ok hok.nine (hok.sl.ext hE) hok.fits)) ?_
    rintro _ H6_2 ⟨A2, cap2, rfl, ho2, hE6_2⟩
    have z6_2 := hE6_2.lt
    replace hE := hE.ext hE6_2
    replace hg := hg.ext hE6_2
    first | replace hL := hL.ext hE6_2 | skip
    replace o5_4 := o5_4.ext hE6_2
    have z_ho2 := ho2.lt
    refine Reg.pur rfl rfl rfl rfl (Pur.fld _ fo49_2 rfl) ?_
    refine Reg.op0 rfl rfl rfl (Does.stn ag25 rfl rfl (by first | rfl | exact ones_Is _) (by first | rfl | (simp [*]; done)) o5_4 (by first | decide | (simp; done) | (simp; omega) | omega)) ?_
    rintro _ H6_4 hu6_4
    have z6_4 := hu6_4.size
    replace hE := hE.upw hu6_4 (by omega)
    replace hg := hg.upw hu6_4 (by omega)
    first | replace hL := hL.upw hu6_4 (by omega) | skip
    replace ho2 := ho2.upw hu6_4 (by omega)
    replace o5_4 := hu6_4.own
    first | rw [over (by first | rfl | (simp; done))] at o5_4 | skip
    replace o5_4 : Own H6_4 H3.size (encB { bd with A := A2, cap := cap2 }) := o5_4
    refine Reg.nil ?_
    have hl8 : (encB { bd with A := A2, cap := cap2 }).length = 8 := by simp [hok.row]
    refine At.region rfl rfl ?_
    refine Reg.pur rfl rfl rfl rfl (Pur.mv rfl) ?_
    refine Reg.lod rfl rfl rfl rfl (Lod.ldn ag49 rfl o5_4.blk (whole hl8) hl8) ?_
    refine Reg.op rfl rfl rfl rfl (Does.bslA ([encB { bd with A := A2, cap := cap2 }]) slA22 rfl rfl rfl (by simp [hok.row]) rfl rfl) ?_
    rintro _ H7_2 ⟨rfl, hp7_2⟩
    have hn7_2 := New.of_eq hp7_2
    have z7_2 := hn7_2.size
    replace hE := hE.ext hn7_2.ext
    replace hg := hg.ext hn7_2.ext
    first | replace hL := hL.ext hn7_2.ext | skip
    replace o5_4 := o5_4.ext hn7_2.ext
    replace ho2 := ho2.ext hn7_2.ext
    have o7_2 := hn7_2.own

    refine Reg.op rfl rfl rfl rfl (Does.appL apt22 rfl rfl (by decide) hg (fun x hx ↦ by simp at hx; subst hx; exact hl8) (sl_one (x := { bd with A := A2, cap := cap2 }) hl8 (by decide) hn7_2) (by simp [ones, Value.oneCell']) (by simp; omega) (by omega)) ?_
    rintro _ H7_3 ⟨A7_3, cap7_3, rfl, g7_3, hbut7_3, ha7_3⟩
    have z7_3 := hbut7_3.lt
    replace hE := hE.via hbut7_3 (by first | omega | (intro g; omega) | (intro g hg; omega) | (intro g hg h; omega))
    replace o5_4 := o5_4.via hbut7_3 (by first | omega | (intro g; omega) | (intro g hg; omega) | (intro g hg h; omega))
    replace ho2 := ho2.via hbut7_3 (by first | omega | (intro g; omega) | (intro g hg; omega) | (intro g hg h; omega))
    replace o7_2 := o7_2.via hbut7_3 (by first | omega | (intro g; omega) | (intro g hg; omega) | (intro g hg h; omega))
    replace hg := g7_3
    have zg7_3 := g7_3.lt
    refine Reg.pur rfl rfl rfl rfl (Pur.asg rfl) ?_
    refine Reg.nil ?_
    refine At.region rfl rfl ?_
    refine Reg.pur rfl rfl rfl rfl (Pur.mv rfl) ?_
    first | refine Reg.pur rfl rfl rfl rfl (Pur.add64 rfl rfl (by omega)) ?_ | refine Reg.pur rfl rfl rfl rfl (Pur.add64 rfl rfl (by assumption)) ?_ | refine Reg.pur rfl rfl rfl rfl (Pur.add rfl rfl) ?_
    refine Reg.pur rfl rfl rfl rfl (Pur.asg rfl) ?_
    refine Reg.nil ?_
    have hok2 : Bd.Ok H7_3 { bd with A := A2, cap := cap2 } := ⟨own_sl (wide9 hok.nine) (by decide) ho2, hok.nine, hok.row, hok.fits⟩
    refine At.via (ih (i + 1, out ++ [{ bd with A := A2, cap := cap2 }], A7_3, cap7_3) _ ⟨by omega, by rw [hnx, List.map_append]; rfl, ?_, fun x hx => (List.mem_append.1 hx).elim (hfr x) (fun hx => by simp at hx; subst hx; have h4 := hok2.lt; dsimp only at h4 ⊢; omega), hg, hE⟩ (by simp only; omega)) ⟨rfl, rfl, rfl, trivial⟩
    intro x hx
    rcases List.mem_append.1 hx with hx | hx
    · have h1 := hoks x hx
      have h2 := h1.1.lt
      have h3 := h1.2
      exact ⟨(h1.1.ext hL).via hbut7_3 (fun h0 g hg => by omega), by omega⟩
    · simp at hx; subst hx; have h4 := hok2.lt; exact ⟨hok2, by dsimp only at h4 ⊢; omega⟩
  · first | (simp only [decide_eq_true_eq, decide_eq_false_iff_not, Bool.not_eq_true', Bool.not_eq_false', ne_eq, Decidable.not_not, Bool.not_eq_true, Bool.not_eq_false] at q9) | (dsimp only at q9) | skip
    refine At.region rfl rfl ?_
    refine Reg.pur rfl rfl rfl rfl (Pur.mv rfl) ?_
    refine Reg.pur rfl rfl rfl rfl (Pur.asg rfl) ?_
    refine Reg.nil ?_
    refine At.ret rfl Try.func18 rfl ?_
    rw [List.take_of_length_le (by omega)] at hmap
    have hlen := congrArg List.length hmap
    simp only [List.length_map] at hlen
    exact ⟨A', cap', out, rfl, ⟨own_sl (fun x hx => (hoks x hx).1.len) (by decide) hg, fun x hx => (hoks x hx).1, by omega⟩, hmap, ⟨by have := hg.lt; have := (own_sl (fun x hx => (hoks x hx).1.len) (by decide) hg).lt; omega, hfr⟩, hE⟩

theorem spoilO_ok {A : Option Addr} {cap B : Nat} {L : List (List Int)} (hL : Nine L) {H : Heap} (hm : L.length ≤ 9223372036854775807) (ho : OwnS H B 47 9 (.slice A L.length cap) L.length (L.flatMap Is)) :
    Ret Try.prog 26 [Ty A L.length cap] H (fun v H' => But (fun g => (g : Int) = ob A) H H') := by
  by_cases h0 : L.length = 0
  · refine (spoilT_ok (g := H.size) (c0 := []) hL hm (.inl h0)).mono ?_
    rintro v H' (⟨_, h⟩ | h)
    · exact h.but
    · exact h.mono (fun b hb e => by omega)
  · obtain ⟨g, c, rfl, h1, h2, h3⟩ := ho.blk (by omega)
    refine (spoilT_ok (g := g) hL hm (.inr ⟨rfl, h1, h2⟩)).mono ?_
    rintro v H' (⟨_, h⟩ | h)
    · exact h.but
    · exact h.mono (fun b hb e => by subst e; rfl)

theorem take1_map {α β : Type} {f : α → β} {L L' : List α} {i : Nat} (h : i < L.length) (h' : i < L'.length) (hp : (L.take i).map f = (L'.take i).map f) (hx : f L[i] = f L'[i]) : (L.take (i + 1)).map f = (L'.take (i + 1)).map f := by
  rw [List.take_succ_eq_append_getElem h, List.take_succ_eq_append_getElem h', List.map_append, List.map_append, hp, List.map_cons, List.map_cons, hx]
theorem ne_at {α β : Type} {f : α → β} {L L' : List α} {i : Nat} (h : i < L.length) (h' : i < L'.length) (hx : f L[i] ≠ f L'[i]) : L.map f ≠ L'.map f := by
  intro e
  have := congrArg (fun l => l[i]?) e
  simp [h, h'] at this
  exact hx this

theorem sameBinds_ok {A A' : Option Addr} {cap cap' : Nat} {Bs Cs : List Bd} {H : Heap} (hB : Bds H (.slice A Bs.length cap) Bs) (hC : Bds H (.slice A' Cs.length cap') Cs) :
    Ret Try.prog 27 [.slice A Bs.length cap, .slice A' Cs.length cap'] H (fun v H' => v = .bool (decide (Bs.map pl = Cs.map pl)) ∧ Ext H H') := by
  have hbl := hB.fits
  refine Ret.of_at (N := 68) Try.call27 Try.func27 rfl rfl rfl ?_
  have hE := Ext.refl H
  refine At.region rfl rfl ?_
  refine Reg.pur rfl rfl rfl rfl (Pur.asg rfl) ?_
  refine Reg.nil ?_
  refine At.region rfl rfl ?_
  refine Reg.pur rfl rfl rfl rfl (Pur.mv rfl) ?_
  refine Reg.pur rfl rfl rfl rfl (Pur.lenS isl22 rfl) ?_
  refine Reg.pur rfl rfl rfl rfl (Pur.mv rfl) ?_
  refine Reg.pur rfl rfl rfl rfl (Pur.lenS isl22 rfl) ?_
  refine Reg.pur rfl rfl rfl rfl (Pur.neq rfl rfl) ?_
  refine Reg.nil ?_
  refine At.cond rfl rfl (fun q10 => ?_) (fun q10 => ?_)
  · first | (simp only [decide_eq_true_eq, decide_eq_false_iff_not, Bool.not_eq_true', Bool.not_eq_false', ne_eq, Decidable.not_not, Bool.not_eq_true, Bool.not_eq_false] at q10) | (dsimp only at q10) | skip
    refine At.region rfl rfl ?_
    refine Reg.pur rfl rfl rfl rfl (Pur.asg rfl) ?_
    refine Reg.nil ?_
    refine At.ret rfl Try.func27 rfl ?_
    exact ⟨congrArg Value.bool (decide_eq_false fun e => by have := congrArg List.length e; simp only [List.length_map] at this; omega).symm, hE⟩
  · first | (simp only [decide_eq_true_eq, decide_eq_false_iff_not, Bool.not_eq_true', Bool.not_eq_false', ne_eq, Decidable.not_not, Bool.not_eq_true, Bool.not_eq_false] at q10) | (dsimp only at q10) | skip
    refine At.region rfl rfl ?_
    refine Reg.pur rfl rfl rfl rfl (Pur.asg rfl) ?_
    refine Reg.nil ?_
    have hll : Bs.length = Cs.length := by omega
    refine At.loop (σ := Nat) (fun i => [(5, I i), (0, .slice A Bs.length cap), (1, .slice A' Cs.length cap')]) (fun i H' => i ≤ Bs.length ∧ (Bs.take i).map pl = (Cs.take i).map pl ∧ Ext H H') (fun i => Bs.length - i) 0 rfl ⟨rfl, rfl, rfl, trivial⟩ ⟨by omega, rfl, hE⟩ ?_
    rintro i H3 ⟨hi, hmap, hE⟩ ih
    have z_hE := hE.lt
    refine At.region rfl rfl ?_
    refine Reg.pur rfl rfl rfl rfl (Pur.mv rfl) ?_
    refine Reg.pur rfl rfl rfl rfl (Pur.mv rfl) ?_
    refine Reg.pur rfl rfl rfl rfl (Pur.lenS isl22 rfl) ?_
    refine Reg.pur rfl rfl rfl rfl (Pur.lss rfl rfl) ?_
    refine Reg.nil ?_
    refine At.cond rfl rfl (fun q14 => ?_) (fun q14 => ?_)
    · first | (simp only [decide_eq_true_eq, decide_eq_false_iff_not, Bool.not_eq_true', Bool.not_eq_false', ne_eq, Decidable.not_not, Bool.not_eq_true, Bool.not_eq_false] at q14) | (dsimp only at q14) | skip
      have hlt : i < Bs.length := by omega
      have hlt' : i < Cs.length := by omega
      obtain ⟨b, o, c, rfl, hB0, hd, _⟩ := (hB.ext hE).at hlt
      obtain ⟨b', o', c', rfl, hB0', hd', _⟩ := (hC.ext hE).at hlt'
      have hok := hB.ok _ (List.getElem_mem hlt)
      have hok' := hC.ok _ (List.getElem_mem hlt')
      have hgo := take1_map hlt hlt' hmap
      have hne := ne_at (f := pl) hlt hlt'
      generalize Bs[i] = bd at hd hok hgo hne
      generalize Cs[i] = bd' at hd' hok' hgo hne
      have hr := hok.row
      have hr' := hok'.row
      have hf := fks_ints .i64 bd.row
      have hf' := fks_ints .i64 bd'.row
      rw [hr] at hf
      rw [hr'] at hf'
      have hq := eqs_ints .i64 bd.row bd'.row
      have z_hB0 := hB0.lt
      have z_hB0' := hB0'.lt
      refine At.drawE ((Bks.cons hB0.blk (Bks.cons hB0'.blk Bks.nil))) [] mixed rfl rfl ?_
      refine RegD.tpur (i := 0) rfl rfl rfl rfl (by kernel_rfl) (Pur.mv rfl) ?_
      refine RegD.tpur (i := 1) rfl rfl rfl rfl (by kernel_rfl) (Pur.mv rfl) ?_
      refine RegD.tpur (i := 2) rfl rfl rfl rfl (by kernel_rfl) (Pur.idx _ es22 rfl rfl (by omega) (by omega)) ?_
      refine RegD.tpur (i := 3) rfl rfl rfl rfl (by kernel_rfl) (Pur.fld _ fo49_0 rfl) ?_
      refine RegD.take (i := 4) rfl rfl rfl rfl (by kernel_rfl) (Bks.cons hB0.blk (Bks.cons hB0'.blk Bks.nil)) (fun H hS => Lod.ld sc3 rfl hS.hd (at_tk (j := 0) hd (by decide) rfl)) ?_
      refine RegD.tpur (i := 5) rfl rfl rfl rfl (by kernel_rfl) (Pur.mv rfl) ?_
      refine RegD.tpur (i := 6) rfl rfl rfl rfl (by kernel_rfl) (Pur.mv rfl) ?_
      refine RegD.tpur (i := 7) rfl rfl rfl rfl (by kernel_rfl) (Pur.idx _ es22 rfl rfl (by omega) (by omega)) ?_
      refine RegD.tpur (i := 8) rfl rfl rfl rfl (by kernel_rfl) (Pur.fld _ fo49_0 rfl) ?_
      refine RegD.take (i := 9) rfl rfl rfl rfl (by kernel_rfl) (Bks.cons hB0.blk (Bks.cons hB0'.blk Bks.nil)) (fun H hS => Lod.ld sc3 rfl hS.tl.hd (at_tk (j := 0) hd' (by decide) rfl)) ?_
      refine RegD.tpur (i := 10) rfl rfl rfl rfl (by kernel_rfl) (Pur.neq rfl rfl) ?_
      refine RegD.tpur (i := 11) rfl rfl rfl rfl (by kernel_rfl) (Pur.mv rfl) ?_
      refine RegD.case 28 rfl (fun q28 => ?_) (fun q28 => ?_)
      · first | (simp only [decide_eq_true_eq, decide_eq_false_iff_not, Bool.not_eq_true', Bool.not_eq_false', ne_eq, Decidable.not_not, Bool.not_eq_true, Bool.not_eq_false] at q28) | (dsimp only at q28) | skip
        refine RegD.skip (i := 12) rfl rfl rfl rfl rfl rfl rfl (by kernel_rfl) ?_
        refine RegD.skip (i := 13) rfl rfl rfl rfl rfl rfl rfl (by kernel_rfl) ?_
        refine RegD.skip (i := 14) rfl rfl rfl rfl rfl rfl rfl (by kernel_rfl) ?_
        refine RegD.skip (i := 15) rfl rfl rfl rfl rfl rfl rfl (by kernel_rfl) ?_
        refine RegD.skip (i := 16) rfl rfl rfl rfl rfl rfl rfl (by kernel_rfl) ?_
        refine RegD.skip (i := 17) rfl rfl rfl rfl rfl rfl rfl (by kernel_rfl) ?_
        refine RegD.skip (i := 18) rfl rfl rfl rfl rfl rfl rfl (by kernel_rfl) ?_
        refine RegD.skip (i := 19) rfl rfl rfl rfl rfl rfl rfl (by kernel_rfl) ?_
        refine RegD.skip (i := 20) rfl rfl rfl rfl rfl rfl rfl (by kernel_rfl) ?_
        refine RegD.skip (i := 21) rfl rfl rfl rfl rfl rfl rfl (by kernel_rfl) ?_
        refine RegD.skip (i := 22) rfl rfl rfl rfl rfl rfl rfl (by kernel_rfl) ?_
        refine RegD.tpur (i := 23) rfl rfl rfl rfl (by kernel_rfl) (Pur.pickT rfl rfl) ?_
        refine RegD.tpur (i := 24) rfl rfl rfl rfl (by kernel_rfl) (Pur.mv rfl) ?_
        refine RegD.skip (i := 25) rfl rfl rfl rfl rfl rfl rfl (by kernel_rfl) ?_
        refine RegD.skip (i := 26) rfl rfl rfl rfl rfl rfl rfl (by kernel_rfl) ?_
        refine RegD.skip (i := 27) rfl rfl rfl rfl rfl rfl rfl (by kernel_rfl) ?_
        refine RegD.skip (i := 28) rfl rfl rfl rfl rfl rfl rfl (by kernel_rfl) ?_
        refine RegD.skip (i := 29) rfl rfl rfl rfl rfl rfl rfl (by kernel_rfl) ?_
        refine RegD.skip (i := 30) rfl rfl rfl rfl rfl rfl rfl (by kernel_rfl) ?_
        refine RegD.skip (i := 31) rfl rfl rfl rfl rfl rfl rfl (by kernel_rfl) ?_
        refine RegD.skip (i := 32) rfl rfl rfl rfl rfl rfl rfl (by kernel_rfl) ?_
        refine RegD.skip (i := 33) rfl rfl rfl rfl rfl rfl rfl (by kernel_rfl) ?_
        refine RegD.skip (i := 34) rfl rfl rfl rfl rfl rfl rfl (by kernel_rfl) ?_
        refine RegD.skip (i := 35) rfl rfl rfl rfl rfl rfl rfl (by kernel_rfl) ?_
        refine RegD.tpur (i := 36) rfl rfl rfl rfl (by kernel_rfl) (Pur.pickT rfl rfl) ?_
        refine RegD.tpur (i := 37) rfl rfl rfl rfl (by kernel_rfl) (Pur.mv rfl) ?_
        refine RegD.skip (i := 38) rfl rfl rfl rfl rfl rfl rfl (by kernel_rfl) ?_
        refine RegD.skip (i := 39) rfl rfl rfl rfl rfl rfl rfl (by kernel_rfl) ?_
        refine RegD.skip (i := 40) rfl rfl rfl rfl rfl rfl rfl (by kernel_rfl) ?_
        refine RegD.skip (i := 41) rfl rfl rfl rfl rfl rfl rfl (by kernel_rfl) ?_
        refine RegD.skip (i := 42) rfl rfl rfl rfl rfl rfl rfl (by kernel_rfl) ?_
        refine RegD.skip (i := 43) rfl rfl rfl rfl rfl rfl rfl (by kernel_rfl) ?_
        refine RegD.skip (i := 44) rfl rfl rfl rfl rfl rfl rfl (by kernel_rfl) ?_
        refine RegD.skip (i := 45) rfl rfl rfl rfl rfl rfl rfl (by kernel_rfl) ?_
        refine RegD.skip (i := 46) rfl rfl rfl rfl rfl rfl rfl (by kernel_rfl) ?_
        refine RegD.skip (i := 47) rfl rfl rfl rfl rfl rfl rfl (by kernel_rfl) ?_
        refine RegD.skip (i := 48) rfl rfl rfl rfl rfl rfl rfl (by kernel_rfl) ?_
        refine RegD.skip (i := 49) rfl rfl rfl rfl rfl rfl rfl (by kernel_rfl) ?_
        refine RegD.tpur (i := 50) rfl rfl rfl rfl (by kernel_rfl) (Pur.pickT rfl rfl) ?_
        refine RegD.done (by kernel_rfl) ?_
        refine At.condT rfl rfl rfl ?_
        refine At.region rfl rfl ?_
        refine Reg.pur rfl rfl rfl rfl (Pur.asg rfl) ?_
        refine Reg.nil ?_
        refine At.ret rfl Try.func27 rfl ?_
        refine ⟨congrArg Value.bool (decide_eq_false (hne ?_)).symm, hE⟩
        intro e
        simp only [pl, Prod.mk.injEq] at e
        obtain ⟨e1, e2, e3, e4⟩ := e
        first | exact q28 e1 | (rw [e2] at q41; simp at q41; done) | (rw [hq, e4] at q54; simp at q54; done) | exact q67 e3
      · first | (simp only [decide_eq_true_eq, decide_eq_false_iff_not, Bool.not_eq_true', Bool.not_eq_false', ne_eq, Decidable.not_not, Bool.not_eq_true, Bool.not_eq_false] at q28) | (dsimp only at q28) | skip
        refine RegD.gtpur (i := 12) rfl rfl rfl rfl rfl rfl (by kernel_rfl) (Pur.mv rfl) ?_
        refine RegD.gtpur (i := 13) rfl rfl rfl rfl rfl rfl (by kernel_rfl) (Pur.mv rfl) ?_
        refine RegD.gtpur (i := 14) rfl rfl rfl rfl rfl rfl (by kernel_rfl) (Pur.idx _ es22 rfl rfl (by omega) (by omega)) ?_
        refine RegD.gtpur (i := 15) rfl rfl rfl rfl rfl rfl (by kernel_rfl) (Pur.fld _ fo49_1 rfl) ?_
        refine RegD.gtake (i := 16) rfl rfl rfl rfl rfl rfl (by kernel_rfl) (Bks.cons hB0.blk (Bks.cons hB0'.blk Bks.nil)) (fun H hS => Lod.ld sc4 rfl hS.hd (at_tk (j := 1) hd (by decide) rfl)) ?_
        refine RegD.gtpur (i := 17) rfl rfl rfl rfl rfl rfl (by kernel_rfl) (Pur.mv rfl) ?_
        refine RegD.gtpur (i := 18) rfl rfl rfl rfl rfl rfl (by kernel_rfl) (Pur.mv rfl) ?_
        refine RegD.gtpur (i := 19) rfl rfl rfl rfl rfl rfl (by kernel_rfl) (Pur.idx _ es22 rfl rfl (by omega) (by omega)) ?_
        refine RegD.gtpur (i := 20) rfl rfl rfl rfl rfl rfl (by kernel_rfl) (Pur.fld _ fo49_1 rfl) ?_
        refine RegD.gtake (i := 21) rfl rfl rfl rfl rfl rfl (by kernel_rfl) (Bks.cons hB0.blk (Bks.cons hB0'.blk Bks.nil)) (fun H hS => Lod.ld sc4 rfl hS.tl.hd (at_tk (j := 1) hd' (by decide) rfl)) ?_
        refine RegD.gtpur (i := 22) rfl rfl rfl rfl rfl rfl (by kernel_rfl) (Pur.neB Try.underlying4 rfl rfl) ?_
        refine RegD.tpur (i := 23) rfl rfl rfl rfl (by kernel_rfl) (Pur.pickF rfl rfl) ?_
        refine RegD.tpur (i := 24) rfl rfl rfl rfl (by kernel_rfl) (Pur.mv rfl) ?_
        refine RegD.case 41 rfl (fun q41 => ?_) (fun q41 => ?_)
        · first | (simp only [decide_eq_true_eq, decide_eq_false_iff_not, Bool.not_eq_true', Bool.not_eq_false', ne_eq, Decidable.not_not, Bool.not_eq_true, Bool.not_eq_false] at q41) | (dsimp only at q41) | skip
          refine RegD.skip (i := 25) rfl rfl rfl rfl rfl rfl rfl (by kernel_rfl) ?_
          refine RegD.skip (i := 26) rfl rfl rfl rfl rfl rfl rfl (by kernel_rfl) ?_
          refine RegD.skip (i := 27) rfl rfl rfl rfl rfl rfl rfl (by kernel_rfl) ?_
          refine RegD.skip (i := 28) rfl rfl rfl rfl rfl rfl rfl (by kernel_rfl) ?_
          refine RegD.skip (i := 29) rfl rfl rfl rfl rfl rfl rfl (by kernel_rfl) ?_
          refine RegD.skip (i := 30) rfl rfl rfl rfl rfl rfl rfl (by kernel_rfl) ?_
          refine RegD.skip (i := 31) rfl rfl rfl rfl rfl rfl rfl (by kernel_rfl) ?_
          refine RegD.skip (i := 32) rfl rfl rfl rfl rfl rfl rfl (by kernel_rfl) ?_
          refine RegD.skip (i := 33) rfl rfl rfl rfl rfl rfl rfl (by kernel_rfl) ?_
          refine RegD.skip (i := 34) rfl rfl rfl rfl rfl rfl rfl (by kernel_rfl) ?_
          refine RegD.skip (i := 35) rfl rfl rfl rfl rfl rfl rfl (by kernel_rfl) ?_
          refine RegD.tpur (i := 36) rfl rfl rfl rfl (by kernel_rfl) (Pur.pickT rfl rfl) ?_
          refine RegD.tpur (i := 37) rfl rfl rfl rfl (by kernel_rfl) (Pur.mv rfl) ?_
          refine RegD.skip (i := 38) rfl rfl rfl rfl rfl rfl rfl (by kernel_rfl) ?_
          refine RegD.skip (i := 39) rfl rfl rfl rfl rfl rfl rfl (by kernel_rfl) ?_
          refine RegD.skip (i := 40) rfl rfl rfl rfl rfl rfl rfl (by kernel_rfl) ?_
          refine RegD.skip (i := 41) rfl rfl rfl rfl rfl rfl rfl (by kernel_rfl) ?_
          refine RegD.skip (i := 42) rfl rfl rfl rfl rfl rfl rfl (by kernel_rfl) ?_
          refine RegD.skip (i := 43) rfl rfl rfl rfl rfl rfl rfl (by kernel_rfl) ?_
          refine RegD.skip (i := 44) rfl rfl rfl rfl rfl rfl rfl (by kernel_rfl) ?_
          refine RegD.skip (i := 45) rfl rfl rfl rfl rfl rfl rfl (by kernel_rfl) ?_
          refine RegD.skip (i := 46) rfl rfl rfl rfl rfl rfl rfl (by kernel_rfl) ?_
          refine RegD.skip (i := 47) rfl rfl rfl rfl rfl rfl rfl (by kernel_rfl) ?_
          refine RegD.skip (i := 48) rfl rfl rfl rfl rfl rfl rfl (by kernel_rfl) ?_
          refine RegD.skip (i := 49) rfl rfl rfl rfl rfl rfl rfl (by kernel_rfl) ?_
          refine RegD.tpur (i := 50) rfl rfl rfl rfl (by kernel_rfl) (Pur.pickT rfl rfl) ?_
          refine RegD.done (by kernel_rfl) ?_
          refine At.condT rfl rfl rfl ?_
          refine At.region rfl rfl ?_
          refine Reg.pur rfl rfl rfl rfl (Pur.asg rfl) ?_
          refine Reg.nil ?_
          refine At.ret rfl Try.func27 rfl ?_
          refine ⟨congrArg Value.bool (decide_eq_false (hne ?_)).symm, hE⟩
          intro e
          simp only [pl, Prod.mk.injEq] at e
          obtain ⟨e1, e2, e3, e4⟩ := e
          first | exact q28 e1 | (rw [e2] at q41; simp at q41; done) | (rw [hq, e4] at q54; simp at q54; done) | exact q67 e3
        · first | (simp only [decide_eq_true_eq, decide_eq_false_iff_not, Bool.not_eq_true', Bool.not_eq_false', ne_eq, Decidable.not_not, Bool.not_eq_true, Bool.not_eq_false] at q41) | (dsimp only at q41) | skip
          refine RegD.gtpur (i := 25) rfl rfl rfl rfl rfl rfl (by kernel_rfl) (Pur.mv rfl) ?_
          refine RegD.gtpur (i := 26) rfl rfl rfl rfl rfl rfl (by kernel_rfl) (Pur.mv rfl) ?_
          refine RegD.gtpur (i := 27) rfl rfl rfl rfl rfl rfl (by kernel_rfl) (Pur.idx _ es22 rfl rfl (by omega) (by omega)) ?_
          refine RegD.gtpur (i := 28) rfl rfl rfl rfl rfl rfl (by kernel_rfl) (Pur.fld _ fo49_3 rfl) ?_
          refine RegD.gtake (i := 29) rfl rfl rfl rfl rfl rfl (by kernel_rfl) (Bks.cons hB0.blk (Bks.cons hB0'.blk Bks.nil)) (fun H hS => Lod.ldn ag28 rfl hS.hd (show _ = Is bd.row by rw [← List.drop_drop]; exact (take_mid hd (by decide)).trans (List.take_of_length_le (by simp [hr]))) (by simp [hr])) ?_
          refine RegD.gtpur (i := 30) rfl rfl rfl rfl rfl rfl (by kernel_rfl) (Pur.mv rfl) ?_
          refine RegD.gtpur (i := 31) rfl rfl rfl rfl rfl rfl (by kernel_rfl) (Pur.mv rfl) ?_
          refine RegD.gtpur (i := 32) rfl rfl rfl rfl rfl rfl (by kernel_rfl) (Pur.idx _ es22 rfl rfl (by omega) (by omega)) ?_
          refine RegD.gtpur (i := 33) rfl rfl rfl rfl rfl rfl (by kernel_rfl) (Pur.fld _ fo49_3 rfl) ?_
          refine RegD.gtake (i := 34) rfl rfl rfl rfl rfl rfl (by kernel_rfl) (Bks.cons hB0.blk (Bks.cons hB0'.blk Bks.nil)) (fun H hS => Lod.ldn ag28 rfl hS.tl.hd (show _ = Is bd'.row by rw [← List.drop_drop]; exact (take_mid hd' (by decide)).trans (List.take_of_length_le (by simp [hr']))) (by simp [hr'])) ?_
          refine RegD.gtpur (i := 35) rfl rfl rfl rfl rfl rfl (by kernel_rfl) (Pur.neA eqt28 rfl rfl hf hf') ?_
          refine RegD.tpur (i := 36) rfl rfl rfl rfl (by kernel_rfl) (Pur.pickF rfl rfl) ?_
          refine RegD.tpur (i := 37) rfl rfl rfl rfl (by kernel_rfl) (Pur.mv rfl) ?_
          refine RegD.case 54 rfl (fun q54 => ?_) (fun q54 => ?_)
          · first | (simp only [decide_eq_true_eq, decide_eq_false_iff_not, Bool.not_eq_true', Bool.not_eq_false', ne_eq, Decidable.not_not, Bool.not_eq_true, Bool.not_eq_false] at q54) | (dsimp only at q54) | skip
            refine RegD.skip (i := 38) rfl rfl rfl rfl rfl rfl rfl (by kernel_rfl) ?_
            refine RegD.skip (i := 39) rfl rfl rfl rfl rfl rfl rfl (by kernel_rfl) ?_
            refine RegD.skip (i := 40) rfl rfl rfl rfl rfl rfl rfl (by kernel_rfl) ?_
            refine RegD.skip (i := 41) rfl rfl rfl rfl rfl rfl rfl (by kernel_rfl) ?_
            refine RegD.skip (i := 42) rfl rfl rfl rfl rfl rfl rfl (by kernel_rfl) ?_
            refine RegD.skip (i := 43) rfl rfl rfl rfl rfl rfl rfl (by kernel_rfl) ?_
            refine RegD.skip (i := 44) rfl rfl rfl rfl rfl rfl rfl (by kernel_rfl) ?_
            refine RegD.skip (i := 45) rfl rfl rfl rfl rfl rfl rfl (by kernel_rfl) ?_
            refine RegD.skip (i := 46) rfl rfl rfl rfl rfl rfl rfl (by kernel_rfl) ?_
            refine RegD.skip (i := 47) rfl rfl rfl rfl rfl rfl rfl (by kernel_rfl) ?_
            refine RegD.skip (i := 48) rfl rfl rfl rfl rfl rfl rfl (by kernel_rfl) ?_
            refine RegD.skip (i := 49) rfl rfl rfl rfl rfl rfl rfl (by kernel_rfl) ?_
            refine RegD.tpur (i := 50) rfl rfl rfl rfl (by kernel_rfl) (Pur.pickT rfl rfl) ?_
            refine RegD.done (by kernel_rfl) ?_
            refine At.condT rfl rfl rfl ?_
            refine At.region rfl rfl ?_
            refine Reg.pur rfl rfl rfl rfl (Pur.asg rfl) ?_
            refine Reg.nil ?_
            refine At.ret rfl Try.func27 rfl ?_
            refine ⟨congrArg Value.bool (decide_eq_false (hne ?_)).symm, hE⟩
            intro e
            simp only [pl, Prod.mk.injEq] at e
            obtain ⟨e1, e2, e3, e4⟩ := e
            first | exact q28 e1 | (rw [e2] at q41; simp at q41; done) | (rw [hq, e4] at q54; simp at q54; done) | exact q67 e3
          · first | (simp only [decide_eq_true_eq, decide_eq_false_iff_not, Bool.not_eq_true', Bool.not_eq_false', ne_eq, Decidable.not_not, Bool.not_eq_true, Bool.not_eq_false] at q54) | (dsimp only at q54) | skip
            refine RegD.gtpur (i := 38) rfl rfl rfl rfl rfl rfl (by kernel_rfl) (Pur.mv rfl) ?_
            refine RegD.gtpur (i := 39) rfl rfl rfl rfl rfl rfl (by kernel_rfl) (Pur.mv rfl) ?_
            refine RegD.gtpur (i := 40) rfl rfl rfl rfl rfl rfl (by kernel_rfl) (Pur.idx _ es22 rfl rfl (by omega) (by omega)) ?_
            refine RegD.gtpur (i := 41) rfl rfl rfl rfl rfl rfl (by kernel_rfl) (Pur.fld _ fo49_2 rfl) ?_
            refine RegD.gtake (i := 42) rfl rfl rfl rfl rfl rfl (by kernel_rfl) (Bks.cons hB0.blk (Bks.cons hB0'.blk Bks.nil)) (fun H hS => Lod.ldn ag25 rfl hS.hd (show _ = [bd.sl] by rw [← List.drop_drop]; exact (take_mid hd (by decide)).trans rfl) rfl) ?_
            refine RegD.gtpur (i := 43) rfl rfl rfl rfl rfl rfl (by kernel_rfl) (Pur.mv rfl) ?_
            refine RegD.gtpur (i := 44) rfl rfl rfl rfl rfl rfl (by kernel_rfl) (Pur.mv rfl) ?_
            refine RegD.gtpur (i := 45) rfl rfl rfl rfl rfl rfl (by kernel_rfl) (Pur.idx _ es22 rfl rfl (by omega) (by omega)) ?_
            refine RegD.gtpur (i := 46) rfl rfl rfl rfl rfl rfl (by kernel_rfl) (Pur.fld _ fo49_2 rfl) ?_
            refine RegD.gtake (i := 47) rfl rfl rfl rfl rfl rfl (by kernel_rfl) (Bks.cons hB0.blk (Bks.cons hB0'.blk Bks.nil)) (fun H hS => Lod.ldn ag25 rfl hS.tl.hd (show _ = [bd'.sl] by rw [← List.drop_drop]; exact (take_mid hd' (by decide)).trans rfl) rfl) ?_
            refine RegD.gone (i := 48) (by kernel_rfl) rfl rfl rfl rfl rfl rfl (Does.call rfl (sameType_ok hok.nine hok'.nine (hok.sl.ext hE) (hok'.sl.ext hE) hok.max)) ?_
            rintro _ H6_48 ⟨rfl, hE6_48⟩
            have z6_48 := hE6_48.lt
            replace hE := hE.ext hE6_48
            replace hB0 := hB0.ext hE6_48
            replace hB0' := hB0'.ext hE6_48
            refine ⟨fun _ _ => (Bks.cons hB0.blk (Bks.cons hB0'.blk Bks.nil)), ?_⟩
            refine RegD.gtpur (i := 49) rfl rfl rfl rfl rfl rfl (by kernel_rfl) (Pur.not rfl) ?_
            refine RegD.tpur (i := 50) rfl rfl rfl rfl (by kernel_rfl) (Pur.pickF rfl rfl) ?_
            refine RegD.done (by kernel_rfl) ?_
            refine At.cond rfl rfl (fun q67 => ?_) (fun q67 => ?_)
            · first | (simp only [decide_eq_true_eq, decide_eq_false_iff_not, Bool.not_eq_true', Bool.not_eq_false', ne_eq, Decidable.not_not, Bool.not_eq_true, Bool.not_eq_false] at q67) | (dsimp only at q67) | skip
              refine At.region rfl rfl ?_
              refine Reg.pur rfl rfl rfl rfl (Pur.asg rfl) ?_
              refine Reg.nil ?_
              refine At.ret rfl Try.func27 rfl ?_
              refine ⟨congrArg Value.bool (decide_eq_false (hne ?_)).symm, hE⟩
              intro e
              simp only [pl, Prod.mk.injEq] at e
              obtain ⟨e1, e2, e3, e4⟩ := e
              first | exact q28 e1 | (rw [e2] at q41; simp at q41; done) | (rw [hq, e4] at q54; simp at q54; done) | exact q67 e3
            · first | (simp only [decide_eq_true_eq, decide_eq_false_iff_not, Bool.not_eq_true', Bool.not_eq_false', ne_eq, Decidable.not_not, Bool.not_eq_true, Bool.not_eq_false] at q67) | (dsimp only at q67) | skip
              refine At.region rfl rfl ?_
              refine Reg.pur rfl rfl rfl rfl (Pur.mv rfl) ?_
              first | refine Reg.pur rfl rfl rfl rfl (Pur.add64 rfl rfl (by omega)) ?_ | refine Reg.pur rfl rfl rfl rfl (Pur.add64 rfl rfl (by assumption)) ?_ | refine Reg.pur rfl rfl rfl rfl (Pur.add rfl rfl) ?_
              refine Reg.pur rfl rfl rfl rfl (Pur.asg rfl) ?_
              refine Reg.nil ?_
              rw [hq] at q54
              refine At.via (ih (i + 1) _ ⟨by omega, hgo ?_, hE⟩ (by omega)) ⟨rfl, rfl, rfl, trivial⟩
              simp only [pl, Prod.mk.injEq]
              exact ⟨q28, by simpa using q41, q67, by simpa using q54⟩
    · first | (simp only [decide_eq_true_eq, decide_eq_false_iff_not, Bool.not_eq_true', Bool.not_eq_false', ne_eq, Decidable.not_not, Bool.not_eq_true, Bool.not_eq_false] at q14) | (dsimp only at q14) | skip
      refine At.region rfl rfl ?_
      refine Reg.pur rfl rfl rfl rfl (Pur.asg rfl) ?_
      refine Reg.nil ?_
      refine At.ret rfl Try.func27 rfl ?_
      rw [List.take_of_length_le (by omega), List.take_of_length_le (by omega)] at hmap
      exact ⟨congrArg Value.bool (decide_eq_true hmap).symm, hE⟩
end Go.Proofs.Ytlfillhffpiffaa

/-
  What substitution makes hangs on the plain binds alone; chapter 9's awake.
-/
namespace Go.Proofs.Ytlfillhffpiffaa
set_option linter.unusedSimpArgs false
set_option linter.unusedVariables false
set_option maxRecDepth 8000
open Go Go.Fx Go.Proofs
namespace FactsSubO

end FactsSubO
open FactsSubO

theorem find_pl {r : Bool} {v : Int} : ∀ {Bs Cs : List Bd}, Bs.map pl = Cs.map pl → (Bs.find? (mt r v)).map pl = (Cs.find? (mt r v)).map pl
  | [], [], _ => rfl
  | [], _ :: _, h => by cases h
  | _ :: _, [], h => by cases h
  | b :: Bs, c :: Cs, h => by
    simp only [List.map_cons, List.cons.injEq] at h
    have hm : mt r v b = mt r v c := by
      have := h.1
      simp only [pl, Prod.mk.injEq] at this
      simp only [mt, this.1, this.2.1]
    rw [List.find?_cons, List.find?_cons, hm]
    split
    · simp [h.1]
    · exact find_pl h.2
theorem bindM_pl {b c : Bd} (h : pl b = pl c) : bindM b = bindM c := by
  simp only [pl, Prod.mk.injEq] at h
  unfold bindM
  rw [h.1, h.2.1, h.2.2.1, h.2.2.2]
theorem all_pl : ∀ {Bs Cs : List Bd}, Bs.map pl = Cs.map pl → Bs.all bindM = Cs.all bindM
  | [], [], _ => rfl
  | [], _ :: _, h => by cases h
  | _ :: _, [], h => by cases h
  | b :: Bs, c :: Cs, h => by
    simp only [List.map_cons, List.cons.injEq] at h
    rw [List.all_cons, List.all_cons, bindM_pl h.1, all_pl h.2]
theorem bindsM_pl {Bs Cs : List Bd} (h : Bs.map pl = Cs.map pl) : bindsM Bs = bindsM Cs := by
  unfold bindsM
  have := congrArg List.length h
  simp only [List.length_map] at this
  rw [all_pl h, this]
theorem rowS_pl {Bs Cs : List Bd} (h : Bs.map pl = Cs.map pl) (r : List Int) : rowS Bs r = rowS Cs r := by
  have hf := find_pl (r := true) (v := r.getD 4 0) h
  unfold rowS
  cases hb : Bs.find? (mt true (r.getD 4 0)) with
  | none =>
    cases hc : Cs.find? (mt true (r.getD 4 0)) with
    | none => rfl
    | some c => rw [hb, hc] at hf; cases hf
  | some b =>
    cases hc : Cs.find? (mt true (r.getD 4 0)) with
    | none => rw [hb, hc] at hf; cases hf
    | some c =>
      rw [hb, hc] at hf
      simp only [Option.map_some, Option.some.injEq, pl, Prod.mk.injEq] at hf
      simp only [hf.2.2.2]
theorem moreS_pl {Bs Cs : List Bd} (h : Bs.map pl = Cs.map pl) (out : List (List Int)) (ends : List Int) (x : List Int) : moreS Bs out ends x = moreS Cs out ends x := by
  have hf := find_pl (r := false) (v := x.getD 1 0) h
  unfold moreS
  rw [rowS_pl h]
  cases hb : Bs.find? (mt false (x.getD 1 0)) with
  | none =>
    cases hc : Cs.find? (mt false (x.getD 1 0)) with
    | none => rfl
    | some c => rw [hb, hc] at hf; cases hf
  | some b =>
    cases hc : Cs.find? (mt false (x.getD 1 0)) with
    | none => rw [hb, hc] at hf; cases hf
    | some c =>
      rw [hb, hc] at hf
      simp only [Option.map_some, Option.some.injEq, pl, Prod.mk.injEq] at hf
      simp only [hf.2.2.1]
theorem goS_pl {Bs Cs : List Bd} (h : Bs.map pl = Cs.map pl) : ∀ (L out : List (List Int)) (ends : List Int), goS Bs L out ends = goS Cs L out ends
  | [], _, _ => rfl
  | x :: L, out, ends => by
    rw [goS, goS, moreS_pl h]
    split
    · rfl
    · split
      · rfl
      · exact goS_pl h L _ _
theorem subT_pl {Bs Cs : List Bd} (h : Bs.map pl = Cs.map pl) (L : List (List Int)) : subT Bs L = subT Cs L := by
  unfold subT typS; rw [bindsM_pl h, goS_pl h]
theorem subR_pl {Bs Cs : List Bd} (h : Bs.map pl = Cs.map pl) (r : List Int) : subR Bs r = subR Cs r := by
  unfold subR; rw [bindsM_pl h, rowS_pl h]

theorem numE_ok (n : Int) (H : Heap) : Ret Try.prog 25 [I n] H (fun v H' => v = I n ∧ H' = H) := by
  refine Ret.of_at (N := 4) Try.call25 Try.func25 rfl rfl rfl ?_
  refine At.region rfl rfl ?_
  refine Reg.pur rfl rfl rfl rfl (Pur.asg rfl) ?_
  refine Reg.nil ?_
  refine At.region rfl rfl ?_
  refine Reg.pur rfl rfl rfl rfl (Pur.mv rfl) ?_
  refine Reg.pur rfl rfl rfl rfl (Pur.asg rfl) ?_
  refine Reg.nil ?_
  refine At.ret rfl Try.func25 rfl ?_
  exact ⟨rfl, rfl⟩
end Go.Proofs.Ytlfillhffpiffaa

/-
  Chapter 9's awake.
-/
namespace Go.Proofs.Ytlfillhffpiffaa
set_option linter.unusedSimpArgs false
set_option linter.unusedVariables false
set_option maxRecDepth 8000
open Go Go.Fx Go.Proofs
namespace FactsSubP
theorem ag25 : ag Try.prog 25 = some 1 := by kernel_rfl
theorem ag28 : ag Try.prog 28 = some 5 := by kernel_rfl
theorem arr26 : arr Try.prog 26 = some (4, 1) := by kernel_rfl
theorem eqt28 : eqT Try.prog 28 = some [.int .i64, .int .i64, .int .i64, .int .i64, .int .i64] := by kernel_rfl
theorem es23 : esz Try.prog 23 = some 9 := by kernel_rfl
theorem fo25_0 : foff Try.prog 25 0 = some 0 := by kernel_rfl
theorem fo28_0 : foff Try.prog 28 0 = some 0 := by kernel_rfl
theorem fo28_1 : foff Try.prog 28 1 = some 4 := by kernel_rfl
theorem fo47_2 : foff Try.prog 47 2 = some 2 := by kernel_rfl
theorem fo47_4 : foff Try.prog 47 4 = some 4 := by kernel_rfl
theorem isl23 : isSl Try.prog 23 = true := by kernel_rfl
theorem mixed : Try.prog.follows .mixedOrders = true := by kernel_rfl
theorem pl25 : places Try.prog 25 = some [(0, 1)] := by kernel_rfl
theorem pl28 : places Try.prog 28 = some [(0, 4), (4, 1)] := by kernel_rfl
theorem pl47 : places Try.prog 47 = some [(0, 1), (1, 1), (2, 1), (3, 1), (4, 5)] := by kernel_rfl
theorem pl49 : places Try.prog 49 = some [(0, 1), (1, 1), (2, 1), (3, 5)] := by kernel_rfl
theorem sc23 : sc Try.prog 23 = true := by kernel_rfl
theorem sc3 : sc Try.prog 3 = true := by kernel_rfl
theorem slA22 : slA Try.prog 22 = some (49, 8) := by kernel_rfl
theorem slA23 : slA Try.prog 23 = some (47, 9) := by kernel_rfl
theorem zc25 : zc Try.prog 25 = some [.slice none 0 0] := by kernel_rfl
theorem zc28 : zc Try.prog 28 = some [.int .i64 0, .int .i64 0, .int .i64 0, .int .i64 0, .int .i64 0] := by kernel_rfl
theorem zc47 : zc Try.prog 47 = some [.int .i64 0, .int .i64 0, .int .i64 0, .int .i64 0, .int .i64 0, .int .i64 0, .int .i64 0, .int .i64 0, .int .i64 0] := by kernel_rfl
theorem zc49 : zc Try.prog 49 = some [.int .i64 0, .bool false, .slice none 0 0, .int .i64 0, .int .i64 0, .int .i64 0, .int .i64 0, .int .i64 0] := by kernel_rfl
end FactsSubP
open FactsSubP

abbrev awV : List (List Int) := [[2, 2, 0, 0, 0, 0, 0, 0, 0]]
abbrev awF : List (List Int) := [[2, 2, 0, 0, 0, 0, 0, 0, 0], [1, 0, 0, 0, 0, 0, 0, 0, 0], [3, 0, 0, 1, 0, 0, 0, 0, 3]]
abbrev awR : List Int := [0, 1, 0, 0, -1]
abbrev awB (A : Option Addr) : List Bd := [⟨2, false, A, 3, awF, noRow⟩, ⟨3, true, none, 0, [], awR⟩]
abbrev awM : List (List Int) := [[2, 2, 0, 0, 0, 0, 0, 0, 0], [1, 0, 0, 0, 0, 0, 0, 0, 0], [3, 0, 0, 1, 0, 0, 0, 0, 3], [1, 0, 0, 0, 0, 0, 0, 0, 0], [3, 0, 2, 3, 0, 1, 0, 0, -1]]
theorem nine_lit {L : List (List Int)} (h : (L.all fun x => x.length == 9) = true) : Nine L := by
  intro x hx
  have := List.all_eq_true.1 h x hx
  simpa using this
theorem awT (A : Option Addr) : subT (awB A) awF = some awM := by kernel_rfl
theorem awT2 (A : Option Addr) : subT (awB A) [] = none := by kernel_rfl
theorem awRr (A : Option Addr) : subR (awB A) [0, 0, 0, 0, 3] = (awR, true) := by kernel_rfl
theorem awT3 (A : Option Addr) : subT [⟨2, false, A, 1, awV, awR⟩] awV = none := by kernel_rfl
theorem ok_lit {H : Heap} {v : Int} {r : Bool} {row : List Int} {A : Option Addr} {cap : Nat} {nodes : List (List Int)} (hs : SlT H Is 9 (.slice A nodes.length cap) nodes) (h9 : Nine nodes) (hr : row.length = 5) (hl : nodes.length ≤ 256) : Bd.Ok H ⟨v, r, A, cap, nodes, row⟩ :=
  ⟨hs, h9, hr, by dsimp only; omega⟩
theorem ok_nil {H : Heap} {v : Int} {r : Bool} {row : List Int} (h : row.length = 5) : Bd.Ok H ⟨v, r, none, 0, [], row⟩ := ok_lit (sl_nil _) (nine_lit rfl) h (by decide)
theorem all_one {α : Type} {P : α → Prop} {a : α} (ha : P a) : ∀ x ∈ [a], P x := by intro x hx; simp at hx; subst hx; exact ha
theorem all_two {α : Type} {P : α → Prop} {a b : α} (ha : P a) (hb : P b) : ∀ x ∈ [a, b], P x := by
  intro x hx; simp at hx; rcases hx with rfl | rfl
  · exact ha
  · exact hb
theorem bds_new {H H' : Heap} {L : List Bd} (h : New H H' (L.flatMap encB)) (hok : ∀ b ∈ L, b.Ok H') (hl : L.length ≤ 4096) : Bds H' (.slice (some ⟨H.size, 0, none⟩) L.length L.length) L :=
  ⟨sl_new (fun x hx => (hok x hx).len) (by decide) h (by omega), hok, by omega⟩

theorem awake9_ok (H : Heap) : Ret Try.prog 28 [] H (fun v H' => v = .bool true ∧ Ext H H') := by
  refine Ret.of_at (N := 112) Try.call28 Try.func28 rfl rfl rfl ?_
  have hE := Ext.refl H
  refine At.region rfl rfl ?_
  refine Reg.pur rfl rfl rfl rfl (Pur.asg rfl) ?_
  refine Reg.nil ?_
  refine At.region rfl rfl ?_
  refine Reg.pur rfl rfl rfl rfl (Pur.bld (cs := [_, _, _, _, _, _, _, _, _]) pl47 zc47 rfl rfl ⟨rfl, rfl, rfl, rfl, rfl, rfl, rfl, rfl, rfl, rfl⟩) ?_
  refine Reg.op rfl rfl rfl rfl (Does.bslA ([[_, _, _, _, _, _, _, _, _]]) slA23 rfl rfl rfl rfl rfl rfl) ?_
  rintro _ H1_1 ⟨rfl, hp1_1⟩
  have hn1_1 := New.of_eq hp1_1
  have z1_1 := hn1_1.size
  replace hE := hE.ext hn1_1.ext
  have o1_1 := hn1_1.own
  have hS1 : SlT H1_1 Is 9 (.slice (some ⟨H.size, 0, none⟩) 1 1) awV := sl_new (L := awV) (wide9 (nine_lit rfl)) (by decide) hn1_1 (by decide)
  have hE1 := Ext.refl H1_1
  have z_hE1 := hE1.lt
  refine Reg.pur rfl rfl rfl rfl (Pur.bld (cs := [_]) pl25 zc25 rfl rfl ⟨rfl, rfl⟩) ?_
  refine Reg.op rfl rfl rfl rfl (Does.alloc zc25) ?_
  rintro _ H1_3 ⟨rfl, hn1_3⟩
  have z1_3 := hn1_3.size
  replace hE := hE.ext hn1_3.ext
  replace o1_1 := o1_1.ext hn1_3.ext
  replace hE1 := hE1.ext hn1_3.ext
  have o1_3 := hn1_3.own
  refine Reg.op0 rfl rfl rfl (Does.stn ag25 rfl rfl (by first | rfl | exact ones_Is _) (by first | rfl | (simp [*]; done)) o1_3 (by first | decide | (simp; done) | (simp; omega) | omega)) ?_
  rintro _ H1_4 hu1_4
  have z1_4 := hu1_4.size
  replace hE := hE.upw hu1_4 (by omega)
  replace o1_1 := o1_1.upw hu1_4 (by omega)
  replace hE1 := hE1.upw hu1_4 (by omega)
  replace o1_3 := hu1_4.own
  first | rw [over (by first | rfl | (simp; done))] at o1_3 | skip
  refine Reg.nil ?_
  refine At.region rfl rfl ?_
  refine Reg.pur rfl rfl rfl rfl (Pur.bld (cs := [_, _, _, _, _, _, _, _, _]) pl47 zc47 rfl rfl ⟨rfl, rfl, rfl, rfl, rfl, rfl, rfl, rfl, rfl, rfl⟩) ?_
  refine Reg.pur rfl rfl rfl rfl (Pur.bld (cs := [_, _, _, _, _, _, _, _, _]) pl47 zc47 rfl rfl ⟨rfl, rfl, rfl, rfl, rfl, rfl, rfl, rfl, rfl, rfl⟩) ?_
  refine Reg.pur rfl rfl rfl rfl (Pur.bld (cs := [_, _, _, _, _]) pl28 zc28 rfl rfl ⟨rfl, rfl, rfl, rfl, rfl, rfl⟩) ?_
  refine Reg.pur rfl rfl rfl rfl (Pur.bld (cs := [_, _, _, _, _, _, _, _, _]) pl47 zc47 rfl rfl ⟨rfl, rfl, rfl, rfl, rfl, rfl, rfl, rfl, rfl, rfl⟩) ?_
  refine Reg.op rfl rfl rfl rfl (Does.bslA ([[_, _, _, _, _, _, _, _, _], [_, _, _, _, _, _, _, _, _], [_, _, _, _, _, _, _, _, _]]) slA23 rfl rfl rfl rfl rfl rfl) ?_
  rintro _ H2_4 ⟨rfl, hp2_4⟩
  have hn2_4 := New.of_eq hp2_4
  have z2_4 := hn2_4.size
  replace hE := hE.ext hn2_4.ext
  replace o1_1 := o1_1.ext hn2_4.ext
  replace hE1 := hE1.ext hn2_4.ext
  replace o1_3 := o1_3.ext hn2_4.ext
  have o2_4 := hn2_4.own
  have hS2 : SlT H2_4 Is 9 (.slice (some ⟨H1_4.size, 0, none⟩) 3 3) awF := sl_new (L := awF) (wide9 (nine_lit rfl)) (by decide) hn2_4 (by decide)
  have hE2 := Ext.refl H2_4
  have z_hE2 := hE2.lt
  refine Reg.pur rfl rfl rfl rfl (Pur.bld (cs := [_]) pl25 zc25 rfl rfl ⟨rfl, rfl⟩) ?_
  refine Reg.op rfl rfl rfl rfl (Does.alloc zc25) ?_
  rintro _ H2_6 ⟨rfl, hn2_6⟩
  have z2_6 := hn2_6.size
  replace hE := hE.ext hn2_6.ext
  replace o1_1 := o1_1.ext hn2_6.ext
  replace hE1 := hE1.ext hn2_6.ext
  replace o1_3 := o1_3.ext hn2_6.ext
  replace o2_4 := o2_4.ext hn2_6.ext
  replace hE2 := hE2.ext hn2_6.ext
  have o2_6 := hn2_6.own
  refine Reg.op0 rfl rfl rfl (Does.stn ag25 rfl rfl (by first | rfl | exact ones_Is _) (by first | rfl | (simp [*]; done)) o2_6 (by first | decide | (simp; done) | (simp; omega) | omega)) ?_
  rintro _ H2_7 hu2_7
  have z2_7 := hu2_7.size
  replace hE := hE.upw hu2_7 (by omega)
  replace o1_1 := o1_1.upw hu2_7 (by omega)
  replace hE1 := hE1.upw hu2_7 (by omega)
  replace o1_3 := o1_3.upw hu2_7 (by omega)
  replace o2_4 := o2_4.upw hu2_7 (by omega)
  replace hE2 := hE2.upw hu2_7 (by omega)
  replace o2_6 := hu2_7.own
  first | rw [over (by first | rfl | (simp; done))] at o2_6 | skip
  refine Reg.nil ?_
  refine At.region rfl rfl ?_
  refine Reg.pur rfl rfl rfl rfl (Pur.bld (cs := [_, _, _, _, _]) pl28 zc28 rfl rfl ⟨rfl, rfl, rfl, rfl, rfl, rfl⟩) ?_
  refine Reg.op rfl rfl rfl rfl (Does.alloc zc28) ?_
  rintro _ H3_1 ⟨rfl, hn3_1⟩
  have z3_1 := hn3_1.size
  replace hE := hE.ext hn3_1.ext
  replace o1_1 := o1_1.ext hn3_1.ext
  replace hE1 := hE1.ext hn3_1.ext
  replace o1_3 := o1_3.ext hn3_1.ext
  replace o2_4 := o2_4.ext hn3_1.ext
  replace hE2 := hE2.ext hn3_1.ext
  replace o2_6 := o2_6.ext hn3_1.ext
  have o3_1 := hn3_1.own
  refine Reg.op0 rfl rfl rfl (Does.stn ag28 rfl rfl (by first | rfl | exact ones_Is _) (by first | rfl | (simp [*]; done)) o3_1 (by first | decide | (simp; done) | (simp; omega) | omega)) ?_
  rintro _ H3_2 hu3_2
  have z3_2 := hu3_2.size
  replace hE := hE.upw hu3_2 (by omega)
  replace o1_1 := o1_1.upw hu3_2 (by omega)
  replace hE1 := hE1.upw hu3_2 (by omega)
  replace o1_3 := o1_3.upw hu3_2 (by omega)
  replace o2_4 := o2_4.upw hu3_2 (by omega)
  replace hE2 := hE2.upw hu3_2 (by omega)
  replace o2_6 := o2_6.upw hu3_2 (by omega)
  replace o3_1 := hu3_2.own
  first | rw [over (by first | rfl | (simp; done))] at o3_1 | skip
  refine Reg.nil ?_
  refine At.region rfl rfl ?_
  refine Reg.pur rfl rfl rfl rfl (Pur.fld _ fo28_0 rfl) ?_
  refine Reg.pur rfl rfl rfl rfl (Pur.idxP arr26 rfl rfl (by omega) (by omega)) ?_
  refine Reg.op0 rfl rfl rfl (Does.st sc3 rfl rfl rfl o3_1 (by first | decide | (simp; done) | (simp; omega) | omega)) ?_
  rintro _ H4_2 hu4_2
  have z4_2 := hu4_2.size
  replace hE := hE.upw hu4_2 (by omega)
  replace o1_1 := o1_1.upw hu4_2 (by omega)
  replace hE1 := hE1.upw hu4_2 (by omega)
  replace o1_3 := o1_3.upw hu4_2 (by omega)
  replace o2_4 := o2_4.upw hu4_2 (by omega)
  replace hE2 := hE2.upw hu4_2 (by omega)
  replace o2_6 := o2_6.upw hu4_2 (by omega)
  replace o3_1 := hu4_2.own
  refine Reg.nil ?_
  refine At.region rfl rfl ?_
  refine Reg.lod rfl rfl rfl rfl (Lod.ldn ag25 rfl o2_6.blk (by first | exact whole rfl | rfl | (simp only [List.drop_succ_cons, List.drop_zero, List.take_succ_cons, List.take_zero]; rfl)) (by first | rfl | (simp [*]; done))) ?_
  refine Reg.pur rfl rfl rfl rfl (Pur.bld (cs := [_, _, _, _, _, _, _, _]) pl49 zc49 rfl rfl ⟨rfl, rfl, rfl, rfl, rfl, rfl, rfl, rfl, rfl⟩) ?_
  refine Reg.lod rfl rfl rfl rfl (Lod.ldn ag28 rfl o3_1.blk (by first | exact whole rfl | rfl | (simp only [List.drop_succ_cons, List.drop_zero, List.take_succ_cons, List.take_zero]; rfl)) (by first | rfl | (simp [*]; done))) ?_
  refine Reg.pur rfl rfl rfl rfl (Pur.bld (cs := [_, _, _, _, _, _, _, _]) pl49 zc49 rfl rfl ⟨rfl, rfl, rfl, rfl, rfl, rfl, rfl, rfl, rfl⟩) ?_
  refine Reg.op rfl rfl rfl rfl (Does.bslA ([[_, _, _, _, _, _, _, _], [_, _, _, _, _, _, _, _]]) slA22 rfl rfl rfl rfl rfl rfl) ?_
  rintro _ H5_4 ⟨rfl, hp5_4⟩
  have hn5_4 := New.of_eq hp5_4
  have z5_4 := hn5_4.size
  replace hE := hE.ext hn5_4.ext
  replace o1_1 := o1_1.ext hn5_4.ext
  replace hE1 := hE1.ext hn5_4.ext
  replace o1_3 := o1_3.ext hn5_4.ext
  replace o2_4 := o2_4.ext hn5_4.ext
  replace hE2 := hE2.ext hn5_4.ext
  replace o2_6 := o2_6.ext hn5_4.ext
  replace o3_1 := o3_1.ext hn5_4.ext
  have o5_4 := hn5_4.own
  have hE3 := Ext.refl H5_4
  have hB5 := bds_new (L := awB (some ⟨H1_4.size, 0, none⟩)) hn5_4 (all_two (ok_lit (hS2.ext hE2) (nine_lit rfl) rfl (by decide)) (ok_nil rfl)) (Nat.le_of_ble_eq_true rfl)
  have z_hE3 := hE3.lt
  refine Reg.pur rfl rfl rfl rfl (Pur.asg rfl) ?_
  refine Reg.nil ?_
  refine At.region rfl rfl ?_
  refine Reg.pur rfl rfl rfl rfl (Pur.mv rfl) ?_
  refine Reg.lod rfl rfl rfl rfl (Lod.ldn ag25 rfl o2_6.blk (by first | exact whole rfl | rfl | (simp only [List.drop_succ_cons, List.drop_zero, List.take_succ_cons, List.take_zero]; rfl)) (by first | rfl | (simp [*]; done))) ?_
  refine Reg.op rfl rfl rfl rfl (Does.call rfl (type_ok (L := awF) (hB5.ext hE3) (hS2.ext hE2) (nine_lit rfl) (by decide))) ?_
  rintro v6_2 H6_2 ⟨hE6_2, hT6_2⟩
  have z6_2 := hE6_2.lt
  replace hE := hE.ext hE6_2
  replace o1_1 := o1_1.ext hE6_2
  replace hE1 := hE1.ext hE6_2
  replace o1_3 := o1_3.ext hE6_2
  replace o2_4 := o2_4.ext hE6_2
  replace hE2 := hE2.ext hE6_2
  replace o2_6 := o2_6.ext hE6_2
  replace o3_1 := o3_1.ext hE6_2
  replace o5_4 := o5_4.ext hE6_2
  replace hE3 := hE3.ext hE6_2
  rw [awT] at hT6_2
  obtain ⟨A6, cap6, rfl, ho6, _, _⟩ := hT6_2
  have z_ho6 := ho6.lt
  refine Reg.pur rfl rfl rfl rfl (Pur.mv rfl) ?_
  refine Reg.pur rfl rfl rfl rfl (Pur.ext rfl rfl) ?_
  refine Reg.pur rfl rfl rfl rfl (Pur.ext rfl rfl) ?_
  refine Reg.op rfl rfl rfl rfl (Does.alloc zc25) ?_
  rintro _ H6_6 ⟨rfl, hn6_6⟩
  have z6_6 := hn6_6.size
  replace hE := hE.ext hn6_6.ext
  replace o1_1 := o1_1.ext hn6_6.ext
  replace hE1 := hE1.ext hn6_6.ext
  replace o1_3 := o1_3.ext hn6_6.ext
  replace o2_4 := o2_4.ext hn6_6.ext
  replace hE2 := hE2.ext hn6_6.ext
  replace o2_6 := o2_6.ext hn6_6.ext
  replace o3_1 := o3_1.ext hn6_6.ext
  replace o5_4 := o5_4.ext hn6_6.ext
  replace hE3 := hE3.ext hn6_6.ext
  replace ho6 := ho6.ext hn6_6.ext
  have o6_6 := hn6_6.own
  refine Reg.op0 rfl rfl rfl (Does.stn ag25 rfl rfl (by first | rfl | exact ones_Is _) (by first | rfl | (simp [*]; done)) o6_6 (by first | decide | (simp; done) | (simp; omega) | omega)) ?_
  rintro _ H6_7 hu6_7
  have z6_7 := hu6_7.size
  replace hE := hE.upw hu6_7 (by omega)
  replace o1_1 := o1_1.upw hu6_7 (by omega)
  replace hE1 := hE1.upw hu6_7 (by omega)
  replace o1_3 := o1_3.upw hu6_7 (by omega)
  replace o2_4 := o2_4.upw hu6_7 (by omega)
  replace hE2 := hE2.upw hu6_7 (by omega)
  replace o2_6 := o2_6.upw hu6_7 (by omega)
  replace o3_1 := o3_1.upw hu6_7 (by omega)
  replace o5_4 := o5_4.upw hu6_7 (by omega)
  replace hE3 := hE3.upw hu6_7 (by omega)
  replace ho6 := ho6.upw hu6_7 (by omega)
  replace o6_6 := hu6_7.own
  first | rw [over (by first | rfl | (simp; done))] at o6_6 | skip
  refine Reg.pur rfl rfl rfl rfl (Pur.asg rfl) ?_
  refine Reg.nil ?_
  refine At.region rfl rfl ?_
  refine Reg.pur rfl rfl rfl rfl (Pur.mv rfl) ?_
  refine Reg.pur rfl rfl rfl rfl (Pur.bld (cs := [_, _, _, _, _]) pl28 zc28 rfl rfl ⟨rfl, rfl, rfl, rfl, rfl, rfl⟩) ?_
  refine Reg.op rfl rfl rfl rfl (Does.call rfl (row_ok (hB5.ext hE3) [0, 0, 0, 0, 3] rfl)) ?_
  rintro _ H7_2 ⟨rfl, _, hE7_2⟩
  have z7_2 := hE7_2.lt
  replace hE := hE.ext hE7_2
  replace o1_1 := o1_1.ext hE7_2
  replace hE1 := hE1.ext hE7_2
  replace o1_3 := o1_3.ext hE7_2
  replace o2_4 := o2_4.ext hE7_2
  replace hE2 := hE2.ext hE7_2
  replace o2_6 := o2_6.ext hE7_2
  replace o3_1 := o3_1.ext hE7_2
  replace o5_4 := o5_4.ext hE7_2
  replace hE3 := hE3.ext hE7_2
  replace ho6 := ho6.ext hE7_2
  replace o6_6 := o6_6.ext hE7_2
  refine Reg.pur rfl rfl rfl rfl (Pur.mv rfl) ?_
  refine Reg.pur rfl rfl rfl rfl (Pur.ext rfl rfl) ?_
  refine Reg.pur rfl rfl rfl rfl (Pur.ext rfl rfl) ?_
  refine Reg.op rfl rfl rfl rfl (Does.alloc zc28) ?_
  rintro _ H7_6 ⟨rfl, hn7_6⟩
  have z7_6 := hn7_6.size
  replace hE := hE.ext hn7_6.ext
  replace o1_1 := o1_1.ext hn7_6.ext
  replace hE1 := hE1.ext hn7_6.ext
  replace o1_3 := o1_3.ext hn7_6.ext
  replace o2_4 := o2_4.ext hn7_6.ext
  replace hE2 := hE2.ext hn7_6.ext
  replace o2_6 := o2_6.ext hn7_6.ext
  replace o3_1 := o3_1.ext hn7_6.ext
  replace o5_4 := o5_4.ext hn7_6.ext
  replace hE3 := hE3.ext hn7_6.ext
  replace ho6 := ho6.ext hn7_6.ext
  replace o6_6 := o6_6.ext hn7_6.ext
  have o7_6 := hn7_6.own
  refine Reg.op0 rfl rfl rfl (Does.stn ag28 rfl rfl (by first | rfl | exact ones_Is _) (by first | rfl | (simp [*]; done)) o7_6 (by first | decide | (simp; done) | (simp; omega) | omega)) ?_
  rintro _ H7_7 hu7_7
  have z7_7 := hu7_7.size
  replace hE := hE.upw hu7_7 (by omega)
  replace o1_1 := o1_1.upw hu7_7 (by omega)
  replace hE1 := hE1.upw hu7_7 (by omega)
  replace o1_3 := o1_3.upw hu7_7 (by omega)
  replace o2_4 := o2_4.upw hu7_7 (by omega)
  replace hE2 := hE2.upw hu7_7 (by omega)
  replace o2_6 := o2_6.upw hu7_7 (by omega)
  replace o3_1 := o3_1.upw hu7_7 (by omega)
  replace o5_4 := o5_4.upw hu7_7 (by omega)
  replace hE3 := hE3.upw hu7_7 (by omega)
  replace ho6 := ho6.upw hu7_7 (by omega)
  replace o6_6 := o6_6.upw hu7_7 (by omega)
  replace o7_6 := hu7_7.own
  first | rw [over (by first | rfl | (simp; done))] at o7_6 | skip
  refine Reg.pur rfl rfl rfl rfl (Pur.asg rfl) ?_
  refine Reg.nil ?_
  refine At.region rfl rfl ?_
  refine Reg.pur rfl rfl rfl rfl (Pur.mv rfl) ?_
  refine Reg.pur rfl rfl rfl rfl (Pur.bld (cs := [_]) pl25 zc25 rfl rfl ⟨rfl, rfl⟩) ?_
  refine Reg.op rfl rfl rfl rfl (Does.call rfl (type_ok (A1 := none) (L := []) (hB5.ext hE3) (sl_nil _) (nine_lit rfl) (by decide))) ?_
  rintro v8_2 H8_2 ⟨hE8_2, hT8_2⟩
  have z8_2 := hE8_2.lt
  replace hE := hE.ext hE8_2
  replace o1_1 := o1_1.ext hE8_2
  replace hE1 := hE1.ext hE8_2
  replace o1_3 := o1_3.ext hE8_2
  replace o2_4 := o2_4.ext hE8_2
  replace hE2 := hE2.ext hE8_2
  replace o2_6 := o2_6.ext hE8_2
  replace o3_1 := o3_1.ext hE8_2
  replace o5_4 := o5_4.ext hE8_2
  replace hE3 := hE3.ext hE8_2
  replace ho6 := ho6.ext hE8_2
  replace o6_6 := o6_6.ext hE8_2
  replace o7_6 := o7_6.ext hE8_2
  rw [awT2] at hT8_2
  obtain ⟨A8, cap8, rfl, _, _, _⟩ := hT8_2
  refine Reg.pur rfl rfl rfl rfl (Pur.mv rfl) ?_
  refine Reg.pur rfl rfl rfl rfl (Pur.ext rfl rfl) ?_
  refine Reg.pur rfl rfl rfl rfl (Pur.ext rfl rfl) ?_
  refine Reg.op rfl rfl rfl rfl (Does.alloc zc25) ?_
  rintro _ H8_6 ⟨rfl, hn8_6⟩
  have z8_6 := hn8_6.size
  replace hE := hE.ext hn8_6.ext
  replace o1_1 := o1_1.ext hn8_6.ext
  replace hE1 := hE1.ext hn8_6.ext
  replace o1_3 := o1_3.ext hn8_6.ext
  replace o2_4 := o2_4.ext hn8_6.ext
  replace hE2 := hE2.ext hn8_6.ext
  replace o2_6 := o2_6.ext hn8_6.ext
  replace o3_1 := o3_1.ext hn8_6.ext
  replace o5_4 := o5_4.ext hn8_6.ext
  replace hE3 := hE3.ext hn8_6.ext
  replace ho6 := ho6.ext hn8_6.ext
  replace o6_6 := o6_6.ext hn8_6.ext
  replace o7_6 := o7_6.ext hn8_6.ext
  have o8_6 := hn8_6.own
  refine Reg.op0 rfl rfl rfl (Does.stn ag25 rfl rfl (by first | rfl | exact ones_Is _) (by first | rfl | (simp [*]; done)) o8_6 (by first | decide | (simp; done) | (simp; omega) | omega)) ?_
  rintro _ H8_7 hu8_7
  have z8_7 := hu8_7.size
  replace hE := hE.upw hu8_7 (by omega)
  replace o1_1 := o1_1.upw hu8_7 (by omega)
  replace hE1 := hE1.upw hu8_7 (by omega)
  replace o1_3 := o1_3.upw hu8_7 (by omega)
  replace o2_4 := o2_4.upw hu8_7 (by omega)
  replace hE2 := hE2.upw hu8_7 (by omega)
  replace o2_6 := o2_6.upw hu8_7 (by omega)
  replace o3_1 := o3_1.upw hu8_7 (by omega)
  replace o5_4 := o5_4.upw hu8_7 (by omega)
  replace hE3 := hE3.upw hu8_7 (by omega)
  replace ho6 := ho6.upw hu8_7 (by omega)
  replace o6_6 := o6_6.upw hu8_7 (by omega)
  replace o7_6 := o7_6.upw hu8_7 (by omega)
  replace o8_6 := hu8_7.own
  first | rw [over (by first | rfl | (simp; done))] at o8_6 | skip
  refine Reg.pur rfl rfl rfl rfl (Pur.asg rfl) ?_
  refine Reg.nil ?_
  refine At.region rfl rfl ?_
  refine Reg.lod rfl rfl rfl rfl (Lod.ldn ag25 rfl o1_3.blk (by first | exact whole rfl | rfl | (simp only [List.drop_succ_cons, List.drop_zero, List.take_succ_cons, List.take_zero]; rfl)) (by first | rfl | (simp [*]; done))) ?_
  refine Reg.lod rfl rfl rfl rfl (Lod.ldn ag28 rfl o3_1.blk (by first | exact whole rfl | rfl | (simp only [List.drop_succ_cons, List.drop_zero, List.take_succ_cons, List.take_zero]; rfl)) (by first | rfl | (simp [*]; done))) ?_
  refine Reg.pur rfl rfl rfl rfl (Pur.bld (cs := [_, _, _, _, _, _, _, _]) pl49 zc49 rfl rfl ⟨rfl, rfl, rfl, rfl, rfl, rfl, rfl, rfl, rfl⟩) ?_
  refine Reg.op rfl rfl rfl rfl (Does.bslA ([[_, _, _, _, _, _, _, _]]) slA22 rfl rfl rfl rfl rfl rfl) ?_
  rintro _ H9_3 ⟨rfl, hp9_3⟩
  have hn9_3 := New.of_eq hp9_3
  have z9_3 := hn9_3.size
  replace hE := hE.ext hn9_3.ext
  replace o1_1 := o1_1.ext hn9_3.ext
  replace hE1 := hE1.ext hn9_3.ext
  replace o1_3 := o1_3.ext hn9_3.ext
  replace o2_4 := o2_4.ext hn9_3.ext
  replace hE2 := hE2.ext hn9_3.ext
  replace o2_6 := o2_6.ext hn9_3.ext
  replace o3_1 := o3_1.ext hn9_3.ext
  replace o5_4 := o5_4.ext hn9_3.ext
  replace hE3 := hE3.ext hn9_3.ext
  replace ho6 := ho6.ext hn9_3.ext
  replace o6_6 := o6_6.ext hn9_3.ext
  replace o7_6 := o7_6.ext hn9_3.ext
  replace o8_6 := o8_6.ext hn9_3.ext
  have o9_3 := hn9_3.own
  refine Reg.lod rfl rfl rfl rfl (Lod.ldn ag25 rfl o1_3.blk (by first | exact whole rfl | rfl | (simp only [List.drop_succ_cons, List.drop_zero, List.take_succ_cons, List.take_zero]; rfl)) (by first | rfl | (simp [*]; done))) ?_
  refine Reg.op rfl rfl rfl rfl (Does.call rfl (type_ok (L := awV) (bds_new (L := [⟨2, false, some ⟨H.size, 0, none⟩, 1, awV, awR⟩]) hn9_3 (all_one (ok_lit (hS1.ext hE1) (nine_lit rfl) rfl (by decide))) (Nat.le_of_ble_eq_true rfl)) (hS1.ext hE1) (nine_lit rfl) (by decide))) ?_
  rintro v9_5 H9_5 ⟨hE9_5, hT9_5⟩
  have z9_5 := hE9_5.lt
  replace hE := hE.ext hE9_5
  replace o1_1 := o1_1.ext hE9_5
  replace hE1 := hE1.ext hE9_5
  replace o1_3 := o1_3.ext hE9_5
  replace o2_4 := o2_4.ext hE9_5
  replace hE2 := hE2.ext hE9_5
  replace o2_6 := o2_6.ext hE9_5
  replace o3_1 := o3_1.ext hE9_5
  replace o5_4 := o5_4.ext hE9_5
  replace hE3 := hE3.ext hE9_5
  replace ho6 := ho6.ext hE9_5
  replace o6_6 := o6_6.ext hE9_5
  replace o7_6 := o7_6.ext hE9_5
  replace o8_6 := o8_6.ext hE9_5
  replace o9_3 := o9_3.ext hE9_5
  rw [awT3] at hT9_5
  obtain ⟨A9, cap9, rfl, _, _, _⟩ := hT9_5
  refine Reg.pur rfl rfl rfl rfl (Pur.mv rfl) ?_
  refine Reg.pur rfl rfl rfl rfl (Pur.ext rfl rfl) ?_
  refine Reg.pur rfl rfl rfl rfl (Pur.ext rfl rfl) ?_
  refine Reg.op rfl rfl rfl rfl (Does.alloc zc25) ?_
  rintro _ H9_9 ⟨rfl, hn9_9⟩
  have z9_9 := hn9_9.size
  replace hE := hE.ext hn9_9.ext
  replace o1_1 := o1_1.ext hn9_9.ext
  replace hE1 := hE1.ext hn9_9.ext
  replace o1_3 := o1_3.ext hn9_9.ext
  replace o2_4 := o2_4.ext hn9_9.ext
  replace hE2 := hE2.ext hn9_9.ext
  replace o2_6 := o2_6.ext hn9_9.ext
  replace o3_1 := o3_1.ext hn9_9.ext
  replace o5_4 := o5_4.ext hn9_9.ext
  replace hE3 := hE3.ext hn9_9.ext
  replace ho6 := ho6.ext hn9_9.ext
  replace o6_6 := o6_6.ext hn9_9.ext
  replace o7_6 := o7_6.ext hn9_9.ext
  replace o8_6 := o8_6.ext hn9_9.ext
  replace o9_3 := o9_3.ext hn9_9.ext
  have o9_9 := hn9_9.own
  refine Reg.op0 rfl rfl rfl (Does.stn ag25 rfl rfl (by first | rfl | exact ones_Is _) (by first | rfl | (simp [*]; done)) o9_9 (by first | decide | (simp; done) | (simp; omega) | omega)) ?_
  rintro _ H9_10 hu9_10
  have z9_10 := hu9_10.size
  replace hE := hE.upw hu9_10 (by omega)
  replace o1_1 := o1_1.upw hu9_10 (by omega)
  replace hE1 := hE1.upw hu9_10 (by omega)
  replace o1_3 := o1_3.upw hu9_10 (by omega)
  replace o2_4 := o2_4.upw hu9_10 (by omega)
  replace hE2 := hE2.upw hu9_10 (by omega)
  replace o2_6 := o2_6.upw hu9_10 (by omega)
  replace o3_1 := o3_1.upw hu9_10 (by omega)
  replace o5_4 := o5_4.upw hu9_10 (by omega)
  replace hE3 := hE3.upw hu9_10 (by omega)
  replace ho6 := ho6.upw hu9_10 (by omega)
  replace o6_6 := o6_6.upw hu9_10 (by omega)
  replace o7_6 := o7_6.upw hu9_10 (by omega)
  replace o8_6 := o8_6.upw hu9_10 (by omega)
  replace o9_3 := o9_3.upw hu9_10 (by omega)
  replace o9_9 := hu9_10.own
  first | rw [over (by first | rfl | (simp; done))] at o9_9 | skip
  refine Reg.pur rfl rfl rfl rfl (Pur.asg rfl) ?_
  refine Reg.nil ?_
  obtain ⟨g6, c6, rfl, hg6, hc6, _⟩ := ho6.blk (by decide)
  refine At.drawE ((Bks.cons o6_6.blk (Bks.cons o3_1.blk (Bks.cons o7_6.blk (Bks.cons hg6.blk Bks.nil))))) [] mixed rfl rfl ?_
  refine RegD.tpur (i := 0) rfl rfl rfl rfl (by kernel_rfl) (Pur.fld _ fo25_0 rfl) ?_
  refine RegD.take (i := 1) rfl rfl rfl rfl (by kernel_rfl) (Bks.cons o6_6.blk (Bks.cons o3_1.blk (Bks.cons o7_6.blk (Bks.cons hg6.blk Bks.nil)))) (fun H hS => Lod.ld sc23 rfl hS.hd (by first | rfl | (simp; done))) ?_
  refine RegD.tpur (i := 2) rfl rfl rfl rfl (by kernel_rfl) (Pur.lenS isl23 rfl) ?_
  refine RegD.tpur (i := 3) rfl rfl rfl rfl (by kernel_rfl) (Pur.eql rfl rfl) ?_
  refine RegD.tpur (i := 4) rfl rfl rfl rfl (by kernel_rfl) (Pur.mv rfl) ?_
  refine RegD.known (b' := true) 61 rfl (by rfl) ?_
  refine RegD.gtpur (i := 5) rfl rfl rfl rfl rfl rfl (by kernel_rfl) (Pur.fld _ fo25_0 rfl) ?_
  refine RegD.gtake (i := 6) rfl rfl rfl rfl rfl rfl (by kernel_rfl) (Bks.cons o6_6.blk (Bks.cons o3_1.blk (Bks.cons o7_6.blk (Bks.cons hg6.blk Bks.nil)))) (fun H hS => Lod.ld sc23 rfl hS.hd (by first | rfl | (simp; done))) ?_
  refine RegD.gtpur (i := 7) rfl rfl rfl rfl rfl rfl (by kernel_rfl) (Pur.idx _ es23 rfl rfl (by decide) (by decide)) ?_
  refine RegD.gtpur (i := 8) rfl rfl rfl rfl rfl rfl (by kernel_rfl) (Pur.fld _ fo47_4 rfl) ?_
  refine RegD.gtpur (i := 9) rfl rfl rfl rfl rfl rfl (by kernel_rfl) (Pur.fld _ fo28_1 rfl) ?_
  refine RegD.gtake (i := 10) rfl rfl rfl rfl rfl rfl (by kernel_rfl) (Bks.cons o6_6.blk (Bks.cons o3_1.blk (Bks.cons o7_6.blk (Bks.cons hg6.blk Bks.nil)))) (fun H hS => Lod.ld sc3 rfl hS.tl.tl.tl.hd (tk_at hc6 rfl)) ?_
  refine RegD.gtpur (i := 11) rfl rfl rfl rfl rfl rfl (by kernel_rfl) (Pur.eql rfl rfl) ?_
  refine RegD.tpur (i := 12) rfl rfl rfl rfl (by kernel_rfl) (Pur.pickT rfl rfl) ?_
  refine RegD.tpur (i := 13) rfl rfl rfl rfl (by kernel_rfl) (Pur.mv rfl) ?_
  refine RegD.known (b' := true) 70 rfl (by rfl) ?_
  refine RegD.gtpur (i := 14) rfl rfl rfl rfl rfl rfl (by kernel_rfl) (Pur.fld _ fo25_0 rfl) ?_
  refine RegD.gtake (i := 15) rfl rfl rfl rfl rfl rfl (by kernel_rfl) (Bks.cons o6_6.blk (Bks.cons o3_1.blk (Bks.cons o7_6.blk (Bks.cons hg6.blk Bks.nil)))) (fun H hS => Lod.ld sc23 rfl hS.hd (by first | rfl | (simp; done))) ?_
  refine RegD.gtpur (i := 16) rfl rfl rfl rfl rfl rfl (by kernel_rfl) (Pur.idx _ es23 rfl rfl (by decide) (by decide)) ?_
  refine RegD.gtpur (i := 17) rfl rfl rfl rfl rfl rfl (by kernel_rfl) (Pur.fld _ fo47_4 rfl) ?_
  refine RegD.gtake (i := 18) rfl rfl rfl rfl rfl rfl (by kernel_rfl) (Bks.cons o6_6.blk (Bks.cons o3_1.blk (Bks.cons o7_6.blk (Bks.cons hg6.blk Bks.nil)))) (fun H hS => Lod.ldn ag28 rfl hS.tl.tl.tl.hd ((take_mid hc6 (by decide)).trans rfl) rfl) ?_
  refine RegD.gtake (i := 19) rfl rfl rfl rfl rfl rfl (by kernel_rfl) (Bks.cons o6_6.blk (Bks.cons o3_1.blk (Bks.cons o7_6.blk (Bks.cons hg6.blk Bks.nil)))) (fun H hS => Lod.ldn ag28 rfl hS.tl.hd (by first | exact whole rfl | rfl | (simp only [List.drop_succ_cons, List.drop_zero, List.take_succ_cons, List.take_zero]; rfl)) (by first | rfl | (simp [*]; done))) ?_
  refine RegD.gtpur (i := 20) rfl rfl rfl rfl rfl rfl (by kernel_rfl) (Pur.eqA eqt28 rfl rfl (fks_ints .i64 awR) (fks_ints .i64 awR)) ?_
  refine RegD.tpur (i := 21) rfl rfl rfl rfl (by kernel_rfl) (Pur.pickT rfl rfl) ?_
  refine RegD.tpur (i := 22) rfl rfl rfl rfl (by kernel_rfl) (Pur.mv rfl) ?_
  refine RegD.known (b' := true) 79 rfl (by rfl) ?_
  refine RegD.gtpur (i := 23) rfl rfl rfl rfl rfl rfl (by kernel_rfl) (Pur.fld _ fo25_0 rfl) ?_
  refine RegD.gtake (i := 24) rfl rfl rfl rfl rfl rfl (by kernel_rfl) (Bks.cons o6_6.blk (Bks.cons o3_1.blk (Bks.cons o7_6.blk (Bks.cons hg6.blk Bks.nil)))) (fun H hS => Lod.ld sc23 rfl hS.hd (by first | rfl | (simp; done))) ?_
  refine RegD.gtpur (i := 25) rfl rfl rfl rfl rfl rfl (by kernel_rfl) (Pur.idx _ es23 rfl rfl (by decide) (by decide)) ?_
  refine RegD.gtpur (i := 26) rfl rfl rfl rfl rfl rfl (by kernel_rfl) (Pur.fld _ fo47_2 rfl) ?_
  refine RegD.gtake (i := 27) rfl rfl rfl rfl rfl rfl (by kernel_rfl) (Bks.cons o6_6.blk (Bks.cons o3_1.blk (Bks.cons o7_6.blk (Bks.cons hg6.blk Bks.nil)))) (fun H hS => Lod.ld sc3 rfl hS.tl.tl.tl.hd (tk_at hc6 rfl)) ?_
  refine RegD.gtpur (i := 28) rfl rfl rfl rfl rfl rfl (by kernel_rfl) (Pur.eql rfl rfl) ?_
  refine RegD.tpur (i := 29) rfl rfl rfl rfl (by kernel_rfl) (Pur.pickT rfl rfl) ?_
  refine RegD.tpur (i := 30) rfl rfl rfl rfl (by kernel_rfl) (Pur.mv rfl) ?_
  refine RegD.known (b' := true) 87 rfl (by rfl) ?_
  refine RegD.gtpur (i := 31) rfl rfl rfl rfl rfl rfl (by kernel_rfl) (Pur.mv rfl) ?_
  refine RegD.gone (i := 32) (by kernel_rfl) rfl rfl rfl rfl rfl rfl (Does.call rfl (numE_ok _ _)) ?_
  rintro _ H9_10 ⟨rfl, rfl⟩
  refine ⟨fun _ _ => (Bks.cons o6_6.blk (Bks.cons o3_1.blk (Bks.cons o7_6.blk (Bks.cons hg6.blk Bks.nil)))), ?_⟩
  refine RegD.gtpur (i := 33) rfl rfl rfl rfl rfl rfl (by kernel_rfl) (Pur.eql rfl rfl) ?_
  refine RegD.tpur (i := 34) rfl rfl rfl rfl (by kernel_rfl) (Pur.pickT rfl rfl) ?_
  refine RegD.tpur (i := 35) rfl rfl rfl rfl (by kernel_rfl) (Pur.mv rfl) ?_
  refine RegD.known (b' := true) 92 rfl (by rfl) ?_
  refine RegD.gtake (i := 36) rfl rfl rfl rfl rfl rfl (by kernel_rfl) (Bks.cons o6_6.blk (Bks.cons o3_1.blk (Bks.cons o7_6.blk (Bks.cons hg6.blk Bks.nil)))) (fun H hS => Lod.ldn ag28 rfl hS.tl.tl.hd (by first | exact whole rfl | rfl | (simp only [List.drop_succ_cons, List.drop_zero, List.take_succ_cons, List.take_zero]; rfl)) (by first | rfl | (simp [*]; done))) ?_
  refine RegD.gtake (i := 37) rfl rfl rfl rfl rfl rfl (by kernel_rfl) (Bks.cons o6_6.blk (Bks.cons o3_1.blk (Bks.cons o7_6.blk (Bks.cons hg6.blk Bks.nil)))) (fun H hS => Lod.ldn ag28 rfl hS.tl.hd (by first | exact whole rfl | rfl | (simp only [List.drop_succ_cons, List.drop_zero, List.take_succ_cons, List.take_zero]; rfl)) (by first | rfl | (simp [*]; done))) ?_
  refine RegD.gtpur (i := 38) rfl rfl rfl rfl rfl rfl (by kernel_rfl) (Pur.eqA eqt28 rfl rfl (fks_ints .i64 awR) (fks_ints .i64 awR)) ?_
  refine RegD.tpur (i := 39) rfl rfl rfl rfl (by kernel_rfl) (Pur.pickT rfl rfl) ?_
  refine RegD.tpur (i := 40) rfl rfl rfl rfl (by kernel_rfl) (Pur.mv rfl) ?_
  refine RegD.known (b' := true) 97 rfl (by rfl) ?_
  refine RegD.gtpur (i := 41) rfl rfl rfl rfl rfl rfl (by kernel_rfl) (Pur.mv rfl) ?_
  refine RegD.gone (i := 42) (by kernel_rfl) rfl rfl rfl rfl rfl rfl (Does.call rfl (numE_ok _ _)) ?_
  rintro _ H9_10 ⟨rfl, rfl⟩
  refine ⟨fun _ _ => (Bks.cons o6_6.blk (Bks.cons o3_1.blk (Bks.cons o7_6.blk (Bks.cons hg6.blk Bks.nil)))), ?_⟩
  refine RegD.gtpur (i := 43) rfl rfl rfl rfl rfl rfl (by kernel_rfl) (Pur.eql rfl rfl) ?_
  refine RegD.tpur (i := 44) rfl rfl rfl rfl (by kernel_rfl) (Pur.pickT rfl rfl) ?_
  refine RegD.tpur (i := 45) rfl rfl rfl rfl (by kernel_rfl) (Pur.mv rfl) ?_
  refine RegD.known (b' := true) 102 rfl (by rfl) ?_
  refine RegD.gtpur (i := 46) rfl rfl rfl rfl rfl rfl (by kernel_rfl) (Pur.mv rfl) ?_
  refine RegD.gone (i := 47) (by kernel_rfl) rfl rfl rfl rfl rfl rfl (Does.call rfl (numE_ok _ _)) ?_
  rintro _ H9_10 ⟨rfl, rfl⟩
  refine ⟨fun _ _ => (Bks.cons o6_6.blk (Bks.cons o3_1.blk (Bks.cons o7_6.blk (Bks.cons hg6.blk Bks.nil)))), ?_⟩
  refine RegD.gtpur (i := 48) rfl rfl rfl rfl rfl rfl (by kernel_rfl) (Pur.eql rfl rfl) ?_
  refine RegD.tpur (i := 49) rfl rfl rfl rfl (by kernel_rfl) (Pur.pickT rfl rfl) ?_
  refine RegD.tpur (i := 50) rfl rfl rfl rfl (by kernel_rfl) (Pur.mv rfl) ?_
  refine RegD.known (b' := true) 107 rfl (by rfl) ?_
  refine RegD.gtpur (i := 51) rfl rfl rfl rfl rfl rfl (by kernel_rfl) (Pur.mv rfl) ?_
  refine RegD.gone (i := 52) (by kernel_rfl) rfl rfl rfl rfl rfl rfl (Does.call rfl (numE_ok _ _)) ?_
  rintro _ H9_10 ⟨rfl, rfl⟩
  refine ⟨fun _ _ => (Bks.cons o6_6.blk (Bks.cons o3_1.blk (Bks.cons o7_6.blk (Bks.cons hg6.blk Bks.nil)))), ?_⟩
  refine RegD.gtpur (i := 53) rfl rfl rfl rfl rfl rfl (by kernel_rfl) (Pur.eql rfl rfl) ?_
  refine RegD.tpur (i := 54) rfl rfl rfl rfl (by kernel_rfl) (Pur.pickT rfl rfl) ?_
  refine RegD.tpur (i := 55) rfl rfl rfl rfl (by kernel_rfl) (Pur.asg rfl) ?_
  refine RegD.done (by kernel_rfl) ?_
  refine At.ret rfl Try.func28 rfl ?_
  exact ⟨rfl, hE⟩
end Go.Proofs.Ytlfillhffpiffaa

/-
  Chapter 9: substs; arguments that are types, binds.
-/
namespace Go.Proofs.Ytlfillhffpiffaa
set_option linter.unusedSimpArgs false
set_option linter.unusedVariables false
set_option maxRecDepth 8000
open Go Go.Fx Go.Proofs
namespace FactsSubQ
theorem ag25 : ag Try.prog 25 = some 1 := by kernel_rfl
theorem ag28 : ag Try.prog 28 = some 5 := by kernel_rfl
theorem eqt28 : eqT Try.prog 28 = some [.int .i64, .int .i64, .int .i64, .int .i64, .int .i64] := by kernel_rfl
theorem mixed : Try.prog.follows .mixedOrders = true := by kernel_rfl
theorem zc25 : zc Try.prog 25 = some [.slice none 0 0] := by kernel_rfl
theorem zc28 : zc Try.prog 28 = some [.int .i64 0, .int .i64 0, .int .i64 0, .int .i64 0, .int .i64 0] := by kernel_rfl
end FactsSubQ
open FactsSubQ

theorem type_of_fits {H : Heap} {v : Value} (h : fitc H (.sl 72 (List.replicate 9 (.int .i64))) v) : ∃ (A : Option Addr) (cap : Nat) (L : List (List Int)), v = .slice A L.length cap ∧ Nine L ∧ SlT H Is 9 (.slice A L.length cap) L ∧ L.length * 72 ≤ 140737488351232 := by
  obtain ⟨L, hL, hS, hb⟩ := SlT.of_fits (p := fun x : List Int => x.length = 9) (enc := Is) h (fun cs h => by obtain ⟨xs, rfl, hl, _⟩ := fit_ints h; exact ⟨xs, hl, rfl⟩)
  have hS' := hS
  obtain ⟨A, cap, rfl, _⟩ := hS'
  exact ⟨A, cap, L, rfl, hL, hS, by rw [show reachBytes = 140737488351232 from rfl] at hb; omega⟩
theorem bd_of_fits {H : Heap} {cs : List Value} (h : fits H (.int .i64 :: .bool :: .sl 72 (List.replicate 9 (.int .i64)) :: List.replicate 5 (.int .i64)) cs) : ∃ b : Bd, b.Ok H ∧ cs = encB b := by
  simp only [fits] at h
  obtain ⟨v1, r1, rfl, h1, v2, r2, rfl, h2, v3, r3, rfl, h3, h4⟩ := h
  simp only [fitc] at h1 h2
  obtain ⟨n, rfl, _⟩ := h1
  obtain ⟨b, rfl⟩ := h2
  obtain ⟨A, cap, L, rfl, hL, hS, hb⟩ := type_of_fits h3
  obtain ⟨xs, rfl, hl, _⟩ := fit_ints h4
  exact ⟨⟨n, b, A, cap, L, xs⟩, ⟨hS, hL, hl, hb⟩, rfl⟩
theorem binds_of_fits {H : Heap} {v : Value} (h : fitc H (.sl 80 (.int .i64 :: .bool :: .sl 72 (List.replicate 9 (.int .i64)) :: List.replicate 5 (.int .i64))) v) : ∃ (A : Option Addr) (cap : Nat) (Bs : List Bd), v = .slice A Bs.length cap ∧ Bds H (.slice A Bs.length cap) Bs := by
  obtain ⟨L, hL, hS, hb⟩ := SlT.of_fits (p := fun b : Bd => b.Ok H) (enc := encB) h (fun cs h => bd_of_fits h)
  have hS' := hS
  obtain ⟨A, cap, rfl, _⟩ := hS'
  exact ⟨A, cap, L, rfl, ⟨hS, hL, by rw [show reachBytes = 140737488351232 from rfl] at hb; omega⟩⟩

theorem eqs_self (x : List Int) : eqs (Is x) (Is x) = true := by rw [eqs_ints]; simp
theorem substs_law {A A1 : Option Addr} {cap cap1 : Nat} {Bs : List Bd} {L : List (List Int)} {H : Heap} (hB : Bds H (.slice A Bs.length cap) Bs) (hS : SlT H Is 9 (.slice A1 L.length cap1) L) (hL : Nine L) (hm : L.length * 72 ≤ 140737488351232) (r : List Int) (hr : r.length = 5) :
    Ret Try.prog 3 [.slice A Bs.length cap, Ty A1 L.length cap1, .agg (Is r).toArray] H (fun v H' => v = .bool true ∧ Ext H H') := by
  have hr' : (Is r).length = 5 := by simp [hr]
  refine Ret.of_at (N := 79) Try.call3 Try.func3 rfl rfl rfl ?_
  have hE := Ext.refl H
  refine At.region rfl rfl ?_
  refine Reg.op rfl rfl rfl rfl (Does.box rfl rfl) ?_
  rintro _ H0_0 ⟨rfl, hn0_0⟩
  have z0_0 := hn0_0.size
  replace hE := hE.ext hn0_0.ext
  have o0_0 := hn0_0.own
  refine Reg.op rfl rfl rfl rfl (Does.box rfl rfl) ?_
  rintro _ H0_1 ⟨rfl, hn0_1⟩
  have z0_1 := hn0_1.size
  replace hE := hE.ext hn0_1.ext
  replace o0_0 := o0_0.ext hn0_1.ext
  have o0_1 := hn0_1.own
  refine Reg.pur rfl rfl rfl rfl (Pur.asg rfl) ?_
  refine Reg.nil ?_
  refine At.drawJ (σ := Option Addr × Nat × List Bd × Option Addr × Nat × Nat × Heap) (fun (A2, cap2, Cs, A3, cap3, b8, H1) => [(7, .slice A2 Cs.length cap2), (8, ptr b8 0), (0, .slice A Bs.length cap), (4, ptr H.size 0), (5, ptr H0_0.size 0)]) (fun (A2, cap2, Cs, A3, cap3, b8, H1) H' => Bds H' (.slice A2 Cs.length cap2) Cs ∧ Cs.map pl = Bs.map pl ∧ SlT H' Is 9 (.slice A3 L.length cap3) L ∧ Own H' b8 [.slice A3 L.length cap3] ∧ Ext H H' ∧ Own H' H.size [.slice A1 L.length cap1] ∧ Own H' H0_0.size (Is r)) ((Bks.cons o0_0.blk Bks.nil)) [3, 6] mixed rfl rfl ?_ (fun s H_r1 hs => ?_)
  · refine RegD.tpur (i := 0) rfl rfl rfl rfl (by kernel_rfl) (Pur.mv rfl) ?_
    refine RegD.take (i := 2) rfl rfl rfl rfl (by kernel_rfl) (Bks.cons o0_0.blk Bks.nil) (fun H hS => Lod.ldn ag25 rfl hS.hd (by first | exact whole rfl | rfl | (simp only [List.drop_succ_cons, List.drop_zero, List.take_succ_cons, List.take_zero]; rfl)) (by first | rfl | (simp [*]; done))) ?_
    refine RegD.fork2 (i := 1) (j := 4) (by kernel_rfl) ?_ ?_
    · obtain ⟨lo, hlo⟩ : ∃ lo, lo = H0_1.size := ⟨_, rfl⟩
      refine RegOp.one (i := 1) rfl rfl rfl rfl (Does.call rfl (copyBinds_ok (hB.ext hE))) ?_
      rintro _ H1_1 ⟨A2, cap2, Cs, rfl, hC, hpl, hfr, hE1_1⟩
      have z1_1 := hE1_1.lt
      replace hE := hE.ext hE1_1
      replace o0_0 := o0_0.ext hE1_1
      replace o0_1 := o0_1.ext hE1_1
      rw [← hlo] at hfr
      have hl1 := hC.lt'
      have hM := Same.refl lo (Nat.le_refl H1_1.size)
      have z_hM := hM.lt
      refine ⟨fun _ _ => (Bks.cons o0_0.blk Bks.nil), ?_⟩
      refine RegD.fork2 (i := 3) (j := 4) (by kernel_rfl) ?_ ?_
      · refine RegOp.one (i := 3) rfl rfl rfl rfl (Does.call rfl (copyType_ok hL (hS.ext hE) hm)) ?_
        rintro _ H1_3 ⟨A3, cap3, rfl, ho3, hE1_3⟩
        have z1_3 := hE1_3.lt
        replace hE := hE.ext hE1_3
        replace o0_0 := o0_0.ext hE1_3
        replace o0_1 := o0_1.ext hE1_3
        replace hM := hM.ext hE1_3
        have z_ho3 := ho3.lt
        refine ⟨fun h => (by cases h), ?_⟩
        refine RegD.one (i := 4) (by kernel_rfl) rfl rfl rfl rfl (Does.alloc zc25) ?_
        rintro _ H1_4 ⟨rfl, hn1_4⟩
        have z1_4 := hn1_4.size
        replace hE := hE.ext hn1_4.ext
        replace o0_0 := o0_0.ext hn1_4.ext
        replace o0_1 := o0_1.ext hn1_4.ext
        replace hM := hM.ext hn1_4.ext
        replace ho3 := ho3.ext hn1_4.ext
        have hb8 := hn1_4.own
        refine ⟨fun _ _ => (Bks.cons o0_0.blk Bks.nil), ?_⟩
        refine RegD.tpur (i := 5) rfl rfl rfl rfl (by kernel_rfl) (Pur.asg rfl) ?_
        refine RegD.one0 (i := 6) (by kernel_rfl) rfl rfl rfl (Does.stn ag25 rfl rfl (by first | rfl | exact ones_Is _) (by first | rfl | (simp [*]; done)) hb8 (by first | decide | (simp; done) | (simp; omega) | omega)) ?_
        rintro _ H1_6 hu1_6
        have z1_6 := hu1_6.size
        replace hE := hE.upw hu1_6 (by omega)
        replace o0_0 := o0_0.upw hu1_6 (by omega)
        replace o0_1 := o0_1.upw hu1_6 (by omega)
        replace hM := hM.upw hu1_6 (by omega)
        replace ho3 := ho3.upw hu1_6 (by omega)
        replace hb8 := hu1_6.own
        first | rw [over (by first | rfl | (simp; done))] at hb8 | skip
        refine ⟨fun h => (by cases h), ?_⟩
        refine RegD.done (by kernel_rfl) ?_
        refine ⟨(A2, cap2, Cs, A3, cap3, _, H), ⟨hC.via hM.but (fun h0 g hg h => by have := hl1.1; have := hfr.1; omega) (fun b hb h0 g hg h => by have := hl1.2 b hb; have := hfr.2 b hb; omega), hpl, own_sl (wide9 hL) (by decide) ho3, hb8, hE, o0_0, o0_1⟩, ⟨rfl, rfl, rfl, rfl, rfl, trivial⟩⟩
      · refine RegOp.one (i := 4) rfl rfl rfl rfl (Does.alloc zc25) ?_
        rintro _ H1_4 ⟨rfl, hn1_4⟩
        have z1_4 := hn1_4.size
        replace hE := hE.ext hn1_4.ext
        replace o0_0 := o0_0.ext hn1_4.ext
        replace o0_1 := o0_1.ext hn1_4.ext
        replace hM := hM.ext hn1_4.ext
        have hb8 := hn1_4.own
        refine ⟨fun _ _ => (Bks.cons o0_0.blk Bks.nil), ?_⟩
        refine RegD.one (i := 3) (by kernel_rfl) rfl rfl rfl rfl (Does.call rfl (copyType_ok hL (hS.ext hE) hm)) ?_
        rintro _ H1_3 ⟨A3, cap3, rfl, ho3, hE1_3⟩
        have z1_3 := hE1_3.lt
        replace hE := hE.ext hE1_3
        replace o0_0 := o0_0.ext hE1_3
        replace o0_1 := o0_1.ext hE1_3
        replace hM := hM.ext hE1_3
        replace hb8 := hb8.ext hE1_3
        have z_ho3 := ho3.lt
        refine ⟨fun h => (by cases h), ?_⟩
        refine RegD.tpur (i := 5) rfl rfl rfl rfl (by kernel_rfl) (Pur.asg rfl) ?_
        refine RegD.one0 (i := 6) (by kernel_rfl) rfl rfl rfl (Does.stn ag25 rfl rfl (by first | rfl | exact ones_Is _) (by first | rfl | (simp [*]; done)) hb8 (by first | decide | (simp; done) | (simp; omega) | omega)) ?_
        rintro _ H1_6 hu1_6
        have z1_6 := hu1_6.size
        replace hE := hE.upw hu1_6 (by omega)
        replace o0_0 := o0_0.upw hu1_6 (by omega)
        replace o0_1 := o0_1.upw hu1_6 (by omega)
        replace hM := hM.upw hu1_6 (by omega)
        replace ho3 := ho3.upw hu1_6 (by omega)
        replace hb8 := hu1_6.own
        first | rw [over (by first | rfl | (simp; done))] at hb8 | skip
        refine ⟨fun h => (by cases h), ?_⟩
        refine RegD.done (by kernel_rfl) ?_
        refine ⟨(A2, cap2, Cs, A3, cap3, _, H), ⟨hC.via hM.but (fun h0 g hg h => by have := hl1.1; have := hfr.1; omega) (fun b hb h0 g hg h => by have := hl1.2 b hb; have := hfr.2 b hb; omega), hpl, own_sl (wide9 hL) (by decide) ho3, hb8, hE, o0_0, o0_1⟩, ⟨rfl, rfl, rfl, rfl, rfl, trivial⟩⟩
    · refine RegOp.one (i := 4) rfl rfl rfl rfl (Does.alloc zc25) ?_
      rintro _ H1_4 ⟨rfl, hn1_4⟩
      have z1_4 := hn1_4.size
      replace hE := hE.ext hn1_4.ext
      replace o0_0 := o0_0.ext hn1_4.ext
      replace o0_1 := o0_1.ext hn1_4.ext
      have hb8 := hn1_4.own
      refine ⟨fun _ _ => (Bks.cons o0_0.blk Bks.nil), ?_⟩
      obtain ⟨lo, hlo⟩ : ∃ lo, lo = H1_4.size := ⟨_, rfl⟩
      refine RegD.one (i := 1) (by kernel_rfl) rfl rfl rfl rfl (Does.call rfl (copyBinds_ok (hB.ext hE))) ?_
      rintro _ H1_1 ⟨A2, cap2, Cs, rfl, hC, hpl, hfr, hE1_1⟩
      have z1_1 := hE1_1.lt
      replace hE := hE.ext hE1_1
      replace o0_0 := o0_0.ext hE1_1
      replace o0_1 := o0_1.ext hE1_1
      replace hb8 := hb8.ext hE1_1
      rw [← hlo] at hfr
      have hl1 := hC.lt'
      have hM := Same.refl lo (Nat.le_refl H1_1.size)
      have z_hM := hM.lt
      refine ⟨fun _ _ => (Bks.cons o0_0.blk Bks.nil), ?_⟩
      refine RegD.one (i := 3) (by kernel_rfl) rfl rfl rfl rfl (Does.call rfl (copyType_ok hL (hS.ext hE) hm)) ?_
      rintro _ H1_3 ⟨A3, cap3, rfl, ho3, hE1_3⟩
      have z1_3 := hE1_3.lt
      replace hE := hE.ext hE1_3
      replace o0_0 := o0_0.ext hE1_3
      replace o0_1 := o0_1.ext hE1_3
      replace hb8 := hb8.ext hE1_3
      replace hM := hM.ext hE1_3
      have z_ho3 := ho3.lt
      refine ⟨fun h => (by cases h), ?_⟩
      refine RegD.tpur (i := 5) rfl rfl rfl rfl (by kernel_rfl) (Pur.asg rfl) ?_
      refine RegD.one0 (i := 6) (by kernel_rfl) rfl rfl rfl (Does.stn ag25 rfl rfl (by first | rfl | exact ones_Is _) (by first | rfl | (simp [*]; done)) hb8 (by first | decide | (simp; done) | (simp; omega) | omega)) ?_
      rintro _ H1_6 hu1_6
      have z1_6 := hu1_6.size
      replace hE := hE.upw hu1_6 (by omega)
      replace o0_0 := o0_0.upw hu1_6 (by omega)
      replace o0_1 := o0_1.upw hu1_6 (by omega)
      replace hM := hM.upw hu1_6 (by omega)
      replace ho3 := ho3.upw hu1_6 (by omega)
      replace hb8 := hu1_6.own
      first | rw [over (by first | rfl | (simp; done))] at hb8 | skip
      refine ⟨fun h => (by cases h), ?_⟩
      refine RegD.done (by kernel_rfl) ?_
      refine ⟨(A2, cap2, Cs, A3, cap3, _, H), ⟨hC.via hM.but (fun h0 g hg h => by have := hl1.1; have := hfr.1; omega) (fun b hb h0 g hg h => by have := hl1.2 b hb; have := hfr.2 b hb; omega), hpl, own_sl (wide9 hL) (by decide) ho3, hb8, hE, o0_0, o0_1⟩, ⟨rfl, rfl, rfl, rfl, rfl, trivial⟩⟩
  · obtain ⟨A2, cap2, Cs, A3, cap3, b8, H1⟩ := s
    obtain ⟨hC, hpl, hS3, hb8, hE, o0_0, o0_1⟩ := hs
    have hE1 := Ext.refl H_r1
    have z_hE := hE.lt
    have z_hE1 := hE1.lt
    have z_hb8 := hb8.lt
    have z_o0_0 := o0_0.lt
    have z_o0_1 := o0_1.lt
    refine At.region rfl rfl ?_
    refine Reg.pur rfl rfl rfl rfl (Pur.mv rfl) ?_
    refine Reg.lod rfl rfl rfl rfl (Lod.ldn ag25 rfl hb8.blk rfl rfl) ?_
    refine Reg.op rfl rfl rfl rfl (Does.call rfl (type_ok (hC.ext hE1) (hS3.ext hE1) hL hm)) ?_
    rintro v2_2 H2_2 ⟨hE2_2, hT2_2⟩
    have z2_2 := hE2_2.lt
    replace hE := hE.ext hE2_2
    replace hE1 := hE1.ext hE2_2
    replace hb8 := hb8.ext hE2_2
    replace o0_0 := o0_0.ext hE2_2
    replace o0_1 := o0_1.ext hE2_2
    have hsub := subT_pl hpl L
    rw [hsub] at hT2_2
    obtain ⟨A4, cap4, rfl, ho4, hN4, hl4⟩ := hT2_2
    have z_ho4 := ho4.lt
    refine Reg.pur rfl rfl rfl rfl (Pur.mv rfl) ?_
    refine Reg.pur rfl rfl rfl rfl (Pur.ext rfl rfl) ?_
    refine Reg.pur rfl rfl rfl rfl (Pur.ext rfl rfl) ?_
    refine Reg.op rfl rfl rfl rfl (Does.alloc zc25) ?_
    rintro _ H2_6 ⟨rfl, hn2_6⟩
    have z2_6 := hn2_6.size
    replace hE := hE.ext hn2_6.ext
    replace hE1 := hE1.ext hn2_6.ext
    replace hb8 := hb8.ext hn2_6.ext
    replace o0_0 := o0_0.ext hn2_6.ext
    replace o0_1 := o0_1.ext hn2_6.ext
    replace ho4 := ho4.ext hn2_6.ext
    have o2_6 := hn2_6.own
    refine Reg.op0 rfl rfl rfl (Does.stn ag25 rfl rfl (by first | rfl | exact ones_Is _) (by first | rfl | (simp [*]; done)) o2_6 (by first | decide | (simp; done) | (simp; omega) | omega)) ?_
    rintro _ H2_7 hu2_7
    have z2_7 := hu2_7.size
    replace hE := hE.upw hu2_7 (by omega)
    replace hE1 := hE1.upw hu2_7 (by omega)
    replace hb8 := hb8.upw hu2_7 (by omega)
    replace o0_0 := o0_0.upw hu2_7 (by omega)
    replace o0_1 := o0_1.upw hu2_7 (by omega)
    replace ho4 := ho4.upw hu2_7 (by omega)
    replace o2_6 := hu2_7.own
    first | rw [over (by first | rfl | (simp; done))] at o2_6 | skip
    refine Reg.pur rfl rfl rfl rfl (Pur.asg rfl) ?_
    refine Reg.nil ?_
    refine At.region rfl rfl ?_
    refine Reg.pur rfl rfl rfl rfl (Pur.mv rfl) ?_
    refine Reg.lod rfl rfl rfl rfl (Lod.ldn ag25 rfl o0_0.blk (by first | exact whole rfl | rfl | (simp only [List.drop_succ_cons, List.drop_zero, List.take_succ_cons, List.take_zero]; rfl)) (by first | rfl | (simp [*]; done))) ?_
    refine Reg.op rfl rfl rfl rfl (Does.call rfl (typeR_ok (hB.ext hE) (hS.ext hE) hL hm)) ?_
    rintro v3_2 H3_2 ⟨hE3_2, hT3_2⟩
    have z3_2 := hE3_2.lt
    replace hE := hE.ext hE3_2
    replace hE1 := hE1.ext hE3_2
    replace hb8 := hb8.ext hE3_2
    replace o0_0 := o0_0.ext hE3_2
    replace o0_1 := o0_1.ext hE3_2
    replace ho4 := ho4.ext hE3_2
    replace o2_6 := o2_6.ext hE3_2
    obtain ⟨A5, cap5, rfl, ho5, hN5, hl5⟩ := hT3_2
    have z_ho5 := ho5.lt
    refine Reg.pur rfl rfl rfl rfl (Pur.mv rfl) ?_
    refine Reg.pur rfl rfl rfl rfl (Pur.ext rfl rfl) ?_
    refine Reg.pur rfl rfl rfl rfl (Pur.ext rfl rfl) ?_
    refine Reg.op rfl rfl rfl rfl (Does.alloc zc25) ?_
    rintro _ H3_6 ⟨rfl, hn3_6⟩
    have z3_6 := hn3_6.size
    replace hE := hE.ext hn3_6.ext
    replace hE1 := hE1.ext hn3_6.ext
    replace hb8 := hb8.ext hn3_6.ext
    replace o0_0 := o0_0.ext hn3_6.ext
    replace o0_1 := o0_1.ext hn3_6.ext
    replace ho4 := ho4.ext hn3_6.ext
    replace o2_6 := o2_6.ext hn3_6.ext
    replace ho5 := ho5.ext hn3_6.ext
    have o3_6 := hn3_6.own
    refine Reg.op0 rfl rfl rfl (Does.stn ag25 rfl rfl (by first | rfl | exact ones_Is _) (by first | rfl | (simp [*]; done)) o3_6 (by first | decide | (simp; done) | (simp; omega) | omega)) ?_
    rintro _ H3_7 hu3_7
    have z3_7 := hu3_7.size
    replace hE := hE.upw hu3_7 (by omega)
    replace hE1 := hE1.upw hu3_7 (by omega)
    replace hb8 := hb8.upw hu3_7 (by omega)
    replace o0_0 := o0_0.upw hu3_7 (by omega)
    replace o0_1 := o0_1.upw hu3_7 (by omega)
    replace ho4 := ho4.upw hu3_7 (by omega)
    replace o2_6 := o2_6.upw hu3_7 (by omega)
    replace ho5 := ho5.upw hu3_7 (by omega)
    replace o3_6 := hu3_7.own
    first | rw [over (by first | rfl | (simp; done))] at o3_6 | skip
    refine Reg.pur rfl rfl rfl rfl (Pur.asg rfl) ?_
    refine Reg.nil ?_
    refine At.region rfl rfl ?_
    refine Reg.pur rfl rfl rfl rfl (Pur.mv rfl) ?_
    refine Reg.lod rfl rfl rfl rfl (Lod.ldn ag28 rfl o0_1.blk (whole hr') hr') ?_
    refine Reg.op rfl rfl rfl rfl (Does.call rfl (row_ok (hC.ext hE1) r hr)) ?_
    rintro _ H4_2 ⟨rfl, hl, hE4_2⟩
    have z4_2 := hE4_2.lt
    replace hE := hE.ext hE4_2
    replace hE1 := hE1.ext hE4_2
    replace hb8 := hb8.ext hE4_2
    replace o0_0 := o0_0.ext hE4_2
    replace o0_1 := o0_1.ext hE4_2
    replace ho4 := ho4.ext hE4_2
    replace o2_6 := o2_6.ext hE4_2
    replace ho5 := ho5.ext hE4_2
    replace o3_6 := o3_6.ext hE4_2
    rw [subR_pl hpl] at hl ⊢
    have hl' : (Is (subR Bs r).1).length = 5 := by simp [hl]
    have hfk := fks_ints .i64 (subR Bs r).1
    rw [hl] at hfk
    refine Reg.pur rfl rfl rfl rfl (Pur.mv rfl) ?_
    refine Reg.pur rfl rfl rfl rfl (Pur.ext rfl rfl) ?_
    refine Reg.pur rfl rfl rfl rfl (Pur.ext rfl rfl) ?_
    refine Reg.op rfl rfl rfl rfl (Does.alloc zc28) ?_
    rintro _ H4_6 ⟨rfl, hn4_6⟩
    have z4_6 := hn4_6.size
    replace hE := hE.ext hn4_6.ext
    replace hE1 := hE1.ext hn4_6.ext
    replace hb8 := hb8.ext hn4_6.ext
    replace o0_0 := o0_0.ext hn4_6.ext
    replace o0_1 := o0_1.ext hn4_6.ext
    replace ho4 := ho4.ext hn4_6.ext
    replace o2_6 := o2_6.ext hn4_6.ext
    replace ho5 := ho5.ext hn4_6.ext
    replace o3_6 := o3_6.ext hn4_6.ext
    have o4_6 := hn4_6.own
    refine Reg.op0 rfl rfl rfl (Does.stn ag28 rfl rfl (by first | rfl | exact ones_Is _) (by first | rfl | (simp [*]; done)) o4_6 (by first | decide | (simp; done) | (simp; omega) | omega)) ?_
    rintro _ H4_7 hu4_7
    have z4_7 := hu4_7.size
    replace hE := hE.upw hu4_7 (by omega)
    replace hE1 := hE1.upw hu4_7 (by omega)
    replace hb8 := hb8.upw hu4_7 (by omega)
    replace o0_0 := o0_0.upw hu4_7 (by omega)
    replace o0_1 := o0_1.upw hu4_7 (by omega)
    replace ho4 := ho4.upw hu4_7 (by omega)
    replace o2_6 := o2_6.upw hu4_7 (by omega)
    replace ho5 := ho5.upw hu4_7 (by omega)
    replace o3_6 := o3_6.upw hu4_7 (by omega)
    replace o4_6 := hu4_7.own
    first | rw [over (by first | rfl | (simp; done))] at o4_6 | skip
    refine Reg.pur rfl rfl rfl rfl (Pur.asg rfl) ?_
    refine Reg.nil ?_
    refine At.region rfl rfl ?_
    refine Reg.pur rfl rfl rfl rfl (Pur.mv rfl) ?_
    refine Reg.lod rfl rfl rfl rfl (Lod.ldn ag28 rfl o0_1.blk (whole hr') hr') ?_
    refine Reg.op rfl rfl rfl rfl (Does.call rfl (rowR_ok (hB.ext hE) r hr)) ?_
    rintro _ H5_2 ⟨rfl, _, hE5_2⟩
    have z5_2 := hE5_2.lt
    replace hE := hE.ext hE5_2
    replace hE1 := hE1.ext hE5_2
    replace hb8 := hb8.ext hE5_2
    replace o0_0 := o0_0.ext hE5_2
    replace o0_1 := o0_1.ext hE5_2
    replace ho4 := ho4.ext hE5_2
    replace o2_6 := o2_6.ext hE5_2
    replace ho5 := ho5.ext hE5_2
    replace o3_6 := o3_6.ext hE5_2
    replace o4_6 := o4_6.ext hE5_2
    refine Reg.pur rfl rfl rfl rfl (Pur.mv rfl) ?_
    refine Reg.pur rfl rfl rfl rfl (Pur.ext rfl rfl) ?_
    refine Reg.pur rfl rfl rfl rfl (Pur.ext rfl rfl) ?_
    refine Reg.op rfl rfl rfl rfl (Does.alloc zc28) ?_
    rintro _ H5_6 ⟨rfl, hn5_6⟩
    have z5_6 := hn5_6.size
    replace hE := hE.ext hn5_6.ext
    replace hE1 := hE1.ext hn5_6.ext
    replace hb8 := hb8.ext hn5_6.ext
    replace o0_0 := o0_0.ext hn5_6.ext
    replace o0_1 := o0_1.ext hn5_6.ext
    replace ho4 := ho4.ext hn5_6.ext
    replace o2_6 := o2_6.ext hn5_6.ext
    replace ho5 := ho5.ext hn5_6.ext
    replace o3_6 := o3_6.ext hn5_6.ext
    replace o4_6 := o4_6.ext hn5_6.ext
    have o5_6 := hn5_6.own
    refine Reg.op0 rfl rfl rfl (Does.stn ag28 rfl rfl (by first | rfl | exact ones_Is _) (by first | rfl | (simp [*]; done)) o5_6 (by first | decide | (simp; done) | (simp; omega) | omega)) ?_
    rintro _ H5_7 hu5_7
    have z5_7 := hu5_7.size
    replace hE := hE.upw hu5_7 (by omega)
    replace hE1 := hE1.upw hu5_7 (by omega)
    replace hb8 := hb8.upw hu5_7 (by omega)
    replace o0_0 := o0_0.upw hu5_7 (by omega)
    replace o0_1 := o0_1.upw hu5_7 (by omega)
    replace ho4 := ho4.upw hu5_7 (by omega)
    replace o2_6 := o2_6.upw hu5_7 (by omega)
    replace ho5 := ho5.upw hu5_7 (by omega)
    replace o3_6 := o3_6.upw hu5_7 (by omega)
    replace o4_6 := o4_6.upw hu5_7 (by omega)
    replace o5_6 := hu5_7.own
    first | rw [over (by first | rfl | (simp; done))] at o5_6 | skip
    refine Reg.pur rfl rfl rfl rfl (Pur.asg rfl) ?_
    refine Reg.nil ?_
    refine At.region rfl rfl ?_
    refine Reg.lod rfl rfl rfl rfl (Lod.ldn ag25 rfl o2_6.blk (by first | exact whole rfl | rfl | (simp only [List.drop_succ_cons, List.drop_zero, List.take_succ_cons, List.take_zero]; rfl)) (by first | rfl | (simp [*]; done))) ?_
    refine Reg.lod rfl rfl rfl rfl (Lod.ldn ag25 rfl o3_6.blk (by first | exact whole rfl | rfl | (simp only [List.drop_succ_cons, List.drop_zero, List.take_succ_cons, List.take_zero]; rfl)) (by first | rfl | (simp [*]; done))) ?_
    refine Reg.op rfl rfl rfl rfl (Does.call rfl (sameType_ok hN4 hN5 (own_sl (wide9 hN4) (by decide) ho4) (own_sl (wide9 hN5) (by decide) ho5) (by omega))) ?_
    rintro _ H6_2 ⟨rfl, hE6_2⟩
    have z6_2 := hE6_2.lt
    replace hE := hE.ext hE6_2
    replace hE1 := hE1.ext hE6_2
    replace hb8 := hb8.ext hE6_2
    replace o0_0 := o0_0.ext hE6_2
    replace o0_1 := o0_1.ext hE6_2
    replace ho4 := ho4.ext hE6_2
    replace o2_6 := o2_6.ext hE6_2
    replace ho5 := ho5.ext hE6_2
    replace o3_6 := o3_6.ext hE6_2
    replace o4_6 := o4_6.ext hE6_2
    replace o5_6 := o5_6.ext hE6_2
    refine Reg.pur rfl rfl rfl rfl (Pur.not rfl) ?_
    refine Reg.pur rfl rfl rfl rfl (Pur.mv rfl) ?_
    refine Reg.known (b' := false) 49 rfl (by first | rfl | simp) ?_
    refine Reg.gpur rfl rfl rfl rfl rfl rfl (Pur.mv rfl) ?_
    refine Reg.gop rfl rfl rfl rfl rfl rfl (Does.call rfl (numE_ok _ _)) ?_
    rintro _ H6_2 ⟨rfl, rfl⟩
    refine Reg.gpur rfl rfl rfl rfl rfl rfl (Pur.mv rfl) ?_
    refine Reg.gpur rfl rfl rfl rfl rfl rfl (Pur.neq rfl rfl) ?_
    refine Reg.pur rfl rfl rfl rfl (Pur.pickF rfl rfl) ?_
    refine Reg.pur rfl rfl rfl rfl (Pur.mv rfl) ?_
    refine Reg.known (b' := false) 55 rfl (by first | rfl | simp) ?_
    refine Reg.glod rfl rfl rfl rfl rfl rfl (Lod.ldn ag28 rfl o4_6.blk (whole hl') hl') ?_
    refine Reg.glod rfl rfl rfl rfl rfl rfl (Lod.ldn ag28 rfl o5_6.blk (whole hl') hl') ?_
    refine Reg.gpur rfl rfl rfl rfl rfl rfl (Pur.neA eqt28 rfl rfl hfk hfk) ?_
    refine Reg.pur rfl rfl rfl rfl (Pur.pickF rfl rfl) ?_
    refine Reg.pur rfl rfl rfl rfl (Pur.mv rfl) ?_
    refine Reg.known (b' := false) 60 rfl (by simp [eqs_self]) ?_
    refine Reg.gpur rfl rfl rfl rfl rfl rfl (Pur.mv rfl) ?_
    refine Reg.gop rfl rfl rfl rfl rfl rfl (Does.call rfl (numE_ok _ _)) ?_
    rintro _ H6_2 ⟨rfl, rfl⟩
    refine Reg.gpur rfl rfl rfl rfl rfl rfl (Pur.mv rfl) ?_
    refine Reg.gpur rfl rfl rfl rfl rfl rfl (Pur.neq rfl rfl) ?_
    refine Reg.pur rfl rfl rfl rfl (Pur.pickF rfl rfl) ?_
    refine Reg.nil ?_
    refine At.condF rfl rfl (by first | rfl | simp) ?_

    refine At.region rfl rfl ?_
    refine Reg.lod rfl rfl rfl rfl (Lod.ldn ag25 rfl o2_6.blk (by first | exact whole rfl | rfl | (simp only [List.drop_succ_cons, List.drop_zero, List.take_succ_cons, List.take_zero]; rfl)) (by first | rfl | (simp [*]; done))) ?_
    refine Reg.op rfl rfl rfl rfl (Does.call rfl (spoilO_ok hN4 (by omega) ho4)) ?_
    rintro _ H8_1 hbut8_1
    have z8_1 := hbut8_1.lt
    replace hE := hE.via hbut8_1 (by first | omega | (intro g; omega) | (intro g hg; omega) | (intro g hg h; omega))
    replace hE1 := hE1.via hbut8_1 (by first | omega | (intro g; omega) | (intro g hg; omega) | (intro g hg h; omega))
    replace hb8 := hb8.via hbut8_1 (by first | omega | (intro g; omega) | (intro g hg; omega) | (intro g hg h; omega))
    replace o0_0 := o0_0.via hbut8_1 (by first | omega | (intro g; omega) | (intro g hg; omega) | (intro g hg h; omega))
    replace o0_1 := o0_1.via hbut8_1 (by first | omega | (intro g; omega) | (intro g hg; omega) | (intro g hg h; omega))
    replace o2_6 := o2_6.via hbut8_1 (by first | omega | (intro g; omega) | (intro g hg; omega) | (intro g hg h; omega))
    replace ho5 := ho5.via hbut8_1 (by first | omega | (intro g; omega) | (intro g hg; omega) | (intro g hg h; omega))
    replace o3_6 := o3_6.via hbut8_1 (by first | omega | (intro g; omega) | (intro g hg; omega) | (intro g hg h; omega))
    replace o4_6 := o4_6.via hbut8_1 (by first | omega | (intro g; omega) | (intro g hg; omega) | (intro g hg h; omega))
    replace o5_6 := o5_6.via hbut8_1 (by first | omega | (intro g; omega) | (intro g hg; omega) | (intro g hg h; omega))
    refine Reg.nil ?_
    refine At.region rfl rfl ?_
    refine Reg.pur rfl rfl rfl rfl (Pur.mv rfl) ?_
    refine Reg.pur rfl rfl rfl rfl (Pur.mv rfl) ?_
    refine Reg.op rfl rfl rfl rfl (Does.call rfl (sameBinds_ok (hC.ext hE1) (hB.ext hE))) ?_
    rintro _ H9_2 ⟨rfl, hE9_2⟩
    have z9_2 := hE9_2.lt
    replace hE := hE.ext hE9_2
    replace hE1 := hE1.ext hE9_2
    replace hb8 := hb8.ext hE9_2
    replace o0_0 := o0_0.ext hE9_2
    replace o0_1 := o0_1.ext hE9_2
    replace o2_6 := o2_6.ext hE9_2
    replace ho5 := ho5.ext hE9_2
    replace o3_6 := o3_6.ext hE9_2
    replace o4_6 := o4_6.ext hE9_2
    replace o5_6 := o5_6.ext hE9_2
    refine Reg.pur rfl rfl rfl rfl (Pur.mv rfl) ?_
    refine Reg.known (b' := true) 71 rfl (by first | rfl | simp [hpl]) ?_
    refine Reg.glod rfl rfl rfl rfl rfl rfl (Lod.ldn ag25 rfl hb8.blk rfl rfl) ?_
    refine Reg.glod rfl rfl rfl rfl rfl rfl (Lod.ldn ag25 rfl o0_0.blk (by first | exact whole rfl | rfl | (simp only [List.drop_succ_cons, List.drop_zero, List.take_succ_cons, List.take_zero]; rfl)) (by first | rfl | (simp [*]; done))) ?_
    refine Reg.gop rfl rfl rfl rfl rfl rfl (Does.call rfl (sameType_ok hL hL (hS3.ext hE1) (hS.ext hE) (by omega))) ?_
    rintro _ H9_6 ⟨rfl, hE9_6⟩
    have z9_6 := hE9_6.lt
    replace hE := hE.ext hE9_6
    replace hE1 := hE1.ext hE9_6
    replace hb8 := hb8.ext hE9_6
    replace o0_0 := o0_0.ext hE9_6
    replace o0_1 := o0_1.ext hE9_6
    replace o2_6 := o2_6.ext hE9_6
    replace ho5 := ho5.ext hE9_6
    replace o3_6 := o3_6.ext hE9_6
    replace o4_6 := o4_6.ext hE9_6
    replace o5_6 := o5_6.ext hE9_6
    refine Reg.pur rfl rfl rfl rfl (Pur.pickT rfl rfl) ?_
    refine Reg.pur rfl rfl rfl rfl (Pur.mv rfl) ?_
    refine Reg.known (b' := true) 76 rfl (by first | rfl | simp [hpl]) ?_
    refine Reg.gop rfl rfl rfl rfl rfl rfl (Does.call rfl (awake9_ok _)) ?_
    rintro _ H9_9 ⟨rfl, hE9_9⟩
    have z9_9 := hE9_9.lt
    replace hE := hE.ext hE9_9
    replace hE1 := hE1.ext hE9_9
    replace hb8 := hb8.ext hE9_9
    replace o0_0 := o0_0.ext hE9_9
    replace o0_1 := o0_1.ext hE9_9
    replace o2_6 := o2_6.ext hE9_9
    replace ho5 := ho5.ext hE9_9
    replace o3_6 := o3_6.ext hE9_9
    replace o4_6 := o4_6.ext hE9_9
    replace o5_6 := o5_6.ext hE9_9
    refine Reg.pur rfl rfl rfl rfl (Pur.pickT rfl rfl) ?_
    refine Reg.pur rfl rfl rfl rfl (Pur.asg rfl) ?_
    refine Reg.nil ?_
    refine At.ret rfl Try.func3 rfl ?_
    exact ⟨rfl, hE⟩
end Go.Proofs.Ytlfillhffpiffaa

/-
  Binds that touch nothing let a type stay; the first bind counts.
-/
namespace Go.Proofs.Ytlfillhffpiffaa
set_option linter.unusedSimpArgs false
set_option linter.unusedVariables false
set_option maxRecDepth 8000
open Go Go.Fx Go.Proofs

theorem range_getD {i : Nat} {z : Int} (h0 : 0 ≤ z) (h1 : z < i) : ((List.range i).map fun n : Nat => (n : Int)).getD z.toNat 0 = z := by
  rw [List.getD_eq_getElem?_getD, List.getElem?_map, List.getElem?_range (by omega)]
  simp; omega
theorem funS_same {x : List Int} (hx : x.length = 9) : funS x (x.getD 2 0) (x.getD 3 0) (x.drop 4) = x := by
  match x, hx with
  | [k, v, a, b, c0, c1, c2, c3, t], _ => rfl
theorem more_same {Bs : List Bd} {out : List (List Int)} {x : List Int} {i : Nat} (hx : x.length = 9) (hf : x.getD 0 0 = 3 → x.getD 3 0 = (i : Int) - 1 ∧ 0 ≤ x.getD 2 0 ∧ x.getD 2 0 < (i : Int) - 1 ∧ 1 ≤ i)
    (h2 : x.getD 0 0 = 2 → Bs.find? (mt false (x.getD 1 0)) = none) (h3 : x.getD 0 0 = 3 → rowS Bs (x.drop 4) = (x.drop 4, true)) : moreS Bs out ((List.range i).map fun n : Nat => (n : Int)) x = some [x] := by
  unfold moreS
  split
  · rename_i h; rw [h2 h]
  · split
    · rename_i h
      have := hf h
      rw [h3 h, range_getD (by omega) (by omega), range_getD (by omega) (by omega)]
      simp only [if_true, funS_same hx]
    · rfl
theorem goS_same {Bs : List Bd} {L : List (List Int)} (hL : Nine L) (hM : typM L = true) (h2 : ∀ x ∈ L, x.getD 0 0 = 2 → Bs.find? (mt false (x.getD 1 0)) = none) (h3 : ∀ x ∈ L, x.getD 0 0 = 3 → rowS Bs (x.drop 4) = (x.drop 4, true)) :
    ∀ k i, i + k = L.length → goS Bs (L.drop i) (L.take i) ((List.range i).map fun n : Nat => (n : Int)) = some L
  | 0, i, h => by rw [List.drop_of_length_le (by omega), List.take_of_length_le (by omega)]; rfl
  | k + 1, i, h => by
    have hlt : i < L.length := by omega
    have hlen : L.length ≤ 256 := by unfold typM at hM; simp only [Bool.and_eq_true, decide_eq_true_eq] at hM; exact hM.1.1.2
    have hm := List.getElem_mem hlt
    have ih := goS_same hL hM h2 h3 k (i + 1) (by omega)
    rw [List.take_succ_eq_append_getElem hlt, List.range_succ, List.map_append] at ih
    rw [dropL hlt, goS, more_same (hL _ hm) (typM_all hM hlt) (h2 _ hm) (h3 _ hm)]
    dsimp only
    have hl : (L.take i).length + [L[i]].length = i + 1 := by simp; omega
    rw [hl, if_neg (by omega), show ((i + 1 : Nat) : Int) - 1 = (i : Int) by omega]
    exact ih
theorem typS_same {Bs : List Bd} {L : List (List Int)} (hL : Nine L) (hM : typM L = true) (h2 : ∀ x ∈ L, x.getD 0 0 = 2 → Bs.find? (mt false (x.getD 1 0)) = none) (h3 : ∀ x ∈ L, x.getD 0 0 = 3 → rowS Bs (x.drop 4) = (x.drop 4, true)) :
    typS Bs L = some L := goS_same hL hM h2 h3 L.length 0 (by omega)

/-- is a bind's variable there? -/
def inT (b : Bd) (x : List Int) : Bool := (!b.isRow && decide (x.getD 0 0 = 2) && decide (x.getD 1 0 = b.var)) || (b.isRow && decide (x.getD 0 0 = 3) && decide (x.getD 8 0 = b.var))
theorem drop4_tail {x : List Int} (hx : x.length = 9) : (x.drop 4).getD 4 0 = x.getD 8 0 := by
  match x, hx with
  | [k, v, a, b, c0, c1, c2, c3, t], _ => rfl
theorem typS_notin {Bs : List Bd} {L : List (List Int)} (hL : Nine L) (hM : typM L = true) (h : ∀ b ∈ Bs, L.any (inT b) = false) : typS Bs L = some L := by
  have key : ∀ b ∈ Bs, ∀ x ∈ L, inT b x = false := fun b hb x hx => by
    have := h b hb
    rw [List.any_eq_false] at this
    simpa using this x hx
  refine typS_same hL hM (fun x hx hk => ?_) (fun x hx hk => ?_)
  · rw [List.find?_eq_none]
    intro b hb hm
    have := key b hb x hx
    simp only [mt, Bool.and_eq_true, beq_iff_eq, decide_eq_true_eq] at hm
    unfold inT at this
    rw [hm.1, decide_eq_true hk, decide_eq_true hm.2.symm] at this
    cases this
  · refine rowS_none ?_
    rw [List.find?_eq_none]
    intro b hb hm
    have := key b hb x hx
    simp only [mt, Bool.and_eq_true, beq_iff_eq, decide_eq_true_eq, drop4_tail (hL x hx)] at hm
    unfold inT at this
    rw [hm.1, decide_eq_true hk, decide_eq_true hm.2.symm] at this
    simp at this

theorem goS_like {Bs Cs : List Bd} (P : List Int → Prop) (h : ∀ out ends x, P x → moreS Bs out ends x = moreS Cs out ends x) : ∀ (L out : List (List Int)) (ends : List Int), (∀ x ∈ L, P x) → goS Bs L out ends = goS Cs L out ends
  | [], _, _, _ => rfl
  | x :: L, out, ends, hP => by
    rw [goS, goS, h _ _ _ (hP x List.mem_cons_self)]
    split
    · rfl
    · split
      · rfl
      · exact goS_like P h L _ _ (fun y hy => hP y (List.mem_cons_of_mem _ hy))
theorem wrap0 {n : Int} (h : 0 ≤ n ∧ n ≤ 32) : IntKind.i64.wrap (n + 0) = n := by rw [Int.add_zero]; exact wrap_in (by omega)
theorem row_zero {r : List Int} (hr : r.length = 5) (hm : rowM r = true) : sumOk r [0, 0, 0, 0, r.getD 4 0] = true ∧ sumR r [0, 0, 0, 0, r.getD 4 0] = r := by
  match r, hr with
  | [a, b, c, d, t], _ =>
    simp only [rowM, List.take_succ_cons, List.take_zero, List.all_cons, List.all_nil, Bool.and_true, Bool.and_eq_true, okc, decide_eq_true_eq] at hm
    obtain ⟨⟨ha, hb, hc, hd⟩, _⟩ := hm
    have e0 : sm [a, b, c, d, t] [0, 0, 0, 0, [a, b, c, d, t].getD 4 0] 0 = a := wrap0 ha
    have e1 : sm [a, b, c, d, t] [0, 0, 0, 0, [a, b, c, d, t].getD 4 0] 1 = b := wrap0 hb
    have e2 : sm [a, b, c, d, t] [0, 0, 0, 0, [a, b, c, d, t].getD 4 0] 2 = c := wrap0 hc
    have e3 : sm [a, b, c, d, t] [0, 0, 0, 0, [a, b, c, d, t].getD 4 0] 3 = d := wrap0 hd
    constructor
    · rw [sumOk, show List.range 4 = [0, 1, 2, 3] from rfl]
      simp only [List.all_cons, List.all_nil, e0, e1, e2, e3, Bool.and_true, Bool.and_eq_true, decide_eq_true_eq]
      omega
    · rw [sumR, show List.range 4 = [0, 1, 2, 3] from rfl]
      simp only [List.map_cons, List.map_nil, e0, e1, e2, e3]
      rfl
theorem first_row {x : Int} {A B : Option Addr} {ca cb : Nat} {La Lb : List (List Int)} {r : List Int} (hr : r.length = 5) (hm : rowM r = true) :
    rowS [⟨x, true, none, 0, [], [0, 0, 0, 0, x]⟩, ⟨x, false, A, ca, La, noRow⟩, ⟨x, false, B, cb, Lb, noRow⟩, ⟨x, true, none, 0, [], [0, 0, 0, 0, -1]⟩] r = (r, true) := by
  by_cases h0 : r.getD 4 0 < 0
  · exact rowS_lo h0
  · by_cases hx : x = r.getD 4 0
    · subst hx
      have := row_zero hr hm
      rw [rowS_sum h0 (bd := ⟨r.getD 4 0, true, none, 0, [], [0, 0, 0, 0, r.getD 4 0]⟩) (by simp [mt]) this.1, this.2]
    · exact rowS_none (by generalize r.getD 4 0 = z at hx; simp [mt, hx])
theorem one_row {x : Int} {A : Option Addr} {ca : Nat} {La : List (List Int)} {r : List Int} : rowS [⟨x, false, A, ca, La, noRow⟩] r = (r, true) := by
  by_cases h0 : r.getD 4 0 < 0
  · exact rowS_lo h0
  · exact rowS_none (by simp [mt])
theorem nodM_row {x : List Int} (h : nodM x = true) (h3 : x.getD 0 0 = 3) : rowM (x.drop 4) = true := by
  unfold nodM at h; rw [if_pos h3] at h; simp only [Bool.and_eq_true] at h; exact h.1
theorem typM_all_nod {L : List (List Int)} (h : typM L = true) : ∀ x ∈ L, nodM x = true := by
  unfold typM at h; simp only [Bool.and_eq_true, List.all_eq_true] at h; exact h.1.2
/-- the first bind of a variable counts -/
theorem first_typ {x : Int} (h0 : 0 ≤ x ∧ x ≤ 3) {A B : Option Addr} {ca cb : Nat} {La Lb L : List (List Int)} (hL : Nine L) (hb : typM Lb = true) :
    subT [⟨x, true, none, 0, [], [0, 0, 0, 0, x]⟩, ⟨x, false, A, ca, La, noRow⟩, ⟨x, false, B, cb, Lb, noRow⟩, ⟨x, true, none, 0, [], [0, 0, 0, 0, -1]⟩] L = subT [⟨x, false, A, ca, La, noRow⟩] L := by
  have hr1 : rowM [0, 0, 0, 0, x] = true := by simp [rowM, okc]; omega
  have hr2 : rowM [0, 0, 0, 0, -1] = true := by decide
  have hx : decide (0 ≤ x ∧ x < 4096) = true := decide_eq_true (by omega)
  have hB : bindsM [⟨x, true, none, 0, [], [0, 0, 0, 0, x]⟩, ⟨x, false, A, ca, La, noRow⟩, ⟨x, false, B, cb, Lb, noRow⟩, ⟨x, true, none, 0, [], [0, 0, 0, 0, -1]⟩] = bindsM [⟨x, false, A, ca, La, noRow⟩] := by
    simp [bindsM, bindM, hr1, hr2, hx, hb]
  unfold subT
  rw [hB]
  split
  · rename_i h
    have hn := typM_all_nod h.2
    refine goS_like (fun y => nodM y = true ∧ y.length = 9) (fun out ends y hy => ?_) L [] [] (fun y hy => ⟨hn y hy, hL y hy⟩)
    unfold moreS
    split
    · generalize y.getD 1 0 = z
      by_cases hv : x = z <;> simp [mt, hv]
    · split
      · rename_i h3
        rw [first_row (by simp [hy.2]) (nodM_row hy.1 h3), one_row]
      · rfl
  · rfl
theorem bad_typ {Bs : List Bd} {L : List (List Int)} {b : Bd} (hb : b ∈ Bs) (h : bindM b = false) : subT Bs L = none := by
  unfold subT
  rw [if_neg]
  rintro ⟨h1, _⟩
  unfold bindsM at h1
  simp only [Bool.and_eq_true, List.all_eq_true] at h1
  rw [h1.2 b hb] at h; cases h
theorem bad_row {Bs : List Bd} {r : List Int} {b : Bd} (hb : b ∈ Bs) (h : bindM b = false) : subR Bs r = (noRow, false) := by
  unfold subR
  rw [if_neg]
  rintro ⟨h1, _⟩
  unfold bindsM at h1
  simp only [Bool.and_eq_true, List.all_eq_true] at h1
  rw [h1.2 b hb] at h; cases h
end Go.Proofs.Ytlfillhffpiffaa
