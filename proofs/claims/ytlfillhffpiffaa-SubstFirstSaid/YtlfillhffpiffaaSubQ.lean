/-
  Chapter 9: substs; arguments that are types, binds.
-/
import Derived.Test.YtlfillhffpiffaaSubP
import Derived.Test.YtlfillhffpiffaaFxR
import Derived.Test.YtlfillhffpiffaaFxN
namespace Go.Proofs.Ytlfillhffpiffaa
set_option linter.unusedSimpArgs false
set_option linter.unusedVariables false
set_option maxRecDepth 8000
open Go Go.Fx Go.Proofs
namespace FactsSubQ
theorem ag25 : ag Try.prog 25 = some 1 := by kernel_rfl
theorem ag28 : ag Try.prog 28 = some 5 := by kernel_rfl
theorem eqt28 : eqT Try.prog 28 = some [.int .i64, .int .i64, .int .i64, .int .i64, .int .i64] := by kernel_rfl
theorem mixed : Try.prog.follows .mixedOrders = true := by kernel_rfl
theorem zc25 : zc Try.prog 25 = some [.slice none 0 0] := by kernel_rfl
theorem zc28 : zc Try.prog 28 = some [.int .i64 0, .int .i64 0, .int .i64 0, .int .i64 0, .int .i64 0] := by kernel_rfl
end FactsSubQ
open FactsSubQ

theorem type_of_fits {H : Heap} {v : Value} (h : fitc H (.sl 72 (List.replicate 9 (.int .i64))) v) : ∃ (A : Option Addr) (cap : Nat) (L : List (List Int)), v = .slice A L.length cap ∧ Nine L ∧ SlT H Is 9 (.slice A L.length cap) L ∧ L.length * 72 ≤ 140737488351232 := by
  obtain ⟨L, hL, hS, hb⟩ := SlT.of_fits (p := fun x : List Int => x.length = 9) (enc := Is) h (fun cs h => by obtain ⟨xs, rfl, hl, _⟩ := fit_ints h; exact ⟨xs, hl, rfl⟩)
  have hS' := hS
  obtain ⟨A, cap, rfl, _⟩ := hS'
  exact ⟨A, cap, L, rfl, hL, hS, by rw [show reachBytes = 140737488351232 from rfl] at hb; omega⟩
theorem bd_of_fits {H : Heap} {cs : List Value} (h : fits H (.int .i64 :: .bool :: .sl 72 (List.replicate 9 (.int .i64)) :: List.replicate 5 (.int .i64)) cs) : ∃ b : Bd, b.Ok H ∧ cs = encB b := by
  simp only [fits] at h
  obtain ⟨v1, r1, rfl, h1, v2, r2, rfl, h2, v3, r3, rfl, h3, h4⟩ := h
  simp only [fitc] at h1 h2
  obtain ⟨n, rfl, _⟩ := h1
  obtain ⟨b, rfl⟩ := h2
  obtain ⟨A, cap, L, rfl, hL, hS, hb⟩ := type_of_fits h3
  obtain ⟨xs, rfl, hl, _⟩ := fit_ints h4
  exact ⟨⟨n, b, A, cap, L, xs⟩, ⟨hS, hL, hl, hb⟩, rfl⟩
theorem binds_of_fits {H : Heap} {v : Value} (h : fitc H (.sl 80 (.int .i64 :: .bool :: .sl 72 (List.replicate 9 (.int .i64)) :: List.replicate 5 (.int .i64))) v) : ∃ (A : Option Addr) (cap : Nat) (Bs : List Bd), v = .slice A Bs.length cap ∧ Bds H (.slice A Bs.length cap) Bs := by
  obtain ⟨L, hL, hS, hb⟩ := SlT.of_fits (p := fun b : Bd => b.Ok H) (enc := encB) h (fun cs h => bd_of_fits h)
  have hS' := hS
  obtain ⟨A, cap, rfl, _⟩ := hS'
  exact ⟨A, cap, L, rfl, ⟨hS, hL, by rw [show reachBytes = 140737488351232 from rfl] at hb; omega⟩⟩

theorem eqs_self (x : List Int) : eqs (Is x) (Is x) = true := by rw [eqs_ints]; simp
theorem substs_law {A A1 : Option Addr} {cap cap1 : Nat} {Bs : List Bd} {L : List (List Int)} {H : Heap} (hB : Bds H (.slice A Bs.length cap) Bs) (hS : SlT H Is 9 (.slice A1 L.length cap1) L) (hL : Nine L) (hm : L.length * 72 ≤ 140737488351232) (r : List Int) (hr : r.length = 5) :
    Ret Try.prog 3 [.slice A Bs.length cap, Ty A1 L.length cap1, .agg (Is r).toArray] H (fun v H' => v = .bool true ∧ Ext H H') := by
  have hr' : (Is r).length = 5 := by simp [hr]
  refine Ret.of_at (N := 79) Try.call3 Try.func3 rfl rfl rfl ?_
  have hE := Ext.refl H
  refine At.region rfl rfl ?_
  refine Reg.op rfl rfl rfl rfl (Does.box rfl rfl) ?_
  rintro _ H0_0 ⟨rfl, hn0_0⟩
  have z0_0 := hn0_0.size
  replace hE := hE.ext hn0_0.ext
  have o0_0 := hn0_0.own
  refine Reg.op rfl rfl rfl rfl (Does.box rfl rfl) ?_
  rintro _ H0_1 ⟨rfl, hn0_1⟩
  have z0_1 := hn0_1.size
  replace hE := hE.ext hn0_1.ext
  replace o0_0 := o0_0.ext hn0_1.ext
  have o0_1 := hn0_1.own
  refine Reg.pur rfl rfl rfl rfl (Pur.asg rfl) ?_
  refine Reg.nil ?_
  refine At.drawJ (σ := Option Addr × Nat × List Bd × Option Addr × Nat × Nat × Heap) (fun (A2, cap2, Cs, A3, cap3, b8, H1) => [(7, .slice A2 Cs.length cap2), (8, ptr b8 0), (0, .slice A Bs.length cap), (4, ptr H.size 0), (5, ptr H0_0.size 0)]) (fun (A2, cap2, Cs, A3, cap3, b8, H1) H' => Bds H' (.slice A2 Cs.length cap2) Cs ∧ Cs.map pl = Bs.map pl ∧ SlT H' Is 9 (.slice A3 L.length cap3) L ∧ Own H' b8 [.slice A3 L.length cap3] ∧ Ext H H' ∧ Own H' H.size [.slice A1 L.length cap1] ∧ Own H' H0_0.size (Is r)) ((Bks.cons o0_0.blk Bks.nil)) [3, 6] mixed rfl rfl ?_ (fun s H_r1 hs => ?_)
  · refine RegD.tpur (i := 0) rfl rfl rfl rfl (by kernel_rfl) (Pur.mv rfl) ?_
    refine RegD.take (i := 2) rfl rfl rfl rfl (by kernel_rfl) (Bks.cons o0_0.blk Bks.nil) (fun H hS => Lod.ldn ag25 rfl hS.hd (by first | exact whole rfl | rfl | (simp only [List.drop_succ_cons, List.drop_zero, List.take_succ_cons, List.take_zero]; rfl)) (by first | rfl | (simp [*]; done))) ?_
    refine RegD.fork2 (i := 1) (j := 4) (by kernel_rfl) ?_ ?_
    · obtain ⟨lo, hlo⟩ : ∃ lo, lo = H0_1.size := ⟨_, rfl⟩
      refine RegOp.one (i := 1) rfl rfl rfl rfl (Does.call rfl (copyBinds_ok (hB.ext hE))) ?_
      rintro _ H1_1 ⟨A2, cap2, Cs, rfl, hC, hpl, hfr, hE1_1⟩
      have z1_1 := hE1_1.lt
      replace hE := hE.ext hE1_1
      replace o0_0 := o0_0.ext hE1_1
      replace o0_1 := o0_1.ext hE1_1
      rw [← hlo] at hfr
      have hl1 := hC.lt'
      have hM := Same.refl lo (Nat.le_refl H1_1.size)
      have z_hM := hM.lt
      refine ⟨fun _ _ => (Bks.cons o0_0.blk Bks.nil), ?_⟩
      refine RegD.fork2 (i := 3) (j := 4) (by kernel_rfl) ?_ ?_
      · refine RegOp.one (i := 3) rfl rfl rfl rfl (Does.call rfl (copyType_ok hL (hS.ext hE) hm)) ?_
        rintro _ H1_3 ⟨A3, cap3, rfl, ho3, hE1_3⟩
        have z1_3 := hE1_3.lt
        replace hE := hE.ext hE1_3
        replace o0_0 := o0_0.ext hE1_3
        replace o0_1 := o0_1.ext hE1_3
        replace hM := hM.ext hE1_3
        have z_ho3 := ho3.lt
        refine ⟨fun h => (by cases h), ?_⟩
        refine RegD.one (i := 4) (by kernel_rfl) rfl rfl rfl rfl (Does.alloc zc25) ?_
        rintro _ H1_4 ⟨rfl, hn1_4⟩
        have z1_4 := hn1_4.size
        replace hE := hE.ext hn1_4.ext
        replace o0_0 := o0_0.ext hn1_4.ext
        replace o0_1 := o0_1.ext hn1_4.ext
        replace hM := hM.ext hn1_4.ext
        replace ho3 := ho3.ext hn1_4.ext
        have hb8 := hn1_4.own
        refine ⟨fun _ _ => (Bks.cons o0_0.blk Bks.nil), ?_⟩
        refine RegD.tpur (i := 5) rfl rfl rfl rfl (by kernel_rfl) (Pur.asg rfl) ?_
        refine RegD.one0 (i := 6) (by kernel_rfl) rfl rfl rfl (Does.stn ag25 rfl rfl (by first | rfl | exact ones_Is _) (by first | rfl | (simp [*]; done)) hb8 (by first | decide | (simp; done) | (simp; omega) | omega)) ?_
        rintro _ H1_6 hu1_6
        have z1_6 := hu1_6.size
        replace hE := hE.upw hu1_6 (by omega)
        replace o0_0 := o0_0.upw hu1_6 (by omega)
        replace o0_1 := o0_1.upw hu1_6 (by omega)
        replace hM := hM.upw hu1_6 (by omega)
        replace ho3 := ho3.upw hu1_6 (by omega)
        replace hb8 := hu1_6.own
        first | rw [over (by first | rfl | (simp; done))] at hb8 | skip
        refine ⟨fun h => (by cases h), ?_⟩
        refine RegD.done (by kernel_rfl) ?_
        refine ⟨(A2, cap2, Cs, A3, cap3, _, H), ⟨hC.via hM.but (fun h0 g hg h => by have := hl1.1; have := hfr.1; omega) (fun b hb h0 g hg h => by have := hl1.2 b hb; have := hfr.2 b hb; omega), hpl, own_sl (wide9 hL) (by decide) ho3, hb8, hE, o0_0, o0_1⟩, ⟨rfl, rfl, rfl, rfl, rfl, trivial⟩⟩
      · refine RegOp.one (i := 4) rfl rfl rfl rfl (Does.alloc zc25) ?_
        rintro _ H1_4 ⟨rfl, hn1_4⟩
        have z1_4 := hn1_4.size
        replace hE := hE.ext hn1_4.ext
        replace o0_0 := o0_0.ext hn1_4.ext
        replace o0_1 := o0_1.ext hn1_4.ext
        replace hM := hM.ext hn1_4.ext
        have hb8 := hn1_4.own
        refine ⟨fun _ _ => (Bks.cons o0_0.blk Bks.nil), ?_⟩
        refine RegD.one (i := 3) (by kernel_rfl) rfl rfl rfl rfl (Does.call rfl (copyType_ok hL (hS.ext hE) hm)) ?_
        rintro _ H1_3 ⟨A3, cap3, rfl, ho3, hE1_3⟩
        have z1_3 := hE1_3.lt
        replace hE := hE.ext hE1_3
        replace o0_0 := o0_0.ext hE1_3
        replace o0_1 := o0_1.ext hE1_3
        replace hM := hM.ext hE1_3
        replace hb8 := hb8.ext hE1_3
        have z_ho3 := ho3.lt
        refine ⟨fun h => (by cases h), ?_⟩
        refine RegD.tpur (i := 5) rfl rfl rfl rfl (by kernel_rfl) (Pur.asg rfl) ?_
        refine RegD.one0 (i := 6) (by kernel_rfl) rfl rfl rfl (Does.stn ag25 rfl rfl (by first | rfl | exact ones_Is _) (by first | rfl | (simp [*]; done)) hb8 (by first | decide | (simp; done) | (simp; omega) | omega)) ?_
        rintro _ H1_6 hu1_6
        have z1_6 := hu1_6.size
        replace hE := hE.upw hu1_6 (by omega)
        replace o0_0 := o0_0.upw hu1_6 (by omega)
        replace o0_1 := o0_1.upw hu1_6 (by omega)
        replace hM := hM.upw hu1_6 (by omega)
        replace ho3 := ho3.upw hu1_6 (by omega)
        replace hb8 := hu1_6.own
        first | rw [over (by first | rfl | (simp; done))] at hb8 | skip
        refine ⟨fun h => (by cases h), ?_⟩
        refine RegD.done (by kernel_rfl) ?_
        refine ⟨(A2, cap2, Cs, A3, cap3, _, H), ⟨hC.via hM.but (fun h0 g hg h => by have := hl1.1; have := hfr.1; omega) (fun b hb h0 g hg h => by have := hl1.2 b hb; have := hfr.2 b hb; omega), hpl, own_sl (wide9 hL) (by decide) ho3, hb8, hE, o0_0, o0_1⟩, ⟨rfl, rfl, rfl, rfl, rfl, trivial⟩⟩
    · refine RegOp.one (i := 4) rfl rfl rfl rfl (Does.alloc zc25) ?_
      rintro _ H1_4 ⟨rfl, hn1_4⟩
      have z1_4 := hn1_4.size
      replace hE := hE.ext hn1_4.ext
      replace o0_0 := o0_0.ext hn1_4.ext
      replace o0_1 := o0_1.ext hn1_4.ext
      have hb8 := hn1_4.own
      refine ⟨fun _ _ => (Bks.cons o0_0.blk Bks.nil), ?_⟩
      obtain ⟨lo, hlo⟩ : ∃ lo, lo = H1_4.size := ⟨_, rfl⟩
      refine RegD.one (i := 1) (by kernel_rfl) rfl rfl rfl rfl (Does.call rfl (copyBinds_ok (hB.ext hE))) ?_
      rintro _ H1_1 ⟨A2, cap2, Cs, rfl, hC, hpl, hfr, hE1_1⟩
      have z1_1 := hE1_1.lt
      replace hE := hE.ext hE1_1
      replace o0_0 := o0_0.ext hE1_1
      replace o0_1 := o0_1.ext hE1_1
      replace hb8 := hb8.ext hE1_1
      rw [← hlo] at hfr
      have hl1 := hC.lt'
      have hM := Same.refl lo (Nat.le_refl H1_1.size)
      have z_hM := hM.lt
      refine ⟨fun _ _ => (Bks.cons o0_0.blk Bks.nil), ?_⟩
      refine RegD.one (i := 3) (by kernel_rfl) rfl rfl rfl rfl (Does.call rfl (copyType_ok hL (hS.ext hE) hm)) ?_
      rintro _ H1_3 ⟨A3, cap3, rfl, ho3, hE1_3⟩
      have z1_3 := hE1_3.lt
      replace hE := hE.ext hE1_3
      replace o0_0 := o0_0.ext hE1_3
      replace o0_1 := o0_1.ext hE1_3
      replace hb8 := hb8.ext hE1_3
      replace hM := hM.ext hE1_3
      have z_ho3 := ho3.lt
      refine ⟨fun h => (by cases h), ?_⟩
      refine RegD.tpur (i := 5) rfl rfl rfl rfl (by kernel_rfl) (Pur.asg rfl) ?_
      refine RegD.one0 (i := 6) (by kernel_rfl) rfl rfl rfl (Does.stn ag25 rfl rfl (by first | rfl | exact ones_Is _) (by first | rfl | (simp [*]; done)) hb8 (by first | decide | (simp; done) | (simp; omega) | omega)) ?_
      rintro _ H1_6 hu1_6
      have z1_6 := hu1_6.size
      replace hE := hE.upw hu1_6 (by omega)
      replace o0_0 := o0_0.upw hu1_6 (by omega)
      replace o0_1 := o0_1.upw hu1_6 (by omega)
      replace hM := hM.upw hu1_6 (by omega)
      replace ho3 := ho3.upw hu1_6 (by omega)
      replace hb8 := hu1_6.own
      first | rw [over (by first | rfl | (simp; done))] at hb8 | skip
      refine ⟨fun h => (by cases h), ?_⟩
      refine RegD.done (by kernel_rfl) ?_
      refine ⟨(A2, cap2, Cs, A3, cap3, _, H), ⟨hC.via hM.but (fun h0 g hg h => by have := hl1.1; have := hfr.1; omega) (fun b hb h0 g hg h => by have := hl1.2 b hb; have := hfr.2 b hb; omega), hpl, own_sl (wide9 hL) (by decide) ho3, hb8, hE, o0_0, o0_1⟩, ⟨rfl, rfl, rfl, rfl, rfl, trivial⟩⟩
  · obtain ⟨A2, cap2, Cs, A3, cap3, b8, H1⟩ := s
    obtain ⟨hC, hpl, hS3, hb8, hE, o0_0, o0_1⟩ := hs
    have hE1 := Ext.refl H_r1
    have z_hE := hE.lt
    have z_hE1 := hE1.lt
    have z_hb8 := hb8.lt
    have z_o0_0 := o0_0.lt
    have z_o0_1 := o0_1.lt
    refine At.region rfl rfl ?_
    refine Reg.pur rfl rfl rfl rfl (Pur.mv rfl) ?_
    refine Reg.lod rfl rfl rfl rfl (Lod.ldn ag25 rfl hb8.blk rfl rfl) ?_
    refine Reg.op rfl rfl rfl rfl (Does.call rfl (type_ok (hC.ext hE1) (hS3.ext hE1) hL hm)) ?_
    rintro v2_2 H2_2 ⟨hE2_2, hT2_2⟩
    have z2_2 := hE2_2.lt
    replace hE := hE.ext hE2_2
    replace hE1 := hE1.ext hE2_2
    replace hb8 := hb8.ext hE2_2
    replace o0_0 := o0_0.ext hE2_2
    replace o0_1 := o0_1.ext hE2_2
    have hsub := subT_pl hpl L
    rw [hsub] at hT2_2
    obtain ⟨A4, cap4, rfl, ho4, hN4, hl4⟩ := hT2_2
    have z_ho4 := ho4.lt
    refine Reg.pur rfl rfl rfl rfl (Pur.mv rfl) ?_
    refine Reg.pur rfl rfl rfl rfl (Pur.ext rfl rfl) ?_
    refine Reg.pur rfl rfl rfl rfl (Pur.ext rfl rfl) ?_
    refine Reg.op rfl rfl rfl rfl (Does.alloc zc25) ?_
    rintro _ H2_6 ⟨rfl, hn2_6⟩
    have z2_6 := hn2_6.size
    replace hE := hE.ext hn2_6.ext
    replace hE1 := hE1.ext hn2_6.ext
    replace hb8 := hb8.ext hn2_6.ext
    replace o0_0 := o0_0.ext hn2_6.ext
    replace o0_1 := o0_1.ext hn2_6.ext
    replace ho4 := ho4.ext hn2_6.ext
    have o2_6 := hn2_6.own
    refine Reg.op0 rfl rfl rfl (Does.stn ag25 rfl rfl (by first | rfl | exact ones_Is _) (by first | rfl | (simp [*]; done)) o2_6 (by first | decide | (simp; done) | (simp; omega) | omega)) ?_
    rintro _ H2_7 hu2_7
    have z2_7 := hu2_7.size
    replace hE := hE.upw hu2_7 (by omega)
    replace hE1 := hE1.upw hu2_7 (by omega)
    replace hb8 := hb8.upw hu2_7 (by omega)
    replace o0_0 := o0_0.upw hu2_7 (by omega)
    replace o0_1 := o0_1.upw hu2_7 (by omega)
    replace ho4 := ho4.upw hu2_7 (by omega)
    replace o2_6 := hu2_7.own
    first | rw [over (by first | rfl | (simp; done))] at o2_6 | skip
    refine Reg.pur rfl rfl rfl rfl (Pur.asg rfl) ?_
    refine Reg.nil ?_
    refine At.region rfl rfl ?_
    refine Reg.pur rfl rfl rfl rfl (Pur.mv rfl) ?_
    refine Reg.lod rfl rfl rfl rfl (Lod.ldn ag25 rfl o0_0.blk (by first | exact whole rfl | rfl | (simp only [List.drop_succ_cons, List.drop_zero, List.take_succ_cons, List.take_zero]; rfl)) (by first | rfl | (simp [*]; done))) ?_
    refine Reg.op rfl rfl rfl rfl (Does.call rfl (typeR_ok (hB.ext hE) (hS.ext hE) hL hm)) ?_
    rintro v3_2 H3_2 ⟨hE3_2, hT3_2⟩
    have z3_2 := hE3_2.lt
    replace hE := hE.ext hE3_2
    replace hE1 := hE1.ext hE3_2
    replace hb8 := hb8.ext hE3_2
    replace o0_0 := o0_0.ext hE3_2
    replace o0_1 := o0_1.ext hE3_2
    replace ho4 := ho4.ext hE3_2
    replace o2_6 := o2_6.ext hE3_2
    obtain ⟨A5, cap5, rfl, ho5, hN5, hl5⟩ := hT3_2
    have z_ho5 := ho5.lt
    refine Reg.pur rfl rfl rfl rfl (Pur.mv rfl) ?_
    refine Reg.pur rfl rfl rfl rfl (Pur.ext rfl rfl) ?_
    refine Reg.pur rfl rfl rfl rfl (Pur.ext rfl rfl) ?_
    refine Reg.op rfl rfl rfl rfl (Does.alloc zc25) ?_
    rintro _ H3_6 ⟨rfl, hn3_6⟩
    have z3_6 := hn3_6.size
    replace hE := hE.ext hn3_6.ext
    replace hE1 := hE1.ext hn3_6.ext
    replace hb8 := hb8.ext hn3_6.ext
    replace o0_0 := o0_0.ext hn3_6.ext
    replace o0_1 := o0_1.ext hn3_6.ext
    replace ho4 := ho4.ext hn3_6.ext
    replace o2_6 := o2_6.ext hn3_6.ext
    replace ho5 := ho5.ext hn3_6.ext
    have o3_6 := hn3_6.own
    refine Reg.op0 rfl rfl rfl (Does.stn ag25 rfl rfl (by first | rfl | exact ones_Is _) (by first | rfl | (simp [*]; done)) o3_6 (by first | decide | (simp; done) | (simp; omega) | omega)) ?_
    rintro _ H3_7 hu3_7
    have z3_7 := hu3_7.size
    replace hE := hE.upw hu3_7 (by omega)
    replace hE1 := hE1.upw hu3_7 (by omega)
    replace hb8 := hb8.upw hu3_7 (by omega)
    replace o0_0 := o0_0.upw hu3_7 (by omega)
    replace o0_1 := o0_1.upw hu3_7 (by omega)
    replace ho4 := ho4.upw hu3_7 (by omega)
    replace o2_6 := o2_6.upw hu3_7 (by omega)
    replace ho5 := ho5.upw hu3_7 (by omega)
    replace o3_6 := hu3_7.own
    first | rw [over (by first | rfl | (simp; done))] at o3_6 | skip
    refine Reg.pur rfl rfl rfl rfl (Pur.asg rfl) ?_
    refine Reg.nil ?_
    refine At.region rfl rfl ?_
    refine Reg.pur rfl rfl rfl rfl (Pur.mv rfl) ?_
    refine Reg.lod rfl rfl rfl rfl (Lod.ldn ag28 rfl o0_1.blk (whole hr') hr') ?_
    refine Reg.op rfl rfl rfl rfl (Does.call rfl (row_ok (hC.ext hE1) r hr)) ?_
    rintro _ H4_2 ⟨rfl, hl, hE4_2⟩
    have z4_2 := hE4_2.lt
    replace hE := hE.ext hE4_2
    replace hE1 := hE1.ext hE4_2
    replace hb8 := hb8.ext hE4_2
    replace o0_0 := o0_0.ext hE4_2
    replace o0_1 := o0_1.ext hE4_2
    replace ho4 := ho4.ext hE4_2
    replace o2_6 := o2_6.ext hE4_2
    replace ho5 := ho5.ext hE4_2
    replace o3_6 := o3_6.ext hE4_2
    rw [subR_pl hpl] at hl ⊢
    have hl' : (Is (subR Bs r).1).length = 5 := by simp [hl]
    have hfk := fks_ints .i64 (subR Bs r).1
    rw [hl] at hfk
    refine Reg.pur rfl rfl rfl rfl (Pur.mv rfl) ?_
    refine Reg.pur rfl rfl rfl rfl (Pur.ext rfl rfl) ?_
    refine Reg.pur rfl rfl rfl rfl (Pur.ext rfl rfl) ?_
    refine Reg.op rfl rfl rfl rfl (Does.alloc zc28) ?_
    rintro _ H4_6 ⟨rfl, hn4_6⟩
    have z4_6 := hn4_6.size
    replace hE := hE.ext hn4_6.ext
    replace hE1 := hE1.ext hn4_6.ext
    replace hb8 := hb8.ext hn4_6.ext
    replace o0_0 := o0_0.ext hn4_6.ext
    replace o0_1 := o0_1.ext hn4_6.ext
    replace ho4 := ho4.ext hn4_6.ext
    replace o2_6 := o2_6.ext hn4_6.ext
    replace ho5 := ho5.ext hn4_6.ext
    replace o3_6 := o3_6.ext hn4_6.ext
    have o4_6 := hn4_6.own
    refine Reg.op0 rfl rfl rfl (Does.stn ag28 rfl rfl (by first | rfl | exact ones_Is _) (by first | rfl | (simp [*]; done)) o4_6 (by first | decide | (simp; done) | (simp; omega) | omega)) ?_
    rintro _ H4_7 hu4_7
    have z4_7 := hu4_7.size
    replace hE := hE.upw hu4_7 (by omega)
    replace hE1 := hE1.upw hu4_7 (by omega)
    replace hb8 := hb8.upw hu4_7 (by omega)
    replace o0_0 := o0_0.upw hu4_7 (by omega)
    replace o0_1 := o0_1.upw hu4_7 (by omega)
    replace ho4 := ho4.upw hu4_7 (by omega)
    replace o2_6 := o2_6.upw hu4_7 (by omega)
    replace ho5 := ho5.upw hu4_7 (by omega)
    replace o3_6 := o3_6.upw hu4_7 (by omega)
    replace o4_6 := hu4_7.own
    first | rw [over (by first | rfl | (simp; done))] at o4_6 | skip
    refine Reg.pur rfl rfl rfl rfl (Pur.asg rfl) ?_
    refine Reg.nil ?_
    refine At.region rfl rfl ?_
    refine Reg.pur rfl rfl rfl rfl (Pur.mv rfl) ?_
    refine Reg.lod rfl rfl rfl rfl (Lod.ldn ag28 rfl o0_1.blk (whole hr') hr') ?_
    refine Reg.op rfl rfl rfl rfl (Does.call rfl (rowR_ok (hB.ext hE) r hr)) ?_
    rintro _ H5_2 ⟨rfl, _, hE5_2⟩
    have z5_2 := hE5_2.lt
    replace hE := hE.ext hE5_2
    replace hE1 := hE1.ext hE5_2
    replace hb8 := hb8.ext hE5_2
    replace o0_0 := o0_0.ext hE5_2
    replace o0_1 := o0_1.ext hE5_2
    replace ho4 := ho4.ext hE5_2
    replace o2_6 := o2_6.ext hE5_2
    replace ho5 := ho5.ext hE5_2
    replace o3_6 := o3_6.ext hE5_2
    replace o4_6 := o4_6.ext hE5_2
    refine Reg.pur rfl rfl rfl rfl (Pur.mv rfl) ?_
    refine Reg.pur rfl rfl rfl rfl (Pur.ext rfl rfl) ?_
    refine Reg.pur rfl rfl rfl rfl (Pur.ext rfl rfl) ?_
    refine Reg.op rfl rfl rfl rfl (Does.alloc zc28) ?_
    rintro _ H5_6 ⟨rfl, hn5_6⟩
    have z5_6 := hn5_6.size
    replace hE := hE.ext hn5_6.ext
    replace hE1 := hE1.ext hn5_6.ext
    replace hb8 := hb8.ext hn5_6.ext
    replace o0_0 := o0_0.ext hn5_6.ext
    replace o0_1 := o0_1.ext hn5_6.ext
    replace ho4 := ho4.ext hn5_6.ext
    replace o2_6 := o2_6.ext hn5_6.ext
    replace ho5 := ho5.ext hn5_6.ext
    replace o3_6 := o3_6.ext hn5_6.ext
    replace o4_6 := o4_6.ext hn5_6.ext
    have o5_6 := hn5_6.own
    refine Reg.op0 rfl rfl rfl (Does.stn ag28 rfl rfl (by first | rfl | exact ones_Is _) (by first | rfl | (simp [*]; done)) o5_6 (by first | decide | (simp; done) | (simp; omega) | omega)) ?_
    rintro _ H5_7 hu5_7
    have z5_7 := hu5_7.size
    replace hE := hE.upw hu5_7 (by omega)
    replace hE1 := hE1.upw hu5_7 (by omega)
    replace hb8 := hb8.upw hu5_7 (by omega)
    replace o0_0 := o0_0.upw hu5_7 (by omega)
    replace o0_1 := o0_1.upw hu5_7 (by omega)
    replace ho4 := ho4.upw hu5_7 (by omega)
    replace o2_6 := o2_6.upw hu5_7 (by omega)
    replace ho5 := ho5.upw hu5_7 (by omega)
    replace o3_6 := o3_6.upw hu5_7 (by omega)
    replace o4_6 := o4_6.upw hu5_7 (by omega)
    replace o5_6 := hu5_7.own
    first | rw [over (by first | rfl | (simp; done))] at o5_6 | skip
    refine Reg.pur rfl rfl rfl rfl (Pur.asg rfl) ?_
    refine Reg.nil ?_
    refine At.region rfl rfl ?_
    refine Reg.lod rfl rfl rfl rfl (Lod.ldn ag25 rfl o2_6.blk (by first | exact whole rfl | rfl | (simp only [List.drop_succ_cons, List.drop_zero, List.take_succ_cons, List.take_zero]; rfl)) (by first | rfl | (simp [*]; done))) ?_
    refine Reg.lod rfl rfl rfl rfl (Lod.ldn ag25 rfl o3_6.blk (by first | exact whole rfl | rfl | (simp only [List.drop_succ_cons, List.drop_zero, List.take_succ_cons, List.take_zero]; rfl)) (by first | rfl | (simp [*]; done))) ?_
    refine Reg.op rfl rfl rfl rfl (Does.call rfl (sameType_ok hN4 hN5 (own_sl (wide9 hN4) (by decide) ho4) (own_sl (wide9 hN5) (by decide) ho5) (by omega))) ?_
    rintro _ H6_2 ⟨rfl, hE6_2⟩
    have z6_2 := hE6_2.lt
    replace hE := hE.ext hE6_2
    replace hE1 := hE1.ext hE6_2
    replace hb8 := hb8.ext hE6_2
    replace o0_0 := o0_0.ext hE6_2
    replace o0_1 := o0_1.ext hE6_2
    replace ho4 := ho4.ext hE6_2
    replace o2_6 := o2_6.ext hE6_2
    replace ho5 := ho5.ext hE6_2
    replace o3_6 := o3_6.ext hE6_2
    replace o4_6 := o4_6.ext hE6_2
    replace o5_6 := o5_6.ext hE6_2
    refine Reg.pur rfl rfl rfl rfl (Pur.not rfl) ?_
    refine Reg.pur rfl rfl rfl rfl (Pur.mv rfl) ?_
    refine Reg.known (b' := false) 49 rfl (by first | rfl | simp) ?_
    refine Reg.gpur rfl rfl rfl rfl rfl rfl (Pur.mv rfl) ?_
    refine Reg.gop rfl rfl rfl rfl rfl rfl (Does.call rfl (numE_ok _ _)) ?_
    rintro _ H6_2 ⟨rfl, rfl⟩
    refine Reg.gpur rfl rfl rfl rfl rfl rfl (Pur.mv rfl) ?_
    refine Reg.gpur rfl rfl rfl rfl rfl rfl (Pur.neq rfl rfl) ?_
    refine Reg.pur rfl rfl rfl rfl (Pur.pickF rfl rfl) ?_
    refine Reg.pur rfl rfl rfl rfl (Pur.mv rfl) ?_
    refine Reg.known (b' := false) 55 rfl (by first | rfl | simp) ?_
    refine Reg.glod rfl rfl rfl rfl rfl rfl (Lod.ldn ag28 rfl o4_6.blk (whole hl') hl') ?_
    refine Reg.glod rfl rfl rfl rfl rfl rfl (Lod.ldn ag28 rfl o5_6.blk (whole hl') hl') ?_
    refine Reg.gpur rfl rfl rfl rfl rfl rfl (Pur.neA eqt28 rfl rfl hfk hfk) ?_
    refine Reg.pur rfl rfl rfl rfl (Pur.pickF rfl rfl) ?_
    refine Reg.pur rfl rfl rfl rfl (Pur.mv rfl) ?_
    refine Reg.known (b' := false) 60 rfl (by simp [eqs_self]) ?_
    refine Reg.gpur rfl rfl rfl rfl rfl rfl (Pur.mv rfl) ?_
    refine Reg.gop rfl rfl rfl rfl rfl rfl (Does.call rfl (numE_ok _ _)) ?_
    rintro _ H6_2 ⟨rfl, rfl⟩
    refine Reg.gpur rfl rfl rfl rfl rfl rfl (Pur.mv rfl) ?_
    refine Reg.gpur rfl rfl rfl rfl rfl rfl (Pur.neq rfl rfl) ?_
    refine Reg.pur rfl rfl rfl rfl (Pur.pickF rfl rfl) ?_
    refine Reg.nil ?_
    refine At.condF rfl rfl (by first | rfl | simp) ?_

    refine At.region rfl rfl ?_
    refine Reg.lod rfl rfl rfl rfl (Lod.ldn ag25 rfl o2_6.blk (by first | exact whole rfl | rfl | (simp only [List.drop_succ_cons, List.drop_zero, List.take_succ_cons, List.take_zero]; rfl)) (by first | rfl | (simp [*]; done))) ?_
    refine Reg.op rfl rfl rfl rfl (Does.call rfl (spoilO_ok hN4 (by omega) ho4)) ?_
    rintro _ H8_1 hbut8_1
    have z8_1 := hbut8_1.lt
    replace hE := hE.via hbut8_1 (by first | omega | (intro g; omega) | (intro g hg; omega) | (intro g hg h; omega))
    replace hE1 := hE1.via hbut8_1 (by first | omega | (intro g; omega) | (intro g hg; omega) | (intro g hg h; omega))
    replace hb8 := hb8.via hbut8_1 (by first | omega | (intro g; omega) | (intro g hg; omega) | (intro g hg h; omega))
    replace o0_0 := o0_0.via hbut8_1 (by first | omega | (intro g; omega) | (intro g hg; omega) | (intro g hg h; omega))
    replace o0_1 := o0_1.via hbut8_1 (by first | omega | (intro g; omega) | (intro g hg; omega) | (intro g hg h; omega))
    replace o2_6 := o2_6.via hbut8_1 (by first | omega | (intro g; omega) | (intro g hg; omega) | (intro g hg h; omega))
    replace ho5 := ho5.via hbut8_1 (by first | omega | (intro g; omega) | (intro g hg; omega) | (intro g hg h; omega))
    replace o3_6 := o3_6.via hbut8_1 (by first | omega | (intro g; omega) | (intro g hg; omega) | (intro g hg h; omega))
    replace o4_6 := o4_6.via hbut8_1 (by first | omega | (intro g; omega) | (intro g hg; omega) | (intro g hg h; omega))
    replace o5_6 := o5_6.via hbut8_1 (by first | omega | (intro g; omega) | (intro g hg; omega) | (intro g hg h; omega))
    refine Reg.nil ?_
    refine At.region rfl rfl ?_
    refine Reg.pur rfl rfl rfl rfl (Pur.mv rfl) ?_
    refine Reg.pur rfl rfl rfl rfl (Pur.mv rfl) ?_
    refine Reg.op rfl rfl rfl rfl (Does.call rfl (sameBinds_ok (hC.ext hE1) (hB.ext hE))) ?_
    rintro _ H9_2 ⟨rfl, hE9_2⟩
    have z9_2 := hE9_2.lt
    replace hE := hE.ext hE9_2
    replace hE1 := hE1.ext hE9_2
    replace hb8 := hb8.ext hE9_2
    replace o0_0 := o0_0.ext hE9_2
    replace o0_1 := o0_1.ext hE9_2
    replace o2_6 := o2_6.ext hE9_2
    replace ho5 := ho5.ext hE9_2
    replace o3_6 := o3_6.ext hE9_2
    replace o4_6 := o4_6.ext hE9_2
    replace o5_6 := o5_6.ext hE9_2
    refine Reg.pur rfl rfl rfl rfl (Pur.mv rfl) ?_
    refine Reg.known (b' := true) 71 rfl (by first | rfl | simp [hpl]) ?_
    refine Reg.glod rfl rfl rfl rfl rfl rfl (Lod.ldn ag25 rfl hb8.blk rfl rfl) ?_
    refine Reg.glod rfl rfl rfl rfl rfl rfl (Lod.ldn ag25 rfl o0_0.blk (by first | exact whole rfl | rfl | (simp only [List.drop_succ_cons, List.drop_zero, List.take_succ_cons, List.take_zero]; rfl)) (by first | rfl | (simp [*]; done))) ?_
    refine Reg.gop rfl rfl rfl rfl rfl rfl (Does.call rfl (sameType_ok hL hL (hS3.ext hE1) (hS.ext hE) (by omega))) ?_
    rintro _ H9_6 ⟨rfl, hE9_6⟩
    have z9_6 := hE9_6.lt
    replace hE := hE.ext hE9_6
    replace hE1 := hE1.ext hE9_6
    replace hb8 := hb8.ext hE9_6
    replace o0_0 := o0_0.ext hE9_6
    replace o0_1 := o0_1.ext hE9_6
    replace o2_6 := o2_6.ext hE9_6
    replace ho5 := ho5.ext hE9_6
    replace o3_6 := o3_6.ext hE9_6
    replace o4_6 := o4_6.ext hE9_6
    replace o5_6 := o5_6.ext hE9_6
    refine Reg.pur rfl rfl rfl rfl (Pur.pickT rfl rfl) ?_
    refine Reg.pur rfl rfl rfl rfl (Pur.mv rfl) ?_
    refine Reg.known (b' := true) 76 rfl (by first | rfl | simp [hpl]) ?_
    refine Reg.gop rfl rfl rfl rfl rfl rfl (Does.call rfl (awake9_ok _)) ?_
    rintro _ H9_9 ⟨rfl, hE9_9⟩
    have z9_9 := hE9_9.lt
    replace hE := hE.ext hE9_9
    replace hE1 := hE1.ext hE9_9
    replace hb8 := hb8.ext hE9_9
    replace o0_0 := o0_0.ext hE9_9
    replace o0_1 := o0_1.ext hE9_9
    replace o2_6 := o2_6.ext hE9_9
    replace ho5 := ho5.ext hE9_9
    replace o3_6 := o3_6.ext hE9_9
    replace o4_6 := o4_6.ext hE9_9
    replace o5_6 := o5_6.ext hE9_9
    refine Reg.pur rfl rfl rfl rfl (Pur.pickT rfl rfl) ?_
    refine Reg.pur rfl rfl rfl rfl (Pur.asg rfl) ?_
    refine Reg.nil ?_
    refine At.ret rfl Try.func3 rfl ?_
    exact ⟨rfl, hE⟩
end Go.Proofs.Ytlfillhffpiffaa
