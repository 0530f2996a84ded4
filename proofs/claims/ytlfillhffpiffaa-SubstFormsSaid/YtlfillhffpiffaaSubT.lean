/-
  Chapter 9: the first bind counts.
-/
import Derived.Test.YtlfillhffpiffaaSubS
namespace Go.Proofs.Ytlfillhffpiffaa
set_option linter.unusedSimpArgs false
set_option linter.unusedVariables false
set_option maxRecDepth 8000
set_option maxHeartbeats 400000
open Go Go.Fx Go.Proofs
namespace FactsSubT
theorem ag25 : ag Try.prog 25 = some 1 := by kernel_rfl
theorem pl25 : places Try.prog 25 = some [(0, 1)] := by kernel_rfl
theorem pl28 : places Try.prog 28 = some [(0, 4), (4, 1)] := by kernel_rfl
theorem pl47 : places Try.prog 47 = some [(0, 1), (1, 1), (2, 1), (3, 1), (4, 5)] := by kernel_rfl
theorem pl49 : places Try.prog 49 = some [(0, 1), (1, 1), (2, 1), (3, 5)] := by kernel_rfl
theorem slA22 : slA Try.prog 22 = some (49, 8) := by kernel_rfl
theorem slA23 : slA Try.prog 23 = some (47, 9) := by kernel_rfl
theorem zc25 : zc Try.prog 25 = some [.slice none 0 0] := by kernel_rfl
theorem zc28 : zc Try.prog 28 = some [.int .i64 0, .int .i64 0, .int .i64 0, .int .i64 0, .int .i64 0] := by kernel_rfl
theorem zc47 : zc Try.prog 47 = some [.int .i64 0, .int .i64 0, .int .i64 0, .int .i64 0, .int .i64 0, .int .i64 0, .int .i64 0, .int .i64 0, .int .i64 0] := by kernel_rfl
theorem zc49 : zc Try.prog 49 = some [.int .i64 0, .bool false, .slice none 0 0, .int .i64 0, .int .i64 0, .int .i64 0, .int .i64 0, .int .i64 0] := by kernel_rfl
end FactsSubT
open FactsSubT

theorem all_four {α : Type} {P : α → Prop} {a b c d : α} (ha : P a) (hb : P b) (hc : P c) (hd : P d) : ∀ x ∈ [a, b, c, d], P x := by
  intro x hx; simp at hx; rcases hx with rfl | rfl | rfl | rfl <;> assumption
theorem ok_big {H : Heap} {v : Int} {r : Bool} {row : List Int} {A : Option Addr} {cap : Nat} {nodes : List (List Int)} (hs : SlT H Is 9 (.slice A nodes.length cap) nodes) (h9 : Nine nodes) (hr : row.length = 5) (hl : nodes.length * 72 ≤ 140737488351232) : Bd.Ok H ⟨v, r, A, cap, nodes, row⟩ :=
  { sl := hs, nine := h9, row := hr, fits := hl }
theorem int_typ {b : Bd} : ((subT [b] [[0, 0, 0, 0, 0, 0, 0, 0, 0]]).isSome = true) = (bindM b = true) := by
  have hM : typM [[0, 0, 0, 0, 0, 0, 0, 0, 0]] = true := by decide
  have h9 : Nine [[0, 0, 0, 0, 0, 0, 0, 0, 0]] := nine_lit rfl
  cases h : bindM b with
  | false => rw [bad_typ (b := b) (by simp) h]; simp
  | true =>
    have : subT [b] [[0, 0, 0, 0, 0, 0, 0, 0, 0]] = some [[0, 0, 0, 0, 0, 0, 0, 0, 0]] := by
      unfold subT
      rw [if_pos ⟨by simp [bindsM, h], hM⟩]
      exact typS_notin h9 hM (fun c _ => by simp [inT])
    rw [this]; simp
theorem ce_inj {α β : Type} {o : Option α} {p : Option β} : decide (ce o.isSome = ce p.isSome) = decide (o.isSome = p.isSome) := by
  cases o <;> cases p <;> rfl
theorem substFirst_law {A A1 A2 : Option Addr} {cap cap1 cap2 : Nat} {L La Lb : List (List Int)} {H : Heap} (hS : SlT H Is 9 (.slice A L.length cap) L) (hL : Nine L) (hm : L.length * 72 ≤ 140737488351232)
    (hSa : SlT H Is 9 (.slice A1 La.length cap1) La) (hLa : Nine La) (hma : La.length * 72 ≤ 140737488351232) (hSb : SlT H Is 9 (.slice A2 Lb.length cap2) Lb) (hLb : Nine Lb) (hmb : Lb.length * 72 ≤ 140737488351232) (n : Int) :
    Ret Try.prog 6 [Ty A L.length cap, Ty A1 La.length cap1, Ty A2 Lb.length cap2, I n] H (fun v H' => v = .bool true ∧ Ext H H') := by
  obtain ⟨x, hx⟩ : ∃ x, x = bits .and .i64 n 3 := ⟨_, rfl⟩
  have hx3 : 0 ≤ x ∧ x ≤ 3 := by rw [hx]; exact and_le n 3 (by decide)
  refine Ret.of_at (N := 79) Try.call6 Try.func6 rfl rfl rfl ?_
  have hE := Ext.refl H
  refine At.region rfl rfl ?_
  refine Reg.op rfl rfl rfl rfl (Does.box rfl rfl) ?_
  rintro _ H0_0 ⟨rfl, hn0_0⟩
  have z0_0 := hn0_0.size
  replace hE := hE.ext hn0_0.ext
  have o0_0 := hn0_0.own
  refine Reg.op rfl rfl rfl rfl (Does.box rfl rfl) ?_
  rintro _ H0_1 ⟨rfl, hn0_1⟩
  have z0_1 := hn0_1.size
  replace hE := hE.ext hn0_1.ext
  replace o0_0 := o0_0.ext hn0_1.ext
  have o0_1 := hn0_1.own
  refine Reg.op rfl rfl rfl rfl (Does.box rfl rfl) ?_
  rintro _ H0_2 ⟨rfl, hn0_2⟩
  have z0_2 := hn0_2.size
  replace hE := hE.ext hn0_2.ext
  replace o0_0 := o0_0.ext hn0_2.ext
  replace o0_1 := o0_1.ext hn0_2.ext
  have o0_2 := hn0_2.own
  refine Reg.pur rfl rfl rfl rfl (Pur.asg rfl) ?_
  refine Reg.nil ?_
  refine At.region rfl rfl ?_
  refine Reg.op rfl rfl rfl rfl (Does.call rfl (awake9_ok _)) ?_
  rintro _ H1_0 ⟨rfl, hE1_0⟩
  have z1_0 := hE1_0.lt
  replace hE := hE.ext hE1_0
  replace o0_0 := o0_0.ext hE1_0
  replace o0_1 := o0_1.ext hE1_0
  replace o0_2 := o0_2.ext hE1_0
  refine Reg.pur rfl rfl rfl rfl (Pur.not rfl) ?_
  refine Reg.nil ?_
  refine At.condF rfl rfl rfl ?_
  refine At.region rfl rfl ?_
  refine Reg.pur rfl rfl rfl rfl (Pur.mv rfl) ?_
  refine Reg.pur rfl rfl rfl rfl (Pur.and rfl rfl) ?_
  refine Reg.pur rfl rfl rfl rfl (Pur.asg rfl) ?_
  refine Reg.nil ?_
  rw [← hx]
  refine At.region rfl rfl ?_
  refine Reg.pur rfl rfl rfl rfl (Pur.mv rfl) ?_
  refine Reg.lod rfl rfl rfl rfl (Lod.ldn ag25 rfl o0_1.blk (by first | exact whole rfl | rfl | (simp only [List.drop_succ_cons, List.drop_zero, List.take_succ_cons, List.take_zero]; rfl)) (by first | rfl | (simp [*]; done))) ?_
  refine Reg.pur rfl rfl rfl rfl (Pur.bld (cs := [_, _, _, _, _, _, _, _]) pl49 zc49 rfl rfl ⟨rfl, rfl, rfl, rfl, rfl, rfl, rfl, rfl, rfl⟩) ?_
  refine Reg.op rfl rfl rfl rfl (Does.bslA ([[_, _, _, _, _, _, _, _]]) slA22 rfl rfl rfl rfl rfl rfl) ?_
  rintro _ H4_3 ⟨rfl, hp4_3⟩
  have hn4_3 := New.of_eq hp4_3
  have z4_3 := hn4_3.size
  replace hE := hE.ext hn4_3.ext
  replace o0_0 := o0_0.ext hn4_3.ext
  replace o0_1 := o0_1.ext hn4_3.ext
  replace o0_2 := o0_2.ext hn4_3.ext
  have o4_3 := hn4_3.own
  have hb1 : Bds H4_3 (.slice (some ⟨H1_0.size, 0, none⟩) 1 1) [⟨x, false, A1, cap1, La, noRow⟩] := bds_new hn4_3 (all_one (ok_big (hSa.ext hE) hLa rfl hma)) (Nat.le_of_ble_eq_true rfl)
  have hE1 := Ext.refl H4_3
  have z_hE1 := hE1.lt
  refine Reg.pur rfl rfl rfl rfl (Pur.asg rfl) ?_
  refine Reg.nil ?_
  refine At.region rfl rfl ?_
  refine Reg.pur rfl rfl rfl rfl (Pur.mv rfl) ?_
  refine Reg.pur rfl rfl rfl rfl (Pur.mv rfl) ?_
  refine Reg.pur rfl rfl rfl rfl (Pur.bld (cs := [_, _, _, _, _]) pl28 zc28 rfl rfl ⟨rfl, rfl, rfl, rfl, rfl, rfl⟩) ?_
  refine Reg.pur rfl rfl rfl rfl (Pur.bld (cs := [_, _, _, _, _, _, _, _]) pl49 zc49 rfl rfl ⟨rfl, rfl, rfl, rfl, rfl, rfl, rfl, rfl, rfl⟩) ?_
  refine Reg.pur rfl rfl rfl rfl (Pur.mv rfl) ?_
  refine Reg.lod rfl rfl rfl rfl (Lod.ldn ag25 rfl o0_1.blk (by first | exact whole rfl | rfl | (simp only [List.drop_succ_cons, List.drop_zero, List.take_succ_cons, List.take_zero]; rfl)) (by first | rfl | (simp [*]; done))) ?_
  refine Reg.pur rfl rfl rfl rfl (Pur.bld (cs := [_, _, _, _, _, _, _, _]) pl49 zc49 rfl rfl ⟨rfl, rfl, rfl, rfl, rfl, rfl, rfl, rfl, rfl⟩) ?_
  refine Reg.pur rfl rfl rfl rfl (Pur.mv rfl) ?_
  refine Reg.lod rfl rfl rfl rfl (Lod.ldn ag25 rfl o0_2.blk (by first | exact whole rfl | rfl | (simp only [List.drop_succ_cons, List.drop_zero, List.take_succ_cons, List.take_zero]; rfl)) (by first | rfl | (simp [*]; done))) ?_
  refine Reg.pur rfl rfl rfl rfl (Pur.bld (cs := [_, _, _, _, _, _, _, _]) pl49 zc49 rfl rfl ⟨rfl, rfl, rfl, rfl, rfl, rfl, rfl, rfl, rfl⟩) ?_
  refine Reg.pur rfl rfl rfl rfl (Pur.mv rfl) ?_
  refine Reg.pur rfl rfl rfl rfl (Pur.bld (cs := [_, _, _, _, _]) pl28 zc28 rfl rfl ⟨rfl, rfl, rfl, rfl, rfl, rfl⟩) ?_
  refine Reg.pur rfl rfl rfl rfl (Pur.bld (cs := [_, _, _, _, _, _, _, _]) pl49 zc49 rfl rfl ⟨rfl, rfl, rfl, rfl, rfl, rfl, rfl, rfl, rfl⟩) ?_
  refine Reg.op rfl rfl rfl rfl (Does.bslA ([[_, _, _, _, _, _, _, _], [_, _, _, _, _, _, _, _], [_, _, _, _, _, _, _, _], [_, _, _, _, _, _, _, _]]) slA22 rfl rfl rfl rfl rfl rfl) ?_
  rintro _ H5_13 ⟨rfl, hp5_13⟩
  have hn5_13 := New.of_eq hp5_13
  have z5_13 := hn5_13.size
  replace hE := hE.ext hn5_13.ext
  replace o0_0 := o0_0.ext hn5_13.ext
  replace o0_1 := o0_1.ext hn5_13.ext
  replace o0_2 := o0_2.ext hn5_13.ext
  replace o4_3 := o4_3.ext hn5_13.ext
  replace hE1 := hE1.ext hn5_13.ext
  have o5_13 := hn5_13.own
  have hb2 : Bds H5_13 (.slice (some ⟨H4_3.size, 0, none⟩) 4 4) [⟨x, true, none, 0, [], [0, 0, 0, 0, x]⟩, ⟨x, false, A1, cap1, La, noRow⟩, ⟨x, false, A2, cap2, Lb, noRow⟩, ⟨x, true, none, 0, [], [0, 0, 0, 0, -1]⟩] := bds_new hn5_13 (all_four (ok_nil rfl) (ok_big (hSa.ext hE) hLa rfl hma) (ok_big (hSb.ext hE) hLb rfl hmb) (ok_nil rfl)) (Nat.le_of_ble_eq_true rfl)
  have hE2 := Ext.refl H5_13
  have z_hE2 := hE2.lt
  refine Reg.pur rfl rfl rfl rfl (Pur.asg rfl) ?_
  refine Reg.nil ?_
  refine At.region rfl rfl ?_
  refine Reg.pur rfl rfl rfl rfl (Pur.mv rfl) ?_
  refine Reg.lod rfl rfl rfl rfl (Lod.ldn ag25 rfl o0_0.blk (by first | exact whole rfl | rfl | (simp only [List.drop_succ_cons, List.drop_zero, List.take_succ_cons, List.take_zero]; rfl)) (by first | rfl | (simp [*]; done))) ?_
  refine Reg.op rfl rfl rfl rfl (Does.call rfl (type_ok (Bs := [⟨x, false, A1, cap1, La, noRow⟩]) (hb1.ext hE1) (hS.ext hE) hL hm)) ?_
  rintro v6_2 H6_2 ⟨hE6_2, hT6_2⟩
  have z6_2 := hE6_2.lt
  replace hE := hE.ext hE6_2
  replace o0_0 := o0_0.ext hE6_2
  replace o0_1 := o0_1.ext hE6_2
  replace o0_2 := o0_2.ext hE6_2
  replace o4_3 := o4_3.ext hE6_2
  replace hE1 := hE1.ext hE6_2
  replace o5_13 := o5_13.ext hE6_2
  replace hE2 := hE2.ext hE6_2
  obtain ⟨A6, cap6, rfl, ho6, hN6, hl6⟩ := hT6_2
  have z_ho6 := ho6.lt
  refine Reg.pur rfl rfl rfl rfl (Pur.mv rfl) ?_
  refine Reg.pur rfl rfl rfl rfl (Pur.ext rfl rfl) ?_
  refine Reg.pur rfl rfl rfl rfl (Pur.ext rfl rfl) ?_
  refine Reg.op rfl rfl rfl rfl (Does.alloc zc25) ?_
  rintro _ H6_6 ⟨rfl, hn6_6⟩
  have z6_6 := hn6_6.size
  replace hE := hE.ext hn6_6.ext
  replace o0_0 := o0_0.ext hn6_6.ext
  replace o0_1 := o0_1.ext hn6_6.ext
  replace o0_2 := o0_2.ext hn6_6.ext
  replace o4_3 := o4_3.ext hn6_6.ext
  replace hE1 := hE1.ext hn6_6.ext
  replace o5_13 := o5_13.ext hn6_6.ext
  replace hE2 := hE2.ext hn6_6.ext
  replace ho6 := ho6.ext hn6_6.ext
  have o6_6 := hn6_6.own
  refine Reg.op0 rfl rfl rfl (Does.stn ag25 rfl rfl (by first | rfl | exact ones_Is _) (by first | rfl | (simp [*]; done)) o6_6 (by first | decide | (simp; done) | (simp; omega) | omega)) ?_
  rintro _ H6_7 hu6_7
  have z6_7 := hu6_7.size
  replace hE := hE.upw hu6_7 (by omega)
  replace o0_0 := o0_0.upw hu6_7 (by omega)
  replace o0_1 := o0_1.upw hu6_7 (by omega)
  replace o0_2 := o0_2.upw hu6_7 (by omega)
  replace o4_3 := o4_3.upw hu6_7 (by omega)
  replace hE1 := hE1.upw hu6_7 (by omega)
  replace o5_13 := o5_13.upw hu6_7 (by omega)
  replace hE2 := hE2.upw hu6_7 (by omega)
  replace ho6 := ho6.upw hu6_7 (by omega)
  replace o6_6 := hu6_7.own
  first | rw [over (by first | rfl | (simp; done))] at o6_6 | skip
  refine Reg.pur rfl rfl rfl rfl (Pur.asg rfl) ?_
  refine Reg.nil ?_
  refine At.region rfl rfl ?_
  refine Reg.pur rfl rfl rfl rfl (Pur.mv rfl) ?_
  refine Reg.lod rfl rfl rfl rfl (Lod.ldn ag25 rfl o0_0.blk (by first | exact whole rfl | rfl | (simp only [List.drop_succ_cons, List.drop_zero, List.take_succ_cons, List.take_zero]; rfl)) (by first | rfl | (simp [*]; done))) ?_
  refine Reg.op rfl rfl rfl rfl (Does.call rfl (type_ok (Bs := [⟨x, true, none, 0, [], [0, 0, 0, 0, x]⟩, ⟨x, false, A1, cap1, La, noRow⟩, ⟨x, false, A2, cap2, Lb, noRow⟩, ⟨x, true, none, 0, [], [0, 0, 0, 0, -1]⟩]) (hb2.ext hE2) (hS.ext hE) hL hm)) ?_
  rintro v7_2 H7_2 ⟨hE7_2, hT7_2⟩
  have z7_2 := hE7_2.lt
  replace hE := hE.ext hE7_2
  replace o0_0 := o0_0.ext hE7_2
  replace o0_1 := o0_1.ext hE7_2
  replace o0_2 := o0_2.ext hE7_2
  replace o4_3 := o4_3.ext hE7_2
  replace hE1 := hE1.ext hE7_2
  replace o5_13 := o5_13.ext hE7_2
  replace hE2 := hE2.ext hE7_2
  replace ho6 := ho6.ext hE7_2
  replace o6_6 := o6_6.ext hE7_2
  obtain ⟨A7, cap7, rfl, ho7, hN7, hl7⟩ := hT7_2
  have z_ho7 := ho7.lt
  refine Reg.pur rfl rfl rfl rfl (Pur.mv rfl) ?_
  refine Reg.pur rfl rfl rfl rfl (Pur.ext rfl rfl) ?_
  refine Reg.pur rfl rfl rfl rfl (Pur.ext rfl rfl) ?_
  refine Reg.op rfl rfl rfl rfl (Does.alloc zc25) ?_
  rintro _ H7_6 ⟨rfl, hn7_6⟩
  have z7_6 := hn7_6.size
  replace hE := hE.ext hn7_6.ext
  replace o0_0 := o0_0.ext hn7_6.ext
  replace o0_1 := o0_1.ext hn7_6.ext
  replace o0_2 := o0_2.ext hn7_6.ext
  replace o4_3 := o4_3.ext hn7_6.ext
  replace hE1 := hE1.ext hn7_6.ext
  replace o5_13 := o5_13.ext hn7_6.ext
  replace hE2 := hE2.ext hn7_6.ext
  replace ho6 := ho6.ext hn7_6.ext
  replace o6_6 := o6_6.ext hn7_6.ext
  replace ho7 := ho7.ext hn7_6.ext
  have o7_6 := hn7_6.own
  refine Reg.op0 rfl rfl rfl (Does.stn ag25 rfl rfl (by first | rfl | exact ones_Is _) (by first | rfl | (simp [*]; done)) o7_6 (by first | decide | (simp; done) | (simp; omega) | omega)) ?_
  rintro _ H7_7 hu7_7
  have z7_7 := hu7_7.size
  replace hE := hE.upw hu7_7 (by omega)
  replace o0_0 := o0_0.upw hu7_7 (by omega)
  replace o0_1 := o0_1.upw hu7_7 (by omega)
  replace o0_2 := o0_2.upw hu7_7 (by omega)
  replace o4_3 := o4_3.upw hu7_7 (by omega)
  replace hE1 := hE1.upw hu7_7 (by omega)
  replace o5_13 := o5_13.upw hu7_7 (by omega)
  replace hE2 := hE2.upw hu7_7 (by omega)
  replace ho6 := ho6.upw hu7_7 (by omega)
  replace o6_6 := o6_6.upw hu7_7 (by omega)
  replace ho7 := ho7.upw hu7_7 (by omega)
  replace o7_6 := hu7_7.own
  first | rw [over (by first | rfl | (simp; done))] at o7_6 | skip
  refine Reg.pur rfl rfl rfl rfl (Pur.asg rfl) ?_
  refine Reg.nil ?_
  refine At.region rfl rfl ?_
  refine Reg.pur rfl rfl rfl rfl (Pur.mv rfl) ?_
  refine Reg.lod rfl rfl rfl rfl (Lod.ldn ag25 rfl o0_2.blk (by first | exact whole rfl | rfl | (simp only [List.drop_succ_cons, List.drop_zero, List.take_succ_cons, List.take_zero]; rfl)) (by first | rfl | (simp [*]; done))) ?_
  refine Reg.pur rfl rfl rfl rfl (Pur.bld (cs := [_, _, _, _, _, _, _, _]) pl49 zc49 rfl rfl ⟨rfl, rfl, rfl, rfl, rfl, rfl, rfl, rfl, rfl⟩) ?_
  refine Reg.op rfl rfl rfl rfl (Does.bslA ([[_, _, _, _, _, _, _, _]]) slA22 rfl rfl rfl rfl rfl rfl) ?_
  rintro _ H8_3 ⟨rfl, hp8_3⟩
  have hn8_3 := New.of_eq hp8_3
  have z8_3 := hn8_3.size
  replace hE := hE.ext hn8_3.ext
  replace o0_0 := o0_0.ext hn8_3.ext
  replace o0_1 := o0_1.ext hn8_3.ext
  replace o0_2 := o0_2.ext hn8_3.ext
  replace o4_3 := o4_3.ext hn8_3.ext
  replace hE1 := hE1.ext hn8_3.ext
  replace o5_13 := o5_13.ext hn8_3.ext
  replace hE2 := hE2.ext hn8_3.ext
  replace ho6 := ho6.ext hn8_3.ext
  replace o6_6 := o6_6.ext hn8_3.ext
  replace ho7 := ho7.ext hn8_3.ext
  replace o7_6 := o7_6.ext hn8_3.ext
  have o8_3 := hn8_3.own
  have hb3 : Bds H8_3 (.slice (some ⟨H7_7.size, 0, none⟩) 1 1) [⟨x, false, A2, cap2, Lb, noRow⟩] := bds_new hn8_3 (all_one (ok_big (hSb.ext hE) hLb rfl hmb)) (Nat.le_of_ble_eq_true rfl)
  have hE3 := Ext.refl H8_3
  have z_hE3 := hE3.lt
  refine Reg.pur rfl rfl rfl rfl (Pur.bld (cs := [_, _, _, _, _, _, _, _, _]) pl47 zc47 rfl rfl ⟨rfl, rfl, rfl, rfl, rfl, rfl, rfl, rfl, rfl, rfl⟩) ?_
  refine Reg.op rfl rfl rfl rfl (Does.bslA ([[_, _, _, _, _, _, _, _, _]]) slA23 rfl rfl rfl rfl rfl rfl) ?_
  rintro _ H8_5 ⟨rfl, hp8_5⟩
  have hn8_5 := New.of_eq hp8_5
  have z8_5 := hn8_5.size
  replace hE := hE.ext hn8_5.ext
  replace o0_0 := o0_0.ext hn8_5.ext
  replace o0_1 := o0_1.ext hn8_5.ext
  replace o0_2 := o0_2.ext hn8_5.ext
  replace o4_3 := o4_3.ext hn8_5.ext
  replace hE1 := hE1.ext hn8_5.ext
  replace o5_13 := o5_13.ext hn8_5.ext
  replace hE2 := hE2.ext hn8_5.ext
  replace ho6 := ho6.ext hn8_5.ext
  replace o6_6 := o6_6.ext hn8_5.ext
  replace ho7 := ho7.ext hn8_5.ext
  replace o7_6 := o7_6.ext hn8_5.ext
  replace o8_3 := o8_3.ext hn8_5.ext
  replace hE3 := hE3.ext hn8_5.ext
  have o8_5 := hn8_5.own
  refine Reg.pur rfl rfl rfl rfl (Pur.bld (cs := [_]) pl25 zc25 rfl rfl ⟨rfl, rfl⟩) ?_
  refine Reg.op rfl rfl rfl rfl (Does.call rfl (type_ok (Bs := [⟨x, false, A2, cap2, Lb, noRow⟩]) (L := [[0, 0, 0, 0, 0, 0, 0, 0, 0]]) (hb3.ext hE3) (sl_one (x := [0, 0, 0, 0, 0, 0, 0, 0, 0]) rfl (by decide) hn8_5) (nine1 rfl) (by decide))) ?_
  rintro v8_7 H8_7 ⟨hE8_7, hT8_7⟩
  have z8_7 := hE8_7.lt
  replace hE := hE.ext hE8_7
  replace o0_0 := o0_0.ext hE8_7
  replace o0_1 := o0_1.ext hE8_7
  replace o0_2 := o0_2.ext hE8_7
  replace o4_3 := o4_3.ext hE8_7
  replace hE1 := hE1.ext hE8_7
  replace o5_13 := o5_13.ext hE8_7
  replace hE2 := hE2.ext hE8_7
  replace ho6 := ho6.ext hE8_7
  replace o6_6 := o6_6.ext hE8_7
  replace ho7 := ho7.ext hE8_7
  replace o7_6 := o7_6.ext hE8_7
  replace o8_3 := o8_3.ext hE8_7
  replace hE3 := hE3.ext hE8_7
  replace o8_5 := o8_5.ext hE8_7
  obtain ⟨A8, cap8, rfl, _, _, _⟩ := hT8_7
  refine Reg.pur rfl rfl rfl rfl (Pur.mv rfl) ?_
  refine Reg.pur rfl rfl rfl rfl (Pur.ext rfl rfl) ?_
  refine Reg.pur rfl rfl rfl rfl (Pur.ext rfl rfl) ?_
  refine Reg.op rfl rfl rfl rfl (Does.alloc zc25) ?_
  rintro _ H8_11 ⟨rfl, hn8_11⟩
  have z8_11 := hn8_11.size
  replace hE := hE.ext hn8_11.ext
  replace o0_0 := o0_0.ext hn8_11.ext
  replace o0_1 := o0_1.ext hn8_11.ext
  replace o0_2 := o0_2.ext hn8_11.ext
  replace o4_3 := o4_3.ext hn8_11.ext
  replace hE1 := hE1.ext hn8_11.ext
  replace o5_13 := o5_13.ext hn8_11.ext
  replace hE2 := hE2.ext hn8_11.ext
  replace ho6 := ho6.ext hn8_11.ext
  replace o6_6 := o6_6.ext hn8_11.ext
  replace ho7 := ho7.ext hn8_11.ext
  replace o7_6 := o7_6.ext hn8_11.ext
  replace o8_3 := o8_3.ext hn8_11.ext
  replace hE3 := hE3.ext hn8_11.ext
  replace o8_5 := o8_5.ext hn8_11.ext
  have o8_11 := hn8_11.own
  refine Reg.op0 rfl rfl rfl (Does.stn ag25 rfl rfl (by first | rfl | exact ones_Is _) (by first | rfl | (simp [*]; done)) o8_11 (by first | decide | (simp; done) | (simp; omega) | omega)) ?_
  rintro _ H8_12 hu8_12
  have z8_12 := hu8_12.size
  replace hE := hE.upw hu8_12 (by omega)
  replace o0_0 := o0_0.upw hu8_12 (by omega)
  replace o0_1 := o0_1.upw hu8_12 (by omega)
  replace o0_2 := o0_2.upw hu8_12 (by omega)
  replace o4_3 := o4_3.upw hu8_12 (by omega)
  replace hE1 := hE1.upw hu8_12 (by omega)
  replace o5_13 := o5_13.upw hu8_12 (by omega)
  replace hE2 := hE2.upw hu8_12 (by omega)
  replace ho6 := ho6.upw hu8_12 (by omega)
  replace o6_6 := o6_6.upw hu8_12 (by omega)
  replace ho7 := ho7.upw hu8_12 (by omega)
  replace o7_6 := o7_6.upw hu8_12 (by omega)
  replace o8_3 := o8_3.upw hu8_12 (by omega)
  replace hE3 := hE3.upw hu8_12 (by omega)
  replace o8_5 := o8_5.upw hu8_12 (by omega)
  replace o8_11 := hu8_12.own
  first | rw [over (by first | rfl | (simp; done))] at o8_11 | skip
  refine Reg.pur rfl rfl rfl rfl (Pur.asg rfl) ?_
  refine Reg.nil ?_
  refine At.region rfl rfl ?_
  refine Reg.pur rfl rfl rfl rfl (Pur.mv rfl) ?_
  refine Reg.op rfl rfl rfl rfl (Does.call rfl (numE_ok _ _)) ?_
  rintro _ H8_12 ⟨rfl, rfl⟩
  refine Reg.pur rfl rfl rfl rfl (Pur.neq rfl rfl) ?_
  refine Reg.nil ?_
  refine At.cond rfl rfl (fun q65 => ?_) (fun q65 => ?_)
  · first | (simp only [decide_eq_true_eq, decide_eq_false_iff_not, Bool.not_eq_true', Bool.not_eq_false', ne_eq, Decidable.not_not, Bool.not_eq_true, Bool.not_eq_false] at q65) | (dsimp only at q65) | skip
    refine At.region rfl rfl ?_
    refine Reg.pur rfl rfl rfl rfl (Pur.mv rfl) ?_
    refine Reg.op rfl rfl rfl rfl (Does.call rfl (numE_ok _ _)) ?_
    rintro _ H8_12 ⟨rfl, rfl⟩
    refine Reg.pur rfl rfl rfl rfl (Pur.eql rfl rfl) ?_
    refine Reg.pur rfl rfl rfl rfl (Pur.asg rfl) ?_
    refine Reg.nil ?_
    refine At.ret rfl Try.func6 rfl ?_
    have hb : bindM ⟨x, false, A2, cap2, Lb, noRow⟩ = false := by { have := ce_ne q65; have h2 := int_typ (b := ⟨x, false, A2, cap2, Lb, noRow⟩); rw [this] at h2; simpa using h2 }
    refine ⟨congrArg Value.bool ?_, hE⟩
    rw [bad_typ (b := ⟨x, false, A2, cap2, Lb, noRow⟩) (by simp) hb]; rfl
  · first | (simp only [decide_eq_true_eq, decide_eq_false_iff_not, Bool.not_eq_true', Bool.not_eq_false', ne_eq, Decidable.not_not, Bool.not_eq_true, Bool.not_eq_false] at q65) | (dsimp only at q65) | skip
    have hb : bindM ⟨x, false, A2, cap2, Lb, noRow⟩ = true := by { obtain ⟨m, hm⟩ := ce_eq q65; have h2 := int_typ (b := ⟨x, false, A2, cap2, Lb, noRow⟩); rw [hm] at h2; simpa using h2 }
    have hb' : typM Lb = true := by { unfold bindM at hb; simp at hb; exact hb.2 }
    have hfirst := first_typ hx3 (A := A1) (B := A2) (ca := cap1) (cb := cap2) (La := La) (Lb := Lb) hL hb'
    refine At.region rfl rfl ?_
    refine Reg.pur rfl rfl rfl rfl (Pur.mv rfl) ?_
    refine Reg.op rfl rfl rfl rfl (Does.call rfl (numE_ok _ _)) ?_
    rintro _ H8_12 ⟨rfl, rfl⟩
    refine Reg.pur rfl rfl rfl rfl (Pur.mv rfl) ?_
    refine Reg.op rfl rfl rfl rfl (Does.call rfl (numE_ok _ _)) ?_
    rintro _ H8_12 ⟨rfl, rfl⟩
    refine Reg.pur rfl rfl rfl rfl (Pur.eql rfl rfl) ?_
    refine Reg.pur rfl rfl rfl rfl (Pur.mv rfl) ?_
    refine Reg.known (b' := true) 74 rfl (by rw [hfirst]; simp) ?_
    refine Reg.glod rfl rfl rfl rfl rfl rfl (Lod.ldn ag25 rfl o6_6.blk (by first | exact whole rfl | rfl | (simp only [List.drop_succ_cons, List.drop_zero, List.take_succ_cons, List.take_zero]; rfl)) (by first | rfl | (simp [*]; done))) ?_
    refine Reg.glod rfl rfl rfl rfl rfl rfl (Lod.ldn ag25 rfl o7_6.blk (by first | exact whole rfl | rfl | (simp only [List.drop_succ_cons, List.drop_zero, List.take_succ_cons, List.take_zero]; rfl)) (by first | rfl | (simp [*]; done))) ?_
    refine Reg.gop rfl rfl rfl rfl rfl rfl (Does.call rfl (sameType_ok hN6 hN7 (own_sl (wide9 hN6) (by decide) ho6) (own_sl (wide9 hN7) (by decide) ho7) (by omega))) ?_
    rintro _ H11_8 ⟨rfl, hE11_8⟩
    have z11_8 := hE11_8.lt
    replace hE := hE.ext hE11_8
    replace o0_0 := o0_0.ext hE11_8
    replace o0_1 := o0_1.ext hE11_8
    replace o0_2 := o0_2.ext hE11_8
    replace o4_3 := o4_3.ext hE11_8
    replace hE1 := hE1.ext hE11_8
    replace o5_13 := o5_13.ext hE11_8
    replace hE2 := hE2.ext hE11_8
    replace ho6 := ho6.ext hE11_8
    replace o6_6 := o6_6.ext hE11_8
    replace ho7 := ho7.ext hE11_8
    replace o7_6 := o7_6.ext hE11_8
    replace o8_3 := o8_3.ext hE11_8
    replace hE3 := hE3.ext hE11_8
    replace o8_5 := o8_5.ext hE11_8
    replace o8_11 := o8_11.ext hE11_8
    refine Reg.pur rfl rfl rfl rfl (Pur.pickT rfl rfl) ?_
    refine Reg.pur rfl rfl rfl rfl (Pur.asg rfl) ?_
    refine Reg.nil ?_
    refine At.ret rfl Try.func6 rfl ?_
    exact ⟨congrArg Value.bool (by rw [hfirst]; simp), hE⟩
end Go.Proofs.Ytlfillhffpiffaa
