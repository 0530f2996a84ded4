/-
  Chapter 9's awake.
-/
import Derived.Test.YtlfillhffpiffaaSubO
namespace Go.Proofs.Ytlfillhffpiffaa
set_option linter.unusedSimpArgs false
set_option linter.unusedVariables false
set_option maxRecDepth 8000
open Go Go.Fx Go.Proofs
namespace FactsSubP
theorem ag25 : ag Try.prog 25 = some 1 := by kernel_rfl
theorem ag28 : ag Try.prog 28 = some 5 := by kernel_rfl
theorem arr26 : arr Try.prog 26 = some (4, 1) := by kernel_rfl
theorem eqt28 : eqT Try.prog 28 = some [.int .i64, .int .i64, .int .i64, .int .i64, .int .i64] := by kernel_rfl
theorem es23 : esz Try.prog 23 = some 9 := by kernel_rfl
theorem fo25_0 : foff Try.prog 25 0 = some 0 := by kernel_rfl
theorem fo28_0 : foff Try.prog 28 0 = some 0 := by kernel_rfl
theorem fo28_1 : foff Try.prog 28 1 = some 4 := by kernel_rfl
theorem fo47_2 : foff Try.prog 47 2 = some 2 := by kernel_rfl
theorem fo47_4 : foff Try.prog 47 4 = some 4 := by kernel_rfl
theorem isl23 : isSl Try.prog 23 = true := by kernel_rfl
theorem mixed : Try.prog.follows .mixedOrders = true := by kernel_rfl
theorem pl25 : places Try.prog 25 = some [(0, 1)] := by kernel_rfl
theorem pl28 : places Try.prog 28 = some [(0, 4), (4, 1)] := by kernel_rfl
theorem pl47 : places Try.prog 47 = some [(0, 1), (1, 1), (2, 1), (3, 1), (4, 5)] := by kernel_rfl
theorem pl49 : places Try.prog 49 = some [(0, 1), (1, 1), (2, 1), (3, 5)] := by kernel_rfl
theorem sc23 : sc Try.prog 23 = true := by kernel_rfl
theorem sc3 : sc Try.prog 3 = true := by kernel_rfl
theorem slA22 : slA Try.prog 22 = some (49, 8) := by kernel_rfl
theorem slA23 : slA Try.prog 23 = some (47, 9) := by kernel_rfl
theorem zc25 : zc Try.prog 25 = some [.slice none 0 0] := by kernel_rfl
theorem zc28 : zc Try.prog 28 = some [.int .i64 0, .int .i64 0, .int .i64 0, .int .i64 0, .int .i64 0] := by kernel_rfl
theorem zc47 : zc Try.prog 47 = some [.int .i64 0, .int .i64 0, .int .i64 0, .int .i64 0, .int .i64 0, .int .i64 0, .int .i64 0, .int .i64 0, .int .i64 0] := by kernel_rfl
theorem zc49 : zc Try.prog 49 = some [.int .i64 0, .bool false, .slice none 0 0, .int .i64 0, .int .i64 0, .int .i64 0, .int .i64 0, .int .i64 0] := by kernel_rfl
end FactsSubP
open FactsSubP

abbrev awV : List (List Int) := [[2, 2, 0, 0, 0, 0, 0, 0, 0]]
abbrev awF : List (List Int) := [[2, 2, 0, 0, 0, 0, 0, 0, 0], [1, 0, 0, 0, 0, 0, 0, 0, 0], [3, 0, 0, 1, 0, 0, 0, 0, 3]]
abbrev awR : List Int := [0, 1, 0, 0, -1]
abbrev awB (A : Option Addr) : List Bd := [⟨2, false, A, 3, awF, noRow⟩, ⟨3, true, none, 0, [], awR⟩]
abbrev awM : List (List Int) := [[2, 2, 0, 0, 0, 0, 0, 0, 0], [1, 0, 0, 0, 0, 0, 0, 0, 0], [3, 0, 0, 1, 0, 0, 0, 0, 3], [1, 0, 0, 0, 0, 0, 0, 0, 0], [3, 0, 2, 3, 0, 1, 0, 0, -1]]
theorem nine_lit {L : List (List Int)} (h : (L.all fun x => x.length == 9) = true) : Nine L := by
  intro x hx
  have := List.all_eq_true.1 h x hx
  simpa using this
theorem awT (A : Option Addr) : subT (awB A) awF = some awM := by kernel_rfl
theorem awT2 (A : Option Addr) : subT (awB A) [] = none := by kernel_rfl
theorem awRr (A : Option Addr) : subR (awB A) [0, 0, 0, 0, 3] = (awR, true) := by kernel_rfl
theorem awT3 (A : Option Addr) : subT [⟨2, false, A, 1, awV, awR⟩] awV = none := by kernel_rfl
theorem ok_lit {H : Heap} {v : Int} {r : Bool} {row : List Int} {A : Option Addr} {cap : Nat} {nodes : List (List Int)} (hs : SlT H Is 9 (.slice A nodes.length cap) nodes) (h9 : Nine nodes) (hr : row.length = 5) (hl : nodes.length ≤ 256) : Bd.Ok H ⟨v, r, A, cap, nodes, row⟩ :=
  ⟨hs, h9, hr, by dsimp only; omega⟩
theorem ok_nil {H : Heap} {v : Int} {r : Bool} {row : List Int} (h : row.length = 5) : Bd.Ok H ⟨v, r, none, 0, [], row⟩ := ok_lit (sl_nil _) (nine_lit rfl) h (by decide)
theorem all_one {α : Type} {P : α → Prop} {a : α} (ha : P a) : ∀ x ∈ [a], P x := by intro x hx; simp at hx; subst hx; exact ha
theorem all_two {α : Type} {P : α → Prop} {a b : α} (ha : P a) (hb : P b) : ∀ x ∈ [a, b], P x := by
  intro x hx; simp at hx; rcases hx with rfl | rfl
  · exact ha
  · exact hb
theorem bds_new {H H' : Heap} {L : List Bd} (h : New H H' (L.flatMap encB)) (hok : ∀ b ∈ L, b.Ok H') (hl : L.length ≤ 4096) : Bds H' (.slice (some ⟨H.size, 0, none⟩) L.length L.length) L :=
  ⟨sl_new (fun x hx => (hok x hx).len) (by decide) h (by omega), hok, by omega⟩

theorem awake9_ok (H : Heap) : Ret Try.prog 28 [] H (fun v H' => v = .bool true ∧ Ext H H') := by
  refine Ret.of_at (N := 112) Try.call28 Try.func28 rfl rfl rfl ?_
  have hE := Ext.refl H
  refine At.region rfl rfl ?_
  refine Reg.pur rfl rfl rfl rfl (Pur.asg rfl) ?_
  refine Reg.nil ?_
  refine At.region rfl rfl ?_
  refine Reg.pur rfl rfl rfl rfl (Pur.bld (cs := [_, _, _, _, _, _, _, _, _]) pl47 zc47 rfl rfl ⟨rfl, rfl, rfl, rfl, rfl, rfl, rfl, rfl, rfl, rfl⟩) ?_
  refine Reg.op rfl rfl rfl rfl (Does.bslA ([[_, _, _, _, _, _, _, _, _]]) slA23 rfl rfl rfl rfl rfl rfl) ?_
  rintro _ H1_1 ⟨rfl, hp1_1⟩
  have hn1_1 := New.of_eq hp1_1
  have z1_1 := hn1_1.size
  replace hE := hE.ext hn1_1.ext
  have o1_1 := hn1_1.own
  have hS1 : SlT H1_1 Is 9 (.slice (some ⟨H.size, 0, none⟩) 1 1) awV := sl_new (L := awV) (wide9 (nine_lit rfl)) (by decide) hn1_1 (by decide)
  have hE1 := Ext.refl H1_1
  have z_hE1 := hE1.lt
  refine Reg.pur rfl rfl rfl rfl (Pur.bld (cs := [_]) pl25 zc25 rfl rfl ⟨rfl, rfl⟩) ?_
  refine Reg.op rfl rfl rfl rfl (Does.alloc zc25) ?_
  rintro _ H1_3 ⟨rfl, hn1_3⟩
  have z1_3 := hn1_3.size
  replace hE := hE.ext hn1_3.ext
  replace o1_1 := o1_1.ext hn1_3.ext
  replace hE1 := hE1.ext hn1_3.ext
  have o1_3 := hn1_3.own
  refine Reg.op0 rfl rfl rfl (Does.stn ag25 rfl rfl (by first | rfl | exact ones_Is _) (by first | rfl | (simp [*]; done)) o1_3 (by first | decide | (simp; done) | (simp; omega) | omega)) ?_
  rintro _ H1_4 hu1_4
  have z1_4 := hu1_4.size
  replace hE := hE.upw hu1_4 (by omega)
  replace o1_1 := o1_1.upw hu1_4 (by omega)
  replace hE1 := hE1.upw hu1_4 (by omega)
  replace o1_3 := hu1_4.own
  first | rw [over (by first | rfl | (simp; done))] at o1_3 | skip
  refine Reg.nil ?_
  refine At.region rfl rfl ?_
  refine Reg.pur rfl rfl rfl rfl (Pur.bld (cs := [_, _, _, _, _, _, _, _, _]) pl47 zc47 rfl rfl ⟨rfl, rfl, rfl, rfl, rfl, rfl, rfl, rfl, rfl, rfl⟩) ?_
  refine Reg.pur rfl rfl rfl rfl (Pur.bld (cs := [_, _, _, _, _, _, _, _, _]) pl47 zc47 rfl rfl ⟨rfl, rfl, rfl, rfl, rfl, rfl, rfl, rfl, rfl, rfl⟩) ?_
  refine Reg.pur rfl rfl rfl rfl (Pur.bld (cs := [_, _, _, _, _]) pl28 zc28 rfl rfl ⟨rfl, rfl, rfl, rfl, rfl, rfl⟩) ?_
  refine Reg.pur rfl rfl rfl rfl (Pur.bld (cs := [_, _, _, _, _, _, _, _, _]) pl47 zc47 rfl rfl ⟨rfl, rfl, rfl, rfl, rfl, rfl, rfl, rfl, rfl, rfl⟩) ?_
  refine Reg.op rfl rfl rfl rfl (Does.bslA ([[_, _, _, _, _, _, _, _, _], [_, _, _, _, _, _, _, _, _], [_, _, _, _, _, _, _, _, _]]) slA23 rfl rfl rfl rfl rfl rfl) ?_
  rintro _ H2_4 ⟨rfl, hp2_4⟩
  have hn2_4 := New.of_eq hp2_4
  have z2_4 := hn2_4.size
  replace hE := hE.ext hn2_4.ext
  replace o1_1 := o1_1.ext hn2_4.ext
  replace hE1 := hE1.ext hn2_4.ext
  replace o1_3 := o1_3.ext hn2_4.ext
  have o2_4 := hn2_4.own
  have hS2 : SlT H2_4 Is 9 (.slice (some ⟨H1_4.size, 0, none⟩) 3 3) awF := sl_new (L := awF) (wide9 (nine_lit rfl)) (by decide) hn2_4 (by decide)
  have hE2 := Ext.refl H2_4
  have z_hE2 := hE2.lt
  refine Reg.pur rfl rfl rfl rfl (Pur.bld (cs := [_]) pl25 zc25 rfl rfl ⟨rfl, rfl⟩) ?_
  refine Reg.op rfl rfl rfl rfl (Does.alloc zc25) ?_
  rintro _ H2_6 ⟨rfl, hn2_6⟩
  have z2_6 := hn2_6.size
  replace hE := hE.ext hn2_6.ext
  replace o1_1 := o1_1.ext hn2_6.ext
  replace hE1 := hE1.ext hn2_6.ext
  replace o1_3 := o1_3.ext hn2_6.ext
  replace o2_4 := o2_4.ext hn2_6.ext
  replace hE2 := hE2.ext hn2_6.ext
  have o2_6 := hn2_6.own
  refine Reg.op0 rfl rfl rfl (Does.stn ag25 rfl rfl (by first | rfl | exact ones_Is _) (by first | rfl | (simp [*]; done)) o2_6 (by first | decide | (simp; done) | (simp; omega) | omega)) ?_
  rintro _ H2_7 hu2_7
  have z2_7 := hu2_7.size
  replace hE := hE.upw hu2_7 (by omega)
  replace o1_1 := o1_1.upw hu2_7 (by omega)
  replace hE1 := hE1.upw hu2_7 (by omega)
  replace o1_3 := o1_3.upw hu2_7 (by omega)
  replace o2_4 := o2_4.upw hu2_7 (by omega)
  replace hE2 := hE2.upw hu2_7 (by omega)
  replace o2_6 := hu2_7.own
  first | rw [over (by first | rfl | (simp; done))] at o2_6 | skip
  refine Reg.nil ?_
  refine At.region rfl rfl ?_
  refine Reg.pur rfl rfl rfl rfl (Pur.bld (cs := [_, _, _, _, _]) pl28 zc28 rfl rfl ⟨rfl, rfl, rfl, rfl, rfl, rfl⟩) ?_
  refine Reg.op rfl rfl rfl rfl (Does.alloc zc28) ?_
  rintro _ H3_1 ⟨rfl, hn3_1⟩
  have z3_1 := hn3_1.size
  replace hE := hE.ext hn3_1.ext
  replace o1_1 := o1_1.ext hn3_1.ext
  replace hE1 := hE1.ext hn3_1.ext
  replace o1_3 := o1_3.ext hn3_1.ext
  replace o2_4 := o2_4.ext hn3_1.ext
  replace hE2 := hE2.ext hn3_1.ext
  replace o2_6 := o2_6.ext hn3_1.ext
  have o3_1 := hn3_1.own
  refine Reg.op0 rfl rfl rfl (Does.stn ag28 rfl rfl (by first | rfl | exact ones_Is _) (by first | rfl | (simp [*]; done)) o3_1 (by first | decide | (simp; done) | (simp; omega) | omega)) ?_
  rintro _ H3_2 hu3_2
  have z3_2 := hu3_2.size
  replace hE := hE.upw hu3_2 (by omega)
  replace o1_1 := o1_1.upw hu3_2 (by omega)
  replace hE1 := hE1.upw hu3_2 (by omega)
  replace o1_3 := o1_3.upw hu3_2 (by omega)
  replace o2_4 := o2_4.upw hu3_2 (by omega)
  replace hE2 := hE2.upw hu3_2 (by omega)
  replace o2_6 := o2_6.upw hu3_2 (by omega)
  replace o3_1 := hu3_2.own
  first | rw [over (by first | rfl | (simp; done))] at o3_1 | skip
  refine Reg.nil ?_
  refine At.region rfl rfl ?_
  refine Reg.pur rfl rfl rfl rfl (Pur.fld _ fo28_0 rfl) ?_
  refine Reg.pur rfl rfl rfl rfl (Pur.idxP arr26 rfl rfl (by omega) (by omega)) ?_
  refine Reg.op0 rfl rfl rfl (Does.st sc3 rfl rfl rfl o3_1 (by first | decide | (simp; done) | (simp; omega) | omega)) ?_
  rintro _ H4_2 hu4_2
  have z4_2 := hu4_2.size
  replace hE := hE.upw hu4_2 (by omega)
  replace o1_1 := o1_1.upw hu4_2 (by omega)
  replace hE1 := hE1.upw hu4_2 (by omega)
  replace o1_3 := o1_3.upw hu4_2 (by omega)
  replace o2_4 := o2_4.upw hu4_2 (by omega)
  replace hE2 := hE2.upw hu4_2 (by omega)
  replace o2_6 := o2_6.upw hu4_2 (by omega)
  replace o3_1 := hu4_2.own
  refine Reg.nil ?_
  refine At.region rfl rfl ?_
  refine Reg.lod rfl rfl rfl rfl (Lod.ldn ag25 rfl o2_6.blk (by first | exact whole rfl | rfl | (simp only [List.drop_succ_cons, List.drop_zero, List.take_succ_cons, List.take_zero]; rfl)) (by first | rfl | (simp [*]; done))) ?_
  refine Reg.pur rfl rfl rfl rfl (Pur.bld (cs := [_, _, _, _, _, _, _, _]) pl49 zc49 rfl rfl ⟨rfl, rfl, rfl, rfl, rfl, rfl, rfl, rfl, rfl⟩) ?_
  refine Reg.lod rfl rfl rfl rfl (Lod.ldn ag28 rfl o3_1.blk (by first | exact whole rfl | rfl | (simp only [List.drop_succ_cons, List.drop_zero, List.take_succ_cons, List.take_zero]; rfl)) (by first | rfl | (simp [*]; done))) ?_
  refine Reg.pur rfl rfl rfl rfl (Pur.bld (cs := [_, _, _, _, _, _, _, _]) pl49 zc49 rfl rfl ⟨rfl, rfl, rfl, rfl, rfl, rfl, rfl, rfl, rfl⟩) ?_
  refine Reg.op rfl rfl rfl rfl (Does.bslA ([[_, _, _, _, _, _, _, _], [_, _, _, _, _, _, _, _]]) slA22 rfl rfl rfl rfl rfl rfl) ?_
  rintro _ H5_4 ⟨rfl, hp5_4⟩
  have hn5_4 := New.of_eq hp5_4
  have z5_4 := hn5_4.size
  replace hE := hE.ext hn5_4.ext
  replace o1_1 := o1_1.ext hn5_4.ext
  replace hE1 := hE1.ext hn5_4.ext
  replace o1_3 := o1_3.ext hn5_4.ext
  replace o2_4 := o2_4.ext hn5_4.ext
  replace hE2 := hE2.ext hn5_4.ext
  replace o2_6 := o2_6.ext hn5_4.ext
  replace o3_1 := o3_1.ext hn5_4.ext
  have o5_4 := hn5_4.own
  have hE3 := Ext.refl H5_4
  have hB5 := bds_new (L := awB (some ⟨H1_4.size, 0, none⟩)) hn5_4 (all_two (ok_lit (hS2.ext hE2) (nine_lit rfl) rfl (by decide)) (ok_nil rfl)) (Nat.le_of_ble_eq_true rfl)
  have z_hE3 := hE3.lt
  refine Reg.pur rfl rfl rfl rfl (Pur.asg rfl) ?_
  refine Reg.nil ?_
  refine At.region rfl rfl ?_
  refine Reg.pur rfl rfl rfl rfl (Pur.mv rfl) ?_
  refine Reg.lod rfl rfl rfl rfl (Lod.ldn ag25 rfl o2_6.blk (by first | exact whole rfl | rfl | (simp only [List.drop_succ_cons, List.drop_zero, List.take_succ_cons, List.take_zero]; rfl)) (by first | rfl | (simp [*]; done))) ?_
  refine Reg.op rfl rfl rfl rfl (Does.call rfl (type_ok (L := awF) (hB5.ext hE3) (hS2.ext hE2) (nine_lit rfl) (by decide))) ?_
  rintro v6_2 H6_2 ⟨hE6_2, hT6_2⟩
  have z6_2 := hE6_2.lt
  replace hE := hE.ext hE6_2
  replace o1_1 := o1_1.ext hE6_2
  replace hE1 := hE1.ext hE6_2
  replace o1_3 := o1_3.ext hE6_2
  replace o2_4 := o2_4.ext hE6_2
  replace hE2 := hE2.ext hE6_2
  replace o2_6 := o2_6.ext hE6_2
  replace o3_1 := o3_1.ext hE6_2
  replace o5_4 := o5_4.ext hE6_2
  replace hE3 := hE3.ext hE6_2
  rw [awT] at hT6_2
  obtain ⟨A6, cap6, rfl, ho6, _, _⟩ := hT6_2
  have z_ho6 := ho6.lt
  refine Reg.pur rfl rfl rfl rfl (Pur.mv rfl) ?_
  refine Reg.pur rfl rfl rfl rfl (Pur.ext rfl rfl) ?_
  refine Reg.pur rfl rfl rfl rfl (Pur.ext rfl rfl) ?_
  refine Reg.op rfl rfl rfl rfl (Does.alloc zc25) ?_
  rintro _ H6_6 ⟨rfl, hn6_6⟩
  have z6_6 := hn6_6.size
  replace hE := hE.ext hn6_6.ext
  replace o1_1 := o1_1.ext hn6_6.ext
  replace hE1 := hE1.ext hn6_6.ext
  replace o1_3 := o1_3.ext hn6_6.ext
  replace o2_4 := o2_4.ext hn6_6.ext
  replace hE2 := hE2.ext hn6_6.ext
  replace o2_6 := o2_6.ext hn6_6.ext
  replace o3_1 := o3_1.ext hn6_6.ext
  replace o5_4 := o5_4.ext hn6_6.ext
  replace hE3 := hE3.ext hn6_6.ext
  replace ho6 := ho6.ext hn6_6.ext
  have o6_6 := hn6_6.own
  refine Reg.op0 rfl rfl rfl (Does.stn ag25 rfl rfl (by first | rfl | exact ones_Is _) (by first | rfl | (simp [*]; done)) o6_6 (by first | decide | (simp; done) | (simp; omega) | omega)) ?_
  rintro _ H6_7 hu6_7
  have z6_7 := hu6_7.size
  replace hE := hE.upw hu6_7 (by omega)
  replace o1_1 := o1_1.upw hu6_7 (by omega)
  replace hE1 := hE1.upw hu6_7 (by omega)
  replace o1_3 := o1_3.upw hu6_7 (by omega)
  replace o2_4 := o2_4.upw hu6_7 (by omega)
  replace hE2 := hE2.upw hu6_7 (by omega)
  replace o2_6 := o2_6.upw hu6_7 (by omega)
  replace o3_1 := o3_1.upw hu6_7 (by omega)
  replace o5_4 := o5_4.upw hu6_7 (by omega)
  replace hE3 := hE3.upw hu6_7 (by omega)
  replace ho6 := ho6.upw hu6_7 (by omega)
  replace o6_6 := hu6_7.own
  first | rw [over (by first | rfl | (simp; done))] at o6_6 | skip
  refine Reg.pur rfl rfl rfl rfl (Pur.asg rfl) ?_
  refine Reg.nil ?_
  refine At.region rfl rfl ?_
  refine Reg.pur rfl rfl rfl rfl (Pur.mv rfl) ?_
  refine Reg.pur rfl rfl rfl rfl (Pur.bld (cs := [_, _, _, _, _]) pl28 zc28 rfl rfl ⟨rfl, rfl, rfl, rfl, rfl, rfl⟩) ?_
  refine Reg.op rfl rfl rfl rfl (Does.call rfl (row_ok (hB5.ext hE3) [0, 0, 0, 0, 3] rfl)) ?_
  rintro _ H7_2 ⟨rfl, _, hE7_2⟩
  have z7_2 := hE7_2.lt
  replace hE := hE.ext hE7_2
  replace o1_1 := o1_1.ext hE7_2
  replace hE1 := hE1.ext hE7_2
  replace o1_3 := o1_3.ext hE7_2
  replace o2_4 := o2_4.ext hE7_2
  replace hE2 := hE2.ext hE7_2
  replace o2_6 := o2_6.ext hE7_2
  replace o3_1 := o3_1.ext hE7_2
  replace o5_4 := o5_4.ext hE7_2
  replace hE3 := hE3.ext hE7_2
  replace ho6 := ho6.ext hE7_2
  replace o6_6 := o6_6.ext hE7_2
  refine Reg.pur rfl rfl rfl rfl (Pur.mv rfl) ?_
  refine Reg.pur rfl rfl rfl rfl (Pur.ext rfl rfl) ?_
  refine Reg.pur rfl rfl rfl rfl (Pur.ext rfl rfl) ?_
  refine Reg.op rfl rfl rfl rfl (Does.alloc zc28) ?_
  rintro _ H7_6 ⟨rfl, hn7_6⟩
  have z7_6 := hn7_6.size
  replace hE := hE.ext hn7_6.ext
  replace o1_1 := o1_1.ext hn7_6.ext
  replace hE1 := hE1.ext hn7_6.ext
  replace o1_3 := o1_3.ext hn7_6.ext
  replace o2_4 := o2_4.ext hn7_6.ext
  replace hE2 := hE2.ext hn7_6.ext
  replace o2_6 := o2_6.ext hn7_6.ext
  replace o3_1 := o3_1.ext hn7_6.ext
  replace o5_4 := o5_4.ext hn7_6.ext
  replace hE3 := hE3.ext hn7_6.ext
  replace ho6 := ho6.ext hn7_6.ext
  replace o6_6 := o6_6.ext hn7_6.ext
  have o7_6 := hn7_6.own
  refine Reg.op0 rfl rfl rfl (Does.stn ag28 rfl rfl (by first | rfl | exact ones_Is _) (by first | rfl | (simp [*]; done)) o7_6 (by first | decide | (simp; done) | (simp; omega) | omega)) ?_
  rintro _ H7_7 hu7_7
  have z7_7 := hu7_7.size
  replace hE := hE.upw hu7_7 (by omega)
  replace o1_1 := o1_1.upw hu7_7 (by omega)
  replace hE1 := hE1.upw hu7_7 (by omega)
  replace o1_3 := o1_3.upw hu7_7 (by omega)
  replace o2_4 := o2_4.upw hu7_7 (by omega)
  replace hE2 := hE2.upw hu7_7 (by omega)
  replace o2_6 := o2_6.upw hu7_7 (by omega)
  replace o3_1 := o3_1.upw hu7_7 (by omega)
  replace o5_4 := o5_4.upw hu7_7 (by omega)
  replace hE3 := hE3.upw hu7_7 (by omega)
  replace ho6 := ho6.upw hu7_7 (by omega)
  replace o6_6 := o6_6.upw hu7_7 (by omega)
  replace o7_6 := hu7_7.own
  first | rw [over (by first | rfl | (simp; done))] at o7_6 | skip
  refine Reg.pur rfl rfl rfl rfl (Pur.asg rfl) ?_
  refine Reg.nil ?_
  refine At.region rfl rfl ?_
  refine Reg.pur rfl rfl rfl rfl (Pur.mv rfl) ?_
  refine Reg.pur rfl rfl rfl rfl (Pur.bld (cs := [_]) pl25 zc25 rfl rfl ⟨rfl, rfl⟩) ?_
  refine Reg.op rfl rfl rfl rfl (Does.call rfl (type_ok (A1 := none) (L := []) (hB5.ext hE3) (sl_nil _) (nine_lit rfl) (by decide))) ?_
  rintro v8_2 H8_2 ⟨hE8_2, hT8_2⟩
  have z8_2 := hE8_2.lt
  replace hE := hE.ext hE8_2
  replace o1_1 := o1_1.ext hE8_2
  replace hE1 := hE1.ext hE8_2
  replace o1_3 := o1_3.ext hE8_2
  replace o2_4 := o2_4.ext hE8_2
  replace hE2 := hE2.ext hE8_2
  replace o2_6 := o2_6.ext hE8_2
  replace o3_1 := o3_1.ext hE8_2
  replace o5_4 := o5_4.ext hE8_2
  replace hE3 := hE3.ext hE8_2
  replace ho6 := ho6.ext hE8_2
  replace o6_6 := o6_6.ext hE8_2
  replace o7_6 := o7_6.ext hE8_2
  rw [awT2] at hT8_2
  obtain ⟨A8, cap8, rfl, _, _, _⟩ := hT8_2
  refine Reg.pur rfl rfl rfl rfl (Pur.mv rfl) ?_
  refine Reg.pur rfl rfl rfl rfl (Pur.ext rfl rfl) ?_
  refine Reg.pur rfl rfl rfl rfl (Pur.ext rfl rfl) ?_
  refine Reg.op rfl rfl rfl rfl (Does.alloc zc25) ?_
  rintro _ H8_6 ⟨rfl, hn8_6⟩
  have z8_6 := hn8_6.size
  replace hE := hE.ext hn8_6.ext
  replace o1_1 := o1_1.ext hn8_6.ext
  replace hE1 := hE1.ext hn8_6.ext
  replace o1_3 := o1_3.ext hn8_6.ext
  replace o2_4 := o2_4.ext hn8_6.ext
  replace hE2 := hE2.ext hn8_6.ext
  replace o2_6 := o2_6.ext hn8_6.ext
  replace o3_1 := o3_1.ext hn8_6.ext
  replace o5_4 := o5_4.ext hn8_6.ext
  replace hE3 := hE3.ext hn8_6.ext
  replace ho6 := ho6.ext hn8_6.ext
  replace o6_6 := o6_6.ext hn8_6.ext
  replace o7_6 := o7_6.ext hn8_6.ext
  have o8_6 := hn8_6.own
  refine Reg.op0 rfl rfl rfl (Does.stn ag25 rfl rfl (by first | rfl | exact ones_Is _) (by first | rfl | (simp [*]; done)) o8_6 (by first | decide | (simp; done) | (simp; omega) | omega)) ?_
  rintro _ H8_7 hu8_7
  have z8_7 := hu8_7.size
  replace hE := hE.upw hu8_7 (by omega)
  replace o1_1 := o1_1.upw hu8_7 (by omega)
  replace hE1 := hE1.upw hu8_7 (by omega)
  replace o1_3 := o1_3.upw hu8_7 (by omega)
  replace o2_4 := o2_4.upw hu8_7 (by omega)
  replace hE2 := hE2.upw hu8_7 (by omega)
  replace o2_6 := o2_6.upw hu8_7 (by omega)
  replace o3_1 := o3_1.upw hu8_7 (by omega)
  replace o5_4 := o5_4.upw hu8_7 (by omega)
  replace hE3 := hE3.upw hu8_7 (by omega)
  replace ho6 := ho6.upw hu8_7 (by omega)
  replace o6_6 := o6_6.upw hu8_7 (by omega)
  replace o7_6 := o7_6.upw hu8_7 (by omega)
  replace o8_6 := hu8_7.own
  first | rw [over (by first | rfl | (simp; done))] at o8_6 | skip
  refine Reg.pur rfl rfl rfl rfl (Pur.asg rfl) ?_
  refine Reg.nil ?_
  refine At.region rfl rfl ?_
  refine Reg.lod rfl rfl rfl rfl (Lod.ldn ag25 rfl o1_3.blk (by first | exact whole rfl | rfl | (simp only [List.drop_succ_cons, List.drop_zero, List.take_succ_cons, List.take_zero]; rfl)) (by first | rfl | (simp [*]; done))) ?_
  refine Reg.lod rfl rfl rfl rfl (Lod.ldn ag28 rfl o3_1.blk (by first | exact whole rfl | rfl | (simp only [List.drop_succ_cons, List.drop_zero, List.take_succ_cons, List.take_zero]; rfl)) (by first | rfl | (simp [*]; done))) ?_
  refine Reg.pur rfl rfl rfl rfl (Pur.bld (cs := [_, _, _, _, _, _, _, _]) pl49 zc49 rfl rfl ⟨rfl, rfl, rfl, rfl, rfl, rfl, rfl, rfl, rfl⟩) ?_
  refine Reg.op rfl rfl rfl rfl (Does.bslA ([[_, _, _, _, _, _, _, _]]) slA22 rfl rfl rfl rfl rfl rfl) ?_
  rintro _ H9_3 ⟨rfl, hp9_3⟩
  have hn9_3 := New.of_eq hp9_3
  have z9_3 := hn9_3.size
  replace hE := hE.ext hn9_3.ext
  replace o1_1 := o1_1.ext hn9_3.ext
  replace hE1 := hE1.ext hn9_3.ext
  replace o1_3 := o1_3.ext hn9_3.ext
  replace o2_4 := o2_4.ext hn9_3.ext
  replace hE2 := hE2.ext hn9_3.ext
  replace o2_6 := o2_6.ext hn9_3.ext
  replace o3_1 := o3_1.ext hn9_3.ext
  replace o5_4 := o5_4.ext hn9_3.ext
  replace hE3 := hE3.ext hn9_3.ext
  replace ho6 := ho6.ext hn9_3.ext
  replace o6_6 := o6_6.ext hn9_3.ext
  replace o7_6 := o7_6.ext hn9_3.ext
  replace o8_6 := o8_6.ext hn9_3.ext
  have o9_3 := hn9_3.own
  refine Reg.lod rfl rfl rfl rfl (Lod.ldn ag25 rfl o1_3.blk (by first | exact whole rfl | rfl | (simp only [List.drop_succ_cons, List.drop_zero, List.take_succ_cons, List.take_zero]; rfl)) (by first | rfl | (simp [*]; done))) ?_
  refine Reg.op rfl rfl rfl rfl (Does.call rfl (type_ok (L := awV) (bds_new (L := [⟨2, false, some ⟨H.size, 0, none⟩, 1, awV, awR⟩]) hn9_3 (all_one (ok_lit (hS1.ext hE1) (nine_lit rfl) rfl (by decide))) (Nat.le_of_ble_eq_true rfl)) (hS1.ext hE1) (nine_lit rfl) (by decide))) ?_
  rintro v9_5 H9_5 ⟨hE9_5, hT9_5⟩
  have z9_5 := hE9_5.lt
  replace hE := hE.ext hE9_5
  replace o1_1 := o1_1.ext hE9_5
  replace hE1 := hE1.ext hE9_5
  replace o1_3 := o1_3.ext hE9_5
  replace o2_4 := o2_4.ext hE9_5
  replace hE2 := hE2.ext hE9_5
  replace o2_6 := o2_6.ext hE9_5
  replace o3_1 := o3_1.ext hE9_5
  replace o5_4 := o5_4.ext hE9_5
  replace hE3 := hE3.ext hE9_5
  replace ho6 := ho6.ext hE9_5
  replace o6_6 := o6_6.ext hE9_5
  replace o7_6 := o7_6.ext hE9_5
  replace o8_6 := o8_6.ext hE9_5
  replace o9_3 := o9_3.ext hE9_5
  rw [awT3] at hT9_5
  obtain ⟨A9, cap9, rfl, _, _, _⟩ := hT9_5
  refine Reg.pur rfl rfl rfl rfl (Pur.mv rfl) ?_
  refine Reg.pur rfl rfl rfl rfl (Pur.ext rfl rfl) ?_
  refine Reg.pur rfl rfl rfl rfl (Pur.ext rfl rfl) ?_
  refine Reg.op rfl rfl rfl rfl (Does.alloc zc25) ?_
  rintro _ H9_9 ⟨rfl, hn9_9⟩
  have z9_9 := hn9_9.size
  replace hE := hE.ext hn9_9.ext
  replace o1_1 := o1_1.ext hn9_9.ext
  replace hE1 := hE1.ext hn9_9.ext
  replace o1_3 := o1_3.ext hn9_9.ext
  replace o2_4 := o2_4.ext hn9_9.ext
  replace hE2 := hE2.ext hn9_9.ext
  replace o2_6 := o2_6.ext hn9_9.ext
  replace o3_1 := o3_1.ext hn9_9.ext
  replace o5_4 := o5_4.ext hn9_9.ext
  replace hE3 := hE3.ext hn9_9.ext
  replace ho6 := ho6.ext hn9_9.ext
  replace o6_6 := o6_6.ext hn9_9.ext
  replace o7_6 := o7_6.ext hn9_9.ext
  replace o8_6 := o8_6.ext hn9_9.ext
  replace o9_3 := o9_3.ext hn9_9.ext
  have o9_9 := hn9_9.own
  refine Reg.op0 rfl rfl rfl (Does.stn ag25 rfl rfl (by first | rfl | exact ones_Is _) (by first | rfl | (simp [*]; done)) o9_9 (by first | decide | (simp; done) | (simp; omega) | omega)) ?_
  rintro _ H9_10 hu9_10
  have z9_10 := hu9_10.size
  replace hE := hE.upw hu9_10 (by omega)
  replace o1_1 := o1_1.upw hu9_10 (by omega)
  replace hE1 := hE1.upw hu9_10 (by omega)
  replace o1_3 := o1_3.upw hu9_10 (by omega)
  replace o2_4 := o2_4.upw hu9_10 (by omega)
  replace hE2 := hE2.upw hu9_10 (by omega)
  replace o2_6 := o2_6.upw hu9_10 (by omega)
  replace o3_1 := o3_1.upw hu9_10 (by omega)
  replace o5_4 := o5_4.upw hu9_10 (by omega)
  replace hE3 := hE3.upw hu9_10 (by omega)
  replace ho6 := ho6.upw hu9_10 (by omega)
  replace o6_6 := o6_6.upw hu9_10 (by omega)
  replace o7_6 := o7_6.upw hu9_10 (by omega)
  replace o8_6 := o8_6.upw hu9_10 (by omega)
  replace o9_3 := o9_3.upw hu9_10 (by omega)
  replace o9_9 := hu9_10.own
  first | rw [over (by first | rfl | (simp; done))] at o9_9 | skip
  refine Reg.pur rfl rfl rfl rfl (Pur.asg rfl) ?_
  refine Reg.nil ?_
  obtain ⟨g6, c6, rfl, hg6, hc6, _⟩ := ho6.blk (by decide)
  refine At.drawE ((Bks.cons o6_6.blk (Bks.cons o3_1.blk (Bks.cons o7_6.blk (Bks.cons hg6.blk Bks.nil))))) [] mixed rfl rfl ?_
  refine RegD.tpur (i := 0) rfl rfl rfl rfl (by kernel_rfl) (Pur.fld _ fo25_0 rfl) ?_
  refine RegD.take (i := 1) rfl rfl rfl rfl (by kernel_rfl) (Bks.cons o6_6.blk (Bks.cons o3_1.blk (Bks.cons o7_6.blk (Bks.cons hg6.blk Bks.nil)))) (fun H hS => Lod.ld sc23 rfl hS.hd (by first | rfl | (simp; done))) ?_
  refine RegD.tpur (i := 2) rfl rfl rfl rfl (by kernel_rfl) (Pur.lenS isl23 rfl) ?_
  refine RegD.tpur (i := 3) rfl rfl rfl rfl (by kernel_rfl) (Pur.eql rfl rfl) ?_
  refine RegD.tpur (i := 4) rfl rfl rfl rfl (by kernel_rfl) (Pur.mv rfl) ?_
  refine RegD.known (b' := true) 61 rfl (by rfl) ?_
  refine RegD.gtpur (i := 5) rfl rfl rfl rfl rfl rfl (by kernel_rfl) (Pur.fld _ fo25_0 rfl) ?_
  refine RegD.gtake (i := 6) rfl rfl rfl rfl rfl rfl (by kernel_rfl) (Bks.cons o6_6.blk (Bks.cons o3_1.blk (Bks.cons o7_6.blk (Bks.cons hg6.blk Bks.nil)))) (fun H hS => Lod.ld sc23 rfl hS.hd (by first | rfl | (simp; done))) ?_
  refine RegD.gtpur (i := 7) rfl rfl rfl rfl rfl rfl (by kernel_rfl) (Pur.idx _ es23 rfl rfl (by decide) (by decide)) ?_
  refine RegD.gtpur (i := 8) rfl rfl rfl rfl rfl rfl (by kernel_rfl) (Pur.fld _ fo47_4 rfl) ?_
  refine RegD.gtpur (i := 9) rfl rfl rfl rfl rfl rfl (by kernel_rfl) (Pur.fld _ fo28_1 rfl) ?_
  refine RegD.gtake (i := 10) rfl rfl rfl rfl rfl rfl (by kernel_rfl) (Bks.cons o6_6.blk (Bks.cons o3_1.blk (Bks.cons o7_6.blk (Bks.cons hg6.blk Bks.nil)))) (fun H hS => Lod.ld sc3 rfl hS.tl.tl.tl.hd (tk_at hc6 rfl)) ?_
  refine RegD.gtpur (i := 11) rfl rfl rfl rfl rfl rfl (by kernel_rfl) (Pur.eql rfl rfl) ?_
  refine RegD.tpur (i := 12) rfl rfl rfl rfl (by kernel_rfl) (Pur.pickT rfl rfl) ?_
  refine RegD.tpur (i := 13) rfl rfl rfl rfl (by kernel_rfl) (Pur.mv rfl) ?_
  refine RegD.known (b' := true) 70 rfl (by rfl) ?_
  refine RegD.gtpur (i := 14) rfl rfl rfl rfl rfl rfl (by kernel_rfl) (Pur.fld _ fo25_0 rfl) ?_
  refine RegD.gtake (i := 15) rfl rfl rfl rfl rfl rfl (by kernel_rfl) (Bks.cons o6_6.blk (Bks.cons o3_1.blk (Bks.cons o7_6.blk (Bks.cons hg6.blk Bks.nil)))) (fun H hS => Lod.ld sc23 rfl hS.hd (by first | rfl | (simp; done))) ?_
  refine RegD.gtpur (i := 16) rfl rfl rfl rfl rfl rfl (by kernel_rfl) (Pur.idx _ es23 rfl rfl (by decide) (by decide)) ?_
  refine RegD.gtpur (i := 17) rfl rfl rfl rfl rfl rfl (by kernel_rfl) (Pur.fld _ fo47_4 rfl) ?_
  refine RegD.gtake (i := 18) rfl rfl rfl rfl rfl rfl (by kernel_rfl) (Bks.cons o6_6.blk (Bks.cons o3_1.blk (Bks.cons o7_6.blk (Bks.cons hg6.blk Bks.nil)))) (fun H hS => Lod.ldn ag28 rfl hS.tl.tl.tl.hd ((take_mid hc6 (by decide)).trans rfl) rfl) ?_
  refine RegD.gtake (i := 19) rfl rfl rfl rfl rfl rfl (by kernel_rfl) (Bks.cons o6_6.blk (Bks.cons o3_1.blk (Bks.cons o7_6.blk (Bks.cons hg6.blk Bks.nil)))) (fun H hS => Lod.ldn ag28 rfl hS.tl.hd (by first | exact whole rfl | rfl | (simp only [List.drop_succ_cons, List.drop_zero, List.take_succ_cons, List.take_zero]; rfl)) (by first | rfl | (simp [*]; done))) ?_
  refine RegD.gtpur (i := 20) rfl rfl rfl rfl rfl rfl (by kernel_rfl) (Pur.eqA eqt28 rfl rfl (fks_ints .i64 awR) (fks_ints .i64 awR)) ?_
  refine RegD.tpur (i := 21) rfl rfl rfl rfl (by kernel_rfl) (Pur.pickT rfl rfl) ?_
  refine RegD.tpur (i := 22) rfl rfl rfl rfl (by kernel_rfl) (Pur.mv rfl) ?_
  refine RegD.known (b' := true) 79 rfl (by rfl) ?_
  refine RegD.gtpur (i := 23) rfl rfl rfl rfl rfl rfl (by kernel_rfl) (Pur.fld _ fo25_0 rfl) ?_
  refine RegD.gtake (i := 24) rfl rfl rfl rfl rfl rfl (by kernel_rfl) (Bks.cons o6_6.blk (Bks.cons o3_1.blk (Bks.cons o7_6.blk (Bks.cons hg6.blk Bks.nil)))) (fun H hS => Lod.ld sc23 rfl hS.hd (by first | rfl | (simp; done))) ?_
  refine RegD.gtpur (i := 25) rfl rfl rfl rfl rfl rfl (by kernel_rfl) (Pur.idx _ es23 rfl rfl (by decide) (by decide)) ?_
  refine RegD.gtpur (i := 26) rfl rfl rfl rfl rfl rfl (by kernel_rfl) (Pur.fld _ fo47_2 rfl) ?_
  refine RegD.gtake (i := 27) rfl rfl rfl rfl rfl rfl (by kernel_rfl) (Bks.cons o6_6.blk (Bks.cons o3_1.blk (Bks.cons o7_6.blk (Bks.cons hg6.blk Bks.nil)))) (fun H hS => Lod.ld sc3 rfl hS.tl.tl.tl.hd (tk_at hc6 rfl)) ?_
  refine RegD.gtpur (i := 28) rfl rfl rfl rfl rfl rfl (by kernel_rfl) (Pur.eql rfl rfl) ?_
  refine RegD.tpur (i := 29) rfl rfl rfl rfl (by kernel_rfl) (Pur.pickT rfl rfl) ?_
  refine RegD.tpur (i := 30) rfl rfl rfl rfl (by kernel_rfl) (Pur.mv rfl) ?_
  refine RegD.known (b' := true) 87 rfl (by rfl) ?_
  refine RegD.gtpur (i := 31) rfl rfl rfl rfl rfl rfl (by kernel_rfl) (Pur.mv rfl) ?_
  refine RegD.gone (i := 32) (by kernel_rfl) rfl rfl rfl rfl rfl rfl (Does.call rfl (numE_ok _ _)) ?_
  rintro _ H9_10 ⟨rfl, rfl⟩
  refine ⟨fun _ _ => (Bks.cons o6_6.blk (Bks.cons o3_1.blk (Bks.cons o7_6.blk (Bks.cons hg6.blk Bks.nil)))), ?_⟩
  refine RegD.gtpur (i := 33) rfl rfl rfl rfl rfl rfl (by kernel_rfl) (Pur.eql rfl rfl) ?_
  refine RegD.tpur (i := 34) rfl rfl rfl rfl (by kernel_rfl) (Pur.pickT rfl rfl) ?_
  refine RegD.tpur (i := 35) rfl rfl rfl rfl (by kernel_rfl) (Pur.mv rfl) ?_
  refine RegD.known (b' := true) 92 rfl (by rfl) ?_
  refine RegD.gtake (i := 36) rfl rfl rfl rfl rfl rfl (by kernel_rfl) (Bks.cons o6_6.blk (Bks.cons o3_1.blk (Bks.cons o7_6.blk (Bks.cons hg6.blk Bks.nil)))) (fun H hS => Lod.ldn ag28 rfl hS.tl.tl.hd (by first | exact whole rfl | rfl | (simp only [List.drop_succ_cons, List.drop_zero, List.take_succ_cons, List.take_zero]; rfl)) (by first | rfl | (simp [*]; done))) ?_
  refine RegD.gtake (i := 37) rfl rfl rfl rfl rfl rfl (by kernel_rfl) (Bks.cons o6_6.blk (Bks.cons o3_1.blk (Bks.cons o7_6.blk (Bks.cons hg6.blk Bks.nil)))) (fun H hS => Lod.ldn ag28 rfl hS.tl.hd (by first | exact whole rfl | rfl | (simp only [List.drop_succ_cons, List.drop_zero, List.take_succ_cons, List.take_zero]; rfl)) (by first | rfl | (simp [*]; done))) ?_
  refine RegD.gtpur (i := 38) rfl rfl rfl rfl rfl rfl (by kernel_rfl) (Pur.eqA eqt28 rfl rfl (fks_ints .i64 awR) (fks_ints .i64 awR)) ?_
  refine RegD.tpur (i := 39) rfl rfl rfl rfl (by kernel_rfl) (Pur.pickT rfl rfl) ?_
  refine RegD.tpur (i := 40) rfl rfl rfl rfl (by kernel_rfl) (Pur.mv rfl) ?_
  refine RegD.known (b' := true) 97 rfl (by rfl) ?_
  refine RegD.gtpur (i := 41) rfl rfl rfl rfl rfl rfl (by kernel_rfl) (Pur.mv rfl) ?_
  refine RegD.gone (i := 42) (by kernel_rfl) rfl rfl rfl rfl rfl rfl (Does.call rfl (numE_ok _ _)) ?_
  rintro _ H9_10 ⟨rfl, rfl⟩
  refine ⟨fun _ _ => (Bks.cons o6_6.blk (Bks.cons o3_1.blk (Bks.cons o7_6.blk (Bks.cons hg6.blk Bks.nil)))), ?_⟩
  refine RegD.gtpur (i := 43) rfl rfl rfl rfl rfl rfl (by kernel_rfl) (Pur.eql rfl rfl) ?_
  refine RegD.tpur (i := 44) rfl rfl rfl rfl (by kernel_rfl) (Pur.pickT rfl rfl) ?_
  refine RegD.tpur (i := 45) rfl rfl rfl rfl (by kernel_rfl) (Pur.mv rfl) ?_
  refine RegD.known (b' := true) 102 rfl (by rfl) ?_
  refine RegD.gtpur (i := 46) rfl rfl rfl rfl rfl rfl (by kernel_rfl) (Pur.mv rfl) ?_
  refine RegD.gone (i := 47) (by kernel_rfl) rfl rfl rfl rfl rfl rfl (Does.call rfl (numE_ok _ _)) ?_
  rintro _ H9_10 ⟨rfl, rfl⟩
  refine ⟨fun _ _ => (Bks.cons o6_6.blk (Bks.cons o3_1.blk (Bks.cons o7_6.blk (Bks.cons hg6.blk Bks.nil)))), ?_⟩
  refine RegD.gtpur (i := 48) rfl rfl rfl rfl rfl rfl (by kernel_rfl) (Pur.eql rfl rfl) ?_
  refine RegD.tpur (i := 49) rfl rfl rfl rfl (by kernel_rfl) (Pur.pickT rfl rfl) ?_
  refine RegD.tpur (i := 50) rfl rfl rfl rfl (by kernel_rfl) (Pur.mv rfl) ?_
  refine RegD.known (b' := true) 107 rfl (by rfl) ?_
  refine RegD.gtpur (i := 51) rfl rfl rfl rfl rfl rfl (by kernel_rfl) (Pur.mv rfl) ?_
  refine RegD.gone (i := 52) (by kernel_rfl) rfl rfl rfl rfl rfl rfl (Does.call rfl (numE_ok _ _)) ?_
  rintro _ H9_10 ⟨rfl, rfl⟩
  refine ⟨fun _ _ => (Bks.cons o6_6.blk (Bks.cons o3_1.blk (Bks.cons o7_6.blk (Bks.cons hg6.blk Bks.nil)))), ?_⟩
  refine RegD.gtpur (i := 53) rfl rfl rfl rfl rfl rfl (by kernel_rfl) (Pur.eql rfl rfl) ?_
  refine RegD.tpur (i := 54) rfl rfl rfl rfl (by kernel_rfl) (Pur.pickT rfl rfl) ?_
  refine RegD.tpur (i := 55) rfl rfl rfl rfl (by kernel_rfl) (Pur.asg rfl) ?_
  refine RegD.done (by kernel_rfl) ?_
  refine At.ret rfl Try.func28 rfl ?_
  exact ⟨rfl, hE⟩
end Go.Proofs.Ytlfillhffpiffaa
