/-
  Chapter 9: binds that are none.
-/
import Derived.Test.YtlfillhffpiffaaSubT
import Derived.Test.YtlfillhffpiffaaFxO
namespace Go.Proofs.Ytlfillhffpiffaa
set_option linter.unusedSimpArgs false
set_option linter.unusedVariables false
set_option maxRecDepth 8000
set_option maxHeartbeats 1000000
open Go Go.Fx Go.Proofs
namespace FactsSubU
theorem ag25 : ag Try.prog 25 = some 1 := by kernel_rfl
theorem ag28 : ag Try.prog 28 = some 5 := by kernel_rfl
theorem ag49 : ag Try.prog 49 = some 8 := by kernel_rfl
theorem arr26 : arr Try.prog 26 = some (4, 1) := by kernel_rfl
theorem es22 : esz Try.prog 22 = some 8 := by kernel_rfl
theorem fo28_0 : foff Try.prog 28 0 = some 0 := by kernel_rfl
theorem mixed : Try.prog.follows .mixedOrders = true := by kernel_rfl
theorem mkN22 : mkN Try.prog 22 = some (49, [.int .i64 0, .bool false, .slice none 0 0, .int .i64 0, .int .i64 0, .int .i64 0, .int .i64 0, .int .i64 0], 80) := by kernel_rfl
theorem pl25 : places Try.prog 25 = some [(0, 1)] := by kernel_rfl
theorem pl28 : places Try.prog 28 = some [(0, 4), (4, 1)] := by kernel_rfl
theorem pl47 : places Try.prog 47 = some [(0, 1), (1, 1), (2, 1), (3, 1), (4, 5)] := by kernel_rfl
theorem pl49 : places Try.prog 49 = some [(0, 1), (1, 1), (2, 1), (3, 5)] := by kernel_rfl
theorem sc3 : sc Try.prog 3 = true := by kernel_rfl
theorem slA22 : slA Try.prog 22 = some (49, 8) := by kernel_rfl
theorem slA23 : slA Try.prog 23 = some (47, 9) := by kernel_rfl
theorem zc25 : zc Try.prog 25 = some [.slice none 0 0] := by kernel_rfl
theorem zc28 : zc Try.prog 28 = some [.int .i64 0, .int .i64 0, .int .i64 0, .int .i64 0, .int .i64 0] := by kernel_rfl
theorem zc47 : zc Try.prog 47 = some [.int .i64 0, .int .i64 0, .int .i64 0, .int .i64 0, .int .i64 0, .int .i64 0, .int .i64 0, .int .i64 0, .int .i64 0] := by kernel_rfl
theorem zc49 : zc Try.prog 49 = some [.int .i64 0, .bool false, .slice none 0 0, .int .i64 0, .int .i64 0, .int .i64 0, .int .i64 0, .int .i64 0] := by kernel_rfl
end FactsSubU
open FactsSubU

abbrev fmV : List (List Int) := [[2, 1, 0, 0, 0, 0, 0, 0, 0]]
abbrev badBs (d : Int) (A : Option Addr) : List Bd := [⟨-d, false, A, 1, fmV, noRow⟩, ⟨4095 + d, false, A, 1, fmV, noRow⟩, ⟨1, false, none, 0, [], noRow⟩, ⟨1, true, A, 1, fmV, [0, 0, 0, 0, 1]⟩, ⟨1, false, A, 1, fmV, [0, 0, 0, 0, 1]⟩, ⟨1, true, none, 0, [], [0, 0, 0, 0, -1 - d]⟩]
theorem bad_bind {d : Int} (hd : 1 ≤ d) (A : Option Addr) : ∀ b ∈ badBs d A, bindM b = false := by
  intro b hb
  simp only [List.mem_cons, List.mem_nil_iff, or_false] at hb
  rcases hb with rfl | rfl | rfl | rfl | rfl | rfl
  · unfold bindM; rw [decide_eq_false (by dsimp only; omega)]; rfl
  · unfold bindM; rw [decide_eq_false (by dsimp only; omega)]; rfl
  · rfl
  · rfl
  · rfl
  · have : rowM [0, 0, 0, 0, -1 - d] = false := by simp [rowM]; omega
    unfold bindM; simp [this]
theorem bad_ok {d : Int} {A : Option Addr} {H : Heap} (h : SlT H Is 9 (.slice A 1 1) fmV) : ∀ b ∈ badBs d A, b.Ok H := by
  intro b hb
  simp only [List.mem_cons, List.mem_nil_iff, or_false] at hb
  have h9 : Nine fmV := nine_lit rfl
  have hl : fmV.length ≤ 256 := by decide
  rcases hb with rfl | rfl | rfl | rfl | rfl | rfl
  · exact ok_lit h h9 rfl hl
  · exact ok_lit h h9 rfl hl
  · exact ok_nil rfl
  · exact ok_lit h h9 rfl hl
  · exact ok_lit h h9 rfl hl
  · exact ok_nil rfl
theorem many_none {n : Nat} (hn : 4096 < n) (b : Bd) (L : List (List Int)) : subT (List.replicate n b) L = none := by
  unfold subT
  rw [if_neg]
  rintro ⟨h, _⟩
  unfold bindsM at h
  simp only [Bool.and_eq_true, decide_eq_true_eq, List.length_replicate] at h
  omega
theorem fullR : subR [⟨1, true, none, 0, [], [0, 0, 32, 0, -1]⟩] [0, 0, 1, 0, 1] = (noRow, false) := by kernel_rfl

theorem type_many {n : Nat} (hn : 4096 < n) (hn2 : n ≤ 10000) {H0 H1 H : Heap} {A1 : Option Addr} {cap1 : Nat} {L : List (List Int)} (hnew : New H0 H1 (List.replicate n (encB ⟨0, false, none, 0, [], noRow⟩)).flatten) (hE : Ext H1 H) (hS : SlT H Is 9 (.slice A1 L.length cap1) L) (hL : Nine L) (hm : L.length * 72 ≤ 140737488351232) :
    Ret Try.prog 20 [.slice (some ⟨H0.size, 0, none⟩) n n, Ty A1 L.length cap1] H (fun v H' => Ext H H' ∧ TypV H.size H' (I 900) v []) := by
  have hok : ∀ b ∈ List.replicate n (⟨0, false, none, 0, [], noRow⟩ : Bd), b.Ok H1 := fun b hb => by rw [List.eq_of_mem_replicate hb]; exact ok_nil rfl
  have hB : Bds H1 (.slice (some ⟨H0.size, 0, none⟩) (List.replicate n (⟨0, false, none, 0, [], noRow⟩ : Bd)).length n) (List.replicate n ⟨0, false, none, 0, [], noRow⟩) := by
    have hs := sl_new (enc := encB) (n := 8) (L := List.replicate n (⟨0, false, none, 0, [], noRow⟩ : Bd)) (fun x hx => (hok x hx).len) (by decide) (by rw [List.flatMap_def, List.map_replicate]; exact hnew) (by rw [List.length_replicate]; omega)
    rw [List.length_replicate] at hs ⊢
    exact ⟨hs, hok, by rw [List.length_replicate]; omega⟩
  have h := type_ok (hB.ext hE) hS hL hm
  rw [List.length_replicate, many_none hn] at h
  exact h
theorem substForms_law (n1 n2 : Int) (H : Heap) :
    Ret Try.prog 5 [I n1, I n2] H (fun v H' => v = .bool true ∧ Ext H H') := by
  obtain ⟨d, hd⟩ : ∃ d, d = 1 + bits .and .i64 n2 1023 := ⟨_, rfl⟩
  have hd3 : 1 ≤ d ∧ d ≤ 1024 := by have : 0 ≤ bits .and .i64 n2 1023 ∧ bits .and .i64 n2 1023 ≤ 1023 := and_le n2 1023 (by decide); rw [hd]; omega
  have hz := umod n1 6 (by decide) (by decide)
  refine Ret.of_at (N := 109) Try.call5 Try.func5 rfl rfl rfl ?_
  have hE := Ext.refl H
  refine At.region rfl rfl ?_
  refine Reg.pur rfl rfl rfl rfl (Pur.asg rfl) ?_
  refine Reg.nil ?_
  refine At.region rfl rfl ?_
  refine Reg.op rfl rfl rfl rfl (Does.call rfl (awake9_ok _)) ?_
  rintro _ H1_0 ⟨rfl, hE1_0⟩
  have z1_0 := hE1_0.lt
  replace hE := hE.ext hE1_0
  refine Reg.pur rfl rfl rfl rfl (Pur.not rfl) ?_
  refine Reg.nil ?_
  refine At.condF rfl rfl rfl ?_
  have hbb : 0 ≤ bits .and .i64 n2 1023 ∧ bits .and .i64 n2 1023 ≤ 1023 := and_le n2 1023 (by decide)
  refine At.region rfl rfl ?_
  refine Reg.pur rfl rfl rfl rfl (Pur.mv rfl) ?_
  refine Reg.pur rfl rfl rfl rfl (Pur.and rfl rfl) ?_
  first | refine Reg.pur rfl rfl rfl rfl (Pur.add64 rfl rfl (by omega)) ?_ | refine Reg.pur rfl rfl rfl rfl (Pur.add64 rfl rfl (by assumption)) ?_ | refine Reg.pur rfl rfl rfl rfl (Pur.add rfl rfl) ?_
  refine Reg.pur rfl rfl rfl rfl (Pur.asg rfl) ?_
  refine Reg.nil ?_
  rw [← hd]
  clear hd hbb
  refine At.region rfl rfl ?_
  refine Reg.pur rfl rfl rfl rfl (Pur.bld (cs := [_, _, _, _, _, _, _, _, _]) pl47 zc47 rfl rfl ⟨rfl, rfl, rfl, rfl, rfl, rfl, rfl, rfl, rfl, rfl⟩) ?_
  refine Reg.op rfl rfl rfl rfl (Does.bslA ([[_, _, _, _, _, _, _, _, _]]) slA23 rfl rfl rfl rfl rfl rfl) ?_
  rintro _ H4_1 ⟨rfl, hp4_1⟩
  have hn4_1 := New.of_eq hp4_1
  have z4_1 := hn4_1.size
  replace hE := hE.ext hn4_1.ext
  have o4_1 := hn4_1.own
  have hS1 : SlT H4_1 Is 9 (.slice (some ⟨H1_0.size, 0, none⟩) 1 1) fmV := sl_new (L := fmV) (wide9 (nine_lit rfl)) (by decide) hn4_1 (by decide)
  have hE1 := Ext.refl H4_1
  have z_hE1 := hE1.lt
  refine Reg.pur rfl rfl rfl rfl (Pur.bld (cs := [_]) pl25 zc25 rfl rfl ⟨rfl, rfl⟩) ?_
  refine Reg.op rfl rfl rfl rfl (Does.alloc zc25) ?_
  rintro _ H4_3 ⟨rfl, hn4_3⟩
  have z4_3 := hn4_3.size
  replace hE := hE.ext hn4_3.ext
  replace o4_1 := o4_1.ext hn4_3.ext
  replace hE1 := hE1.ext hn4_3.ext
  have o4_3 := hn4_3.own
  refine Reg.op0 rfl rfl rfl (Does.stn ag25 rfl rfl (by first | rfl | exact ones_Is _) (by first | rfl | (simp [*]; done)) o4_3 (by first | decide | (simp; done) | (simp; omega) | omega)) ?_
  rintro _ H4_4 hu4_4
  have z4_4 := hu4_4.size
  replace hE := hE.upw hu4_4 (by omega)
  replace o4_1 := o4_1.upw hu4_4 (by omega)
  replace hE1 := hE1.upw hu4_4 (by omega)
  replace o4_3 := hu4_4.own
  first | rw [over (by first | rfl | (simp; done))] at o4_3 | skip
  refine Reg.nil ?_
  refine At.region rfl rfl ?_
  refine Reg.pur rfl rfl rfl rfl (Pur.bld (cs := [_, _, _, _, _]) pl28 zc28 rfl rfl ⟨rfl, rfl, rfl, rfl, rfl, rfl⟩) ?_
  refine Reg.op rfl rfl rfl rfl (Does.alloc zc28) ?_
  rintro _ H5_1 ⟨rfl, hn5_1⟩
  have z5_1 := hn5_1.size
  replace hE := hE.ext hn5_1.ext
  replace o4_1 := o4_1.ext hn5_1.ext
  replace hE1 := hE1.ext hn5_1.ext
  replace o4_3 := o4_3.ext hn5_1.ext
  have o5_1 := hn5_1.own
  refine Reg.op0 rfl rfl rfl (Does.stn ag28 rfl rfl (by first | rfl | exact ones_Is _) (by first | rfl | (simp [*]; done)) o5_1 (by first | decide | (simp; done) | (simp; omega) | omega)) ?_
  rintro _ H5_2 hu5_2
  have z5_2 := hu5_2.size
  replace hE := hE.upw hu5_2 (by omega)
  replace o4_1 := o4_1.upw hu5_2 (by omega)
  replace hE1 := hE1.upw hu5_2 (by omega)
  replace o4_3 := o4_3.upw hu5_2 (by omega)
  replace o5_1 := hu5_2.own
  first | rw [over (by first | rfl | (simp; done))] at o5_1 | skip
  refine Reg.nil ?_
  refine At.region rfl rfl ?_
  refine Reg.pur rfl rfl rfl rfl (Pur.mv rfl) ?_
  first | refine Reg.pur rfl rfl rfl rfl (Pur.neg64 rfl (by omega)) ?_ | refine Reg.pur rfl rfl rfl rfl (Pur.neg rfl) ?_
  refine Reg.lod rfl rfl rfl rfl (Lod.ldn ag25 rfl o4_3.blk (by first | exact whole rfl | rfl | (simp only [List.drop_succ_cons, List.drop_zero, List.take_succ_cons, List.take_zero]; rfl)) (by first | rfl | (simp [*]; done))) ?_
  refine Reg.pur rfl rfl rfl rfl (Pur.bld (cs := [_, _, _, _, _, _, _, _]) pl49 zc49 rfl rfl ⟨rfl, rfl, rfl, rfl, rfl, rfl, rfl, rfl, rfl⟩) ?_
  refine Reg.pur rfl rfl rfl rfl (Pur.mv rfl) ?_
  first | refine Reg.pur rfl rfl rfl rfl (Pur.add64 rfl rfl (by omega)) ?_ | refine Reg.pur rfl rfl rfl rfl (Pur.add64 rfl rfl (by assumption)) ?_ | refine Reg.pur rfl rfl rfl rfl (Pur.add rfl rfl) ?_
  refine Reg.lod rfl rfl rfl rfl (Lod.ldn ag25 rfl o4_3.blk (by first | exact whole rfl | rfl | (simp only [List.drop_succ_cons, List.drop_zero, List.take_succ_cons, List.take_zero]; rfl)) (by first | rfl | (simp [*]; done))) ?_
  refine Reg.pur rfl rfl rfl rfl (Pur.bld (cs := [_, _, _, _, _, _, _, _]) pl49 zc49 rfl rfl ⟨rfl, rfl, rfl, rfl, rfl, rfl, rfl, rfl, rfl⟩) ?_
  refine Reg.pur rfl rfl rfl rfl (Pur.bld (cs := [_, _, _, _, _, _, _, _]) pl49 zc49 rfl rfl ⟨rfl, rfl, rfl, rfl, rfl, rfl, rfl, rfl, rfl⟩) ?_
  refine Reg.lod rfl rfl rfl rfl (Lod.ldn ag25 rfl o4_3.blk (by first | exact whole rfl | rfl | (simp only [List.drop_succ_cons, List.drop_zero, List.take_succ_cons, List.take_zero]; rfl)) (by first | rfl | (simp [*]; done))) ?_
  refine Reg.lod rfl rfl rfl rfl (Lod.ldn ag28 rfl o5_1.blk (by first | exact whole rfl | rfl | (simp only [List.drop_succ_cons, List.drop_zero, List.take_succ_cons, List.take_zero]; rfl)) (by first | rfl | (simp [*]; done))) ?_
  refine Reg.pur rfl rfl rfl rfl (Pur.bld (cs := [_, _, _, _, _, _, _, _]) pl49 zc49 rfl rfl ⟨rfl, rfl, rfl, rfl, rfl, rfl, rfl, rfl, rfl⟩) ?_
  refine Reg.lod rfl rfl rfl rfl (Lod.ldn ag25 rfl o4_3.blk (by first | exact whole rfl | rfl | (simp only [List.drop_succ_cons, List.drop_zero, List.take_succ_cons, List.take_zero]; rfl)) (by first | rfl | (simp [*]; done))) ?_
  refine Reg.lod rfl rfl rfl rfl (Lod.ldn ag28 rfl o5_1.blk (by first | exact whole rfl | rfl | (simp only [List.drop_succ_cons, List.drop_zero, List.take_succ_cons, List.take_zero]; rfl)) (by first | rfl | (simp [*]; done))) ?_
  refine Reg.pur rfl rfl rfl rfl (Pur.bld (cs := [_, _, _, _, _, _, _, _]) pl49 zc49 rfl rfl ⟨rfl, rfl, rfl, rfl, rfl, rfl, rfl, rfl, rfl⟩) ?_
  refine Reg.pur rfl rfl rfl rfl (Pur.mv rfl) ?_
  first | refine Reg.pur rfl rfl rfl rfl (Pur.sub64 rfl rfl (by omega)) ?_ | refine Reg.pur rfl rfl rfl rfl (Pur.sub64 rfl rfl (by assumption)) ?_ | refine Reg.pur rfl rfl rfl rfl (Pur.sub rfl rfl) ?_
  refine Reg.pur rfl rfl rfl rfl (Pur.bld (cs := [_, _, _, _, _]) pl28 zc28 rfl rfl ⟨rfl, rfl, rfl, rfl, rfl, rfl⟩) ?_
  refine Reg.pur rfl rfl rfl rfl (Pur.bld (cs := [_, _, _, _, _, _, _, _]) pl49 zc49 rfl rfl ⟨rfl, rfl, rfl, rfl, rfl, rfl, rfl, rfl, rfl⟩) ?_
  refine Reg.op rfl rfl rfl rfl (Does.bslA ([[_, _, _, _, _, _, _, _], [_, _, _, _, _, _, _, _], [_, _, _, _, _, _, _, _], [_, _, _, _, _, _, _, _], [_, _, _, _, _, _, _, _], [_, _, _, _, _, _, _, _]]) slA22 rfl rfl rfl rfl rfl rfl) ?_
  rintro _ H6_19 ⟨rfl, hp6_19⟩
  have hn6_19 := New.of_eq hp6_19
  have z6_19 := hn6_19.size
  replace hE := hE.ext hn6_19.ext
  replace o4_1 := o4_1.ext hn6_19.ext
  replace hE1 := hE1.ext hn6_19.ext
  replace o4_3 := o4_3.ext hn6_19.ext
  replace o5_1 := o5_1.ext hn6_19.ext
  have o6_19 := hn6_19.own
  have hb6 : Bds H6_19 (.slice (some ⟨H5_2.size, 0, none⟩) 6 6) (badBs d (some ⟨H1_0.size, 0, none⟩)) := bds_new (L := badBs d (some ⟨H1_0.size, 0, none⟩)) hn6_19 (bad_ok (hS1.ext hE1)) (Nat.le_of_ble_eq_true rfl)
  have hE6 := Ext.refl H6_19
  have z_hE6 := hE6.lt
  refine Reg.pur rfl rfl rfl rfl (Pur.asg rfl) ?_
  refine Reg.nil ?_
  obtain ⟨z, hzz⟩ : ∃ z, z = IntKind.i64.wrap ((IntKind.u64.wrap n1).tmod 6) := ⟨_, rfl⟩
  rw [← hzz] at hz
  have hz6 : z.toNat < (badBs d (some ⟨H1_0.size, 0, none⟩)).length := by show z.toNat < 6; omega
  obtain ⟨b7, o7, c7, e7, hB7, hd7, hok7⟩ := hb6.at hz6
  cases e7
  have hbad := bad_bind hd3.1 (some ⟨H1_0.size, 0, none⟩) _ (List.getElem_mem hz6)
  generalize (badBs d (some ⟨H1_0.size, 0, none⟩))[z.toNat] = bx at hd7 hok7 hbad
  have z_hB7 := hB7.lt
  refine At.drawE ((Bks.cons o4_3.blk (Bks.cons hB7.blk Bks.nil))) [] mixed rfl rfl ?_
  refine RegD.take (i := 0) rfl rfl rfl rfl (by kernel_rfl) (Bks.cons o4_3.blk (Bks.cons hB7.blk Bks.nil)) (fun H hS => Lod.ldn ag25 rfl hS.hd (by first | exact whole rfl | rfl | (simp only [List.drop_succ_cons, List.drop_zero, List.take_succ_cons, List.take_zero]; rfl)) (by first | rfl | (simp [*]; done))) ?_
  refine RegD.tpur (i := 1) rfl rfl rfl rfl (by kernel_rfl) (Pur.bld (cs := [_, _, _, _, _, _, _, _]) pl49 zc49 rfl rfl ⟨rfl, rfl, rfl, rfl, rfl, rfl, rfl, rfl, rfl⟩) ?_
  refine RegD.tpur (i := 2) rfl rfl rfl rfl (by kernel_rfl) (Pur.mv rfl) ?_
  refine RegD.tpur (i := 3) rfl rfl rfl rfl (by kernel_rfl) (Pur.mv rfl) ?_
  refine RegD.tpur (i := 4) rfl rfl rfl rfl (by kernel_rfl) (Pur.cnv Try.underlying3 Try.underlying51 rfl) ?_
  refine RegD.tpur (i := 5) rfl rfl rfl rfl (by kernel_rfl) (Pur.rem rfl rfl (by decide)) ?_
  refine RegD.tpur (i := 6) rfl rfl rfl rfl (by kernel_rfl) (Pur.cnv Try.underlying51 Try.underlying3 rfl) ?_
  refine RegD.tpur (i := 7) rfl rfl rfl rfl (by kernel_rfl) (Pur.idx _ es22 rfl rfl (by rw [← hzz]; omega) (by rw [← hzz]; omega)) ?_
  refine RegD.take (i := 8) rfl rfl rfl rfl (by kernel_rfl) (Bks.cons o4_3.blk (Bks.cons hB7.blk Bks.nil)) (fun H hS => Lod.ldn ag49 rfl hS.tl.hd (show _ = encB bx by rw [← hzz]; exact hd7) hok7.len) ?_
  refine RegD.one (i := 9) (by kernel_rfl) rfl rfl rfl rfl (Does.bslA ([_, encB bx]) slA22 rfl rfl rfl (by simp [hok7.row]) rfl rfl) ?_
  rintro _ H7_9 ⟨rfl, hp7_9⟩
  have hn7_9 := New.of_eq hp7_9
  have z7_9 := hn7_9.size
  replace hE := hE.ext hn7_9.ext
  replace o4_1 := o4_1.ext hn7_9.ext
  replace hE1 := hE1.ext hn7_9.ext
  replace o4_3 := o4_3.ext hn7_9.ext
  replace o5_1 := o5_1.ext hn7_9.ext
  replace o6_19 := o6_19.ext hn7_9.ext
  replace hE6 := hE6.ext hn7_9.ext
  replace hB7 := hB7.ext hn7_9.ext
  have o7_9 := hn7_9.own
  have hb7 : Bds H7_9 (.slice (some ⟨H6_19.size, 0, none⟩) 2 2) [⟨7, false, some ⟨H1_0.size, 0, none⟩, 1, fmV, noRow⟩, bx] := bds_new hn7_9 (all_two (ok_lit (hS1.ext hE1) (nine_lit rfl) rfl (by decide)) (hok7.ext hE6)) (Nat.le_of_ble_eq_true rfl)
  have hE7 := Ext.refl H7_9
  have z_hE7 := hE7.lt
  refine ⟨fun _ _ => (Bks.cons o4_3.blk (Bks.cons hB7.blk Bks.nil)), ?_⟩
  refine RegD.tpur (i := 10) rfl rfl rfl rfl (by kernel_rfl) (Pur.asg rfl) ?_
  refine RegD.done (by kernel_rfl) ?_
  refine At.region rfl rfl ?_
  refine Reg.pur rfl rfl rfl rfl (Pur.mv rfl) ?_
  refine Reg.lod rfl rfl rfl rfl (Lod.ldn ag25 rfl o4_3.blk (by first | exact whole rfl | rfl | (simp only [List.drop_succ_cons, List.drop_zero, List.take_succ_cons, List.take_zero]; rfl)) (by first | rfl | (simp [*]; done))) ?_
  refine Reg.op rfl rfl rfl rfl (Does.call rfl (type_ok (Bs := [⟨7, false, some ⟨H1_0.size, 0, none⟩, 1, fmV, noRow⟩, bx]) (L := fmV) (hb7.ext hE7) (hS1.ext hE1) (nine_lit rfl) (by decide))) ?_
  rintro v8_2 H8_2 ⟨hE8_2, hT8_2⟩
  have z8_2 := hE8_2.lt
  replace hE := hE.ext hE8_2
  replace o4_1 := o4_1.ext hE8_2
  replace hE1 := hE1.ext hE8_2
  replace o4_3 := o4_3.ext hE8_2
  replace o5_1 := o5_1.ext hE8_2
  replace o6_19 := o6_19.ext hE8_2
  replace hE6 := hE6.ext hE8_2
  replace hB7 := hB7.ext hE8_2
  replace o7_9 := o7_9.ext hE8_2
  replace hE7 := hE7.ext hE8_2
  rw [bad_typ (b := bx) (by simp) hbad] at hT8_2
  obtain ⟨A8, cap8, rfl, _, _, _⟩ := hT8_2
  refine Reg.pur rfl rfl rfl rfl (Pur.mv rfl) ?_
  refine Reg.pur rfl rfl rfl rfl (Pur.ext rfl rfl) ?_
  refine Reg.pur rfl rfl rfl rfl (Pur.ext rfl rfl) ?_
  refine Reg.op rfl rfl rfl rfl (Does.alloc zc25) ?_
  rintro _ H8_6 ⟨rfl, hn8_6⟩
  have z8_6 := hn8_6.size
  replace hE := hE.ext hn8_6.ext
  replace o4_1 := o4_1.ext hn8_6.ext
  replace hE1 := hE1.ext hn8_6.ext
  replace o4_3 := o4_3.ext hn8_6.ext
  replace o5_1 := o5_1.ext hn8_6.ext
  replace o6_19 := o6_19.ext hn8_6.ext
  replace hE6 := hE6.ext hn8_6.ext
  replace hB7 := hB7.ext hn8_6.ext
  replace o7_9 := o7_9.ext hn8_6.ext
  replace hE7 := hE7.ext hn8_6.ext
  have o8_6 := hn8_6.own
  refine Reg.op0 rfl rfl rfl (Does.stn ag25 rfl rfl (by first | rfl | exact ones_Is _) (by first | rfl | (simp [*]; done)) o8_6 (by first | decide | (simp; done) | (simp; omega) | omega)) ?_
  rintro _ H8_7 hu8_7
  have z8_7 := hu8_7.size
  replace hE := hE.upw hu8_7 (by omega)
  replace o4_1 := o4_1.upw hu8_7 (by omega)
  replace hE1 := hE1.upw hu8_7 (by omega)
  replace o4_3 := o4_3.upw hu8_7 (by omega)
  replace o5_1 := o5_1.upw hu8_7 (by omega)
  replace o6_19 := o6_19.upw hu8_7 (by omega)
  replace hE6 := hE6.upw hu8_7 (by omega)
  replace hB7 := hB7.upw hu8_7 (by omega)
  replace o7_9 := o7_9.upw hu8_7 (by omega)
  replace hE7 := hE7.upw hu8_7 (by omega)
  replace o8_6 := hu8_7.own
  first | rw [over (by first | rfl | (simp; done))] at o8_6 | skip
  refine Reg.pur rfl rfl rfl rfl (Pur.asg rfl) ?_
  refine Reg.nil ?_
  refine At.region rfl rfl ?_
  refine Reg.pur rfl rfl rfl rfl (Pur.mv rfl) ?_
  refine Reg.lod rfl rfl rfl rfl (Lod.ldn ag28 rfl o5_1.blk (by first | exact whole rfl | rfl | (simp only [List.drop_succ_cons, List.drop_zero, List.take_succ_cons, List.take_zero]; rfl)) (by first | rfl | (simp [*]; done))) ?_
  refine Reg.op rfl rfl rfl rfl (Does.call rfl (row_ok (Bs := [⟨7, false, some ⟨H1_0.size, 0, none⟩, 1, fmV, noRow⟩, bx]) (hb7.ext hE7) [0, 0, 0, 0, 1] rfl)) ?_
  rintro _ H9_2 ⟨rfl, _, hE9_2⟩
  have z9_2 := hE9_2.lt
  replace hE := hE.ext hE9_2
  replace o4_1 := o4_1.ext hE9_2
  replace hE1 := hE1.ext hE9_2
  replace o4_3 := o4_3.ext hE9_2
  replace o5_1 := o5_1.ext hE9_2
  replace o6_19 := o6_19.ext hE9_2
  replace hE6 := hE6.ext hE9_2
  replace hB7 := hB7.ext hE9_2
  replace o7_9 := o7_9.ext hE9_2
  replace hE7 := hE7.ext hE9_2
  replace o8_6 := o8_6.ext hE9_2
  rw [bad_row (b := bx) (by simp) hbad]
  refine Reg.pur rfl rfl rfl rfl (Pur.mv rfl) ?_
  refine Reg.pur rfl rfl rfl rfl (Pur.ext rfl rfl) ?_
  refine Reg.pur rfl rfl rfl rfl (Pur.ext rfl rfl) ?_
  refine Reg.op rfl rfl rfl rfl (Does.alloc zc28) ?_
  rintro _ H9_6 ⟨rfl, hn9_6⟩
  have z9_6 := hn9_6.size
  replace hE := hE.ext hn9_6.ext
  replace o4_1 := o4_1.ext hn9_6.ext
  replace hE1 := hE1.ext hn9_6.ext
  replace o4_3 := o4_3.ext hn9_6.ext
  replace o5_1 := o5_1.ext hn9_6.ext
  replace o6_19 := o6_19.ext hn9_6.ext
  replace hE6 := hE6.ext hn9_6.ext
  replace hB7 := hB7.ext hn9_6.ext
  replace o7_9 := o7_9.ext hn9_6.ext
  replace hE7 := hE7.ext hn9_6.ext
  replace o8_6 := o8_6.ext hn9_6.ext
  have o9_6 := hn9_6.own
  refine Reg.op0 rfl rfl rfl (Does.stn ag28 rfl rfl (by first | rfl | exact ones_Is _) (by first | rfl | (simp [*]; done)) o9_6 (by first | decide | (simp; done) | (simp; omega) | omega)) ?_
  rintro _ H9_7 hu9_7
  have z9_7 := hu9_7.size
  replace hE := hE.upw hu9_7 (by omega)
  replace o4_1 := o4_1.upw hu9_7 (by omega)
  replace hE1 := hE1.upw hu9_7 (by omega)
  replace o4_3 := o4_3.upw hu9_7 (by omega)
  replace o5_1 := o5_1.upw hu9_7 (by omega)
  replace o6_19 := o6_19.upw hu9_7 (by omega)
  replace hE6 := hE6.upw hu9_7 (by omega)
  replace hB7 := hB7.upw hu9_7 (by omega)
  replace o7_9 := o7_9.upw hu9_7 (by omega)
  replace hE7 := hE7.upw hu9_7 (by omega)
  replace o8_6 := o8_6.upw hu9_7 (by omega)
  replace o9_6 := hu9_7.own
  first | rw [over (by first | rfl | (simp; done))] at o9_6 | skip
  refine Reg.pur rfl rfl rfl rfl (Pur.asg rfl) ?_
  refine Reg.nil ?_
  refine At.region rfl rfl ?_
  refine Reg.pur rfl rfl rfl rfl (Pur.bld (cs := [_, _, _, _, _]) pl28 zc28 rfl rfl ⟨rfl, rfl, rfl, rfl, rfl, rfl⟩) ?_
  refine Reg.op rfl rfl rfl rfl (Does.alloc zc28) ?_
  rintro _ H10_1 ⟨rfl, hn10_1⟩
  have z10_1 := hn10_1.size
  replace hE := hE.ext hn10_1.ext
  replace o4_1 := o4_1.ext hn10_1.ext
  replace hE1 := hE1.ext hn10_1.ext
  replace o4_3 := o4_3.ext hn10_1.ext
  replace o5_1 := o5_1.ext hn10_1.ext
  replace o6_19 := o6_19.ext hn10_1.ext
  replace hE6 := hE6.ext hn10_1.ext
  replace hB7 := hB7.ext hn10_1.ext
  replace o7_9 := o7_9.ext hn10_1.ext
  replace hE7 := hE7.ext hn10_1.ext
  replace o8_6 := o8_6.ext hn10_1.ext
  replace o9_6 := o9_6.ext hn10_1.ext
  have o10_1 := hn10_1.own
  refine Reg.op0 rfl rfl rfl (Does.stn ag28 rfl rfl (by first | rfl | exact ones_Is _) (by first | rfl | (simp [*]; done)) o10_1 (by first | decide | (simp; done) | (simp; omega) | omega)) ?_
  rintro _ H10_2 hu10_2
  have z10_2 := hu10_2.size
  replace hE := hE.upw hu10_2 (by omega)
  replace o4_1 := o4_1.upw hu10_2 (by omega)
  replace hE1 := hE1.upw hu10_2 (by omega)
  replace o4_3 := o4_3.upw hu10_2 (by omega)
  replace o5_1 := o5_1.upw hu10_2 (by omega)
  replace o6_19 := o6_19.upw hu10_2 (by omega)
  replace hE6 := hE6.upw hu10_2 (by omega)
  replace hB7 := hB7.upw hu10_2 (by omega)
  replace o7_9 := o7_9.upw hu10_2 (by omega)
  replace hE7 := hE7.upw hu10_2 (by omega)
  replace o8_6 := o8_6.upw hu10_2 (by omega)
  replace o9_6 := o9_6.upw hu10_2 (by omega)
  replace o10_1 := hu10_2.own
  first | rw [over (by first | rfl | (simp; done))] at o10_1 | skip
  refine Reg.nil ?_
  refine At.region rfl rfl ?_
  refine Reg.pur rfl rfl rfl rfl (Pur.fld _ fo28_0 rfl) ?_
  refine Reg.pur rfl rfl rfl rfl (Pur.idxP arr26 rfl rfl (by omega) (by omega)) ?_
  refine Reg.op0 rfl rfl rfl (Does.st sc3 rfl rfl rfl o10_1 (by first | decide | (simp; done) | (simp; omega) | omega)) ?_
  rintro _ H11_2 hu11_2
  have z11_2 := hu11_2.size
  replace hE := hE.upw hu11_2 (by omega)
  replace o4_1 := o4_1.upw hu11_2 (by omega)
  replace hE1 := hE1.upw hu11_2 (by omega)
  replace o4_3 := o4_3.upw hu11_2 (by omega)
  replace o5_1 := o5_1.upw hu11_2 (by omega)
  replace o6_19 := o6_19.upw hu11_2 (by omega)
  replace hE6 := hE6.upw hu11_2 (by omega)
  replace hB7 := hB7.upw hu11_2 (by omega)
  replace o7_9 := o7_9.upw hu11_2 (by omega)
  replace hE7 := hE7.upw hu11_2 (by omega)
  replace o8_6 := o8_6.upw hu11_2 (by omega)
  replace o9_6 := o9_6.upw hu11_2 (by omega)
  replace o10_1 := hu11_2.own
  refine Reg.nil ?_

  refine At.region rfl rfl ?_
  refine Reg.pur rfl rfl rfl rfl (Pur.fld _ fo28_0 rfl) ?_
  refine Reg.pur rfl rfl rfl rfl (Pur.idxP arr26 rfl rfl (by omega) (by omega)) ?_
  refine Reg.op0 rfl rfl rfl (Does.st sc3 rfl rfl rfl o5_1 (by first | decide | (simp; done) | (simp; omega) | omega)) ?_
  rintro _ H12_2 hu12_2
  have z12_2 := hu12_2.size
  replace hE := hE.upw hu12_2 (by omega)
  replace o4_1 := o4_1.upw hu12_2 (by omega)
  replace hE1 := hE1.upw hu12_2 (by omega)
  replace o4_3 := o4_3.upw hu12_2 (by omega)
  replace o6_19 := o6_19.upw hu12_2 (by omega)
  replace o7_9 := o7_9.upw hu12_2 (by omega)
  replace o8_6 := o8_6.upw hu12_2 (by omega)
  replace o9_6 := o9_6.upw hu12_2 (by omega)
  replace o10_1 := o10_1.upw hu12_2 (by omega)
  replace o5_1 := hu12_2.own
  refine Reg.nil ?_
  refine At.region rfl rfl ?_
  refine Reg.lod rfl rfl rfl rfl (Lod.ldn ag28 rfl o10_1.blk (by first | exact whole rfl | rfl | (simp only [List.drop_succ_cons, List.drop_zero, List.take_succ_cons, List.take_zero]; rfl)) (by first | rfl | (simp [*]; done))) ?_
  refine Reg.pur rfl rfl rfl rfl (Pur.bld (cs := [_, _, _, _, _, _, _, _]) pl49 zc49 rfl rfl ⟨rfl, rfl, rfl, rfl, rfl, rfl, rfl, rfl, rfl⟩) ?_
  refine Reg.op rfl rfl rfl rfl (Does.bslA ([[_, _, _, _, _, _, _, _]]) slA22 rfl rfl rfl rfl rfl rfl) ?_
  rintro _ H13_2 ⟨rfl, hp13_2⟩
  have hn13_2 := New.of_eq hp13_2
  have z13_2 := hn13_2.size
  replace hE := hE.ext hn13_2.ext
  replace o4_1 := o4_1.ext hn13_2.ext
  replace hE1 := hE1.ext hn13_2.ext
  replace o4_3 := o4_3.ext hn13_2.ext
  replace o5_1 := o5_1.ext hn13_2.ext
  replace o6_19 := o6_19.ext hn13_2.ext
  replace o7_9 := o7_9.ext hn13_2.ext
  replace o8_6 := o8_6.ext hn13_2.ext
  replace o9_6 := o9_6.ext hn13_2.ext
  replace o10_1 := o10_1.ext hn13_2.ext
  have o13_2 := hn13_2.own
  refine Reg.lod rfl rfl rfl rfl (Lod.ldn ag28 rfl o5_1.blk (by first | exact whole rfl | rfl | (simp only [List.drop_succ_cons, List.drop_zero, List.take_succ_cons, List.take_zero]; rfl)) (by first | rfl | (simp [*]; done))) ?_
  refine Reg.op rfl rfl rfl rfl (Does.call rfl (row_ok (Bs := [⟨1, true, none, 0, [], [0, 0, 32, 0, -1]⟩]) (bds_new hn13_2 (all_one (ok_nil rfl)) (Nat.le_of_ble_eq_true rfl)) [0, 0, 1, 0, 1] rfl)) ?_
  rintro _ H13_4 ⟨rfl, _, hE13_4⟩
  have z13_4 := hE13_4.lt
  replace hE := hE.ext hE13_4
  replace o4_1 := o4_1.ext hE13_4
  replace hE1 := hE1.ext hE13_4
  replace o4_3 := o4_3.ext hE13_4
  replace o5_1 := o5_1.ext hE13_4
  replace o6_19 := o6_19.ext hE13_4
  replace o7_9 := o7_9.ext hE13_4
  replace o8_6 := o8_6.ext hE13_4
  replace o9_6 := o9_6.ext hE13_4
  replace o10_1 := o10_1.ext hE13_4
  replace o13_2 := o13_2.ext hE13_4
  rw [fullR]
  refine Reg.pur rfl rfl rfl rfl (Pur.mv rfl) ?_
  refine Reg.pur rfl rfl rfl rfl (Pur.ext rfl rfl) ?_
  refine Reg.pur rfl rfl rfl rfl (Pur.ext rfl rfl) ?_
  refine Reg.op rfl rfl rfl rfl (Does.alloc zc28) ?_
  rintro _ H13_8 ⟨rfl, hn13_8⟩
  have z13_8 := hn13_8.size
  replace hE := hE.ext hn13_8.ext
  replace o4_1 := o4_1.ext hn13_8.ext
  replace hE1 := hE1.ext hn13_8.ext
  replace o4_3 := o4_3.ext hn13_8.ext
  replace o5_1 := o5_1.ext hn13_8.ext
  replace o6_19 := o6_19.ext hn13_8.ext
  replace o7_9 := o7_9.ext hn13_8.ext
  replace o8_6 := o8_6.ext hn13_8.ext
  replace o9_6 := o9_6.ext hn13_8.ext
  replace o10_1 := o10_1.ext hn13_8.ext
  replace o13_2 := o13_2.ext hn13_8.ext
  have o13_8 := hn13_8.own
  refine Reg.op0 rfl rfl rfl (Does.stn ag28 rfl rfl (by first | rfl | exact ones_Is _) (by first | rfl | (simp [*]; done)) o13_8 (by first | decide | (simp; done) | (simp; omega) | omega)) ?_
  rintro _ H13_9 hu13_9
  have z13_9 := hu13_9.size
  replace hE := hE.upw hu13_9 (by omega)
  replace o4_1 := o4_1.upw hu13_9 (by omega)
  replace hE1 := hE1.upw hu13_9 (by omega)
  replace o4_3 := o4_3.upw hu13_9 (by omega)
  replace o5_1 := o5_1.upw hu13_9 (by omega)
  replace o6_19 := o6_19.upw hu13_9 (by omega)
  replace o7_9 := o7_9.upw hu13_9 (by omega)
  replace o8_6 := o8_6.upw hu13_9 (by omega)
  replace o9_6 := o9_6.upw hu13_9 (by omega)
  replace o10_1 := o10_1.upw hu13_9 (by omega)
  replace o13_2 := o13_2.upw hu13_9 (by omega)
  replace o13_8 := hu13_9.own
  first | rw [over (by first | rfl | (simp; done))] at o13_8 | skip
  refine Reg.pur rfl rfl rfl rfl (Pur.asg rfl) ?_
  refine Reg.nil ?_
  obtain ⟨n, hn⟩ : ∃ n : Nat, (n : Int) = 4096 + d := ⟨(4096 + d).toNat, by omega⟩
  refine At.drawE ((Bks.cons o4_3.blk Bks.nil)) [4, 9] mixed rfl rfl ?_
  refine RegD.tpur (i := 0) rfl rfl rfl rfl (by kernel_rfl) (Pur.mv rfl) ?_
  refine RegD.tpur (i := 1) rfl rfl rfl rfl (by kernel_rfl) (Pur.add64 rfl rfl (by omega)) ?_
  refine RegD.take (i := 3) rfl rfl rfl rfl (by kernel_rfl) (Bks.cons o4_3.blk Bks.nil) (fun H hS => Lod.ldn ag25 rfl hS.hd (by first | exact whole rfl | rfl | (simp only [List.drop_succ_cons, List.drop_zero, List.take_succ_cons, List.take_zero]; rfl)) (by first | rfl | (simp [*]; done))) ?_
  refine RegD.fork2 (i := 2) (j := 8) (by kernel_rfl) ?_ ?_
  · rw [← hn]
    refine RegOp.one (i := 2) rfl rfl rfl rfl (Does.mksN mkN22 rfl rfl (n := n) (by omega) (by omega)) ?_
    rintro _ H14_2 ⟨rfl, hp14_2⟩
    have hn14_2 := New.of_eq hp14_2
    have z14_2 := hn14_2.size
    replace hE := hE.ext hn14_2.ext
    replace o4_1 := o4_1.ext hn14_2.ext
    replace hE1 := hE1.ext hn14_2.ext
    replace o4_3 := o4_3.ext hn14_2.ext
    replace o5_1 := o5_1.ext hn14_2.ext
    replace o6_19 := o6_19.ext hn14_2.ext
    replace o7_9 := o7_9.ext hn14_2.ext
    replace o8_6 := o8_6.ext hn14_2.ext
    replace o9_6 := o9_6.ext hn14_2.ext
    replace o10_1 := o10_1.ext hn14_2.ext
    replace o13_2 := o13_2.ext hn14_2.ext
    replace o13_8 := o13_8.ext hn14_2.ext
    have o14_2 := hn14_2.own
    have hE14 := Ext.refl H14_2
    have z_hE14 := hE14.lt
    refine ⟨fun _ _ => (Bks.cons o4_3.blk Bks.nil), ?_⟩
    refine RegD.fork2 (i := 4) (j := 8) (by kernel_rfl) ?_ ?_
    · refine RegOp.one (i := 4) rfl rfl rfl rfl (Does.call rfl (type_many (n := n) (L := fmV) (by omega) (by omega) hn14_2 hE14 (hS1.ext hE1) (nine_lit rfl) (by decide))) ?_
      rintro v14_4 H14_4 ⟨hE14_4, hT14_4⟩
      have z14_4 := hE14_4.lt
      replace hE := hE.ext hE14_4
      replace o4_1 := o4_1.ext hE14_4
      replace hE1 := hE1.ext hE14_4
      replace o4_3 := o4_3.ext hE14_4
      replace o5_1 := o5_1.ext hE14_4
      replace o6_19 := o6_19.ext hE14_4
      replace o7_9 := o7_9.ext hE14_4
      replace o8_6 := o8_6.ext hE14_4
      replace o9_6 := o9_6.ext hE14_4
      replace o10_1 := o10_1.ext hE14_4
      replace o13_2 := o13_2.ext hE14_4
      replace o13_8 := o13_8.ext hE14_4
      replace o14_2 := o14_2.ext hE14_4
      replace hE14 := hE14.ext hE14_4
      obtain ⟨A14, cap14, rfl, _, _, _⟩ := hT14_4

      refine ⟨fun h => (by cases h), ?_⟩
      refine RegD.tpur (i := 5) rfl rfl rfl rfl (by kernel_rfl) (Pur.mv rfl) ?_
      refine RegD.tpur (i := 6) rfl rfl rfl rfl (by kernel_rfl) (Pur.ext rfl rfl) ?_
      refine RegD.tpur (i := 7) rfl rfl rfl rfl (by kernel_rfl) (Pur.ext rfl rfl) ?_
      refine RegD.one (i := 8) (by kernel_rfl) rfl rfl rfl rfl (Does.alloc zc25) ?_
      rintro _ H14_8 ⟨rfl, hn14_8⟩
      have z14_8 := hn14_8.size
      replace hE := hE.ext hn14_8.ext
      replace o4_1 := o4_1.ext hn14_8.ext
      replace hE1 := hE1.ext hn14_8.ext
      replace o4_3 := o4_3.ext hn14_8.ext
      replace o5_1 := o5_1.ext hn14_8.ext
      replace o6_19 := o6_19.ext hn14_8.ext
      replace o7_9 := o7_9.ext hn14_8.ext
      replace o8_6 := o8_6.ext hn14_8.ext
      replace o9_6 := o9_6.ext hn14_8.ext
      replace o10_1 := o10_1.ext hn14_8.ext
      replace o13_2 := o13_2.ext hn14_8.ext
      replace o13_8 := o13_8.ext hn14_8.ext
      replace o14_2 := o14_2.ext hn14_8.ext
      have o14_8 := hn14_8.own
      refine ⟨fun _ _ => (Bks.cons o4_3.blk Bks.nil), ?_⟩
      refine RegD.one0 (i := 9) (by kernel_rfl) rfl rfl rfl (Does.stn ag25 rfl rfl (by first | rfl | exact ones_Is _) (by first | rfl | (simp [*]; done)) o14_8 (by first | decide | (simp; done) | (simp; omega) | omega)) ?_
      rintro _ H14_9 hu14_9
      have z14_9 := hu14_9.size
      replace hE := hE.upw hu14_9 (by omega)
      replace o4_1 := o4_1.upw hu14_9 (by omega)
      replace hE1 := hE1.upw hu14_9 (by omega)
      replace o4_3 := o4_3.upw hu14_9 (by omega)
      replace o5_1 := o5_1.upw hu14_9 (by omega)
      replace o6_19 := o6_19.upw hu14_9 (by omega)
      replace o7_9 := o7_9.upw hu14_9 (by omega)
      replace o8_6 := o8_6.upw hu14_9 (by omega)
      replace o9_6 := o9_6.upw hu14_9 (by omega)
      replace o10_1 := o10_1.upw hu14_9 (by omega)
      replace o13_2 := o13_2.upw hu14_9 (by omega)
      replace o13_8 := o13_8.upw hu14_9 (by omega)
      replace o14_2 := o14_2.upw hu14_9 (by omega)
      replace o14_8 := hu14_9.own
      first | rw [over (by first | rfl | (simp; done))] at o14_8 | skip
      refine ⟨fun h => (by cases h), ?_⟩
      refine RegD.tpur (i := 10) rfl rfl rfl rfl (by kernel_rfl) (Pur.asg rfl) ?_
      refine RegD.done (by kernel_rfl) ?_
      refine At.region rfl rfl ?_
      refine Reg.pur rfl rfl rfl rfl (Pur.mv rfl) ?_
      refine Reg.op rfl rfl rfl rfl (Does.call rfl (numE_ok _ _)) ?_
      rintro _ H14_9 ⟨rfl, rfl⟩
      refine Reg.pur rfl rfl rfl rfl (Pur.eql rfl rfl) ?_
      refine Reg.pur rfl rfl rfl rfl (Pur.mv rfl) ?_
      refine Reg.known (b' := true) 94 rfl (by rfl) ?_
      refine Reg.gpur rfl rfl rfl rfl rfl rfl (Pur.mv rfl) ?_
      refine Reg.gop rfl rfl rfl rfl rfl rfl (Does.call rfl (numE_ok _ _)) ?_
      rintro _ H14_9 ⟨rfl, rfl⟩
      refine Reg.gpur rfl rfl rfl rfl rfl rfl (Pur.eql rfl rfl) ?_
      refine Reg.pur rfl rfl rfl rfl (Pur.pickT rfl rfl) ?_
      refine Reg.pur rfl rfl rfl rfl (Pur.mv rfl) ?_
      refine Reg.known (b' := true) 99 rfl (by rfl) ?_
      refine Reg.gpur rfl rfl rfl rfl rfl rfl (Pur.mv rfl) ?_
      refine Reg.gop rfl rfl rfl rfl rfl rfl (Does.call rfl (numE_ok _ _)) ?_
      rintro _ H14_9 ⟨rfl, rfl⟩
      refine Reg.gpur rfl rfl rfl rfl rfl rfl (Pur.eql rfl rfl) ?_
      refine Reg.pur rfl rfl rfl rfl (Pur.pickT rfl rfl) ?_
      refine Reg.pur rfl rfl rfl rfl (Pur.mv rfl) ?_
      refine Reg.known (b' := true) 104 rfl (by rfl) ?_
      refine Reg.gpur rfl rfl rfl rfl rfl rfl (Pur.mv rfl) ?_
      refine Reg.gop rfl rfl rfl rfl rfl rfl (Does.call rfl (numE_ok _ _)) ?_
      rintro _ H14_9 ⟨rfl, rfl⟩
      refine Reg.gpur rfl rfl rfl rfl rfl rfl (Pur.eql rfl rfl) ?_
      refine Reg.pur rfl rfl rfl rfl (Pur.pickT rfl rfl) ?_
      refine Reg.pur rfl rfl rfl rfl (Pur.asg rfl) ?_
      refine Reg.nil ?_
      refine At.ret rfl Try.func5 rfl ?_
      exact ⟨rfl, hE⟩
    · refine RegOp.one (i := 8) rfl rfl rfl rfl (Does.alloc zc25) ?_
      rintro _ H14_8 ⟨rfl, hn14_8⟩
      have z14_8 := hn14_8.size
      replace hE := hE.ext hn14_8.ext
      replace o4_1 := o4_1.ext hn14_8.ext
      replace hE1 := hE1.ext hn14_8.ext
      replace o4_3 := o4_3.ext hn14_8.ext
      replace o5_1 := o5_1.ext hn14_8.ext
      replace o6_19 := o6_19.ext hn14_8.ext
      replace o7_9 := o7_9.ext hn14_8.ext
      replace o8_6 := o8_6.ext hn14_8.ext
      replace o9_6 := o9_6.ext hn14_8.ext
      replace o10_1 := o10_1.ext hn14_8.ext
      replace o13_2 := o13_2.ext hn14_8.ext
      replace o13_8 := o13_8.ext hn14_8.ext
      replace o14_2 := o14_2.ext hn14_8.ext
      replace hE14 := hE14.ext hn14_8.ext
      have o14_8 := hn14_8.own
      refine ⟨fun _ _ => (Bks.cons o4_3.blk Bks.nil), ?_⟩
      refine RegD.one (i := 4) (by kernel_rfl) rfl rfl rfl rfl (Does.call rfl (type_many (n := n) (L := fmV) (by omega) (by omega) hn14_2 hE14 (hS1.ext hE1) (nine_lit rfl) (by decide))) ?_
      rintro v14_4 H14_4 ⟨hE14_4, hT14_4⟩
      have z14_4 := hE14_4.lt
      replace hE := hE.ext hE14_4
      replace o4_1 := o4_1.ext hE14_4
      replace hE1 := hE1.ext hE14_4
      replace o4_3 := o4_3.ext hE14_4
      replace o5_1 := o5_1.ext hE14_4
      replace o6_19 := o6_19.ext hE14_4
      replace o7_9 := o7_9.ext hE14_4
      replace o8_6 := o8_6.ext hE14_4
      replace o9_6 := o9_6.ext hE14_4
      replace o10_1 := o10_1.ext hE14_4
      replace o13_2 := o13_2.ext hE14_4
      replace o13_8 := o13_8.ext hE14_4
      replace o14_2 := o14_2.ext hE14_4
      replace hE14 := hE14.ext hE14_4
      replace o14_8 := o14_8.ext hE14_4
      obtain ⟨A14, cap14, rfl, _, _, _⟩ := hT14_4

      refine ⟨fun h => (by cases h), ?_⟩
      refine RegD.tpur (i := 5) rfl rfl rfl rfl (by kernel_rfl) (Pur.mv rfl) ?_
      refine RegD.tpur (i := 6) rfl rfl rfl rfl (by kernel_rfl) (Pur.ext rfl rfl) ?_
      refine RegD.tpur (i := 7) rfl rfl rfl rfl (by kernel_rfl) (Pur.ext rfl rfl) ?_
      refine RegD.one0 (i := 9) (by kernel_rfl) rfl rfl rfl (Does.stn ag25 rfl rfl (by first | rfl | exact ones_Is _) (by first | rfl | (simp [*]; done)) o14_8 (by first | decide | (simp; done) | (simp; omega) | omega)) ?_
      rintro _ H14_9 hu14_9
      have z14_9 := hu14_9.size
      replace hE := hE.upw hu14_9 (by omega)
      replace o4_1 := o4_1.upw hu14_9 (by omega)
      replace hE1 := hE1.upw hu14_9 (by omega)
      replace o4_3 := o4_3.upw hu14_9 (by omega)
      replace o5_1 := o5_1.upw hu14_9 (by omega)
      replace o6_19 := o6_19.upw hu14_9 (by omega)
      replace o7_9 := o7_9.upw hu14_9 (by omega)
      replace o8_6 := o8_6.upw hu14_9 (by omega)
      replace o9_6 := o9_6.upw hu14_9 (by omega)
      replace o10_1 := o10_1.upw hu14_9 (by omega)
      replace o13_2 := o13_2.upw hu14_9 (by omega)
      replace o13_8 := o13_8.upw hu14_9 (by omega)
      replace o14_2 := o14_2.upw hu14_9 (by omega)
      replace o14_8 := hu14_9.own
      first | rw [over (by first | rfl | (simp; done))] at o14_8 | skip
      refine ⟨fun h => (by cases h), ?_⟩
      refine RegD.tpur (i := 10) rfl rfl rfl rfl (by kernel_rfl) (Pur.asg rfl) ?_
      refine RegD.done (by kernel_rfl) ?_
      refine At.region rfl rfl ?_
      refine Reg.pur rfl rfl rfl rfl (Pur.mv rfl) ?_
      refine Reg.op rfl rfl rfl rfl (Does.call rfl (numE_ok _ _)) ?_
      rintro _ H14_9 ⟨rfl, rfl⟩
      refine Reg.pur rfl rfl rfl rfl (Pur.eql rfl rfl) ?_
      refine Reg.pur rfl rfl rfl rfl (Pur.mv rfl) ?_
      refine Reg.known (b' := true) 94 rfl (by rfl) ?_
      refine Reg.gpur rfl rfl rfl rfl rfl rfl (Pur.mv rfl) ?_
      refine Reg.gop rfl rfl rfl rfl rfl rfl (Does.call rfl (numE_ok _ _)) ?_
      rintro _ H14_9 ⟨rfl, rfl⟩
      refine Reg.gpur rfl rfl rfl rfl rfl rfl (Pur.eql rfl rfl) ?_
      refine Reg.pur rfl rfl rfl rfl (Pur.pickT rfl rfl) ?_
      refine Reg.pur rfl rfl rfl rfl (Pur.mv rfl) ?_
      refine Reg.known (b' := true) 99 rfl (by rfl) ?_
      refine Reg.gpur rfl rfl rfl rfl rfl rfl (Pur.mv rfl) ?_
      refine Reg.gop rfl rfl rfl rfl rfl rfl (Does.call rfl (numE_ok _ _)) ?_
      rintro _ H14_9 ⟨rfl, rfl⟩
      refine Reg.gpur rfl rfl rfl rfl rfl rfl (Pur.eql rfl rfl) ?_
      refine Reg.pur rfl rfl rfl rfl (Pur.pickT rfl rfl) ?_
      refine Reg.pur rfl rfl rfl rfl (Pur.mv rfl) ?_
      refine Reg.known (b' := true) 104 rfl (by rfl) ?_
      refine Reg.gpur rfl rfl rfl rfl rfl rfl (Pur.mv rfl) ?_
      refine Reg.gop rfl rfl rfl rfl rfl rfl (Does.call rfl (numE_ok _ _)) ?_
      rintro _ H14_9 ⟨rfl, rfl⟩
      refine Reg.gpur rfl rfl rfl rfl rfl rfl (Pur.eql rfl rfl) ?_
      refine Reg.pur rfl rfl rfl rfl (Pur.pickT rfl rfl) ?_
      refine Reg.pur rfl rfl rfl rfl (Pur.asg rfl) ?_
      refine Reg.nil ?_
      refine At.ret rfl Try.func5 rfl ?_
      exact ⟨rfl, hE⟩
  · refine RegOp.one (i := 8) rfl rfl rfl rfl (Does.alloc zc25) ?_
    rintro _ H14_8 ⟨rfl, hn14_8⟩
    have z14_8 := hn14_8.size
    replace hE := hE.ext hn14_8.ext
    replace o4_1 := o4_1.ext hn14_8.ext
    replace hE1 := hE1.ext hn14_8.ext
    replace o4_3 := o4_3.ext hn14_8.ext
    replace o5_1 := o5_1.ext hn14_8.ext
    replace o6_19 := o6_19.ext hn14_8.ext
    replace o7_9 := o7_9.ext hn14_8.ext
    replace o8_6 := o8_6.ext hn14_8.ext
    replace o9_6 := o9_6.ext hn14_8.ext
    replace o10_1 := o10_1.ext hn14_8.ext
    replace o13_2 := o13_2.ext hn14_8.ext
    replace o13_8 := o13_8.ext hn14_8.ext
    have o14_8 := hn14_8.own
    refine ⟨fun _ _ => (Bks.cons o4_3.blk Bks.nil), ?_⟩
    rw [← hn]
    refine RegD.one (i := 2) (by kernel_rfl) rfl rfl rfl rfl (Does.mksN mkN22 rfl rfl (n := n) (by omega) (by omega)) ?_
    rintro _ H14_2 ⟨rfl, hp14_2⟩
    have hn14_2 := New.of_eq hp14_2
    have z14_2 := hn14_2.size
    replace hE := hE.ext hn14_2.ext
    replace o4_1 := o4_1.ext hn14_2.ext
    replace hE1 := hE1.ext hn14_2.ext
    replace o4_3 := o4_3.ext hn14_2.ext
    replace o5_1 := o5_1.ext hn14_2.ext
    replace o6_19 := o6_19.ext hn14_2.ext
    replace o7_9 := o7_9.ext hn14_2.ext
    replace o8_6 := o8_6.ext hn14_2.ext
    replace o9_6 := o9_6.ext hn14_2.ext
    replace o10_1 := o10_1.ext hn14_2.ext
    replace o13_2 := o13_2.ext hn14_2.ext
    replace o13_8 := o13_8.ext hn14_2.ext
    replace o14_8 := o14_8.ext hn14_2.ext
    have o14_2 := hn14_2.own
    have hE14 := Ext.refl H14_2
    have z_hE14 := hE14.lt
    refine ⟨fun _ _ => (Bks.cons o4_3.blk Bks.nil), ?_⟩
    refine RegD.one (i := 4) (by kernel_rfl) rfl rfl rfl rfl (Does.call rfl (type_many (n := n) (L := fmV) (by omega) (by omega) hn14_2 hE14 (hS1.ext hE1) (nine_lit rfl) (by decide))) ?_
    rintro v14_4 H14_4 ⟨hE14_4, hT14_4⟩
    have z14_4 := hE14_4.lt
    replace hE := hE.ext hE14_4
    replace o4_1 := o4_1.ext hE14_4
    replace hE1 := hE1.ext hE14_4
    replace o4_3 := o4_3.ext hE14_4
    replace o5_1 := o5_1.ext hE14_4
    replace o6_19 := o6_19.ext hE14_4
    replace o7_9 := o7_9.ext hE14_4
    replace o8_6 := o8_6.ext hE14_4
    replace o9_6 := o9_6.ext hE14_4
    replace o10_1 := o10_1.ext hE14_4
    replace o13_2 := o13_2.ext hE14_4
    replace o13_8 := o13_8.ext hE14_4
    replace o14_8 := o14_8.ext hE14_4
    replace o14_2 := o14_2.ext hE14_4
    replace hE14 := hE14.ext hE14_4
    obtain ⟨A14, cap14, rfl, _, _, _⟩ := hT14_4

    refine ⟨fun h => (by cases h), ?_⟩
    refine RegD.tpur (i := 5) rfl rfl rfl rfl (by kernel_rfl) (Pur.mv rfl) ?_
    refine RegD.tpur (i := 6) rfl rfl rfl rfl (by kernel_rfl) (Pur.ext rfl rfl) ?_
    refine RegD.tpur (i := 7) rfl rfl rfl rfl (by kernel_rfl) (Pur.ext rfl rfl) ?_
    refine RegD.one0 (i := 9) (by kernel_rfl) rfl rfl rfl (Does.stn ag25 rfl rfl (by first | rfl | exact ones_Is _) (by first | rfl | (simp [*]; done)) o14_8 (by first | decide | (simp; done) | (simp; omega) | omega)) ?_
    rintro _ H14_9 hu14_9
    have z14_9 := hu14_9.size
    replace hE := hE.upw hu14_9 (by omega)
    replace o4_1 := o4_1.upw hu14_9 (by omega)
    replace hE1 := hE1.upw hu14_9 (by omega)
    replace o4_3 := o4_3.upw hu14_9 (by omega)
    replace o5_1 := o5_1.upw hu14_9 (by omega)
    replace o6_19 := o6_19.upw hu14_9 (by omega)
    replace o7_9 := o7_9.upw hu14_9 (by omega)
    replace o8_6 := o8_6.upw hu14_9 (by omega)
    replace o9_6 := o9_6.upw hu14_9 (by omega)
    replace o10_1 := o10_1.upw hu14_9 (by omega)
    replace o13_2 := o13_2.upw hu14_9 (by omega)
    replace o13_8 := o13_8.upw hu14_9 (by omega)
    replace o14_2 := o14_2.upw hu14_9 (by omega)
    replace o14_8 := hu14_9.own
    first | rw [over (by first | rfl | (simp; done))] at o14_8 | skip
    refine ⟨fun h => (by cases h), ?_⟩
    refine RegD.tpur (i := 10) rfl rfl rfl rfl (by kernel_rfl) (Pur.asg rfl) ?_
    refine RegD.done (by kernel_rfl) ?_
    refine At.region rfl rfl ?_
    refine Reg.pur rfl rfl rfl rfl (Pur.mv rfl) ?_
    refine Reg.op rfl rfl rfl rfl (Does.call rfl (numE_ok _ _)) ?_
    rintro _ H14_9 ⟨rfl, rfl⟩
    refine Reg.pur rfl rfl rfl rfl (Pur.eql rfl rfl) ?_
    refine Reg.pur rfl rfl rfl rfl (Pur.mv rfl) ?_
    refine Reg.known (b' := true) 94 rfl (by rfl) ?_
    refine Reg.gpur rfl rfl rfl rfl rfl rfl (Pur.mv rfl) ?_
    refine Reg.gop rfl rfl rfl rfl rfl rfl (Does.call rfl (numE_ok _ _)) ?_
    rintro _ H14_9 ⟨rfl, rfl⟩
    refine Reg.gpur rfl rfl rfl rfl rfl rfl (Pur.eql rfl rfl) ?_
    refine Reg.pur rfl rfl rfl rfl (Pur.pickT rfl rfl) ?_
    refine Reg.pur rfl rfl rfl rfl (Pur.mv rfl) ?_
    refine Reg.known (b' := true) 99 rfl (by rfl) ?_
    refine Reg.gpur rfl rfl rfl rfl rfl rfl (Pur.mv rfl) ?_
    refine Reg.gop rfl rfl rfl rfl rfl rfl (Does.call rfl (numE_ok _ _)) ?_
    rintro _ H14_9 ⟨rfl, rfl⟩
    refine Reg.gpur rfl rfl rfl rfl rfl rfl (Pur.eql rfl rfl) ?_
    refine Reg.pur rfl rfl rfl rfl (Pur.pickT rfl rfl) ?_
    refine Reg.pur rfl rfl rfl rfl (Pur.mv rfl) ?_
    refine Reg.known (b' := true) 104 rfl (by rfl) ?_
    refine Reg.gpur rfl rfl rfl rfl rfl rfl (Pur.mv rfl) ?_
    refine Reg.gop rfl rfl rfl rfl rfl rfl (Does.call rfl (numE_ok _ _)) ?_
    rintro _ H14_9 ⟨rfl, rfl⟩
    refine Reg.gpur rfl rfl rfl rfl rfl rfl (Pur.eql rfl rfl) ?_
    refine Reg.pur rfl rfl rfl rfl (Pur.pickT rfl rfl) ?_
    refine Reg.pur rfl rfl rfl rfl (Pur.asg rfl) ?_
    refine Reg.nil ?_
    refine At.ret rfl Try.func5 rfl ?_
    exact ⟨rfl, hE⟩
end Go.Proofs.Ytlfillhffpiffaa
