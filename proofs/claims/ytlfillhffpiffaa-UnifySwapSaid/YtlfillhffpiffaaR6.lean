/-
  Parts of the proof, 6.
-/
import Derived.Test.YtlfillhffpiffaaR5
namespace Go.Proofs.Ytlfillhffpiffaa
set_option linter.unusedSimpArgs false
set_option linter.unusedVariables false
set_option maxRecDepth 8000
open Go Go.Fx Go.Proofs
namespace FactsUniD
theorem ag25 : ag Try.prog 25 = some 1 := by kernel_rfl
theorem ag47 : ag Try.prog 47 = some 9 := by kernel_rfl
theorem apt23 : appT Try.prog 23 = some (47, 9, 72) := by kernel_rfl
theorem es23 : esz Try.prog 23 = some 9 := by kernel_rfl
theorem fo25_0 : foff Try.prog 25 0 = some 0 := by kernel_rfl
theorem fo47_0 : foff Try.prog 47 0 = some 0 := by kernel_rfl
theorem fo47_2 : foff Try.prog 47 2 = some 2 := by kernel_rfl
theorem fo47_3 : foff Try.prog 47 3 = some 3 := by kernel_rfl
theorem isl23 : isSl Try.prog 23 = true := by kernel_rfl
theorem mixed : Try.prog.follows .mixedOrders = true := by kernel_rfl
theorem pl25 : places Try.prog 25 = some [(0, 1)] := by kernel_rfl
theorem sc23 : sc Try.prog 23 = true := by kernel_rfl
theorem sc3 : sc Try.prog 3 = true := by kernel_rfl
theorem slA23 : slA Try.prog 23 = some (47, 9) := by kernel_rfl
theorem zc25 : zc Try.prog 25 = some [.slice none 0 0] := by kernel_rfl
theorem zc47 : zc Try.prog 47 = some [.int .i64 0, .int .i64 0, .int .i64 0, .int .i64 0, .int .i64 0, .int .i64 0, .int .i64 0, .int .i64 0, .int .i64 0] := by kernel_rfl
end FactsUniD
open FactsUniD

theorem rootR_ok {L : List (List Int)} (hL : Nine L) {A : Option Addr} {cap : Nat} {H : Heap} (hS : SlT H Is 9 (.slice A L.length cap) L) (h256 : L.length ≤ 256) (h1 : 1 ≤ L.length) :
    Ret Try.prog 108 [Ty A L.length cap] H (fun v H' => v = .agg (Is (el L ((L.length : Int) - 1))).toArray ∧ Ext H H') := by
  obtain ⟨b, o, c, rfl, hB, hd, hx9, hat⟩ := el_cells hL hS (z := (L.length : Int) - 1) (by omega) (by omega)
  generalize el L ((L.length : Int) - 1) = x at *
  have hx9' : (Is x).length = 9 := by rw [List.length_map]; exact hx9
  refine Ret.of_at (N := 11) Try.call108 Try.func108 rfl rfl rfl ?_
  have hE := Ext.refl H
  have z_hE := hE.lt
  have z_hB := hB.lt
  refine At.region rfl rfl ?_
  refine Reg.op rfl rfl rfl rfl (Does.box rfl rfl) ?_
  rintro _ H0_0 ⟨rfl, hn0_0⟩
  have z0_0 := hn0_0.size
  replace hE := hE.ext hn0_0.ext
  replace hB := hB.ext hn0_0.ext
  have o0_0 := hn0_0.own
  refine Reg.op rfl rfl rfl rfl (Does.alloc zc47) ?_
  rintro _ H0_1 ⟨rfl, hn0_1⟩
  have z0_1 := hn0_1.size
  replace hE := hE.ext hn0_1.ext
  replace hB := hB.ext hn0_1.ext
  replace o0_0 := o0_0.ext hn0_1.ext
  have o0_1 := hn0_1.own
  refine Reg.nil ?_
  refine At.region rfl rfl ?_
  refine Reg.pur rfl rfl rfl rfl (Pur.fld _ fo25_0 rfl) ?_
  refine Reg.lod rfl rfl rfl rfl (Lod.ld sc23 rfl o0_0.blk (by first | rfl | (simp; done))) ?_
  refine Reg.pur rfl rfl rfl rfl (Pur.fld _ fo25_0 rfl) ?_
  refine Reg.lod rfl rfl rfl rfl (Lod.ld sc23 rfl o0_0.blk (by first | rfl | (simp; done))) ?_
  refine Reg.pur rfl rfl rfl rfl (Pur.lenS isl23 rfl) ?_
  first | refine Reg.pur rfl rfl rfl rfl (Pur.sub64 rfl rfl (by omega)) ?_ | refine Reg.pur rfl rfl rfl rfl (Pur.sub64 rfl rfl (by assumption)) ?_ | refine Reg.pur rfl rfl rfl rfl (Pur.sub rfl rfl) ?_
  refine Reg.pur rfl rfl rfl rfl (Pur.idx _ es23 rfl rfl (by omega) (by omega)) ?_
  refine Reg.lod rfl rfl rfl rfl (Lod.ldn ag47 rfl hB hd hx9') ?_
  refine Reg.op0 rfl rfl rfl (Does.stn ag47 rfl rfl (by first | rfl | exact ones_Is _) (by first | rfl | (simp [*]; done)) o0_1 (by first | decide | (simp; done) | (simp; omega) | omega)) ?_
  rintro _ H1_8 hu1_8
  have z1_8 := hu1_8.size
  replace hE := hE.upw hu1_8 (by omega)
  replace hB := hB.upw hu1_8 (by omega)
  replace o0_0 := o0_0.upw hu1_8 (by omega)
  replace o0_1 := hu1_8.own
  first | rw [over (by first | rfl | (simp; done))] at o0_1 | skip
  refine Reg.nil ?_
  refine At.retC rfl Try.func108 ⟨_, _, _, _, rfl, rfl, ⟨_, o0_1.blk, .inr ⟨_, _, ag47, (by first | exact whole rfl | exact whole (by simp [*])), (by first | rfl | simp [*]), rfl⟩⟩, rfl⟩ ?_
  exact ⟨rfl, hE⟩
theorem seg_get {L : List (List Int)} {p z : Int} (hp : 0 ≤ p) {j : Nat} (hj : j < (seg L p z).length) : (seg L p z)[j] = el L (p + j) := by
  have h := hj
  unfold seg at h
  rw [List.length_take, List.length_drop] at h
  obtain ⟨n, rfl⟩ := Int.eq_ofNat_of_zero_le hp
  rw [Int.toNat_natCast] at h
  rw [show (n : Int) + j = ((n + j : Nat) : Int) by omega, el_nat (by omega)]
  simp only [seg, List.getElem_take, List.getElem_drop, Int.toNat_natCast]
theorem partR_ok {L : List (List Int)} (hL : Nine L) {A : Option Addr} {cap : Nat} {H : Heap} (hS : SlT H Is 9 (.slice A L.length cap) L) (h256 : L.length ≤ 256) {z p : Int} (h0 : 0 ≤ z) (h1 : z < L.length) (hp : bgn L L.length z = p) (hp0 : 0 ≤ p) :
    Ret Try.prog 114 [Ty A L.length cap, I z] H (fun v H' => TyF H.size H' v ((seg L p z).map (movS (-p))) ∧ Ext H H') := by
  have hle := bgn_le L L.length z h0
  rw [hp] at hle
  have hsl : (seg L p z).length = (z + 1 - p).toNat := by unfold seg; rw [List.length_take, List.length_drop]; omega
  refine Ret.of_at (N := 43) Try.call114 Try.func114 rfl rfl rfl ?_
  have hE := Ext.refl H
  refine At.region rfl rfl ?_
  refine Reg.op rfl rfl rfl rfl (Does.box rfl rfl) ?_
  rintro _ H0_0 ⟨rfl, hn0_0⟩
  have z0_0 := hn0_0.size
  replace hE := hE.ext hn0_0.ext
  have o0_0 := hn0_0.own
  refine Reg.op rfl rfl rfl rfl (Does.alloc zc25) ?_
  rintro _ H0_1 ⟨rfl, hn0_1⟩
  have z0_1 := hn0_1.size
  replace hE := hE.ext hn0_1.ext
  replace o0_0 := o0_0.ext hn0_1.ext
  have o0_1 := hn0_1.own
  refine Reg.nil ?_
  refine At.region rfl rfl ?_
  refine Reg.pur rfl rfl rfl rfl (Pur.fld _ fo25_0 rfl) ?_
  refine Reg.lod rfl rfl rfl rfl (Lod.ld sc23 rfl o0_0.blk (by first | rfl | (simp; done))) ?_
  refine Reg.pur rfl rfl rfl rfl (Pur.mv rfl) ?_
  refine Reg.op rfl rfl rfl rfl (Does.call rfl (beginR_ok L hL (hS.ext hE) (by omega) L.length z h0 h1 (by omega))) ?_
  rintro _ H0_1 ⟨rfl, rfl⟩
  refine Reg.pur rfl rfl rfl rfl (Pur.asg rfl) ?_
  refine Reg.nil ?_
  refine At.region rfl rfl ?_
  rw [hp]
  refine Reg.pur rfl rfl rfl rfl (Pur.asg rfl) ?_
  refine Reg.nil ?_
  refine At.region rfl rfl ?_
  refine Reg.pur rfl rfl rfl rfl (Pur.mv rfl) ?_
  refine Reg.pur rfl rfl rfl rfl (Pur.asg rfl) ?_
  refine Reg.nil ?_
  refine At.loop (σ := Nat × List (List Int) × Option Addr × Nat) (fun (j, out', A', cap') => [(7, I (p + j)), (6, .slice A' out'.length cap'), (5, I p), (1, I z), (2, ptr H.size 0), (4, ptr H0_0.size 0)]) (fun (j, out', A', cap') H' => p + j ≤ z + 1 ∧ out' = ((seg L p z).take j).map (movS (-p)) ∧ Gs H' H.size 47 9 A' cap' out'.length (out'.flatMap Is) ∧ Own H' H.size [.slice A L.length cap] ∧ Own H' H0_0.size [.slice none 0 0] ∧ Ext H H' ∧ (ob A' = -1 ∨ H0_0.size < ob A')) (fun (j, out', A', cap') => (z + 1 - p - j).toNat) (0, [], none, 0) rfl ⟨by simp [lk], rfl, rfl, rfl, rfl, rfl, trivial⟩ ⟨by omega, rfl, OwnS.nilG, o0_0, o0_1, hE, .inl rfl⟩ ?_
  have hlt0 := hn0_0.size
  clear o0_0 o0_1 hE
  rintro ⟨j, out', A', cap'⟩ H8 ⟨hj, hout', hg, o0_0, o0_1, hE, hA'⟩ ihj
  dsimp only at hj hout' hg ⊢
  have z_hE := hE.lt
  have z_hg := hg.lt
  have z_o0_0 := o0_0.lt
  have z_o0_1 := o0_1.lt
  have hol : out'.length ≤ j := by rw [hout', List.length_map, List.length_take]; omega
  refine At.region rfl rfl ?_
  refine Reg.pur rfl rfl rfl rfl (Pur.mv rfl) ?_
  refine Reg.pur rfl rfl rfl rfl (Pur.mv rfl) ?_
  refine Reg.pur rfl rfl rfl rfl (Pur.leq rfl rfl) ?_
  refine Reg.nil ?_
  refine At.cond rfl rfl (fun q16 => ?_) (fun q16 => ?_)
  · first | (simp only [decide_eq_true_eq, decide_eq_false_iff_not, Bool.not_eq_true', Bool.not_eq_false', ne_eq, Decidable.not_not, Bool.not_eq_true, Bool.not_eq_false] at q16) | (dsimp only at q16) | skip
    have hlz : p + j < L.length := by omega
    have hjl : j < (seg L p z).length := by omega
    obtain ⟨b', o', c', rfl, hB', hd', h9j, _⟩ := el_cells hL (hS.ext hE) (z := p + j) (by omega) hlz
    have hge : (seg L p z)[j] = el L (p + j) := seg_get hp0 hjl
    have hnx := map1_mov (k := -p) hjl
    rw [hge] at hnx
    generalize el L (p + j) = y at hnx hd' h9j
    obtain ⟨k', v', p', q', d0, d1, d2, d3, t', rfl⟩ : ∃ k v p q c0 c1 c2 c3 t, y = [k, v, p, q, c0, c1, c2, c3, t] := by match y, h9j with | [k, v, p, q, c0, c1, c2, c3, t], _ => exact ⟨_, _, _, _, _, _, _, _, _, rfl⟩
    refine At.region rfl rfl ?_
    refine Reg.pur rfl rfl rfl rfl (Pur.fld _ fo25_0 rfl) ?_
    refine Reg.lod rfl rfl rfl rfl (Lod.ld sc23 rfl o0_0.blk (by first | rfl | (simp; done))) ?_
    refine Reg.pur rfl rfl rfl rfl (Pur.mv rfl) ?_
    refine Reg.pur rfl rfl rfl rfl (Pur.idx _ es23 rfl rfl (by omega) (by omega)) ?_
    refine Reg.lod rfl rfl rfl rfl (Lod.ldn ag47 rfl hB' hd' (by simp)) ?_
    refine Reg.op rfl rfl rfl rfl (Does.alloc zc47) ?_
    rintro _ H6_5 ⟨rfl, hn6_5⟩
    have z6_5 := hn6_5.size
    replace hE := hE.ext hn6_5.ext
    replace hg := hg.ext hn6_5.ext
    replace o0_0 := o0_0.ext hn6_5.ext
    replace o0_1 := o0_1.ext hn6_5.ext
    have o6_5 := hn6_5.own
    refine Reg.op0 rfl rfl rfl (Does.stn ag47 rfl rfl (by first | rfl | exact ones_Is _) (by first | rfl | (simp [*]; done)) o6_5 (by first | decide | (simp; done) | (simp; omega) | omega)) ?_
    rintro _ H6_6 hu6_6
    have z6_6 := hu6_6.size
    replace hE := hE.upw hu6_6 (by omega)
    replace hg := hg.upw hu6_6 (by omega)
    replace o0_0 := o0_0.upw hu6_6 (by omega)
    replace o0_1 := o0_1.upw hu6_6 (by omega)
    replace o6_5 := hu6_6.own
    first | rw [over (by first | rfl | (simp; done))] at o6_5 | skip
    refine Reg.nil ?_
    refine At.region rfl rfl ?_
    refine Reg.pur rfl rfl rfl rfl (Pur.fld _ fo47_0 rfl) ?_
    refine Reg.lod rfl rfl rfl rfl (Lod.ld sc3 rfl o6_5.blk (by first | rfl | (simp; done))) ?_
    refine Reg.pur rfl rfl rfl rfl (Pur.eql rfl rfl) ?_
    refine Reg.nil ?_
    refine At.cond rfl rfl (fun q26 => ?_) (fun q26 => ?_)
    · first | (simp only [decide_eq_true_eq, decide_eq_false_iff_not, Bool.not_eq_true', Bool.not_eq_false', ne_eq, Decidable.not_not, Bool.not_eq_true, Bool.not_eq_false] at q26) | (dsimp only at q26) | skip
      refine At.region rfl rfl ?_
      refine Reg.pur rfl rfl rfl rfl (Pur.fld _ fo47_2 rfl) ?_
      refine Reg.lod rfl rfl rfl rfl (Lod.ld sc3 rfl o6_5.blk (by first | rfl | (simp; done))) ?_
      refine Reg.pur rfl rfl rfl rfl (Pur.mv rfl) ?_
      refine Reg.pur rfl rfl rfl rfl (Pur.sub rfl rfl) ?_
      refine Reg.pur rfl rfl rfl rfl (Pur.fld _ fo47_2 rfl) ?_
      refine Reg.op0 rfl rfl rfl (Does.st sc3 rfl rfl rfl o6_5 (by first | decide | (simp; done) | (simp; omega) | omega)) ?_
      rintro _ H8_5 hu8_5
      have z8_5 := hu8_5.size
      replace hE := hE.upw hu8_5 (by omega)
      replace hg := hg.upw hu8_5 (by omega)
      replace o0_0 := o0_0.upw hu8_5 (by omega)
      replace o0_1 := o0_1.upw hu8_5 (by omega)
      replace o6_5 := hu8_5.own
      refine Reg.nil ?_
      refine At.region rfl rfl ?_
      refine Reg.pur rfl rfl rfl rfl (Pur.fld _ fo47_3 rfl) ?_
      refine Reg.lod rfl rfl rfl rfl (Lod.ld sc3 rfl o6_5.blk (by first | rfl | (simp; done))) ?_
      refine Reg.pur rfl rfl rfl rfl (Pur.mv rfl) ?_
      refine Reg.pur rfl rfl rfl rfl (Pur.sub rfl rfl) ?_
      refine Reg.pur rfl rfl rfl rfl (Pur.fld _ fo47_3 rfl) ?_
      refine Reg.op0 rfl rfl rfl (Does.st sc3 rfl rfl rfl o6_5 (by first | decide | (simp; done) | (simp; omega) | omega)) ?_
      rintro _ H9_5 hu9_5
      have z9_5 := hu9_5.size
      replace hE := hE.upw hu9_5 (by omega)
      replace hg := hg.upw hu9_5 (by omega)
      replace o0_0 := o0_0.upw hu9_5 (by omega)
      replace o0_1 := o0_1.upw hu9_5 (by omega)
      replace o6_5 := hu9_5.own
      refine Reg.nil ?_
      have hy : Own H9_5 H8.size (Is (movS (-p) [k', v', p', q', d0, d1, d2, d3, t'])) := by first | exact o6_5 | (rw [movS_not3 (x := [k', v', p', q', d0, d1, d2, d3, t']) q26]; exact o6_5) | (rw [show movS (-p) [k', v', p', q', d0, d1, d2, d3, t'] = [k', v', IntKind.i64.wrap (p' - p), IntKind.i64.wrap (q' - p), d0, d1, d2, d3, t'] by { unfold movS; rw [if_pos (show [k', v', p', q', d0, d1, d2, d3, t'].getD 0 0 = 3 from q26)]; rfl }]; exact o6_5)
      have hyl : (movS (-p) [k', v', p', q', d0, d1, d2, d3, t']).length = 9 := movS_len _ _
      have hyl' : (Is (movS (-p) [k', v', p', q', d0, d1, d2, d3, t'])).length = 9 := by simp [hyl]
      generalize hyy : movS (-p) [k', v', p', q', d0, d1, d2, d3, t'] = y' at hy hyl hyl' hnx
      refine At.region rfl rfl ?_
      refine Reg.pur rfl rfl rfl rfl (Pur.mv rfl) ?_
      refine Reg.lod rfl rfl rfl rfl (Lod.ldn ag47 rfl hy.blk (whole hyl') hyl') ?_
      refine Reg.op rfl rfl rfl rfl (Does.bslA ([Is y']) slA23 rfl rfl rfl (by simp [hyl]) rfl rfl) ?_
      rintro _ H10_2 ⟨rfl, hp10_2⟩
      have hn10_2 := New.of_eq hp10_2
      have z10_2 := hn10_2.size
      replace hE := hE.ext hn10_2.ext
      replace hg := hg.ext hn10_2.ext
      replace o0_0 := o0_0.ext hn10_2.ext
      replace o0_1 := o0_1.ext hn10_2.ext
      replace o6_5 := o6_5.ext hn10_2.ext
      have o10_2 := hn10_2.own
      refine Reg.op rfl rfl rfl rfl (Does.appL apt23 rfl rfl (by decide) hg (wide9 (nine1 hyl)) (sl_one (x := y') hyl' (by decide) hn10_2) (ones_flat _) (by simp; omega) (by omega)) ?_
      rintro _ H10_3 ⟨A10_3, cap10_3, rfl, g10_3, hbut10_3, ha10_3⟩
      have z10_3 := hbut10_3.lt
      replace hE := hE.via hbut10_3 (by first | omega | (intro g; omega) | (intro g hg; omega) | (intro g hg h; omega))
      replace o0_0 := o0_0.via hbut10_3 (by first | omega | (intro g; omega) | (intro g hg; omega) | (intro g hg h; omega))
      replace o0_1 := o0_1.via hbut10_3 (by first | omega | (intro g; omega) | (intro g hg; omega) | (intro g hg h; omega))
      replace o6_5 := o6_5.via hbut10_3 (by first | omega | (intro g; omega) | (intro g hg; omega) | (intro g hg h; omega))
      replace o10_2 := o10_2.via hbut10_3 (by first | omega | (intro g; omega) | (intro g hg; omega) | (intro g hg h; omega))
      replace hg := g10_3
      have zg10_3 := g10_3.lt
      refine Reg.pur rfl rfl rfl rfl (Pur.asg rfl) ?_
      refine Reg.nil ?_
      refine At.region rfl rfl ?_
      refine Reg.pur rfl rfl rfl rfl (Pur.mv rfl) ?_
      first | refine Reg.pur rfl rfl rfl rfl (Pur.add64 rfl rfl (by omega)) ?_ | refine Reg.pur rfl rfl rfl rfl (Pur.add64 rfl rfl (by assumption)) ?_ | refine Reg.pur rfl rfl rfl rfl (Pur.add rfl rfl) ?_
      refine Reg.pur rfl rfl rfl rfl (Pur.asg rfl) ?_
      refine Reg.nil ?_
      exact At.via (ihj (j + 1, out' ++ [y'], A10_3, cap10_3) _ ⟨by omega, by rw [hnx, hout'], hg, o0_0, o0_1, hE, by omega⟩ (by simp only; omega)) ⟨by simp [lk]; omega, rfl, rfl, rfl, rfl, rfl, trivial⟩
    first | (simp only [decide_eq_true_eq, decide_eq_false_iff_not, Bool.not_eq_true', Bool.not_eq_false', ne_eq, Decidable.not_not, Bool.not_eq_true, Bool.not_eq_false] at q26) | (dsimp only at q26) | skip
    have hy : Own H6_6 H8.size (Is (movS (-p) [k', v', p', q', d0, d1, d2, d3, t'])) := by first | exact o6_5 | (rw [movS_not3 (x := [k', v', p', q', d0, d1, d2, d3, t']) q26]; exact o6_5) | (rw [show movS (-p) [k', v', p', q', d0, d1, d2, d3, t'] = [k', v', IntKind.i64.wrap (p' - p), IntKind.i64.wrap (q' - p), d0, d1, d2, d3, t'] by { unfold movS; rw [if_pos (show [k', v', p', q', d0, d1, d2, d3, t'].getD 0 0 = 3 from q26)]; rfl }]; exact o6_5)
    have hyl : (movS (-p) [k', v', p', q', d0, d1, d2, d3, t']).length = 9 := movS_len _ _
    have hyl' : (Is (movS (-p) [k', v', p', q', d0, d1, d2, d3, t'])).length = 9 := by simp [hyl]
    generalize hyy : movS (-p) [k', v', p', q', d0, d1, d2, d3, t'] = y' at hy hyl hyl' hnx
    refine At.region rfl rfl ?_
    refine Reg.pur rfl rfl rfl rfl (Pur.mv rfl) ?_
    refine Reg.lod rfl rfl rfl rfl (Lod.ldn ag47 rfl hy.blk (whole hyl') hyl') ?_
    refine Reg.op rfl rfl rfl rfl (Does.bslA ([Is y']) slA23 rfl rfl rfl (by simp [hyl]) rfl rfl) ?_
    rintro _ H10_2 ⟨rfl, hp10_2⟩
    have hn10_2 := New.of_eq hp10_2
    have z10_2 := hn10_2.size
    replace hE := hE.ext hn10_2.ext
    replace hg := hg.ext hn10_2.ext
    replace o0_0 := o0_0.ext hn10_2.ext
    replace o0_1 := o0_1.ext hn10_2.ext
    replace o6_5 := o6_5.ext hn10_2.ext
    have o10_2 := hn10_2.own
    refine Reg.op rfl rfl rfl rfl (Does.appL apt23 rfl rfl (by decide) hg (wide9 (nine1 hyl)) (sl_one (x := y') hyl' (by decide) hn10_2) (ones_flat _) (by simp; omega) (by omega)) ?_
    rintro _ H10_3 ⟨A10_3, cap10_3, rfl, g10_3, hbut10_3, ha10_3⟩
    have z10_3 := hbut10_3.lt
    replace hE := hE.via hbut10_3 (by first | omega | (intro g; omega) | (intro g hg; omega) | (intro g hg h; omega))
    replace o0_0 := o0_0.via hbut10_3 (by first | omega | (intro g; omega) | (intro g hg; omega) | (intro g hg h; omega))
    replace o0_1 := o0_1.via hbut10_3 (by first | omega | (intro g; omega) | (intro g hg; omega) | (intro g hg h; omega))
    replace o6_5 := o6_5.via hbut10_3 (by first | omega | (intro g; omega) | (intro g hg; omega) | (intro g hg h; omega))
    replace o10_2 := o10_2.via hbut10_3 (by first | omega | (intro g; omega) | (intro g hg; omega) | (intro g hg h; omega))
    replace hg := g10_3
    have zg10_3 := g10_3.lt
    refine Reg.pur rfl rfl rfl rfl (Pur.asg rfl) ?_
    refine Reg.nil ?_
    refine At.region rfl rfl ?_
    refine Reg.pur rfl rfl rfl rfl (Pur.mv rfl) ?_
    first | refine Reg.pur rfl rfl rfl rfl (Pur.add64 rfl rfl (by omega)) ?_ | refine Reg.pur rfl rfl rfl rfl (Pur.add64 rfl rfl (by assumption)) ?_ | refine Reg.pur rfl rfl rfl rfl (Pur.add rfl rfl) ?_
    refine Reg.pur rfl rfl rfl rfl (Pur.asg rfl) ?_
    refine Reg.nil ?_
    exact At.via (ihj (j + 1, out' ++ [y'], A10_3, cap10_3) _ ⟨by omega, by rw [hnx, hout'], hg, o0_0, o0_1, hE, by omega⟩ (by simp only; omega)) ⟨by simp [lk]; omega, rfl, rfl, rfl, rfl, rfl, trivial⟩
  first | (simp only [decide_eq_true_eq, decide_eq_false_iff_not, Bool.not_eq_true', Bool.not_eq_false', ne_eq, Decidable.not_not, Bool.not_eq_true, Bool.not_eq_false] at q16) | (dsimp only at q16) | skip
  refine At.region rfl rfl ?_
  refine Reg.pur rfl rfl rfl rfl (Pur.mv rfl) ?_
  refine Reg.pur rfl rfl rfl rfl (Pur.bld (cs := [_]) pl25 zc25 rfl rfl ⟨rfl, rfl⟩) ?_
  refine Reg.op0 rfl rfl rfl (Does.stn ag25 rfl rfl (by first | rfl | exact ones_Is _) (by first | rfl | (simp [*]; done)) o0_1 (by first | decide | (simp; done) | (simp; omega) | omega)) ?_
  rintro _ H11_2 hu11_2
  have z11_2 := hu11_2.size
  replace hE := hE.upw hu11_2 (by omega)
  replace hg := hg.upw hu11_2 (by omega)
  replace o0_0 := o0_0.upw hu11_2 (by omega)
  replace o0_1 := hu11_2.own
  first | rw [over (by first | rfl | (simp; done))] at o0_1 | skip
  refine Reg.nil ?_
  refine At.retC rfl Try.func114 ⟨_, _, _, _, rfl, rfl, ⟨_, o0_1.blk, .inr ⟨_, _, ag25, (by first | exact whole rfl | exact whole (by simp [*])), (by first | rfl | simp [*]), rfl⟩⟩, rfl⟩ ?_
  have hall : out' = (seg L p z).map (movS (-p)) := by rw [hout', List.take_of_length_le (by omega)]
  rw [← hall]
  have h9o : Nine out' := by rw [hall]; exact nine_mov (nine_seg hL _ _)
  exact ⟨⟨A', cap', rfl, own_sl (wide9 h9o) (by decide) hg, by have := (own_sl (wide9 h9o) (by decide) hg).lt; omega⟩, hE⟩

theorem partsR_ok {a b : Tm} {r : List Int} (hok : (Tm.fn a r b).ok) (hsz : (Tm.fn a r b).sz ≤ 256) {A : Option Addr} {cap : Nat} {H : Heap} (hS : SlT H Is 9 (.slice A ((Tm.fn a r b).enc 0).length cap) ((Tm.fn a r b).enc 0)) :
    Ret Try.prog 110 [Ty A ((Tm.fn a r b).enc 0).length cap] H (fun v H' => (∃ v1 v2, v = .tuple #[v1, v2] ∧ TyF H.size H' v1 (a.enc 0) ∧ TyF H.size H' v2 (b.enc 0)) ∧ Ext H H') := by
  have hL := (Tm.fn a r b).enc_nine 0 hok
  have hlen : ((Tm.fn a r b).enc 0).length = a.sz + b.sz + 1 := Tm.enc_len _ _
  have haz := a.sz_pos
  have hbz := b.sz_pos
  have hr5 : r.length = 5 := hok.2.1
  simp only [Tm.sz] at hsz
  obtain ⟨e1, e2, e3, e4, e5⟩ := enc_parts a r b
  have ha' := Tm.enc_mov a 0 (-0) (by omega) (by omega) (by omega) (by omega) (by omega) (by omega)
  have hb' := Tm.enc_mov b a.sz (-a.sz) (by omega) (by omega) (by omega) (by omega) (by omega) (by omega)
  rw [show (a.sz : Int) + -a.sz = 0 by omega] at hb'
  have hro := rootR_ok (H := H) (cap := cap) (A := A) hL
  have hrx := fun H' (hE : Ext H H') => rootR_ok (H := H') (cap := cap) (A := A) hL (hS.ext hE) (by omega) (by omega)
  rw [e1] at hrx
  generalize hLg : (Tm.fn a r b).enc 0 = L at *
  have hn9 : (Is (fNode ((a.sz : Int) - 1) ((a.sz : Int) + b.sz - 1) r)).length = 9 := by rw [List.length_map, List.length_append, hr5]; rfl
  refine Ret.of_at (N := 15) Try.call110 Try.func110 rfl rfl rfl ?_
  have hE := Ext.refl H
  have z_hE := hE.lt
  refine At.region rfl rfl ?_
  refine Reg.op rfl rfl rfl rfl (Does.box rfl rfl) ?_
  rintro _ H0_0 ⟨rfl, hn0_0⟩
  have z0_0 := hn0_0.size
  replace hE := hE.ext hn0_0.ext
  have o0_0 := hn0_0.own
  refine Reg.op rfl rfl rfl rfl (Does.alloc zc25) ?_
  rintro _ H0_1 ⟨rfl, hn0_1⟩
  have z0_1 := hn0_1.size
  replace hE := hE.ext hn0_1.ext
  replace o0_0 := o0_0.ext hn0_1.ext
  have o0_1 := hn0_1.own
  refine Reg.op rfl rfl rfl rfl (Does.alloc zc25) ?_
  rintro _ H0_2 ⟨rfl, hn0_2⟩
  have z0_2 := hn0_2.size
  replace hE := hE.ext hn0_2.ext
  replace o0_0 := o0_0.ext hn0_2.ext
  replace o0_1 := o0_1.ext hn0_2.ext
  have o0_2 := hn0_2.own
  refine Reg.nil ?_
  refine At.region rfl rfl ?_
  refine Reg.lod rfl rfl rfl rfl (Lod.ldn ag25 rfl o0_0.blk (by first | exact whole rfl | rfl | (simp only [List.drop_succ_cons, List.drop_zero, List.take_succ_cons, List.take_zero]; rfl)) (by first | rfl | (simp [*]; done))) ?_
  refine Reg.op rfl rfl rfl rfl (Does.call rfl (hrx _ hE)) ?_
  rintro _ H1_1 ⟨rfl, hE1_1⟩
  have z1_1 := hE1_1.lt
  replace hE := hE.ext hE1_1
  replace o0_0 := o0_0.ext hE1_1
  replace o0_1 := o0_1.ext hE1_1
  replace o0_2 := o0_2.ext hE1_1
  refine Reg.op rfl rfl rfl rfl (Does.alloc zc47) ?_
  rintro _ H1_2 ⟨rfl, hn1_2⟩
  have z1_2 := hn1_2.size
  replace hE := hE.ext hn1_2.ext
  replace o0_0 := o0_0.ext hn1_2.ext
  replace o0_1 := o0_1.ext hn1_2.ext
  replace o0_2 := o0_2.ext hn1_2.ext
  have o1_2 := hn1_2.own
  refine Reg.op0 rfl rfl rfl (Does.stn ag47 rfl rfl (by first | rfl | exact ones_Is _) (by first | rfl | (simp [*]; done)) o1_2 (by first | decide | (simp; done) | (simp; omega) | omega)) ?_
  rintro _ H1_3 hu1_3
  have z1_3 := hu1_3.size
  replace hE := hE.upw hu1_3 (by omega)
  replace o0_0 := o0_0.upw hu1_3 (by omega)
  replace o0_1 := o0_1.upw hu1_3 (by omega)
  replace o0_2 := o0_2.upw hu1_3 (by omega)
  replace o1_2 := hu1_3.own
  first | rw [over (by first | rfl | (simp; done))] at o1_2 | skip
  refine Reg.nil ?_
  refine At.drawE ((Bks.cons o0_0.blk (Bks.cons o1_2.blk Bks.nil))) [9] mixed rfl rfl ?_
  refine RegD.take (i := 0) rfl rfl rfl rfl (by kernel_rfl) (Bks.cons o0_0.blk (Bks.cons o1_2.blk Bks.nil)) (fun H hS => Lod.ldn ag25 rfl hS.hd (by first | exact whole rfl | rfl | (simp only [List.drop_succ_cons, List.drop_zero, List.take_succ_cons, List.take_zero]; rfl)) (by first | rfl | (simp [*]; done))) ?_
  refine RegD.tpur (i := 1) rfl rfl rfl rfl (by kernel_rfl) (Pur.fld _ fo47_2 rfl) ?_
  refine RegD.take (i := 2) rfl rfl rfl rfl (by kernel_rfl) (Bks.cons o0_0.blk (Bks.cons o1_2.blk Bks.nil)) (fun H hS => Lod.ld sc3 rfl hS.tl.hd (show _ = some (I ((fNode ((a.sz : Int) - 1) ((a.sz : Int) + b.sz - 1) r).getD 2 0)) from rfl)) ?_
  refine RegD.take (i := 4) rfl rfl rfl rfl (by kernel_rfl) (Bks.cons o0_0.blk (Bks.cons o1_2.blk Bks.nil)) (fun H hS => Lod.ldn ag25 rfl hS.hd (by first | exact whole rfl | rfl | (simp only [List.drop_succ_cons, List.drop_zero, List.take_succ_cons, List.take_zero]; rfl)) (by first | rfl | (simp [*]; done))) ?_
  refine RegD.tpur (i := 5) rfl rfl rfl rfl (by kernel_rfl) (Pur.fld _ fo47_3 rfl) ?_
  refine RegD.take (i := 6) rfl rfl rfl rfl (by kernel_rfl) (Bks.cons o0_0.blk (Bks.cons o1_2.blk Bks.nil)) (fun H hS => Lod.ld sc3 rfl hS.tl.hd (show _ = some (I ((fNode ((a.sz : Int) - 1) ((a.sz : Int) + b.sz - 1) r).getD 3 0)) from rfl)) ?_
  refine RegD.one (i := 3) (by kernel_rfl) rfl rfl rfl rfl (Does.call rfl (partR_ok hL (hS.ext hE) (by omega) (z := (a.sz : Int) - 1) (p := 0) (by omega) (by omega) e2 (by omega))) ?_
  rintro v1 H2_3 ⟨hT1, hE2_3⟩
  have z2_3 := hE2_3.lt
  replace hE := hE.ext hE2_3
  replace o0_0 := o0_0.ext hE2_3
  replace o0_1 := o0_1.ext hE2_3
  replace o0_2 := o0_2.ext hE2_3
  replace o1_2 := o1_2.ext hE2_3
  rw [e4, ha'] at hT1
  have z_hT1 := hT1.lt
  obtain ⟨B1, n1, k1, rfl⟩ := hT1.one
  refine ⟨fun _ _ => (Bks.cons o0_0.blk (Bks.cons o1_2.blk Bks.nil)), ?_⟩
  refine RegD.one (i := 7) (by kernel_rfl) rfl rfl rfl rfl (Does.call rfl (partR_ok hL (hS.ext hE) (by omega) (z := (a.sz : Int) + b.sz - 1) (p := a.sz) (by omega) (by omega) e3 (by omega))) ?_
  rintro v2 H2_7 ⟨hT2, hE2_7⟩
  have z2_7 := hE2_7.lt
  replace hE := hE.ext hE2_7
  replace o0_0 := o0_0.ext hE2_7
  replace o0_1 := o0_1.ext hE2_7
  replace o0_2 := o0_2.ext hE2_7
  replace o1_2 := o1_2.ext hE2_7
  replace hT1 := hT1.ext hE2_7
  rw [e5, hb'] at hT2
  have z_hT2 := hT2.lt
  obtain ⟨B2, n2, k2, rfl⟩ := hT2.one
  refine ⟨fun _ _ => (Bks.cons o0_0.blk (Bks.cons o1_2.blk Bks.nil)), ?_⟩
  refine RegD.one0 (i := 8) (by kernel_rfl) rfl rfl rfl (Does.stn ag25 rfl rfl (by first | rfl | exact ones_Is _) (by first | rfl | (simp [*]; done)) o0_1 (by first | decide | (simp; done) | (simp; omega) | omega)) ?_
  rintro _ H2_8 hu2_8
  have z2_8 := hu2_8.size
  replace hE := hE.upw hu2_8 (by omega)
  replace o0_0 := o0_0.upw hu2_8 (by omega)
  replace o0_2 := o0_2.upw hu2_8 (by omega)
  replace o1_2 := o1_2.upw hu2_8 (by omega)
  replace hT1 := hT1.upw hu2_8 (by omega)
  replace hT2 := hT2.upw hu2_8 (by omega)
  replace o0_1 := hu2_8.own
  first | rw [over (by first | rfl | (simp; done))] at o0_1 | skip
  refine ⟨fun _ _ => (Bks.cons o0_0.blk (Bks.cons o1_2.blk Bks.nil)), ?_⟩
  refine RegD.one0 (i := 9) (by kernel_rfl) rfl rfl rfl (Does.stn ag25 rfl rfl (by first | rfl | exact ones_Is _) (by first | rfl | (simp [*]; done)) o0_2 (by first | decide | (simp; done) | (simp; omega) | omega)) ?_
  rintro _ H2_9 hu2_9
  have z2_9 := hu2_9.size
  replace hE := hE.upw hu2_9 (by omega)
  replace o0_0 := o0_0.upw hu2_9 (by omega)
  replace o0_1 := o0_1.upw hu2_9 (by omega)
  replace o1_2 := o1_2.upw hu2_9 (by omega)
  replace hT1 := hT1.upw hu2_9 (by omega)
  replace hT2 := hT2.upw hu2_9 (by omega)
  replace o0_2 := hu2_9.own
  first | rw [over (by first | rfl | (simp; done))] at o0_2 | skip
  refine ⟨fun h => (by cases h), ?_⟩
  refine RegD.done (by kernel_rfl) ?_
  refine At.retC rfl Try.func110 ⟨_, _, _, _, rfl, rfl, ⟨_, o0_1.blk, .inr ⟨_, _, ag25, (by first | exact whole rfl | exact whole (by simp [*])), (by first | rfl | simp [*]), rfl⟩⟩, ⟨_, _, _, _, rfl, rfl, ⟨_, o0_2.blk, .inr ⟨_, _, ag25, (by first | exact whole rfl | exact whole (by simp [*])), (by first | rfl | simp [*]), rfl⟩⟩, rfl⟩⟩ ?_
  exact ⟨⟨_, _, rfl, hT1.mono (by omega), hT2.mono (by omega)⟩, hE⟩
end Go.Proofs.Ytlfillhffpiffaa

