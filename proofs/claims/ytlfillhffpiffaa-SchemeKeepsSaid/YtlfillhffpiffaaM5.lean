/-
  SchN SchO SchP SchQ SchR SchS SchT: joined texts.
-/
import Derived.Test.YtlfillhffpiffaaM4
import Derived.Test.YtlfillhffpiffaaM3
import Derived.Test.YtlfillhffpiffaaM1
/-
  scheme.Take, the reference's.
-/
namespace Go.Proofs.Ytlfillhffpiffaa
set_option linter.unusedSimpArgs false
set_option linter.unusedVariables false
set_option maxRecDepth 8000
set_option maxHeartbeats 1000000
open Go Go.Fx Go.Proofs
namespace FactsSchN
theorem ag25 : ag Try.prog 25 = some 1 := by kernel_rfl
theorem ag28 : ag Try.prog 28 = some 5 := by kernel_rfl
theorem apt22 : appT Try.prog 22 = some (49, 8, 80) := by kernel_rfl
theorem es54 : esz Try.prog 54 = some 1 := by kernel_rfl
theorem es57 : esz Try.prog 57 = some 1 := by kernel_rfl
theorem es58 : esz Try.prog 58 = some 5 := by kernel_rfl
theorem fo56_0 : foff Try.prog 56 0 = some 0 := by kernel_rfl
theorem fo56_1 : foff Try.prog 56 1 = some 1 := by kernel_rfl
theorem fo56_2 : foff Try.prog 56 2 = some 2 := by kernel_rfl
theorem isl54 : isSl Try.prog 54 = true := by kernel_rfl
theorem isl57 : isSl Try.prog 57 = true := by kernel_rfl
theorem isl58 : isSl Try.prog 58 = true := by kernel_rfl
theorem mixed : Try.prog.follows .mixedOrders = true := by kernel_rfl
theorem pl25 : places Try.prog 25 = some [(0, 1)] := by kernel_rfl
theorem pl49 : places Try.prog 49 = some [(0, 1), (1, 1), (2, 1), (3, 5)] := by kernel_rfl
theorem sc3 : sc Try.prog 3 = true := by kernel_rfl
theorem sc54 : sc Try.prog 54 = true := by kernel_rfl
theorem slA22 : slA Try.prog 22 = some (49, 8) := by kernel_rfl
theorem zc25 : zc Try.prog 25 = some [.slice none 0 0] := by kernel_rfl
theorem zc49 : zc Try.prog 49 = some [.int .i64 0, .bool false, .slice none 0 0, .int .i64 0, .int .i64 0, .int .i64 0, .int .i64 0, .int .i64 0] := by kernel_rfl
end FactsSchN
open FactsSchN

theorem ce_ne' {α : Type} {o : Option α} (h : ¬ ce o.isSome = 0) : o = none := by
  cases o with
  | none => rfl
  | some _ => exact (h rfl).elim
theorem ce_eq' {α : Type} {o : Option α} (h : ce o.isSome = 0) : ∃ m, o = some m := by
  cases o with
  | none => cases h
  | some m => exact ⟨m, rfl⟩
def takT (vs : List Int) (ts : List Td) (us : List Int) (rs : List (List Int)) (L : List (List Int)) : Option (List (List Int)) := if takO vs ts us rs then subT (takB vs ts us rs) L else none
def TakP (H : Heap) (vs : List Int) (ts : List Td) (us : List Int) (rs : List (List Int)) (L : List (List Int)) (v : Value) (H' : Heap) : Prop :=
  Ext H H' ∧ TypV H.size H' (I (cs (takT vs ts us rs L).isSome)) v ((takT vs ts us rs L).getD [])
theorem tak_no {H H' : Heap} {vs us : List Int} {ts : List Td} {rs L : List (List Int)} {v : Value} (h : takT vs ts us rs L = none) (hE : Ext H H') (hv : v = .tuple #[Ty none 0 0, I 1200]) : TakP H vs ts us rs L v H' := by
  refine ⟨hE, ?_⟩; rw [h]; exact TypV.non hv

theorem take_ok {A1 A2 A3 Aq Ar : Option Addr} {c1 c2 c3 ct cr : Nat} {vs us : List Int} {L : List (List Int)} {ts : List Td} {rs : List (List Int)} {H : Heap} (hs : ScR H A1 c1 vs A2 c2 us A3 c3 L)
    (hm : vs.length ≤ 9223372036854775807 ∧ us.length ≤ 9223372036854775807) (hmL : L.length * 72 ≤ 140737488351232) (hT : Tds H (.slice Aq ts.length ct) ts) (hR : SlT H Is 5 (.slice Ar rs.length cr) rs) (h5 : Five rs) (hrm : rs.length ≤ 9223372036854775807) :
    Ret Try.prog 32 [ScV A1 vs.length c1 A2 us.length c2 A3 L.length c3, .slice Aq ts.length ct, .slice Ar rs.length cr] H (TakP H vs ts us rs L) := by
  refine Ret.of_at (N := 33) Try.call32 Try.func32 rfl rfl rfl ?_
  have hE := Ext.refl H
  refine At.region rfl rfl ?_
  refine Reg.op rfl rfl rfl rfl (Does.box rfl rfl) ?_
  rintro _ H0_0 ⟨rfl, hn0_0⟩
  have z0_0 := hn0_0.size
  replace hE := hE.ext hn0_0.ext
  have o0_0 := hn0_0.own
  refine Reg.op rfl rfl rfl rfl (Does.alloc zc25) ?_
  rintro _ H0_1 ⟨rfl, hn0_1⟩
  have z0_1 := hn0_1.size
  replace hE := hE.ext hn0_1.ext
  replace o0_0 := o0_0.ext hn0_1.ext
  have o0_1 := hn0_1.own
  refine Reg.pur rfl rfl rfl rfl (Pur.asg rfl) ?_
  refine Reg.nil ?_
  refine At.region rfl rfl ?_
  refine Reg.pur rfl rfl rfl rfl (Pur.mv rfl) ?_
  refine Reg.pur rfl rfl rfl rfl (Pur.mv rfl) ?_
  refine Reg.op rfl rfl rfl rfl (Does.call rfl (binds_ok o0_0.blk (hs.s1.ext hE) (hs.s2.ext hE) hm (hT.ext hE) (hR.ext hE) h5 hrm)) ?_
  rintro v1_2 H1_2 ⟨hE1_2, A', cap', out, rfl, hout, hB⟩
  have z1_2 := hE1_2.lt
  replace hE := hE.ext hE1_2
  replace o0_0 := o0_0.ext hE1_2
  replace o0_1 := o0_1.ext hE1_2
  have hE1 := Ext.refl H1_2
  have z_hE1 := hE1.lt
  refine Reg.pur rfl rfl rfl rfl (Pur.mv rfl) ?_
  refine Reg.pur rfl rfl rfl rfl (Pur.ext rfl rfl) ?_
  refine Reg.pur rfl rfl rfl rfl (Pur.ext rfl rfl) ?_
  refine Reg.pur rfl rfl rfl rfl (Pur.asg rfl) ?_
  refine Reg.pur rfl rfl rfl rfl (Pur.asg rfl) ?_
  refine Reg.nil ?_
  refine At.region rfl rfl ?_
  refine Reg.pur rfl rfl rfl rfl (Pur.mv rfl) ?_
  refine Reg.pur rfl rfl rfl rfl (Pur.mki (by kernel_rfl) rfl) ?_
  refine Reg.op rfl rfl rfl rfl (Does.call rfl (errorsIs_ok _ 1200 _)) ?_
  rintro _ H1_2 ⟨rfl, rfl⟩
  refine Reg.nil ?_
  refine At.cond rfl rfl (fun q20 => ?_) (fun q20 => ?_)
  · first | (simp only [decide_eq_true_eq, decide_eq_false_iff_not, Bool.not_eq_true', Bool.not_eq_false', ne_eq, Decidable.not_not, Bool.not_eq_true, Bool.not_eq_false] at q20) | (dsimp only at q20) | skip

    refine At.region rfl rfl ?_
    refine Reg.pur rfl rfl rfl rfl (Pur.bld (cs := [_]) pl25 zc25 rfl rfl ⟨rfl, rfl⟩) ?_
    refine Reg.op0 rfl rfl rfl (Does.stn ag25 rfl rfl (by first | rfl | exact ones_Is _) (by first | rfl | (simp [*]; done)) o0_1 (by first | decide | (simp; done) | (simp; omega) | omega)) ?_
    rintro _ H3_1 hu3_1
    have z3_1 := hu3_1.size
    replace hE := hE.upw hu3_1 (by omega)
    replace o0_0 := o0_0.upw hu3_1 (by omega)
    replace o0_1 := hu3_1.own
    first | rw [over (by first | rfl | (simp; done))] at o0_1 | skip
    refine Reg.pur rfl rfl rfl rfl (Pur.asg rfl) ?_
    refine Reg.nil ?_
    refine At.retC rfl Try.func32 ⟨_, _, _, _, rfl, rfl, ⟨_, o0_1.blk, .inr ⟨_, _, ag25, (by first | exact whole rfl | exact whole (by simp [*])), (by first | rfl | simp [*]), rfl⟩⟩, ⟨_, _, rfl, rfl, rfl⟩⟩ ?_
    exact tak_no (by unfold takT; rw [if_neg (by intro h; rw [h] at q20; simp at q20)]) hE rfl
  · first | (simp only [decide_eq_true_eq, decide_eq_false_iff_not, Bool.not_eq_true', Bool.not_eq_false', ne_eq, Decidable.not_not, Bool.not_eq_true, Bool.not_eq_false] at q20) | (dsimp only at q20) | skip
    have ho : takO vs ts us rs = true := by { cases h : takO vs ts us rs with | true => rfl | false => rw [h] at q20; exact (q20 rfl).elim }
    have hq : takT vs ts us rs L = subT out L := by unfold takT; rw [if_pos ho, hout ho]
    refine At.region rfl rfl ?_
    refine Reg.pur rfl rfl rfl rfl (Pur.mv rfl) ?_
    refine Reg.pur rfl rfl rfl rfl (Pur.fld _ fo56_2 rfl) ?_
    refine Reg.lod rfl rfl rfl rfl (Lod.ldn ag25 rfl o0_0.blk (by first | exact whole rfl | rfl | (simp only [List.drop_succ_cons, List.drop_zero, List.take_succ_cons, List.take_zero]; rfl)) (by first | rfl | (simp [*]; done))) ?_
    refine Reg.op rfl rfl rfl rfl (Does.call rfl (type_ok (hB.ext hE1) (hs.s3.ext hE) hs.nine hmL)) ?_
    rintro v4_3 H4_3 ⟨hE4_3, hTv4_3⟩
    have z4_3 := hE4_3.lt
    replace hE := hE.ext hE4_3
    replace o0_0 := o0_0.ext hE4_3
    replace o0_1 := o0_1.ext hE4_3
    replace hE1 := hE1.ext hE4_3
    obtain ⟨A4, cap4, rfl, ho4, hN4, hl4⟩ := hTv4_3
    have z_ho4 := ho4.lt

    refine Reg.pur rfl rfl rfl rfl (Pur.mv rfl) ?_
    refine Reg.pur rfl rfl rfl rfl (Pur.ext rfl rfl) ?_
    refine Reg.pur rfl rfl rfl rfl (Pur.ext rfl rfl) ?_
    refine Reg.op rfl rfl rfl rfl (Does.alloc zc25) ?_
    rintro _ H4_7 ⟨rfl, hn4_7⟩
    have z4_7 := hn4_7.size
    replace hE := hE.ext hn4_7.ext
    replace o0_0 := o0_0.ext hn4_7.ext
    replace o0_1 := o0_1.ext hn4_7.ext
    replace ho4 := ho4.ext hn4_7.ext
    have o4_7 := hn4_7.own
    refine Reg.op0 rfl rfl rfl (Does.stn ag25 rfl rfl (by first | rfl | exact ones_Is _) (by first | rfl | (simp [*]; done)) o4_7 (by first | decide | (simp; done) | (simp; omega) | omega)) ?_
    rintro _ H4_8 hu4_8
    have z4_8 := hu4_8.size
    replace hE := hE.upw hu4_8 (by omega)
    replace o0_0 := o0_0.upw hu4_8 (by omega)
    replace o0_1 := o0_1.upw hu4_8 (by omega)
    replace ho4 := ho4.upw hu4_8 (by omega)
    replace o4_7 := hu4_8.own
    first | rw [over (by first | rfl | (simp; done))] at o4_7 | skip
    refine Reg.pur rfl rfl rfl rfl (Pur.asg rfl) ?_
    refine Reg.nil ?_
    refine At.region rfl rfl ?_
    refine Reg.pur rfl rfl rfl rfl (Pur.mv rfl) ?_
    refine Reg.pur rfl rfl rfl rfl (Pur.neq rfl rfl) ?_
    refine Reg.nil ?_
    refine At.cond rfl rfl (fun q30 => ?_) (fun q30 => ?_)
    · first | (simp only [decide_eq_true_eq, decide_eq_false_iff_not, Bool.not_eq_true', Bool.not_eq_false', ne_eq, Decidable.not_not, Bool.not_eq_true, Bool.not_eq_false] at q30) | (dsimp only at q30) | skip
      refine At.region rfl rfl ?_
      refine Reg.pur rfl rfl rfl rfl (Pur.bld (cs := [_]) pl25 zc25 rfl rfl ⟨rfl, rfl⟩) ?_
      refine Reg.op0 rfl rfl rfl (Does.stn ag25 rfl rfl (by first | rfl | exact ones_Is _) (by first | rfl | (simp [*]; done)) o0_1 (by first | decide | (simp; done) | (simp; omega) | omega)) ?_
      rintro _ H6_1 hu6_1
      have z6_1 := hu6_1.size
      replace hE := hE.upw hu6_1 (by omega)
      replace o0_0 := o0_0.upw hu6_1 (by omega)
      replace ho4 := ho4.upw hu6_1 (by omega)
      replace o4_7 := o4_7.upw hu6_1 (by omega)
      replace o0_1 := hu6_1.own
      first | rw [over (by first | rfl | (simp; done))] at o0_1 | skip
      refine Reg.pur rfl rfl rfl rfl (Pur.asg rfl) ?_
      refine Reg.nil ?_
      refine At.retC rfl Try.func32 ⟨_, _, _, _, rfl, rfl, ⟨_, o0_1.blk, .inr ⟨_, _, ag25, (by first | exact whole rfl | exact whole (by simp [*])), (by first | rfl | simp [*]), rfl⟩⟩, ⟨_, _, rfl, rfl, rfl⟩⟩ ?_
      exact tak_no (by rw [hq]; exact ce_ne' q30) hE rfl
    · first | (simp only [decide_eq_true_eq, decide_eq_false_iff_not, Bool.not_eq_true', Bool.not_eq_false', ne_eq, Decidable.not_not, Bool.not_eq_true, Bool.not_eq_false] at q30) | (dsimp only at q30) | skip
      refine At.region rfl rfl ?_
      refine Reg.lod rfl rfl rfl rfl (Lod.ldn ag25 rfl o4_7.blk (by first | exact whole rfl | rfl | (simp only [List.drop_succ_cons, List.drop_zero, List.take_succ_cons, List.take_zero]; rfl)) (by first | rfl | (simp [*]; done))) ?_
      refine Reg.op0 rfl rfl rfl (Does.stn ag25 rfl rfl (by first | rfl | exact ones_Is _) (by first | rfl | (simp [*]; done)) o0_1 (by first | decide | (simp; done) | (simp; omega) | omega)) ?_
      rintro _ H7_1 hu7_1
      have z7_1 := hu7_1.size
      replace hE := hE.upw hu7_1 (by omega)
      replace o0_0 := o0_0.upw hu7_1 (by omega)
      replace ho4 := ho4.upw hu7_1 (by omega)
      replace o4_7 := o4_7.upw hu7_1 (by omega)
      replace o0_1 := hu7_1.own
      first | rw [over (by first | rfl | (simp; done))] at o0_1 | skip
      refine Reg.pur rfl rfl rfl rfl (Pur.asg rfl) ?_
      refine Reg.nil ?_
      refine At.retC rfl Try.func32 ⟨_, _, _, _, rfl, rfl, ⟨_, o0_1.blk, .inr ⟨_, _, ag25, (by first | exact whole rfl | exact whole (by simp [*])), (by first | rfl | simp [*]), rfl⟩⟩, ⟨_, _, rfl, rfl, rfl⟩⟩ ?_
      refine ⟨hE, ?_⟩
      obtain ⟨M, hM⟩ := ce_eq' q30
      rw [hq, hM]
      rw [hM] at ho4 hN4 hl4
      exact ⟨A4, cap4, rfl, ho4.mono (by omega), hN4, hl4⟩

theorem takT_none {vs us : List Int} {ts : List Td} {rs L : List (List Int)} (h : ¬ (typM L = true ∧ vmS vs = true ∧ vmS us = true ∧ ts.length = vs.length ∧ rs.length = us.length)) : takT vs ts us rs L = none := by
  unfold takT
  split
  · rename_i ho
    unfold takO at ho
    simp only [Bool.and_eq_true, decide_eq_true_eq] at ho
    unfold subT
    rw [if_neg]
    rintro ⟨_, h2⟩
    exact h ⟨h2, ho.1.1.1, ho.1.1.2, ho.1.2, ho.2⟩
  · rfl
theorem takeR_ok {A1 A2 A3 Aq Ar : Option Addr} {c1 c2 c3 ct cr : Nat} {vs us : List Int} {L : List (List Int)} {ts : List Td} {rs : List (List Int)} {H : Heap} (hs : ScR H A1 c1 vs A2 c2 us A3 c3 L)
    (hm : vs.length ≤ 9223372036854775807 ∧ us.length ≤ 9223372036854775807) (hmL : L.length * 72 ≤ 140737488351232) (hT : Tds H (.slice Aq ts.length ct) ts) (hR : SlT H Is 5 (.slice Ar rs.length cr) rs) (h5 : Five rs) (hrm : rs.length ≤ 9223372036854775807) :
    Ret Try.prog 33 [ScV A1 vs.length c1 A2 us.length c2 A3 L.length c3, .slice Aq ts.length ct, .slice Ar rs.length cr] H (TakP H vs ts us rs L) := by
  have htm := hT.fits
  refine Ret.of_at (N := 95) Try.call33 Try.func33 rfl rfl rfl ?_
  have hE := Ext.refl H
  refine At.region rfl rfl ?_
  refine Reg.op rfl rfl rfl rfl (Does.box rfl rfl) ?_
  rintro _ H0_0 ⟨rfl, hn0_0⟩
  have z0_0 := hn0_0.size
  replace hE := hE.ext hn0_0.ext
  have o0_0 := hn0_0.own
  refine Reg.op rfl rfl rfl rfl (Does.alloc zc25) ?_
  rintro _ H0_1 ⟨rfl, hn0_1⟩
  have z0_1 := hn0_1.size
  replace hE := hE.ext hn0_1.ext
  replace o0_0 := o0_0.ext hn0_1.ext
  have o0_1 := hn0_1.own
  refine Reg.pur rfl rfl rfl rfl (Pur.asg rfl) ?_
  refine Reg.nil ?_
  refine At.region rfl rfl ?_
  refine Reg.pur rfl rfl rfl rfl (Pur.fld _ fo56_2 rfl) ?_
  refine Reg.lod rfl rfl rfl rfl (Lod.ldn ag25 rfl o0_0.blk (by first | exact whole rfl | rfl | (simp only [List.drop_succ_cons, List.drop_zero, List.take_succ_cons, List.take_zero]; rfl)) (by first | rfl | (simp [*]; done))) ?_
  refine Reg.op rfl rfl rfl rfl (Does.call rfl (typMayR_ok L hs.nine (hs.s3.ext hE) (by omega))) ?_
  rintro _ H1_2 ⟨rfl, hE1_2⟩
  have z1_2 := hE1_2.lt
  replace hE := hE.ext hE1_2
  replace o0_0 := o0_0.ext hE1_2
  replace o0_1 := o0_1.ext hE1_2
  refine Reg.pur rfl rfl rfl rfl (Pur.not rfl) ?_
  refine Reg.pur rfl rfl rfl rfl (Pur.mv rfl) ?_
  refine Reg.case 17 rfl (fun q17 => ?_) (fun q17 => ?_)
  · first | (simp only [decide_eq_true_eq, decide_eq_false_iff_not, Bool.not_eq_true', Bool.not_eq_false', ne_eq, Decidable.not_not, Bool.not_eq_true, Bool.not_eq_false] at q17) | (dsimp only at q17) | skip
    refine Reg.skip rfl rfl rfl rfl rfl rfl rfl ?_
    refine Reg.skip rfl rfl rfl rfl rfl rfl rfl ?_
    refine Reg.skip rfl rfl rfl rfl rfl rfl rfl ?_
    refine Reg.skip rfl rfl rfl rfl rfl rfl rfl ?_
    refine Reg.pur rfl rfl rfl rfl (Pur.pickT rfl rfl) ?_
    refine Reg.pur rfl rfl rfl rfl (Pur.mv rfl) ?_
    refine Reg.skip rfl rfl rfl rfl rfl rfl rfl ?_
    refine Reg.skip rfl rfl rfl rfl rfl rfl rfl ?_
    refine Reg.skip rfl rfl rfl rfl rfl rfl rfl ?_
    refine Reg.skip rfl rfl rfl rfl rfl rfl rfl ?_
    refine Reg.pur rfl rfl rfl rfl (Pur.pickT rfl rfl) ?_
    refine Reg.pur rfl rfl rfl rfl (Pur.mv rfl) ?_
    refine Reg.skip rfl rfl rfl rfl rfl rfl rfl ?_
    refine Reg.skip rfl rfl rfl rfl rfl rfl rfl ?_
    refine Reg.skip rfl rfl rfl rfl rfl rfl rfl ?_
    refine Reg.skip rfl rfl rfl rfl rfl rfl rfl ?_
    refine Reg.skip rfl rfl rfl rfl rfl rfl rfl ?_
    refine Reg.skip rfl rfl rfl rfl rfl rfl rfl ?_
    refine Reg.pur rfl rfl rfl rfl (Pur.pickT rfl rfl) ?_
    refine Reg.pur rfl rfl rfl rfl (Pur.mv rfl) ?_
    refine Reg.skip rfl rfl rfl rfl rfl rfl rfl ?_
    refine Reg.skip rfl rfl rfl rfl rfl rfl rfl ?_
    refine Reg.skip rfl rfl rfl rfl rfl rfl rfl ?_
    refine Reg.skip rfl rfl rfl rfl rfl rfl rfl ?_
    refine Reg.skip rfl rfl rfl rfl rfl rfl rfl ?_
    refine Reg.skip rfl rfl rfl rfl rfl rfl rfl ?_
    refine Reg.pur rfl rfl rfl rfl (Pur.pickT rfl rfl) ?_
    refine Reg.nil ?_
    refine At.condT rfl rfl rfl ?_
    refine At.region rfl rfl ?_
    refine Reg.pur rfl rfl rfl rfl (Pur.bld (cs := [_]) pl25 zc25 rfl rfl ⟨rfl, rfl⟩) ?_
    refine Reg.op0 rfl rfl rfl (Does.stn ag25 rfl rfl (by first | rfl | exact ones_Is _) (by first | rfl | (simp [*]; done)) o0_1 (by first | decide | (simp; done) | (simp; omega) | omega)) ?_
    rintro _ H2_1 hu2_1
    have z2_1 := hu2_1.size
    replace hE := hE.upw hu2_1 (by omega)
    replace o0_0 := o0_0.upw hu2_1 (by omega)
    replace o0_1 := hu2_1.own
    first | rw [over (by first | rfl | (simp; done))] at o0_1 | skip
    refine Reg.pur rfl rfl rfl rfl (Pur.asg rfl) ?_
    refine Reg.nil ?_
    refine At.retC rfl Try.func33 ⟨_, _, _, _, rfl, rfl, ⟨_, o0_1.blk, .inr ⟨_, _, ag25, (by first | exact whole rfl | exact whole (by simp [*])), (by first | rfl | simp [*]), rfl⟩⟩, ⟨_, _, rfl, rfl, rfl⟩⟩ ?_
    exact tak_no (takT_none (by revert q17; cases typM L <;> cases vmS vs <;> cases vmS us <;> simp <;> (intros; omega))) hE rfl
  · first | (simp only [decide_eq_true_eq, decide_eq_false_iff_not, Bool.not_eq_true', Bool.not_eq_false', ne_eq, Decidable.not_not, Bool.not_eq_true, Bool.not_eq_false] at q17) | (dsimp only at q17) | skip
    refine Reg.gpur rfl rfl rfl rfl rfl rfl (Pur.fld _ fo56_0 rfl) ?_
    refine Reg.glod rfl rfl rfl rfl rfl rfl (Lod.ld sc54 rfl o0_0.blk (by first | rfl | (simp; done))) ?_
    refine Reg.gop rfl rfl rfl rfl rfl rfl (Does.call rfl (varsMayR_ok vs (hs.s1.ext hE) hm.1)) ?_
    rintro _ H1_2 ⟨rfl, rfl⟩
    refine Reg.gpur rfl rfl rfl rfl rfl rfl (Pur.not rfl) ?_
    refine Reg.pur rfl rfl rfl rfl (Pur.pickF rfl rfl) ?_
    refine Reg.pur rfl rfl rfl rfl (Pur.mv rfl) ?_
    refine Reg.case 23 rfl (fun q23 => ?_) (fun q23 => ?_)
    · first | (simp only [decide_eq_true_eq, decide_eq_false_iff_not, Bool.not_eq_true', Bool.not_eq_false', ne_eq, Decidable.not_not, Bool.not_eq_true, Bool.not_eq_false] at q23) | (dsimp only at q23) | skip
      refine Reg.skip rfl rfl rfl rfl rfl rfl rfl ?_
      refine Reg.skip rfl rfl rfl rfl rfl rfl rfl ?_
      refine Reg.skip rfl rfl rfl rfl rfl rfl rfl ?_
      refine Reg.skip rfl rfl rfl rfl rfl rfl rfl ?_
      refine Reg.pur rfl rfl rfl rfl (Pur.pickT rfl rfl) ?_
      refine Reg.pur rfl rfl rfl rfl (Pur.mv rfl) ?_
      refine Reg.skip rfl rfl rfl rfl rfl rfl rfl ?_
      refine Reg.skip rfl rfl rfl rfl rfl rfl rfl ?_
      refine Reg.skip rfl rfl rfl rfl rfl rfl rfl ?_
      refine Reg.skip rfl rfl rfl rfl rfl rfl rfl ?_
      refine Reg.skip rfl rfl rfl rfl rfl rfl rfl ?_
      refine Reg.skip rfl rfl rfl rfl rfl rfl rfl ?_
      refine Reg.pur rfl rfl rfl rfl (Pur.pickT rfl rfl) ?_
      refine Reg.pur rfl rfl rfl rfl (Pur.mv rfl) ?_
      refine Reg.skip rfl rfl rfl rfl rfl rfl rfl ?_
      refine Reg.skip rfl rfl rfl rfl rfl rfl rfl ?_
      refine Reg.skip rfl rfl rfl rfl rfl rfl rfl ?_
      refine Reg.skip rfl rfl rfl rfl rfl rfl rfl ?_
      refine Reg.skip rfl rfl rfl rfl rfl rfl rfl ?_
      refine Reg.skip rfl rfl rfl rfl rfl rfl rfl ?_
      refine Reg.pur rfl rfl rfl rfl (Pur.pickT rfl rfl) ?_
      refine Reg.nil ?_
      refine At.condT rfl rfl rfl ?_
      refine At.region rfl rfl ?_
      refine Reg.pur rfl rfl rfl rfl (Pur.bld (cs := [_]) pl25 zc25 rfl rfl ⟨rfl, rfl⟩) ?_
      refine Reg.op0 rfl rfl rfl (Does.stn ag25 rfl rfl (by first | rfl | exact ones_Is _) (by first | rfl | (simp [*]; done)) o0_1 (by first | decide | (simp; done) | (simp; omega) | omega)) ?_
      rintro _ H2_1 hu2_1
      have z2_1 := hu2_1.size
      replace hE := hE.upw hu2_1 (by omega)
      replace o0_0 := o0_0.upw hu2_1 (by omega)
      replace o0_1 := hu2_1.own
      first | rw [over (by first | rfl | (simp; done))] at o0_1 | skip
      refine Reg.pur rfl rfl rfl rfl (Pur.asg rfl) ?_
      refine Reg.nil ?_
      refine At.retC rfl Try.func33 ⟨_, _, _, _, rfl, rfl, ⟨_, o0_1.blk, .inr ⟨_, _, ag25, (by first | exact whole rfl | exact whole (by simp [*])), (by first | rfl | simp [*]), rfl⟩⟩, ⟨_, _, rfl, rfl, rfl⟩⟩ ?_
      exact tak_no (takT_none (by revert q17 q23; cases typM L <;> cases vmS vs <;> cases vmS us <;> simp <;> (intros; omega))) hE rfl
    · first | (simp only [decide_eq_true_eq, decide_eq_false_iff_not, Bool.not_eq_true', Bool.not_eq_false', ne_eq, Decidable.not_not, Bool.not_eq_true, Bool.not_eq_false] at q23) | (dsimp only at q23) | skip
      refine Reg.gpur rfl rfl rfl rfl rfl rfl (Pur.fld _ fo56_1 rfl) ?_
      refine Reg.glod rfl rfl rfl rfl rfl rfl (Lod.ld sc54 rfl o0_0.blk (by first | rfl | (simp; done))) ?_
      refine Reg.gop rfl rfl rfl rfl rfl rfl (Does.call rfl (varsMayR_ok us (hs.s2.ext hE) hm.2)) ?_
      rintro _ H1_2 ⟨rfl, rfl⟩
      refine Reg.gpur rfl rfl rfl rfl rfl rfl (Pur.not rfl) ?_
      refine Reg.pur rfl rfl rfl rfl (Pur.pickF rfl rfl) ?_
      refine Reg.pur rfl rfl rfl rfl (Pur.mv rfl) ?_
      refine Reg.case 29 rfl (fun q29 => ?_) (fun q29 => ?_)
      · first | (simp only [decide_eq_true_eq, decide_eq_false_iff_not, Bool.not_eq_true', Bool.not_eq_false', ne_eq, Decidable.not_not, Bool.not_eq_true, Bool.not_eq_false] at q29) | (dsimp only at q29) | skip
        refine Reg.skip rfl rfl rfl rfl rfl rfl rfl ?_
        refine Reg.skip rfl rfl rfl rfl rfl rfl rfl ?_
        refine Reg.skip rfl rfl rfl rfl rfl rfl rfl ?_
        refine Reg.skip rfl rfl rfl rfl rfl rfl rfl ?_
        refine Reg.skip rfl rfl rfl rfl rfl rfl rfl ?_
        refine Reg.skip rfl rfl rfl rfl rfl rfl rfl ?_
        refine Reg.pur rfl rfl rfl rfl (Pur.pickT rfl rfl) ?_
        refine Reg.pur rfl rfl rfl rfl (Pur.mv rfl) ?_
        refine Reg.skip rfl rfl rfl rfl rfl rfl rfl ?_
        refine Reg.skip rfl rfl rfl rfl rfl rfl rfl ?_
        refine Reg.skip rfl rfl rfl rfl rfl rfl rfl ?_
        refine Reg.skip rfl rfl rfl rfl rfl rfl rfl ?_
        refine Reg.skip rfl rfl rfl rfl rfl rfl rfl ?_
        refine Reg.skip rfl rfl rfl rfl rfl rfl rfl ?_
        refine Reg.pur rfl rfl rfl rfl (Pur.pickT rfl rfl) ?_
        refine Reg.nil ?_
        refine At.condT rfl rfl rfl ?_
        refine At.region rfl rfl ?_
        refine Reg.pur rfl rfl rfl rfl (Pur.bld (cs := [_]) pl25 zc25 rfl rfl ⟨rfl, rfl⟩) ?_
        refine Reg.op0 rfl rfl rfl (Does.stn ag25 rfl rfl (by first | rfl | exact ones_Is _) (by first | rfl | (simp [*]; done)) o0_1 (by first | decide | (simp; done) | (simp; omega) | omega)) ?_
        rintro _ H2_1 hu2_1
        have z2_1 := hu2_1.size
        replace hE := hE.upw hu2_1 (by omega)
        replace o0_0 := o0_0.upw hu2_1 (by omega)
        replace o0_1 := hu2_1.own
        first | rw [over (by first | rfl | (simp; done))] at o0_1 | skip
        refine Reg.pur rfl rfl rfl rfl (Pur.asg rfl) ?_
        refine Reg.nil ?_
        refine At.retC rfl Try.func33 ⟨_, _, _, _, rfl, rfl, ⟨_, o0_1.blk, .inr ⟨_, _, ag25, (by first | exact whole rfl | exact whole (by simp [*])), (by first | rfl | simp [*]), rfl⟩⟩, ⟨_, _, rfl, rfl, rfl⟩⟩ ?_
        exact tak_no (takT_none (by revert q17 q23 q29; cases typM L <;> cases vmS vs <;> cases vmS us <;> simp <;> (intros; omega))) hE rfl
      · first | (simp only [decide_eq_true_eq, decide_eq_false_iff_not, Bool.not_eq_true', Bool.not_eq_false', ne_eq, Decidable.not_not, Bool.not_eq_true, Bool.not_eq_false] at q29) | (dsimp only at q29) | skip
        refine Reg.gpur rfl rfl rfl rfl rfl rfl (Pur.mv rfl) ?_
        refine Reg.gpur rfl rfl rfl rfl rfl rfl (Pur.lenS isl57 rfl) ?_
        refine Reg.gpur rfl rfl rfl rfl rfl rfl (Pur.fld _ fo56_0 rfl) ?_
        refine Reg.glod rfl rfl rfl rfl rfl rfl (Lod.ld sc54 rfl o0_0.blk (by first | rfl | (simp; done))) ?_
        refine Reg.gpur rfl rfl rfl rfl rfl rfl (Pur.lenS isl54 rfl) ?_
        refine Reg.gpur rfl rfl rfl rfl rfl rfl (Pur.neq rfl rfl) ?_
        refine Reg.pur rfl rfl rfl rfl (Pur.pickF rfl rfl) ?_
        refine Reg.pur rfl rfl rfl rfl (Pur.mv rfl) ?_
        refine Reg.case 37 rfl (fun q37 => ?_) (fun q37 => ?_)
        · first | (simp only [decide_eq_true_eq, decide_eq_false_iff_not, Bool.not_eq_true', Bool.not_eq_false', ne_eq, Decidable.not_not, Bool.not_eq_true, Bool.not_eq_false] at q37) | (dsimp only at q37) | skip
          refine Reg.skip rfl rfl rfl rfl rfl rfl rfl ?_
          refine Reg.skip rfl rfl rfl rfl rfl rfl rfl ?_
          refine Reg.skip rfl rfl rfl rfl rfl rfl rfl ?_
          refine Reg.skip rfl rfl rfl rfl rfl rfl rfl ?_
          refine Reg.skip rfl rfl rfl rfl rfl rfl rfl ?_
          refine Reg.skip rfl rfl rfl rfl rfl rfl rfl ?_
          refine Reg.pur rfl rfl rfl rfl (Pur.pickT rfl rfl) ?_
          refine Reg.nil ?_
          refine At.condT rfl rfl rfl ?_
          refine At.region rfl rfl ?_
          refine Reg.pur rfl rfl rfl rfl (Pur.bld (cs := [_]) pl25 zc25 rfl rfl ⟨rfl, rfl⟩) ?_
          refine Reg.op0 rfl rfl rfl (Does.stn ag25 rfl rfl (by first | rfl | exact ones_Is _) (by first | rfl | (simp [*]; done)) o0_1 (by first | decide | (simp; done) | (simp; omega) | omega)) ?_
          rintro _ H2_1 hu2_1
          have z2_1 := hu2_1.size
          replace hE := hE.upw hu2_1 (by omega)
          replace o0_0 := o0_0.upw hu2_1 (by omega)
          replace o0_1 := hu2_1.own
          first | rw [over (by first | rfl | (simp; done))] at o0_1 | skip
          refine Reg.pur rfl rfl rfl rfl (Pur.asg rfl) ?_
          refine Reg.nil ?_
          refine At.retC rfl Try.func33 ⟨_, _, _, _, rfl, rfl, ⟨_, o0_1.blk, .inr ⟨_, _, ag25, (by first | exact whole rfl | exact whole (by simp [*])), (by first | rfl | simp [*]), rfl⟩⟩, ⟨_, _, rfl, rfl, rfl⟩⟩ ?_
          exact tak_no (takT_none (by revert q17 q23 q29 q37; cases typM L <;> cases vmS vs <;> cases vmS us <;> simp <;> (intros; omega))) hE rfl
        · first | (simp only [decide_eq_true_eq, decide_eq_false_iff_not, Bool.not_eq_true', Bool.not_eq_false', ne_eq, Decidable.not_not, Bool.not_eq_true, Bool.not_eq_false] at q37) | (dsimp only at q37) | skip
          refine Reg.gpur rfl rfl rfl rfl rfl rfl (Pur.mv rfl) ?_
          refine Reg.gpur rfl rfl rfl rfl rfl rfl (Pur.lenS isl58 rfl) ?_
          refine Reg.gpur rfl rfl rfl rfl rfl rfl (Pur.fld _ fo56_1 rfl) ?_
          refine Reg.glod rfl rfl rfl rfl rfl rfl (Lod.ld sc54 rfl o0_0.blk (by first | rfl | (simp; done))) ?_
          refine Reg.gpur rfl rfl rfl rfl rfl rfl (Pur.lenS isl54 rfl) ?_
          refine Reg.gpur rfl rfl rfl rfl rfl rfl (Pur.neq rfl rfl) ?_
          refine Reg.pur rfl rfl rfl rfl (Pur.pickF rfl rfl) ?_
          refine Reg.nil ?_
          refine At.cond rfl rfl (fun q44 => ?_) (fun q44 => ?_)
          · first | (simp only [decide_eq_true_eq, decide_eq_false_iff_not, Bool.not_eq_true', Bool.not_eq_false', ne_eq, Decidable.not_not, Bool.not_eq_true, Bool.not_eq_false] at q44) | (dsimp only at q44) | skip
            refine At.region rfl rfl ?_
            refine Reg.pur rfl rfl rfl rfl (Pur.bld (cs := [_]) pl25 zc25 rfl rfl ⟨rfl, rfl⟩) ?_
            refine Reg.op0 rfl rfl rfl (Does.stn ag25 rfl rfl (by first | rfl | exact ones_Is _) (by first | rfl | (simp [*]; done)) o0_1 (by first | decide | (simp; done) | (simp; omega) | omega)) ?_
            rintro _ H2_1 hu2_1
            have z2_1 := hu2_1.size
            replace hE := hE.upw hu2_1 (by omega)
            replace o0_0 := o0_0.upw hu2_1 (by omega)
            replace o0_1 := hu2_1.own
            first | rw [over (by first | rfl | (simp; done))] at o0_1 | skip
            refine Reg.pur rfl rfl rfl rfl (Pur.asg rfl) ?_
            refine Reg.nil ?_
            refine At.retC rfl Try.func33 ⟨_, _, _, _, rfl, rfl, ⟨_, o0_1.blk, .inr ⟨_, _, ag25, (by first | exact whole rfl | exact whole (by simp [*])), (by first | rfl | simp [*]), rfl⟩⟩, ⟨_, _, rfl, rfl, rfl⟩⟩ ?_
            exact tak_no (takT_none (by revert q17 q23 q29 q37 q44; cases typM L <;> cases vmS vs <;> cases vmS us <;> simp <;> (intros; omega))) hE rfl
          · first | (simp only [decide_eq_true_eq, decide_eq_false_iff_not, Bool.not_eq_true', Bool.not_eq_false', ne_eq, Decidable.not_not, Bool.not_eq_true, Bool.not_eq_false] at q44) | (dsimp only at q44) | skip
            have hM : typM L = true := q17
            have hq1 : vmS vs = true := q23
            have hq2 : vmS us = true := q29
            have hl1 : ts.length = vs.length := by omega
            have hl2 : rs.length = us.length := by omega
            have hv4 := vmS_len hq1
            have hu4 := vmS_len hq2
            have ho : takO vs ts us rs = true := by unfold takO; rw [hq1, hq2, decide_eq_true hl1, decide_eq_true hl2]; rfl
            refine At.region rfl rfl ?_
            refine Reg.pur rfl rfl rfl rfl (Pur.asg rfl) ?_
            refine Reg.nil ?_
            refine At.region rfl rfl ?_
            refine Reg.pur rfl rfl rfl rfl (Pur.asg rfl) ?_
            refine Reg.nil ?_
            refine At.loop (σ := Nat × List Bd × Option Addr × Nat) (fun (i, out, A', cap') => [(9, I i), (8, .slice A' out.length cap'), (1, .slice Aq ts.length ct), (3, ptr H.size 0), (6, ptr H0_0.size 0), (2, .slice Ar rs.length cr)]) (fun (i, out, A', cap') H' => i ≤ ts.length ∧ out = (List.zipWith bT vs ts).take i ∧ Gs H' H0_1.size 49 8 A' cap' out.length (out.flatMap encB) ∧ Own H' H.size [.slice A1 vs.length c1, .slice A2 us.length c2, .slice A3 L.length c3] ∧ Own H' H0_0.size [.slice none 0 0] ∧ Ext H H') (fun s => ts.length - s.1) (0, [], none, 0) rfl ⟨rfl, rfl, rfl, rfl, rfl, rfl, trivial⟩ ⟨by omega, by simp, OwnS.nilG, o0_0, o0_1, hE⟩ ?_
            clear o0_0 o0_1 hE
            rintro ⟨i, out, A', cap'⟩ H3 ⟨hi, hout, hg, o0_0, o0_1, hE⟩ ih
            dsimp only at hi hout hg ⊢
            have z_hE := hE.lt
            have z_hg := hg.lt
            have z_o0_0 := o0_0.lt
            have z_o0_1 := o0_1.lt
            have hol : out.length ≤ i := by rw [hout, List.length_take]; omega
            refine At.region rfl rfl ?_
            refine Reg.pur rfl rfl rfl rfl (Pur.mv rfl) ?_
            refine Reg.pur rfl rfl rfl rfl (Pur.mv rfl) ?_
            refine Reg.pur rfl rfl rfl rfl (Pur.lenS isl57 rfl) ?_
            refine Reg.pur rfl rfl rfl rfl (Pur.lss rfl rfl) ?_
            refine Reg.nil ?_
            refine At.cond rfl rfl (fun q49 => ?_) (fun q49 => ?_)
            · first | (simp only [decide_eq_true_eq, decide_eq_false_iff_not, Bool.not_eq_true', Bool.not_eq_false', ne_eq, Decidable.not_not, Bool.not_eq_true, Bool.not_eq_false] at q49) | (dsimp only at q49) | skip
              have hlt : i < ts.length := by omega
              have hlv : i < vs.length := by omega
              have hzb : ∀ b o, A1 = some ⟨b, o, none⟩ → b < H.size := by { intro b o e; obtain ⟨_, _, _, e', hB0, _⟩ := int_at hs.s1 hlv; rw [e] at e'; cases e'; exact hB0.lt }
              have hzt : ∀ b o, Aq = some ⟨b, o, none⟩ → b < H.size := by { intro b o e; obtain ⟨_, _, _, e', hB0, _⟩ := sl_at (wideT ts) hT.sl hlt; rw [e] at e'; cases e'; exact hB0.lt }
              obtain ⟨b, o, c, rfl, hB, hd, _⟩ := sl_at (wideT ts) (hT.ext hE).sl hlt
              obtain ⟨b', o', c', rfl, hB', hc'⟩ := int_at (hs.s1.ext hE) hlv
              have hzb := hzb _ _ rfl
              have hzt := hzt _ _ rfl
              have hnx := zip_take (f := bT) hlv hlt
              rw [← hout] at hnx
              generalize ts[i] = td at hd hnx
              generalize vs[i] = vi at hc' hnx
              have z_hB := hB.lt
              have z_hB' := hB'.lt
              refine At.drawE ((Bks.cons o0_0.blk (Bks.cons hB'.blk (Bks.cons hB.blk Bks.nil)))) [] mixed rfl rfl ?_
              refine RegD.tpur (i := 0) rfl rfl rfl rfl (by kernel_rfl) (Pur.mv rfl) ?_
              refine RegD.tpur (i := 1) rfl rfl rfl rfl (by kernel_rfl) (Pur.fld _ fo56_0 rfl) ?_
              refine RegD.take (i := 2) rfl rfl rfl rfl (by kernel_rfl) (Bks.cons o0_0.blk (Bks.cons hB'.blk (Bks.cons hB.blk Bks.nil))) (fun H hS => Lod.ld sc54 rfl hS.hd (by first | rfl | (simp; done))) ?_
              refine RegD.tpur (i := 3) rfl rfl rfl rfl (by kernel_rfl) (Pur.mv rfl) ?_
              refine RegD.tpur (i := 4) rfl rfl rfl rfl (by kernel_rfl) (Pur.idx _ es54 rfl rfl (by omega) (by omega)) ?_
              refine RegD.take (i := 5) rfl rfl rfl rfl (by kernel_rfl) (Bks.cons o0_0.blk (Bks.cons hB'.blk (Bks.cons hB.blk Bks.nil))) (fun H hS => Lod.ld sc3 rfl hS.tl.hd hc') ?_
              refine RegD.tpur (i := 6) rfl rfl rfl rfl (by kernel_rfl) (Pur.mv rfl) ?_
              refine RegD.tpur (i := 7) rfl rfl rfl rfl (by kernel_rfl) (Pur.mv rfl) ?_
              refine RegD.tpur (i := 8) rfl rfl rfl rfl (by kernel_rfl) (Pur.idx _ es57 rfl rfl (by omega) (by omega)) ?_
              refine RegD.take (i := 9) rfl rfl rfl rfl (by kernel_rfl) (Bks.cons o0_0.blk (Bks.cons hB'.blk (Bks.cons hB.blk Bks.nil))) (fun H hS => Lod.ldn ag25 rfl hS.tl.tl.hd hd rfl) ?_
              refine RegD.tpur (i := 10) rfl rfl rfl rfl (by kernel_rfl) (Pur.bld (cs := [_, _, _, _, _, _, _, _]) pl49 zc49 rfl rfl ⟨rfl, rfl, rfl, rfl, rfl, rfl, rfl, rfl, rfl⟩) ?_
              refine RegD.one (i := 11) (by kernel_rfl) rfl rfl rfl rfl (Does.bslA ([[_, _, _, _, _, _, _, _]]) slA22 rfl rfl rfl rfl rfl rfl) ?_
              rintro _ H7_11 ⟨rfl, hp7_11⟩
              have hn7_11 := New.of_eq hp7_11
              have z7_11 := hn7_11.size
              replace hE := hE.ext hn7_11.ext
              replace hg := hg.ext hn7_11.ext
              replace o0_0 := o0_0.ext hn7_11.ext
              replace o0_1 := o0_1.ext hn7_11.ext
              replace hB := hB.ext hn7_11.ext
              replace hB' := hB'.ext hn7_11.ext
              have o7_11 := hn7_11.own
              refine ⟨fun _ _ => (Bks.cons o0_0.blk (Bks.cons hB'.blk (Bks.cons hB.blk Bks.nil))), ?_⟩
              refine RegD.one (i := 12) (by kernel_rfl) rfl rfl rfl rfl (Does.appL apt22 rfl rfl (by decide) hg (fun x hx ↦ by simp at hx; subst hx; rfl) (sl_one (x := bT vi td) rfl (by decide) hn7_11) (ones_fl _) (by simp; omega) (by omega)) ?_
              rintro _ H7_12 ⟨A7_12, cap7_12, rfl, g7_12, hbut7_12, ha7_12⟩
              have z7_12 := hbut7_12.lt
              replace hE := hE.via hbut7_12 (by first | omega | (intro g; omega) | (intro g hg; omega) | (intro g hg h; omega))
              replace o0_0 := o0_0.via hbut7_12 (by first | omega | (intro g; omega) | (intro g hg; omega) | (intro g hg h; omega))
              replace o0_1 := o0_1.via hbut7_12 (by first | omega | (intro g; omega) | (intro g hg; omega) | (intro g hg h; omega))
              replace hB := hB.via hbut7_12 (by first | omega | (intro g; omega) | (intro g hg; omega) | (intro g hg h; omega))
              replace hB' := hB'.via hbut7_12 (by first | omega | (intro g; omega) | (intro g hg; omega) | (intro g hg h; omega))
              replace o7_11 := o7_11.via hbut7_12 (by first | omega | (intro g; omega) | (intro g hg; omega) | (intro g hg h; omega))
              replace hg := g7_12
              have zg7_12 := g7_12.lt
              refine ⟨fun _ _ => (Bks.cons o0_0.blk (Bks.cons hB'.blk (Bks.cons hB.blk Bks.nil))), ?_⟩
              refine RegD.tpur (i := 13) rfl rfl rfl rfl (by kernel_rfl) (Pur.asg rfl) ?_
              refine RegD.done (by kernel_rfl) ?_
              refine At.region rfl rfl ?_
              refine Reg.pur rfl rfl rfl rfl (Pur.mv rfl) ?_
              first | refine Reg.pur rfl rfl rfl rfl (Pur.add64 rfl rfl (by omega)) ?_ | refine Reg.pur rfl rfl rfl rfl (Pur.add64 rfl rfl (by assumption)) ?_ | refine Reg.pur rfl rfl rfl rfl (Pur.add rfl rfl) ?_
              refine Reg.pur rfl rfl rfl rfl (Pur.asg rfl) ?_
              refine Reg.nil ?_
              exact At.via (ih (i + 1, out ++ [bT vi td], A7_12, cap7_12) _ ⟨by omega, hnx.symm, hg, o0_0, o0_1, hE⟩ (by simp only; omega)) ⟨rfl, rfl, rfl, rfl, rfl, rfl, trivial⟩
            · first | (simp only [decide_eq_true_eq, decide_eq_false_iff_not, Bool.not_eq_true', Bool.not_eq_false', ne_eq, Decidable.not_not, Bool.not_eq_true, Bool.not_eq_false] at q49) | (dsimp only at q49) | skip
              refine At.region rfl rfl ?_
              refine Reg.pur rfl rfl rfl rfl (Pur.asg rfl) ?_
              refine Reg.nil ?_
              have hall : out = List.zipWith bT vs ts := by rw [hout, List.take_of_length_le (by simp; omega)]
              clear ih
              refine At.loop (σ := Nat × List Bd × Option Addr × Nat) (fun (j, out', A', cap') => [(10, I j), (2, .slice Ar rs.length cr), (8, .slice A' out'.length cap'), (3, ptr H.size 0), (6, ptr H0_0.size 0)]) (fun (j, out', A', cap') H' => j ≤ rs.length ∧ out' = List.zipWith bT vs ts ++ (List.zipWith bR us rs).take j ∧ Gs H' H0_1.size 49 8 A' cap' out'.length (out'.flatMap encB) ∧ Own H' H.size [.slice A1 vs.length c1, .slice A2 us.length c2, .slice A3 L.length c3] ∧ Own H' H0_0.size [.slice none 0 0] ∧ Ext H H') (fun s => rs.length - s.1) (0, out, A', cap') rfl ⟨rfl, rfl, rfl, rfl, rfl, trivial⟩ ⟨by omega, by simp [hall], hg, o0_0, o0_1, hE⟩ ?_
              clear hg hE hout hall hol hi q49 o0_0 o0_1
              rintro ⟨j, out', A', cap'⟩ H5 ⟨hj, hout, hg, o0_0, o0_1, hE⟩ ih
              dsimp only at hj hout hg ⊢
              have z_hE := hE.lt
              have z_hg := hg.lt
              have z_o0_0 := o0_0.lt
              have z_o0_1 := o0_1.lt
              have hol : out'.length ≤ 4096 + j := by rw [hout, List.length_append, List.length_take]; simp; omega
              refine At.region rfl rfl ?_
              refine Reg.pur rfl rfl rfl rfl (Pur.mv rfl) ?_
              refine Reg.pur rfl rfl rfl rfl (Pur.mv rfl) ?_
              refine Reg.pur rfl rfl rfl rfl (Pur.lenS isl58 rfl) ?_
              refine Reg.pur rfl rfl rfl rfl (Pur.lss rfl rfl) ?_
              refine Reg.nil ?_
              refine At.cond rfl rfl (fun q68 => ?_) (fun q68 => ?_)
              · first | (simp only [decide_eq_true_eq, decide_eq_false_iff_not, Bool.not_eq_true', Bool.not_eq_false', ne_eq, Decidable.not_not, Bool.not_eq_true, Bool.not_eq_false] at q68) | (dsimp only at q68) | skip
                have hlt : j < rs.length := by omega
                have hlv : j < us.length := by omega
                have hzb : ∀ b o, A2 = some ⟨b, o, none⟩ → b < H.size := by { intro b o e; obtain ⟨_, _, _, e', hB0, _⟩ := int_at hs.s2 hlv; rw [e] at e'; cases e'; exact hB0.lt }
                have hzt : ∀ b o, Ar = some ⟨b, o, none⟩ → b < H.size := by { intro b o e; obtain ⟨_, _, _, e', hB0, _⟩ := sl_at (wide5 h5) hR hlt; rw [e] at e'; cases e'; exact hB0.lt }
                obtain ⟨b, o, c, rfl, hB, hd, h5'⟩ := sl_at (wide5 h5) (hR.ext hE) hlt
                have h55 := h5 _ (List.getElem_mem hlt)
                obtain ⟨b', o', c', rfl, hB', hc'⟩ := int_at (hs.s2.ext hE) hlv
                have hzb := hzb _ _ rfl
                have hzt := hzt _ _ rfl
                have hnx := zip_take (f := bR) hlv hlt
                generalize rs[j] = r at hd hnx h5' h55
                generalize us[j] = vi at hc' hnx
                obtain ⟨ra, rb, rc, rd, re, rfl⟩ : ∃ a b c d e, r = [a, b, c, d, e] := by match r, h55 with | [a, b, c, d, e], _ => exact ⟨_, _, _, _, _, rfl⟩
                have z_hB := hB.lt
                have z_hB' := hB'.lt
                refine At.drawE ((Bks.cons o0_0.blk (Bks.cons hB'.blk (Bks.cons hB.blk Bks.nil)))) [] mixed rfl rfl ?_
                refine RegD.tpur (i := 0) rfl rfl rfl rfl (by kernel_rfl) (Pur.mv rfl) ?_
                refine RegD.tpur (i := 1) rfl rfl rfl rfl (by kernel_rfl) (Pur.fld _ fo56_1 rfl) ?_
                refine RegD.take (i := 2) rfl rfl rfl rfl (by kernel_rfl) (Bks.cons o0_0.blk (Bks.cons hB'.blk (Bks.cons hB.blk Bks.nil))) (fun H hS => Lod.ld sc54 rfl hS.hd (by first | rfl | (simp; done))) ?_
                refine RegD.tpur (i := 3) rfl rfl rfl rfl (by kernel_rfl) (Pur.mv rfl) ?_
                refine RegD.tpur (i := 4) rfl rfl rfl rfl (by kernel_rfl) (Pur.idx _ es54 rfl rfl (by omega) (by omega)) ?_
                refine RegD.take (i := 5) rfl rfl rfl rfl (by kernel_rfl) (Bks.cons o0_0.blk (Bks.cons hB'.blk (Bks.cons hB.blk Bks.nil))) (fun H hS => Lod.ld sc3 rfl hS.tl.hd hc') ?_
                refine RegD.tpur (i := 6) rfl rfl rfl rfl (by kernel_rfl) (Pur.mv rfl) ?_
                refine RegD.tpur (i := 7) rfl rfl rfl rfl (by kernel_rfl) (Pur.mv rfl) ?_
                refine RegD.tpur (i := 8) rfl rfl rfl rfl (by kernel_rfl) (Pur.idx _ es58 rfl rfl (by omega) (by omega)) ?_
                refine RegD.take (i := 9) rfl rfl rfl rfl (by kernel_rfl) (Bks.cons o0_0.blk (Bks.cons hB'.blk (Bks.cons hB.blk Bks.nil))) (fun H hS => Lod.ldn ag28 rfl hS.tl.tl.hd hd h5') ?_
                refine RegD.tpur (i := 10) rfl rfl rfl rfl (by kernel_rfl) (Pur.bld (cs := [_, _, _, _, _, _, _, _]) pl49 zc49 rfl rfl ⟨rfl, rfl, rfl, rfl, rfl, rfl, rfl, rfl, rfl⟩) ?_
                refine RegD.one (i := 11) (by kernel_rfl) rfl rfl rfl rfl (Does.bslA ([[_, _, _, _, _, _, _, _]]) slA22 rfl rfl rfl rfl rfl rfl) ?_
                rintro _ H11_11 ⟨rfl, hp11_11⟩
                have hn11_11 := New.of_eq hp11_11
                have z11_11 := hn11_11.size
                replace hE := hE.ext hn11_11.ext
                replace hg := hg.ext hn11_11.ext
                replace o0_0 := o0_0.ext hn11_11.ext
                replace o0_1 := o0_1.ext hn11_11.ext
                replace hB := hB.ext hn11_11.ext
                replace hB' := hB'.ext hn11_11.ext
                have o11_11 := hn11_11.own
                refine ⟨fun _ _ => (Bks.cons o0_0.blk (Bks.cons hB'.blk (Bks.cons hB.blk Bks.nil))), ?_⟩
                refine RegD.one (i := 12) (by kernel_rfl) rfl rfl rfl rfl (Does.appL apt22 rfl rfl (by decide) hg (fun x hx ↦ by simp at hx; subst hx; rfl) (sl_one (x := bR vi [ra, rb, rc, rd, re]) rfl (by decide) hn11_11) (ones_fl _) (by simp; omega) (by omega)) ?_
                rintro _ H11_12 ⟨A11_12, cap11_12, rfl, g11_12, hbut11_12, ha11_12⟩
                have z11_12 := hbut11_12.lt
                replace hE := hE.via hbut11_12 (by first | omega | (intro g; omega) | (intro g hg; omega) | (intro g hg h; omega))
                replace o0_0 := o0_0.via hbut11_12 (by first | omega | (intro g; omega) | (intro g hg; omega) | (intro g hg h; omega))
                replace o0_1 := o0_1.via hbut11_12 (by first | omega | (intro g; omega) | (intro g hg; omega) | (intro g hg h; omega))
                replace hB := hB.via hbut11_12 (by first | omega | (intro g; omega) | (intro g hg; omega) | (intro g hg h; omega))
                replace hB' := hB'.via hbut11_12 (by first | omega | (intro g; omega) | (intro g hg; omega) | (intro g hg h; omega))
                replace o11_11 := o11_11.via hbut11_12 (by first | omega | (intro g; omega) | (intro g hg; omega) | (intro g hg h; omega))
                replace hg := g11_12
                have zg11_12 := g11_12.lt
                refine ⟨fun _ _ => (Bks.cons o0_0.blk (Bks.cons hB'.blk (Bks.cons hB.blk Bks.nil))), ?_⟩
                refine RegD.tpur (i := 13) rfl rfl rfl rfl (by kernel_rfl) (Pur.asg rfl) ?_
                refine RegD.done (by kernel_rfl) ?_
                refine At.region rfl rfl ?_
                refine Reg.pur rfl rfl rfl rfl (Pur.mv rfl) ?_
                first | refine Reg.pur rfl rfl rfl rfl (Pur.add64 rfl rfl (by omega)) ?_ | refine Reg.pur rfl rfl rfl rfl (Pur.add64 rfl rfl (by assumption)) ?_ | refine Reg.pur rfl rfl rfl rfl (Pur.add rfl rfl) ?_
                refine Reg.pur rfl rfl rfl rfl (Pur.asg rfl) ?_
                refine Reg.nil ?_
                exact At.via (ih (j + 1, out' ++ [bR vi [ra, rb, rc, rd, re]], A11_12, cap11_12) _ ⟨by omega, by rw [hnx, hout, List.append_assoc], hg, o0_0, o0_1, hE⟩ (by simp only; omega)) ⟨rfl, rfl, rfl, rfl, rfl, trivial⟩
              · first | (simp only [decide_eq_true_eq, decide_eq_false_iff_not, Bool.not_eq_true', Bool.not_eq_false', ne_eq, Decidable.not_not, Bool.not_eq_true, Bool.not_eq_false] at q68) | (dsimp only at q68) | skip
                have hall : out' = takB vs ts us rs := by rw [hout, List.take_of_length_le (by simp; omega)]; rfl
                have hok := takB_ok (vs := vs) (us := us) hT h5
                rw [← hall] at hok
                have hB : Bds H5 (.slice A' out'.length cap') out' := ⟨own_sl (fun x hx => (hok x hx).len) (by decide) hg, fun x hx => (hok x hx).ext hE, by omega⟩
                have hq : takT vs ts us rs L = subT out' L := by unfold takT; rw [if_pos ho, hall]
                refine At.region rfl rfl ?_
                refine Reg.pur rfl rfl rfl rfl (Pur.mv rfl) ?_
                refine Reg.pur rfl rfl rfl rfl (Pur.fld _ fo56_2 rfl) ?_
                refine Reg.lod rfl rfl rfl rfl (Lod.ldn ag25 rfl o0_0.blk (by first | exact whole rfl | rfl | (simp only [List.drop_succ_cons, List.drop_zero, List.take_succ_cons, List.take_zero]; rfl)) (by first | rfl | (simp [*]; done))) ?_
                refine Reg.op rfl rfl rfl rfl (Does.call rfl (typeR_ok hB (hs.s3.ext hE) hs.nine hmL)) ?_
                rintro v12_3 H12_3 ⟨hE12_3, hTv12_3⟩
                have z12_3 := hE12_3.lt
                replace hE := hE.ext hE12_3
                replace hg := hg.ext hE12_3
                replace o0_0 := o0_0.ext hE12_3
                replace o0_1 := o0_1.ext hE12_3
                obtain ⟨A4, cap4, rfl, ho4, hN4, hl4⟩ := hTv12_3
                have z_ho4 := ho4.lt
                refine Reg.pur rfl rfl rfl rfl (Pur.mv rfl) ?_
                refine Reg.pur rfl rfl rfl rfl (Pur.ext rfl rfl) ?_
                refine Reg.pur rfl rfl rfl rfl (Pur.ext rfl rfl) ?_
                refine Reg.op rfl rfl rfl rfl (Does.alloc zc25) ?_
                rintro _ H12_7 ⟨rfl, hn12_7⟩
                have z12_7 := hn12_7.size
                replace hE := hE.ext hn12_7.ext
                replace hg := hg.ext hn12_7.ext
                replace o0_0 := o0_0.ext hn12_7.ext
                replace o0_1 := o0_1.ext hn12_7.ext
                replace ho4 := ho4.ext hn12_7.ext
                have o12_7 := hn12_7.own
                refine Reg.op0 rfl rfl rfl (Does.stn ag25 rfl rfl (by first | rfl | exact ones_Is _) (by first | rfl | (simp [*]; done)) o12_7 (by first | decide | (simp; done) | (simp; omega) | omega)) ?_
                rintro _ H12_8 hu12_8
                have z12_8 := hu12_8.size
                replace hE := hE.upw hu12_8 (by omega)
                replace hg := hg.upw hu12_8 (by omega)
                replace o0_0 := o0_0.upw hu12_8 (by omega)
                replace o0_1 := o0_1.upw hu12_8 (by omega)
                replace ho4 := ho4.upw hu12_8 (by omega)
                replace o12_7 := hu12_8.own
                first | rw [over (by first | rfl | (simp; done))] at o12_7 | skip
                refine Reg.pur rfl rfl rfl rfl (Pur.asg rfl) ?_
                refine Reg.nil ?_
                refine At.region rfl rfl ?_
                refine Reg.pur rfl rfl rfl rfl (Pur.mv rfl) ?_
                refine Reg.pur rfl rfl rfl rfl (Pur.neq rfl rfl) ?_
                refine Reg.nil ?_
                refine At.cond rfl rfl (fun q92 => ?_) (fun q92 => ?_)
                · first | (simp only [decide_eq_true_eq, decide_eq_false_iff_not, Bool.not_eq_true', Bool.not_eq_false', ne_eq, Decidable.not_not, Bool.not_eq_true, Bool.not_eq_false] at q92) | (dsimp only at q92) | skip
                  refine At.region rfl rfl ?_
                  refine Reg.pur rfl rfl rfl rfl (Pur.bld (cs := [_]) pl25 zc25 rfl rfl ⟨rfl, rfl⟩) ?_
                  refine Reg.op0 rfl rfl rfl (Does.stn ag25 rfl rfl (by first | rfl | exact ones_Is _) (by first | rfl | (simp [*]; done)) o0_1 (by first | decide | (simp; done) | (simp; omega) | omega)) ?_
                  rintro _ H14_1 hu14_1
                  have z14_1 := hu14_1.size
                  replace hE := hE.upw hu14_1 (by omega)
                  replace hg := hg.upw hu14_1 (by omega)
                  replace o0_0 := o0_0.upw hu14_1 (by omega)
                  replace ho4 := ho4.upw hu14_1 (by omega)
                  replace o12_7 := o12_7.upw hu14_1 (by omega)
                  replace o0_1 := hu14_1.own
                  first | rw [over (by first | rfl | (simp; done))] at o0_1 | skip
                  refine Reg.pur rfl rfl rfl rfl (Pur.asg rfl) ?_
                  refine Reg.nil ?_
                  refine At.retC rfl Try.func33 ⟨_, _, _, _, rfl, rfl, ⟨_, o0_1.blk, .inr ⟨_, _, ag25, (by first | exact whole rfl | exact whole (by simp [*])), (by first | rfl | simp [*]), rfl⟩⟩, ⟨_, _, rfl, rfl, rfl⟩⟩ ?_
                  exact tak_no (by rw [hq]; exact ce_ne' q92) hE rfl
                · first | (simp only [decide_eq_true_eq, decide_eq_false_iff_not, Bool.not_eq_true', Bool.not_eq_false', ne_eq, Decidable.not_not, Bool.not_eq_true, Bool.not_eq_false] at q92) | (dsimp only at q92) | skip
                  refine At.region rfl rfl ?_
                  refine Reg.lod rfl rfl rfl rfl (Lod.ldn ag25 rfl o12_7.blk (by first | exact whole rfl | rfl | (simp only [List.drop_succ_cons, List.drop_zero, List.take_succ_cons, List.take_zero]; rfl)) (by first | rfl | (simp [*]; done))) ?_
                  refine Reg.op0 rfl rfl rfl (Does.stn ag25 rfl rfl (by first | rfl | exact ones_Is _) (by first | rfl | (simp [*]; done)) o0_1 (by first | decide | (simp; done) | (simp; omega) | omega)) ?_
                  rintro _ H15_1 hu15_1
                  have z15_1 := hu15_1.size
                  replace hE := hE.upw hu15_1 (by omega)
                  replace hg := hg.upw hu15_1 (by omega)
                  replace o0_0 := o0_0.upw hu15_1 (by omega)
                  replace ho4 := ho4.upw hu15_1 (by omega)
                  replace o12_7 := o12_7.upw hu15_1 (by omega)
                  replace o0_1 := hu15_1.own
                  first | rw [over (by first | rfl | (simp; done))] at o0_1 | skip
                  refine Reg.pur rfl rfl rfl rfl (Pur.asg rfl) ?_
                  refine Reg.nil ?_
                  refine At.retC rfl Try.func33 ⟨_, _, _, _, rfl, rfl, ⟨_, o0_1.blk, .inr ⟨_, _, ag25, (by first | exact whole rfl | exact whole (by simp [*])), (by first | rfl | simp [*]), rfl⟩⟩, ⟨_, _, rfl, rfl, rfl⟩⟩ ?_
                  refine ⟨hE, ?_⟩
                  obtain ⟨M, hM⟩ := ce_eq' q92
                  rw [hq, hM]
                  rw [hM] at ho4 hN4 hl4
                  exact ⟨A4, cap4, rfl, ho4.mono (by omega), hN4, hl4⟩
end Go.Proofs.Ytlfillhffpiffaa

/-
  Chapter 12's awake.
-/
namespace Go.Proofs.Ytlfillhffpiffaa
set_option linter.unusedSimpArgs false
set_option linter.unusedVariables false
set_option maxRecDepth 8000
set_option maxHeartbeats 1000000
open Go Go.Fx Go.Proofs
namespace FactsSchO
theorem ag25 : ag Try.prog 25 = some 1 := by kernel_rfl
theorem ag56 : ag Try.prog 56 = some 3 := by kernel_rfl
theorem es23 : esz Try.prog 23 = some 9 := by kernel_rfl
theorem fo25_0 : foff Try.prog 25 0 = some 0 := by kernel_rfl
theorem fo28_1 : foff Try.prog 28 1 = some 4 := by kernel_rfl
theorem fo47_0 : foff Try.prog 47 0 = some 0 := by kernel_rfl
theorem fo47_1 : foff Try.prog 47 1 = some 1 := by kernel_rfl
theorem fo47_4 : foff Try.prog 47 4 = some 4 := by kernel_rfl
theorem fo56_0 : foff Try.prog 56 0 = some 0 := by kernel_rfl
theorem fo56_1 : foff Try.prog 56 1 = some 1 := by kernel_rfl
theorem isl23 : isSl Try.prog 23 = true := by kernel_rfl
theorem pl25 : places Try.prog 25 = some [(0, 1)] := by kernel_rfl
theorem pl28 : places Try.prog 28 = some [(0, 4), (4, 1)] := by kernel_rfl
theorem pl47 : places Try.prog 47 = some [(0, 1), (1, 1), (2, 1), (3, 1), (4, 5)] := by kernel_rfl
theorem sc23 : sc Try.prog 23 = true := by kernel_rfl
theorem sc3 : sc Try.prog 3 = true := by kernel_rfl
theorem sc54 : sc Try.prog 54 = true := by kernel_rfl
theorem sl1_54 : sl1 Try.prog 54 = true := by kernel_rfl
theorem slA23 : slA Try.prog 23 = some (47, 9) := by kernel_rfl
theorem slA57 : slA Try.prog 57 = some (25, 1) := by kernel_rfl
theorem slA58 : slA Try.prog 58 = some (28, 5) := by kernel_rfl
theorem zc25 : zc Try.prog 25 = some [.slice none 0 0] := by kernel_rfl
theorem zc28 : zc Try.prog 28 = some [.int .i64 0, .int .i64 0, .int .i64 0, .int .i64 0, .int .i64 0] := by kernel_rfl
theorem zc47 : zc Try.prog 47 = some [.int .i64 0, .int .i64 0, .int .i64 0, .int .i64 0, .int .i64 0, .int .i64 0, .int .i64 0, .int .i64 0, .int .i64 0] := by kernel_rfl
theorem zc56 : zc Try.prog 56 = some [.slice none 0 0, .slice none 0 0, .slice none 0 0] := by kernel_rfl
end FactsSchO
open FactsSchO

abbrev kF : List (List Int) := [[2, 5, 0, 0, 0, 0, 0, 0, 0], [2, 1, 0, 0, 0, 0, 0, 0, 0], [3, 0, 0, 1, 0, 0, 0, 0, 2]]
abbrev kB : List (List Int) := [[1, 0, 0, 0, 0, 0, 0, 0, 0]]
abbrev kM : List (List Int) := [[1, 0, 0, 0, 0, 0, 0, 0, 0], [2, 1, 0, 0, 0, 0, 0, 0, 0], [3, 0, 0, 1, 0, 0, 0, 0, -1]]
theorem kV : cloV kF [1] = [5] := by kernel_rfl
theorem kR : cloR kF [] = [2] := by kernel_rfl
theorem kT : cloT kF = kF := by kernel_rfl
theorem kO : typM kF = true := by kernel_rfl
theorem kV0 : cloV [] [] = [] := by kernel_rfl
theorem kR0 : cloR [] [] = [] := by kernel_rfl
theorem kT0 : cloT [] = [] := by kernel_rfl
theorem kO0 : typM [] = false := by kernel_rfl
theorem kTak (A : Option Addr) (c : Nat) : takT [5] [⟨A, c, kB⟩] [2] [[0, 0, 0, 0, -1]] kF = some kM := by kernel_rfl
theorem k5 : Five [[0, 0, 0, 0, -1]] := by intro x hx; simp at hx; subst hx; rfl
theorem k50 : Five [] := fun x hx => by cases hx
theorem kTak0 : takT [5] [] [2] [] kF = none := by kernel_rfl
theorem tds_nil (H : Heap) : Tds H (.slice none ([] : List Td).length 0) [] := ⟨sl_nil H, (fun b hb => by cases hb), by simp⟩
theorem sl_nil0 {α : Type} {enc : α → List Value} {n : Nat} (H : Heap) : SlT H enc n (.slice none ([] : List α).length 0) [] := sl_nil H

theorem awake12_ok (H : Heap) : Ret Try.prog 36 [] H (fun v H' => v = .bool true ∧ Ext H H') := by
  refine Ret.of_at (N := 104) Try.call36 Try.func36 rfl rfl rfl ?_
  have hE := Ext.refl H
  refine At.region rfl rfl ?_
  refine Reg.pur rfl rfl rfl rfl (Pur.asg rfl) ?_
  refine Reg.nil ?_
  refine At.region rfl rfl ?_
  refine Reg.pur rfl rfl rfl rfl (Pur.bld (cs := [_, _, _, _, _, _, _, _, _]) pl47 zc47 rfl rfl ⟨rfl, rfl, rfl, rfl, rfl, rfl, rfl, rfl, rfl, rfl⟩) ?_
  refine Reg.pur rfl rfl rfl rfl (Pur.bld (cs := [_, _, _, _, _, _, _, _, _]) pl47 zc47 rfl rfl ⟨rfl, rfl, rfl, rfl, rfl, rfl, rfl, rfl, rfl, rfl⟩) ?_
  refine Reg.pur rfl rfl rfl rfl (Pur.bld (cs := [_, _, _, _, _]) pl28 zc28 rfl rfl ⟨rfl, rfl, rfl, rfl, rfl, rfl⟩) ?_
  refine Reg.pur rfl rfl rfl rfl (Pur.bld (cs := [_, _, _, _, _, _, _, _, _]) pl47 zc47 rfl rfl ⟨rfl, rfl, rfl, rfl, rfl, rfl, rfl, rfl, rfl, rfl⟩) ?_
  refine Reg.op rfl rfl rfl rfl (Does.bslA ([[_, _, _, _, _, _, _, _, _], [_, _, _, _, _, _, _, _, _], [_, _, _, _, _, _, _, _, _]]) slA23 rfl rfl rfl rfl rfl rfl) ?_
  rintro _ H1_4 ⟨rfl, hp1_4⟩
  have hn1_4 := New.of_eq hp1_4
  have z1_4 := hn1_4.size
  replace hE := hE.ext hn1_4.ext
  have o1_4 := hn1_4.own
  have hS1 : SlT H1_4 Is 9 (.slice (some ⟨H.size, 0, none⟩) 3 3) kF := sl_new (L := kF) (wide9 (nine_lit rfl)) (by decide) hn1_4 (by decide)
  have hE1 := Ext.refl H1_4
  have z_hE1 := hE1.lt
  refine Reg.pur rfl rfl rfl rfl (Pur.bld (cs := [_]) pl25 zc25 rfl rfl ⟨rfl, rfl⟩) ?_
  refine Reg.op rfl rfl rfl rfl (Does.alloc zc25) ?_
  rintro _ H1_6 ⟨rfl, hn1_6⟩
  have z1_6 := hn1_6.size
  replace hE := hE.ext hn1_6.ext
  replace o1_4 := o1_4.ext hn1_6.ext
  replace hE1 := hE1.ext hn1_6.ext
  have o1_6 := hn1_6.own
  refine Reg.op0 rfl rfl rfl (Does.stn ag25 rfl rfl (by first | rfl | exact ones_Is _) (by first | rfl | (simp [*]; done)) o1_6 (by first | decide | (simp; done) | (simp; omega) | omega)) ?_
  rintro _ H1_7 hu1_7
  have z1_7 := hu1_7.size
  replace hE := hE.upw hu1_7 (by omega)
  replace o1_4 := o1_4.upw hu1_7 (by omega)
  replace hE1 := hE1.upw hu1_7 (by omega)
  replace o1_6 := hu1_7.own
  first | rw [over (by first | rfl | (simp; done))] at o1_6 | skip
  refine Reg.nil ?_
  refine At.region rfl rfl ?_
  refine Reg.lod rfl rfl rfl rfl (Lod.ldn ag25 rfl o1_6.blk (by first | exact whole rfl | rfl | (simp only [List.drop_succ_cons, List.drop_zero, List.take_succ_cons, List.take_zero]; rfl)) (by first | rfl | (simp [*]; done))) ?_
  refine Reg.op rfl rfl rfl rfl (Does.bsl1T sl1_54 Try.underlying54 rfl rfl rfl rfl rfl) ?_
  rintro _ H2_1 ⟨rfl, hp2_1⟩
  have hn2_1 := New.of_eq hp2_1
  have z2_1 := hn2_1.size
  replace hE := hE.ext hn2_1.ext
  replace o1_4 := o1_4.ext hn2_1.ext
  replace hE1 := hE1.ext hn2_1.ext
  replace o1_6 := o1_6.ext hn2_1.ext
  have o2_1 := hn2_1.own
  have hS2 : SlT H2_1 e1 1 (.slice (some ⟨H1_7.size, 0, none⟩) 1 1) [1] := sl_new (L := [1]) (wide1 _) (by decide) hn2_1 (by decide)
  refine Reg.op rfl rfl rfl rfl (Does.call rfl (close_ok (L := kF) (ks := [1]) (ms := []) (nine_lit rfl) (hS1.ext hE1) (by decide) hS2 (by decide) (sl_nil0 _) (by decide))) ?_
  rintro v2_2 H2_2 ⟨hE2_2, A1, c1, A2, c2, A3, c3, rfl, hs2_2⟩
  have z2_2 := hE2_2.lt
  replace hE := hE.ext hE2_2
  replace o1_4 := o1_4.ext hE2_2
  replace hE1 := hE1.ext hE2_2
  replace o1_6 := o1_6.ext hE2_2
  replace o2_1 := o2_1.ext hE2_2
  rw [kV, kR, kT] at hs2_2
  rw [kV, kR, kT, kO]
  have hE2 := Ext.refl H2_2
  have z_hE2 := hE2.lt
  refine Reg.pur rfl rfl rfl rfl (Pur.mv rfl) ?_
  refine Reg.pur rfl rfl rfl rfl (Pur.ext rfl rfl) ?_
  refine Reg.pur rfl rfl rfl rfl (Pur.ext rfl rfl) ?_
  refine Reg.op rfl rfl rfl rfl (Does.alloc zc56) ?_
  rintro _ H2_6 ⟨rfl, hn2_6⟩
  have z2_6 := hn2_6.size
  replace hE := hE.ext hn2_6.ext
  replace o1_4 := o1_4.ext hn2_6.ext
  replace hE1 := hE1.ext hn2_6.ext
  replace o1_6 := o1_6.ext hn2_6.ext
  replace o2_1 := o2_1.ext hn2_6.ext
  replace hE2 := hE2.ext hn2_6.ext
  have o2_6 := hn2_6.own
  refine Reg.op0 rfl rfl rfl (Does.stn ag56 rfl rfl (by first | rfl | exact ones_Is _) (by first | rfl | (simp [*]; done)) o2_6 (by first | decide | (simp; done) | (simp; omega) | omega)) ?_
  rintro _ H2_7 hu2_7
  have z2_7 := hu2_7.size
  replace hE := hE.upw hu2_7 (by omega)
  replace o1_4 := o1_4.upw hu2_7 (by omega)
  replace hE1 := hE1.upw hu2_7 (by omega)
  replace o1_6 := o1_6.upw hu2_7 (by omega)
  replace o2_1 := o2_1.upw hu2_7 (by omega)
  replace hE2 := hE2.upw hu2_7 (by omega)
  replace o2_6 := hu2_7.own
  first | rw [over (by first | rfl | (simp; done))] at o2_6 | skip
  refine Reg.pur rfl rfl rfl rfl (Pur.asg rfl) ?_
  refine Reg.nil ?_
  refine At.region rfl rfl ?_
  refine Reg.lod rfl rfl rfl rfl (Lod.ldn ag56 rfl o2_6.blk (by first | exact whole rfl | rfl | (simp only [List.drop_succ_cons, List.drop_zero, List.take_succ_cons, List.take_zero]; rfl)) (by first | rfl | (simp [*]; done))) ?_
  refine Reg.pur rfl rfl rfl rfl (Pur.bld (cs := [_, _, _, _, _, _, _, _, _]) pl47 zc47 rfl rfl ⟨rfl, rfl, rfl, rfl, rfl, rfl, rfl, rfl, rfl, rfl⟩) ?_
  refine Reg.op rfl rfl rfl rfl (Does.bslA ([[_, _, _, _, _, _, _, _, _]]) slA23 rfl rfl rfl rfl rfl rfl) ?_
  rintro _ H3_2 ⟨rfl, hp3_2⟩
  have hn3_2 := New.of_eq hp3_2
  have z3_2 := hn3_2.size
  replace hE := hE.ext hn3_2.ext
  replace o1_4 := o1_4.ext hn3_2.ext
  replace hE1 := hE1.ext hn3_2.ext
  replace o1_6 := o1_6.ext hn3_2.ext
  replace o2_1 := o2_1.ext hn3_2.ext
  replace hE2 := hE2.ext hn3_2.ext
  replace o2_6 := o2_6.ext hn3_2.ext
  have o3_2 := hn3_2.own
  have hS3 : SlT H3_2 Is 9 (.slice (some ⟨H2_7.size, 0, none⟩) 1 1) kB := sl_new (L := kB) (wide9 (nine_lit rfl)) (by decide) hn3_2 (by decide)
  have hE3 := Ext.refl H3_2
  have z_hE3 := hE3.lt
  refine Reg.pur rfl rfl rfl rfl (Pur.bld (cs := [_]) pl25 zc25 rfl rfl ⟨rfl, rfl⟩) ?_
  refine Reg.op rfl rfl rfl rfl (Does.bslA ([[_]]) slA57 rfl rfl rfl rfl rfl rfl) ?_
  rintro _ H3_4 ⟨rfl, hp3_4⟩
  have hn3_4 := New.of_eq hp3_4
  have z3_4 := hn3_4.size
  replace hE := hE.ext hn3_4.ext
  replace o1_4 := o1_4.ext hn3_4.ext
  replace hE1 := hE1.ext hn3_4.ext
  replace o1_6 := o1_6.ext hn3_4.ext
  replace o2_1 := o2_1.ext hn3_4.ext
  replace hE2 := hE2.ext hn3_4.ext
  replace o2_6 := o2_6.ext hn3_4.ext
  replace o3_2 := o3_2.ext hn3_4.ext
  replace hE3 := hE3.ext hn3_4.ext
  have o3_4 := hn3_4.own
  have hT3 : Tds H3_4 (.slice (some ⟨H3_2.size, 0, none⟩) 1 1) [⟨some ⟨H2_7.size, 0, none⟩, 1, kB⟩] := ⟨sl_new (L := [(⟨some ⟨H2_7.size, 0, none⟩, 1, kB⟩ : Td)]) (wideT _) (by decide) hn3_4 (Nat.le_of_ble_eq_true rfl), all_one ⟨hS3.ext hE3, nine_lit rfl, by simp⟩, Nat.le_of_ble_eq_true rfl⟩
  have hE4 := Ext.refl H3_4
  have z_hE4 := hE4.lt
  refine Reg.pur rfl rfl rfl rfl (Pur.bld (cs := [_, _, _, _, _]) pl28 zc28 rfl rfl ⟨rfl, rfl, rfl, rfl, rfl, rfl⟩) ?_
  refine Reg.op rfl rfl rfl rfl (Does.bslA ([[_, _, _, _, _]]) slA58 rfl rfl rfl rfl rfl rfl) ?_
  rintro _ H3_6 ⟨rfl, hp3_6⟩
  have hn3_6 := New.of_eq hp3_6
  have z3_6 := hn3_6.size
  replace hE := hE.ext hn3_6.ext
  replace o1_4 := o1_4.ext hn3_6.ext
  replace hE1 := hE1.ext hn3_6.ext
  replace o1_6 := o1_6.ext hn3_6.ext
  replace o2_1 := o2_1.ext hn3_6.ext
  replace hE2 := hE2.ext hn3_6.ext
  replace o2_6 := o2_6.ext hn3_6.ext
  replace o3_2 := o3_2.ext hn3_6.ext
  replace hE3 := hE3.ext hn3_6.ext
  replace o3_4 := o3_4.ext hn3_6.ext
  replace hE4 := hE4.ext hn3_6.ext
  have o3_6 := hn3_6.own
  have hR3 : SlT H3_6 Is 5 (.slice (some ⟨H3_4.size, 0, none⟩) 1 1) [[0, 0, 0, 0, -1]] := sl_new (L := [[0, 0, 0, 0, -1]]) (wide5 k5) (by decide) hn3_6 (by decide)
  refine Reg.op rfl rfl rfl rfl (Does.call rfl (take_ok (vs := [5]) (us := [2]) (L := kF) (ts := [⟨some ⟨H2_7.size, 0, none⟩, 1, kB⟩]) (rs := [[0, 0, 0, 0, -1]]) (hs2_2.r.ext hE2) ⟨by decide, by decide⟩ (by decide) (hT3.ext hE4) hR3 k5 (by decide))) ?_
  rintro v3_7 H3_7 ⟨hE3_7, hTv3_7⟩
  have z3_7 := hE3_7.lt
  replace hE := hE.ext hE3_7
  replace o1_4 := o1_4.ext hE3_7
  replace hE1 := hE1.ext hE3_7
  replace o1_6 := o1_6.ext hE3_7
  replace o2_1 := o2_1.ext hE3_7
  replace hE2 := hE2.ext hE3_7
  replace o2_6 := o2_6.ext hE3_7
  replace o3_2 := o3_2.ext hE3_7
  replace hE3 := hE3.ext hE3_7
  replace o3_4 := o3_4.ext hE3_7
  replace hE4 := hE4.ext hE3_7
  replace o3_6 := o3_6.ext hE3_7
  rw [kTak] at hTv3_7
  obtain ⟨A7, cap7, rfl, ho7, _, _⟩ := hTv3_7
  have z_ho7 := ho7.lt
  refine Reg.pur rfl rfl rfl rfl (Pur.mv rfl) ?_
  refine Reg.pur rfl rfl rfl rfl (Pur.ext rfl rfl) ?_
  refine Reg.pur rfl rfl rfl rfl (Pur.ext rfl rfl) ?_
  refine Reg.op rfl rfl rfl rfl (Does.alloc zc25) ?_
  rintro _ H3_11 ⟨rfl, hn3_11⟩
  have z3_11 := hn3_11.size
  replace hE := hE.ext hn3_11.ext
  replace o1_4 := o1_4.ext hn3_11.ext
  replace hE1 := hE1.ext hn3_11.ext
  replace o1_6 := o1_6.ext hn3_11.ext
  replace o2_1 := o2_1.ext hn3_11.ext
  replace hE2 := hE2.ext hn3_11.ext
  replace o2_6 := o2_6.ext hn3_11.ext
  replace o3_2 := o3_2.ext hn3_11.ext
  replace hE3 := hE3.ext hn3_11.ext
  replace o3_4 := o3_4.ext hn3_11.ext
  replace hE4 := hE4.ext hn3_11.ext
  replace o3_6 := o3_6.ext hn3_11.ext
  replace ho7 := ho7.ext hn3_11.ext
  have o3_11 := hn3_11.own
  refine Reg.op0 rfl rfl rfl (Does.stn ag25 rfl rfl (by first | rfl | exact ones_Is _) (by first | rfl | (simp [*]; done)) o3_11 (by first | decide | (simp; done) | (simp; omega) | omega)) ?_
  rintro _ H3_12 hu3_12
  have z3_12 := hu3_12.size
  replace hE := hE.upw hu3_12 (by omega)
  replace o1_4 := o1_4.upw hu3_12 (by omega)
  replace hE1 := hE1.upw hu3_12 (by omega)
  replace o1_6 := o1_6.upw hu3_12 (by omega)
  replace o2_1 := o2_1.upw hu3_12 (by omega)
  replace hE2 := hE2.upw hu3_12 (by omega)
  replace o2_6 := o2_6.upw hu3_12 (by omega)
  replace o3_2 := o3_2.upw hu3_12 (by omega)
  replace hE3 := hE3.upw hu3_12 (by omega)
  replace o3_4 := o3_4.upw hu3_12 (by omega)
  replace hE4 := hE4.upw hu3_12 (by omega)
  replace o3_6 := o3_6.upw hu3_12 (by omega)
  replace ho7 := ho7.upw hu3_12 (by omega)
  replace o3_11 := hu3_12.own
  first | rw [over (by first | rfl | (simp; done))] at o3_11 | skip
  refine Reg.pur rfl rfl rfl rfl (Pur.asg rfl) ?_
  refine Reg.nil ?_
  refine At.region rfl rfl ?_
  refine Reg.lod rfl rfl rfl rfl (Lod.ldn ag56 rfl o2_6.blk (by first | exact whole rfl | rfl | (simp only [List.drop_succ_cons, List.drop_zero, List.take_succ_cons, List.take_zero]; rfl)) (by first | rfl | (simp [*]; done))) ?_
  refine Reg.op rfl rfl rfl rfl (Does.call rfl (take_ok (vs := [5]) (us := [2]) (L := kF) (ts := []) (rs := []) (hs2_2.r.ext hE2) ⟨by decide, by decide⟩ (by decide) (tds_nil _) (sl_nil0 _) k50 (by decide))) ?_
  rintro v4_1 H4_1 ⟨hE4_1, hTv4_1⟩
  have z4_1 := hE4_1.lt
  replace hE := hE.ext hE4_1
  replace o1_4 := o1_4.ext hE4_1
  replace hE1 := hE1.ext hE4_1
  replace o1_6 := o1_6.ext hE4_1
  replace o2_1 := o2_1.ext hE4_1
  replace hE2 := hE2.ext hE4_1
  replace o2_6 := o2_6.ext hE4_1
  replace o3_2 := o3_2.ext hE4_1
  replace hE3 := hE3.ext hE4_1
  replace o3_4 := o3_4.ext hE4_1
  replace hE4 := hE4.ext hE4_1
  replace o3_6 := o3_6.ext hE4_1
  replace ho7 := ho7.ext hE4_1
  replace o3_11 := o3_11.ext hE4_1
  rw [kTak0] at hTv4_1
  obtain ⟨A8, cap8, rfl, _, _, _⟩ := hTv4_1
  refine Reg.pur rfl rfl rfl rfl (Pur.mv rfl) ?_
  refine Reg.pur rfl rfl rfl rfl (Pur.ext rfl rfl) ?_
  refine Reg.pur rfl rfl rfl rfl (Pur.ext rfl rfl) ?_
  refine Reg.op rfl rfl rfl rfl (Does.alloc zc25) ?_
  rintro _ H4_5 ⟨rfl, hn4_5⟩
  have z4_5 := hn4_5.size
  replace hE := hE.ext hn4_5.ext
  replace o1_4 := o1_4.ext hn4_5.ext
  replace hE1 := hE1.ext hn4_5.ext
  replace o1_6 := o1_6.ext hn4_5.ext
  replace o2_1 := o2_1.ext hn4_5.ext
  replace hE2 := hE2.ext hn4_5.ext
  replace o2_6 := o2_6.ext hn4_5.ext
  replace o3_2 := o3_2.ext hn4_5.ext
  replace hE3 := hE3.ext hn4_5.ext
  replace o3_4 := o3_4.ext hn4_5.ext
  replace hE4 := hE4.ext hn4_5.ext
  replace o3_6 := o3_6.ext hn4_5.ext
  replace ho7 := ho7.ext hn4_5.ext
  replace o3_11 := o3_11.ext hn4_5.ext
  have o4_5 := hn4_5.own
  refine Reg.op0 rfl rfl rfl (Does.stn ag25 rfl rfl (by first | rfl | exact ones_Is _) (by first | rfl | (simp [*]; done)) o4_5 (by first | decide | (simp; done) | (simp; omega) | omega)) ?_
  rintro _ H4_6 hu4_6
  have z4_6 := hu4_6.size
  replace hE := hE.upw hu4_6 (by omega)
  replace o1_4 := o1_4.upw hu4_6 (by omega)
  replace hE1 := hE1.upw hu4_6 (by omega)
  replace o1_6 := o1_6.upw hu4_6 (by omega)
  replace o2_1 := o2_1.upw hu4_6 (by omega)
  replace hE2 := hE2.upw hu4_6 (by omega)
  replace o2_6 := o2_6.upw hu4_6 (by omega)
  replace o3_2 := o3_2.upw hu4_6 (by omega)
  replace hE3 := hE3.upw hu4_6 (by omega)
  replace o3_4 := o3_4.upw hu4_6 (by omega)
  replace hE4 := hE4.upw hu4_6 (by omega)
  replace o3_6 := o3_6.upw hu4_6 (by omega)
  replace ho7 := ho7.upw hu4_6 (by omega)
  replace o3_11 := o3_11.upw hu4_6 (by omega)
  replace o4_5 := hu4_6.own
  first | rw [over (by first | rfl | (simp; done))] at o4_5 | skip
  refine Reg.pur rfl rfl rfl rfl (Pur.asg rfl) ?_
  refine Reg.nil ?_
  refine At.region rfl rfl ?_
  refine Reg.pur rfl rfl rfl rfl (Pur.bld (cs := [_]) pl25 zc25 rfl rfl ⟨rfl, rfl⟩) ?_
  refine Reg.op rfl rfl rfl rfl (Does.call rfl (close_ok (A := none) (L := []) (ks := []) (ms := []) (nine_lit rfl) (sl_nil _) (by decide) (sl_nil0 _) (by decide) (sl_nil0 _) (by decide))) ?_
  rintro v5_1 H5_1 ⟨hE5_1, B1, d1, B2, d2, B3, d3, rfl, hs5_1⟩
  have z5_1 := hE5_1.lt
  replace hE := hE.ext hE5_1
  replace o1_4 := o1_4.ext hE5_1
  replace hE1 := hE1.ext hE5_1
  replace o1_6 := o1_6.ext hE5_1
  replace o2_1 := o2_1.ext hE5_1
  replace hE2 := hE2.ext hE5_1
  replace o2_6 := o2_6.ext hE5_1
  replace o3_2 := o3_2.ext hE5_1
  replace hE3 := hE3.ext hE5_1
  replace o3_4 := o3_4.ext hE5_1
  replace hE4 := hE4.ext hE5_1
  replace o3_6 := o3_6.ext hE5_1
  replace ho7 := ho7.ext hE5_1
  replace o3_11 := o3_11.ext hE5_1
  replace o4_5 := o4_5.ext hE5_1
  rw [kV0, kR0, kT0, kO0]
  refine Reg.pur rfl rfl rfl rfl (Pur.mv rfl) ?_
  refine Reg.pur rfl rfl rfl rfl (Pur.ext rfl rfl) ?_
  refine Reg.pur rfl rfl rfl rfl (Pur.ext rfl rfl) ?_
  refine Reg.op rfl rfl rfl rfl (Does.alloc zc56) ?_
  rintro _ H5_5 ⟨rfl, hn5_5⟩
  have z5_5 := hn5_5.size
  replace hE := hE.ext hn5_5.ext
  replace o1_4 := o1_4.ext hn5_5.ext
  replace hE1 := hE1.ext hn5_5.ext
  replace o1_6 := o1_6.ext hn5_5.ext
  replace o2_1 := o2_1.ext hn5_5.ext
  replace hE2 := hE2.ext hn5_5.ext
  replace o2_6 := o2_6.ext hn5_5.ext
  replace o3_2 := o3_2.ext hn5_5.ext
  replace hE3 := hE3.ext hn5_5.ext
  replace o3_4 := o3_4.ext hn5_5.ext
  replace hE4 := hE4.ext hn5_5.ext
  replace o3_6 := o3_6.ext hn5_5.ext
  replace ho7 := ho7.ext hn5_5.ext
  replace o3_11 := o3_11.ext hn5_5.ext
  replace o4_5 := o4_5.ext hn5_5.ext
  have o5_5 := hn5_5.own
  refine Reg.op0 rfl rfl rfl (Does.stn ag56 rfl rfl (by first | rfl | exact ones_Is _) (by first | rfl | (simp [*]; done)) o5_5 (by first | decide | (simp; done) | (simp; omega) | omega)) ?_
  rintro _ H5_6 hu5_6
  have z5_6 := hu5_6.size
  replace hE := hE.upw hu5_6 (by omega)
  replace o1_4 := o1_4.upw hu5_6 (by omega)
  replace hE1 := hE1.upw hu5_6 (by omega)
  replace o1_6 := o1_6.upw hu5_6 (by omega)
  replace o2_1 := o2_1.upw hu5_6 (by omega)
  replace hE2 := hE2.upw hu5_6 (by omega)
  replace o2_6 := o2_6.upw hu5_6 (by omega)
  replace o3_2 := o3_2.upw hu5_6 (by omega)
  replace hE3 := hE3.upw hu5_6 (by omega)
  replace o3_4 := o3_4.upw hu5_6 (by omega)
  replace hE4 := hE4.upw hu5_6 (by omega)
  replace o3_6 := o3_6.upw hu5_6 (by omega)
  replace ho7 := ho7.upw hu5_6 (by omega)
  replace o3_11 := o3_11.upw hu5_6 (by omega)
  replace o4_5 := o4_5.upw hu5_6 (by omega)
  replace o5_5 := hu5_6.own
  first | rw [over (by first | rfl | (simp; done))] at o5_5 | skip
  refine Reg.pur rfl rfl rfl rfl (Pur.asg rfl) ?_
  refine Reg.nil ?_
  refine At.region rfl rfl ?_
  refine Reg.pur rfl rfl rfl rfl (Pur.fld _ fo56_0 rfl) ?_
  refine Reg.lod rfl rfl rfl rfl (Lod.ld sc54 rfl o2_6.blk (by first | rfl | (simp; done))) ?_
  refine Reg.op rfl rfl rfl rfl (Does.bsl1T sl1_54 Try.underlying54 rfl rfl rfl rfl rfl) ?_
  rintro _ H6_2 ⟨rfl, hp6_2⟩
  have hn6_2 := New.of_eq hp6_2
  have z6_2 := hn6_2.size
  replace hE := hE.ext hn6_2.ext
  replace o1_4 := o1_4.ext hn6_2.ext
  replace hE1 := hE1.ext hn6_2.ext
  replace o1_6 := o1_6.ext hn6_2.ext
  replace o2_1 := o2_1.ext hn6_2.ext
  replace hE2 := hE2.ext hn6_2.ext
  replace o2_6 := o2_6.ext hn6_2.ext
  replace o3_2 := o3_2.ext hn6_2.ext
  replace hE3 := hE3.ext hn6_2.ext
  replace o3_4 := o3_4.ext hn6_2.ext
  replace hE4 := hE4.ext hn6_2.ext
  replace o3_6 := o3_6.ext hn6_2.ext
  replace ho7 := ho7.ext hn6_2.ext
  replace o3_11 := o3_11.ext hn6_2.ext
  replace o4_5 := o4_5.ext hn6_2.ext
  replace o5_5 := o5_5.ext hn6_2.ext
  have o6_2 := hn6_2.own
  have hS6 : SlT H6_2 e1 1 (.slice (some ⟨H5_6.size, 0, none⟩) 1 1) [5] := sl_new (L := [5]) (wide1 _) (by decide) hn6_2 (by decide)
  refine Reg.op rfl rfl rfl rfl (Does.call rfl (sameI_ok [5] [5] (hs2_2.r.ext hE2).s1 hS6 (by decide))) ?_
  rintro _ H6_2 ⟨rfl, rfl⟩
  refine Reg.pur rfl rfl rfl rfl (Pur.mv rfl) ?_
  refine Reg.known (b' := true) 47 rfl (by rfl) ?_
  refine Reg.gpur rfl rfl rfl rfl rfl rfl (Pur.fld _ fo56_1 rfl) ?_
  refine Reg.glod rfl rfl rfl rfl rfl rfl (Lod.ld sc54 rfl o2_6.blk (by first | rfl | (simp; done))) ?_
  refine Reg.gop rfl rfl rfl rfl rfl rfl (Does.bsl1T sl1_54 Try.underlying54 rfl rfl rfl rfl rfl) ?_
  rintro _ H6_7 ⟨rfl, hp6_7⟩
  have hn6_7 := New.of_eq hp6_7
  have z6_7 := hn6_7.size
  replace hE := hE.ext hn6_7.ext
  replace o1_4 := o1_4.ext hn6_7.ext
  replace hE1 := hE1.ext hn6_7.ext
  replace o1_6 := o1_6.ext hn6_7.ext
  replace o2_1 := o2_1.ext hn6_7.ext
  replace hE2 := hE2.ext hn6_7.ext
  replace o2_6 := o2_6.ext hn6_7.ext
  replace o3_2 := o3_2.ext hn6_7.ext
  replace hE3 := hE3.ext hn6_7.ext
  replace o3_4 := o3_4.ext hn6_7.ext
  replace hE4 := hE4.ext hn6_7.ext
  replace o3_6 := o3_6.ext hn6_7.ext
  replace ho7 := ho7.ext hn6_7.ext
  replace o3_11 := o3_11.ext hn6_7.ext
  replace o4_5 := o4_5.ext hn6_7.ext
  replace o5_5 := o5_5.ext hn6_7.ext
  replace o6_2 := o6_2.ext hn6_7.ext
  have o6_7 := hn6_7.own
  have hS7 : SlT H6_7 e1 1 (.slice (some ⟨H6_2.size, 0, none⟩) 1 1) [2] := sl_new (L := [2]) (wide1 _) (by decide) hn6_7 (by decide)
  refine Reg.gop rfl rfl rfl rfl rfl rfl (Does.call rfl (sameI_ok [2] [2] (hs2_2.r.ext hE2).s2 hS7 (by decide))) ?_
  rintro _ H6_7 ⟨rfl, rfl⟩
  refine Reg.pur rfl rfl rfl rfl (Pur.pickT rfl rfl) ?_
  refine Reg.pur rfl rfl rfl rfl (Pur.mv rfl) ?_
  refine Reg.known (b' := true) 53 rfl (by rfl) ?_
  refine Reg.gpur rfl rfl rfl rfl rfl rfl (Pur.mv rfl) ?_
  refine Reg.gop rfl rfl rfl rfl rfl rfl (Does.call rfl (numE_ok _ _)) ?_
  rintro _ H6_7 ⟨rfl, rfl⟩
  refine Reg.gpur rfl rfl rfl rfl rfl rfl (Pur.eql rfl rfl) ?_
  refine Reg.pur rfl rfl rfl rfl (Pur.pickT rfl rfl) ?_
  refine Reg.pur rfl rfl rfl rfl (Pur.mv rfl) ?_
  refine Reg.known (b' := true) 58 rfl (by rfl) ?_
  refine Reg.gpur rfl rfl rfl rfl rfl rfl (Pur.fld _ fo25_0 rfl) ?_
  refine Reg.glod rfl rfl rfl rfl rfl rfl (Lod.ld sc23 rfl o3_11.blk (by first | rfl | (simp; done))) ?_
  refine Reg.gpur rfl rfl rfl rfl rfl rfl (Pur.lenS isl23 rfl) ?_
  refine Reg.gpur rfl rfl rfl rfl rfl rfl (Pur.eql rfl rfl) ?_
  refine Reg.pur rfl rfl rfl rfl (Pur.pickT rfl rfl) ?_
  refine Reg.pur rfl rfl rfl rfl (Pur.mv rfl) ?_
  refine Reg.known (b' := true) 64 rfl (by rfl) ?_
  refine Reg.gpur rfl rfl rfl rfl rfl rfl (Pur.fld _ fo25_0 rfl) ?_
  refine Reg.glod rfl rfl rfl rfl rfl rfl (Lod.ld sc23 rfl o3_11.blk (by first | rfl | (simp; done))) ?_
  obtain ⟨g7, c7, rfl, hg7, hc7, _⟩ := ho7.blk (by decide)
  refine Reg.gpur rfl rfl rfl rfl rfl rfl (Pur.idx _ es23 rfl rfl (by decide) (by decide)) ?_
  refine Reg.gpur rfl rfl rfl rfl rfl rfl (Pur.fld _ fo47_0 rfl) ?_
  refine Reg.glod rfl rfl rfl rfl rfl rfl (Lod.ld sc3 rfl hg7.blk (tk_at hc7 rfl)) ?_
  refine Reg.gpur rfl rfl rfl rfl rfl rfl (Pur.eql rfl rfl) ?_
  refine Reg.pur rfl rfl rfl rfl (Pur.pickT rfl rfl) ?_
  refine Reg.pur rfl rfl rfl rfl (Pur.mv rfl) ?_
  refine Reg.known (b' := true) 72 rfl (by rfl) ?_
  refine Reg.gpur rfl rfl rfl rfl rfl rfl (Pur.fld _ fo25_0 rfl) ?_
  refine Reg.glod rfl rfl rfl rfl rfl rfl (Lod.ld sc23 rfl o3_11.blk (by first | rfl | (simp; done))) ?_
  refine Reg.gpur rfl rfl rfl rfl rfl rfl (Pur.idx _ es23 rfl rfl (by decide) (by decide)) ?_
  refine Reg.gpur rfl rfl rfl rfl rfl rfl (Pur.fld _ fo47_1 rfl) ?_
  refine Reg.glod rfl rfl rfl rfl rfl rfl (Lod.ld sc3 rfl hg7.blk (tk_at hc7 rfl)) ?_
  refine Reg.gpur rfl rfl rfl rfl rfl rfl (Pur.eql rfl rfl) ?_
  refine Reg.pur rfl rfl rfl rfl (Pur.pickT rfl rfl) ?_
  refine Reg.pur rfl rfl rfl rfl (Pur.mv rfl) ?_
  refine Reg.known (b' := true) 80 rfl (by rfl) ?_
  refine Reg.gpur rfl rfl rfl rfl rfl rfl (Pur.fld _ fo25_0 rfl) ?_
  refine Reg.glod rfl rfl rfl rfl rfl rfl (Lod.ld sc23 rfl o3_11.blk (by first | rfl | (simp; done))) ?_
  refine Reg.gpur rfl rfl rfl rfl rfl rfl (Pur.idx _ es23 rfl rfl (by decide) (by decide)) ?_
  refine Reg.gpur rfl rfl rfl rfl rfl rfl (Pur.fld _ fo47_4 rfl) ?_
  refine Reg.gpur rfl rfl rfl rfl rfl rfl (Pur.fld _ fo28_1 rfl) ?_
  refine Reg.glod rfl rfl rfl rfl rfl rfl (Lod.ld sc3 rfl hg7.blk (tk_at hc7 rfl)) ?_
  refine Reg.gpur rfl rfl rfl rfl rfl rfl (Pur.eql rfl rfl) ?_
  refine Reg.pur rfl rfl rfl rfl (Pur.pickT rfl rfl) ?_
  refine Reg.pur rfl rfl rfl rfl (Pur.mv rfl) ?_
  refine Reg.known (b' := true) 89 rfl (by rfl) ?_
  refine Reg.gpur rfl rfl rfl rfl rfl rfl (Pur.mv rfl) ?_
  refine Reg.gop rfl rfl rfl rfl rfl rfl (Does.call rfl (numE_ok _ _)) ?_
  rintro _ H6_7 ⟨rfl, rfl⟩
  refine Reg.gpur rfl rfl rfl rfl rfl rfl (Pur.eql rfl rfl) ?_
  refine Reg.pur rfl rfl rfl rfl (Pur.pickT rfl rfl) ?_
  refine Reg.pur rfl rfl rfl rfl (Pur.mv rfl) ?_
  refine Reg.known (b' := true) 94 rfl (by rfl) ?_
  refine Reg.gpur rfl rfl rfl rfl rfl rfl (Pur.mv rfl) ?_
  refine Reg.gop rfl rfl rfl rfl rfl rfl (Does.call rfl (numE_ok _ _)) ?_
  rintro _ H6_7 ⟨rfl, rfl⟩
  refine Reg.gpur rfl rfl rfl rfl rfl rfl (Pur.eql rfl rfl) ?_
  refine Reg.pur rfl rfl rfl rfl (Pur.pickT rfl rfl) ?_
  refine Reg.pur rfl rfl rfl rfl (Pur.mv rfl) ?_
  refine Reg.known (b' := true) 99 rfl (by rfl) ?_
  refine Reg.gpur rfl rfl rfl rfl rfl rfl (Pur.mv rfl) ?_
  refine Reg.gop rfl rfl rfl rfl rfl rfl (Does.call rfl (numE_ok _ _)) ?_
  rintro _ H6_7 ⟨rfl, rfl⟩
  refine Reg.gpur rfl rfl rfl rfl rfl rfl (Pur.eql rfl rfl) ?_
  refine Reg.pur rfl rfl rfl rfl (Pur.pickT rfl rfl) ?_
  refine Reg.pur rfl rfl rfl rfl (Pur.asg rfl) ?_
  refine Reg.nil ?_
  refine At.ret rfl Try.func36 rfl ?_
  exact ⟨rfl, hE⟩
end Go.Proofs.Ytlfillhffpiffaa

/-
  Chapter 12: schemes.
-/
namespace Go.Proofs.Ytlfillhffpiffaa
set_option linter.unusedSimpArgs false
set_option linter.unusedVariables false
set_option maxRecDepth 8000
set_option maxHeartbeats 2000000
open Go Go.Fx Go.Proofs
namespace FactsSchP
theorem ag25 : ag Try.prog 25 = some 1 := by kernel_rfl
theorem ag56 : ag Try.prog 56 = some 3 := by kernel_rfl
theorem fo56_0 : foff Try.prog 56 0 = some 0 := by kernel_rfl
theorem fo56_1 : foff Try.prog 56 1 = some 1 := by kernel_rfl
theorem fo56_2 : foff Try.prog 56 2 = some 2 := by kernel_rfl
theorem mixed : Try.prog.follows .mixedOrders = true := by kernel_rfl
theorem pl56 : places Try.prog 56 = some [(0, 1), (1, 1), (2, 1)] := by kernel_rfl
theorem sc54 : sc Try.prog 54 = true := by kernel_rfl
theorem zc25 : zc Try.prog 25 = some [.slice none 0 0] := by kernel_rfl
theorem zc56 : zc Try.prog 56 = some [.slice none 0 0, .slice none 0 0, .slice none 0 0] := by kernel_rfl
end FactsSchP
open FactsSchP

theorem clo_len (T : List (List Int)) (ks ms : List Int) (h : T.length ≤ 9223372036854775807) : (cloV T ks).length ≤ 9223372036854775807 ∧ (cloR T ms).length ≤ 9223372036854775807 ∧ (cloT T).length ≤ 9223372036854775807 := by
  unfold cloV cloR cloT
  cases hM : typM T with
  | false => simp
  | true =>
    have h1 := vars_256 hM
    have h2 : (wo (varsS T ([], [])).1 ks).length ≤ (varsS T ([], [])).1.length := List.length_filter_le _ _
    have h3 : (wo (varsS T ([], [])).2 ms).length ≤ (varsS T ([], [])).2.length := List.length_filter_le _ _
    simp only [if_true]
    omega
theorem schemes_law {A A1 A2 A3 Ak Am Aq Ar : Option Addr} {cap c1 c2 c3 ck cm ct cr : Nat} {T L : List (List Int)} {ks ms vs us : List Int} {ts : List Td} {rs : List (List Int)} {H : Heap} (hS : SlT H Is 9 (.slice A T.length cap) T) (hT9 : Nine T) (hm : T.length * 72 ≤ 140737488351232)
    (hk : SlT H e1 1 (.slice Ak ks.length ck) ks) (hmk : ks.length ≤ 9223372036854775807) (hr : SlT H e1 1 (.slice Am ms.length cm) ms) (hmr : ms.length ≤ 9223372036854775807)
    (hs : ScR H A1 c1 vs A2 c2 us A3 c3 L) (hvm : vs.length * 8 ≤ 140737488351232) (hum : us.length * 8 ≤ 140737488351232) (hmL : L.length * 72 ≤ 140737488351232) (hT : Tds H (.slice Aq ts.length ct) ts) (hR : SlT H Is 5 (.slice Ar rs.length cr) rs) (h5 : Five rs) (hrm : rs.length ≤ 9223372036854775807) :
    Ret Try.prog 7 [Ty A T.length cap, .slice Ak ks.length ck, .slice Am ms.length cm, ScV A1 vs.length c1 A2 us.length c2 A3 L.length c3, .slice Aq ts.length ct, .slice Ar rs.length cr] H (fun v H' => v = .bool true ∧ Ext H H') := by
  have hsO := hs
  have hlens : (cloV T ks).length ≤ 9223372036854775807 ∧ (cloR T ms).length ≤ 9223372036854775807 ∧ (cloT T).length ≤ 9223372036854775807 := clo_len T ks ms (by omega)
  refine Ret.of_at (N := 100) Try.call7 Try.func7 rfl rfl rfl ?_
  have hE := Ext.refl H
  refine At.region rfl rfl ?_
  refine Reg.op rfl rfl rfl rfl (Does.box rfl rfl) ?_
  rintro _ H0_0 ⟨rfl, hn0_0⟩
  have z0_0 := hn0_0.size
  replace hE := hE.ext hn0_0.ext
  have o0_0 := hn0_0.own
  refine Reg.op rfl rfl rfl rfl (Does.box rfl rfl) ?_
  rintro _ H0_1 ⟨rfl, hn0_1⟩
  have z0_1 := hn0_1.size
  replace hE := hE.ext hn0_1.ext
  replace o0_0 := o0_0.ext hn0_1.ext
  have o0_1 := hn0_1.own
  refine Reg.pur rfl rfl rfl rfl (Pur.asg rfl) ?_
  refine Reg.nil ?_
  refine At.region rfl rfl ?_
  refine Reg.lod rfl rfl rfl rfl (Lod.ldn ag25 rfl o0_0.blk (by first | exact whole rfl | rfl | (simp only [List.drop_succ_cons, List.drop_zero, List.take_succ_cons, List.take_zero]; rfl)) (by first | rfl | (simp [*]; done))) ?_
  refine Reg.op rfl rfl rfl rfl (Does.call rfl (copyType_ok hT9 (hS.ext hE) hm)) ?_
  rintro _ H1_1 ⟨B0, d0, rfl, ho0, hE1_1⟩
  have z1_1 := hE1_1.lt
  replace hE := hE.ext hE1_1
  replace o0_0 := o0_0.ext hE1_1
  replace o0_1 := o0_1.ext hE1_1
  have z_ho0 := ho0.lt
  refine Reg.op rfl rfl rfl rfl (Does.alloc zc25) ?_
  rintro _ H1_2 ⟨rfl, hn1_2⟩
  have z1_2 := hn1_2.size
  replace hE := hE.ext hn1_2.ext
  replace o0_0 := o0_0.ext hn1_2.ext
  replace o0_1 := o0_1.ext hn1_2.ext
  replace ho0 := ho0.ext hn1_2.ext
  have o1_2 := hn1_2.own
  refine Reg.op0 rfl rfl rfl (Does.stn ag25 rfl rfl (by first | rfl | exact ones_Is _) (by first | rfl | (simp [*]; done)) o1_2 (by first | decide | (simp; done) | (simp; omega) | omega)) ?_
  rintro _ H1_3 hu1_3
  have z1_3 := hu1_3.size
  replace hE := hE.upw hu1_3 (by omega)
  replace o0_0 := o0_0.upw hu1_3 (by omega)
  replace o0_1 := o0_1.upw hu1_3 (by omega)
  replace ho0 := ho0.upw hu1_3 (by omega)
  replace o1_2 := hu1_3.own
  first | rw [over (by first | rfl | (simp; done))] at o1_2 | skip
  refine Reg.nil ?_
  refine At.drawJ (σ := Option Addr × Nat × Option Addr × Nat × Option Addr × Nat × Nat) (fun (B1, d1, B2, d2, B3, d3, b14) => [(14, ptr b14 0), (6, ptr H.size 0), (9, ptr H0_0.size 0), (13, ptr H1_1.size 0), (1, .slice Ak ks.length ck), (2, .slice Am ms.length cm), (4, .slice Aq ts.length ct), (5, .slice Ar rs.length cr)]) (fun (B1, d1, B2, d2, B3, d3, b14) H' => ScR H' B1 d1 vs B2 d2 us B3 d3 L ∧ Own H' b14 [.slice B1 vs.length d1, .slice B2 us.length d2, .slice B3 L.length d3] ∧ SlT H' Is 9 (.slice B0 T.length d0) T ∧ Own H' H1_1.size [.slice B0 T.length d0] ∧ Own H' H.size [.slice A T.length cap] ∧ Own H' H0_0.size [.slice A1 vs.length c1, .slice A2 us.length c2, .slice A3 L.length c3] ∧ Ext H H') ((Bks.cons o0_1.blk Bks.nil)) [11] mixed rfl rfl ?_ (fun s H_r2 hs => ?_)
  · refine RegD.tpur (i := 0) rfl rfl rfl rfl (by kernel_rfl) (Pur.fld _ fo56_0 rfl) ?_
    refine RegD.take (i := 1) rfl rfl rfl rfl (by kernel_rfl) (Bks.cons o0_1.blk Bks.nil) (fun H hS => Lod.ld sc54 rfl hS.hd (by first | rfl | (simp; done))) ?_
    refine RegD.tpur (i := 3) rfl rfl rfl rfl (by kernel_rfl) (Pur.fld _ fo56_1 rfl) ?_
    refine RegD.take (i := 4) rfl rfl rfl rfl (by kernel_rfl) (Bks.cons o0_1.blk Bks.nil) (fun H hS => Lod.ld sc54 rfl hS.hd (by first | rfl | (simp; done))) ?_
    refine RegD.tpur (i := 6) rfl rfl rfl rfl (by kernel_rfl) (Pur.fld _ fo56_2 rfl) ?_
    refine RegD.take (i := 7) rfl rfl rfl rfl (by kernel_rfl) (Bks.cons o0_1.blk Bks.nil) (fun H hS => Lod.ldn ag25 rfl hS.hd (by first | exact whole rfl | rfl | (simp only [List.drop_succ_cons, List.drop_zero, List.take_succ_cons, List.take_zero]; rfl)) (by first | rfl | (simp [*]; done))) ?_
    refine RegD.fork2 (i := 2) (j := 10) (by kernel_rfl) ?_ ?_
    · refine RegOp.one (i := 2) rfl rfl rfl rfl (Does.call rfl (lendI_ok (hs.s1.ext hE) hvm)) ?_
      rintro _ H2_2 ⟨⟨B1, d1, rfl, hw1⟩, hE2_2⟩
      have z2_2 := hE2_2.lt
      replace hE := hE.ext hE2_2
      replace o0_0 := o0_0.ext hE2_2
      replace o0_1 := o0_1.ext hE2_2
      replace ho0 := ho0.ext hE2_2
      replace o1_2 := o1_2.ext hE2_2
      have z_hw1 := hw1.lt
      refine ⟨fun _ _ => (Bks.cons o0_1.blk Bks.nil), ?_⟩
      refine RegD.fork2 (i := 5) (j := 10) (by kernel_rfl) ?_ ?_
      · refine RegOp.one (i := 5) rfl rfl rfl rfl (Does.call rfl (lendI_ok (hs.s2.ext hE) hum)) ?_
        rintro _ H2_5 ⟨⟨B2, d2, rfl, hw2⟩, hE2_5⟩
        have z2_5 := hE2_5.lt
        replace hE := hE.ext hE2_5
        replace o0_0 := o0_0.ext hE2_5
        replace o0_1 := o0_1.ext hE2_5
        replace ho0 := ho0.ext hE2_5
        replace o1_2 := o1_2.ext hE2_5
        replace hw1 := hw1.ext hE2_5
        have z_hw2 := hw2.lt
        refine ⟨fun _ _ => (Bks.cons o0_1.blk Bks.nil), ?_⟩
        refine RegD.fork2 (i := 8) (j := 10) (by kernel_rfl) ?_ ?_
        · refine RegOp.one (i := 8) rfl rfl rfl rfl (Does.call rfl (copyType_ok hs.nine (hs.s3.ext hE) hmL)) ?_
          rintro _ H2_8 ⟨B3, d3, rfl, hw3, hE2_8⟩
          have z2_8 := hE2_8.lt
          replace hE := hE.ext hE2_8
          replace o0_0 := o0_0.ext hE2_8
          replace o0_1 := o0_1.ext hE2_8
          replace ho0 := ho0.ext hE2_8
          replace o1_2 := o1_2.ext hE2_8
          replace hw1 := hw1.ext hE2_8
          replace hw2 := hw2.ext hE2_8
          have z_hw3 := hw3.lt
          refine ⟨fun _ _ => (Bks.cons o0_1.blk Bks.nil), ?_⟩
          refine RegD.tpur (i := 9) rfl rfl rfl rfl (by kernel_rfl) (Pur.bld (cs := [_, _, _]) pl56 zc56 rfl rfl ⟨rfl, rfl, rfl, rfl⟩) ?_
          refine RegD.one (i := 10) (by kernel_rfl) rfl rfl rfl rfl (Does.alloc zc56) ?_
          rintro _ H2_10 ⟨rfl, hn2_10⟩
          have z2_10 := hn2_10.size
          replace hE := hE.ext hn2_10.ext
          replace o0_0 := o0_0.ext hn2_10.ext
          replace o0_1 := o0_1.ext hn2_10.ext
          replace ho0 := ho0.ext hn2_10.ext
          replace o1_2 := o1_2.ext hn2_10.ext
          replace hw1 := hw1.ext hn2_10.ext
          replace hw2 := hw2.ext hn2_10.ext
          replace hw3 := hw3.ext hn2_10.ext
          have hb14 := hn2_10.own
          refine ⟨fun _ _ => (Bks.cons o0_1.blk Bks.nil), ?_⟩
          refine RegD.one0 (i := 11) (by kernel_rfl) rfl rfl rfl (Does.stn ag56 rfl rfl (by first | rfl | exact ones_Is _) (by first | rfl | (simp [*]; done)) hb14 (by first | decide | (simp; done) | (simp; omega) | omega)) ?_
          rintro _ H2_11 hu2_11
          have z2_11 := hu2_11.size
          replace hE := hE.upw hu2_11 (by omega)
          replace o0_0 := o0_0.upw hu2_11 (by omega)
          replace o0_1 := o0_1.upw hu2_11 (by omega)
          replace ho0 := ho0.upw hu2_11 (by omega)
          replace o1_2 := o1_2.upw hu2_11 (by omega)
          replace hw1 := hw1.upw hu2_11 (by omega)
          replace hw2 := hw2.upw hu2_11 (by omega)
          replace hw3 := hw3.upw hu2_11 (by omega)
          replace hb14 := hu2_11.own
          first | rw [over (by first | rfl | (simp; done))] at hb14 | skip
          refine ⟨fun h => (by cases h), ?_⟩
          refine RegD.done (by kernel_rfl) ?_
          exact ⟨(B1, d1, B2, d2, B3, d3, _), ⟨⟨hw1.sl (wide1 _) (by decide), hw2.sl (wide1 _) (by decide), own_sl (wide9 hs.nine) (by decide) hw3, hs.nine⟩, hb14, own_sl (wide9 hT9) (by decide) ho0, o1_2, o0_0, o0_1, hE⟩, ⟨rfl, rfl, rfl, rfl, rfl, rfl, rfl, rfl, trivial⟩⟩
        · refine RegOp.one (i := 10) rfl rfl rfl rfl (Does.alloc zc56) ?_
          rintro _ H2_10 ⟨rfl, hn2_10⟩
          have z2_10 := hn2_10.size
          replace hE := hE.ext hn2_10.ext
          replace o0_0 := o0_0.ext hn2_10.ext
          replace o0_1 := o0_1.ext hn2_10.ext
          replace ho0 := ho0.ext hn2_10.ext
          replace o1_2 := o1_2.ext hn2_10.ext
          replace hw1 := hw1.ext hn2_10.ext
          replace hw2 := hw2.ext hn2_10.ext
          have hb14 := hn2_10.own
          refine ⟨fun _ _ => (Bks.cons o0_1.blk Bks.nil), ?_⟩
          refine RegD.one (i := 8) (by kernel_rfl) rfl rfl rfl rfl (Does.call rfl (copyType_ok hs.nine (hs.s3.ext hE) hmL)) ?_
          rintro _ H2_8 ⟨B3, d3, rfl, hw3, hE2_8⟩
          have z2_8 := hE2_8.lt
          replace hE := hE.ext hE2_8
          replace o0_0 := o0_0.ext hE2_8
          replace o0_1 := o0_1.ext hE2_8
          replace ho0 := ho0.ext hE2_8
          replace o1_2 := o1_2.ext hE2_8
          replace hw1 := hw1.ext hE2_8
          replace hw2 := hw2.ext hE2_8
          replace hb14 := hb14.ext hE2_8
          have z_hw3 := hw3.lt
          refine ⟨fun _ _ => (Bks.cons o0_1.blk Bks.nil), ?_⟩
          refine RegD.tpur (i := 9) rfl rfl rfl rfl (by kernel_rfl) (Pur.bld (cs := [_, _, _]) pl56 zc56 rfl rfl ⟨rfl, rfl, rfl, rfl⟩) ?_
          refine RegD.one0 (i := 11) (by kernel_rfl) rfl rfl rfl (Does.stn ag56 rfl rfl (by first | rfl | exact ones_Is _) (by first | rfl | (simp [*]; done)) hb14 (by first | decide | (simp; done) | (simp; omega) | omega)) ?_
          rintro _ H2_11 hu2_11
          have z2_11 := hu2_11.size
          replace hE := hE.upw hu2_11 (by omega)
          replace o0_0 := o0_0.upw hu2_11 (by omega)
          replace o0_1 := o0_1.upw hu2_11 (by omega)
          replace ho0 := ho0.upw hu2_11 (by omega)
          replace o1_2 := o1_2.upw hu2_11 (by omega)
          replace hw1 := hw1.upw hu2_11 (by omega)
          replace hw2 := hw2.upw hu2_11 (by omega)
          replace hw3 := hw3.upw hu2_11 (by omega)
          replace hb14 := hu2_11.own
          first | rw [over (by first | rfl | (simp; done))] at hb14 | skip
          refine ⟨fun h => (by cases h), ?_⟩
          refine RegD.done (by kernel_rfl) ?_
          exact ⟨(B1, d1, B2, d2, B3, d3, _), ⟨⟨hw1.sl (wide1 _) (by decide), hw2.sl (wide1 _) (by decide), own_sl (wide9 hs.nine) (by decide) hw3, hs.nine⟩, hb14, own_sl (wide9 hT9) (by decide) ho0, o1_2, o0_0, o0_1, hE⟩, ⟨rfl, rfl, rfl, rfl, rfl, rfl, rfl, rfl, trivial⟩⟩
      · refine RegOp.one (i := 10) rfl rfl rfl rfl (Does.alloc zc56) ?_
        rintro _ H2_10 ⟨rfl, hn2_10⟩
        have z2_10 := hn2_10.size
        replace hE := hE.ext hn2_10.ext
        replace o0_0 := o0_0.ext hn2_10.ext
        replace o0_1 := o0_1.ext hn2_10.ext
        replace ho0 := ho0.ext hn2_10.ext
        replace o1_2 := o1_2.ext hn2_10.ext
        replace hw1 := hw1.ext hn2_10.ext
        have hb14 := hn2_10.own
        refine ⟨fun _ _ => (Bks.cons o0_1.blk Bks.nil), ?_⟩
        refine RegD.one (i := 5) (by kernel_rfl) rfl rfl rfl rfl (Does.call rfl (lendI_ok (hs.s2.ext hE) hum)) ?_
        rintro _ H2_5 ⟨⟨B2, d2, rfl, hw2⟩, hE2_5⟩
        have z2_5 := hE2_5.lt
        replace hE := hE.ext hE2_5
        replace o0_0 := o0_0.ext hE2_5
        replace o0_1 := o0_1.ext hE2_5
        replace ho0 := ho0.ext hE2_5
        replace o1_2 := o1_2.ext hE2_5
        replace hw1 := hw1.ext hE2_5
        replace hb14 := hb14.ext hE2_5
        have z_hw2 := hw2.lt
        refine ⟨fun _ _ => (Bks.cons o0_1.blk Bks.nil), ?_⟩
        refine RegD.one (i := 8) (by kernel_rfl) rfl rfl rfl rfl (Does.call rfl (copyType_ok hs.nine (hs.s3.ext hE) hmL)) ?_
        rintro _ H2_8 ⟨B3, d3, rfl, hw3, hE2_8⟩
        have z2_8 := hE2_8.lt
        replace hE := hE.ext hE2_8
        replace o0_0 := o0_0.ext hE2_8
        replace o0_1 := o0_1.ext hE2_8
        replace ho0 := ho0.ext hE2_8
        replace o1_2 := o1_2.ext hE2_8
        replace hw1 := hw1.ext hE2_8
        replace hb14 := hb14.ext hE2_8
        replace hw2 := hw2.ext hE2_8
        have z_hw3 := hw3.lt
        refine ⟨fun _ _ => (Bks.cons o0_1.blk Bks.nil), ?_⟩
        refine RegD.tpur (i := 9) rfl rfl rfl rfl (by kernel_rfl) (Pur.bld (cs := [_, _, _]) pl56 zc56 rfl rfl ⟨rfl, rfl, rfl, rfl⟩) ?_
        refine RegD.one0 (i := 11) (by kernel_rfl) rfl rfl rfl (Does.stn ag56 rfl rfl (by first | rfl | exact ones_Is _) (by first | rfl | (simp [*]; done)) hb14 (by first | decide | (simp; done) | (simp; omega) | omega)) ?_
        rintro _ H2_11 hu2_11
        have z2_11 := hu2_11.size
        replace hE := hE.upw hu2_11 (by omega)
        replace o0_0 := o0_0.upw hu2_11 (by omega)
        replace o0_1 := o0_1.upw hu2_11 (by omega)
        replace ho0 := ho0.upw hu2_11 (by omega)
        replace o1_2 := o1_2.upw hu2_11 (by omega)
        replace hw1 := hw1.upw hu2_11 (by omega)
        replace hw2 := hw2.upw hu2_11 (by omega)
        replace hw3 := hw3.upw hu2_11 (by omega)
        replace hb14 := hu2_11.own
        first | rw [over (by first | rfl | (simp; done))] at hb14 | skip
        refine ⟨fun h => (by cases h), ?_⟩
        refine RegD.done (by kernel_rfl) ?_
        exact ⟨(B1, d1, B2, d2, B3, d3, _), ⟨⟨hw1.sl (wide1 _) (by decide), hw2.sl (wide1 _) (by decide), own_sl (wide9 hs.nine) (by decide) hw3, hs.nine⟩, hb14, own_sl (wide9 hT9) (by decide) ho0, o1_2, o0_0, o0_1, hE⟩, ⟨rfl, rfl, rfl, rfl, rfl, rfl, rfl, rfl, trivial⟩⟩
    · refine RegOp.one (i := 10) rfl rfl rfl rfl (Does.alloc zc56) ?_
      rintro _ H2_10 ⟨rfl, hn2_10⟩
      have z2_10 := hn2_10.size
      replace hE := hE.ext hn2_10.ext
      replace o0_0 := o0_0.ext hn2_10.ext
      replace o0_1 := o0_1.ext hn2_10.ext
      replace ho0 := ho0.ext hn2_10.ext
      replace o1_2 := o1_2.ext hn2_10.ext
      have hb14 := hn2_10.own
      refine ⟨fun _ _ => (Bks.cons o0_1.blk Bks.nil), ?_⟩
      refine RegD.one (i := 2) (by kernel_rfl) rfl rfl rfl rfl (Does.call rfl (lendI_ok (hs.s1.ext hE) hvm)) ?_
      rintro _ H2_2 ⟨⟨B1, d1, rfl, hw1⟩, hE2_2⟩
      have z2_2 := hE2_2.lt
      replace hE := hE.ext hE2_2
      replace o0_0 := o0_0.ext hE2_2
      replace o0_1 := o0_1.ext hE2_2
      replace ho0 := ho0.ext hE2_2
      replace o1_2 := o1_2.ext hE2_2
      replace hb14 := hb14.ext hE2_2
      have z_hw1 := hw1.lt
      refine ⟨fun _ _ => (Bks.cons o0_1.blk Bks.nil), ?_⟩
      refine RegD.one (i := 5) (by kernel_rfl) rfl rfl rfl rfl (Does.call rfl (lendI_ok (hs.s2.ext hE) hum)) ?_
      rintro _ H2_5 ⟨⟨B2, d2, rfl, hw2⟩, hE2_5⟩
      have z2_5 := hE2_5.lt
      replace hE := hE.ext hE2_5
      replace o0_0 := o0_0.ext hE2_5
      replace o0_1 := o0_1.ext hE2_5
      replace ho0 := ho0.ext hE2_5
      replace o1_2 := o1_2.ext hE2_5
      replace hb14 := hb14.ext hE2_5
      replace hw1 := hw1.ext hE2_5
      have z_hw2 := hw2.lt
      refine ⟨fun _ _ => (Bks.cons o0_1.blk Bks.nil), ?_⟩
      refine RegD.one (i := 8) (by kernel_rfl) rfl rfl rfl rfl (Does.call rfl (copyType_ok hs.nine (hs.s3.ext hE) hmL)) ?_
      rintro _ H2_8 ⟨B3, d3, rfl, hw3, hE2_8⟩
      have z2_8 := hE2_8.lt
      replace hE := hE.ext hE2_8
      replace o0_0 := o0_0.ext hE2_8
      replace o0_1 := o0_1.ext hE2_8
      replace ho0 := ho0.ext hE2_8
      replace o1_2 := o1_2.ext hE2_8
      replace hb14 := hb14.ext hE2_8
      replace hw1 := hw1.ext hE2_8
      replace hw2 := hw2.ext hE2_8
      have z_hw3 := hw3.lt
      refine ⟨fun _ _ => (Bks.cons o0_1.blk Bks.nil), ?_⟩
      refine RegD.tpur (i := 9) rfl rfl rfl rfl (by kernel_rfl) (Pur.bld (cs := [_, _, _]) pl56 zc56 rfl rfl ⟨rfl, rfl, rfl, rfl⟩) ?_
      refine RegD.one0 (i := 11) (by kernel_rfl) rfl rfl rfl (Does.stn ag56 rfl rfl (by first | rfl | exact ones_Is _) (by first | rfl | (simp [*]; done)) hb14 (by first | decide | (simp; done) | (simp; omega) | omega)) ?_
      rintro _ H2_11 hu2_11
      have z2_11 := hu2_11.size
      replace hE := hE.upw hu2_11 (by omega)
      replace o0_0 := o0_0.upw hu2_11 (by omega)
      replace o0_1 := o0_1.upw hu2_11 (by omega)
      replace ho0 := ho0.upw hu2_11 (by omega)
      replace o1_2 := o1_2.upw hu2_11 (by omega)
      replace hw1 := hw1.upw hu2_11 (by omega)
      replace hw2 := hw2.upw hu2_11 (by omega)
      replace hw3 := hw3.upw hu2_11 (by omega)
      replace hb14 := hu2_11.own
      first | rw [over (by first | rfl | (simp; done))] at hb14 | skip
      refine ⟨fun h => (by cases h), ?_⟩
      refine RegD.done (by kernel_rfl) ?_
      exact ⟨(B1, d1, B2, d2, B3, d3, _), ⟨⟨hw1.sl (wide1 _) (by decide), hw2.sl (wide1 _) (by decide), own_sl (wide9 hs.nine) (by decide) hw3, hs.nine⟩, hb14, own_sl (wide9 hT9) (by decide) ho0, o1_2, o0_0, o0_1, hE⟩, ⟨rfl, rfl, rfl, rfl, rfl, rfl, rfl, rfl, trivial⟩⟩
  · obtain ⟨B1, d1, B2, d2, B3, d3, b14⟩ := s
    obtain ⟨hy, hb14, hx, o1_2, o0_0, o0_1, hE⟩ := hs
    have z_hE := hE.lt
    have z_hb14 := hb14.lt
    have z_o1_2 := o1_2.lt
    have z_o0_0 := o0_0.lt
    have z_o0_1 := o0_1.lt
    have hE2 := Ext.refl H_r2
    have z_hE2 := hE2.lt
    refine At.region rfl rfl ?_
    refine Reg.lod rfl rfl rfl rfl (Lod.ldn ag25 rfl o1_2.blk rfl rfl) ?_
    refine Reg.pur rfl rfl rfl rfl (Pur.mv rfl) ?_
    refine Reg.pur rfl rfl rfl rfl (Pur.mv rfl) ?_
    refine Reg.op rfl rfl rfl rfl (Does.call rfl (close_ok hT9 (hx.ext hE2) hm (hk.ext hE) hmk (hr.ext hE) hmr)) ?_
    rintro _ H3_3 ⟨hE3_3, C1, f1, C2, f2, C3, f3, rfl, hca⟩
    have z3_3 := hE3_3.lt
    replace hE := hE.ext hE3_3
    replace hb14 := hb14.ext hE3_3
    replace o1_2 := o1_2.ext hE3_3
    replace o0_0 := o0_0.ext hE3_3
    replace o0_1 := o0_1.ext hE3_3
    replace hE2 := hE2.ext hE3_3
    have zc1 := hca.g1.lt
    have zc2 := hca.g2.lt
    have zc3 := hca.g3.lt
    have hE3 := Ext.refl H3_3
    have z_hE3 := hE3.lt
    refine Reg.pur rfl rfl rfl rfl (Pur.mv rfl) ?_
    refine Reg.pur rfl rfl rfl rfl (Pur.ext rfl rfl) ?_
    refine Reg.pur rfl rfl rfl rfl (Pur.ext rfl rfl) ?_
    refine Reg.op rfl rfl rfl rfl (Does.alloc zc56) ?_
    rintro _ H3_7 ⟨rfl, hn3_7⟩
    have z3_7 := hn3_7.size
    replace hE := hE.ext hn3_7.ext
    replace hb14 := hb14.ext hn3_7.ext
    replace o1_2 := o1_2.ext hn3_7.ext
    replace o0_0 := o0_0.ext hn3_7.ext
    replace o0_1 := o0_1.ext hn3_7.ext
    replace hE2 := hE2.ext hn3_7.ext
    replace hE3 := hE3.ext hn3_7.ext
    have o3_7 := hn3_7.own
    refine Reg.op0 rfl rfl rfl (Does.stn ag56 rfl rfl (by first | rfl | exact ones_Is _) (by first | rfl | (simp [*]; done)) o3_7 (by first | decide | (simp; done) | (simp; omega) | omega)) ?_
    rintro _ H3_8 hu3_8
    have z3_8 := hu3_8.size
    replace hE := hE.upw hu3_8 (by omega)
    replace hb14 := hb14.upw hu3_8 (by omega)
    replace o1_2 := o1_2.upw hu3_8 (by omega)
    replace o0_0 := o0_0.upw hu3_8 (by omega)
    replace o0_1 := o0_1.upw hu3_8 (by omega)
    replace hE2 := hE2.upw hu3_8 (by omega)
    replace hE3 := hE3.upw hu3_8 (by omega)
    replace o3_7 := hu3_8.own
    first | rw [over (by first | rfl | (simp; done))] at o3_7 | skip
    refine Reg.pur rfl rfl rfl rfl (Pur.asg rfl) ?_
    refine Reg.nil ?_
    refine At.region rfl rfl ?_
    refine Reg.lod rfl rfl rfl rfl (Lod.ldn ag25 rfl o0_0.blk (by first | exact whole rfl | rfl | (simp only [List.drop_succ_cons, List.drop_zero, List.take_succ_cons, List.take_zero]; rfl)) (by first | rfl | (simp [*]; done))) ?_
    refine Reg.pur rfl rfl rfl rfl (Pur.mv rfl) ?_
    refine Reg.pur rfl rfl rfl rfl (Pur.mv rfl) ?_
    refine Reg.op rfl rfl rfl rfl (Does.call rfl (closeR_ok hT9 (hS.ext hE) hm (hk.ext hE) hmk (hr.ext hE) hmr)) ?_
    rintro _ H4_3 ⟨hE4_3, D1, g1, D2, g2, D3, g3, rfl, hcb⟩
    have z4_3 := hE4_3.lt
    replace hE := hE.ext hE4_3
    replace hb14 := hb14.ext hE4_3
    replace o1_2 := o1_2.ext hE4_3
    replace o0_0 := o0_0.ext hE4_3
    replace o0_1 := o0_1.ext hE4_3
    replace hE2 := hE2.ext hE4_3
    replace hE3 := hE3.ext hE4_3
    replace o3_7 := o3_7.ext hE4_3
    have hE4 := Ext.refl H4_3
    have z_hE4 := hE4.lt
    refine Reg.pur rfl rfl rfl rfl (Pur.mv rfl) ?_
    refine Reg.pur rfl rfl rfl rfl (Pur.ext rfl rfl) ?_
    refine Reg.pur rfl rfl rfl rfl (Pur.ext rfl rfl) ?_
    refine Reg.op rfl rfl rfl rfl (Does.alloc zc56) ?_
    rintro _ H4_7 ⟨rfl, hn4_7⟩
    have z4_7 := hn4_7.size
    replace hE := hE.ext hn4_7.ext
    replace hb14 := hb14.ext hn4_7.ext
    replace o1_2 := o1_2.ext hn4_7.ext
    replace o0_0 := o0_0.ext hn4_7.ext
    replace o0_1 := o0_1.ext hn4_7.ext
    replace hE2 := hE2.ext hn4_7.ext
    replace hE3 := hE3.ext hn4_7.ext
    replace o3_7 := o3_7.ext hn4_7.ext
    replace hE4 := hE4.ext hn4_7.ext
    have o4_7 := hn4_7.own
    refine Reg.op0 rfl rfl rfl (Does.stn ag56 rfl rfl (by first | rfl | exact ones_Is _) (by first | rfl | (simp [*]; done)) o4_7 (by first | decide | (simp; done) | (simp; omega) | omega)) ?_
    rintro _ H4_8 hu4_8
    have z4_8 := hu4_8.size
    replace hE := hE.upw hu4_8 (by omega)
    replace hb14 := hb14.upw hu4_8 (by omega)
    replace o1_2 := o1_2.upw hu4_8 (by omega)
    replace o0_0 := o0_0.upw hu4_8 (by omega)
    replace o0_1 := o0_1.upw hu4_8 (by omega)
    replace hE2 := hE2.upw hu4_8 (by omega)
    replace hE3 := hE3.upw hu4_8 (by omega)
    replace o3_7 := o3_7.upw hu4_8 (by omega)
    replace hE4 := hE4.upw hu4_8 (by omega)
    replace o4_7 := hu4_8.own
    first | rw [over (by first | rfl | (simp; done))] at o4_7 | skip
    refine Reg.pur rfl rfl rfl rfl (Pur.asg rfl) ?_
    refine Reg.nil ?_
    refine At.region rfl rfl ?_
    refine Reg.lod rfl rfl rfl rfl (Lod.ldn ag56 rfl hb14.blk (whole rfl) rfl) ?_
    refine Reg.pur rfl rfl rfl rfl (Pur.mv rfl) ?_
    refine Reg.pur rfl rfl rfl rfl (Pur.mv rfl) ?_
    refine Reg.op rfl rfl rfl rfl (Does.call rfl (take_ok (hy.ext hE2) ⟨by omega, by omega⟩ hmL (hT.ext hE) (hR.ext hE) h5 hrm)) ?_
    rintro v5_3 H5_3 ⟨hE5_3, hTv5_3⟩
    have z5_3 := hE5_3.lt
    replace hE := hE.ext hE5_3
    replace hb14 := hb14.ext hE5_3
    replace o1_2 := o1_2.ext hE5_3
    replace o0_0 := o0_0.ext hE5_3
    replace o0_1 := o0_1.ext hE5_3
    replace hE2 := hE2.ext hE5_3
    replace hE3 := hE3.ext hE5_3
    replace o3_7 := o3_7.ext hE5_3
    replace hE4 := hE4.ext hE5_3
    replace o4_7 := o4_7.ext hE5_3
    obtain ⟨C4, cap4, rfl, ho4, hN4, hl4⟩ := hTv5_3
    have z_ho4 := ho4.lt
    refine Reg.pur rfl rfl rfl rfl (Pur.mv rfl) ?_
    refine Reg.pur rfl rfl rfl rfl (Pur.ext rfl rfl) ?_
    refine Reg.pur rfl rfl rfl rfl (Pur.ext rfl rfl) ?_
    refine Reg.op rfl rfl rfl rfl (Does.alloc zc25) ?_
    rintro _ H5_7 ⟨rfl, hn5_7⟩
    have z5_7 := hn5_7.size
    replace hE := hE.ext hn5_7.ext
    replace hb14 := hb14.ext hn5_7.ext
    replace o1_2 := o1_2.ext hn5_7.ext
    replace o0_0 := o0_0.ext hn5_7.ext
    replace o0_1 := o0_1.ext hn5_7.ext
    replace hE2 := hE2.ext hn5_7.ext
    replace hE3 := hE3.ext hn5_7.ext
    replace o3_7 := o3_7.ext hn5_7.ext
    replace hE4 := hE4.ext hn5_7.ext
    replace o4_7 := o4_7.ext hn5_7.ext
    replace ho4 := ho4.ext hn5_7.ext
    have o5_7 := hn5_7.own
    refine Reg.op0 rfl rfl rfl (Does.stn ag25 rfl rfl (by first | rfl | exact ones_Is _) (by first | rfl | (simp [*]; done)) o5_7 (by first | decide | (simp; done) | (simp; omega) | omega)) ?_
    rintro _ H5_8 hu5_8
    have z5_8 := hu5_8.size
    replace hE := hE.upw hu5_8 (by omega)
    replace hb14 := hb14.upw hu5_8 (by omega)
    replace o1_2 := o1_2.upw hu5_8 (by omega)
    replace o0_0 := o0_0.upw hu5_8 (by omega)
    replace o0_1 := o0_1.upw hu5_8 (by omega)
    replace hE2 := hE2.upw hu5_8 (by omega)
    replace hE3 := hE3.upw hu5_8 (by omega)
    replace o3_7 := o3_7.upw hu5_8 (by omega)
    replace hE4 := hE4.upw hu5_8 (by omega)
    replace o4_7 := o4_7.upw hu5_8 (by omega)
    replace ho4 := ho4.upw hu5_8 (by omega)
    replace o5_7 := hu5_8.own
    first | rw [over (by first | rfl | (simp; done))] at o5_7 | skip
    refine Reg.pur rfl rfl rfl rfl (Pur.asg rfl) ?_
    refine Reg.nil ?_
    refine At.region rfl rfl ?_
    refine Reg.lod rfl rfl rfl rfl (Lod.ldn ag56 rfl o0_1.blk (by first | exact whole rfl | rfl | (simp only [List.drop_succ_cons, List.drop_zero, List.take_succ_cons, List.take_zero]; rfl)) (by first | rfl | (simp [*]; done))) ?_
    refine Reg.pur rfl rfl rfl rfl (Pur.mv rfl) ?_
    refine Reg.pur rfl rfl rfl rfl (Pur.mv rfl) ?_
    refine Reg.op rfl rfl rfl rfl (Does.call rfl (takeR_ok (hsO.ext hE) ⟨by omega, by omega⟩ hmL (hT.ext hE) (hR.ext hE) h5 hrm)) ?_
    rintro v6_3 H6_3 ⟨hE6_3, hTv6_3⟩
    have z6_3 := hE6_3.lt
    replace hE := hE.ext hE6_3
    replace hb14 := hb14.ext hE6_3
    replace o1_2 := o1_2.ext hE6_3
    replace o0_0 := o0_0.ext hE6_3
    replace o0_1 := o0_1.ext hE6_3
    replace hE2 := hE2.ext hE6_3
    replace hE3 := hE3.ext hE6_3
    replace o3_7 := o3_7.ext hE6_3
    replace hE4 := hE4.ext hE6_3
    replace o4_7 := o4_7.ext hE6_3
    replace ho4 := ho4.ext hE6_3
    replace o5_7 := o5_7.ext hE6_3
    obtain ⟨C5, cap5, rfl, ho5, hN5, hl5⟩ := hTv6_3
    have z_ho5 := ho5.lt
    refine Reg.pur rfl rfl rfl rfl (Pur.mv rfl) ?_
    refine Reg.pur rfl rfl rfl rfl (Pur.ext rfl rfl) ?_
    refine Reg.pur rfl rfl rfl rfl (Pur.ext rfl rfl) ?_
    refine Reg.op rfl rfl rfl rfl (Does.alloc zc25) ?_
    rintro _ H6_7 ⟨rfl, hn6_7⟩
    have z6_7 := hn6_7.size
    replace hE := hE.ext hn6_7.ext
    replace hb14 := hb14.ext hn6_7.ext
    replace o1_2 := o1_2.ext hn6_7.ext
    replace o0_0 := o0_0.ext hn6_7.ext
    replace o0_1 := o0_1.ext hn6_7.ext
    replace hE2 := hE2.ext hn6_7.ext
    replace hE3 := hE3.ext hn6_7.ext
    replace o3_7 := o3_7.ext hn6_7.ext
    replace hE4 := hE4.ext hn6_7.ext
    replace o4_7 := o4_7.ext hn6_7.ext
    replace ho4 := ho4.ext hn6_7.ext
    replace o5_7 := o5_7.ext hn6_7.ext
    replace ho5 := ho5.ext hn6_7.ext
    have o6_7 := hn6_7.own
    refine Reg.op0 rfl rfl rfl (Does.stn ag25 rfl rfl (by first | rfl | exact ones_Is _) (by first | rfl | (simp [*]; done)) o6_7 (by first | decide | (simp; done) | (simp; omega) | omega)) ?_
    rintro _ H6_8 hu6_8
    have z6_8 := hu6_8.size
    replace hE := hE.upw hu6_8 (by omega)
    replace hb14 := hb14.upw hu6_8 (by omega)
    replace o1_2 := o1_2.upw hu6_8 (by omega)
    replace o0_0 := o0_0.upw hu6_8 (by omega)
    replace o0_1 := o0_1.upw hu6_8 (by omega)
    replace hE2 := hE2.upw hu6_8 (by omega)
    replace hE3 := hE3.upw hu6_8 (by omega)
    replace o3_7 := o3_7.upw hu6_8 (by omega)
    replace hE4 := hE4.upw hu6_8 (by omega)
    replace o4_7 := o4_7.upw hu6_8 (by omega)
    replace ho4 := ho4.upw hu6_8 (by omega)
    replace o5_7 := o5_7.upw hu6_8 (by omega)
    replace ho5 := ho5.upw hu6_8 (by omega)
    replace o6_7 := hu6_8.own
    first | rw [over (by first | rfl | (simp; done))] at o6_7 | skip
    refine Reg.pur rfl rfl rfl rfl (Pur.asg rfl) ?_
    refine Reg.nil ?_
    refine At.region rfl rfl ?_
    refine Reg.lod rfl rfl rfl rfl (Lod.ldn ag56 rfl o3_7.blk (by first | exact whole rfl | rfl | (simp only [List.drop_succ_cons, List.drop_zero, List.take_succ_cons, List.take_zero]; rfl)) (by first | rfl | (simp [*]; done))) ?_
    refine Reg.lod rfl rfl rfl rfl (Lod.ldn ag56 rfl o4_7.blk (by first | exact whole rfl | rfl | (simp only [List.drop_succ_cons, List.drop_zero, List.take_succ_cons, List.take_zero]; rfl)) (by first | rfl | (simp [*]; done))) ?_
    refine Reg.op rfl rfl rfl rfl (Does.call rfl (sameScheme_ok (hca.r.ext hE3) (hcb.r.ext hE4) hlens)) ?_
    rintro _ H7_2 ⟨rfl, hE7_2⟩
    have z7_2 := hE7_2.lt
    replace hE := hE.ext hE7_2
    replace hb14 := hb14.ext hE7_2
    replace o1_2 := o1_2.ext hE7_2
    replace o0_0 := o0_0.ext hE7_2
    replace o0_1 := o0_1.ext hE7_2
    replace hE2 := hE2.ext hE7_2
    replace hE3 := hE3.ext hE7_2
    replace o3_7 := o3_7.ext hE7_2
    replace hE4 := hE4.ext hE7_2
    replace o4_7 := o4_7.ext hE7_2
    replace ho4 := ho4.ext hE7_2
    replace o5_7 := o5_7.ext hE7_2
    replace ho5 := ho5.ext hE7_2
    replace o6_7 := o6_7.ext hE7_2
    refine Reg.pur rfl rfl rfl rfl (Pur.not rfl) ?_
    refine Reg.pur rfl rfl rfl rfl (Pur.mv rfl) ?_
    refine Reg.known (b' := false) 67 rfl (by simp) ?_
    refine Reg.gpur rfl rfl rfl rfl rfl rfl (Pur.mv rfl) ?_
    refine Reg.gop rfl rfl rfl rfl rfl rfl (Does.call rfl (numE_ok _ _)) ?_
    rintro _ H7_2 ⟨rfl, rfl⟩
    refine Reg.gpur rfl rfl rfl rfl rfl rfl (Pur.mv rfl) ?_
    refine Reg.gpur rfl rfl rfl rfl rfl rfl (Pur.neq rfl rfl) ?_
    refine Reg.pur rfl rfl rfl rfl (Pur.pickF rfl rfl) ?_
    refine Reg.pur rfl rfl rfl rfl (Pur.mv rfl) ?_
    refine Reg.known (b' := false) 73 rfl (by simp) ?_
    refine Reg.glod rfl rfl rfl rfl rfl rfl (Lod.ldn ag25 rfl o5_7.blk (by first | exact whole rfl | rfl | (simp only [List.drop_succ_cons, List.drop_zero, List.take_succ_cons, List.take_zero]; rfl)) (by first | rfl | (simp [*]; done))) ?_
    refine Reg.glod rfl rfl rfl rfl rfl rfl (Lod.ldn ag25 rfl o6_7.blk (by first | exact whole rfl | rfl | (simp only [List.drop_succ_cons, List.drop_zero, List.take_succ_cons, List.take_zero]; rfl)) (by first | rfl | (simp [*]; done))) ?_
    refine Reg.gop rfl rfl rfl rfl rfl rfl (Does.call rfl (sameType_ok hN4 hN5 (own_sl (wide9 hN4) (by decide) ho4) (own_sl (wide9 hN5) (by decide) ho5) (by omega))) ?_
    rintro _ H7_13 ⟨rfl, hE7_13⟩
    have z7_13 := hE7_13.lt
    replace hE := hE.ext hE7_13
    replace hb14 := hb14.ext hE7_13
    replace o1_2 := o1_2.ext hE7_13
    replace o0_0 := o0_0.ext hE7_13
    replace o0_1 := o0_1.ext hE7_13
    replace hE2 := hE2.ext hE7_13
    replace hE3 := hE3.ext hE7_13
    replace o3_7 := o3_7.ext hE7_13
    replace hE4 := hE4.ext hE7_13
    replace o4_7 := o4_7.ext hE7_13
    replace ho4 := ho4.ext hE7_13
    replace o5_7 := o5_7.ext hE7_13
    replace ho5 := ho5.ext hE7_13
    replace o6_7 := o6_7.ext hE7_13
    refine Reg.gpur rfl rfl rfl rfl rfl rfl (Pur.not rfl) ?_
    refine Reg.pur rfl rfl rfl rfl (Pur.pickF rfl rfl) ?_
    refine Reg.pur rfl rfl rfl rfl (Pur.mv rfl) ?_
    refine Reg.known (b' := false) 79 rfl (by simp) ?_
    refine Reg.gpur rfl rfl rfl rfl rfl rfl (Pur.mv rfl) ?_
    refine Reg.gop rfl rfl rfl rfl rfl rfl (Does.call rfl (numE_ok _ _)) ?_
    rintro _ H7_13 ⟨rfl, rfl⟩
    refine Reg.gpur rfl rfl rfl rfl rfl rfl (Pur.mv rfl) ?_
    refine Reg.gpur rfl rfl rfl rfl rfl rfl (Pur.neq rfl rfl) ?_
    refine Reg.pur rfl rfl rfl rfl (Pur.pickF rfl rfl) ?_
    refine Reg.nil ?_
    refine At.condF rfl rfl (by simp) ?_
    refine At.region rfl rfl ?_
    refine Reg.lod rfl rfl rfl rfl (Lod.ldn ag56 rfl o3_7.blk (by first | exact whole rfl | rfl | (simp only [List.drop_succ_cons, List.drop_zero, List.take_succ_cons, List.take_zero]; rfl)) (by first | rfl | (simp [*]; done))) ?_

    refine Reg.op rfl rfl rfl rfl (Does.call rfl (spoilScheme_ok (hca.ext hE3) hlens)) ?_
    rintro _ H9_1 hbut9_1
    have z9_1 := hbut9_1.lt
    replace hE := hE.via hbut9_1 (by first | omega | (intro g; omega) | (intro g hg; omega) | (intro g hg h; omega))
    replace hb14 := hb14.via hbut9_1 (by first | omega | (intro g; omega) | (intro g hg; omega) | (intro g hg h; omega))
    replace o1_2 := o1_2.via hbut9_1 (by first | omega | (intro g; omega) | (intro g hg; omega) | (intro g hg h; omega))
    replace o0_0 := o0_0.via hbut9_1 (by first | omega | (intro g; omega) | (intro g hg; omega) | (intro g hg h; omega))
    replace o0_1 := o0_1.via hbut9_1 (by first | omega | (intro g; omega) | (intro g hg; omega) | (intro g hg h; omega))
    replace hE2 := hE2.via hbut9_1 (by first | omega | (intro g; omega) | (intro g hg; omega) | (intro g hg h; omega))
    replace o3_7 := o3_7.via hbut9_1 (by first | omega | (intro g; omega) | (intro g hg; omega) | (intro g hg h; omega))
    replace o4_7 := o4_7.via hbut9_1 (by first | omega | (intro g; omega) | (intro g hg; omega) | (intro g hg h; omega))
    replace ho4 := ho4.via hbut9_1 (by first | omega | (intro g; omega) | (intro g hg; omega) | (intro g hg h; omega))
    replace o5_7 := o5_7.via hbut9_1 (by first | omega | (intro g; omega) | (intro g hg; omega) | (intro g hg h; omega))
    replace o6_7 := o6_7.via hbut9_1 (by first | omega | (intro g; omega) | (intro g hg; omega) | (intro g hg h; omega))
    refine Reg.nil ?_
    refine At.region rfl rfl ?_
    refine Reg.lod rfl rfl rfl rfl (Lod.ldn ag25 rfl o5_7.blk (by first | exact whole rfl | rfl | (simp only [List.drop_succ_cons, List.drop_zero, List.take_succ_cons, List.take_zero]; rfl)) (by first | rfl | (simp [*]; done))) ?_

    refine Reg.op rfl rfl rfl rfl (Does.call rfl (spoilO_ok hN4 (by omega) ho4)) ?_
    rintro _ H10_1 hbut10_1
    have z10_1 := hbut10_1.lt
    replace hE := hE.via hbut10_1 (by first | omega | (intro g; omega) | (intro g hg; omega) | (intro g hg h; omega))
    replace hb14 := hb14.via hbut10_1 (by first | omega | (intro g; omega) | (intro g hg; omega) | (intro g hg h; omega))
    replace o1_2 := o1_2.via hbut10_1 (by first | omega | (intro g; omega) | (intro g hg; omega) | (intro g hg h; omega))
    replace o0_0 := o0_0.via hbut10_1 (by first | omega | (intro g; omega) | (intro g hg; omega) | (intro g hg h; omega))
    replace o0_1 := o0_1.via hbut10_1 (by first | omega | (intro g; omega) | (intro g hg; omega) | (intro g hg h; omega))
    replace hE2 := hE2.via hbut10_1 (by first | omega | (intro g; omega) | (intro g hg; omega) | (intro g hg h; omega))
    replace o3_7 := o3_7.via hbut10_1 (by first | omega | (intro g; omega) | (intro g hg; omega) | (intro g hg h; omega))
    replace o4_7 := o4_7.via hbut10_1 (by first | omega | (intro g; omega) | (intro g hg; omega) | (intro g hg h; omega))
    replace o5_7 := o5_7.via hbut10_1 (by first | omega | (intro g; omega) | (intro g hg; omega) | (intro g hg h; omega))
    replace o6_7 := o6_7.via hbut10_1 (by first | omega | (intro g; omega) | (intro g hg; omega) | (intro g hg h; omega))
    refine Reg.nil ?_
    refine At.region rfl rfl ?_
    refine Reg.lod rfl rfl rfl rfl (Lod.ldn ag25 rfl o1_2.blk rfl rfl) ?_
    refine Reg.lod rfl rfl rfl rfl (Lod.ldn ag25 rfl o0_0.blk (by first | exact whole rfl | rfl | (simp only [List.drop_succ_cons, List.drop_zero, List.take_succ_cons, List.take_zero]; rfl)) (by first | rfl | (simp [*]; done))) ?_
    refine Reg.op rfl rfl rfl rfl (Does.call rfl (sameType_ok hT9 hT9 (hx.ext hE2) (hS.ext hE) (by omega))) ?_
    rintro _ H11_2 ⟨rfl, hE11_2⟩
    have z11_2 := hE11_2.lt
    replace hE := hE.ext hE11_2
    replace hb14 := hb14.ext hE11_2
    replace o1_2 := o1_2.ext hE11_2
    replace o0_0 := o0_0.ext hE11_2
    replace o0_1 := o0_1.ext hE11_2
    replace hE2 := hE2.ext hE11_2
    replace o3_7 := o3_7.ext hE11_2
    replace o4_7 := o4_7.ext hE11_2
    replace o5_7 := o5_7.ext hE11_2
    replace o6_7 := o6_7.ext hE11_2
    refine Reg.pur rfl rfl rfl rfl (Pur.mv rfl) ?_
    refine Reg.known (b' := true) 92 rfl (by simp) ?_
    refine Reg.glod rfl rfl rfl rfl rfl rfl (Lod.ldn ag56 rfl hb14.blk (whole rfl) rfl) ?_
    refine Reg.glod rfl rfl rfl rfl rfl rfl (Lod.ldn ag56 rfl o0_1.blk (by first | exact whole rfl | rfl | (simp only [List.drop_succ_cons, List.drop_zero, List.take_succ_cons, List.take_zero]; rfl)) (by first | rfl | (simp [*]; done))) ?_
    refine Reg.gop rfl rfl rfl rfl rfl rfl (Does.call rfl (sameScheme_ok (hy.ext hE2) (hsO.ext hE) ⟨by omega, by omega, by omega⟩)) ?_
    rintro _ H11_6 ⟨rfl, hE11_6⟩
    have z11_6 := hE11_6.lt
    replace hE := hE.ext hE11_6
    replace hb14 := hb14.ext hE11_6
    replace o1_2 := o1_2.ext hE11_6
    replace o0_0 := o0_0.ext hE11_6
    replace o0_1 := o0_1.ext hE11_6
    replace hE2 := hE2.ext hE11_6
    replace o3_7 := o3_7.ext hE11_6
    replace o4_7 := o4_7.ext hE11_6
    replace o5_7 := o5_7.ext hE11_6
    replace o6_7 := o6_7.ext hE11_6
    refine Reg.pur rfl rfl rfl rfl (Pur.pickT rfl rfl) ?_
    refine Reg.pur rfl rfl rfl rfl (Pur.mv rfl) ?_
    refine Reg.known (b' := true) 97 rfl (by simp) ?_
    refine Reg.gop rfl rfl rfl rfl rfl rfl (Does.call rfl (awake12_ok _)) ?_
    rintro _ H11_9 ⟨rfl, hE11_9⟩
    have z11_9 := hE11_9.lt
    replace hE := hE.ext hE11_9
    replace hb14 := hb14.ext hE11_9
    replace o1_2 := o1_2.ext hE11_9
    replace o0_0 := o0_0.ext hE11_9
    replace o0_1 := o0_1.ext hE11_9
    replace hE2 := hE2.ext hE11_9
    replace o3_7 := o3_7.ext hE11_9
    replace o4_7 := o4_7.ext hE11_9
    replace o5_7 := o5_7.ext hE11_9
    replace o6_7 := o6_7.ext hE11_9
    refine Reg.pur rfl rfl rfl rfl (Pur.pickT rfl rfl) ?_
    refine Reg.pur rfl rfl rfl rfl (Pur.asg rfl) ?_
    refine Reg.nil ?_
    refine At.ret rfl Try.func7 rfl ?_
    exact ⟨rfl, hE⟩
end Go.Proofs.Ytlfillhffpiffaa

/-
  Chapter 12: what is kept.
-/
namespace Go.Proofs.Ytlfillhffpiffaa
set_option linter.unusedSimpArgs false
set_option linter.unusedVariables false
set_option maxRecDepth 8000
set_option maxHeartbeats 1000000
open Go Go.Fx Go.Proofs
namespace FactsSchQ
theorem ag25 : ag Try.prog 25 = some 1 := by kernel_rfl
theorem ag56 : ag Try.prog 56 = some 3 := by kernel_rfl
theorem apt54 : appT Try.prog 54 = some (3, 1, 8) := by kernel_rfl
theorem es54 : esz Try.prog 54 = some 1 := by kernel_rfl
theorem fo25_0 : foff Try.prog 25 0 = some 0 := by kernel_rfl
theorem fo56_0 : foff Try.prog 56 0 = some 0 := by kernel_rfl
theorem fo56_1 : foff Try.prog 56 1 = some 1 := by kernel_rfl
theorem fo56_2 : foff Try.prog 56 2 = some 2 := by kernel_rfl
theorem isl23 : isSl Try.prog 23 = true := by kernel_rfl
theorem isl54 : isSl Try.prog 54 = true := by kernel_rfl
theorem mixed : Try.prog.follows .mixedOrders = true := by kernel_rfl
theorem sc23 : sc Try.prog 23 = true := by kernel_rfl
theorem sc3 : sc Try.prog 3 = true := by kernel_rfl
theorem sc54 : sc Try.prog 54 = true := by kernel_rfl
theorem sl1_54 : sl1 Try.prog 54 = true := by kernel_rfl
theorem zc56 : zc Try.prog 56 = some [.slice none 0 0, .slice none 0 0, .slice none 0 0] := by kernel_rfl
end FactsSchQ
open FactsSchQ

theorem inL_any (k : List Int) (v : Int) : inL k v = k.any (fun x => decide (x = v)) := by
  rw [Bool.eq_iff_iff, inL_mem, List.any_eq_true]
  constructor
  · intro h; exact ⟨v, h, by simp⟩
  · rintro ⟨x, h, e⟩; have : x = v := by simpa using e
    subst this; exact h
theorem any_take1 {α : Type} {L : List α} {p : α → Bool} {i : Nat} (hi : i < L.length) : (L.take (i + 1)).any p = ((L.take i).any p || p L[i]) := by
  rw [List.take_succ_eq_append_getElem hi, List.any_append]; simp

theorem less_ok {A A2 : Option Addr} {cap cap2 : Nat} (l k : List Int) {H : Heap} (hS : SlT H e1 1 (.slice A l.length cap) l) (hk : SlT H e1 1 (.slice A2 k.length cap2) k) (hm : l.length * 8 ≤ 140737488351232) (hmk : k.length ≤ 9223372036854775807) :
    Ret Try.prog 39 [.slice A l.length cap, .slice A2 k.length cap2] H (fun r H' => (∃ A' cap', r = .slice A' (wo l k).length cap' ∧ Gs H' H.size 3 1 A' cap' (wo l k).length ((wo l k).flatMap e1)) ∧ Ext H H') := by
  refine Ret.of_at (N := 43) Try.call39 Try.func39 rfl rfl rfl ?_
  have hE := Ext.refl H
  refine At.region rfl rfl ?_
  refine Reg.pur rfl rfl rfl rfl (Pur.asg rfl) ?_
  refine Reg.nil ?_
  refine At.region rfl rfl ?_
  refine Reg.pur rfl rfl rfl rfl (Pur.asg rfl) ?_
  refine Reg.nil ?_
  refine At.region rfl rfl ?_
  refine Reg.pur rfl rfl rfl rfl (Pur.asg rfl) ?_
  refine Reg.nil ?_
  refine At.loop (σ := Nat × List Int × Option Addr × Nat) (fun (i, out, A', cap') => [(6, I i), (5, .slice A' out.length cap'), (0, .slice A l.length cap), (1, .slice A2 k.length cap2)]) (fun (i, out, A', cap') H' => i ≤ l.length ∧ out = wo (l.take i) k ∧ Gs H' H.size 3 1 A' cap' out.length (out.flatMap e1) ∧ Ext H H') (fun s => l.length - s.1) (0, [], none, 0) rfl ⟨rfl, rfl, rfl, rfl, trivial⟩ ⟨by omega, rfl, OwnS.nilG, hE⟩ ?_
  rintro ⟨i, out, A', cap'⟩ H3 ⟨hi, hout, hg, hE⟩ ih
  dsimp only at hi hout hg ⊢
  have z_hE := hE.lt
  have z_hg := hg.lt
  have hol : out.length ≤ i := by rw [hout]; exact wo_len hi
  refine At.region rfl rfl ?_
  refine Reg.pur rfl rfl rfl rfl (Pur.mv rfl) ?_
  refine Reg.pur rfl rfl rfl rfl (Pur.mv rfl) ?_
  refine Reg.pur rfl rfl rfl rfl (Pur.lenS isl54 rfl) ?_
  refine Reg.pur rfl rfl rfl rfl (Pur.lss rfl rfl) ?_
  refine Reg.nil ?_
  refine At.cond rfl rfl (fun q12 => ?_) (fun q12 => ?_)
  · first | (simp only [decide_eq_true_eq, decide_eq_false_iff_not, Bool.not_eq_true', Bool.not_eq_false', ne_eq, Decidable.not_not, Bool.not_eq_true, Bool.not_eq_false] at q12) | (dsimp only at q12) | skip
    have hlt : i < l.length := by omega
    obtain ⟨b, o, c, rfl, hB, hc⟩ := int_at (hS.ext hE) hlt
    have hnx := wo_take (k := k) hlt
    rw [← hout, inL_any] at hnx
    generalize l[i] = x at hc hnx
    refine At.region rfl rfl ?_
    refine Reg.pur rfl rfl rfl rfl (Pur.asg rfl) ?_
    refine Reg.nil ?_
    refine At.region rfl rfl ?_
    refine Reg.pur rfl rfl rfl rfl (Pur.asg rfl) ?_
    refine Reg.nil ?_
    refine At.loop (σ := Nat × Bool) (fun (j, t) => [(8, I j), (7, .bool t), (6, I i), (5, .slice A' out.length cap'), (0, .slice (some ⟨b, o, none⟩) l.length cap), (1, .slice A2 k.length cap2)]) (fun (j, t) H' => j ≤ k.length ∧ H' = H3 ∧ t = (k.take j).any (fun y => decide (y = x))) (fun s => k.length - s.1) (0, false) rfl ⟨rfl, rfl, rfl, rfl, rfl, rfl, trivial⟩ ⟨by omega, rfl, rfl⟩ ?_
    rintro ⟨j, t⟩ H3 ⟨hj, rfl, ht⟩ ihj
    dsimp only at hj ht ⊢
    refine At.region rfl rfl ?_
    refine Reg.pur rfl rfl rfl rfl (Pur.mv rfl) ?_
    refine Reg.pur rfl rfl rfl rfl (Pur.mv rfl) ?_
    refine Reg.pur rfl rfl rfl rfl (Pur.lenS isl54 rfl) ?_
    refine Reg.pur rfl rfl rfl rfl (Pur.lss rfl rfl) ?_
    refine Reg.nil ?_
    refine At.cond rfl rfl (fun q18 => ?_) (fun q18 => ?_)
    · first | (simp only [decide_eq_true_eq, decide_eq_false_iff_not, Bool.not_eq_true', Bool.not_eq_false', ne_eq, Decidable.not_not, Bool.not_eq_true, Bool.not_eq_false] at q18) | (dsimp only at q18) | skip
      have hlj : j < k.length := by omega
      obtain ⟨b', o', c', rfl, hB', hc'⟩ := int_at (hk.ext hE) hlj
      have hany := any_take1 (p := fun y => decide (y = x)) hlj
      rw [← ht] at hany
      refine At.drawE ((Bks.cons hB.blk (Bks.cons hB'.blk Bks.nil))) [] mixed rfl rfl ?_
      refine RegD.tpur (i := 0) rfl rfl rfl rfl (by kernel_rfl) (Pur.mv rfl) ?_
      refine RegD.tpur (i := 1) rfl rfl rfl rfl (by kernel_rfl) (Pur.mv rfl) ?_
      refine RegD.case 22 rfl (fun q22 => ?_) (fun q22 => ?_)
      · first | (simp only [decide_eq_true_eq, decide_eq_false_iff_not, Bool.not_eq_true', Bool.not_eq_false', ne_eq, Decidable.not_not, Bool.not_eq_true, Bool.not_eq_false] at q22) | (dsimp only at q22) | skip
        refine RegD.skip (i := 2) rfl rfl rfl rfl rfl rfl rfl (by kernel_rfl) ?_
        refine RegD.skip (i := 3) rfl rfl rfl rfl rfl rfl rfl (by kernel_rfl) ?_
        refine RegD.skip (i := 4) rfl rfl rfl rfl rfl rfl rfl (by kernel_rfl) ?_
        refine RegD.skip (i := 5) rfl rfl rfl rfl rfl rfl rfl (by kernel_rfl) ?_
        refine RegD.skip (i := 6) rfl rfl rfl rfl rfl rfl rfl (by kernel_rfl) ?_
        refine RegD.skip (i := 7) rfl rfl rfl rfl rfl rfl rfl (by kernel_rfl) ?_
        refine RegD.skip (i := 8) rfl rfl rfl rfl rfl rfl rfl (by kernel_rfl) ?_
        refine RegD.skip (i := 9) rfl rfl rfl rfl rfl rfl rfl (by kernel_rfl) ?_
        refine RegD.skip (i := 10) rfl rfl rfl rfl rfl rfl rfl (by kernel_rfl) ?_
        refine RegD.tpur (i := 11) rfl rfl rfl rfl (by kernel_rfl) (Pur.pickT rfl rfl) ?_
        refine RegD.tpur (i := 12) rfl rfl rfl rfl (by kernel_rfl) (Pur.asg rfl) ?_
        refine RegD.done (by kernel_rfl) ?_
        refine At.region rfl rfl ?_
        refine Reg.pur rfl rfl rfl rfl (Pur.mv rfl) ?_
        first | refine Reg.pur rfl rfl rfl rfl (Pur.add64 rfl rfl (by omega)) ?_ | refine Reg.pur rfl rfl rfl rfl (Pur.add64 rfl rfl (by assumption)) ?_ | refine Reg.pur rfl rfl rfl rfl (Pur.add rfl rfl) ?_
        refine Reg.pur rfl rfl rfl rfl (Pur.asg rfl) ?_
        refine Reg.nil ?_
        refine At.via (ihj (j + 1, (k.take (j + 1)).any (fun y => decide (y = x))) _ ⟨by omega, rfl, rfl⟩ (by simp only; omega)) ⟨rfl, congrArg (fun t => some (Value.bool t)) ?_, rfl, rfl, rfl, rfl, trivial⟩
        rw [hany]; simp [q12, q18, q22]
      · first | (simp only [decide_eq_true_eq, decide_eq_false_iff_not, Bool.not_eq_true', Bool.not_eq_false', ne_eq, Decidable.not_not, Bool.not_eq_true, Bool.not_eq_false] at q22) | (dsimp only at q22) | skip
        refine RegD.gtpur (i := 2) rfl rfl rfl rfl rfl rfl (by kernel_rfl) (Pur.mv rfl) ?_
        refine RegD.gtpur (i := 3) rfl rfl rfl rfl rfl rfl (by kernel_rfl) (Pur.mv rfl) ?_
        refine RegD.gtpur (i := 4) rfl rfl rfl rfl rfl rfl (by kernel_rfl) (Pur.idx _ es54 rfl rfl (by omega) (by omega)) ?_
        refine RegD.gtake (i := 5) rfl rfl rfl rfl rfl rfl (by kernel_rfl) (Bks.cons hB.blk (Bks.cons hB'.blk Bks.nil)) (fun H hS => Lod.ld sc3 rfl hS.tl.hd hc') ?_
        refine RegD.gtpur (i := 6) rfl rfl rfl rfl rfl rfl (by kernel_rfl) (Pur.mv rfl) ?_
        refine RegD.gtpur (i := 7) rfl rfl rfl rfl rfl rfl (by kernel_rfl) (Pur.mv rfl) ?_
        refine RegD.gtpur (i := 8) rfl rfl rfl rfl rfl rfl (by kernel_rfl) (Pur.idx _ es54 rfl rfl (by omega) (by omega)) ?_
        refine RegD.gtake (i := 9) rfl rfl rfl rfl rfl rfl (by kernel_rfl) (Bks.cons hB.blk (Bks.cons hB'.blk Bks.nil)) (fun H hS => Lod.ld sc3 rfl hS.hd hc) ?_
        refine RegD.gtpur (i := 10) rfl rfl rfl rfl rfl rfl (by kernel_rfl) (Pur.eql rfl rfl) ?_
        refine RegD.tpur (i := 11) rfl rfl rfl rfl (by kernel_rfl) (Pur.pickF rfl rfl) ?_
        refine RegD.tpur (i := 12) rfl rfl rfl rfl (by kernel_rfl) (Pur.asg rfl) ?_
        refine RegD.done (by kernel_rfl) ?_
        refine At.region rfl rfl ?_
        refine Reg.pur rfl rfl rfl rfl (Pur.mv rfl) ?_
        first | refine Reg.pur rfl rfl rfl rfl (Pur.add64 rfl rfl (by omega)) ?_ | refine Reg.pur rfl rfl rfl rfl (Pur.add64 rfl rfl (by assumption)) ?_ | refine Reg.pur rfl rfl rfl rfl (Pur.add rfl rfl) ?_
        refine Reg.pur rfl rfl rfl rfl (Pur.asg rfl) ?_
        refine Reg.nil ?_
        refine At.via (ihj (j + 1, (k.take (j + 1)).any (fun y => decide (y = x))) _ ⟨by omega, rfl, rfl⟩ (by simp only; omega)) ⟨rfl, congrArg (fun t => some (Value.bool t)) ?_, rfl, rfl, rfl, rfl, trivial⟩
        rw [hany]; simp [q12, q18, q22]
    · first | (simp only [decide_eq_true_eq, decide_eq_false_iff_not, Bool.not_eq_true', Bool.not_eq_false', ne_eq, Decidable.not_not, Bool.not_eq_true, Bool.not_eq_false] at q18) | (dsimp only at q18) | skip
      rw [List.take_of_length_le (by omega)] at ht
      rw [← ht] at hnx
      refine At.region rfl rfl ?_
      refine Reg.pur rfl rfl rfl rfl (Pur.mv rfl) ?_
      refine Reg.pur rfl rfl rfl rfl (Pur.not rfl) ?_
      refine Reg.nil ?_
      refine At.cond rfl rfl (fun q34 => ?_) (fun q34 => ?_)
      · first | (simp only [decide_eq_true_eq, decide_eq_false_iff_not, Bool.not_eq_true', Bool.not_eq_false', ne_eq, Decidable.not_not, Bool.not_eq_true, Bool.not_eq_false] at q34) | (dsimp only at q34) | skip
        refine At.region rfl rfl ?_
        refine Reg.pur rfl rfl rfl rfl (Pur.mv rfl) ?_
        refine Reg.pur rfl rfl rfl rfl (Pur.mv rfl) ?_
        refine Reg.pur rfl rfl rfl rfl (Pur.mv rfl) ?_
        refine Reg.pur rfl rfl rfl rfl (Pur.idx _ es54 rfl rfl (by omega) (by omega)) ?_
        refine Reg.lod rfl rfl rfl rfl (Lod.ld sc3 rfl hB hc) ?_
        refine Reg.op rfl rfl rfl rfl (Does.bsl1T sl1_54 Try.underlying54 rfl rfl rfl rfl rfl) ?_
        rintro _ H11_5 ⟨rfl, hp11_5⟩
        have hn11_5 := New.of_eq hp11_5
        have z11_5 := hn11_5.size
        replace hE := hE.ext hn11_5.ext
        replace hg := hg.ext hn11_5.ext
        have o11_5 := hn11_5.own
        refine Reg.op rfl rfl rfl rfl (Does.appL apt54 rfl rfl (by decide) hg (wide1 _) (sl_new (L := [x]) (wide1 _) (by decide) hn11_5 (by simp)) (ones_e1 _) (by simp; omega) (by omega)) ?_
        rintro _ H11_6 ⟨A11_6, cap11_6, rfl, g11_6, hbut11_6, ha11_6⟩
        have z11_6 := hbut11_6.lt
        replace hE := hE.via hbut11_6 (by first | omega | (intro g; omega) | (intro g hg; omega) | (intro g hg h; omega))
        replace o11_5 := o11_5.via hbut11_6 (by first | omega | (intro g; omega) | (intro g hg; omega) | (intro g hg h; omega))
        replace hg := g11_6
        have zg11_6 := g11_6.lt
        refine Reg.pur rfl rfl rfl rfl (Pur.asg rfl) ?_
        refine Reg.nil ?_
        refine At.region rfl rfl ?_
        refine Reg.pur rfl rfl rfl rfl (Pur.mv rfl) ?_
        first | refine Reg.pur rfl rfl rfl rfl (Pur.add64 rfl rfl (by omega)) ?_ | refine Reg.pur rfl rfl rfl rfl (Pur.add64 rfl rfl (by assumption)) ?_ | refine Reg.pur rfl rfl rfl rfl (Pur.add rfl rfl) ?_
        refine Reg.pur rfl rfl rfl rfl (Pur.asg rfl) ?_
        refine Reg.nil ?_
        first | (rw [q34, if_neg (by decide)] at hnx; exact At.via (ih (i + 1, out ++ [x], A11_6, cap11_6) _ ⟨by omega, hnx.symm, hg, hE⟩ (by simp only; omega)) ⟨rfl, rfl, rfl, rfl, trivial⟩) | (rw [q34, if_pos rfl, List.append_nil] at hnx; exact At.via (ih (i + 1, out, A', cap') _ ⟨by omega, hnx.symm, hg, hE⟩ (by simp only; omega)) ⟨rfl, rfl, rfl, rfl, trivial⟩)
      · first | (simp only [decide_eq_true_eq, decide_eq_false_iff_not, Bool.not_eq_true', Bool.not_eq_false', ne_eq, Decidable.not_not, Bool.not_eq_true, Bool.not_eq_false] at q34) | (dsimp only at q34) | skip
        refine At.region rfl rfl ?_
        refine Reg.pur rfl rfl rfl rfl (Pur.mv rfl) ?_
        first | refine Reg.pur rfl rfl rfl rfl (Pur.add64 rfl rfl (by omega)) ?_ | refine Reg.pur rfl rfl rfl rfl (Pur.add64 rfl rfl (by assumption)) ?_ | refine Reg.pur rfl rfl rfl rfl (Pur.add rfl rfl) ?_
        refine Reg.pur rfl rfl rfl rfl (Pur.asg rfl) ?_
        refine Reg.nil ?_
        first | (rw [q34, if_neg (by decide)] at hnx; exact At.via (ih (i + 1, out ++ [x], A11_6, cap11_6) _ ⟨by omega, hnx.symm, hg, hE⟩ (by simp only; omega)) ⟨rfl, rfl, rfl, rfl, trivial⟩) | (rw [q34, if_pos rfl, List.append_nil] at hnx; exact At.via (ih (i + 1, out, A', cap') _ ⟨by omega, hnx.symm, hg, hE⟩ (by simp only; omega)) ⟨rfl, rfl, rfl, rfl, trivial⟩)
  · first | (simp only [decide_eq_true_eq, decide_eq_false_iff_not, Bool.not_eq_true', Bool.not_eq_false', ne_eq, Decidable.not_not, Bool.not_eq_true, Bool.not_eq_false] at q12) | (dsimp only at q12) | skip
    refine At.region rfl rfl ?_
    refine Reg.pur rfl rfl rfl rfl (Pur.mv rfl) ?_
    refine Reg.pur rfl rfl rfl rfl (Pur.asg rfl) ?_
    refine Reg.nil ?_
    refine At.ret rfl Try.func39 rfl ?_
    rw [List.take_of_length_le (by omega)] at hout
    subst hout
    exact ⟨⟨A', cap', rfl, hg⟩, hE⟩

theorem schemeKeeps_law {A Ak Am : Option Addr} {cap ck cm : Nat} {T : List (List Int)} {ks ms : List Int} {H : Heap} (hS : SlT H Is 9 (.slice A T.length cap) T) (hT9 : Nine T) (hm : T.length * 72 ≤ 140737488351232)
    (hk : SlT H e1 1 (.slice Ak ks.length ck) ks) (hmk : ks.length ≤ 9223372036854775807) (hr : SlT H e1 1 (.slice Am ms.length cm) ms) (hmr : ms.length ≤ 9223372036854775807) :
    Ret Try.prog 9 [Ty A T.length cap, .slice Ak ks.length ck, .slice Am ms.length cm] H (fun v H' => v = .bool true ∧ Ext H H') := by
  have hlens : (cloV T ks).length ≤ 9223372036854775807 ∧ (cloR T ms).length ≤ 9223372036854775807 ∧ (cloT T).length ≤ 9223372036854775807 := clo_len T ks ms (by omega)
  refine Ret.of_at (N := 61) Try.call9 Try.func9 rfl rfl rfl ?_
  have hE := Ext.refl H
  refine At.region rfl rfl ?_
  refine Reg.op rfl rfl rfl rfl (Does.box rfl rfl) ?_
  rintro _ H0_0 ⟨rfl, hn0_0⟩
  have z0_0 := hn0_0.size
  replace hE := hE.ext hn0_0.ext
  have o0_0 := hn0_0.own
  refine Reg.pur rfl rfl rfl rfl (Pur.asg rfl) ?_
  refine Reg.nil ?_
  refine At.region rfl rfl ?_
  refine Reg.op rfl rfl rfl rfl (Does.call rfl (awake12_ok _)) ?_
  rintro _ H1_0 ⟨rfl, hE1_0⟩
  have z1_0 := hE1_0.lt
  replace hE := hE.ext hE1_0
  replace o0_0 := o0_0.ext hE1_0
  refine Reg.pur rfl rfl rfl rfl (Pur.not rfl) ?_
  refine Reg.nil ?_
  refine At.condF rfl rfl rfl ?_
  refine At.region rfl rfl ?_
  refine Reg.lod rfl rfl rfl rfl (Lod.ldn ag25 rfl o0_0.blk (by first | exact whole rfl | rfl | (simp only [List.drop_succ_cons, List.drop_zero, List.take_succ_cons, List.take_zero]; rfl)) (by first | rfl | (simp [*]; done))) ?_
  refine Reg.pur rfl rfl rfl rfl (Pur.mv rfl) ?_
  refine Reg.pur rfl rfl rfl rfl (Pur.mv rfl) ?_
  refine Reg.op rfl rfl rfl rfl (Does.call rfl (close_ok hT9 (hS.ext hE) hm (hk.ext hE) hmk (hr.ext hE) hmr)) ?_
  rintro _ H3_3 ⟨hE3_3, C1, f1, C2, f2, C3, f3, rfl, hca⟩
  have z3_3 := hE3_3.lt
  replace hE := hE.ext hE3_3
  replace o0_0 := o0_0.ext hE3_3
  have hE3 := Ext.refl H3_3
  have z_hE3 := hE3.lt
  refine Reg.pur rfl rfl rfl rfl (Pur.mv rfl) ?_
  refine Reg.pur rfl rfl rfl rfl (Pur.ext rfl rfl) ?_
  refine Reg.pur rfl rfl rfl rfl (Pur.ext rfl rfl) ?_
  refine Reg.op rfl rfl rfl rfl (Does.alloc zc56) ?_
  rintro _ H3_7 ⟨rfl, hn3_7⟩
  have z3_7 := hn3_7.size
  replace hE := hE.ext hn3_7.ext
  replace o0_0 := o0_0.ext hn3_7.ext
  replace hE3 := hE3.ext hn3_7.ext
  have o3_7 := hn3_7.own
  refine Reg.op0 rfl rfl rfl (Does.stn ag56 rfl rfl (by first | rfl | exact ones_Is _) (by first | rfl | (simp [*]; done)) o3_7 (by first | decide | (simp; done) | (simp; omega) | omega)) ?_
  rintro _ H3_8 hu3_8
  have z3_8 := hu3_8.size
  replace hE := hE.upw hu3_8 (by omega)
  replace o0_0 := o0_0.upw hu3_8 (by omega)
  replace hE3 := hE3.upw hu3_8 (by omega)
  replace o3_7 := hu3_8.own
  first | rw [over (by first | rfl | (simp; done))] at o3_7 | skip
  refine Reg.pur rfl rfl rfl rfl (Pur.asg rfl) ?_
  refine Reg.nil ?_
  refine At.region rfl rfl ?_
  refine Reg.pur rfl rfl rfl rfl (Pur.mv rfl) ?_
  refine Reg.op rfl rfl rfl rfl (Does.call rfl (numE_ok _ _)) ?_
  rintro _ H3_8 ⟨rfl, rfl⟩
  refine Reg.pur rfl rfl rfl rfl (Pur.neq rfl rfl) ?_
  refine Reg.nil ?_
  refine At.cond rfl rfl (fun q22 => ?_) (fun q22 => ?_)
  · first | (simp only [decide_eq_true_eq, decide_eq_false_iff_not, Bool.not_eq_true', Bool.not_eq_false', ne_eq, Decidable.not_not, Bool.not_eq_true, Bool.not_eq_false] at q22) | (dsimp only at q22) | skip
    have hM : typM T = false := by { cases h : typM T with | false => rfl | true => rw [h] at q22; exact (q22 rfl).elim }
    have hz : (cloV T ks).length = 0 ∧ (cloR T ms).length = 0 ∧ (cloT T).length = 0 := by unfold cloV cloR cloT; rw [hM]; simp
    refine At.region rfl rfl ?_
    refine Reg.pur rfl rfl rfl rfl (Pur.fld _ fo56_0 rfl) ?_
    refine Reg.lod rfl rfl rfl rfl (Lod.ld sc54 rfl o3_7.blk (by first | rfl | (simp; done))) ?_
    refine Reg.pur rfl rfl rfl rfl (Pur.lenS isl54 rfl) ?_
    refine Reg.pur rfl rfl rfl rfl (Pur.fld _ fo56_1 rfl) ?_
    refine Reg.lod rfl rfl rfl rfl (Lod.ld sc54 rfl o3_7.blk (by first | rfl | (simp; done))) ?_
    refine Reg.pur rfl rfl rfl rfl (Pur.lenS isl54 rfl) ?_
    first | refine Reg.pur rfl rfl rfl rfl (Pur.add64 rfl rfl (by omega)) ?_ | refine Reg.pur rfl rfl rfl rfl (Pur.add64 rfl rfl (by assumption)) ?_ | refine Reg.pur rfl rfl rfl rfl (Pur.add rfl rfl) ?_
    refine Reg.pur rfl rfl rfl rfl (Pur.fld _ fo56_2 rfl) ?_
    refine Reg.pur rfl rfl rfl rfl (Pur.fld _ fo25_0 rfl) ?_
    refine Reg.lod rfl rfl rfl rfl (Lod.ld sc23 rfl o3_7.blk (by first | rfl | (simp; done))) ?_
    refine Reg.pur rfl rfl rfl rfl (Pur.lenS isl23 rfl) ?_
    first | refine Reg.pur rfl rfl rfl rfl (Pur.add64 rfl rfl (by omega)) ?_ | refine Reg.pur rfl rfl rfl rfl (Pur.add64 rfl rfl (by assumption)) ?_ | refine Reg.pur rfl rfl rfl rfl (Pur.add rfl rfl) ?_
    refine Reg.pur rfl rfl rfl rfl (Pur.eql rfl rfl) ?_
    refine Reg.pur rfl rfl rfl rfl (Pur.asg rfl) ?_
    refine Reg.nil ?_
    refine At.ret rfl Try.func9 rfl ?_
    exact ⟨congrArg Value.bool (decide_eq_true (by omega)), hE⟩
  · first | (simp only [decide_eq_true_eq, decide_eq_false_iff_not, Bool.not_eq_true', Bool.not_eq_false', ne_eq, Decidable.not_not, Bool.not_eq_true, Bool.not_eq_false] at q22) | (dsimp only at q22) | skip
    have hM : typM T = true := by { cases h : typM T with | true => rfl | false => rw [h] at q22; cases q22 }
    have hv : varsT T = varsS T ([], []) := by unfold varsT; rw [hM]; rfl
    have h256 := vars_256 hM
    have hcV : cloV T ks = wo (varsS T ([], [])).1 ks := by unfold cloV; rw [hM]; rfl
    have hcR : cloR T ms = wo (varsS T ([], [])).2 ms := by unfold cloR; rw [hM]; rfl
    have hcT : cloT T = T := by unfold cloT; rw [hM]; rfl
    refine At.region rfl rfl ?_
    refine Reg.lod rfl rfl rfl rfl (Lod.ldn ag25 rfl o0_0.blk (by first | exact whole rfl | rfl | (simp only [List.drop_succ_cons, List.drop_zero, List.take_succ_cons, List.take_zero]; rfl)) (by first | rfl | (simp [*]; done))) ?_
    refine Reg.op rfl rfl rfl rfl (Does.call rfl (varsOf_ok hT9 hM (hS.ext hE))) ?_
    rintro v6_1 H6_1 ⟨hE6_1, A1, c1, A2, c2, rfl, hg1, hg2⟩
    have z6_1 := hE6_1.lt
    replace hE := hE.ext hE6_1
    replace o0_0 := o0_0.ext hE6_1
    replace hE3 := hE3.ext hE6_1
    replace o3_7 := o3_7.ext hE6_1
    rw [hv] at hg1 hg2 ⊢
    have z_hg1 := hg1.lt
    have z_hg2 := hg2.lt
    refine Reg.pur rfl rfl rfl rfl (Pur.mv rfl) ?_
    refine Reg.pur rfl rfl rfl rfl (Pur.ext rfl rfl) ?_
    refine Reg.pur rfl rfl rfl rfl (Pur.ext rfl rfl) ?_
    refine Reg.pur rfl rfl rfl rfl (Pur.asg rfl) ?_
    refine Reg.pur rfl rfl rfl rfl (Pur.asg rfl) ?_
    refine Reg.nil ?_
    refine At.drawE ((Bks.cons o3_7.blk (Bks.cons o0_0.blk Bks.nil))) [] mixed rfl rfl ?_
    refine RegD.tpur (i := 0) rfl rfl rfl rfl (by kernel_rfl) (Pur.fld _ fo56_2 rfl) ?_
    refine RegD.take (i := 1) rfl rfl rfl rfl (by kernel_rfl) (Bks.cons o3_7.blk (Bks.cons o0_0.blk Bks.nil)) (fun H hS => Lod.ldn ag25 rfl hS.hd rfl rfl) ?_
    refine RegD.take (i := 2) rfl rfl rfl rfl (by kernel_rfl) (Bks.cons o3_7.blk (Bks.cons o0_0.blk Bks.nil)) (fun H hS => Lod.ldn ag25 rfl hS.tl.hd (by first | exact whole rfl | rfl | (simp only [List.drop_succ_cons, List.drop_zero, List.take_succ_cons, List.take_zero]; rfl)) (by first | rfl | (simp [*]; done))) ?_
    refine RegD.one (i := 3) (by kernel_rfl) rfl rfl rfl rfl (Does.call rfl (sameType_ok hca.nine hT9 (hca.r.ext hE3).s3 (hS.ext hE) (by omega))) ?_
    rintro _ H7_3 ⟨rfl, hE7_3⟩
    have z7_3 := hE7_3.lt
    replace hE := hE.ext hE7_3
    replace o0_0 := o0_0.ext hE7_3
    replace hE3 := hE3.ext hE7_3
    replace o3_7 := o3_7.ext hE7_3
    replace hg1 := hg1.ext hE7_3
    replace hg2 := hg2.ext hE7_3
    refine ⟨fun _ _ => (Bks.cons o3_7.blk (Bks.cons o0_0.blk Bks.nil)), ?_⟩
    refine RegD.tpur (i := 4) rfl rfl rfl rfl (by kernel_rfl) (Pur.mv rfl) ?_
    refine RegD.known (b' := true) 45 rfl (by rw [hcT]; simp) ?_
    refine RegD.gtpur (i := 5) rfl rfl rfl rfl rfl rfl (by kernel_rfl) (Pur.fld _ fo56_0 rfl) ?_
    refine RegD.gtake (i := 6) rfl rfl rfl rfl rfl rfl (by kernel_rfl) (Bks.cons o3_7.blk (Bks.cons o0_0.blk Bks.nil)) (fun H hS => Lod.ld sc54 rfl hS.hd (by first | rfl | (simp; done))) ?_
    refine RegD.gtpur (i := 7) rfl rfl rfl rfl rfl rfl (by kernel_rfl) (Pur.mv rfl) ?_
    refine RegD.gtpur (i := 8) rfl rfl rfl rfl rfl rfl (by kernel_rfl) (Pur.mv rfl) ?_
    refine RegD.gone (i := 9) (by kernel_rfl) rfl rfl rfl rfl rfl rfl (Does.call rfl (less_ok _ ks (own_sl (wide1 _) (by decide) hg1) (hk.ext hE) (by omega) hmk)) ?_
    rintro _ H7_9 ⟨⟨B1, d1, rfl, hl1⟩, hE7_9⟩
    have z7_9 := hE7_9.lt
    replace hE := hE.ext hE7_9
    replace o0_0 := o0_0.ext hE7_9
    replace hE3 := hE3.ext hE7_9
    replace o3_7 := o3_7.ext hE7_9
    replace hg1 := hg1.ext hE7_9
    replace hg2 := hg2.ext hE7_9
    refine ⟨fun _ _ => (Bks.cons o3_7.blk (Bks.cons o0_0.blk Bks.nil)), ?_⟩
    refine RegD.gone (i := 10) (by kernel_rfl) rfl rfl rfl rfl rfl rfl (Does.call rfl (sameI_ok _ _ (hca.r.ext hE3).s1 (own_sl (wide1 _) (by decide) hl1) (by omega))) ?_
    rintro _ H7_9 ⟨rfl, rfl⟩
    refine ⟨fun _ _ => (Bks.cons o3_7.blk (Bks.cons o0_0.blk Bks.nil)), ?_⟩
    refine RegD.tpur (i := 11) rfl rfl rfl rfl (by kernel_rfl) (Pur.pickT rfl rfl) ?_
    refine RegD.tpur (i := 12) rfl rfl rfl rfl (by kernel_rfl) (Pur.mv rfl) ?_
    refine RegD.known (b' := true) 53 rfl (by rw [hcV]; simp) ?_
    refine RegD.gtpur (i := 13) rfl rfl rfl rfl rfl rfl (by kernel_rfl) (Pur.fld _ fo56_1 rfl) ?_
    refine RegD.gtake (i := 14) rfl rfl rfl rfl rfl rfl (by kernel_rfl) (Bks.cons o3_7.blk (Bks.cons o0_0.blk Bks.nil)) (fun H hS => Lod.ld sc54 rfl hS.hd (by first | rfl | (simp; done))) ?_
    refine RegD.gtpur (i := 15) rfl rfl rfl rfl rfl rfl (by kernel_rfl) (Pur.mv rfl) ?_
    refine RegD.gtpur (i := 16) rfl rfl rfl rfl rfl rfl (by kernel_rfl) (Pur.mv rfl) ?_
    refine RegD.gone (i := 17) (by kernel_rfl) rfl rfl rfl rfl rfl rfl (Does.call rfl (less_ok _ ms (own_sl (wide1 _) (by decide) hg2) (hr.ext hE) (by omega) hmr)) ?_
    rintro _ H7_17 ⟨⟨B2, d2, rfl, hl2⟩, hE7_17⟩
    have z7_17 := hE7_17.lt
    replace hE := hE.ext hE7_17
    replace o0_0 := o0_0.ext hE7_17
    replace hE3 := hE3.ext hE7_17
    replace o3_7 := o3_7.ext hE7_17
    replace hg1 := hg1.ext hE7_17
    replace hg2 := hg2.ext hE7_17
    refine ⟨fun _ _ => (Bks.cons o3_7.blk (Bks.cons o0_0.blk Bks.nil)), ?_⟩
    refine RegD.gone (i := 18) (by kernel_rfl) rfl rfl rfl rfl rfl rfl (Does.call rfl (sameI_ok _ _ (hca.r.ext hE3).s2 (own_sl (wide1 _) (by decide) hl2) (by omega))) ?_
    rintro _ H7_17 ⟨rfl, rfl⟩
    refine ⟨fun _ _ => (Bks.cons o3_7.blk (Bks.cons o0_0.blk Bks.nil)), ?_⟩
    refine RegD.tpur (i := 19) rfl rfl rfl rfl (by kernel_rfl) (Pur.pickT rfl rfl) ?_
    refine RegD.tpur (i := 20) rfl rfl rfl rfl (by kernel_rfl) (Pur.asg rfl) ?_
    refine RegD.done (by kernel_rfl) ?_
    refine At.ret rfl Try.func9 rfl ?_
    exact ⟨congrArg Value.bool (by rw [hcR]; simp), hE⟩
end Go.Proofs.Ytlfillhffpiffaa

/-
  Chapter 12: what is no scheme, what cannot be taken.
-/
namespace Go.Proofs.Ytlfillhffpiffaa
set_option linter.unusedSimpArgs false
set_option linter.unusedVariables false
set_option maxRecDepth 8000
set_option maxHeartbeats 2000000
open Go Go.Fx Go.Proofs
namespace FactsSchR
theorem ag25 : ag Try.prog 25 = some 1 := by kernel_rfl
theorem ag56 : ag Try.prog 56 = some 3 := by kernel_rfl
theorem apt57 : appT Try.prog 57 = some (25, 1, 24) := by kernel_rfl
theorem es54 : esz Try.prog 54 = some 1 := by kernel_rfl
theorem es57 : esz Try.prog 57 = some 1 := by kernel_rfl
theorem fo25_0 : foff Try.prog 25 0 = some 0 := by kernel_rfl
theorem fo56_0 : foff Try.prog 56 0 = some 0 := by kernel_rfl
theorem fo56_1 : foff Try.prog 56 1 = some 1 := by kernel_rfl
theorem fo56_2 : foff Try.prog 56 2 = some 2 := by kernel_rfl
theorem isl23 : isSl Try.prog 23 = true := by kernel_rfl
theorem pl25 : places Try.prog 25 = some [(0, 1)] := by kernel_rfl
theorem pl28 : places Try.prog 28 = some [(0, 4), (4, 1)] := by kernel_rfl
theorem pl47 : places Try.prog 47 = some [(0, 1), (1, 1), (2, 1), (3, 1), (4, 5)] := by kernel_rfl
theorem pl56 : places Try.prog 56 = some [(0, 1), (1, 1), (2, 1)] := by kernel_rfl
theorem sc23 : sc Try.prog 23 = true := by kernel_rfl
theorem sc3 : sc Try.prog 3 = true := by kernel_rfl
theorem sc54 : sc Try.prog 54 = true := by kernel_rfl
theorem sl1_54 : sl1 Try.prog 54 = true := by kernel_rfl
theorem slA23 : slA Try.prog 23 = some (47, 9) := by kernel_rfl
theorem slA57 : slA Try.prog 57 = some (25, 1) := by kernel_rfl
theorem slA58 : slA Try.prog 58 = some (28, 5) := by kernel_rfl
theorem zc25 : zc Try.prog 25 = some [.slice none 0 0] := by kernel_rfl
theorem zc28 : zc Try.prog 28 = some [.int .i64 0, .int .i64 0, .int .i64 0, .int .i64 0, .int .i64 0] := by kernel_rfl
theorem zc47 : zc Try.prog 47 = some [.int .i64 0, .int .i64 0, .int .i64 0, .int .i64 0, .int .i64 0, .int .i64 0, .int .i64 0, .int .i64 0, .int .i64 0] := by kernel_rfl
theorem zc56 : zc Try.prog 56 = some [.slice none 0 0, .slice none 0 0, .slice none 0 0] := by kernel_rfl
end FactsSchR
open FactsSchR

abbrev fF : List (List Int) := [[2, 1, 0, 0, 0, 0, 0, 0, 0], [2, 2, 0, 0, 0, 0, 0, 0, 0], [3, 0, 0, 1, 0, 0, 0, 0, 3]]
abbrev fN : List (List Int) := [[0, 0, 0, 0, 0, 0, 0, 0, 0]]
abbrev fM : List (List Int) := [[0, 0, 0, 0, 0, 0, 0, 0, 0], [0, 0, 0, 0, 0, 0, 0, 0, 0], [3, 0, 0, 1, 0, 0, 0, 0, -1]]
abbrev fR : List (List Int) := [[0, 0, 0, 0, -1]]
theorem fGood (A B : Option Addr) : takT [1, 2] [⟨A, 1, fN⟩, ⟨B, 1, fN⟩] [3] fR fF = some fM := by kernel_rfl
structure Sfm where
  A1 : Option Addr
  c1 : Nat
  vs : List Int
  A2 : Option Addr
  c2 : Nat
  us : List Int
  A3 : Option Addr
  c3 : Nat
  L : List (List Int)
  Aq : Option Addr
  ct : Nat
  ts : List Td
  Ar : Option Addr
  cr : Nat
  rs : List (List Int)
structure Sfm.Ok (s : Sfm) (H : Heap) (b : Nat) : Prop where
  sc : ScR H s.A1 s.c1 s.vs s.A2 s.c2 s.us s.A3 s.c3 s.L
  ts : Tds H (.slice s.Aq s.ts.length s.ct) s.ts
  rs : SlT H Is 5 (.slice s.Ar s.rs.length s.cr) s.rs
  five : Five s.rs
  none : takT s.vs s.ts s.us s.rs s.L = Option.none
  own : Own H b [.slice s.A1 s.vs.length s.c1, .slice s.A2 s.us.length s.c2, .slice s.A3 s.L.length s.c3]
  small : s.vs.length ≤ 1000 ∧ s.us.length ≤ 1000 ∧ s.L.length ≤ 1000 ∧ s.rs.length ≤ 1000
theorem sl_own {α : Type} {enc : α → List Value} {n b : Nat} {L : List α} {H : Heap} (hL : Wide enc n L) (hn : 0 < n) (h : Own H b (L.flatMap enc)) (hl : L.length ≤ 1000) : SlT H enc n (.slice (some ⟨b, 0, none⟩) L.length L.length) L :=
  sl_of hL hn h.blk (by rw [List.drop_zero, List.take_of_length_le (by rw [flat_len hL]; exact Nat.le_refl _)]) (Nat.le_refl _) (by omega)
theorem k50' : Nine [] := fun x hx => by cases hx
theorem td_ok {H : Heap} {b : Nat} {L : List (List Int)} (hL : Nine L) (h : Own H b (L.flatMap Is)) (hl : L.length ≤ 1000) : Td.Ok H ⟨some ⟨b, 0, none⟩, L.length, L⟩ := ⟨sl_own (wide9 hL) (by decide) h hl, hL, by dsimp only; omega⟩
theorem tds_own {H : Heap} {b : Nat} {ts : List Td} (h : Own H b (ts.flatMap encT)) (hok : ∀ t ∈ ts, t.Ok H) (hl : ts.length ≤ 1000) : Tds H (.slice (some ⟨b, 0, none⟩) ts.length ts.length) ts :=
  ⟨sl_own (wideT ts) (by decide) h hl, hok, by omega⟩
theorem five1 {r : List Int} (h : r.length = 5) : Five [r] := by intro x hx; simp at hx; subst hx; exact h
theorem vm_bad {v : Int} {l : List Int} (h : ¬ (0 ≤ v ∧ v < 4096)) : vmS (v :: l) = false := vm_no (i := 0) (by simp) (by unfold vm1; rw [decide_eq_false (by simpa using h)]; rfl)
theorem vm_twice {v : Int} : vmS [v, v] = false := vm_no (i := 1) (by simp) (by unfold vm1; simp [inL, ixL])
theorem tak_vs {vs us : List Int} {ts : List Td} {rs L : List (List Int)} (h : vmS vs = false) : takT vs ts us rs L = none := takT_none (by rw [h]; simp)
theorem tak_us {vs us : List Int} {ts : List Td} {rs L : List (List Int)} (h : vmS us = false) : takT vs ts us rs L = none := takT_none (by rw [h]; simp)
theorem tak_ts {vs us : List Int} {ts : List Td} {rs L : List (List Int)} (h : ts.length ≠ vs.length) : takT vs ts us rs L = none := takT_none (by intro hh; exact h hh.2.2.2.1)
theorem tak_rs {vs us : List Int} {ts : List Td} {rs L : List (List Int)} (h : rs.length ≠ us.length) : takT vs ts us rs L = none := takT_none (by intro hh; exact h hh.2.2.2.2)
theorem tak_L {vs us : List Int} {ts : List Td} {rs L : List (List Int)} (h : typM L = false) : takT vs ts us rs L = none := takT_none (by rw [h]; simp)
theorem tak_b {vs us : List Int} {ts : List Td} {rs L : List (List Int)} {b : Bd} (hb : b ∈ takB vs ts us rs) (h : bindM b = false) : takT vs ts us rs L = none := by
  unfold takT
  split
  · unfold subT
    rw [if_neg]
    rintro ⟨h1, _⟩
    unfold bindsM at h1
    simp only [Bool.and_eq_true, List.all_eq_true] at h1
    rw [h1.2 b hb] at h; cases h
  · rfl

theorem schemeForms_law (n1 n2 : Int) (H : Heap) :
    Ret Try.prog 8 [I n1, I n2] H (fun v H' => v = .bool true ∧ Ext H H') := by
  obtain ⟨d, hd⟩ : ∃ d, d = 1 + bits .and .i64 n2 1023 := ⟨_, rfl⟩
  have hd3 : 1 ≤ d ∧ d ≤ 1024 := by have : 0 ≤ bits .and .i64 n2 1023 ∧ bits .and .i64 n2 1023 ≤ 1023 := and_le n2 1023 (by decide); rw [hd]; omega
  have h9F : Nine fF := nine_lit rfl
  have h9N : Nine fN := nine_lit rfl
  refine Ret.of_at (N := 116) Try.call8 Try.func8 rfl rfl rfl ?_
  have hE := Ext.refl H
  refine At.region rfl rfl ?_
  refine Reg.pur rfl rfl rfl rfl (Pur.asg rfl) ?_
  refine Reg.nil ?_
  refine At.region rfl rfl ?_
  refine Reg.op rfl rfl rfl rfl (Does.call rfl (awake12_ok _)) ?_
  rintro _ H1_0 ⟨rfl, hE1_0⟩
  have z1_0 := hE1_0.lt
  replace hE := hE.ext hE1_0
  refine Reg.pur rfl rfl rfl rfl (Pur.not rfl) ?_
  refine Reg.nil ?_
  refine At.condF rfl rfl rfl ?_
  have hbb : 0 ≤ bits .and .i64 n2 1023 ∧ bits .and .i64 n2 1023 ≤ 1023 := and_le n2 1023 (by decide)
  refine At.region rfl rfl ?_
  refine Reg.pur rfl rfl rfl rfl (Pur.mv rfl) ?_
  refine Reg.pur rfl rfl rfl rfl (Pur.and rfl rfl) ?_
  first | refine Reg.pur rfl rfl rfl rfl (Pur.add64 rfl rfl (by omega)) ?_ | refine Reg.pur rfl rfl rfl rfl (Pur.add64 rfl rfl (by assumption)) ?_ | refine Reg.pur rfl rfl rfl rfl (Pur.add rfl rfl) ?_
  refine Reg.pur rfl rfl rfl rfl (Pur.asg rfl) ?_
  refine Reg.nil ?_
  rw [← hd]
  clear hd hbb
  refine At.region rfl rfl ?_
  refine Reg.pur rfl rfl rfl rfl (Pur.bld (cs := [_, _, _, _, _, _, _, _, _]) pl47 zc47 rfl rfl ⟨rfl, rfl, rfl, rfl, rfl, rfl, rfl, rfl, rfl, rfl⟩) ?_
  refine Reg.pur rfl rfl rfl rfl (Pur.bld (cs := [_, _, _, _, _, _, _, _, _]) pl47 zc47 rfl rfl ⟨rfl, rfl, rfl, rfl, rfl, rfl, rfl, rfl, rfl, rfl⟩) ?_
  refine Reg.pur rfl rfl rfl rfl (Pur.bld (cs := [_, _, _, _, _]) pl28 zc28 rfl rfl ⟨rfl, rfl, rfl, rfl, rfl, rfl⟩) ?_
  refine Reg.pur rfl rfl rfl rfl (Pur.bld (cs := [_, _, _, _, _, _, _, _, _]) pl47 zc47 rfl rfl ⟨rfl, rfl, rfl, rfl, rfl, rfl, rfl, rfl, rfl, rfl⟩) ?_
  refine Reg.op rfl rfl rfl rfl (Does.bslA ([[_, _, _, _, _, _, _, _, _], [_, _, _, _, _, _, _, _, _], [_, _, _, _, _, _, _, _, _]]) slA23 rfl rfl rfl rfl rfl rfl) ?_
  rintro _ H4_4 ⟨rfl, hp4_4⟩
  have hn4_4 := New.of_eq hp4_4
  have z4_4 := hn4_4.size
  replace hE := hE.ext hn4_4.ext
  have o4_4 := hn4_4.own
  refine Reg.pur rfl rfl rfl rfl (Pur.bld (cs := [_]) pl25 zc25 rfl rfl ⟨rfl, rfl⟩) ?_
  refine Reg.op rfl rfl rfl rfl (Does.alloc zc25) ?_
  rintro _ H4_6 ⟨rfl, hn4_6⟩
  have z4_6 := hn4_6.size
  replace hE := hE.ext hn4_6.ext
  replace o4_4 := o4_4.ext hn4_6.ext
  have o4_6 := hn4_6.own
  refine Reg.op0 rfl rfl rfl (Does.stn ag25 rfl rfl (by first | rfl | exact ones_Is _) (by first | rfl | (simp [*]; done)) o4_6 (by first | decide | (simp; done) | (simp; omega) | omega)) ?_
  rintro _ H4_7 hu4_7
  have z4_7 := hu4_7.size
  replace hE := hE.upw hu4_7 (by omega)
  replace o4_4 := o4_4.upw hu4_7 (by omega)
  replace o4_6 := hu4_7.own
  first | rw [over (by first | rfl | (simp; done))] at o4_6 | skip
  refine Reg.nil ?_
  refine At.region rfl rfl ?_
  refine Reg.op rfl rfl rfl rfl (Does.bsl1T sl1_54 Try.underlying54 rfl rfl rfl rfl rfl) ?_
  rintro _ H5_0 ⟨rfl, hp5_0⟩
  have hn5_0 := New.of_eq hp5_0
  have z5_0 := hn5_0.size
  replace hE := hE.ext hn5_0.ext
  replace o4_4 := o4_4.ext hn5_0.ext
  replace o4_6 := o4_6.ext hn5_0.ext
  have o5_0 := hn5_0.own
  refine Reg.op rfl rfl rfl rfl (Does.bsl1T sl1_54 Try.underlying54 rfl rfl rfl rfl rfl) ?_
  rintro _ H5_1 ⟨rfl, hp5_1⟩
  have hn5_1 := New.of_eq hp5_1
  have z5_1 := hn5_1.size
  replace hE := hE.ext hn5_1.ext
  replace o4_4 := o4_4.ext hn5_1.ext
  replace o4_6 := o4_6.ext hn5_1.ext
  replace o5_0 := o5_0.ext hn5_1.ext
  have o5_1 := hn5_1.own
  refine Reg.lod rfl rfl rfl rfl (Lod.ldn ag25 rfl o4_6.blk (by first | exact whole rfl | rfl | (simp only [List.drop_succ_cons, List.drop_zero, List.take_succ_cons, List.take_zero]; rfl)) (by first | rfl | (simp [*]; done))) ?_
  refine Reg.pur rfl rfl rfl rfl (Pur.bld (cs := [_, _, _]) pl56 zc56 rfl rfl ⟨rfl, rfl, rfl, rfl⟩) ?_
  refine Reg.op rfl rfl rfl rfl (Does.alloc zc56) ?_
  rintro _ H5_4 ⟨rfl, hn5_4⟩
  have z5_4 := hn5_4.size
  replace hE := hE.ext hn5_4.ext
  replace o4_4 := o4_4.ext hn5_4.ext
  replace o4_6 := o4_6.ext hn5_4.ext
  replace o5_0 := o5_0.ext hn5_4.ext
  replace o5_1 := o5_1.ext hn5_4.ext
  have o5_4 := hn5_4.own
  refine Reg.op0 rfl rfl rfl (Does.stn ag56 rfl rfl (by first | rfl | exact ones_Is _) (by first | rfl | (simp [*]; done)) o5_4 (by first | decide | (simp; done) | (simp; omega) | omega)) ?_
  rintro _ H5_5 hu5_5
  have z5_5 := hu5_5.size
  replace hE := hE.upw hu5_5 (by omega)
  replace o4_4 := o4_4.upw hu5_5 (by omega)
  replace o4_6 := o4_6.upw hu5_5 (by omega)
  replace o5_0 := o5_0.upw hu5_5 (by omega)
  replace o5_1 := o5_1.upw hu5_5 (by omega)
  replace o5_4 := hu5_5.own
  first | rw [over (by first | rfl | (simp; done))] at o5_4 | skip
  refine Reg.nil ?_
  refine At.region rfl rfl ?_
  refine Reg.pur rfl rfl rfl rfl (Pur.bld (cs := [_, _, _, _, _, _, _, _, _]) pl47 zc47 rfl rfl ⟨rfl, rfl, rfl, rfl, rfl, rfl, rfl, rfl, rfl, rfl⟩) ?_
  refine Reg.op rfl rfl rfl rfl (Does.bslA ([[_, _, _, _, _, _, _, _, _]]) slA23 rfl rfl rfl rfl rfl rfl) ?_
  rintro _ H6_1 ⟨rfl, hp6_1⟩
  have hn6_1 := New.of_eq hp6_1
  have z6_1 := hn6_1.size
  replace hE := hE.ext hn6_1.ext
  replace o4_4 := o4_4.ext hn6_1.ext
  replace o4_6 := o4_6.ext hn6_1.ext
  replace o5_0 := o5_0.ext hn6_1.ext
  replace o5_1 := o5_1.ext hn6_1.ext
  replace o5_4 := o5_4.ext hn6_1.ext
  have o6_1 := hn6_1.own
  refine Reg.pur rfl rfl rfl rfl (Pur.bld (cs := [_]) pl25 zc25 rfl rfl ⟨rfl, rfl⟩) ?_
  refine Reg.op rfl rfl rfl rfl (Does.alloc zc25) ?_
  rintro _ H6_3 ⟨rfl, hn6_3⟩
  have z6_3 := hn6_3.size
  replace hE := hE.ext hn6_3.ext
  replace o4_4 := o4_4.ext hn6_3.ext
  replace o4_6 := o4_6.ext hn6_3.ext
  replace o5_0 := o5_0.ext hn6_3.ext
  replace o5_1 := o5_1.ext hn6_3.ext
  replace o5_4 := o5_4.ext hn6_3.ext
  replace o6_1 := o6_1.ext hn6_3.ext
  have o6_3 := hn6_3.own
  refine Reg.op0 rfl rfl rfl (Does.stn ag25 rfl rfl (by first | rfl | exact ones_Is _) (by first | rfl | (simp [*]; done)) o6_3 (by first | decide | (simp; done) | (simp; omega) | omega)) ?_
  rintro _ H6_4 hu6_4
  have z6_4 := hu6_4.size
  replace hE := hE.upw hu6_4 (by omega)
  replace o4_4 := o4_4.upw hu6_4 (by omega)
  replace o4_6 := o4_6.upw hu6_4 (by omega)
  replace o5_0 := o5_0.upw hu6_4 (by omega)
  replace o5_1 := o5_1.upw hu6_4 (by omega)
  replace o5_4 := o5_4.upw hu6_4 (by omega)
  replace o6_1 := o6_1.upw hu6_4 (by omega)
  replace o6_3 := hu6_4.own
  first | rw [over (by first | rfl | (simp; done))] at o6_3 | skip
  refine Reg.nil ?_
  refine At.region rfl rfl ?_
  refine Reg.lod rfl rfl rfl rfl (Lod.ldn ag25 rfl o6_3.blk (by first | exact whole rfl | rfl | (simp only [List.drop_succ_cons, List.drop_zero, List.take_succ_cons, List.take_zero]; rfl)) (by first | rfl | (simp [*]; done))) ?_
  refine Reg.lod rfl rfl rfl rfl (Lod.ldn ag25 rfl o6_3.blk (by first | exact whole rfl | rfl | (simp only [List.drop_succ_cons, List.drop_zero, List.take_succ_cons, List.take_zero]; rfl)) (by first | rfl | (simp [*]; done))) ?_
  refine Reg.op rfl rfl rfl rfl (Does.bslA ([[_], [_]]) slA57 rfl rfl rfl rfl rfl rfl) ?_
  rintro _ H7_2 ⟨rfl, hp7_2⟩
  have hn7_2 := New.of_eq hp7_2
  have z7_2 := hn7_2.size
  replace hE := hE.ext hn7_2.ext
  replace o4_4 := o4_4.ext hn7_2.ext
  replace o4_6 := o4_6.ext hn7_2.ext
  replace o5_0 := o5_0.ext hn7_2.ext
  replace o5_1 := o5_1.ext hn7_2.ext
  replace o5_4 := o5_4.ext hn7_2.ext
  replace o6_1 := o6_1.ext hn7_2.ext
  replace o6_3 := o6_3.ext hn7_2.ext
  have o7_2 := hn7_2.own
  have hg : Gs H7_2 H.size 25 1 (some ⟨H6_4.size, 0, none⟩) 2 ([⟨some ⟨H5_5.size, 0, none⟩, 1, fN⟩, ⟨some ⟨H5_5.size, 0, none⟩, 1, fN⟩] : List Td).length (([⟨some ⟨H5_5.size, 0, none⟩, 1, fN⟩, ⟨some ⟨H5_5.size, 0, none⟩, 1, fN⟩] : List Td).flatMap encT) := by rw [hp7_2]; exact OwnS.new (n := 2) rfl (by decide) (by omega)
  have hob : ob (some ⟨H6_4.size, 0, none⟩) = H6_4.size := rfl
  have z_hg := hg.lt
  refine Reg.pur rfl rfl rfl rfl (Pur.bld (cs := [_, _, _, _, _]) pl28 zc28 rfl rfl ⟨rfl, rfl, rfl, rfl, rfl, rfl⟩) ?_
  refine Reg.op rfl rfl rfl rfl (Does.bslA ([[_, _, _, _, _]]) slA58 rfl rfl rfl rfl rfl rfl) ?_
  rintro _ H7_4 ⟨rfl, hp7_4⟩
  have hn7_4 := New.of_eq hp7_4
  have z7_4 := hn7_4.size
  replace hE := hE.ext hn7_4.ext
  replace o4_4 := o4_4.ext hn7_4.ext
  replace o4_6 := o4_6.ext hn7_4.ext
  replace o5_0 := o5_0.ext hn7_4.ext
  replace o5_1 := o5_1.ext hn7_4.ext
  replace o5_4 := o5_4.ext hn7_4.ext
  replace o6_1 := o6_1.ext hn7_4.ext
  replace o6_3 := o6_3.ext hn7_4.ext
  replace o7_2 := o7_2.ext hn7_4.ext
  replace hg := hg.ext hn7_4.ext
  have o7_4 := hn7_4.own
  refine Reg.pur rfl rfl rfl rfl (Pur.asg rfl) ?_
  refine Reg.pur rfl rfl rfl rfl (Pur.asg rfl) ?_
  refine Reg.nil ?_
  refine At.region rfl rfl ?_
  refine Reg.lod rfl rfl rfl rfl (Lod.ldn ag56 rfl o5_4.blk (by first | exact whole rfl | rfl | (simp only [List.drop_succ_cons, List.drop_zero, List.take_succ_cons, List.take_zero]; rfl)) (by first | rfl | (simp [*]; done))) ?_
  refine Reg.pur rfl rfl rfl rfl (Pur.mv rfl) ?_
  refine Reg.pur rfl rfl rfl rfl (Pur.mv rfl) ?_
  refine Reg.op rfl rfl rfl rfl (Does.call rfl (take_ok (vs := [1, 2]) (us := [3]) (L := fF) (ts := [⟨some ⟨H5_5.size, 0, none⟩, 1, fN⟩, ⟨some ⟨H5_5.size, 0, none⟩, 1, fN⟩]) (rs := fR) ⟨sl_own (wide1 _) (by decide) o5_0 (by decide), sl_own (wide1 _) (by decide) o5_1 (by decide), sl_own (wide9 h9F) (by decide) o4_4 (by decide), h9F⟩ ⟨by decide, by decide⟩ (by decide) (tds_own o7_2 (all_two (td_ok h9N o6_1 (by decide)) (td_ok h9N o6_1 (by decide))) (Nat.le_of_ble_eq_true rfl)) (sl_own (wide5 k5) (by decide) o7_4 (by decide)) k5 (by decide))) ?_
  rintro v8_3 H8_3 ⟨hE8_3, hTv8_3⟩
  have z8_3 := hE8_3.lt
  replace hE := hE.ext hE8_3
  replace o4_4 := o4_4.ext hE8_3
  replace o4_6 := o4_6.ext hE8_3
  replace o5_0 := o5_0.ext hE8_3
  replace o5_1 := o5_1.ext hE8_3
  replace o5_4 := o5_4.ext hE8_3
  replace o6_1 := o6_1.ext hE8_3
  replace o6_3 := o6_3.ext hE8_3
  replace o7_2 := o7_2.ext hE8_3
  replace hg := hg.ext hE8_3
  replace o7_4 := o7_4.ext hE8_3
  rw [fGood] at hTv8_3
  obtain ⟨A8, cap8, rfl, _, _, _⟩ := hTv8_3
  refine Reg.pur rfl rfl rfl rfl (Pur.mv rfl) ?_
  refine Reg.pur rfl rfl rfl rfl (Pur.ext rfl rfl) ?_
  refine Reg.pur rfl rfl rfl rfl (Pur.ext rfl rfl) ?_
  refine Reg.op rfl rfl rfl rfl (Does.alloc zc25) ?_
  rintro _ H8_7 ⟨rfl, hn8_7⟩
  have z8_7 := hn8_7.size
  replace hE := hE.ext hn8_7.ext
  replace o4_4 := o4_4.ext hn8_7.ext
  replace o4_6 := o4_6.ext hn8_7.ext
  replace o5_0 := o5_0.ext hn8_7.ext
  replace o5_1 := o5_1.ext hn8_7.ext
  replace o5_4 := o5_4.ext hn8_7.ext
  replace o6_1 := o6_1.ext hn8_7.ext
  replace o6_3 := o6_3.ext hn8_7.ext
  replace o7_2 := o7_2.ext hn8_7.ext
  replace hg := hg.ext hn8_7.ext
  replace o7_4 := o7_4.ext hn8_7.ext
  have o8_7 := hn8_7.own
  refine Reg.op0 rfl rfl rfl (Does.stn ag25 rfl rfl (by first | rfl | exact ones_Is _) (by first | rfl | (simp [*]; done)) o8_7 (by first | decide | (simp; done) | (simp; omega) | omega)) ?_
  rintro _ H8_8 hu8_8
  have z8_8 := hu8_8.size
  replace hE := hE.upw hu8_8 (by omega)
  replace o4_4 := o4_4.upw hu8_8 (by omega)
  replace o4_6 := o4_6.upw hu8_8 (by omega)
  replace o5_0 := o5_0.upw hu8_8 (by omega)
  replace o5_1 := o5_1.upw hu8_8 (by omega)
  replace o5_4 := o5_4.upw hu8_8 (by omega)
  replace o6_1 := o6_1.upw hu8_8 (by omega)
  replace o6_3 := o6_3.upw hu8_8 (by omega)
  replace o7_2 := o7_2.upw hu8_8 (by omega)
  replace hg := hg.upw hu8_8 (by omega)
  replace o7_4 := o7_4.upw hu8_8 (by omega)
  replace o8_7 := hu8_8.own
  first | rw [over (by first | rfl | (simp; done))] at o8_7 | skip
  refine Reg.pur rfl rfl rfl rfl (Pur.asg rfl) ?_
  refine Reg.nil ?_
  refine At.region rfl rfl ?_
  refine Reg.pur rfl rfl rfl rfl (Pur.mv rfl) ?_
  refine Reg.pur rfl rfl rfl rfl (Pur.cnv Try.underlying3 Try.underlying51 rfl) ?_
  refine Reg.pur rfl rfl rfl rfl (Pur.rem rfl rfl (by decide)) ?_
  refine Reg.nil ?_
  refine At.region rfl rfl ?_
  refine Reg.pur rfl rfl rfl rfl (Pur.eql rfl rfl) ?_
  refine Reg.pur rfl rfl rfl rfl (Pur.asg rfl) ?_
  refine Reg.nil ?_
  refine At.joinc (σ := Sfm) (fun s => [(7, ptr H5_1.size 0), (9, .slice s.Aq s.ts.length s.ct), (10, .slice s.Ar s.rs.length s.cr), (12, I 0)]) (fun s H' => s.Ok H' H5_1.size ∧ Ext H H') rfl (fun hJ => ?_) (fun s H9 hs => ?_)
  · refine At.cond rfl rfl (fun q53 => ?_) (fun q53 => ?_)
    · first | (simp only [decide_eq_true_eq, decide_eq_false_iff_not, Bool.not_eq_true', Bool.not_eq_false', ne_eq, Decidable.not_not, Bool.not_eq_true, Bool.not_eq_false] at q53) | (dsimp only at q53) | skip
      refine At.region rfl rfl ?_
      refine Reg.pur rfl rfl rfl rfl (Pur.fld _ fo56_0 rfl) ?_
      refine Reg.lod rfl rfl rfl rfl (Lod.ld sc54 rfl o5_4.blk (by first | rfl | (simp; done))) ?_
      refine Reg.pur rfl rfl rfl rfl (Pur.mv rfl) ?_
      refine Reg.pur rfl rfl rfl rfl (Pur.neg64 rfl (by omega)) ?_
      refine Reg.pur rfl rfl rfl rfl (Pur.idx _ es54 rfl rfl (by decide) (by decide)) ?_
      refine Reg.op0 rfl rfl rfl (Does.st sc3 rfl rfl rfl o5_0 (by first | decide | (simp; done) | (simp; omega) | omega)) ?_
      rintro _ H12_5 hu12_5
      have z12_5 := hu12_5.size
      replace hE := hE.upw hu12_5 (by omega)
      replace o4_4 := o4_4.upw hu12_5 (by omega)
      replace o4_6 := o4_6.upw hu12_5 (by omega)
      replace o5_1 := o5_1.upw hu12_5 (by omega)
      replace o5_4 := o5_4.upw hu12_5 (by omega)
      replace o6_1 := o6_1.upw hu12_5 (by omega)
      replace o6_3 := o6_3.upw hu12_5 (by omega)
      replace o7_2 := o7_2.upw hu12_5 (by omega)
      replace hg := hg.upw hu12_5 (by omega)
      replace o7_4 := o7_4.upw hu12_5 (by omega)
      replace o8_7 := o8_7.upw hu12_5 (by omega)
      replace o5_0 := hu12_5.own
      refine Reg.nil ?_
      exact At.meets rfl (hJ (⟨some ⟨H4_7.size, 0, none⟩, 2, [-d, 2], some ⟨H5_0.size, 0, none⟩, 1, [3], some ⟨H1_0.size, 0, none⟩, 3, fF, some ⟨H6_4.size, 0, none⟩, 2, [⟨some ⟨H5_5.size, 0, none⟩, 1, fN⟩, ⟨some ⟨H5_5.size, 0, none⟩, 1, fN⟩], some ⟨H7_2.size, 0, none⟩, 1, fR⟩ : Sfm) _ ⟨⟨⟨sl_own (L := [-d, 2]) (wide1 _) (by decide) o5_0 (Nat.le_of_ble_eq_true rfl), sl_own (L := [3]) (wide1 _) (by decide) o5_1 (Nat.le_of_ble_eq_true rfl), sl_own (L := fF) (wide9 h9F) (by decide) o4_4 (by decide), h9F⟩, tds_own (ts := [⟨some ⟨H5_5.size, 0, none⟩, 1, fN⟩, ⟨some ⟨H5_5.size, 0, none⟩, 1, fN⟩]) o7_2 (all_two (td_ok h9N o6_1 (by decide)) (td_ok h9N o6_1 (by decide))) (Nat.le_of_ble_eq_true rfl), sl_own (L := fR) (wide5 k5) (by decide) o7_4 (by decide), k5, tak_vs (vm_bad (by omega)), o5_4, ⟨(Nat.le_of_ble_eq_true rfl), (Nat.le_of_ble_eq_true rfl), (Nat.le_of_ble_eq_true rfl), (Nat.le_of_ble_eq_true rfl)⟩⟩, hE⟩) ⟨rfl, rfl, rfl, rfl, trivial⟩
    · first | (simp only [decide_eq_true_eq, decide_eq_false_iff_not, Bool.not_eq_true', Bool.not_eq_false', ne_eq, Decidable.not_not, Bool.not_eq_true, Bool.not_eq_false] at q53) | (dsimp only at q53) | skip
      refine At.region rfl rfl ?_
      refine Reg.pur rfl rfl rfl rfl (Pur.eql rfl rfl) ?_
      refine Reg.pur rfl rfl rfl rfl (Pur.asg rfl) ?_
      refine Reg.nil ?_
      refine At.cond rfl rfl (fun q60 => ?_) (fun q60 => ?_)
      · first | (simp only [decide_eq_true_eq, decide_eq_false_iff_not, Bool.not_eq_true', Bool.not_eq_false', ne_eq, Decidable.not_not, Bool.not_eq_true, Bool.not_eq_false] at q60) | (dsimp only at q60) | skip
        refine At.region rfl rfl ?_
        refine Reg.pur rfl rfl rfl rfl (Pur.fld _ fo56_0 rfl) ?_
        refine Reg.lod rfl rfl rfl rfl (Lod.ld sc54 rfl o5_4.blk (by first | rfl | (simp; done))) ?_
        refine Reg.pur rfl rfl rfl rfl (Pur.idx _ es54 rfl rfl (by decide) (by decide)) ?_
        refine Reg.op0 rfl rfl rfl (Does.st sc3 rfl rfl rfl o5_0 (by first | decide | (simp; done) | (simp; omega) | omega)) ?_
        rintro _ H14_3 hu14_3
        have z14_3 := hu14_3.size
        replace hE := hE.upw hu14_3 (by omega)
        replace o4_4 := o4_4.upw hu14_3 (by omega)
        replace o4_6 := o4_6.upw hu14_3 (by omega)
        replace o5_1 := o5_1.upw hu14_3 (by omega)
        replace o5_4 := o5_4.upw hu14_3 (by omega)
        replace o6_1 := o6_1.upw hu14_3 (by omega)
        replace o6_3 := o6_3.upw hu14_3 (by omega)
        replace o7_2 := o7_2.upw hu14_3 (by omega)
        replace hg := hg.upw hu14_3 (by omega)
        replace o7_4 := o7_4.upw hu14_3 (by omega)
        replace o8_7 := o8_7.upw hu14_3 (by omega)
        replace o5_0 := hu14_3.own
        refine Reg.nil ?_
        exact At.meets rfl (hJ (⟨some ⟨H4_7.size, 0, none⟩, 2, [1, 1], some ⟨H5_0.size, 0, none⟩, 1, [3], some ⟨H1_0.size, 0, none⟩, 3, fF, some ⟨H6_4.size, 0, none⟩, 2, [⟨some ⟨H5_5.size, 0, none⟩, 1, fN⟩, ⟨some ⟨H5_5.size, 0, none⟩, 1, fN⟩], some ⟨H7_2.size, 0, none⟩, 1, fR⟩ : Sfm) _ ⟨⟨⟨sl_own (L := [1, 1]) (wide1 _) (by decide) o5_0 (Nat.le_of_ble_eq_true rfl), sl_own (L := [3]) (wide1 _) (by decide) o5_1 (Nat.le_of_ble_eq_true rfl), sl_own (L := fF) (wide9 h9F) (by decide) o4_4 (by decide), h9F⟩, tds_own (ts := [⟨some ⟨H5_5.size, 0, none⟩, 1, fN⟩, ⟨some ⟨H5_5.size, 0, none⟩, 1, fN⟩]) o7_2 (all_two (td_ok h9N o6_1 (by decide)) (td_ok h9N o6_1 (by decide))) (Nat.le_of_ble_eq_true rfl), sl_own (L := fR) (wide5 k5) (by decide) o7_4 (by decide), k5, tak_vs vm_twice, o5_4, ⟨(Nat.le_of_ble_eq_true rfl), (Nat.le_of_ble_eq_true rfl), (Nat.le_of_ble_eq_true rfl), (Nat.le_of_ble_eq_true rfl)⟩⟩, hE⟩) ⟨rfl, rfl, rfl, rfl, trivial⟩
      · first | (simp only [decide_eq_true_eq, decide_eq_false_iff_not, Bool.not_eq_true', Bool.not_eq_false', ne_eq, Decidable.not_not, Bool.not_eq_true, Bool.not_eq_false] at q60) | (dsimp only at q60) | skip
        refine At.region rfl rfl ?_
        refine Reg.pur rfl rfl rfl rfl (Pur.eql rfl rfl) ?_
        refine Reg.pur rfl rfl rfl rfl (Pur.asg rfl) ?_
        refine Reg.nil ?_
        refine At.cond rfl rfl (fun q65 => ?_) (fun q65 => ?_)
        · first | (simp only [decide_eq_true_eq, decide_eq_false_iff_not, Bool.not_eq_true', Bool.not_eq_false', ne_eq, Decidable.not_not, Bool.not_eq_true, Bool.not_eq_false] at q65) | (dsimp only at q65) | skip
          refine At.region rfl rfl ?_
          refine Reg.pur rfl rfl rfl rfl (Pur.fld _ fo56_1 rfl) ?_
          refine Reg.lod rfl rfl rfl rfl (Lod.ld sc54 rfl o5_4.blk (by first | rfl | (simp; done))) ?_
          refine Reg.pur rfl rfl rfl rfl (Pur.mv rfl) ?_
          first | refine Reg.pur rfl rfl rfl rfl (Pur.add64 rfl rfl (by omega)) ?_ | refine Reg.pur rfl rfl rfl rfl (Pur.add64 rfl rfl (by assumption)) ?_ | refine Reg.pur rfl rfl rfl rfl (Pur.add rfl rfl) ?_
          refine Reg.pur rfl rfl rfl rfl (Pur.idx _ es54 rfl rfl (by decide) (by decide)) ?_
          refine Reg.op0 rfl rfl rfl (Does.st sc3 rfl rfl rfl o5_1 (by first | decide | (simp; done) | (simp; omega) | omega)) ?_
          rintro _ H16_5 hu16_5
          have z16_5 := hu16_5.size
          replace hE := hE.upw hu16_5 (by omega)
          replace o4_4 := o4_4.upw hu16_5 (by omega)
          replace o4_6 := o4_6.upw hu16_5 (by omega)
          replace o5_0 := o5_0.upw hu16_5 (by omega)
          replace o5_4 := o5_4.upw hu16_5 (by omega)
          replace o6_1 := o6_1.upw hu16_5 (by omega)
          replace o6_3 := o6_3.upw hu16_5 (by omega)
          replace o7_2 := o7_2.upw hu16_5 (by omega)
          replace hg := hg.upw hu16_5 (by omega)
          replace o7_4 := o7_4.upw hu16_5 (by omega)
          replace o8_7 := o8_7.upw hu16_5 (by omega)
          replace o5_1 := hu16_5.own
          refine Reg.nil ?_
          exact At.meets rfl (hJ (⟨some ⟨H4_7.size, 0, none⟩, 2, [1, 2], some ⟨H5_0.size, 0, none⟩, 1, [4095 + d], some ⟨H1_0.size, 0, none⟩, 3, fF, some ⟨H6_4.size, 0, none⟩, 2, [⟨some ⟨H5_5.size, 0, none⟩, 1, fN⟩, ⟨some ⟨H5_5.size, 0, none⟩, 1, fN⟩], some ⟨H7_2.size, 0, none⟩, 1, fR⟩ : Sfm) _ ⟨⟨⟨sl_own (L := [1, 2]) (wide1 _) (by decide) o5_0 (Nat.le_of_ble_eq_true rfl), sl_own (L := [4095 + d]) (wide1 _) (by decide) o5_1 (Nat.le_of_ble_eq_true rfl), sl_own (L := fF) (wide9 h9F) (by decide) o4_4 (by decide), h9F⟩, tds_own (ts := [⟨some ⟨H5_5.size, 0, none⟩, 1, fN⟩, ⟨some ⟨H5_5.size, 0, none⟩, 1, fN⟩]) o7_2 (all_two (td_ok h9N o6_1 (by decide)) (td_ok h9N o6_1 (by decide))) (Nat.le_of_ble_eq_true rfl), sl_own (L := fR) (wide5 k5) (by decide) o7_4 (by decide), k5, tak_us (vm_bad (by omega)), o5_4, ⟨(Nat.le_of_ble_eq_true rfl), (Nat.le_of_ble_eq_true rfl), (Nat.le_of_ble_eq_true rfl), (Nat.le_of_ble_eq_true rfl)⟩⟩, hE⟩) ⟨rfl, rfl, rfl, rfl, trivial⟩
        · first | (simp only [decide_eq_true_eq, decide_eq_false_iff_not, Bool.not_eq_true', Bool.not_eq_false', ne_eq, Decidable.not_not, Bool.not_eq_true, Bool.not_eq_false] at q65) | (dsimp only at q65) | skip
          refine At.region rfl rfl ?_
          refine Reg.pur rfl rfl rfl rfl (Pur.eql rfl rfl) ?_
          refine Reg.pur rfl rfl rfl rfl (Pur.asg rfl) ?_
          refine Reg.nil ?_
          refine At.cond rfl rfl (fun q72 => ?_) (fun q72 => ?_)
          · first | (simp only [decide_eq_true_eq, decide_eq_false_iff_not, Bool.not_eq_true', Bool.not_eq_false', ne_eq, Decidable.not_not, Bool.not_eq_true, Bool.not_eq_false] at q72) | (dsimp only at q72) | skip
            refine At.region rfl rfl ?_
            refine Reg.pur rfl rfl rfl rfl (Pur.mv rfl) ?_
            refine Reg.pur rfl rfl rfl rfl (Pur.cutH es57 rfl rfl (by decide) (by decide)) ?_
            refine Reg.pur rfl rfl rfl rfl (Pur.asg rfl) ?_
            refine Reg.nil ?_
            exact At.meets rfl (hJ (⟨some ⟨H4_7.size, 0, none⟩, 2, [1, 2], some ⟨H5_0.size, 0, none⟩, 1, [3], some ⟨H1_0.size, 0, none⟩, 3, fF, some ⟨H6_4.size, 0, none⟩, 2, [⟨some ⟨H5_5.size, 0, none⟩, 1, fN⟩], some ⟨H7_2.size, 0, none⟩, 1, fR⟩ : Sfm) _ ⟨⟨⟨sl_own (L := [1, 2]) (wide1 _) (by decide) o5_0 (Nat.le_of_ble_eq_true rfl), sl_own (L := [3]) (wide1 _) (by decide) o5_1 (Nat.le_of_ble_eq_true rfl), sl_own (L := fF) (wide9 h9F) (by decide) o4_4 (by decide), h9F⟩, ⟨sl_of (L := [(⟨some ⟨H5_5.size, 0, none⟩, 1, fN⟩ : Td)]) (wideT _) (by decide) o7_2.blk rfl (Nat.le_of_ble_eq_true rfl) (Nat.le_of_ble_eq_true rfl), all_one (td_ok h9N o6_1 (by decide)), (Nat.le_of_ble_eq_true rfl)⟩, sl_own (L := fR) (wide5 k5) (by decide) o7_4 (by decide), k5, tak_ts (by simp), o5_4, ⟨(Nat.le_of_ble_eq_true rfl), (Nat.le_of_ble_eq_true rfl), (Nat.le_of_ble_eq_true rfl), (Nat.le_of_ble_eq_true rfl)⟩⟩, hE⟩) ⟨rfl, rfl, rfl, rfl, trivial⟩
          · first | (simp only [decide_eq_true_eq, decide_eq_false_iff_not, Bool.not_eq_true', Bool.not_eq_false', ne_eq, Decidable.not_not, Bool.not_eq_true, Bool.not_eq_false] at q72) | (dsimp only at q72) | skip
            refine At.region rfl rfl ?_
            refine Reg.pur rfl rfl rfl rfl (Pur.eql rfl rfl) ?_
            refine Reg.pur rfl rfl rfl rfl (Pur.asg rfl) ?_
            refine Reg.nil ?_
            refine At.cond rfl rfl (fun q76 => ?_) (fun q76 => ?_)
            · first | (simp only [decide_eq_true_eq, decide_eq_false_iff_not, Bool.not_eq_true', Bool.not_eq_false', ne_eq, Decidable.not_not, Bool.not_eq_true, Bool.not_eq_false] at q76) | (dsimp only at q76) | skip
              refine At.region rfl rfl ?_
              refine Reg.pur rfl rfl rfl rfl (Pur.mv rfl) ?_
              refine Reg.lod rfl rfl rfl rfl (Lod.ldn ag25 rfl o6_3.blk (by first | exact whole rfl | rfl | (simp only [List.drop_succ_cons, List.drop_zero, List.take_succ_cons, List.take_zero]; rfl)) (by first | rfl | (simp [*]; done))) ?_
              refine Reg.op rfl rfl rfl rfl (Does.bslA ([[_]]) slA57 rfl rfl rfl rfl rfl rfl) ?_
              rintro _ H20_2 ⟨rfl, hp20_2⟩
              have hn20_2 := New.of_eq hp20_2
              have z20_2 := hn20_2.size
              replace hE := hE.ext hn20_2.ext
              replace o4_4 := o4_4.ext hn20_2.ext
              replace o4_6 := o4_6.ext hn20_2.ext
              replace o5_0 := o5_0.ext hn20_2.ext
              replace o5_1 := o5_1.ext hn20_2.ext
              replace o5_4 := o5_4.ext hn20_2.ext
              replace o6_1 := o6_1.ext hn20_2.ext
              replace o6_3 := o6_3.ext hn20_2.ext
              replace o7_2 := o7_2.ext hn20_2.ext
              replace hg := hg.ext hn20_2.ext
              replace o7_4 := o7_4.ext hn20_2.ext
              replace o8_7 := o8_7.ext hn20_2.ext
              have o20_2 := hn20_2.own

              refine Reg.op rfl rfl rfl rfl (Does.appL apt57 rfl rfl (by decide) hg (wideT _) (sl_one (x := (⟨some ⟨H5_5.size, 0, none⟩, 1, fN⟩ : Td)) rfl (by decide) hn20_2) (by rfl) (Nat.le_of_ble_eq_true rfl) (by omega)) ?_
              rintro _ H20_3 ⟨A20_3, cap20_3, rfl, g20_3, hbut20_3, ha20_3⟩
              have z20_3 := hbut20_3.lt
              replace hE := hE.via hbut20_3 (by first | omega | (intro g; omega) | (intro g hg; omega) | (intro g hg h; omega))
              replace o4_4 := o4_4.via hbut20_3 (by first | omega | (intro g; omega) | (intro g hg; omega) | (intro g hg h; omega))
              replace o4_6 := o4_6.via hbut20_3 (by first | omega | (intro g; omega) | (intro g hg; omega) | (intro g hg h; omega))
              replace o5_0 := o5_0.via hbut20_3 (by first | omega | (intro g; omega) | (intro g hg; omega) | (intro g hg h; omega))
              replace o5_1 := o5_1.via hbut20_3 (by first | omega | (intro g; omega) | (intro g hg; omega) | (intro g hg h; omega))
              replace o5_4 := o5_4.via hbut20_3 (by first | omega | (intro g; omega) | (intro g hg; omega) | (intro g hg h; omega))
              replace o6_1 := o6_1.via hbut20_3 (by first | omega | (intro g; omega) | (intro g hg; omega) | (intro g hg h; omega))
              replace o6_3 := o6_3.via hbut20_3 (by first | omega | (intro g; omega) | (intro g hg; omega) | (intro g hg h; omega))
              replace o7_4 := o7_4.via hbut20_3 (by first | omega | (intro g; omega) | (intro g hg; omega) | (intro g hg h; omega))
              replace o8_7 := o8_7.via hbut20_3 (by first | omega | (intro g; omega) | (intro g hg; omega) | (intro g hg h; omega))
              replace o20_2 := o20_2.via hbut20_3 (by first | omega | (intro g; omega) | (intro g hg; omega) | (intro g hg h; omega))
              replace hg := g20_3
              have zg20_3 := g20_3.lt
              refine Reg.pur rfl rfl rfl rfl (Pur.asg rfl) ?_
              refine Reg.nil ?_
              exact At.meets rfl (hJ (⟨some ⟨H4_7.size, 0, none⟩, 2, [1, 2], some ⟨H5_0.size, 0, none⟩, 1, [3], some ⟨H1_0.size, 0, none⟩, 3, fF, A20_3, cap20_3, [⟨some ⟨H5_5.size, 0, none⟩, 1, fN⟩, ⟨some ⟨H5_5.size, 0, none⟩, 1, fN⟩, ⟨some ⟨H5_5.size, 0, none⟩, 1, fN⟩], some ⟨H7_2.size, 0, none⟩, 1, fR⟩ : Sfm) _ ⟨⟨⟨sl_own (L := [1, 2]) (wide1 _) (by decide) o5_0 (Nat.le_of_ble_eq_true rfl), sl_own (L := [3]) (wide1 _) (by decide) o5_1 (Nat.le_of_ble_eq_true rfl), sl_own (L := fF) (wide9 h9F) (by decide) o4_4 (by decide), h9F⟩, ⟨own_sl (wideT _) (by decide) hg, (fun x hx => by simp at hx; subst hx; exact td_ok h9N o6_1 (by decide)), (Nat.le_of_ble_eq_true rfl)⟩, sl_own (L := fR) (wide5 k5) (by decide) o7_4 (by decide), k5, tak_ts (by simp), o5_4, ⟨(Nat.le_of_ble_eq_true rfl), (Nat.le_of_ble_eq_true rfl), (Nat.le_of_ble_eq_true rfl), (Nat.le_of_ble_eq_true rfl)⟩⟩, hE⟩) ⟨rfl, rfl, rfl, rfl, trivial⟩
            · first | (simp only [decide_eq_true_eq, decide_eq_false_iff_not, Bool.not_eq_true', Bool.not_eq_false', ne_eq, Decidable.not_not, Bool.not_eq_true, Bool.not_eq_false] at q76) | (dsimp only at q76) | skip
              refine At.region rfl rfl ?_
              refine Reg.pur rfl rfl rfl rfl (Pur.eql rfl rfl) ?_
              refine Reg.pur rfl rfl rfl rfl (Pur.asg rfl) ?_
              refine Reg.nil ?_
              refine At.cond rfl rfl (fun q82 => ?_) (fun q82 => ?_)
              · first | (simp only [decide_eq_true_eq, decide_eq_false_iff_not, Bool.not_eq_true', Bool.not_eq_false', ne_eq, Decidable.not_not, Bool.not_eq_true, Bool.not_eq_false] at q82) | (dsimp only at q82) | skip
                refine At.region rfl rfl ?_
                refine Reg.pur rfl rfl rfl rfl (Pur.asg rfl) ?_
                refine Reg.nil ?_
                exact At.meets rfl (hJ (⟨some ⟨H4_7.size, 0, none⟩, 2, [1, 2], some ⟨H5_0.size, 0, none⟩, 1, [3], some ⟨H1_0.size, 0, none⟩, 3, fF, some ⟨H6_4.size, 0, none⟩, 2, [⟨some ⟨H5_5.size, 0, none⟩, 1, fN⟩, ⟨some ⟨H5_5.size, 0, none⟩, 1, fN⟩], none, 0, []⟩ : Sfm) _ ⟨⟨⟨sl_own (L := [1, 2]) (wide1 _) (by decide) o5_0 (Nat.le_of_ble_eq_true rfl), sl_own (L := [3]) (wide1 _) (by decide) o5_1 (Nat.le_of_ble_eq_true rfl), sl_own (L := fF) (wide9 h9F) (by decide) o4_4 (by decide), h9F⟩, tds_own (ts := [⟨some ⟨H5_5.size, 0, none⟩, 1, fN⟩, ⟨some ⟨H5_5.size, 0, none⟩, 1, fN⟩]) o7_2 (all_two (td_ok h9N o6_1 (by decide)) (td_ok h9N o6_1 (by decide))) (Nat.le_of_ble_eq_true rfl), sl_nil0 _, k50, tak_rs (by simp), o5_4, ⟨(Nat.le_of_ble_eq_true rfl), (Nat.le_of_ble_eq_true rfl), (Nat.le_of_ble_eq_true rfl), (Nat.le_of_ble_eq_true rfl)⟩⟩, hE⟩) ⟨rfl, rfl, rfl, rfl, trivial⟩
              · first | (simp only [decide_eq_true_eq, decide_eq_false_iff_not, Bool.not_eq_true', Bool.not_eq_false', ne_eq, Decidable.not_not, Bool.not_eq_true, Bool.not_eq_false] at q82) | (dsimp only at q82) | skip
                refine At.region rfl rfl ?_
                refine Reg.pur rfl rfl rfl rfl (Pur.eql rfl rfl) ?_
                refine Reg.pur rfl rfl rfl rfl (Pur.asg rfl) ?_
                refine Reg.nil ?_
                refine At.cond rfl rfl (fun q84 => ?_) (fun q84 => ?_)
                · first | (simp only [decide_eq_true_eq, decide_eq_false_iff_not, Bool.not_eq_true', Bool.not_eq_false', ne_eq, Decidable.not_not, Bool.not_eq_true, Bool.not_eq_false] at q84) | (dsimp only at q84) | skip
                  refine At.region rfl rfl ?_
                  refine Reg.pur rfl rfl rfl rfl (Pur.mv rfl) ?_
                  first | refine Reg.pur rfl rfl rfl rfl (Pur.sub64 rfl rfl (by omega)) ?_ | refine Reg.pur rfl rfl rfl rfl (Pur.sub64 rfl rfl (by assumption)) ?_ | refine Reg.pur rfl rfl rfl rfl (Pur.sub rfl rfl) ?_
                  refine Reg.pur rfl rfl rfl rfl (Pur.bld (cs := [_, _, _, _, _]) pl28 zc28 rfl rfl ⟨rfl, rfl, rfl, rfl, rfl, rfl⟩) ?_
                  refine Reg.op rfl rfl rfl rfl (Does.bslA ([[_, _, _, _, _]]) slA58 rfl rfl rfl rfl rfl rfl) ?_
                  rintro _ H24_3 ⟨rfl, hp24_3⟩
                  have hn24_3 := New.of_eq hp24_3
                  have z24_3 := hn24_3.size
                  replace hE := hE.ext hn24_3.ext
                  replace o4_4 := o4_4.ext hn24_3.ext
                  replace o4_6 := o4_6.ext hn24_3.ext
                  replace o5_0 := o5_0.ext hn24_3.ext
                  replace o5_1 := o5_1.ext hn24_3.ext
                  replace o5_4 := o5_4.ext hn24_3.ext
                  replace o6_1 := o6_1.ext hn24_3.ext
                  replace o6_3 := o6_3.ext hn24_3.ext
                  replace o7_2 := o7_2.ext hn24_3.ext
                  replace hg := hg.ext hn24_3.ext
                  replace o7_4 := o7_4.ext hn24_3.ext
                  replace o8_7 := o8_7.ext hn24_3.ext
                  have o24_3 := hn24_3.own
                  refine Reg.pur rfl rfl rfl rfl (Pur.asg rfl) ?_
                  refine Reg.nil ?_
                  exact At.meets rfl (hJ (⟨some ⟨H4_7.size, 0, none⟩, 2, [1, 2], some ⟨H5_0.size, 0, none⟩, 1, [3], some ⟨H1_0.size, 0, none⟩, 3, fF, some ⟨H6_4.size, 0, none⟩, 2, [⟨some ⟨H5_5.size, 0, none⟩, 1, fN⟩, ⟨some ⟨H5_5.size, 0, none⟩, 1, fN⟩], some ⟨H8_8.size, 0, none⟩, 1, [[0, 0, 0, 0, -1 - d]]⟩ : Sfm) _ ⟨⟨⟨sl_own (L := [1, 2]) (wide1 _) (by decide) o5_0 (Nat.le_of_ble_eq_true rfl), sl_own (L := [3]) (wide1 _) (by decide) o5_1 (Nat.le_of_ble_eq_true rfl), sl_own (L := fF) (wide9 h9F) (by decide) o4_4 (by decide), h9F⟩, tds_own (ts := [⟨some ⟨H5_5.size, 0, none⟩, 1, fN⟩, ⟨some ⟨H5_5.size, 0, none⟩, 1, fN⟩]) o7_2 (all_two (td_ok h9N o6_1 (by decide)) (td_ok h9N o6_1 (by decide))) (Nat.le_of_ble_eq_true rfl), sl_own (L := [[0, 0, 0, 0, -1 - d]]) (wide5 (five1 rfl)) (by decide) o24_3 (Nat.le_of_ble_eq_true rfl), five1 rfl, tak_b (b := bR 3 [0, 0, 0, 0, -1 - d]) (by simp [takB]) (by unfold bindM bR; simp [rowM]; omega), o5_4, ⟨(Nat.le_of_ble_eq_true rfl), (Nat.le_of_ble_eq_true rfl), (Nat.le_of_ble_eq_true rfl), (Nat.le_of_ble_eq_true rfl)⟩⟩, hE⟩) ⟨rfl, rfl, rfl, rfl, trivial⟩
                · first | (simp only [decide_eq_true_eq, decide_eq_false_iff_not, Bool.not_eq_true', Bool.not_eq_false', ne_eq, Decidable.not_not, Bool.not_eq_true, Bool.not_eq_false] at q84) | (dsimp only at q84) | skip
                  refine At.region rfl rfl ?_
                  refine Reg.pur rfl rfl rfl rfl (Pur.eql rfl rfl) ?_
                  refine Reg.pur rfl rfl rfl rfl (Pur.asg rfl) ?_
                  refine Reg.nil ?_
                  refine At.cond rfl rfl (fun q90 => ?_) (fun q90 => ?_)
                  · first | (simp only [decide_eq_true_eq, decide_eq_false_iff_not, Bool.not_eq_true', Bool.not_eq_false', ne_eq, Decidable.not_not, Bool.not_eq_true, Bool.not_eq_false] at q90) | (dsimp only at q90) | skip
                    refine At.region rfl rfl ?_
                    refine Reg.pur rfl rfl rfl rfl (Pur.mv rfl) ?_
                    refine Reg.pur rfl rfl rfl rfl (Pur.bld (cs := [_]) pl25 zc25 rfl rfl ⟨rfl, rfl⟩) ?_
                    refine Reg.pur rfl rfl rfl rfl (Pur.idx _ es57 rfl rfl (by decide) (by decide)) ?_

                    refine Reg.op0 rfl rfl rfl (Does.stn ag25 rfl rfl (by first | rfl | exact ones_Is _) (by first | rfl | (simp [*]; done)) o7_2 (by first | decide | (simp; done) | (simp; omega) | omega)) ?_
                    rintro _ H26_3 hu26_3
                    have z26_3 := hu26_3.size
                    replace hE := hE.upw hu26_3 (by omega)
                    replace o4_4 := o4_4.upw hu26_3 (by omega)
                    replace o4_6 := o4_6.upw hu26_3 (by omega)
                    replace o5_0 := o5_0.upw hu26_3 (by omega)
                    replace o5_1 := o5_1.upw hu26_3 (by omega)
                    replace o5_4 := o5_4.upw hu26_3 (by omega)
                    replace o6_1 := o6_1.upw hu26_3 (by omega)
                    replace o6_3 := o6_3.upw hu26_3 (by omega)
                    replace o7_4 := o7_4.upw hu26_3 (by omega)
                    replace o8_7 := o8_7.upw hu26_3 (by omega)
                    replace o7_2 := hu26_3.own
                    first | rw [over (by first | rfl | (simp; done))] at o7_2 | skip
                    refine Reg.nil ?_
                    exact At.meets rfl (hJ (⟨some ⟨H4_7.size, 0, none⟩, 2, [1, 2], some ⟨H5_0.size, 0, none⟩, 1, [3], some ⟨H1_0.size, 0, none⟩, 3, fF, some ⟨H6_4.size, 0, none⟩, 2, [⟨some ⟨H5_5.size, 0, none⟩, 1, fN⟩, ⟨none, 0, []⟩], some ⟨H7_2.size, 0, none⟩, 1, fR⟩ : Sfm) _ ⟨⟨⟨sl_own (L := [1, 2]) (wide1 _) (by decide) o5_0 (Nat.le_of_ble_eq_true rfl), sl_own (L := [3]) (wide1 _) (by decide) o5_1 (Nat.le_of_ble_eq_true rfl), sl_own (L := fF) (wide9 h9F) (by decide) o4_4 (by decide), h9F⟩, tds_own (ts := [⟨some ⟨H5_5.size, 0, none⟩, 1, fN⟩, ⟨none, 0, []⟩]) o7_2 (all_two (td_ok h9N o6_1 (by decide)) ⟨sl_nil0 _, k50', by decide⟩) (Nat.le_of_ble_eq_true rfl), sl_own (L := fR) (wide5 k5) (by decide) o7_4 (by decide), k5, tak_b (b := bT 2 ⟨none, 0, []⟩) (by simp [takB]) rfl, o5_4, ⟨(Nat.le_of_ble_eq_true rfl), (Nat.le_of_ble_eq_true rfl), (Nat.le_of_ble_eq_true rfl), (Nat.le_of_ble_eq_true rfl)⟩⟩, hE⟩) ⟨rfl, rfl, rfl, rfl, trivial⟩
                  · first | (simp only [decide_eq_true_eq, decide_eq_false_iff_not, Bool.not_eq_true', Bool.not_eq_false', ne_eq, Decidable.not_not, Bool.not_eq_true, Bool.not_eq_false] at q90) | (dsimp only at q90) | skip
                    refine At.region rfl rfl ?_
                    refine Reg.pur rfl rfl rfl rfl (Pur.mv rfl) ?_
                    refine Reg.pur rfl rfl rfl rfl (Pur.bld (cs := [_, _, _, _, _, _, _, _, _]) pl47 zc47 rfl rfl ⟨rfl, rfl, rfl, rfl, rfl, rfl, rfl, rfl, rfl, rfl⟩) ?_
                    refine Reg.op rfl rfl rfl rfl (Does.bslA ([[_, _, _, _, _, _, _, _, _]]) slA23 rfl rfl rfl rfl rfl rfl) ?_
                    rintro _ H10_2 ⟨rfl, hp10_2⟩
                    have hn10_2 := New.of_eq hp10_2
                    have z10_2 := hn10_2.size
                    replace hE := hE.ext hn10_2.ext
                    replace o4_4 := o4_4.ext hn10_2.ext
                    replace o4_6 := o4_6.ext hn10_2.ext
                    replace o5_0 := o5_0.ext hn10_2.ext
                    replace o5_1 := o5_1.ext hn10_2.ext
                    replace o5_4 := o5_4.ext hn10_2.ext
                    replace o6_1 := o6_1.ext hn10_2.ext
                    replace o6_3 := o6_3.ext hn10_2.ext
                    replace o7_2 := o7_2.ext hn10_2.ext
                    replace hg := hg.ext hn10_2.ext
                    replace o7_4 := o7_4.ext hn10_2.ext
                    replace o8_7 := o8_7.ext hn10_2.ext
                    have o10_2 := hn10_2.own
                    refine Reg.pur rfl rfl rfl rfl (Pur.bld (cs := [_]) pl25 zc25 rfl rfl ⟨rfl, rfl⟩) ?_
                    refine Reg.pur rfl rfl rfl rfl (Pur.fld _ fo56_2 rfl) ?_
                    refine Reg.op0 rfl rfl rfl (Does.stn ag25 rfl rfl (by first | rfl | exact ones_Is _) (by first | rfl | (simp [*]; done)) o5_4 (by first | decide | (simp; done) | (simp; omega) | omega)) ?_
                    rintro _ H10_5 hu10_5
                    have z10_5 := hu10_5.size
                    replace hE := hE.upw hu10_5 (by omega)
                    replace o4_4 := o4_4.upw hu10_5 (by omega)
                    replace o4_6 := o4_6.upw hu10_5 (by omega)
                    replace o5_0 := o5_0.upw hu10_5 (by omega)
                    replace o5_1 := o5_1.upw hu10_5 (by omega)
                    replace o6_1 := o6_1.upw hu10_5 (by omega)
                    replace o6_3 := o6_3.upw hu10_5 (by omega)
                    replace o7_2 := o7_2.upw hu10_5 (by omega)
                    replace hg := hg.upw hu10_5 (by omega)
                    replace o7_4 := o7_4.upw hu10_5 (by omega)
                    replace o8_7 := o8_7.upw hu10_5 (by omega)
                    replace o10_2 := o10_2.upw hu10_5 (by omega)
                    replace o5_4 := hu10_5.own
                    first | rw [over (by first | rfl | (simp; done))] at o5_4 | skip
                    refine Reg.nil ?_
                    exact At.meets rfl (hJ (⟨some ⟨H4_7.size, 0, none⟩, 2, [1, 2], some ⟨H5_0.size, 0, none⟩, 1, [3], some ⟨H8_8.size, 0, none⟩, 1, [[0, d, 0, 0, 0, 0, 0, 0, 0]], some ⟨H6_4.size, 0, none⟩, 2, [⟨some ⟨H5_5.size, 0, none⟩, 1, fN⟩, ⟨some ⟨H5_5.size, 0, none⟩, 1, fN⟩], some ⟨H7_2.size, 0, none⟩, 1, fR⟩ : Sfm) _ ⟨⟨⟨sl_own (L := [1, 2]) (wide1 _) (by decide) o5_0 (Nat.le_of_ble_eq_true rfl), sl_own (L := [3]) (wide1 _) (by decide) o5_1 (Nat.le_of_ble_eq_true rfl), sl_own (L := [[0, d, 0, 0, 0, 0, 0, 0, 0]]) (wide9 (nine1 rfl)) (by decide) o10_2 (Nat.le_of_ble_eq_true rfl), nine1 rfl⟩, tds_own (ts := [⟨some ⟨H5_5.size, 0, none⟩, 1, fN⟩, ⟨some ⟨H5_5.size, 0, none⟩, 1, fN⟩]) o7_2 (all_two (td_ok h9N o6_1 (by decide)) (td_ok h9N o6_1 (by decide))) (Nat.le_of_ble_eq_true rfl), sl_own (L := fR) (wide5 k5) (by decide) o7_4 (by decide), k5, tak_L (by simp [typM, nodM]; intros; omega), o5_4, ⟨(Nat.le_of_ble_eq_true rfl), (Nat.le_of_ble_eq_true rfl), (Nat.le_of_ble_eq_true rfl), (Nat.le_of_ble_eq_true rfl)⟩⟩, hE⟩) ⟨rfl, rfl, rfl, rfl, trivial⟩
  · obtain ⟨hs, hE⟩ := hs
    obtain ⟨hsc, hT, hR, h5, hno, hown, hsm⟩ := hs
    have z_hE := hE.lt
    have z_hown := hown.lt
    refine At.region rfl rfl ?_
    refine Reg.lod rfl rfl rfl rfl (Lod.ldn ag56 rfl hown.blk (whole rfl) rfl) ?_
    refine Reg.pur rfl rfl rfl rfl (Pur.mv rfl) ?_
    refine Reg.pur rfl rfl rfl rfl (Pur.mv rfl) ?_
    refine Reg.op rfl rfl rfl rfl (Does.call rfl (take_ok hsc ⟨by omega, by omega⟩ (by omega) hT hR h5 (by omega))) ?_
    rintro v27_3 H27_3 ⟨hE27_3, hTv27_3⟩
    have z27_3 := hE27_3.lt
    replace hE := hE.ext hE27_3
    replace hown := hown.ext hE27_3
    rw [hno] at hTv27_3
    obtain ⟨A9, cap9, rfl, _, _, _⟩ := hTv27_3
    refine Reg.pur rfl rfl rfl rfl (Pur.mv rfl) ?_
    refine Reg.pur rfl rfl rfl rfl (Pur.ext rfl rfl) ?_
    refine Reg.pur rfl rfl rfl rfl (Pur.ext rfl rfl) ?_
    refine Reg.op rfl rfl rfl rfl (Does.alloc zc25) ?_
    rintro _ H27_7 ⟨rfl, hn27_7⟩
    have z27_7 := hn27_7.size
    replace hE := hE.ext hn27_7.ext
    replace hown := hown.ext hn27_7.ext
    have o27_7 := hn27_7.own
    refine Reg.op0 rfl rfl rfl (Does.stn ag25 rfl rfl (by first | rfl | exact ones_Is _) (by first | rfl | (simp [*]; done)) o27_7 (by first | decide | (simp; done) | (simp; omega) | omega)) ?_
    rintro _ H27_8 hu27_8
    have z27_8 := hu27_8.size
    replace hE := hE.upw hu27_8 (by omega)
    replace hown := hown.upw hu27_8 (by omega)
    replace o27_7 := hu27_8.own
    first | rw [over (by first | rfl | (simp; done))] at o27_7 | skip
    refine Reg.pur rfl rfl rfl rfl (Pur.asg rfl) ?_
    refine Reg.nil ?_
    refine At.region rfl rfl ?_
    refine Reg.pur rfl rfl rfl rfl (Pur.mv rfl) ?_
    refine Reg.op rfl rfl rfl rfl (Does.call rfl (numE_ok _ _)) ?_
    rintro _ H27_8 ⟨rfl, rfl⟩
    refine Reg.pur rfl rfl rfl rfl (Pur.eql rfl rfl) ?_
    refine Reg.pur rfl rfl rfl rfl (Pur.mv rfl) ?_
    refine Reg.known (b' := true) 105 rfl (by rfl) ?_
    refine Reg.gpur rfl rfl rfl rfl rfl rfl (Pur.fld _ fo25_0 rfl) ?_
    refine Reg.glod rfl rfl rfl rfl rfl rfl (Lod.ld sc23 rfl o27_7.blk (by first | rfl | (simp; done))) ?_
    refine Reg.gpur rfl rfl rfl rfl rfl rfl (Pur.lenS isl23 rfl) ?_
    refine Reg.gpur rfl rfl rfl rfl rfl rfl (Pur.eql rfl rfl) ?_
    refine Reg.pur rfl rfl rfl rfl (Pur.pickT rfl rfl) ?_
    refine Reg.pur rfl rfl rfl rfl (Pur.mv rfl) ?_
    refine Reg.known (b' := true) 111 rfl (by rfl) ?_
    refine Reg.gpur rfl rfl rfl rfl rfl rfl (Pur.mv rfl) ?_
    refine Reg.gop rfl rfl rfl rfl rfl rfl (Does.call rfl (numE_ok _ _)) ?_
    rintro _ H27_8 ⟨rfl, rfl⟩
    refine Reg.gpur rfl rfl rfl rfl rfl rfl (Pur.eql rfl rfl) ?_
    refine Reg.pur rfl rfl rfl rfl (Pur.pickT rfl rfl) ?_
    refine Reg.pur rfl rfl rfl rfl (Pur.asg rfl) ?_
    refine Reg.nil ?_
    refine At.ret rfl Try.func8 rfl ?_
    exact ⟨rfl, hE⟩
end Go.Proofs.Ytlfillhffpiffaa

/-
  Chapter 12: a function's type; what takes any type.
-/
namespace Go.Proofs.Ytlfillhffpiffaa
set_option linter.unusedSimpArgs false
set_option linter.unusedVariables false
set_option maxRecDepth 8000
set_option maxHeartbeats 1000000
open Go Go.Fx Go.Proofs
namespace FactsSchS
theorem ag25 : ag Try.prog 25 = some 1 := by kernel_rfl
theorem ag28 : ag Try.prog 28 = some 5 := by kernel_rfl
theorem ag47 : ag Try.prog 47 = some 9 := by kernel_rfl
theorem apt23 : appT Try.prog 23 = some (47, 9, 72) := by kernel_rfl
theorem es23 : esz Try.prog 23 = some 9 := by kernel_rfl
theorem fo25_0 : foff Try.prog 25 0 = some 0 := by kernel_rfl
theorem fo47_0 : foff Try.prog 47 0 = some 0 := by kernel_rfl
theorem fo47_2 : foff Try.prog 47 2 = some 2 := by kernel_rfl
theorem fo47_3 : foff Try.prog 47 3 = some 3 := by kernel_rfl
theorem isl23 : isSl Try.prog 23 = true := by kernel_rfl
theorem pl25 : places Try.prog 25 = some [(0, 1)] := by kernel_rfl
theorem pl47 : places Try.prog 47 = some [(0, 1), (1, 1), (2, 1), (3, 1), (4, 5)] := by kernel_rfl
theorem sc23 : sc Try.prog 23 = true := by kernel_rfl
theorem sc3 : sc Try.prog 3 = true := by kernel_rfl
theorem slA23 : slA Try.prog 23 = some (47, 9) := by kernel_rfl
theorem zc25 : zc Try.prog 25 = some [.slice none 0 0] := by kernel_rfl
theorem zc47 : zc Try.prog 47 = some [.int .i64 0, .int .i64 0, .int .i64 0, .int .i64 0, .int .i64 0, .int .i64 0, .int .i64 0, .int .i64 0, .int .i64 0] := by kernel_rfl
end FactsSchS
open FactsSchS

/-- a function's type -/
def arrN (a b : Int) (r : List Int) : List Int := [3, 0, a - 1, a + b - 1] ++ r
def arr2 (La : List (List Int)) (r : List Int) (Lb : List (List Int)) : List (List Int) := La ++ Lb.map (movS La.length) ++ [arrN La.length Lb.length r]
theorem arrow_ok {A B : Option Addr} {ca cb : Nat} {La Lb : List (List Int)} {r : List Int} (ha : Nine La) (hb : Nine Lb) (hr : r.length = 5) {H : Heap} (hS : SlT H Is 9 (.slice A La.length ca) La) (hT : SlT H Is 9 (.slice B Lb.length cb) Lb) (hla : La.length ≤ 100000) (hlb : Lb.length ≤ 100000) :
    Ret Try.prog 42 [Ty A La.length ca, .agg (Is r).toArray, Ty B Lb.length cb] H (fun v H' => (∃ A' cap', v = Ty A' (arr2 La r Lb).length cap' ∧ Gs H' H.size 47 9 A' cap' (arr2 La r Lb).length ((arr2 La r Lb).flatMap Is)) ∧ Ext H H') := by
  obtain ⟨ra, rb, rc, rd, re, rfl⟩ : ∃ a b c d e, r = [a, b, c, d, e] := by match r, hr with | [a, b, c, d, e], _ => exact ⟨_, _, _, _, _, rfl⟩
  refine Ret.of_at (N := 62) Try.call42 Try.func42 rfl rfl rfl ?_
  have hE := Ext.refl H
  refine At.region rfl rfl ?_
  refine Reg.op rfl rfl rfl rfl (Does.box rfl rfl) ?_
  rintro _ H0_0 ⟨rfl, hn0_0⟩
  have z0_0 := hn0_0.size
  replace hE := hE.ext hn0_0.ext
  have o0_0 := hn0_0.own
  refine Reg.op rfl rfl rfl rfl (Does.box rfl rfl) ?_
  rintro _ H0_1 ⟨rfl, hn0_1⟩
  have z0_1 := hn0_1.size
  replace hE := hE.ext hn0_1.ext
  replace o0_0 := o0_0.ext hn0_1.ext
  have o0_1 := hn0_1.own
  refine Reg.op rfl rfl rfl rfl (Does.box rfl rfl) ?_
  rintro _ H0_2 ⟨rfl, hn0_2⟩
  have z0_2 := hn0_2.size
  replace hE := hE.ext hn0_2.ext
  replace o0_0 := o0_0.ext hn0_2.ext
  replace o0_1 := o0_1.ext hn0_2.ext
  have o0_2 := hn0_2.own
  refine Reg.op rfl rfl rfl rfl (Does.alloc zc25) ?_
  rintro _ H0_3 ⟨rfl, hn0_3⟩
  have z0_3 := hn0_3.size
  replace hE := hE.ext hn0_3.ext
  replace o0_0 := o0_0.ext hn0_3.ext
  replace o0_1 := o0_1.ext hn0_3.ext
  replace o0_2 := o0_2.ext hn0_3.ext
  have o0_3 := hn0_3.own
  refine Reg.nil ?_
  refine At.region rfl rfl ?_
  refine Reg.pur rfl rfl rfl rfl (Pur.fld _ fo25_0 rfl) ?_
  refine Reg.lod rfl rfl rfl rfl (Lod.ld sc23 rfl o0_0.blk (by first | rfl | (simp; done))) ?_
  refine Reg.pur rfl rfl rfl rfl (Pur.lenS isl23 rfl) ?_
  refine Reg.pur rfl rfl rfl rfl (Pur.asg rfl) ?_
  refine Reg.nil ?_
  refine At.region rfl rfl ?_
  refine Reg.op rfl rfl rfl rfl (Does.bslA ([]) slA23 rfl rfl rfl rfl rfl rfl) ?_
  rintro _ H2_0 ⟨rfl, hp2_0⟩
  have hn2_0 := New.of_eq hp2_0
  have z2_0 := hn2_0.size
  replace hE := hE.ext hn2_0.ext
  replace o0_0 := o0_0.ext hn2_0.ext
  replace o0_1 := o0_1.ext hn2_0.ext
  replace o0_2 := o0_2.ext hn2_0.ext
  replace o0_3 := o0_3.ext hn2_0.ext
  have o2_0 := hn2_0.own
  have hg : Gs H2_0 H0_3.size 47 9 (some ⟨H0_3.size, 0, none⟩) 0 ([] : List (List Int)).length (([] : List (List Int)).flatMap Is) := by rw [hp2_0]; exact OwnS.new (xs := []) (n := 0) rfl (by decide) (Nat.le_refl _)
  refine Reg.pur rfl rfl rfl rfl (Pur.fld _ fo25_0 rfl) ?_
  refine Reg.lod rfl rfl rfl rfl (Lod.ld sc23 rfl o0_0.blk (by first | rfl | (simp; done))) ?_

  have z_hg := hg.lt
  refine Reg.op rfl rfl rfl rfl (Does.appL apt23 rfl rfl (by decide) hg (wide9 ha) (hS.ext hE) (ones_flat La) (by simp; omega) (by omega)) ?_
  rintro _ H2_3 ⟨A2_3, cap2_3, rfl, g2_3, hbut2_3, ha2_3⟩
  have z2_3 := hbut2_3.lt
  replace hE := hE.via hbut2_3 (by first | omega | (intro g; omega) | (intro g hg; omega) | (intro g hg h; omega))
  replace o0_0 := o0_0.via hbut2_3 (by first | omega | (intro g; omega) | (intro g hg; omega) | (intro g hg h; omega))
  replace o0_1 := o0_1.via hbut2_3 (by first | omega | (intro g; omega) | (intro g hg; omega) | (intro g hg h; omega))
  replace o0_2 := o0_2.via hbut2_3 (by first | omega | (intro g; omega) | (intro g hg; omega) | (intro g hg h; omega))
  replace o0_3 := o0_3.via hbut2_3 (by first | omega | (intro g; omega) | (intro g hg; omega) | (intro g hg h; omega))
  replace hg := g2_3
  have zg2_3 := g2_3.lt
  refine Reg.pur rfl rfl rfl rfl (Pur.asg rfl) ?_
  refine Reg.nil ?_
  refine At.region rfl rfl ?_
  refine Reg.pur rfl rfl rfl rfl (Pur.asg rfl) ?_
  refine Reg.nil ?_
  refine At.loop (σ := Nat × List (List Int) × Option Addr × Nat) (fun (j, out', A', cap') => [(9, I j), (8, .slice A' out'.length cap'), (7, I La.length), (4, ptr H0_0.size 0), (5, ptr H0_1.size 0), (6, ptr H0_2.size 0)]) (fun (j, out', A', cap') H' => j ≤ Lb.length ∧ out' = La ++ (Lb.take j).map (movS La.length) ∧ Gs H' H0_3.size 47 9 A' cap' out'.length (out'.flatMap Is) ∧ Own H' H0_0.size (Is [ra, rb, rc, rd, re]) ∧ Own H' H0_1.size [.slice B Lb.length cb] ∧ Own H' H0_2.size [.slice none 0 0] ∧ Ext H H') (fun s => Lb.length - s.1) (0, [] ++ La, A2_3, cap2_3) rfl ⟨rfl, rfl, rfl, rfl, rfl, rfl, trivial⟩ ⟨by omega, by simp, hg, o0_1, o0_2, o0_3, hE⟩ ?_
  clear hg o0_0 o0_1 o0_2 o0_3 hE
  rintro ⟨j, out', A', cap'⟩ H8 ⟨hj, hout', hg, o0_1, o0_2, o0_3, hE⟩ ihj
  dsimp only at hj hout' hg ⊢
  have z_hE := hE.lt
  have z_hg := hg.lt
  have z_o0_1 := o0_1.lt
  have z_o0_2 := o0_2.lt
  have z_o0_3 := o0_3.lt
  have hol : out'.length = La.length + j := by rw [hout', List.length_append, List.length_map, List.length_take]; omega
  refine At.region rfl rfl ?_
  refine Reg.pur rfl rfl rfl rfl (Pur.mv rfl) ?_
  refine Reg.pur rfl rfl rfl rfl (Pur.fld _ fo25_0 rfl) ?_
  refine Reg.lod rfl rfl rfl rfl (Lod.ld sc23 rfl o0_2.blk (by first | rfl | (simp; done))) ?_
  refine Reg.pur rfl rfl rfl rfl (Pur.lenS isl23 rfl) ?_
  refine Reg.pur rfl rfl rfl rfl (Pur.lss rfl rfl) ?_
  refine Reg.nil ?_
  refine At.cond rfl rfl (fun q22 => ?_) (fun q22 => ?_)
  · first | (simp only [decide_eq_true_eq, decide_eq_false_iff_not, Bool.not_eq_true', Bool.not_eq_false', ne_eq, Decidable.not_not, Bool.not_eq_true, Bool.not_eq_false] at q22) | (dsimp only at q22) | skip
    have hlj : j < Lb.length := by omega
    obtain ⟨b', o', c', rfl, hB', hd', h9j⟩ := sl_at (wide9 hb) (hT.ext hE) hlj
    have h9j' := hb _ (List.getElem_mem hlj)
    have hnx := map1_mov (k := La.length) hlj
    generalize Lb[j] = y at hnx hd' h9j h9j'
    obtain ⟨k', v', p', q', d0, d1, d2, d3, t', rfl⟩ : ∃ k v p q c0 c1 c2 c3 t, y = [k, v, p, q, c0, c1, c2, c3, t] := by match y, h9j' with | [k, v, p, q, c0, c1, c2, c3, t], _ => exact ⟨_, _, _, _, _, _, _, _, _, rfl⟩
    refine At.region rfl rfl ?_
    refine Reg.pur rfl rfl rfl rfl (Pur.fld _ fo25_0 rfl) ?_
    refine Reg.lod rfl rfl rfl rfl (Lod.ld sc23 rfl o0_2.blk (by first | rfl | (simp; done))) ?_
    refine Reg.pur rfl rfl rfl rfl (Pur.mv rfl) ?_
    refine Reg.pur rfl rfl rfl rfl (Pur.idx _ es23 rfl rfl (by omega) (by omega)) ?_
    refine Reg.lod rfl rfl rfl rfl (Lod.ldn ag47 rfl hB' hd' h9j) ?_
    refine Reg.op rfl rfl rfl rfl (Does.alloc zc47) ?_
    rintro _ H6_5 ⟨rfl, hn6_5⟩
    have z6_5 := hn6_5.size
    replace hE := hE.ext hn6_5.ext
    replace hg := hg.ext hn6_5.ext
    replace o0_1 := o0_1.ext hn6_5.ext
    replace o0_2 := o0_2.ext hn6_5.ext
    replace o0_3 := o0_3.ext hn6_5.ext
    have o6_5 := hn6_5.own
    refine Reg.op0 rfl rfl rfl (Does.stn ag47 rfl rfl (by first | rfl | exact ones_Is _) (by first | rfl | (simp [*]; done)) o6_5 (by first | decide | (simp; done) | (simp; omega) | omega)) ?_
    rintro _ H6_6 hu6_6
    have z6_6 := hu6_6.size
    replace hE := hE.upw hu6_6 (by omega)
    replace hg := hg.upw hu6_6 (by omega)
    replace o0_1 := o0_1.upw hu6_6 (by omega)
    replace o0_2 := o0_2.upw hu6_6 (by omega)
    replace o0_3 := o0_3.upw hu6_6 (by omega)
    replace o6_5 := hu6_6.own
    first | rw [over (by first | rfl | (simp; done))] at o6_5 | skip
    refine Reg.nil ?_
    refine At.region rfl rfl ?_
    refine Reg.pur rfl rfl rfl rfl (Pur.fld _ fo47_0 rfl) ?_
    refine Reg.lod rfl rfl rfl rfl (Lod.ld sc3 rfl o6_5.blk (by first | rfl | (simp; done))) ?_
    refine Reg.pur rfl rfl rfl rfl (Pur.eql rfl rfl) ?_
    refine Reg.nil ?_
    refine At.cond rfl rfl (fun q32 => ?_) (fun q32 => ?_)
    · first | (simp only [decide_eq_true_eq, decide_eq_false_iff_not, Bool.not_eq_true', Bool.not_eq_false', ne_eq, Decidable.not_not, Bool.not_eq_true, Bool.not_eq_false] at q32) | (dsimp only at q32) | skip
      refine At.region rfl rfl ?_
      refine Reg.pur rfl rfl rfl rfl (Pur.fld _ fo47_2 rfl) ?_
      refine Reg.lod rfl rfl rfl rfl (Lod.ld sc3 rfl o6_5.blk (by first | rfl | (simp; done))) ?_
      refine Reg.pur rfl rfl rfl rfl (Pur.mv rfl) ?_
      first | refine Reg.pur rfl rfl rfl rfl (Pur.add64 rfl rfl (by omega)) ?_ | refine Reg.pur rfl rfl rfl rfl (Pur.add64 rfl rfl (by assumption)) ?_ | refine Reg.pur rfl rfl rfl rfl (Pur.add rfl rfl) ?_
      refine Reg.pur rfl rfl rfl rfl (Pur.fld _ fo47_2 rfl) ?_
      refine Reg.op0 rfl rfl rfl (Does.st sc3 rfl rfl rfl o6_5 (by first | decide | (simp; done) | (simp; omega) | omega)) ?_
      rintro _ H8_5 hu8_5
      have z8_5 := hu8_5.size
      replace hE := hE.upw hu8_5 (by omega)
      replace hg := hg.upw hu8_5 (by omega)
      replace o0_1 := o0_1.upw hu8_5 (by omega)
      replace o0_2 := o0_2.upw hu8_5 (by omega)
      replace o0_3 := o0_3.upw hu8_5 (by omega)
      replace o6_5 := hu8_5.own
      refine Reg.nil ?_
      refine At.region rfl rfl ?_
      refine Reg.pur rfl rfl rfl rfl (Pur.fld _ fo47_3 rfl) ?_
      refine Reg.lod rfl rfl rfl rfl (Lod.ld sc3 rfl o6_5.blk (by first | rfl | (simp; done))) ?_
      refine Reg.pur rfl rfl rfl rfl (Pur.mv rfl) ?_
      first | refine Reg.pur rfl rfl rfl rfl (Pur.add64 rfl rfl (by omega)) ?_ | refine Reg.pur rfl rfl rfl rfl (Pur.add64 rfl rfl (by assumption)) ?_ | refine Reg.pur rfl rfl rfl rfl (Pur.add rfl rfl) ?_
      refine Reg.pur rfl rfl rfl rfl (Pur.fld _ fo47_3 rfl) ?_
      refine Reg.op0 rfl rfl rfl (Does.st sc3 rfl rfl rfl o6_5 (by first | decide | (simp; done) | (simp; omega) | omega)) ?_
      rintro _ H9_5 hu9_5
      have z9_5 := hu9_5.size
      replace hE := hE.upw hu9_5 (by omega)
      replace hg := hg.upw hu9_5 (by omega)
      replace o0_1 := o0_1.upw hu9_5 (by omega)
      replace o0_2 := o0_2.upw hu9_5 (by omega)
      replace o0_3 := o0_3.upw hu9_5 (by omega)
      replace o6_5 := hu9_5.own
      refine Reg.nil ?_
      have hy : Own H9_5 H8.size (Is (movS La.length [k', v', p', q', d0, d1, d2, d3, t'])) := by first | exact o6_5 | (rw [movS_not3 (x := [k', v', p', q', d0, d1, d2, d3, t']) q32]; exact o6_5) | (rw [show movS La.length [k', v', p', q', d0, d1, d2, d3, t'] = [k', v', IntKind.i64.wrap (p' + La.length), IntKind.i64.wrap (q' + La.length), d0, d1, d2, d3, t'] by subst q32; rfl]; exact o6_5)
      have hyl : (movS La.length [k', v', p', q', d0, d1, d2, d3, t']).length = 9 := movS_len _ _
      have hyl' : (Is (movS La.length [k', v', p', q', d0, d1, d2, d3, t'])).length = 9 := by simp [hyl]
      generalize hyy : movS La.length [k', v', p', q', d0, d1, d2, d3, t'] = y' at hy hyl hyl' hnx
      refine At.region rfl rfl ?_
      refine Reg.pur rfl rfl rfl rfl (Pur.mv rfl) ?_
      refine Reg.lod rfl rfl rfl rfl (Lod.ldn ag47 rfl hy.blk (whole hyl') hyl') ?_
      refine Reg.op rfl rfl rfl rfl (Does.bslA ([Is y']) slA23 rfl rfl rfl (by simp [hyl]) rfl rfl) ?_
      rintro _ H10_2 ⟨rfl, hp10_2⟩
      have hn10_2 := New.of_eq hp10_2
      have z10_2 := hn10_2.size
      replace hE := hE.ext hn10_2.ext
      replace hg := hg.ext hn10_2.ext
      replace o0_1 := o0_1.ext hn10_2.ext
      replace o0_2 := o0_2.ext hn10_2.ext
      replace o0_3 := o0_3.ext hn10_2.ext
      replace o6_5 := o6_5.ext hn10_2.ext
      have o10_2 := hn10_2.own
      refine Reg.op rfl rfl rfl rfl (Does.appL apt23 rfl rfl (by decide) hg (wide9 (nine1 hyl)) (sl_one (x := y') hyl' (by decide) hn10_2) (ones_flat _) (by simp; omega) (by omega)) ?_
      rintro _ H10_3 ⟨A10_3, cap10_3, rfl, g10_3, hbut10_3, ha10_3⟩
      have z10_3 := hbut10_3.lt
      replace hE := hE.via hbut10_3 (by first | omega | (intro g; omega) | (intro g hg; omega) | (intro g hg h; omega))
      replace o0_1 := o0_1.via hbut10_3 (by first | omega | (intro g; omega) | (intro g hg; omega) | (intro g hg h; omega))
      replace o0_2 := o0_2.via hbut10_3 (by first | omega | (intro g; omega) | (intro g hg; omega) | (intro g hg h; omega))
      replace o0_3 := o0_3.via hbut10_3 (by first | omega | (intro g; omega) | (intro g hg; omega) | (intro g hg h; omega))
      replace o6_5 := o6_5.via hbut10_3 (by first | omega | (intro g; omega) | (intro g hg; omega) | (intro g hg h; omega))
      replace o10_2 := o10_2.via hbut10_3 (by first | omega | (intro g; omega) | (intro g hg; omega) | (intro g hg h; omega))
      replace hg := g10_3
      have zg10_3 := g10_3.lt
      refine Reg.pur rfl rfl rfl rfl (Pur.asg rfl) ?_
      refine Reg.nil ?_
      refine At.region rfl rfl ?_
      refine Reg.pur rfl rfl rfl rfl (Pur.mv rfl) ?_
      first | refine Reg.pur rfl rfl rfl rfl (Pur.add64 rfl rfl (by omega)) ?_ | refine Reg.pur rfl rfl rfl rfl (Pur.add64 rfl rfl (by assumption)) ?_ | refine Reg.pur rfl rfl rfl rfl (Pur.add rfl rfl) ?_
      refine Reg.pur rfl rfl rfl rfl (Pur.asg rfl) ?_
      refine Reg.nil ?_
      exact At.via (ihj (j + 1, out' ++ [y'], A10_3, cap10_3) _ ⟨by omega, by rw [hnx, hout', List.append_assoc], hg, o0_1, o0_2, o0_3, hE⟩ (by simp only; omega)) ⟨rfl, rfl, rfl, rfl, rfl, rfl, trivial⟩
    · first | (simp only [decide_eq_true_eq, decide_eq_false_iff_not, Bool.not_eq_true', Bool.not_eq_false', ne_eq, Decidable.not_not, Bool.not_eq_true, Bool.not_eq_false] at q32) | (dsimp only at q32) | skip
      have hy : Own H6_6 H8.size (Is (movS La.length [k', v', p', q', d0, d1, d2, d3, t'])) := by first | exact o6_5 | (rw [movS_not3 (x := [k', v', p', q', d0, d1, d2, d3, t']) q32]; exact o6_5) | (rw [show movS La.length [k', v', p', q', d0, d1, d2, d3, t'] = [k', v', IntKind.i64.wrap (p' + La.length), IntKind.i64.wrap (q' + La.length), d0, d1, d2, d3, t'] by subst q32; rfl]; exact o6_5)
      have hyl : (movS La.length [k', v', p', q', d0, d1, d2, d3, t']).length = 9 := movS_len _ _
      have hyl' : (Is (movS La.length [k', v', p', q', d0, d1, d2, d3, t'])).length = 9 := by simp [hyl]
      generalize hyy : movS La.length [k', v', p', q', d0, d1, d2, d3, t'] = y' at hy hyl hyl' hnx
      refine At.region rfl rfl ?_
      refine Reg.pur rfl rfl rfl rfl (Pur.mv rfl) ?_
      refine Reg.lod rfl rfl rfl rfl (Lod.ldn ag47 rfl hy.blk (whole hyl') hyl') ?_
      refine Reg.op rfl rfl rfl rfl (Does.bslA ([Is y']) slA23 rfl rfl rfl (by simp [hyl]) rfl rfl) ?_
      rintro _ H10_2 ⟨rfl, hp10_2⟩
      have hn10_2 := New.of_eq hp10_2
      have z10_2 := hn10_2.size
      replace hE := hE.ext hn10_2.ext
      replace hg := hg.ext hn10_2.ext
      replace o0_1 := o0_1.ext hn10_2.ext
      replace o0_2 := o0_2.ext hn10_2.ext
      replace o0_3 := o0_3.ext hn10_2.ext
      replace o6_5 := o6_5.ext hn10_2.ext
      have o10_2 := hn10_2.own
      refine Reg.op rfl rfl rfl rfl (Does.appL apt23 rfl rfl (by decide) hg (wide9 (nine1 hyl)) (sl_one (x := y') hyl' (by decide) hn10_2) (ones_flat _) (by simp; omega) (by omega)) ?_
      rintro _ H10_3 ⟨A10_3, cap10_3, rfl, g10_3, hbut10_3, ha10_3⟩
      have z10_3 := hbut10_3.lt
      replace hE := hE.via hbut10_3 (by first | omega | (intro g; omega) | (intro g hg; omega) | (intro g hg h; omega))
      replace o0_1 := o0_1.via hbut10_3 (by first | omega | (intro g; omega) | (intro g hg; omega) | (intro g hg h; omega))
      replace o0_2 := o0_2.via hbut10_3 (by first | omega | (intro g; omega) | (intro g hg; omega) | (intro g hg h; omega))
      replace o0_3 := o0_3.via hbut10_3 (by first | omega | (intro g; omega) | (intro g hg; omega) | (intro g hg h; omega))
      replace o6_5 := o6_5.via hbut10_3 (by first | omega | (intro g; omega) | (intro g hg; omega) | (intro g hg h; omega))
      replace o10_2 := o10_2.via hbut10_3 (by first | omega | (intro g; omega) | (intro g hg; omega) | (intro g hg h; omega))
      replace hg := g10_3
      have zg10_3 := g10_3.lt
      refine Reg.pur rfl rfl rfl rfl (Pur.asg rfl) ?_
      refine Reg.nil ?_
      refine At.region rfl rfl ?_
      refine Reg.pur rfl rfl rfl rfl (Pur.mv rfl) ?_
      first | refine Reg.pur rfl rfl rfl rfl (Pur.add64 rfl rfl (by omega)) ?_ | refine Reg.pur rfl rfl rfl rfl (Pur.add64 rfl rfl (by assumption)) ?_ | refine Reg.pur rfl rfl rfl rfl (Pur.add rfl rfl) ?_
      refine Reg.pur rfl rfl rfl rfl (Pur.asg rfl) ?_
      refine Reg.nil ?_
      exact At.via (ihj (j + 1, out' ++ [y'], A10_3, cap10_3) _ ⟨by omega, by rw [hnx, hout', List.append_assoc], hg, o0_1, o0_2, o0_3, hE⟩ (by simp only; omega)) ⟨rfl, rfl, rfl, rfl, rfl, rfl, trivial⟩
  · first | (simp only [decide_eq_true_eq, decide_eq_false_iff_not, Bool.not_eq_true', Bool.not_eq_false', ne_eq, Decidable.not_not, Bool.not_eq_true, Bool.not_eq_false] at q22) | (dsimp only at q22) | skip
    refine At.region rfl rfl ?_
    refine Reg.pur rfl rfl rfl rfl (Pur.mv rfl) ?_
    refine Reg.pur rfl rfl rfl rfl (Pur.mv rfl) ?_
    refine Reg.pur rfl rfl rfl rfl (Pur.sub64 rfl rfl (by omega)) ?_
    refine Reg.pur rfl rfl rfl rfl (Pur.mv rfl) ?_
    refine Reg.pur rfl rfl rfl rfl (Pur.fld _ fo25_0 rfl) ?_
    refine Reg.lod rfl rfl rfl rfl (Lod.ld sc23 rfl o0_2.blk (by first | rfl | (simp; done))) ?_
    refine Reg.pur rfl rfl rfl rfl (Pur.lenS isl23 rfl) ?_
    refine Reg.pur rfl rfl rfl rfl (Pur.add64 rfl rfl (by omega)) ?_
    refine Reg.pur rfl rfl rfl rfl (Pur.sub64 rfl rfl (by omega)) ?_
    refine Reg.lod rfl rfl rfl rfl (Lod.ldn ag28 rfl o0_1.blk (by first | exact whole rfl | rfl | (simp only [List.drop_succ_cons, List.drop_zero, List.take_succ_cons, List.take_zero]; rfl)) (by first | rfl | (simp [*]; done))) ?_
    refine Reg.pur rfl rfl rfl rfl (Pur.bld (cs := [_, _, _, _, _, _, _, _, _]) pl47 zc47 rfl rfl ⟨rfl, rfl, rfl, rfl, rfl, rfl, rfl, rfl, rfl, rfl⟩) ?_
    refine Reg.op rfl rfl rfl rfl (Does.bslA ([[_, _, _, _, _, _, _, _, _]]) slA23 rfl rfl rfl rfl rfl rfl) ?_
    rintro _ H11_11 ⟨rfl, hp11_11⟩
    have hn11_11 := New.of_eq hp11_11
    have z11_11 := hn11_11.size
    replace hE := hE.ext hn11_11.ext
    replace hg := hg.ext hn11_11.ext
    replace o0_1 := o0_1.ext hn11_11.ext
    replace o0_2 := o0_2.ext hn11_11.ext
    replace o0_3 := o0_3.ext hn11_11.ext
    have o11_11 := hn11_11.own
    refine Reg.op rfl rfl rfl rfl (Does.appL apt23 rfl rfl (by decide) hg (wide9 (nine1 (x := arrN La.length Lb.length [ra, rb, rc, rd, re]) rfl)) (sl_one (x := arrN La.length Lb.length [ra, rb, rc, rd, re]) rfl (by decide) hn11_11) (ones_flat _) (by simp; omega) (by omega)) ?_
    rintro _ H11_12 ⟨A11_12, cap11_12, rfl, g11_12, hbut11_12, ha11_12⟩
    have z11_12 := hbut11_12.lt
    replace hE := hE.via hbut11_12 (by first | omega | (intro g; omega) | (intro g hg; omega) | (intro g hg h; omega))
    replace o0_1 := o0_1.via hbut11_12 (by first | omega | (intro g; omega) | (intro g hg; omega) | (intro g hg h; omega))
    replace o0_2 := o0_2.via hbut11_12 (by first | omega | (intro g; omega) | (intro g hg; omega) | (intro g hg h; omega))
    replace o0_3 := o0_3.via hbut11_12 (by first | omega | (intro g; omega) | (intro g hg; omega) | (intro g hg h; omega))
    replace o11_11 := o11_11.via hbut11_12 (by first | omega | (intro g; omega) | (intro g hg; omega) | (intro g hg h; omega))
    replace hg := g11_12
    have zg11_12 := g11_12.lt
    refine Reg.pur rfl rfl rfl rfl (Pur.asg rfl) ?_
    refine Reg.nil ?_
    refine At.region rfl rfl ?_
    refine Reg.pur rfl rfl rfl rfl (Pur.mv rfl) ?_
    refine Reg.pur rfl rfl rfl rfl (Pur.bld (cs := [_]) pl25 zc25 rfl rfl ⟨rfl, rfl⟩) ?_
    refine Reg.op0 rfl rfl rfl (Does.stn ag25 rfl rfl (by first | rfl | exact ones_Is _) (by first | rfl | (simp [*]; done)) o0_3 (by first | decide | (simp; done) | (simp; omega) | omega)) ?_
    rintro _ H12_2 hu12_2
    have z12_2 := hu12_2.size
    replace hE := hE.upw hu12_2 (by omega)
    replace hg := hg.upw hu12_2 (by omega)
    replace o0_1 := o0_1.upw hu12_2 (by omega)
    replace o0_2 := o0_2.upw hu12_2 (by omega)
    replace o11_11 := o11_11.upw hu12_2 (by omega)
    replace o0_3 := hu12_2.own
    first | rw [over (by first | rfl | (simp; done))] at o0_3 | skip
    refine Reg.nil ?_
    refine At.retC rfl Try.func42 ⟨_, _, _, _, rfl, rfl, ⟨_, o0_3.blk, .inr ⟨_, _, ag25, (by first | exact whole rfl | exact whole (by simp [*])), (by first | rfl | simp [*]), rfl⟩⟩, rfl⟩ ?_
    have hall : out' ++ [arrN La.length Lb.length [ra, rb, rc, rd, re]] = arr2 La [ra, rb, rc, rd, re] Lb := by rw [hout', List.take_of_length_le (by omega)]; rfl
    rw [← hall]
    exact ⟨⟨A11_12, cap11_12, rfl, hg.mono (by omega)⟩, hE⟩

abbrev idF : List (List Int) := [[2, 4, 0, 0, 0, 0, 0, 0, 0], [2, 4, 0, 0, 0, 0, 0, 0, 0], [3, 0, 0, 1, 0, 0, 0, 0, 4]]
theorem idV : cloV idF [] = [4] := by kernel_rfl
theorem idR : cloR idF [] = [4] := by kernel_rfl
theorem idT : cloT idF = idF := by kernel_rfl
theorem idO : typM idF = true := by kernel_rfl
theorem mov0 {L : List (List Int)} (hL : Nine L) (hM : typM L = true) : L.map (movS (0 : Nat)) = L := by
  have h256 := (typM_bgn hM).1.2
  apply List.ext_getElem (by simp)
  intro i h1 h2
  rw [List.getElem_map]
  have h9 := hL _ (List.getElem_mem h2)
  have hf := typM_all hM h2
  generalize L[i] = x at h9 hf
  unfold movS
  split
  · rename_i h3
    have := hf h3
    match x, h9 with
    | [k, v, a, b, c0, c1, c2, c3, t], _ =>
      have h2' : a = 0 ∨ True := .inr trivial
      simp only [List.getD_cons_succ, List.getD_cons_zero, List.getD_eq_getElem?_getD, List.getElem?_cons_succ, List.getElem?_cons_zero, Option.getD_some] at this
      have e1 : IntKind.i64.wrap (a + ((0 : Nat) : Int)) = a := by rw [Int.natCast_zero, Int.add_zero]; exact wrap_in (by omega)
      have e2 : IntKind.i64.wrap (b + ((0 : Nat) : Int)) = b := by rw [Int.natCast_zero, Int.add_zero]; exact wrap_in (by omega)
      simp only [List.set_cons_succ, List.set_cons_zero, List.getD_cons_succ, List.getD_cons_zero, e1, e2]
  · rfl
theorem sum_zero {r : List Int} (hr : r.length = 5) (hm : rowM r = true) : sumOk [0, 0, 0, 0, 4] r = true ∧ sumR [0, 0, 0, 0, 4] r = r := by
  match r, hr with
  | [a, b, c, d, t], _ =>
    simp only [rowM, List.take_succ_cons, List.take_zero, List.all_cons, List.all_nil, Bool.and_true, Bool.and_eq_true, okc, decide_eq_true_eq] at hm
    obtain ⟨⟨ha, hb, hc, hd⟩, _⟩ := hm
    have e0 : sm [0, 0, 0, 0, 4] [a, b, c, d, t] 0 = a := by show IntKind.i64.wrap (0 + a) = a; rw [Int.zero_add]; exact wrap_in (by omega)
    have e1 : sm [0, 0, 0, 0, 4] [a, b, c, d, t] 1 = b := by show IntKind.i64.wrap (0 + b) = b; rw [Int.zero_add]; exact wrap_in (by omega)
    have e2 : sm [0, 0, 0, 0, 4] [a, b, c, d, t] 2 = c := by show IntKind.i64.wrap (0 + c) = c; rw [Int.zero_add]; exact wrap_in (by omega)
    have e3 : sm [0, 0, 0, 0, 4] [a, b, c, d, t] 3 = d := by show IntKind.i64.wrap (0 + d) = d; rw [Int.zero_add]; exact wrap_in (by omega)
    constructor
    · rw [sumOk, show List.range 4 = [0, 1, 2, 3] from rfl]
      simp only [List.all_cons, List.all_nil, e0, e1, e2, e3, Bool.and_true, Bool.and_eq_true, decide_eq_true_eq]
      omega
    · rw [sumR, show List.range 4 = [0, 1, 2, 3] from rfl]
      simp only [List.map_cons, List.map_nil, e0, e1, e2, e3]
      rfl
end Go.Proofs.Ytlfillhffpiffaa

/-
  Chapter 12: what takes any type, any row.
-/
namespace Go.Proofs.Ytlfillhffpiffaa
set_option linter.unusedSimpArgs false
set_option linter.unusedVariables false
set_option maxRecDepth 8000
set_option maxHeartbeats 1000000
open Go Go.Fx Go.Proofs
namespace FactsSchT
theorem ag25 : ag Try.prog 25 = some 1 := by kernel_rfl
theorem ag28 : ag Try.prog 28 = some 5 := by kernel_rfl
theorem ag56 : ag Try.prog 56 = some 3 := by kernel_rfl
theorem fo25_0 : foff Try.prog 25 0 = some 0 := by kernel_rfl
theorem isl23 : isSl Try.prog 23 = true := by kernel_rfl
theorem mixed : Try.prog.follows .mixedOrders = true := by kernel_rfl
theorem pl25 : places Try.prog 25 = some [(0, 1)] := by kernel_rfl
theorem pl28 : places Try.prog 28 = some [(0, 4), (4, 1)] := by kernel_rfl
theorem pl47 : places Try.prog 47 = some [(0, 1), (1, 1), (2, 1), (3, 1), (4, 5)] := by kernel_rfl
theorem sc23 : sc Try.prog 23 = true := by kernel_rfl
theorem slA23 : slA Try.prog 23 = some (47, 9) := by kernel_rfl
theorem slA57 : slA Try.prog 57 = some (25, 1) := by kernel_rfl
theorem slA58 : slA Try.prog 58 = some (28, 5) := by kernel_rfl
theorem zc25 : zc Try.prog 25 = some [.slice none 0 0] := by kernel_rfl
theorem zc28 : zc Try.prog 28 = some [.int .i64 0, .int .i64 0, .int .i64 0, .int .i64 0, .int .i64 0] := by kernel_rfl
theorem zc47 : zc Try.prog 47 = some [.int .i64 0, .int .i64 0, .int .i64 0, .int .i64 0, .int .i64 0, .int .i64 0, .int .i64 0, .int .i64 0, .int .i64 0] := by kernel_rfl
theorem zc56 : zc Try.prog 56 = some [.slice none 0 0, .slice none 0 0, .slice none 0 0] := by kernel_rfl
end FactsSchT
open FactsSchT

theorem goS_cons (Bs : List Bd) (x : List Int) (xs out : List (List Int)) (ends : List Int) : goS Bs (x :: xs) out ends = match moreS Bs out ends x with
    | none => none
    | some m => if 256 < out.length + m.length then none else goS Bs xs (out ++ m) (ends ++ [((out.length + m.length : Nat) : Int) - 1]) := rfl
theorem id_var {td : Td} {r : List Int} {out : List (List Int)} {ends : List Int} : moreS [bT 4 td, bR 4 r] out ends [2, 4, 0, 0, 0, 0, 0, 0, 0] = some (td.nodes.map (movS out.length)) := rfl
theorem id_fun {td : Td} {r : List Int} (hr : r.length = 5) (hm : rowM r = true) {out : List (List Int)} {a b : Int} : moreS [bT 4 td, bR 4 r] out [a, b] [3, 0, 0, 1, 0, 0, 0, 0, 4] = some [[3, 0, a, b] ++ r] := by
  have hs : rowS [bT 4 td, bR 4 r] [0, 0, 0, 0, 4] = (r, true) := by
    have := sum_zero hr hm
    rw [rowS_sum (bd := bR 4 r) (by decide) rfl this.1]
    show (sumR [0, 0, 0, 0, 4] r, true) = (r, true)
    rw [this.2]
  unfold moreS
  rw [if_neg (by decide), if_pos (by decide)]
  rw [show ([3, 0, 0, 1, 0, 0, 0, 0, 4] : List Int).drop 4 = [0, 0, 0, 0, 4] from rfl, hs]
  rfl
theorem tak_id {td : Td} {r : List Int} (h9 : Nine td.nodes) (hr : r.length = 5) : takT [4] [td] [4] [r] idF = if typM td.nodes = true ∧ rowM r = true ∧ 2 * td.nodes.length + 1 ≤ 256 then some (arr2 td.nodes r td.nodes) else none := by
  have hO : takO [4] [td] [4] [r] = true := rfl
  have hB : bindsM [bT 4 td, bR 4 r] = (typM td.nodes && rowM r) := by
    simp [bindsM, bindM, bT, bR]
  unfold takT
  rw [if_pos hO]
  show subT [bT 4 td, bR 4 r] idF = _
  unfold subT
  rw [hB]
  by_cases hM : typM td.nodes = true
  · by_cases hR : rowM r = true
    · rw [if_pos ⟨by rw [hM, hR]; rfl, idO⟩]
      have h256 := (typM_bgn hM).1.2
      have hm0 := mov0 h9 hM
      unfold typS
      rw [goS_cons, id_var, show (([] : List (List Int)).length : Int) = ((0 : Nat) : Int) from rfl, hm0]
      dsimp only
      rw [if_neg (by simp; omega), List.nil_append, List.nil_append, goS_cons, id_var]
      dsimp only
      rw [List.length_map]
      by_cases h1 : 256 < td.nodes.length + td.nodes.length
      · rw [if_pos h1, if_neg (by omega)]
      · rw [if_neg h1]
        simp only [List.length_nil, Nat.zero_add, List.singleton_append]
        rw [goS_cons, id_fun hr hR]
        dsimp only
        rw [List.length_append, List.length_map]
        by_cases h2 : 256 < td.nodes.length + td.nodes.length + 1
        · rw [if_pos (by simpa using h2), if_neg (by omega)]
        · rw [if_neg (by simpa using h2), if_pos ⟨hM, hR, by omega⟩]
          show some _ = some _
          congr 1
    · rw [if_neg (by rw [hM]; simp [hR]), if_neg (by rintro ⟨_, h, _⟩; exact hR h)]
  · rw [if_neg (by simp [hM]), if_neg (by rintro ⟨h, _, _⟩; exact hM h)]

theorem nine_arr {La Lb : List (List Int)} {r : List Int} (ha : Nine La) (hb : Nine Lb) (hr : r.length = 5) : Nine (arr2 La r Lb) :=
  nine_app (nine_app ha (nine_mov hb)) (nine1 (by simp [arrN, hr]))
theorem schemeTakes_law {A : Option Addr} {cap : Nat} {T : List (List Int)} {H : Heap} (hS : SlT H Is 9 (.slice A T.length cap) T) (hT9 : Nine T) (hm : T.length * 72 ≤ 140737488351232) (r : List Int) (hr : r.length = 5) :
    Ret Try.prog 10 [Ty A T.length cap, .agg (Is r).toArray] H (fun v H' => v = .bool true ∧ Ext H H') := by
  have hr' : (Is r).length = 5 := by simp [hr]
  have h9I : Nine idF := nine_lit rfl
  have htk := tak_id (td := ⟨A, cap, T⟩) (r := r) hT9 hr
  have htd : Td.Ok H ⟨A, cap, T⟩ := ⟨hS, hT9, hm⟩
  dsimp only at htk
  refine Ret.of_at (N := 71) Try.call10 Try.func10 rfl rfl rfl ?_
  have hE := Ext.refl H
  refine At.region rfl rfl ?_
  refine Reg.op rfl rfl rfl rfl (Does.box rfl rfl) ?_
  rintro _ H0_0 ⟨rfl, hn0_0⟩
  have z0_0 := hn0_0.size
  replace hE := hE.ext hn0_0.ext
  have o0_0 := hn0_0.own
  refine Reg.op rfl rfl rfl rfl (Does.box rfl rfl) ?_
  rintro _ H0_1 ⟨rfl, hn0_1⟩
  have z0_1 := hn0_1.size
  replace hE := hE.ext hn0_1.ext
  replace o0_0 := o0_0.ext hn0_1.ext
  have o0_1 := hn0_1.own
  refine Reg.pur rfl rfl rfl rfl (Pur.asg rfl) ?_
  refine Reg.nil ?_
  refine At.region rfl rfl ?_
  refine Reg.op rfl rfl rfl rfl (Does.call rfl (awake12_ok _)) ?_
  rintro _ H1_0 ⟨rfl, hE1_0⟩
  have z1_0 := hE1_0.lt
  replace hE := hE.ext hE1_0
  replace o0_0 := o0_0.ext hE1_0
  replace o0_1 := o0_1.ext hE1_0
  refine Reg.pur rfl rfl rfl rfl (Pur.not rfl) ?_
  refine Reg.nil ?_
  refine At.condF rfl rfl rfl ?_
  refine At.region rfl rfl ?_
  refine Reg.pur rfl rfl rfl rfl (Pur.bld (cs := [_, _, _, _, _, _, _, _, _]) pl47 zc47 rfl rfl ⟨rfl, rfl, rfl, rfl, rfl, rfl, rfl, rfl, rfl, rfl⟩) ?_
  refine Reg.pur rfl rfl rfl rfl (Pur.bld (cs := [_, _, _, _, _, _, _, _, _]) pl47 zc47 rfl rfl ⟨rfl, rfl, rfl, rfl, rfl, rfl, rfl, rfl, rfl, rfl⟩) ?_
  refine Reg.pur rfl rfl rfl rfl (Pur.bld (cs := [_, _, _, _, _]) pl28 zc28 rfl rfl ⟨rfl, rfl, rfl, rfl, rfl, rfl⟩) ?_
  refine Reg.pur rfl rfl rfl rfl (Pur.bld (cs := [_, _, _, _, _, _, _, _, _]) pl47 zc47 rfl rfl ⟨rfl, rfl, rfl, rfl, rfl, rfl, rfl, rfl, rfl, rfl⟩) ?_
  refine Reg.op rfl rfl rfl rfl (Does.bslA ([[_, _, _, _, _, _, _, _, _], [_, _, _, _, _, _, _, _, _], [_, _, _, _, _, _, _, _, _]]) slA23 rfl rfl rfl rfl rfl rfl) ?_
  rintro _ H3_4 ⟨rfl, hp3_4⟩
  have hn3_4 := New.of_eq hp3_4
  have z3_4 := hn3_4.size
  replace hE := hE.ext hn3_4.ext
  replace o0_0 := o0_0.ext hn3_4.ext
  replace o0_1 := o0_1.ext hn3_4.ext
  have o3_4 := hn3_4.own
  refine Reg.pur rfl rfl rfl rfl (Pur.bld (cs := [_]) pl25 zc25 rfl rfl ⟨rfl, rfl⟩) ?_
  refine Reg.op rfl rfl rfl rfl (Does.alloc zc25) ?_
  rintro _ H3_6 ⟨rfl, hn3_6⟩
  have z3_6 := hn3_6.size
  replace hE := hE.ext hn3_6.ext
  replace o0_0 := o0_0.ext hn3_6.ext
  replace o0_1 := o0_1.ext hn3_6.ext
  replace o3_4 := o3_4.ext hn3_6.ext
  have o3_6 := hn3_6.own
  refine Reg.op0 rfl rfl rfl (Does.stn ag25 rfl rfl (by first | rfl | exact ones_Is _) (by first | rfl | (simp [*]; done)) o3_6 (by first | decide | (simp; done) | (simp; omega) | omega)) ?_
  rintro _ H3_7 hu3_7
  have z3_7 := hu3_7.size
  replace hE := hE.upw hu3_7 (by omega)
  replace o0_0 := o0_0.upw hu3_7 (by omega)
  replace o0_1 := o0_1.upw hu3_7 (by omega)
  replace o3_4 := o3_4.upw hu3_7 (by omega)
  replace o3_6 := hu3_7.own
  first | rw [over (by first | rfl | (simp; done))] at o3_6 | skip
  refine Reg.nil ?_
  refine At.region rfl rfl ?_
  refine Reg.lod rfl rfl rfl rfl (Lod.ldn ag25 rfl o3_6.blk (by first | exact whole rfl | rfl | (simp only [List.drop_succ_cons, List.drop_zero, List.take_succ_cons, List.take_zero]; rfl)) (by first | rfl | (simp [*]; done))) ?_
  refine Reg.op rfl rfl rfl rfl (Does.call rfl (close_ok (L := idF) (ks := []) (ms := []) h9I (sl_own (L := idF) (wide9 h9I) (by decide) o3_4 (by decide)) (by decide) (sl_nil0 _) (by decide) (sl_nil0 _) (by decide))) ?_
  rintro v4_1 H4_1 ⟨hE4_1, A1, c1, A2, c2, A3, c3, rfl, hs4_1⟩
  have z4_1 := hE4_1.lt
  replace hE := hE.ext hE4_1
  replace o0_0 := o0_0.ext hE4_1
  replace o0_1 := o0_1.ext hE4_1
  replace o3_4 := o3_4.ext hE4_1
  replace o3_6 := o3_6.ext hE4_1
  rw [idV, idR, idT] at hs4_1
  rw [idV, idR, idT, idO]
  have hE4 := Ext.refl H4_1
  have z_hE4 := hE4.lt
  refine Reg.pur rfl rfl rfl rfl (Pur.mv rfl) ?_
  refine Reg.pur rfl rfl rfl rfl (Pur.ext rfl rfl) ?_
  refine Reg.pur rfl rfl rfl rfl (Pur.ext rfl rfl) ?_
  refine Reg.op rfl rfl rfl rfl (Does.alloc zc56) ?_
  rintro _ H4_5 ⟨rfl, hn4_5⟩
  have z4_5 := hn4_5.size
  replace hE := hE.ext hn4_5.ext
  replace o0_0 := o0_0.ext hn4_5.ext
  replace o0_1 := o0_1.ext hn4_5.ext
  replace o3_4 := o3_4.ext hn4_5.ext
  replace o3_6 := o3_6.ext hn4_5.ext
  replace hE4 := hE4.ext hn4_5.ext
  have o4_5 := hn4_5.own
  refine Reg.op0 rfl rfl rfl (Does.stn ag56 rfl rfl (by first | rfl | exact ones_Is _) (by first | rfl | (simp [*]; done)) o4_5 (by first | decide | (simp; done) | (simp; omega) | omega)) ?_
  rintro _ H4_6 hu4_6
  have z4_6 := hu4_6.size
  replace hE := hE.upw hu4_6 (by omega)
  replace o0_0 := o0_0.upw hu4_6 (by omega)
  replace o0_1 := o0_1.upw hu4_6 (by omega)
  replace o3_4 := o3_4.upw hu4_6 (by omega)
  replace o3_6 := o3_6.upw hu4_6 (by omega)
  replace hE4 := hE4.upw hu4_6 (by omega)
  replace o4_5 := hu4_6.own
  first | rw [over (by first | rfl | (simp; done))] at o4_5 | skip
  refine Reg.pur rfl rfl rfl rfl (Pur.asg rfl) ?_
  refine Reg.nil ?_
  refine At.region rfl rfl ?_
  refine Reg.lod rfl rfl rfl rfl (Lod.ldn ag56 rfl o4_5.blk (by first | exact whole rfl | rfl | (simp only [List.drop_succ_cons, List.drop_zero, List.take_succ_cons, List.take_zero]; rfl)) (by first | rfl | (simp [*]; done))) ?_
  refine Reg.lod rfl rfl rfl rfl (Lod.ldn ag25 rfl o0_0.blk (by first | exact whole rfl | rfl | (simp only [List.drop_succ_cons, List.drop_zero, List.take_succ_cons, List.take_zero]; rfl)) (by first | rfl | (simp [*]; done))) ?_
  refine Reg.op rfl rfl rfl rfl (Does.bslA ([[_]]) slA57 rfl rfl rfl rfl rfl rfl) ?_
  rintro _ H5_2 ⟨rfl, hp5_2⟩
  have hn5_2 := New.of_eq hp5_2
  have z5_2 := hn5_2.size
  replace hE := hE.ext hn5_2.ext
  replace o0_0 := o0_0.ext hn5_2.ext
  replace o0_1 := o0_1.ext hn5_2.ext
  replace o3_4 := o3_4.ext hn5_2.ext
  replace o3_6 := o3_6.ext hn5_2.ext
  replace hE4 := hE4.ext hn5_2.ext
  replace o4_5 := o4_5.ext hn5_2.ext
  have o5_2 := hn5_2.own
  refine Reg.lod rfl rfl rfl rfl (Lod.ldn ag28 rfl o0_1.blk (whole hr') hr') ?_
  refine Reg.op rfl rfl rfl rfl (Does.bslA ([Is r]) slA58 rfl rfl rfl (by simp [hr]) rfl rfl) ?_
  rintro _ H5_4 ⟨rfl, hp5_4⟩
  have hn5_4 := New.of_eq hp5_4
  have z5_4 := hn5_4.size
  replace hE := hE.ext hn5_4.ext
  replace o0_0 := o0_0.ext hn5_4.ext
  replace o0_1 := o0_1.ext hn5_4.ext
  replace o3_4 := o3_4.ext hn5_4.ext
  replace o3_6 := o3_6.ext hn5_4.ext
  replace hE4 := hE4.ext hn5_4.ext
  replace o4_5 := o4_5.ext hn5_4.ext
  replace o5_2 := o5_2.ext hn5_4.ext
  have o5_4 := hn5_4.own
  refine Reg.op rfl rfl rfl rfl (Does.call rfl (take_ok (vs := [4]) (us := [4]) (L := idF) (ts := [⟨A, cap, T⟩]) (rs := [r]) (hs4_1.r.ext hE4) ⟨by decide, by decide⟩ (by decide) (tds_own (ts := [⟨A, cap, T⟩]) o5_2 (all_one ⟨hS.ext hE, hT9, hm⟩) (Nat.le_of_ble_eq_true rfl)) (sl_own (L := [r]) (wide5 (five1 hr)) (by decide) o5_4 (Nat.le_of_ble_eq_true rfl)) (five1 hr) (Nat.le_of_ble_eq_true rfl))) ?_
  rintro v5_5 H5_5 ⟨hE5_5, hTv5_5⟩
  have z5_5 := hE5_5.lt
  replace hE := hE.ext hE5_5
  replace o0_0 := o0_0.ext hE5_5
  replace o0_1 := o0_1.ext hE5_5
  replace o3_4 := o3_4.ext hE5_5
  replace o3_6 := o3_6.ext hE5_5
  replace hE4 := hE4.ext hE5_5
  replace o4_5 := o4_5.ext hE5_5
  replace o5_2 := o5_2.ext hE5_5
  replace o5_4 := o5_4.ext hE5_5
  obtain ⟨A5, cap5, rfl, ho5, hN5, hl5⟩ := hTv5_5
  have z_ho5 := ho5.lt
  refine Reg.pur rfl rfl rfl rfl (Pur.mv rfl) ?_
  refine Reg.pur rfl rfl rfl rfl (Pur.ext rfl rfl) ?_
  refine Reg.pur rfl rfl rfl rfl (Pur.ext rfl rfl) ?_
  refine Reg.op rfl rfl rfl rfl (Does.alloc zc25) ?_
  rintro _ H5_9 ⟨rfl, hn5_9⟩
  have z5_9 := hn5_9.size
  replace hE := hE.ext hn5_9.ext
  replace o0_0 := o0_0.ext hn5_9.ext
  replace o0_1 := o0_1.ext hn5_9.ext
  replace o3_4 := o3_4.ext hn5_9.ext
  replace o3_6 := o3_6.ext hn5_9.ext
  replace hE4 := hE4.ext hn5_9.ext
  replace o4_5 := o4_5.ext hn5_9.ext
  replace o5_2 := o5_2.ext hn5_9.ext
  replace o5_4 := o5_4.ext hn5_9.ext
  replace ho5 := ho5.ext hn5_9.ext
  have o5_9 := hn5_9.own
  refine Reg.op0 rfl rfl rfl (Does.stn ag25 rfl rfl (by first | rfl | exact ones_Is _) (by first | rfl | (simp [*]; done)) o5_9 (by first | decide | (simp; done) | (simp; omega) | omega)) ?_
  rintro _ H5_10 hu5_10
  have z5_10 := hu5_10.size
  replace hE := hE.upw hu5_10 (by omega)
  replace o0_0 := o0_0.upw hu5_10 (by omega)
  replace o0_1 := o0_1.upw hu5_10 (by omega)
  replace o3_4 := o3_4.upw hu5_10 (by omega)
  replace o3_6 := o3_6.upw hu5_10 (by omega)
  replace hE4 := hE4.upw hu5_10 (by omega)
  replace o4_5 := o4_5.upw hu5_10 (by omega)
  replace o5_2 := o5_2.upw hu5_10 (by omega)
  replace o5_4 := o5_4.upw hu5_10 (by omega)
  replace ho5 := ho5.upw hu5_10 (by omega)
  replace o5_9 := hu5_10.own
  first | rw [over (by first | rfl | (simp; done))] at o5_9 | skip
  refine Reg.pur rfl rfl rfl rfl (Pur.asg rfl) ?_
  refine Reg.nil ?_
  refine At.region rfl rfl ?_
  refine Reg.pur rfl rfl rfl rfl (Pur.mv rfl) ?_
  refine Reg.op rfl rfl rfl rfl (Does.call rfl (numE_ok _ _)) ?_
  rintro _ H5_10 ⟨rfl, rfl⟩
  refine Reg.pur rfl rfl rfl rfl (Pur.neq rfl rfl) ?_
  refine Reg.nil ?_
  refine At.condF rfl rfl rfl ?_
  refine At.region rfl rfl ?_
  refine Reg.lod rfl rfl rfl rfl (Lod.ldn ag25 rfl o0_0.blk (by first | exact whole rfl | rfl | (simp only [List.drop_succ_cons, List.drop_zero, List.take_succ_cons, List.take_zero]; rfl)) (by first | rfl | (simp [*]; done))) ?_
  refine Reg.op rfl rfl rfl rfl (Does.call rfl (typMayR_ok T hT9 (hS.ext hE) (by omega))) ?_
  rintro _ H8_1 ⟨rfl, hE8_1⟩
  have z8_1 := hE8_1.lt
  replace hE := hE.ext hE8_1
  replace o0_0 := o0_0.ext hE8_1
  replace o0_1 := o0_1.ext hE8_1
  replace o3_4 := o3_4.ext hE8_1
  replace o3_6 := o3_6.ext hE8_1
  replace hE4 := hE4.ext hE8_1
  replace o4_5 := o4_5.ext hE8_1
  replace o5_2 := o5_2.ext hE8_1
  replace o5_4 := o5_4.ext hE8_1
  replace ho5 := ho5.ext hE8_1
  replace o5_9 := o5_9.ext hE8_1
  refine Reg.pur rfl rfl rfl rfl (Pur.not rfl) ?_
  refine Reg.pur rfl rfl rfl rfl (Pur.mv rfl) ?_
  refine Reg.case 38 rfl (fun q38 => ?_) (fun q38 => ?_)
  · first | (simp only [decide_eq_true_eq, decide_eq_false_iff_not, Bool.not_eq_true', Bool.not_eq_false', ne_eq, Decidable.not_not, Bool.not_eq_true, Bool.not_eq_false] at q38) | (dsimp only at q38) | skip
    refine Reg.skip rfl rfl rfl rfl rfl rfl rfl ?_
    refine Reg.skip rfl rfl rfl rfl rfl rfl rfl ?_
    refine Reg.skip rfl rfl rfl rfl rfl rfl rfl ?_
    refine Reg.pur rfl rfl rfl rfl (Pur.pickT rfl rfl) ?_
    refine Reg.pur rfl rfl rfl rfl (Pur.mv rfl) ?_
    refine Reg.skip rfl rfl rfl rfl rfl rfl rfl ?_
    refine Reg.skip rfl rfl rfl rfl rfl rfl rfl ?_
    refine Reg.skip rfl rfl rfl rfl rfl rfl rfl ?_
    refine Reg.skip rfl rfl rfl rfl rfl rfl rfl ?_
    refine Reg.skip rfl rfl rfl rfl rfl rfl rfl ?_
    refine Reg.skip rfl rfl rfl rfl rfl rfl rfl ?_
    refine Reg.pur rfl rfl rfl rfl (Pur.pickT rfl rfl) ?_
    refine Reg.nil ?_
    refine At.condT rfl rfl rfl ?_
    have hno : takT [4] [⟨A, cap, T⟩] [4] [r] idF = none := by { rw [htk, if_neg]; rintro ⟨h1, h2, h3⟩; first | exact absurd (h1.symm.trans q38) (by decide) | exact absurd (h2.symm.trans q43) (by decide) | omega }
    refine At.region rfl rfl ?_
    refine Reg.pur rfl rfl rfl rfl (Pur.mv rfl) ?_
    refine Reg.op rfl rfl rfl rfl (Does.call rfl (numE_ok _ _)) ?_
    rintro _ H8_1 ⟨rfl, rfl⟩
    refine Reg.pur rfl rfl rfl rfl (Pur.eql rfl rfl) ?_
    refine Reg.pur rfl rfl rfl rfl (Pur.mv rfl) ?_
    refine Reg.known (b' := true) 54 rfl (by rw [hno]; rfl) ?_
    refine Reg.gpur rfl rfl rfl rfl rfl rfl (Pur.fld _ fo25_0 rfl) ?_
    refine Reg.glod rfl rfl rfl rfl rfl rfl (Lod.ld sc23 rfl o5_9.blk (by first | rfl | (simp; done))) ?_
    refine Reg.gpur rfl rfl rfl rfl rfl rfl (Pur.lenS isl23 rfl) ?_
    refine Reg.gpur rfl rfl rfl rfl rfl rfl (Pur.eql rfl rfl) ?_
    refine Reg.pur rfl rfl rfl rfl (Pur.pickT rfl rfl) ?_
    refine Reg.pur rfl rfl rfl rfl (Pur.asg rfl) ?_
    refine Reg.nil ?_
    refine At.ret rfl Try.func10 rfl ?_
    exact ⟨congrArg Value.bool (by rw [hno]; rfl), hE⟩
  · first | (simp only [decide_eq_true_eq, decide_eq_false_iff_not, Bool.not_eq_true', Bool.not_eq_false', ne_eq, Decidable.not_not, Bool.not_eq_true, Bool.not_eq_false] at q38) | (dsimp only at q38) | skip
    refine Reg.glod rfl rfl rfl rfl rfl rfl (Lod.ldn ag28 rfl o0_1.blk (whole hr') hr') ?_
    refine Reg.gop rfl rfl rfl rfl rfl rfl (Does.call rfl (rowMayR_ok r hr _)) ?_
    rintro _ H8_5 ⟨rfl, hE8_5⟩
    have z8_5 := hE8_5.lt
    replace hE := hE.ext hE8_5
    replace o0_0 := o0_0.ext hE8_5
    replace o0_1 := o0_1.ext hE8_5
    replace o3_4 := o3_4.ext hE8_5
    replace o3_6 := o3_6.ext hE8_5
    replace hE4 := hE4.ext hE8_5
    replace o4_5 := o4_5.ext hE8_5
    replace o5_2 := o5_2.ext hE8_5
    replace o5_4 := o5_4.ext hE8_5
    replace ho5 := ho5.ext hE8_5
    replace o5_9 := o5_9.ext hE8_5
    refine Reg.gpur rfl rfl rfl rfl rfl rfl (Pur.not rfl) ?_
    refine Reg.pur rfl rfl rfl rfl (Pur.pickF rfl rfl) ?_
    refine Reg.pur rfl rfl rfl rfl (Pur.mv rfl) ?_
    refine Reg.case 43 rfl (fun q43 => ?_) (fun q43 => ?_)
    · first | (simp only [decide_eq_true_eq, decide_eq_false_iff_not, Bool.not_eq_true', Bool.not_eq_false', ne_eq, Decidable.not_not, Bool.not_eq_true, Bool.not_eq_false] at q43) | (dsimp only at q43) | skip
      refine Reg.skip rfl rfl rfl rfl rfl rfl rfl ?_
      refine Reg.skip rfl rfl rfl rfl rfl rfl rfl ?_
      refine Reg.skip rfl rfl rfl rfl rfl rfl rfl ?_
      refine Reg.skip rfl rfl rfl rfl rfl rfl rfl ?_
      refine Reg.skip rfl rfl rfl rfl rfl rfl rfl ?_
      refine Reg.skip rfl rfl rfl rfl rfl rfl rfl ?_
      refine Reg.pur rfl rfl rfl rfl (Pur.pickT rfl rfl) ?_
      refine Reg.nil ?_
      refine At.condT rfl rfl rfl ?_
      have hno : takT [4] [⟨A, cap, T⟩] [4] [r] idF = none := by { rw [htk, if_neg]; rintro ⟨h1, h2, h3⟩; first | exact absurd (h1.symm.trans q38) (by decide) | exact absurd (h2.symm.trans q43) (by decide) | omega }
      refine At.region rfl rfl ?_
      refine Reg.pur rfl rfl rfl rfl (Pur.mv rfl) ?_
      refine Reg.op rfl rfl rfl rfl (Does.call rfl (numE_ok _ _)) ?_
      rintro _ H8_5 ⟨rfl, rfl⟩
      refine Reg.pur rfl rfl rfl rfl (Pur.eql rfl rfl) ?_
      refine Reg.pur rfl rfl rfl rfl (Pur.mv rfl) ?_
      refine Reg.known (b' := true) 54 rfl (by rw [hno]; rfl) ?_
      refine Reg.gpur rfl rfl rfl rfl rfl rfl (Pur.fld _ fo25_0 rfl) ?_
      refine Reg.glod rfl rfl rfl rfl rfl rfl (Lod.ld sc23 rfl o5_9.blk (by first | rfl | (simp; done))) ?_
      refine Reg.gpur rfl rfl rfl rfl rfl rfl (Pur.lenS isl23 rfl) ?_
      refine Reg.gpur rfl rfl rfl rfl rfl rfl (Pur.eql rfl rfl) ?_
      refine Reg.pur rfl rfl rfl rfl (Pur.pickT rfl rfl) ?_
      refine Reg.pur rfl rfl rfl rfl (Pur.asg rfl) ?_
      refine Reg.nil ?_
      refine At.ret rfl Try.func10 rfl ?_
      exact ⟨congrArg Value.bool (by rw [hno]; rfl), hE⟩
    · first | (simp only [decide_eq_true_eq, decide_eq_false_iff_not, Bool.not_eq_true', Bool.not_eq_false', ne_eq, Decidable.not_not, Bool.not_eq_true, Bool.not_eq_false] at q43) | (dsimp only at q43) | skip
      refine Reg.gpur rfl rfl rfl rfl rfl rfl (Pur.fld _ fo25_0 rfl) ?_
      refine Reg.glod rfl rfl rfl rfl rfl rfl (Lod.ld sc23 rfl o0_0.blk (by first | rfl | (simp; done))) ?_
      refine Reg.gpur rfl rfl rfl rfl rfl rfl (Pur.lenS isl23 rfl) ?_
      refine Reg.gpur rfl rfl rfl rfl rfl rfl (Pur.mul64 rfl rfl (by omega)) ?_
      refine Reg.gpur rfl rfl rfl rfl rfl rfl (Pur.add64 rfl rfl (by omega)) ?_
      refine Reg.gpur rfl rfl rfl rfl rfl rfl (Pur.gtr rfl rfl) ?_
      refine Reg.pur rfl rfl rfl rfl (Pur.pickF rfl rfl) ?_
      refine Reg.nil ?_
      refine At.cond rfl rfl (fun q50 => ?_) (fun q50 => ?_)
      · first | (simp only [decide_eq_true_eq, decide_eq_false_iff_not, Bool.not_eq_true', Bool.not_eq_false', ne_eq, Decidable.not_not, Bool.not_eq_true, Bool.not_eq_false] at q50) | (dsimp only at q50) | skip
        have hno : takT [4] [⟨A, cap, T⟩] [4] [r] idF = none := by { rw [htk, if_neg]; rintro ⟨h1, h2, h3⟩; first | exact absurd (h1.symm.trans q38) (by decide) | exact absurd (h2.symm.trans q43) (by decide) | omega }
        refine At.region rfl rfl ?_
        refine Reg.pur rfl rfl rfl rfl (Pur.mv rfl) ?_
        refine Reg.op rfl rfl rfl rfl (Does.call rfl (numE_ok _ _)) ?_
        rintro _ H8_5 ⟨rfl, rfl⟩
        refine Reg.pur rfl rfl rfl rfl (Pur.eql rfl rfl) ?_
        refine Reg.pur rfl rfl rfl rfl (Pur.mv rfl) ?_
        refine Reg.known (b' := true) 54 rfl (by rw [hno]; rfl) ?_
        refine Reg.gpur rfl rfl rfl rfl rfl rfl (Pur.fld _ fo25_0 rfl) ?_
        refine Reg.glod rfl rfl rfl rfl rfl rfl (Lod.ld sc23 rfl o5_9.blk (by first | rfl | (simp; done))) ?_
        refine Reg.gpur rfl rfl rfl rfl rfl rfl (Pur.lenS isl23 rfl) ?_
        refine Reg.gpur rfl rfl rfl rfl rfl rfl (Pur.eql rfl rfl) ?_
        refine Reg.pur rfl rfl rfl rfl (Pur.pickT rfl rfl) ?_
        refine Reg.pur rfl rfl rfl rfl (Pur.asg rfl) ?_
        refine Reg.nil ?_
        refine At.ret rfl Try.func10 rfl ?_
        exact ⟨congrArg Value.bool (by rw [hno]; rfl), hE⟩
      · first | (simp only [decide_eq_true_eq, decide_eq_false_iff_not, Bool.not_eq_true', Bool.not_eq_false', ne_eq, Decidable.not_not, Bool.not_eq_true, Bool.not_eq_false] at q50) | (dsimp only at q50) | skip
        have hyes : takT [4] [⟨A, cap, T⟩] [4] [r] idF = some (arr2 T r T) := by rw [htk, if_pos ⟨q38, q43, by omega⟩]
        have h256 := (typM_bgn q38).1.2
        refine At.drawE ((Bks.cons o5_9.blk (Bks.cons o0_0.blk (Bks.cons o0_1.blk Bks.nil)))) [] mixed rfl rfl ?_
        refine RegD.tpur (i := 0) rfl rfl rfl rfl (by kernel_rfl) (Pur.mv rfl) ?_
        refine RegD.one (i := 1) (by kernel_rfl) rfl rfl rfl rfl (Does.call rfl (numE_ok _ _)) ?_
        rintro _ H8_5 ⟨rfl, rfl⟩
        refine ⟨fun _ _ => (Bks.cons o5_9.blk (Bks.cons o0_0.blk (Bks.cons o0_1.blk Bks.nil))), ?_⟩
        refine RegD.tpur (i := 2) rfl rfl rfl rfl (by kernel_rfl) (Pur.eql rfl rfl) ?_
        refine RegD.tpur (i := 3) rfl rfl rfl rfl (by kernel_rfl) (Pur.mv rfl) ?_
        refine RegD.known (b' := true) 63 rfl (by rw [hyes]; rfl) ?_
        refine RegD.gtake (i := 4) rfl rfl rfl rfl rfl rfl (by kernel_rfl) (Bks.cons o5_9.blk (Bks.cons o0_0.blk (Bks.cons o0_1.blk Bks.nil))) (fun H hS => Lod.ldn ag25 rfl hS.hd rfl rfl) ?_
        refine RegD.gtake (i := 5) rfl rfl rfl rfl rfl rfl (by kernel_rfl) (Bks.cons o5_9.blk (Bks.cons o0_0.blk (Bks.cons o0_1.blk Bks.nil))) (fun H hS => Lod.ldn ag25 rfl hS.tl.hd rfl rfl) ?_
        refine RegD.gtake (i := 6) rfl rfl rfl rfl rfl rfl (by kernel_rfl) (Bks.cons o5_9.blk (Bks.cons o0_0.blk (Bks.cons o0_1.blk Bks.nil))) (fun H hS => Lod.ldn ag28 rfl hS.tl.tl.hd (whole hr') hr') ?_
        refine RegD.gtake (i := 7) rfl rfl rfl rfl rfl rfl (by kernel_rfl) (Bks.cons o5_9.blk (Bks.cons o0_0.blk (Bks.cons o0_1.blk Bks.nil))) (fun H hS => Lod.ldn ag25 rfl hS.tl.hd rfl rfl) ?_
        refine RegD.gone (i := 8) (by kernel_rfl) rfl rfl rfl rfl rfl rfl (Does.call rfl (arrow_ok hT9 hT9 hr (hS.ext hE) (hS.ext hE) (by omega) (by omega))) ?_
        rintro v10_8 H10_8 ⟨⟨A10, cap10, rfl, hgA⟩, hE10_8⟩
        have z10_8 := hE10_8.lt
        replace hE := hE.ext hE10_8
        replace o0_0 := o0_0.ext hE10_8
        replace o0_1 := o0_1.ext hE10_8
        replace o3_4 := o3_4.ext hE10_8
        replace o3_6 := o3_6.ext hE10_8
        replace hE4 := hE4.ext hE10_8
        replace o4_5 := o4_5.ext hE10_8
        replace o5_2 := o5_2.ext hE10_8
        replace o5_4 := o5_4.ext hE10_8
        replace ho5 := ho5.ext hE10_8
        replace o5_9 := o5_9.ext hE10_8
        refine ⟨fun _ _ => (Bks.cons o5_9.blk (Bks.cons o0_0.blk (Bks.cons o0_1.blk Bks.nil))), ?_⟩
        refine RegD.gone (i := 9) (by kernel_rfl) rfl rfl rfl rfl rfl rfl (Does.call rfl (sameType_ok hN5 (nine_arr hT9 hT9 hr) (own_sl (wide9 hN5) (by decide) ho5) (own_sl (wide9 (nine_arr hT9 hT9 hr)) (by decide) hgA) (by omega))) ?_
        rintro _ H10_9 ⟨rfl, hE10_9⟩
        have z10_9 := hE10_9.lt
        replace hE := hE.ext hE10_9
        replace o0_0 := o0_0.ext hE10_9
        replace o0_1 := o0_1.ext hE10_9
        replace o3_4 := o3_4.ext hE10_9
        replace o3_6 := o3_6.ext hE10_9
        replace hE4 := hE4.ext hE10_9
        replace o4_5 := o4_5.ext hE10_9
        replace o5_2 := o5_2.ext hE10_9
        replace o5_4 := o5_4.ext hE10_9
        replace ho5 := ho5.ext hE10_9
        replace o5_9 := o5_9.ext hE10_9
        refine ⟨fun _ _ => (Bks.cons o5_9.blk (Bks.cons o0_0.blk (Bks.cons o0_1.blk Bks.nil))), ?_⟩
        refine RegD.tpur (i := 10) rfl rfl rfl rfl (by kernel_rfl) (Pur.pickT rfl rfl) ?_
        refine RegD.tpur (i := 11) rfl rfl rfl rfl (by kernel_rfl) (Pur.asg rfl) ?_
        refine RegD.done (by kernel_rfl) ?_
        refine At.ret rfl Try.func10 rfl ?_
        exact ⟨congrArg Value.bool (by rw [hyes]; simp), hE⟩
end Go.Proofs.Ytlfillhffpiffaa
