/-
  Parts of the proof, 4.
-/
import Derived.Test.YtlfillhffpiffaaDoorRows
import Derived.Test.YtlfillhffpiffaaDoorCards
import Derived.Test.YtlfillhffpiffaaDoorTie
import Derived.ProofKit
import Derived.ChangeSame
import Derived.ChangeVars
import Derived.JoinedOf
import Derived.LaidLaws
import Derived.Handed
import Derived.SevenTiedAt
import Derived.SizedLaws
import Derived.Test.YtlfillhffpiffaaDoorP3
namespace Go.Proofs.YtlfillhffpiffaaDoor
set_option linter.unusedSimpArgs false
set_option linter.unusedVariables false
set_option maxRecDepth 8000
open Go Go.Fx Go.Proofs
namespace FactsDShC
theorem es53 : esz Tryd.prog 53 = some 9 := by kernel_rfl
theorem fo55_0 : foff Tryd.prog 55 0 = some 0 := by kernel_rfl
theorem fo65_0 : foff Tryd.prog 65 0 = some 0 := by kernel_rfl
theorem fo65_1 : foff Tryd.prog 65 1 = some 1 := by kernel_rfl
theorem fo65_2 : foff Tryd.prog 65 2 = some 2 := by kernel_rfl
theorem fo65_3 : foff Tryd.prog 65 3 = some 3 := by kernel_rfl
theorem fo65_4 : foff Tryd.prog 65 4 = some 4 := by kernel_rfl
theorem mixed : Tryd.prog.follows .mixedOrders = true := by kernel_rfl
theorem sc108 : sc Tryd.prog 108 = true := by kernel_rfl
theorem sc3 : sc Tryd.prog 3 = true := by kernel_rfl
theorem sc53 : sc Tryd.prog 53 = true := by kernel_rfl
end FactsDShC
open FactsDShC

abbrev gT : Nat := 0
theorem rtx_neg {R r : List Int} (s : ByteArray) (h : r.getD 4 0 < 0) : wtx r s = rtx R r ∧ rnm R r = R := by
  unfold wtx rtx rnm
  rw [if_neg (by omega), if_neg (by omega), if_neg (by omega)]
  exact ⟨rfl, rfl⟩
theorem rtx_pos {R r : List Int} (h : 0 ≤ r.getD 4 0) : rnm R r = addL R (r.getD 4 0) := if_pos h

theorem textTail_ok {xb nb B c1 c2 : Nat} {A1 A2 : Option Addr} {T R : List Int} (v : Int) {H : Heap} (hX : Blk H xb [ptr nb 0]) (hT : Tens H) (hoT : Off nb A1 A2 (gT : Nat)) (hN : Nm H nb B A1 c1 T A2 c2 R) (hm : R.length ≤ 100000) :
    Ret Tryd.prog 85 [I v, ptr xb 0] H (fun w H' => w = .string (⟨#[101]⟩ ++ dec (ixL R v)) ∧ ∃ A2' c2', Nm H' nb B A1 c1 T A2' c2' (addL R v) ∧ Mod nb A1 A2 A1 A2' H H') := by
  have hix := ixL_le R v
  refine Ret.of_at (N := 9) Tryd.call85 Tryd.func85 rfl rfl rfl ?_
  have hE := Ext.refl H

  refine At.region rfl rfl ?_
  refine Reg.pur rfl rfl rfl rfl (Pur.asg rfl) ?_
  refine Reg.nil ?_
  refine At.region rfl rfl ?_
  refine Reg.lod rfl rfl rfl rfl (Lod.ld sc108 rfl hX rfl) ?_
  refine Reg.pur rfl rfl rfl rfl (Pur.mv rfl) ?_
  refine Reg.op rfl rfl rfl rfl (Does.call rfl (nm_Row v hN (by omega))) ?_
  rintro _ H1_2 ⟨rfl, A2a, c2a, hN1_2, hM1_2⟩
  refine Reg.op rfl rfl rfl rfl (Does.call rfl (itoa_ok (ixL R v) (by omega) (hT.via hM1_2.1 hoT.not))) ?_
  rintro _ H1_3 ⟨rfl, hE1_3⟩
  have z1_3 := hE1_3.lt
  refine Reg.pur rfl rfl rfl rfl (Pur.addS rfl rfl (szs (sl1 _) (dec_size _) (by decide))) ?_
  refine Reg.pur rfl rfl rfl rfl (Pur.asg rfl) ?_
  refine Reg.nil ?_
  refine At.ret rfl Tryd.func85 rfl ?_
  exact ⟨rfl, A2a, c2a, hN1_2.ext hE1_3, hM1_2.ext hE1_3⟩
theorem rowW_ok {xb rb ro nb B c1 c2 : Nat} {cg : List Value} {r : List Int} {A1 A2 : Option Addr} {T R : List Int} (h5 : r.length = 5) (hr : rowM r = true) {H : Heap} (hX : Blk H xb [ptr nb 0]) (hT : Tens H) (hoT : Off nb A1 A2 (gT : Nat)) (hB : Blk H rb cg) (hc : (cg.drop ro).take 5 = Is r) (hN : Nm H nb B A1 c1 T A2 c2 R) (hm : R.length ≤ 100000) :
    Ret Tryd.prog 55 [ptr rb ro, .func (.func 85) #[] #[ptr xb 0]] H (fun v H' => v = .string (rtx R r) ∧ ∃ A2' c2', Nm H' nb B A1 c1 T A2' c2' (rnm R r) ∧ Mod nb A1 A2 A1 A2' H H') := by
  refine (write_ok (us := [ptr xb 0]) (Q := fun s H1 H2 => s = ⟨#[101]⟩ ++ dec (ixL R (r.getD 4 0)) ∧ ∃ A2' c2', Nm H2 nb B A1 c1 T A2' c2' (addL R (r.getD 4 0)) ∧ Mod nb A1 A2 A1 A2' H1 H2) h5 hr hT hB hc (fun H1 hE h0 => (textTail_ok (r.getD 4 0) (hX.ext hE) (hT.ext hE) hoT (hN.ext hE) hm).mono ?_)).mono ?_
  · rintro v H2 ⟨rfl, h⟩
    exact ⟨_, rfl, by have := dec_size (ixL R (r.getD 4 0)); rw [ByteArray.size_append, sz1]; omega, rfl, h⟩
  · rintro v H' ⟨s, rfl, H1, hE, ⟨h0, rfl, A2', c2', hN', hM⟩ | ⟨h0, rfl⟩⟩
    · exact ⟨by rw [wtx_rtx], A2', c2', by rw [rtx_pos h0]; exact hN', ((Mod.refl nb A1 A2 H).ext hE).trans hM⟩
    · exact ⟨by rw [(rtx_neg (R := R) s h0).1], A2, c2, by rw [(rtx_neg (R := R) s h0).2]; exact hN.ext hE, (Mod.refl nb A1 A2 H).ext hE⟩

theorem textP_ok {L : List (List Int)} (hL : Nine L) {A : Option Addr} {cap nb B yb yo : Nat} {cy : List Value} (hm : L.length ≤ 256) (hcy : cy[yo]? = some (.slice A L.length cap)) : ∀ (f : Nat) (t : Tm) (pre post : List (List Int)), t.sz ≤ f → t.ok → L = pre ++ t.enc pre.length ++ post →
    ∀ {H : Heap} {A1 A2 : Option Addr} {c1 c2 : Nat} {T R : List Int}, Blk H yb cy → Tens H → SlT H Is 9 (.slice A L.length cap) L → Nm H nb B A1 c1 T A2 c2 R → T.length + R.length + t.sz ≤ 90000 → Off nb A1 A2 (ob A) → Off nb A1 A2 yb → Off nb A1 A2 (gT : Nat) → ∀ z : Int, z = (pre.length : Int) + t.sz - 1 →
    Ret Tryd.prog 62 [ptr nb 0, ptr yb yo, I z] H (fun v H' => v = .string (tx (T, R) t).1 ∧ ∃ A1' c1' A2' c2', Nm H' nb B A1' c1' (tx (T, R) t).2.1 A2' c2' (tx (T, R) t).2.2 ∧ Mod nb A1 A2 A1' A2' H H') := by
  intro f
  induction f with
  | zero => intro t _ _ h; have := t.sz_pos; omega
  | succ f ihf =>
  intro t pre post hf hok hLe H A1 A2 c1 c2 T R hY hT hS hN hlen hoA hoY hoT z hz
  have hlL : L.length = pre.length + t.sz + post.length := by rw [hLe, List.length_append, List.length_append, Tm.enc_len]
  have hpos := t.sz_pos
  obtain ⟨b, o, c, rfl, hB, hd, hx9, hat⟩ := el_cells hL hS (z := z) (by omega) (by omega)
  obtain ⟨n0, n1, n2, n3⟩ := nd_at t pre post (el L z) (by rw [← hLe, hz])
  generalize el L z = x at hd hx9 hat n0 n1 n2 n3
  have hob : ob (some ⟨b, o, none⟩) = b := ob_some b o
  have zB := Int.ofNat_lt.2 hB.lt
  have zY := Int.ofNat_lt.2 hY.lt
  have zT := Int.ofNat_lt.2 hT.lt
  have zN := hN.own.lt
  rw [hob] at hoA
  refine Ret.of_at (N := 61) Tryd.call62 Tryd.func62 rfl rfl rfl ?_
  have hE := Ext.refl H

  refine At.region rfl rfl ?_
  refine Reg.op rfl rfl rfl rfl (Does.box rfl rfl) ?_
  rintro _ H0_0 ⟨rfl, hn0_0⟩
  have z0_0 := hn0_0.size
  have o0_0 := hn0_0.own
  refine Reg.pur rfl rfl rfl rfl (Pur.asg rfl) ?_
  refine Reg.nil ?_

  have hX : Blk H0_0 H.size [ptr nb 0] := o0_0.blk
  have hE0 : Ext H H0_0 := hn0_0.ext
  have hN0 := hN.ext hE0
  have hS0 := hS.ext hE0
  have hY0 := hY.ext hE0
  have hT0 := hT.ext hE0
  have hB0 := hB.ext hE0
  have hoX : Off nb A1 A2 H.size := ⟨by omega, by have := hN.g1.lt; omega, by have := hN.g2.lt; omega⟩
  have zX := Int.ofNat_lt.2 hX.lt
  have hM0 : Mod nb A1 A2 A1 A2 H H0_0 := (Mod.refl nb A1 A2 H).ext hE0
  have zB0 := Int.ofNat_lt.2 hB0.lt
  have zY0 := Int.ofNat_lt.2 hY0.lt
  have zT0 := Int.ofNat_lt.2 hT0.lt
  refine At.region rfl rfl ?_
  refine Reg.pur rfl rfl rfl rfl (Pur.mv rfl) ?_
  refine Reg.pur rfl rfl rfl rfl (Pur.nilc rfl) ?_
  refine Reg.pur rfl rfl rfl rfl (Pur.fld _ fo55_0 rfl) ?_
  refine Reg.lod rfl rfl rfl rfl (Lod.ld sc53 rfl hY0 hcy) ?_
  refine Reg.pur rfl rfl rfl rfl (Pur.mv rfl) ?_
  refine Reg.pur rfl rfl rfl rfl (Pur.idx _ es53 rfl rfl (by omega) (by omega)) ?_
  refine Reg.pur rfl rfl rfl rfl (Pur.asg rfl) ?_
  refine Reg.nil ?_
  refine At.region rfl rfl ?_
  refine Reg.pur rfl rfl rfl rfl (Pur.mv rfl) ?_
  refine Reg.pur rfl rfl rfl rfl (Pur.nilc rfl) ?_
  refine Reg.pur rfl rfl rfl rfl (Pur.fld _ fo65_0 rfl) ?_
  refine Reg.lod rfl rfl rfl rfl (Lod.ld sc3 rfl hB0 (hat 0 (by omega))) ?_
  refine Reg.nil ?_
  refine At.region rfl rfl ?_
  refine Reg.pur rfl rfl rfl rfl (Pur.eql rfl rfl) ?_
  refine Reg.pur rfl rfl rfl rfl (Pur.asg rfl) ?_
  refine Reg.nil ?_
  refine At.cond rfl rfl (fun q20 => ?_) (fun q20 => ?_)
  · first | (simp only [decide_eq_true_eq, decide_eq_false_iff_not, Bool.not_eq_true', Bool.not_eq_false', ne_eq, Decidable.not_not, Bool.not_eq_true, Bool.not_eq_false] at q20) | (dsimp only at q20) | skip
    refine At.region rfl rfl ?_
    refine Reg.pur rfl rfl rfl rfl (Pur.asg rfl) ?_
    refine Reg.nil ?_
    refine At.ret rfl Tryd.func62 rfl ?_
    obtain rfl := n0 q20
    exact ⟨rfl, A1, c1, A2, c2, hN0, hM0⟩
  first | (simp only [decide_eq_true_eq, decide_eq_false_iff_not, Bool.not_eq_true', Bool.not_eq_false', ne_eq, Decidable.not_not, Bool.not_eq_true, Bool.not_eq_false] at q20) | (dsimp only at q20) | skip
  refine At.region rfl rfl ?_
  refine Reg.pur rfl rfl rfl rfl (Pur.eql rfl rfl) ?_
  refine Reg.pur rfl rfl rfl rfl (Pur.asg rfl) ?_
  refine Reg.nil ?_
  refine At.cond rfl rfl (fun q22 => ?_) (fun q22 => ?_)
  · first | (simp only [decide_eq_true_eq, decide_eq_false_iff_not, Bool.not_eq_true', Bool.not_eq_false', ne_eq, Decidable.not_not, Bool.not_eq_true, Bool.not_eq_false] at q22) | (dsimp only at q22) | skip
    refine At.region rfl rfl ?_
    refine Reg.pur rfl rfl rfl rfl (Pur.asg rfl) ?_
    refine Reg.nil ?_
    refine At.ret rfl Tryd.func62 rfl ?_
    obtain rfl := n1 q22
    exact ⟨rfl, A1, c1, A2, c2, hN0, hM0⟩
  first | (simp only [decide_eq_true_eq, decide_eq_false_iff_not, Bool.not_eq_true', Bool.not_eq_false', ne_eq, Decidable.not_not, Bool.not_eq_true, Bool.not_eq_false] at q22) | (dsimp only at q22) | skip
  refine At.region rfl rfl ?_
  refine Reg.pur rfl rfl rfl rfl (Pur.eql rfl rfl) ?_
  refine Reg.pur rfl rfl rfl rfl (Pur.asg rfl) ?_
  refine Reg.nil ?_
  refine At.cond rfl rfl (fun q24 => ?_) (fun q24 => ?_)
  · first | (simp only [decide_eq_true_eq, decide_eq_false_iff_not, Bool.not_eq_true', Bool.not_eq_false', ne_eq, Decidable.not_not, Bool.not_eq_true, Bool.not_eq_false] at q24) | (dsimp only at q24) | skip
    refine At.drawE ((Bks.cons hX.blk (Bks.cons hB0.blk Bks.nil))) [5] mixed rfl rfl ?_
    refine RegD.take (i := 0) rfl rfl rfl rfl (by kernel_rfl) (Bks.cons hX.blk (Bks.cons hB0.blk Bks.nil)) (fun H hS => Lod.ld sc108 rfl hS.hd rfl) ?_
    refine RegD.tpur (i := 1) rfl rfl rfl rfl (by kernel_rfl) (Pur.mv rfl) ?_
    refine RegD.tpur (i := 2) rfl rfl rfl rfl (by kernel_rfl) (Pur.nilc rfl) ?_
    refine RegD.tpur (i := 3) rfl rfl rfl rfl (by kernel_rfl) (Pur.fld _ fo65_1 rfl) ?_
    refine RegD.take (i := 4) rfl rfl rfl rfl (by kernel_rfl) (Bks.cons hX.blk (Bks.cons hB0.blk Bks.nil)) (fun H hS => Lod.ld sc3 rfl hS.tl.hd (hat 1 (by omega))) ?_
    have hix := ixL_le T (x.getD 1 0)
    refine RegD.one (i := 5) (by kernel_rfl) rfl rfl rfl rfl (Does.call rfl (nm_Type _ hN0 (by omega))) ?_
    rintro _ H8_5 ⟨rfl, A1a, c1a, hN8_5, hM8_5⟩
    replace hX := hX.via hM8_5.1 hoX.not
    replace hB0 := hB0.via hM8_5.1 hoA.not
    refine ⟨fun h => (by cases h), ?_⟩
    refine RegD.one (i := 6) (by kernel_rfl) rfl rfl rfl rfl (Does.call rfl (itoa_ok (ixL T (x.getD 1 0)) (by omega) (hT0.via hM8_5.1 hoT.not))) ?_
    rintro _ H8_6 ⟨rfl, hD8_6⟩
    replace hX := hX.ext hD8_6
    replace hB0 := hB0.ext hD8_6
    refine ⟨fun _ _ => (Bks.cons hX.blk (Bks.cons hB0.blk Bks.nil)), ?_⟩
    refine RegD.tpur (i := 7) rfl rfl rfl rfl (by kernel_rfl) (Pur.addS rfl rfl (szs (sl1 _) (dec_size _) (by decide))) ?_
    refine RegD.tpur (i := 8) rfl rfl rfl rfl (by kernel_rfl) (Pur.asg rfl) ?_
    refine RegD.done (by kernel_rfl) ?_
    refine At.ret rfl Tryd.func62 rfl ?_
    have ht := n2 q24
    rw [ht]
    exact ⟨rfl, A1a, c1a, A2, c2, hN8_5.ext hD8_6, (hM0.trans hM8_5).ext hD8_6⟩
  first | (simp only [decide_eq_true_eq, decide_eq_false_iff_not, Bool.not_eq_true', Bool.not_eq_false', ne_eq, Decidable.not_not, Bool.not_eq_true, Bool.not_eq_false] at q24) | (dsimp only at q24) | skip
  obtain ⟨ta, r, tb, rfl, rfl⟩ := n3 q20 q22 q24
  obtain ⟨hoa, hr5, hrow, hob2⟩ := hok
  have hpa := ta.sz_pos
  have hpb := tb.sz_pos
  have e0 : (Tm.fn ta r tb).sz = ta.sz + tb.sz + 1 := rfl
  have sA : (tx (T, R) ta).1.size ≤ 358400 := Nat.le_trans (tx_size ta _ hoa) (by omega)
  have lA := tx_len ta (T, R)
  have lR := rnm_len (tx (T, R) ta).2.2 r
  have sR := rtx_size (R := (tx (T, R) ta).2.2) hr5 hrow
  have sB : (tx ((tx (T, R) ta).2.1, rnm (tx (T, R) ta).2.2 r) tb).1.size ≤ 358400 := Nat.le_trans (tx_size tb _ hob2) (by omega)
  dsimp only at lA
  have hrp := nod_row hd hr5
  refine At.drawE ((Bks.cons hX.blk (Bks.cons hB0.blk Bks.nil))) [6] mixed rfl rfl ?_
  refine RegD.take (i := 0) rfl rfl rfl rfl (by kernel_rfl) (Bks.cons hX.blk (Bks.cons hB0.blk Bks.nil)) (fun H hS => Lod.ld sc108 rfl hS.hd rfl) ?_
  refine RegD.tpur (i := 1) rfl rfl rfl rfl (by kernel_rfl) (Pur.mv rfl) ?_
  refine RegD.tpur (i := 2) rfl rfl rfl rfl (by kernel_rfl) (Pur.mv rfl) ?_
  refine RegD.tpur (i := 3) rfl rfl rfl rfl (by kernel_rfl) (Pur.nilc rfl) ?_
  refine RegD.tpur (i := 4) rfl rfl rfl rfl (by kernel_rfl) (Pur.fld _ fo65_2 rfl) ?_
  refine RegD.take (i := 5) rfl rfl rfl rfl (by kernel_rfl) (Bks.cons hX.blk (Bks.cons hB0.blk Bks.nil)) (fun H hS => Lod.ld sc3 rfl hS.tl.hd (show _ = some (I ((pre.length : Int) + ta.sz - 1)) from hat 2 (by omega))) ?_
  refine RegD.one (i := 6) (by kernel_rfl) rfl rfl rfl rfl (Does.call rfl (ihf ta pre _ (by omega) hoa (hLe.trans (spl_a ta r tb pre post)) hY0 hT0 hS0 hN0 (by omega) (by rw [hob]; exact hoA) hoY hoT _ rfl)) ?_
  rintro _ H9_6 ⟨rfl, A1a, c1a, A2a, c2a, hN9_6, hM9_6⟩
  have hX1 := hX.via hM9_6.1 hoX.not
  have hY1 := hY0.via hM9_6.1 hoY.not
  have hT1 := hT0.via hM9_6.1 hoT.not
  have hB1 := hB0.via hM9_6.1 hoA.not
  have hS1 := hS0.via hM9_6.1 (fun _ g hg => by rw [hob] at hg; obtain rfl : g = b := (by omega); exact hoA.not)
  have hoX1 := hoX.mod zX hM9_6
  have hoA1 := hoA.mod zB0 hM9_6
  have hoY1 := hoY.mod zY0 hM9_6
  have hoT1 := hoT.mod zT0 hM9_6
  have zX1 := Int.ofNat_lt.2 hX1.lt
  have zB1 := Int.ofNat_lt.2 hB1.lt
  have zY1 := Int.ofNat_lt.2 hY1.lt
  have zT1 := Int.ofNat_lt.2 hT1.lt
  refine ⟨fun h => (by cases h), ?_⟩
  refine RegD.tpur (i := 7) rfl rfl rfl rfl (by kernel_rfl) (Pur.asg rfl) ?_
  refine RegD.done (by kernel_rfl) ?_
  refine At.region rfl rfl ?_
  refine Reg.pur rfl rfl rfl rfl (Pur.mv rfl) ?_
  refine Reg.pur rfl rfl rfl rfl (Pur.nilc rfl) ?_
  refine Reg.pur rfl rfl rfl rfl (Pur.fld _ fo65_4 rfl) ?_
  refine Reg.pur rfl rfl rfl rfl (Pur.mkf rfl rfl) ?_
  refine Reg.op rfl rfl rfl rfl (Does.call rfl (rowW_ok hr5 hrow hX1 hT1 hoT1 hB1 hrp hN9_6 (by omega))) ?_
  rintro _ H10_4 ⟨rfl, A2b, c2b, hN10_4, hM10_4⟩
  have hX2 := hX1.via hM10_4.1 hoX1.not
  have hY2 := hY1.via hM10_4.1 hoY1.not
  have hT2 := hT1.via hM10_4.1 hoT1.not
  have hB2 := hB1.via hM10_4.1 hoA1.not
  have hS2 := hS1.via hM10_4.1 (fun _ g hg => by rw [hob] at hg; obtain rfl : g = b := (by omega); exact hoA1.not)
  have hoA2 := hoA1.mod zB1 hM10_4
  have hoY2 := hoY1.mod zY1 hM10_4
  have hoT2 := hoT1.mod zT1 hM10_4
  refine Reg.pur rfl rfl rfl rfl (Pur.asg rfl) ?_
  refine Reg.nil ?_
  refine At.drawE ((Bks.cons hX2.blk (Bks.cons hB2.blk Bks.nil))) [12] mixed rfl rfl ?_
  refine RegD.tpur (i := 0) rfl rfl rfl rfl (by kernel_rfl) (Pur.mv rfl) ?_
  refine RegD.tpur (i := 1) rfl rfl rfl rfl (by kernel_rfl) (Pur.addS rfl rfl (szs (sl1 _) sA (by decide))) ?_
  refine RegD.tpur (i := 2) rfl rfl rfl rfl (by kernel_rfl) (Pur.addS rfl rfl (szs (sza (sl1 _) sA) (sl2 _ _) (by decide))) ?_
  refine RegD.tpur (i := 3) rfl rfl rfl rfl (by kernel_rfl) (Pur.mv rfl) ?_
  refine RegD.tpur (i := 4) rfl rfl rfl rfl (by kernel_rfl) (Pur.addS rfl rfl (szs (sza (sza (sl1 _) sA) (sl2 _ _)) sR (by decide))) ?_
  refine RegD.tpur (i := 5) rfl rfl rfl rfl (by kernel_rfl) (Pur.addS rfl rfl (szs (sza (sza (sza (sl1 _) sA) (sl2 _ _)) sR) (sl1 _) (by decide))) ?_
  refine RegD.take (i := 6) rfl rfl rfl rfl (by kernel_rfl) (Bks.cons hX2.blk (Bks.cons hB2.blk Bks.nil)) (fun H hS => Lod.ld sc108 rfl hS.hd rfl) ?_
  refine RegD.tpur (i := 7) rfl rfl rfl rfl (by kernel_rfl) (Pur.mv rfl) ?_
  refine RegD.tpur (i := 8) rfl rfl rfl rfl (by kernel_rfl) (Pur.mv rfl) ?_
  refine RegD.tpur (i := 9) rfl rfl rfl rfl (by kernel_rfl) (Pur.nilc rfl) ?_
  refine RegD.tpur (i := 10) rfl rfl rfl rfl (by kernel_rfl) (Pur.fld _ fo65_3 rfl) ?_
  refine RegD.take (i := 11) rfl rfl rfl rfl (by kernel_rfl) (Bks.cons hX2.blk (Bks.cons hB2.blk Bks.nil)) (fun H hS => Lod.ld sc3 rfl hS.tl.hd (show _ = some (I ((pre.length : Int) + ta.sz + tb.sz - 1)) from hat 3 (by omega))) ?_
  refine RegD.one (i := 12) (by kernel_rfl) rfl rfl rfl rfl (Does.call rfl (ihf tb (pre ++ ta.enc pre.length) _ (by omega) hob2 (hLe.trans (spl_b ta r tb pre post)) hY2 hT2 hS2 hN10_4 (by first | omega | (dsimp only; omega)) (by rw [hob]; exact hoA2) hoY2 hoT2 _ (by rw [spl_l]; omega))) ?_
  rintro _ H11_12 ⟨rfl, A1d, c1d, A2d, c2d, hN11_12, hM11_12⟩
  refine ⟨fun h => (by cases h), ?_⟩
  refine RegD.tpur (i := 13) rfl rfl rfl rfl (by kernel_rfl) (Pur.addS rfl rfl (szs (sza (sza (sza (sza (sl1 _) sA) (sl2 _ _)) sR) (sl1 _)) sB (by decide))) ?_
  refine RegD.tpur (i := 14) rfl rfl rfl rfl (by kernel_rfl) (Pur.addS rfl rfl (szs (sza (sza (sza (sza (sza (sl1 _) sA) (sl2 _ _)) sR) (sl1 _)) sB) (sl1 _) (by decide))) ?_
  refine RegD.tpur (i := 15) rfl rfl rfl rfl (by kernel_rfl) (Pur.asg rfl) ?_
  refine RegD.done (by kernel_rfl) ?_
  refine At.ret rfl Tryd.func62 rfl ?_
  exact ⟨rfl, A1d, c1d, A2d, c2d, hN11_12, ((hM0.trans hM9_6).trans hM10_4).trans hM11_12⟩
end Go.Proofs.YtlfillhffpiffaaDoor

namespace Go.Proofs.YtlfillhffpiffaaDoor
set_option linter.unusedSimpArgs false
set_option linter.unusedVariables false
set_option maxRecDepth 8000
set_option maxHeartbeats 1000000
open Go Go.Fx Go.Proofs
namespace FactsDShD
theorem ag55 : ag Tryd.prog 55 = some 1 := by kernel_rfl
theorem fo105_1 : foff Tryd.prog 105 1 = some 1 := by kernel_rfl
theorem fo55_0 : foff Tryd.prog 55 0 = some 0 := by kernel_rfl
theorem isl53 : isSl Tryd.prog 53 = true := by kernel_rfl
theorem pl100 : places Tryd.prog 100 = some [(0, 1), (1, 1)] := by kernel_rfl
theorem pl105 : places Tryd.prog 105 = some [(0, 1), (1, 1)] := by kernel_rfl
theorem pl109 : places Tryd.prog 109 = some [(0, 1), (1, 1)] := by kernel_rfl
theorem pl91 : places Tryd.prog 91 = some [(0, 1), (1, 1)] := by kernel_rfl
theorem sc4 : sc Tryd.prog 4 = true := by kernel_rfl
theorem sc53 : sc Tryd.prog 53 = true := by kernel_rfl
theorem zc100 : zc Tryd.prog 100 = some [.map none, .map none] := by kernel_rfl
theorem zc105 : zc Tryd.prog 105 = some [.slice none 0 0, .bool false] := by kernel_rfl
theorem zc109 : zc Tryd.prog 109 = some [.slice none 0 0, .slice none 0 0] := by kernel_rfl
theorem zc91 : zc Tryd.prog 91 = some [.slice none 0 0, .slice none 0 0] := by kernel_rfl
end FactsDShD
open FactsDShD

open Classical in
noncomputable def dcd (L : List (List Int)) : Tm := if h : ∃ t : Tm, t.ok ∧ t.sz ≤ 256 ∧ L = t.enc 0 then h.choose else .bas false
theorem dcd_enc {t : Tm} (h : t.ok) (hz : t.sz ≤ 256) : dcd (t.enc 0) = t := by
  unfold dcd
  have hx : ∃ u : Tm, u.ok ∧ u.sz ≤ 256 ∧ t.enc 0 = u.enc 0 := ⟨t, h, hz, rfl⟩
  rw [dif_pos hx]
  have h3 := hx.choose_spec
  exact enc_inj h3.1 h h3.2.1 h3.2.2.symm
noncomputable def txV (L : List (List Int)) : ByteArray × Int := if typM L then ((tx ([], []) (dcd L)).1, 0) else (⟨#[]⟩, 700)
noncomputable def insV (L K : List (List Int)) : Bool × Int := if typM L && typM K then ((inst [] (dcd L) (dcd K)).isSome, 0) else (false, 1100)
noncomputable def eqV (L K : List (List Int)) : Bool × Int := if typM L && typM K then ((txV L).1.toList == (txV K).1.toList, 0) else (false, 1100)
theorem txV_enc {t : Tm} (h : t.ok) (hz : t.sz ≤ 256) : txV (t.enc 0) = ((tx ([], []) t).1, 0) := by
  unfold txV; rw [enc_typ h hz, dcd_enc h hz]; rfl
theorem txV_no {L : List (List Int)} (h : typM L = false) : txV L = (⟨#[]⟩, 700) := by unfold txV; rw [h]; rfl
theorem insV_enc {t u : Tm} (h : t.ok) (hz : t.sz ≤ 256) (k : u.ok) (kz : u.sz ≤ 256) : insV (t.enc 0) (u.enc 0) = ((inst [] t u).isSome, 0) := by
  unfold insV; rw [enc_typ h hz, dcd_enc h hz, enc_typ k kz, dcd_enc k kz]; rfl
theorem insV_no1 {L K : List (List Int)} (h : typM L = false) : insV L K = (false, 1100) := by unfold insV; rw [h]; rfl
theorem insV_no2 {L K : List (List Int)} (h : typM K = false) : insV L K = (false, 1100) := by unfold insV; rw [h, Bool.and_false]; rfl
theorem txV_snd (L : List (List Int)) : (txV L).2 = 0 ↔ typM L = true := by
  unfold txV; cases typM L <;> simp
theorem eqV_yes {L K : List (List Int)} (h : typM L = true) (k : typM K = true) : eqV L K = ((txV L).1.toList == (txV K).1.toList, 0) := by
  unfold eqV; rw [h, k]; rfl
theorem eqV_no1 {L K : List (List Int)} (h : ¬ typM L = true) : eqV L K = (false, 1100) := by unfold eqV; rw [show typM L = false by simpa using h]; rfl
theorem eqV_no2 {L K : List (List Int)} (h : ¬ typM K = true) : eqV L K = (false, 1100) := by unfold eqV; rw [show typM K = false by simpa using h, Bool.and_false]; rfl

theorem instG_ok {A1 A2 : Option Addr} {c1 c2 : Nat} {L K : List (List Int)} (hL : Nine L) (hK : Nine K) {H : Heap} (hS1 : SlT H Is 9 (.slice A1 L.length c1) L) (hS2 : SlT H Is 9 (.slice A2 K.length c2) K) (hl : L.length ≤ 9223372036854775807) (hk : K.length ≤ 9223372036854775807) :
    Ret Tryd.prog 33 [Ty A1 L.length c1, Ty A2 K.length c2] H (fun v H' => v = .tuple #[.bool (insV L K).1, I (insV L K).2] ∧ Ext H H') := by
  refine Ret.of_at (N := 21) Tryd.call33 Tryd.func33 rfl rfl rfl ?_
  have hE := Ext.refl H
  refine At.region rfl rfl ?_
  refine Reg.op rfl rfl rfl rfl (Does.box rfl rfl) ?_
  rintro _ H0_0 ⟨rfl, hn0_0⟩
  have z0_0 := hn0_0.size
  replace hE := hE.ext hn0_0.ext
  have o0_0 := hn0_0.own
  refine Reg.op rfl rfl rfl rfl (Does.box rfl rfl) ?_
  rintro _ H0_1 ⟨rfl, hn0_1⟩
  have z0_1 := hn0_1.size
  replace hE := hE.ext hn0_1.ext
  replace o0_0 := o0_0.ext hn0_1.ext
  have o0_1 := hn0_1.own
  refine Reg.pur rfl rfl rfl rfl (Pur.asg rfl) ?_
  refine Reg.pur rfl rfl rfl rfl (Pur.asg rfl) ?_
  refine Reg.nil ?_
  refine At.region rfl rfl ?_
  refine Reg.lod rfl rfl rfl rfl (Lod.ldn ag55 rfl o0_0.blk (whole rfl) rfl) ?_
  refine Reg.op rfl rfl rfl rfl (Does.call rfl (typMay_ok L hL (hS1.ext hE) hl)) ?_
  rintro _ H1_1 ⟨rfl, hE1_1⟩
  have z1_1 := hE1_1.lt
  replace hE := hE.ext hE1_1
  replace o0_0 := o0_0.ext hE1_1
  replace o0_1 := o0_1.ext hE1_1
  refine Reg.pur rfl rfl rfl rfl (Pur.not rfl) ?_
  refine Reg.pur rfl rfl rfl rfl (Pur.mv rfl) ?_
  refine Reg.case 10 rfl (fun q10 => ?_) (fun q10 => ?_)
  · first | (simp only [decide_eq_true_eq, decide_eq_false_iff_not, Bool.not_eq_true', Bool.not_eq_false', ne_eq, Decidable.not_not, Bool.not_eq_true, Bool.not_eq_false] at q10) | (dsimp only at q10) | skip
    refine Reg.skip rfl rfl rfl rfl rfl rfl rfl ?_
    refine Reg.skip rfl rfl rfl rfl rfl rfl rfl ?_
    refine Reg.skip rfl rfl rfl rfl rfl rfl rfl ?_
    refine Reg.pur rfl rfl rfl rfl (Pur.pickT rfl rfl) ?_
    refine Reg.nil ?_
    refine At.condT rfl rfl rfl ?_
    refine At.region rfl rfl ?_
    refine Reg.pur rfl rfl rfl rfl (Pur.asg rfl) ?_
    refine Reg.pur rfl rfl rfl rfl (Pur.asg rfl) ?_
    refine Reg.nil ?_
    refine At.ret rfl Tryd.func33 rfl ?_
    rw [insV_no1 q10]; exact ⟨rfl, hE⟩
  first | (simp only [decide_eq_true_eq, decide_eq_false_iff_not, Bool.not_eq_true', Bool.not_eq_false', ne_eq, Decidable.not_not, Bool.not_eq_true, Bool.not_eq_false] at q10) | (dsimp only at q10) | skip
  refine Reg.glod rfl rfl rfl rfl rfl rfl (Lod.ldn ag55 rfl o0_1.blk (whole rfl) rfl) ?_
  refine Reg.gop rfl rfl rfl rfl rfl rfl (Does.call rfl (typMay_ok K hK (hS2.ext hE) hk)) ?_
  rintro _ H1_5 ⟨rfl, hE1_5⟩
  have z1_5 := hE1_5.lt
  replace hE := hE.ext hE1_5
  replace o0_0 := o0_0.ext hE1_5
  replace o0_1 := o0_1.ext hE1_5
  refine Reg.gpur rfl rfl rfl rfl rfl rfl (Pur.not rfl) ?_
  refine Reg.pur rfl rfl rfl rfl (Pur.pickF rfl rfl) ?_
  refine Reg.nil ?_
  refine At.cond rfl rfl (fun q14 => ?_) (fun q14 => ?_)
  · first | (simp only [decide_eq_true_eq, decide_eq_false_iff_not, Bool.not_eq_true', Bool.not_eq_false', ne_eq, Decidable.not_not, Bool.not_eq_true, Bool.not_eq_false] at q14) | (dsimp only at q14) | skip
    refine At.region rfl rfl ?_
    refine Reg.pur rfl rfl rfl rfl (Pur.asg rfl) ?_
    refine Reg.pur rfl rfl rfl rfl (Pur.asg rfl) ?_
    refine Reg.nil ?_
    refine At.ret rfl Tryd.func33 rfl ?_
    rw [insV_no2 q14]; exact ⟨rfl, hE⟩
  first | (simp only [decide_eq_true_eq, decide_eq_false_iff_not, Bool.not_eq_true', Bool.not_eq_false', ne_eq, Decidable.not_not, Bool.not_eq_true, Bool.not_eq_false] at q14) | (dsimp only at q14) | skip
  obtain ⟨g, hg, rfl, hgz⟩ := typ_dec hL q10
  obtain ⟨s, hs, rfl, hsz⟩ := typ_dec hK q14
  have hgn := g.enc_len 0
  have hsn := s.enc_len 0
  refine At.region rfl rfl ?_
  refine Reg.op rfl rfl rfl rfl (Does.mkm) ?_
  rintro _ H3_0 ⟨rfl, hm3_0, hE3_0, hsz3_0⟩
  have z3_0 := hE3_0.lt
  replace hE := hE.ext hE3_0
  replace o0_0 := o0_0.ext hE3_0
  replace o0_1 := o0_1.ext hE3_0
  have z_hm3_0 := hm3_0.lt
  refine Reg.op rfl rfl rfl rfl (Does.mkm) ?_
  rintro _ H3_1 ⟨rfl, hm3_1, hE3_1, hsz3_1⟩
  have z3_1 := hE3_1.lt
  replace hE := hE.ext hE3_1
  replace o0_0 := o0_0.ext hE3_1
  replace o0_1 := o0_1.ext hE3_1
  replace hm3_0 := hm3_0.ext hE3_1
  have z_hm3_1 := hm3_1.lt
  refine Reg.pur rfl rfl rfl rfl (Pur.bld (cs := [_, _]) pl100 zc100 rfl rfl ⟨rfl, rfl, rfl⟩) ?_
  refine Reg.op rfl rfl rfl rfl (Does.box rfl rfl) ?_
  rintro _ H3_3 ⟨rfl, hn3_3⟩
  have z3_3 := hn3_3.size
  replace hE := hE.ext hn3_3.ext
  replace o0_0 := o0_0.ext hn3_3.ext
  replace o0_1 := o0_1.ext hn3_3.ext
  replace hm3_0 := hm3_0.ext hn3_3.ext
  replace hm3_1 := hm3_1.ext hn3_3.ext
  have o3_3 := hn3_3.own
  refine Reg.pur rfl rfl rfl rfl (Pur.asg rfl) ?_
  refine Reg.nil ?_
  refine At.region rfl rfl ?_
  refine Reg.pur rfl rfl rfl rfl (Pur.mv rfl) ?_
  refine Reg.op rfl rfl rfl rfl (Does.call rfl (typedG_ok (by omega) g.sz g s (Nat.le_refl _) hg hgz hs hsz o3_3 hm3_0 hm3_1 (tyM_nil _) rwM_nil o0_0.blk (at0 _) (hS1.ext hE) o0_1.blk (at0 _) (hS2.ext hE))) ?_
  rintro v4_1 H4_1 hP
  obtain ⟨rfl, f1, f2, _, _, _, hC⟩ := hP
  refine Reg.pur rfl rfl rfl rfl (Pur.asg rfl) ?_
  refine Reg.pur rfl rfl rfl rfl (Pur.asg rfl) ?_
  refine Reg.nil ?_
  refine At.ret rfl Tryd.func33 rfl ?_
  rw [insV_enc hg hgz hs hsz]; exact ⟨rfl, hE.via hC (fun x hx h => by omega)⟩
theorem instRG_ok {A1 A2 : Option Addr} {c1 c2 : Nat} {L K : List (List Int)} (hL : Nine L) (hK : Nine K) {H : Heap} (hS1 : SlT H Is 9 (.slice A1 L.length c1) L) (hS2 : SlT H Is 9 (.slice A2 K.length c2) K) (hl : L.length ≤ 9223372036854775807) (hk : K.length ≤ 9223372036854775807) :
    Ret Tryd.prog 34 [Ty A1 L.length c1, Ty A2 K.length c2] H (fun v H' => v = .tuple #[.bool (insV L K).1, I (insV L K).2] ∧ Ext H H') := by
  refine Ret.of_at (N := 33) Tryd.call34 Tryd.func34 rfl rfl rfl ?_
  have hE := Ext.refl H
  refine At.region rfl rfl ?_
  refine Reg.op rfl rfl rfl rfl (Does.box rfl rfl) ?_
  rintro _ H0_0 ⟨rfl, hn0_0⟩
  have z0_0 := hn0_0.size
  replace hE := hE.ext hn0_0.ext
  have o0_0 := hn0_0.own
  refine Reg.op rfl rfl rfl rfl (Does.box rfl rfl) ?_
  rintro _ H0_1 ⟨rfl, hn0_1⟩
  have z0_1 := hn0_1.size
  replace hE := hE.ext hn0_1.ext
  replace o0_0 := o0_0.ext hn0_1.ext
  have o0_1 := hn0_1.own
  refine Reg.pur rfl rfl rfl rfl (Pur.asg rfl) ?_
  refine Reg.pur rfl rfl rfl rfl (Pur.asg rfl) ?_
  refine Reg.nil ?_
  refine At.region rfl rfl ?_
  refine Reg.lod rfl rfl rfl rfl (Lod.ldn ag55 rfl o0_0.blk (whole rfl) rfl) ?_
  refine Reg.op rfl rfl rfl rfl (Does.call rfl (typMayR_ok L hL (hS1.ext hE) hl)) ?_
  rintro _ H1_1 ⟨rfl, hE1_1⟩
  have z1_1 := hE1_1.lt
  replace hE := hE.ext hE1_1
  replace o0_0 := o0_0.ext hE1_1
  replace o0_1 := o0_1.ext hE1_1
  refine Reg.pur rfl rfl rfl rfl (Pur.not rfl) ?_
  refine Reg.pur rfl rfl rfl rfl (Pur.mv rfl) ?_
  refine Reg.case 10 rfl (fun q10 => ?_) (fun q10 => ?_)
  · first | (simp only [decide_eq_true_eq, decide_eq_false_iff_not, Bool.not_eq_true', Bool.not_eq_false', ne_eq, Decidable.not_not, Bool.not_eq_true, Bool.not_eq_false] at q10) | (dsimp only at q10) | skip
    refine Reg.skip rfl rfl rfl rfl rfl rfl rfl ?_
    refine Reg.skip rfl rfl rfl rfl rfl rfl rfl ?_
    refine Reg.skip rfl rfl rfl rfl rfl rfl rfl ?_
    refine Reg.pur rfl rfl rfl rfl (Pur.pickT rfl rfl) ?_
    refine Reg.nil ?_
    refine At.condT rfl rfl rfl ?_
    refine At.region rfl rfl ?_
    refine Reg.pur rfl rfl rfl rfl (Pur.asg rfl) ?_
    refine Reg.pur rfl rfl rfl rfl (Pur.asg rfl) ?_
    refine Reg.nil ?_
    refine At.ret rfl Tryd.func34 rfl ?_
    rw [insV_no1 q10]; exact ⟨rfl, hE⟩
  first | (simp only [decide_eq_true_eq, decide_eq_false_iff_not, Bool.not_eq_true', Bool.not_eq_false', ne_eq, Decidable.not_not, Bool.not_eq_true, Bool.not_eq_false] at q10) | (dsimp only at q10) | skip
  refine Reg.glod rfl rfl rfl rfl rfl rfl (Lod.ldn ag55 rfl o0_1.blk (whole rfl) rfl) ?_
  refine Reg.gop rfl rfl rfl rfl rfl rfl (Does.call rfl (typMayR_ok K hK (hS2.ext hE) hk)) ?_
  rintro _ H1_5 ⟨rfl, hE1_5⟩
  have z1_5 := hE1_5.lt
  replace hE := hE.ext hE1_5
  replace o0_0 := o0_0.ext hE1_5
  replace o0_1 := o0_1.ext hE1_5
  refine Reg.gpur rfl rfl rfl rfl rfl rfl (Pur.not rfl) ?_
  refine Reg.pur rfl rfl rfl rfl (Pur.pickF rfl rfl) ?_
  refine Reg.nil ?_
  refine At.cond rfl rfl (fun q14 => ?_) (fun q14 => ?_)
  · first | (simp only [decide_eq_true_eq, decide_eq_false_iff_not, Bool.not_eq_true', Bool.not_eq_false', ne_eq, Decidable.not_not, Bool.not_eq_true, Bool.not_eq_false] at q14) | (dsimp only at q14) | skip
    refine At.region rfl rfl ?_
    refine Reg.pur rfl rfl rfl rfl (Pur.asg rfl) ?_
    refine Reg.pur rfl rfl rfl rfl (Pur.asg rfl) ?_
    refine Reg.nil ?_
    refine At.ret rfl Tryd.func34 rfl ?_
    rw [insV_no2 q14]; exact ⟨rfl, hE⟩
  first | (simp only [decide_eq_true_eq, decide_eq_false_iff_not, Bool.not_eq_true', Bool.not_eq_false', ne_eq, Decidable.not_not, Bool.not_eq_true, Bool.not_eq_false] at q14) | (dsimp only at q14) | skip
  obtain ⟨g, hg, rfl, hgz⟩ := typ_dec hL q10
  obtain ⟨s, hs, rfl, hsz⟩ := typ_dec hK q14
  have hgn := g.enc_len 0
  have hsn := s.enc_len 0
  have hg1 := g.sz_pos
  have hs1 := s.sz_pos
  have hl1 := hS1.lt
  have hl2 := hS2.lt
  refine At.region rfl rfl ?_
  refine Reg.pur rfl rfl rfl rfl (Pur.bld (cs := [_, _]) pl105 zc105 rfl rfl ⟨rfl, rfl, rfl⟩) ?_
  refine Reg.op rfl rfl rfl rfl (Does.box rfl rfl) ?_
  rintro _ H3_1 ⟨rfl, hn3_1⟩
  have z3_1 := hn3_1.size
  replace hE := hE.ext hn3_1.ext
  replace o0_0 := o0_0.ext hn3_1.ext
  replace o0_1 := o0_1.ext hn3_1.ext
  have o3_1 := hn3_1.own
  refine Reg.pur rfl rfl rfl rfl (Pur.asg rfl) ?_
  refine Reg.nil ?_
  have hcall := mwalk_ok g.sz (gt := g) (st := s) (lo := H.size) (pre := []) (post := []) (pre' := []) (post' := []) (Nat.le_refl _) (mts_nil (by omega)) o3_1 (by simp; omega) hg hs (L := g.enc 0) (K := s.enc 0) (by simp) (by simp) hL hK (by omega) (by omega) (hS1.ext hE) (hS2.ext hE) (by omega) (by omega)
  rw [show ((([] : List (List Int)).length : Int) + g.sz - 1) = ((g.enc 0).length : Int) - 1 by simp [hgn], show ((([] : List (List Int)).length : Int) + s.sz - 1) = ((s.enc 0).length : Int) - 1 by simp [hsn]] at hcall
  refine At.region rfl rfl ?_
  refine Reg.pur rfl rfl rfl rfl (Pur.mv rfl) ?_
  refine Reg.lod rfl rfl rfl rfl (Lod.ldn ag55 rfl o0_0.blk (whole rfl) rfl) ?_
  refine Reg.pur rfl rfl rfl rfl (Pur.fld _ fo55_0 rfl) ?_
  refine Reg.lod rfl rfl rfl rfl (Lod.ld sc53 rfl o0_0.blk rfl) ?_
  refine Reg.pur rfl rfl rfl rfl (Pur.lenS isl53 rfl) ?_
  first | refine Reg.pur rfl rfl rfl rfl (Pur.sub64 rfl rfl (by omega)) ?_ | refine Reg.pur rfl rfl rfl rfl (Pur.sub64 rfl rfl (by assumption)) ?_ | refine Reg.pur rfl rfl rfl rfl (Pur.sub rfl rfl) ?_
  refine Reg.lod rfl rfl rfl rfl (Lod.ldn ag55 rfl o0_1.blk (whole rfl) rfl) ?_
  refine Reg.pur rfl rfl rfl rfl (Pur.fld _ fo55_0 rfl) ?_
  refine Reg.lod rfl rfl rfl rfl (Lod.ld sc53 rfl o0_1.blk rfl) ?_
  refine Reg.pur rfl rfl rfl rfl (Pur.lenS isl53 rfl) ?_
  first | refine Reg.pur rfl rfl rfl rfl (Pur.sub64 rfl rfl (by omega)) ?_ | refine Reg.pur rfl rfl rfl rfl (Pur.sub64 rfl rfl (by assumption)) ?_ | refine Reg.pur rfl rfl rfl rfl (Pur.sub rfl rfl) ?_
  refine Reg.op rfl rfl rfl rfl (Does.call rfl (hcall)) ?_
  rintro w4_11 H4_11 hP
  obtain ⟨A5, cp5, Bs5, M5, ok5, hMt5, ho5, hM5, hl5, hk5, hMM5⟩ := hP

  refine Reg.nil ?_
  refine At.region rfl rfl ?_
  refine Reg.pur rfl rfl rfl rfl (Pur.mv rfl) ?_
  refine Reg.pur rfl rfl rfl rfl (Pur.nilc rfl) ?_
  refine Reg.pur rfl rfl rfl rfl (Pur.fld _ fo105_1 rfl) ?_
  refine Reg.lod rfl rfl rfl rfl (Lod.ld sc4 rfl ho5.blk rfl) ?_
  refine Reg.pur rfl rfl rfl rfl (Pur.asg rfl) ?_
  refine Reg.pur rfl rfl rfl rfl (Pur.asg rfl) ?_
  refine Reg.nil ?_
  refine At.ret rfl Tryd.func34 rfl ?_
  rw [insV_enc hg hgz hs hsz, ← show ok5 = (inst [] g s).isSome by rw [hk5]; simp]
  exact ⟨rfl, hE.via hM5.1 (fun g hg h => by rw [ob_none] at h; omega)⟩

theorem typText_ok {A : Option Addr} {cap : Nat} {L : List (List Int)} (hL : Nine L) {H : Heap} (hT : Tens H) (hS : SlT H Is 9 (.slice A L.length cap) L) (hl : L.length ≤ 9223372036854775807) :
    Ret Tryd.prog 39 [Ty A L.length cap] H (fun v H' => v = .tuple #[.string (txV L).1, I (txV L).2] ∧ Ext H H') := by
  have zT : gT < H.size := hT.lt
  refine Ret.of_at (N := 14) Tryd.call39 Tryd.func39 rfl rfl rfl ?_
  have hE := Ext.refl H
  refine At.region rfl rfl ?_
  refine Reg.op rfl rfl rfl rfl (Does.box rfl rfl) ?_
  rintro _ H0_0 ⟨rfl, hn0_0⟩
  have z0_0 := hn0_0.size
  replace hE := hE.ext hn0_0.ext
  have o0_0 := hn0_0.own
  refine Reg.pur rfl rfl rfl rfl (Pur.asg rfl) ?_
  refine Reg.pur rfl rfl rfl rfl (Pur.asg rfl) ?_
  refine Reg.nil ?_
  refine At.region rfl rfl ?_
  refine Reg.lod rfl rfl rfl rfl (Lod.ldn ag55 rfl o0_0.blk (whole rfl) rfl) ?_
  refine Reg.op rfl rfl rfl rfl (Does.call rfl (typMay_ok L hL (hS.ext hE) hl)) ?_
  rintro _ H1_1 ⟨rfl, hE1_1⟩
  have z1_1 := hE1_1.lt
  replace hE := hE.ext hE1_1
  replace o0_0 := o0_0.ext hE1_1
  refine Reg.pur rfl rfl rfl rfl (Pur.not rfl) ?_
  refine Reg.nil ?_
  refine At.cond rfl rfl (fun q6 => ?_) (fun q6 => ?_)
  · first | (simp only [decide_eq_true_eq, decide_eq_false_iff_not, Bool.not_eq_true', Bool.not_eq_false', ne_eq, Decidable.not_not, Bool.not_eq_true, Bool.not_eq_false] at q6) | (dsimp only at q6) | skip
    refine At.region rfl rfl ?_
    refine Reg.pur rfl rfl rfl rfl (Pur.asg rfl) ?_
    refine Reg.pur rfl rfl rfl rfl (Pur.asg rfl) ?_
    refine Reg.nil ?_
    refine At.ret rfl Tryd.func39 rfl ?_
    rw [txV_no q6]; exact ⟨rfl, hE⟩
  first | (simp only [decide_eq_true_eq, decide_eq_false_iff_not, Bool.not_eq_true', Bool.not_eq_false', ne_eq, Decidable.not_not, Bool.not_eq_true, Bool.not_eq_false] at q6) | (dsimp only at q6) | skip
  obtain ⟨t, hok, rfl, hsz⟩ := typ_dec hL q6
  have hl' : (t.enc 0).length = t.sz := Tm.enc_len t 0
  have hpos := t.sz_pos
  refine At.region rfl rfl ?_
  refine Reg.pur rfl rfl rfl rfl (Pur.bld (cs := [_, _]) pl109 zc109 rfl rfl ⟨rfl, rfl, rfl⟩) ?_
  refine Reg.op rfl rfl rfl rfl (Does.box rfl rfl) ?_
  rintro _ H3_1 ⟨rfl, hn3_1⟩
  have z3_1 := hn3_1.size
  replace hE := hE.ext hn3_1.ext
  replace o0_0 := o0_0.ext hn3_1.ext
  have o3_1 := hn3_1.own
  refine Reg.pur rfl rfl rfl rfl (Pur.fld _ fo55_0 rfl) ?_
  refine Reg.lod rfl rfl rfl rfl (Lod.ld sc53 rfl o0_0.blk rfl) ?_
  refine Reg.pur rfl rfl rfl rfl (Pur.lenS isl53 rfl) ?_
  refine Reg.pur rfl rfl rfl rfl (Pur.sub64 rfl rfl (by omega)) ?_
  refine Reg.op rfl rfl rfl rfl (Does.call rfl (textP_ok hL (by omega) (at0 _) t.sz t [] [] (Nat.le_refl _) hok (by simp) o0_0.blk (hT.ext hE) (hS.ext hE) (nm_new (B := H.size) o3_1 (by omega)) (by simp; omega) (off_none (by have := hS.lt; omega) (by have := hS.lt; omega)) (off_none (by omega) (by omega)) (off_none (by omega) (by omega)) _ (by rw [hl']; simp))) ?_
  rintro _ H3_6 ⟨rfl, A1, c1, A2, c2, hN3_6, hM3_6⟩
  refine Reg.pur rfl rfl rfl rfl (Pur.asg rfl) ?_
  refine Reg.pur rfl rfl rfl rfl (Pur.asg rfl) ?_
  refine Reg.nil ?_
  refine At.ret rfl Tryd.func39 rfl ?_
  rw [txV_enc hok hsz]; exact ⟨rfl, mod_ext hM3_6 hE (by omega)⟩
theorem typTextR_ok {A : Option Addr} {cap : Nat} {L : List (List Int)} (hL : Nine L) {H : Heap} (hS : SlT H Is 9 (.slice A L.length cap) L) (hl : L.length ≤ 9223372036854775807) :
    Ret Tryd.prog 40 [Ty A L.length cap] H (fun v H' => v = .tuple #[.string (txV L).1, I (txV L).2] ∧ Ext H H') := by
  refine Ret.of_at (N := 18) Tryd.call40 Tryd.func40 rfl rfl rfl ?_
  have hE := Ext.refl H
  refine At.region rfl rfl ?_
  refine Reg.op rfl rfl rfl rfl (Does.box rfl rfl) ?_
  rintro _ H0_0 ⟨rfl, hn0_0⟩
  have z0_0 := hn0_0.size
  replace hE := hE.ext hn0_0.ext
  have o0_0 := hn0_0.own
  refine Reg.pur rfl rfl rfl rfl (Pur.asg rfl) ?_
  refine Reg.pur rfl rfl rfl rfl (Pur.asg rfl) ?_
  refine Reg.nil ?_
  refine At.region rfl rfl ?_
  refine Reg.lod rfl rfl rfl rfl (Lod.ldn ag55 rfl o0_0.blk (whole rfl) rfl) ?_
  refine Reg.op rfl rfl rfl rfl (Does.call rfl (typMayR_ok L hL (hS.ext hE) hl)) ?_
  rintro _ H1_1 ⟨rfl, hE1_1⟩
  have z1_1 := hE1_1.lt
  replace hE := hE.ext hE1_1
  replace o0_0 := o0_0.ext hE1_1
  refine Reg.pur rfl rfl rfl rfl (Pur.not rfl) ?_
  refine Reg.nil ?_
  refine At.cond rfl rfl (fun q7 => ?_) (fun q7 => ?_)
  · first | (simp only [decide_eq_true_eq, decide_eq_false_iff_not, Bool.not_eq_true', Bool.not_eq_false', ne_eq, Decidable.not_not, Bool.not_eq_true, Bool.not_eq_false] at q7) | (dsimp only at q7) | skip
    refine At.region rfl rfl ?_
    refine Reg.pur rfl rfl rfl rfl (Pur.asg rfl) ?_
    refine Reg.pur rfl rfl rfl rfl (Pur.asg rfl) ?_
    refine Reg.nil ?_
    refine At.ret rfl Tryd.func40 rfl ?_
    rw [txV_no q7]; exact ⟨rfl, hE⟩
  first | (simp only [decide_eq_true_eq, decide_eq_false_iff_not, Bool.not_eq_true', Bool.not_eq_false', ne_eq, Decidable.not_not, Bool.not_eq_true, Bool.not_eq_false] at q7) | (dsimp only at q7) | skip
  obtain ⟨t, hok, rfl, hsz⟩ := typ_dec hL q7
  have hl' : (t.enc 0).length = t.sz := Tm.enc_len t 0
  have hpos := t.sz_pos
  refine At.region rfl rfl ?_
  refine Reg.pur rfl rfl rfl rfl (Pur.bld (cs := [_, _]) pl91 zc91 rfl rfl ⟨rfl, rfl, rfl⟩) ?_
  refine Reg.op rfl rfl rfl rfl (Does.box rfl rfl) ?_
  rintro _ H3_1 ⟨rfl, hn3_1⟩
  have z3_1 := hn3_1.size
  replace hE := hE.ext hn3_1.ext
  replace o0_0 := o0_0.ext hn3_1.ext
  have o3_1 := hn3_1.own
  refine Reg.pur rfl rfl rfl rfl (Pur.asg rfl) ?_
  refine Reg.nil ?_
  refine At.region rfl rfl ?_
  refine Reg.pur rfl rfl rfl rfl (Pur.mv rfl) ?_
  refine Reg.pur rfl rfl rfl rfl (Pur.fld _ fo55_0 rfl) ?_
  refine Reg.lod rfl rfl rfl rfl (Lod.ld sc53 rfl o0_0.blk rfl) ?_
  refine Reg.pur rfl rfl rfl rfl (Pur.fld _ fo55_0 rfl) ?_
  refine Reg.lod rfl rfl rfl rfl (Lod.ld sc53 rfl o0_0.blk rfl) ?_
  refine Reg.pur rfl rfl rfl rfl (Pur.lenS isl53 rfl) ?_
  refine Reg.pur rfl rfl rfl rfl (Pur.sub64 rfl rfl (by omega)) ?_
  refine Reg.op rfl rfl rfl rfl (Does.call rfl (text_ok hL (by omega) t.sz t [] [] (Nat.le_refl _) hok (by simp) (hS.ext hE) (nm_new (B := H.size) o3_1 (by omega)) (by simp; omega) (off_none (by have := hS.lt; omega) (by have := hS.lt; omega)) _ (by rw [hl']; simp))) ?_
  rintro _ H4_7 ⟨rfl, A1, c1, A2, c2, hN4_7, hM4_7⟩
  refine Reg.pur rfl rfl rfl rfl (Pur.asg rfl) ?_
  refine Reg.pur rfl rfl rfl rfl (Pur.asg rfl) ?_
  refine Reg.nil ?_
  refine At.ret rfl Tryd.func40 rfl ?_
  rw [txV_enc hok hsz]; exact ⟨rfl, mod_ext hM4_7 hE (by omega)⟩
theorem equal_ok {A1 A2 : Option Addr} {c1 c2 : Nat} {L K : List (List Int)} (hL : Nine L) (hK : Nine K) {H : Heap} (hT : Tens H) (hS1 : SlT H Is 9 (.slice A1 L.length c1) L) (hS2 : SlT H Is 9 (.slice A2 K.length c2) K) (hl : L.length ≤ 9223372036854775807) (hk : K.length ≤ 9223372036854775807) :
    Ret Tryd.prog 35 [Ty A1 L.length c1, Ty A2 K.length c2] H (fun v H' => v = .tuple #[.bool (eqV L K).1, I (eqV L K).2] ∧ Ext H H') := by
  refine Ret.of_at (N := 29) Tryd.call35 Tryd.func35 rfl rfl rfl ?_
  have hE := Ext.refl H
  refine At.region rfl rfl ?_
  refine Reg.op rfl rfl rfl rfl (Does.box rfl rfl) ?_
  rintro _ H0_0 ⟨rfl, hn0_0⟩
  have z0_0 := hn0_0.size
  replace hE := hE.ext hn0_0.ext
  have o0_0 := hn0_0.own
  refine Reg.op rfl rfl rfl rfl (Does.box rfl rfl) ?_
  rintro _ H0_1 ⟨rfl, hn0_1⟩
  have z0_1 := hn0_1.size
  replace hE := hE.ext hn0_1.ext
  replace o0_0 := o0_0.ext hn0_1.ext
  have o0_1 := hn0_1.own
  refine Reg.pur rfl rfl rfl rfl (Pur.asg rfl) ?_
  refine Reg.pur rfl rfl rfl rfl (Pur.asg rfl) ?_
  refine Reg.nil ?_
  refine At.region rfl rfl ?_
  refine Reg.lod rfl rfl rfl rfl (Lod.ldn ag55 rfl o0_0.blk (whole rfl) rfl) ?_
  refine Reg.op rfl rfl rfl rfl (Does.call rfl (typText_ok hL (hT.ext hE) (hS1.ext hE) hl)) ?_
  rintro _ H1_1 ⟨rfl, hE1_1⟩
  have z1_1 := hE1_1.lt
  replace hE := hE.ext hE1_1
  replace o0_0 := o0_0.ext hE1_1
  replace o0_1 := o0_1.ext hE1_1
  refine Reg.pur rfl rfl rfl rfl (Pur.mv rfl) ?_
  refine Reg.pur rfl rfl rfl rfl (Pur.ext rfl rfl) ?_
  refine Reg.pur rfl rfl rfl rfl (Pur.ext rfl rfl) ?_
  refine Reg.pur rfl rfl rfl rfl (Pur.asg rfl) ?_
  refine Reg.pur rfl rfl rfl rfl (Pur.asg rfl) ?_
  refine Reg.nil ?_
  refine At.region rfl rfl ?_
  refine Reg.lod rfl rfl rfl rfl (Lod.ldn ag55 rfl o0_1.blk (whole rfl) rfl) ?_
  refine Reg.op rfl rfl rfl rfl (Does.call rfl (typText_ok hK (hT.ext hE) (hS2.ext hE) hk)) ?_
  rintro _ H2_1 ⟨rfl, hE2_1⟩
  have z2_1 := hE2_1.lt
  replace hE := hE.ext hE2_1
  replace o0_0 := o0_0.ext hE2_1
  replace o0_1 := o0_1.ext hE2_1
  refine Reg.pur rfl rfl rfl rfl (Pur.mv rfl) ?_
  refine Reg.pur rfl rfl rfl rfl (Pur.ext rfl rfl) ?_
  refine Reg.pur rfl rfl rfl rfl (Pur.ext rfl rfl) ?_
  refine Reg.pur rfl rfl rfl rfl (Pur.asg rfl) ?_
  refine Reg.pur rfl rfl rfl rfl (Pur.asg rfl) ?_
  refine Reg.nil ?_
  refine At.region rfl rfl ?_
  refine Reg.pur rfl rfl rfl rfl (Pur.mv rfl) ?_
  refine Reg.pur rfl rfl rfl rfl (Pur.neq rfl rfl) ?_
  refine Reg.pur rfl rfl rfl rfl (Pur.mv rfl) ?_
  refine Reg.case 22 rfl (fun q22 => ?_) (fun q22 => ?_)
  · first | (simp only [decide_eq_true_eq, decide_eq_false_iff_not, Bool.not_eq_true', Bool.not_eq_false', ne_eq, Decidable.not_not, Bool.not_eq_true, Bool.not_eq_false] at q22) | (dsimp only at q22) | skip
    refine Reg.skip rfl rfl rfl rfl rfl rfl rfl ?_
    refine Reg.skip rfl rfl rfl rfl rfl rfl rfl ?_
    refine Reg.pur rfl rfl rfl rfl (Pur.pickT rfl rfl) ?_
    refine Reg.nil ?_
    refine At.condT rfl rfl rfl ?_
    refine At.region rfl rfl ?_
    refine Reg.pur rfl rfl rfl rfl (Pur.asg rfl) ?_
    refine Reg.pur rfl rfl rfl rfl (Pur.asg rfl) ?_
    refine Reg.nil ?_
    refine At.ret rfl Tryd.func35 rfl ?_
    rw [txV_snd] at q22; rw [eqV_no1 q22]; exact ⟨rfl, hE⟩
  first | (simp only [decide_eq_true_eq, decide_eq_false_iff_not, Bool.not_eq_true', Bool.not_eq_false', ne_eq, Decidable.not_not, Bool.not_eq_true, Bool.not_eq_false] at q22) | (dsimp only at q22) | skip
  refine Reg.gpur rfl rfl rfl rfl rfl rfl (Pur.mv rfl) ?_
  refine Reg.gpur rfl rfl rfl rfl rfl rfl (Pur.neq rfl rfl) ?_
  refine Reg.pur rfl rfl rfl rfl (Pur.pickF rfl rfl) ?_
  refine Reg.nil ?_
  refine At.cond rfl rfl (fun q25 => ?_) (fun q25 => ?_)
  · first | (simp only [decide_eq_true_eq, decide_eq_false_iff_not, Bool.not_eq_true', Bool.not_eq_false', ne_eq, Decidable.not_not, Bool.not_eq_true, Bool.not_eq_false] at q25) | (dsimp only at q25) | skip
    refine At.region rfl rfl ?_
    refine Reg.pur rfl rfl rfl rfl (Pur.asg rfl) ?_
    refine Reg.pur rfl rfl rfl rfl (Pur.asg rfl) ?_
    refine Reg.nil ?_
    refine At.ret rfl Tryd.func35 rfl ?_
    rw [txV_snd] at q25; rw [eqV_no2 q25]; exact ⟨rfl, hE⟩
  first | (simp only [decide_eq_true_eq, decide_eq_false_iff_not, Bool.not_eq_true', Bool.not_eq_false', ne_eq, Decidable.not_not, Bool.not_eq_true, Bool.not_eq_false] at q25) | (dsimp only at q25) | skip
  refine At.region rfl rfl ?_
  refine Reg.pur rfl rfl rfl rfl (Pur.mv rfl) ?_
  refine Reg.pur rfl rfl rfl rfl (Pur.mv rfl) ?_
  refine Reg.pur rfl rfl rfl rfl (Pur.eqS rfl rfl) ?_
  refine Reg.pur rfl rfl rfl rfl (Pur.asg rfl) ?_
  refine Reg.pur rfl rfl rfl rfl (Pur.asg rfl) ?_
  refine Reg.nil ?_
  refine At.ret rfl Tryd.func35 rfl ?_
  rw [txV_snd] at q22 q25
  rw [eqV_yes q22 q25]; exact ⟨rfl, hE⟩
theorem equalR_ok {A1 A2 : Option Addr} {c1 c2 : Nat} {L K : List (List Int)} (hL : Nine L) (hK : Nine K) {H : Heap} (hS1 : SlT H Is 9 (.slice A1 L.length c1) L) (hS2 : SlT H Is 9 (.slice A2 K.length c2) K) (hl : L.length ≤ 9223372036854775807) (hk : K.length ≤ 9223372036854775807) :
    Ret Tryd.prog 36 [Ty A1 L.length c1, Ty A2 K.length c2] H (fun v H' => v = .tuple #[.bool (eqV L K).1, I (eqV L K).2] ∧ Ext H H') := by
  refine Ret.of_at (N := 29) Tryd.call36 Tryd.func36 rfl rfl rfl ?_
  have hE := Ext.refl H
  refine At.region rfl rfl ?_
  refine Reg.op rfl rfl rfl rfl (Does.box rfl rfl) ?_
  rintro _ H0_0 ⟨rfl, hn0_0⟩
  have z0_0 := hn0_0.size
  replace hE := hE.ext hn0_0.ext
  have o0_0 := hn0_0.own
  refine Reg.op rfl rfl rfl rfl (Does.box rfl rfl) ?_
  rintro _ H0_1 ⟨rfl, hn0_1⟩
  have z0_1 := hn0_1.size
  replace hE := hE.ext hn0_1.ext
  replace o0_0 := o0_0.ext hn0_1.ext
  have o0_1 := hn0_1.own
  refine Reg.pur rfl rfl rfl rfl (Pur.asg rfl) ?_
  refine Reg.pur rfl rfl rfl rfl (Pur.asg rfl) ?_
  refine Reg.nil ?_
  refine At.region rfl rfl ?_
  refine Reg.lod rfl rfl rfl rfl (Lod.ldn ag55 rfl o0_0.blk (whole rfl) rfl) ?_
  refine Reg.op rfl rfl rfl rfl (Does.call rfl (typTextR_ok hL (hS1.ext hE) hl)) ?_
  rintro _ H1_1 ⟨rfl, hE1_1⟩
  have z1_1 := hE1_1.lt
  replace hE := hE.ext hE1_1
  replace o0_0 := o0_0.ext hE1_1
  replace o0_1 := o0_1.ext hE1_1
  refine Reg.pur rfl rfl rfl rfl (Pur.mv rfl) ?_
  refine Reg.pur rfl rfl rfl rfl (Pur.ext rfl rfl) ?_
  refine Reg.pur rfl rfl rfl rfl (Pur.ext rfl rfl) ?_
  refine Reg.pur rfl rfl rfl rfl (Pur.asg rfl) ?_
  refine Reg.pur rfl rfl rfl rfl (Pur.asg rfl) ?_
  refine Reg.nil ?_
  refine At.region rfl rfl ?_
  refine Reg.lod rfl rfl rfl rfl (Lod.ldn ag55 rfl o0_1.blk (whole rfl) rfl) ?_
  refine Reg.op rfl rfl rfl rfl (Does.call rfl (typTextR_ok hK (hS2.ext hE) hk)) ?_
  rintro _ H2_1 ⟨rfl, hE2_1⟩
  have z2_1 := hE2_1.lt
  replace hE := hE.ext hE2_1
  replace o0_0 := o0_0.ext hE2_1
  replace o0_1 := o0_1.ext hE2_1
  refine Reg.pur rfl rfl rfl rfl (Pur.mv rfl) ?_
  refine Reg.pur rfl rfl rfl rfl (Pur.ext rfl rfl) ?_
  refine Reg.pur rfl rfl rfl rfl (Pur.ext rfl rfl) ?_
  refine Reg.pur rfl rfl rfl rfl (Pur.asg rfl) ?_
  refine Reg.pur rfl rfl rfl rfl (Pur.asg rfl) ?_
  refine Reg.nil ?_
  refine At.region rfl rfl ?_
  refine Reg.pur rfl rfl rfl rfl (Pur.mv rfl) ?_
  refine Reg.pur rfl rfl rfl rfl (Pur.neq rfl rfl) ?_
  refine Reg.pur rfl rfl rfl rfl (Pur.mv rfl) ?_
  refine Reg.case 22 rfl (fun q22 => ?_) (fun q22 => ?_)
  · first | (simp only [decide_eq_true_eq, decide_eq_false_iff_not, Bool.not_eq_true', Bool.not_eq_false', ne_eq, Decidable.not_not, Bool.not_eq_true, Bool.not_eq_false] at q22) | (dsimp only at q22) | skip
    refine Reg.skip rfl rfl rfl rfl rfl rfl rfl ?_
    refine Reg.skip rfl rfl rfl rfl rfl rfl rfl ?_
    refine Reg.pur rfl rfl rfl rfl (Pur.pickT rfl rfl) ?_
    refine Reg.nil ?_
    refine At.condT rfl rfl rfl ?_
    refine At.region rfl rfl ?_
    refine Reg.pur rfl rfl rfl rfl (Pur.asg rfl) ?_
    refine Reg.pur rfl rfl rfl rfl (Pur.asg rfl) ?_
    refine Reg.nil ?_
    refine At.ret rfl Tryd.func36 rfl ?_
    rw [txV_snd] at q22; rw [eqV_no1 q22]; exact ⟨rfl, hE⟩
  first | (simp only [decide_eq_true_eq, decide_eq_false_iff_not, Bool.not_eq_true', Bool.not_eq_false', ne_eq, Decidable.not_not, Bool.not_eq_true, Bool.not_eq_false] at q22) | (dsimp only at q22) | skip
  refine Reg.gpur rfl rfl rfl rfl rfl rfl (Pur.mv rfl) ?_
  refine Reg.gpur rfl rfl rfl rfl rfl rfl (Pur.neq rfl rfl) ?_
  refine Reg.pur rfl rfl rfl rfl (Pur.pickF rfl rfl) ?_
  refine Reg.nil ?_
  refine At.cond rfl rfl (fun q25 => ?_) (fun q25 => ?_)
  · first | (simp only [decide_eq_true_eq, decide_eq_false_iff_not, Bool.not_eq_true', Bool.not_eq_false', ne_eq, Decidable.not_not, Bool.not_eq_true, Bool.not_eq_false] at q25) | (dsimp only at q25) | skip
    refine At.region rfl rfl ?_
    refine Reg.pur rfl rfl rfl rfl (Pur.asg rfl) ?_
    refine Reg.pur rfl rfl rfl rfl (Pur.asg rfl) ?_
    refine Reg.nil ?_
    refine At.ret rfl Tryd.func36 rfl ?_
    rw [txV_snd] at q25; rw [eqV_no2 q25]; exact ⟨rfl, hE⟩
  first | (simp only [decide_eq_true_eq, decide_eq_false_iff_not, Bool.not_eq_true', Bool.not_eq_false', ne_eq, Decidable.not_not, Bool.not_eq_true, Bool.not_eq_false] at q25) | (dsimp only at q25) | skip
  refine At.region rfl rfl ?_
  refine Reg.pur rfl rfl rfl rfl (Pur.mv rfl) ?_
  refine Reg.pur rfl rfl rfl rfl (Pur.mv rfl) ?_
  refine Reg.pur rfl rfl rfl rfl (Pur.eqS rfl rfl) ?_
  refine Reg.pur rfl rfl rfl rfl (Pur.asg rfl) ?_
  refine Reg.pur rfl rfl rfl rfl (Pur.asg rfl) ?_
  refine Reg.nil ?_
  refine At.ret rfl Tryd.func36 rfl ?_
  rw [txV_snd] at q22 q25
  rw [eqV_yes q22 q25]; exact ⟨rfl, hE⟩
end Go.Proofs.YtlfillhffpiffaaDoor

namespace Go.Proofs.YtlfillhffpiffaaDoor
set_option linter.unusedSimpArgs false
set_option linter.unusedVariables false
set_option maxRecDepth 8000
set_option maxHeartbeats 1000000
open Go Go.Fx Go.Proofs
namespace FactsDMaA
theorem ag24 : ag Tryd.prog 24 = some 5 := by kernel_rfl
theorem ag55 : ag Tryd.prog 55 = some 1 := by kernel_rfl
theorem arr22 : arr Tryd.prog 22 = some (4, 1) := by kernel_rfl
theorem fo24_0 : foff Tryd.prog 24 0 = some 0 := by kernel_rfl
theorem pl24 : places Tryd.prog 24 = some [(0, 4), (4, 1)] := by kernel_rfl
theorem pl55 : places Tryd.prog 55 = some [(0, 1)] := by kernel_rfl
theorem pl65 : places Tryd.prog 65 = some [(0, 1), (1, 1), (2, 1), (3, 1), (4, 5)] := by kernel_rfl
theorem sc3 : sc Tryd.prog 3 = true := by kernel_rfl
theorem slA53 : slA Tryd.prog 53 = some (65, 9) := by kernel_rfl
theorem zc24 : zc Tryd.prog 24 = some [.int .i64 0, .int .i64 0, .int .i64 0, .int .i64 0, .int .i64 0] := by kernel_rfl
theorem zc55 : zc Tryd.prog 55 = some [.slice none 0 0] := by kernel_rfl
theorem zc65 : zc Tryd.prog 65 = some [.int .i64 0, .int .i64 0, .int .i64 0, .int .i64 0, .int .i64 0, .int .i64 0, .int .i64 0, .int .i64 0, .int .i64 0] := by kernel_rfl
end FactsDMaA
open FactsDMaA

abbrev maG : Tm := .fn (.var 5) [0, 0, 0, 0, 2] (.var 5)
abbrev maS : Tm := .fn (.bas false) [0, 0, 0, 1, -1] (.bas false)
theorem maGok : maG.ok := ⟨⟨by decide, by decide⟩, rfl, rfl, ⟨by decide, by decide⟩⟩
theorem maSok : maS.ok := ⟨trivial, rfl, rfl, trivial⟩
theorem maI1 : insV (maG.enc 0) (maS.enc 0) = (true, 0) := by rw [insV_enc maGok (by decide) maSok (by decide)]; exact congrArg (fun b => (b, (0 : Int))) (by kernel_rfl)
theorem maI2 : insV (maS.enc 0) (maG.enc 0) = (false, 0) := by rw [insV_enc maSok (by decide) maGok (by decide)]; exact congrArg (fun b => (b, (0 : Int))) (by kernel_rfl)
theorem maE1 : eqV (maG.enc 0) (maS.enc 0) = (false, 0) := by
  rw [eqV_yes (enc_typ maGok (by decide)) (enc_typ maSok (by decide)), txV_enc maGok (by decide), txV_enc maSok (by decide)]
  dsimp only
  rw [ByteArray.toList_eq, ByteArray.toList_eq]
  exact congrArg (fun b => (b, (0 : Int))) (by kernel_rfl)
theorem maE2 : eqV (maG.enc 0) [] = (false, 1100) := eqV_no2 (by decide)
theorem awake11_ok {H : Heap} (hT : Tens H) : Ret Tryd.prog 38 [] H (fun v H' => v = .bool true ∧ Ext H H') := by
  have hg9 := maG.enc_nine 0 maGok
  have hs9 := maS.enc_nine 0 maSok
  refine Ret.of_at (N := 80) Tryd.call38 Tryd.func38 rfl rfl rfl ?_
  have hE := Ext.refl H
  refine At.region rfl rfl ?_
  refine Reg.pur rfl rfl rfl rfl (Pur.asg rfl) ?_
  refine Reg.nil ?_
  refine At.region rfl rfl ?_
  refine Reg.pur rfl rfl rfl rfl (Pur.bld (cs := [_, _, _, _, _, _, _, _, _]) pl65 zc65 rfl rfl ⟨rfl, rfl, rfl, rfl, rfl, rfl, rfl, rfl, rfl, rfl⟩) ?_
  refine Reg.pur rfl rfl rfl rfl (Pur.bld (cs := [_, _, _, _, _, _, _, _, _]) pl65 zc65 rfl rfl ⟨rfl, rfl, rfl, rfl, rfl, rfl, rfl, rfl, rfl, rfl⟩) ?_
  refine Reg.pur rfl rfl rfl rfl (Pur.bld (cs := [_, _, _, _, _]) pl24 zc24 rfl rfl ⟨rfl, rfl, rfl, rfl, rfl, rfl⟩) ?_
  refine Reg.pur rfl rfl rfl rfl (Pur.bld (cs := [_, _, _, _, _, _, _, _, _]) pl65 zc65 rfl rfl ⟨rfl, rfl, rfl, rfl, rfl, rfl, rfl, rfl, rfl, rfl⟩) ?_
  refine Reg.op rfl rfl rfl rfl (Does.bslA ([Is (vNode 5), Is (vNode 5), Is (fNode 0 1 [0, 0, 0, 0, 2])]) slA53 rfl rfl rfl rfl rfl rfl) ?_
  rintro _ H1_4 ⟨rfl, hp1_4⟩
  have hn1_4 := New.of_eq hp1_4
  have z1_4 := hn1_4.size
  replace hE := hE.ext hn1_4.ext
  have o1_4 := hn1_4.own
  have hSg : SlT H1_4 Is 9 (.slice (some ⟨H.size, 0, none⟩) (maG.enc 0).length 3) (maG.enc 0) := sl_own (L := maG.enc 0) (wide9 hg9) (by decide) o1_4 (by decide)
  have z_hSg := hSg.lt
  refine Reg.pur rfl rfl rfl rfl (Pur.bld (cs := [_]) pl55 zc55 rfl rfl ⟨rfl, rfl⟩) ?_
  refine Reg.op rfl rfl rfl rfl (Does.alloc zc55) ?_
  rintro _ H1_6 ⟨rfl, hn1_6⟩
  have z1_6 := hn1_6.size
  replace hE := hE.ext hn1_6.ext
  replace o1_4 := o1_4.ext hn1_6.ext
  replace hSg := hSg.ext hn1_6.ext
  have o1_6 := hn1_6.own
  refine Reg.op0 rfl rfl rfl (Does.stn ag55 rfl rfl (by first | rfl | exact ones_Is _) (by first | rfl | (simp [*]; done)) o1_6 (by first | decide | (simp; done) | (simp; omega) | omega)) ?_
  rintro _ H1_7 hu1_7
  have z1_7 := hu1_7.size
  replace hE := hE.upw hu1_7 (by omega)
  replace o1_4 := o1_4.upw hu1_7 (by omega)
  replace hSg := hSg.upw hu1_7 (by omega)
  replace o1_6 := hu1_7.own
  first | rw [over (by first | rfl | (simp; done))] at o1_6 | skip
  refine Reg.nil ?_
  refine At.region rfl rfl ?_
  refine Reg.pur rfl rfl rfl rfl (Pur.bld (cs := [_, _, _, _, _]) pl24 zc24 rfl rfl ⟨rfl, rfl, rfl, rfl, rfl, rfl⟩) ?_
  refine Reg.op rfl rfl rfl rfl (Does.alloc zc24) ?_
  rintro _ H2_1 ⟨rfl, hn2_1⟩
  have z2_1 := hn2_1.size
  replace hE := hE.ext hn2_1.ext
  replace o1_4 := o1_4.ext hn2_1.ext
  replace hSg := hSg.ext hn2_1.ext
  replace o1_6 := o1_6.ext hn2_1.ext
  have o2_1 := hn2_1.own
  refine Reg.op0 rfl rfl rfl (Does.stn ag24 rfl rfl (by first | rfl | exact ones_Is _) (by first | rfl | (simp [*]; done)) o2_1 (by first | decide | (simp; done) | (simp; omega) | omega)) ?_
  rintro _ H2_2 hu2_2
  have z2_2 := hu2_2.size
  replace hE := hE.upw hu2_2 (by omega)
  replace o1_4 := o1_4.upw hu2_2 (by omega)
  replace hSg := hSg.upw hu2_2 (by omega)
  replace o1_6 := o1_6.upw hu2_2 (by omega)
  replace o2_1 := hu2_2.own
  first | rw [over (by first | rfl | (simp; done))] at o2_1 | skip
  refine Reg.nil ?_
  refine At.region rfl rfl ?_
  refine Reg.pur rfl rfl rfl rfl (Pur.fld _ fo24_0 rfl) ?_
  refine Reg.pur rfl rfl rfl rfl (Pur.idxP arr22 rfl rfl (by omega) (by omega)) ?_
  refine Reg.op0 rfl rfl rfl (Does.st sc3 rfl rfl rfl o2_1 (by first | decide | (simp; done) | (simp; omega) | omega)) ?_
  rintro _ H3_2 hu3_2
  have z3_2 := hu3_2.size
  replace hE := hE.upw hu3_2 (by omega)
  replace o1_4 := o1_4.upw hu3_2 (by omega)
  replace hSg := hSg.upw hu3_2 (by omega)
  replace o1_6 := o1_6.upw hu3_2 (by omega)
  replace o2_1 := hu3_2.own
  refine Reg.nil ?_
  refine At.region rfl rfl ?_
  refine Reg.pur rfl rfl rfl rfl (Pur.bld (cs := [_, _, _, _, _, _, _, _, _]) pl65 zc65 rfl rfl ⟨rfl, rfl, rfl, rfl, rfl, rfl, rfl, rfl, rfl, rfl⟩) ?_
  refine Reg.pur rfl rfl rfl rfl (Pur.bld (cs := [_, _, _, _, _, _, _, _, _]) pl65 zc65 rfl rfl ⟨rfl, rfl, rfl, rfl, rfl, rfl, rfl, rfl, rfl, rfl⟩) ?_
  refine Reg.lod rfl rfl rfl rfl (Lod.ldn ag24 rfl o2_1.blk rfl rfl) ?_
  refine Reg.pur rfl rfl rfl rfl (Pur.bld (cs := [_, _, _, _, _, _, _, _, _]) pl65 zc65 rfl rfl ⟨rfl, rfl, rfl, rfl, rfl, rfl, rfl, rfl, rfl, rfl⟩) ?_
  refine Reg.op rfl rfl rfl rfl (Does.bslA ([Is (bNode false), Is (bNode false), Is (fNode 0 1 [0, 0, 0, 1, -1])]) slA53 rfl rfl rfl rfl rfl rfl) ?_
  rintro _ H4_4 ⟨rfl, hp4_4⟩
  have hn4_4 := New.of_eq hp4_4
  have z4_4 := hn4_4.size
  replace hE := hE.ext hn4_4.ext
  replace o1_4 := o1_4.ext hn4_4.ext
  replace hSg := hSg.ext hn4_4.ext
  replace o1_6 := o1_6.ext hn4_4.ext
  replace o2_1 := o2_1.ext hn4_4.ext
  have o4_4 := hn4_4.own
  have hSs : SlT H4_4 Is 9 _ (maS.enc 0) := sl_own (L := maS.enc 0) (wide9 hs9) (by decide) o4_4 (by decide)
  have z_hSs := hSs.lt
  refine Reg.pur rfl rfl rfl rfl (Pur.bld (cs := [_]) pl55 zc55 rfl rfl ⟨rfl, rfl⟩) ?_
  refine Reg.op rfl rfl rfl rfl (Does.alloc zc55) ?_
  rintro _ H4_6 ⟨rfl, hn4_6⟩
  have z4_6 := hn4_6.size
  replace hE := hE.ext hn4_6.ext
  replace o1_4 := o1_4.ext hn4_6.ext
  replace hSg := hSg.ext hn4_6.ext
  replace o1_6 := o1_6.ext hn4_6.ext
  replace o2_1 := o2_1.ext hn4_6.ext
  replace o4_4 := o4_4.ext hn4_6.ext
  replace hSs := hSs.ext hn4_6.ext
  have o4_6 := hn4_6.own
  refine Reg.op0 rfl rfl rfl (Does.stn ag55 rfl rfl (by first | rfl | exact ones_Is _) (by first | rfl | (simp [*]; done)) o4_6 (by first | decide | (simp; done) | (simp; omega) | omega)) ?_
  rintro _ H4_7 hu4_7
  have z4_7 := hu4_7.size
  replace hE := hE.upw hu4_7 (by omega)
  replace o1_4 := o1_4.upw hu4_7 (by omega)
  replace hSg := hSg.upw hu4_7 (by omega)
  replace o1_6 := o1_6.upw hu4_7 (by omega)
  replace o2_1 := o2_1.upw hu4_7 (by omega)
  replace o4_4 := o4_4.upw hu4_7 (by omega)
  replace hSs := hSs.upw hu4_7 (by omega)
  replace o4_6 := hu4_7.own
  first | rw [over (by first | rfl | (simp; done))] at o4_6 | skip
  refine Reg.nil ?_
  refine At.region rfl rfl ?_
  refine Reg.lod rfl rfl rfl rfl (Lod.ldn ag55 rfl o1_6.blk (whole rfl) rfl) ?_
  refine Reg.lod rfl rfl rfl rfl (Lod.ldn ag55 rfl o4_6.blk (whole rfl) rfl) ?_
  refine Reg.op rfl rfl rfl rfl (Does.call rfl (instG_ok hg9 hs9 hSg hSs (by decide) (by decide))) ?_
  rintro _ H5_2 ⟨rfl, hE5_2⟩
  have z5_2 := hE5_2.lt
  replace hE := hE.ext hE5_2
  replace o1_4 := o1_4.ext hE5_2
  replace hSg := hSg.ext hE5_2
  replace o1_6 := o1_6.ext hE5_2
  replace o2_1 := o2_1.ext hE5_2
  replace o4_4 := o4_4.ext hE5_2
  replace hSs := hSs.ext hE5_2
  replace o4_6 := o4_6.ext hE5_2
  refine Reg.pur rfl rfl rfl rfl (Pur.mv rfl) ?_
  refine Reg.pur rfl rfl rfl rfl (Pur.ext rfl rfl) ?_
  refine Reg.pur rfl rfl rfl rfl (Pur.ext rfl rfl) ?_
  refine Reg.pur rfl rfl rfl rfl (Pur.asg rfl) ?_
  refine Reg.pur rfl rfl rfl rfl (Pur.asg rfl) ?_
  refine Reg.nil ?_
  refine At.region rfl rfl ?_
  refine Reg.lod rfl rfl rfl rfl (Lod.ldn ag55 rfl o4_6.blk (whole rfl) rfl) ?_
  refine Reg.lod rfl rfl rfl rfl (Lod.ldn ag55 rfl o1_6.blk (whole rfl) rfl) ?_
  refine Reg.op rfl rfl rfl rfl (Does.call rfl (instG_ok hs9 hg9 hSs hSg (by decide) (by decide))) ?_
  rintro _ H6_2 ⟨rfl, hE6_2⟩
  have z6_2 := hE6_2.lt
  replace hE := hE.ext hE6_2
  replace o1_4 := o1_4.ext hE6_2
  replace hSg := hSg.ext hE6_2
  replace o1_6 := o1_6.ext hE6_2
  replace o2_1 := o2_1.ext hE6_2
  replace o4_4 := o4_4.ext hE6_2
  replace hSs := hSs.ext hE6_2
  replace o4_6 := o4_6.ext hE6_2
  refine Reg.pur rfl rfl rfl rfl (Pur.mv rfl) ?_
  refine Reg.pur rfl rfl rfl rfl (Pur.ext rfl rfl) ?_
  refine Reg.pur rfl rfl rfl rfl (Pur.ext rfl rfl) ?_
  refine Reg.pur rfl rfl rfl rfl (Pur.asg rfl) ?_
  refine Reg.pur rfl rfl rfl rfl (Pur.asg rfl) ?_
  refine Reg.nil ?_
  refine At.region rfl rfl ?_
  refine Reg.lod rfl rfl rfl rfl (Lod.ldn ag55 rfl o1_6.blk (whole rfl) rfl) ?_
  refine Reg.lod rfl rfl rfl rfl (Lod.ldn ag55 rfl o4_6.blk (whole rfl) rfl) ?_
  refine Reg.op rfl rfl rfl rfl (Does.call rfl (equal_ok hg9 hs9 (hT.ext hE) hSg hSs (by decide) (by decide))) ?_
  rintro _ H7_2 ⟨rfl, hE7_2⟩
  have z7_2 := hE7_2.lt
  replace hE := hE.ext hE7_2
  replace o1_4 := o1_4.ext hE7_2
  replace hSg := hSg.ext hE7_2
  replace o1_6 := o1_6.ext hE7_2
  replace o2_1 := o2_1.ext hE7_2
  replace o4_4 := o4_4.ext hE7_2
  replace hSs := hSs.ext hE7_2
  replace o4_6 := o4_6.ext hE7_2
  refine Reg.pur rfl rfl rfl rfl (Pur.mv rfl) ?_
  refine Reg.pur rfl rfl rfl rfl (Pur.ext rfl rfl) ?_
  refine Reg.pur rfl rfl rfl rfl (Pur.ext rfl rfl) ?_
  refine Reg.pur rfl rfl rfl rfl (Pur.asg rfl) ?_
  refine Reg.pur rfl rfl rfl rfl (Pur.asg rfl) ?_
  refine Reg.nil ?_
  refine At.region rfl rfl ?_
  refine Reg.lod rfl rfl rfl rfl (Lod.ldn ag55 rfl o1_6.blk (whole rfl) rfl) ?_
  refine Reg.pur rfl rfl rfl rfl (Pur.bld (cs := [_]) pl55 zc55 rfl rfl ⟨rfl, rfl⟩) ?_
  refine Reg.op rfl rfl rfl rfl (Does.call rfl (equal_ok (A2 := none) (c2 := 0) (K := []) hg9 (nine_lit rfl) (hT.ext hE) hSg (sl_nil _) (by decide) (by decide))) ?_
  rintro _ H8_2 ⟨rfl, hE8_2⟩
  have z8_2 := hE8_2.lt
  replace hE := hE.ext hE8_2
  replace o1_4 := o1_4.ext hE8_2
  replace hSg := hSg.ext hE8_2
  replace o1_6 := o1_6.ext hE8_2
  replace o2_1 := o2_1.ext hE8_2
  replace o4_4 := o4_4.ext hE8_2
  replace hSs := hSs.ext hE8_2
  replace o4_6 := o4_6.ext hE8_2
  rw [maI1, maI2, maE1, maE2]
  refine Reg.pur rfl rfl rfl rfl (Pur.mv rfl) ?_
  refine Reg.pur rfl rfl rfl rfl (Pur.ext rfl rfl) ?_
  refine Reg.pur rfl rfl rfl rfl (Pur.ext rfl rfl) ?_
  refine Reg.pur rfl rfl rfl rfl (Pur.asg rfl) ?_
  refine Reg.pur rfl rfl rfl rfl (Pur.asg rfl) ?_
  refine Reg.nil ?_
  refine At.region rfl rfl ?_
  refine Reg.pur rfl rfl rfl rfl (Pur.mv rfl) ?_
  refine Reg.pur rfl rfl rfl rfl (Pur.mv rfl) ?_
  refine Reg.known (b' := true) 52 rfl (by rfl) ?_
  refine Reg.gpur rfl rfl rfl rfl rfl rfl (Pur.mv rfl) ?_
  refine Reg.gop rfl rfl rfl rfl rfl rfl (Does.call rfl (numE_ok _ _)) ?_
  rintro _ H8_2 ⟨rfl, rfl⟩
  refine Reg.gpur rfl rfl rfl rfl rfl rfl (Pur.eql rfl rfl) ?_
  refine Reg.pur rfl rfl rfl rfl (Pur.pickT rfl rfl) ?_
  refine Reg.pur rfl rfl rfl rfl (Pur.mv rfl) ?_
  refine Reg.known (b' := true) 57 rfl (by rfl) ?_
  refine Reg.gpur rfl rfl rfl rfl rfl rfl (Pur.mv rfl) ?_
  refine Reg.gpur rfl rfl rfl rfl rfl rfl (Pur.not rfl) ?_
  refine Reg.pur rfl rfl rfl rfl (Pur.pickT rfl rfl) ?_
  refine Reg.pur rfl rfl rfl rfl (Pur.mv rfl) ?_
  refine Reg.known (b' := true) 61 rfl (by rfl) ?_
  refine Reg.gpur rfl rfl rfl rfl rfl rfl (Pur.mv rfl) ?_
  refine Reg.gop rfl rfl rfl rfl rfl rfl (Does.call rfl (numE_ok _ _)) ?_
  rintro _ H8_2 ⟨rfl, rfl⟩
  refine Reg.gpur rfl rfl rfl rfl rfl rfl (Pur.eql rfl rfl) ?_
  refine Reg.pur rfl rfl rfl rfl (Pur.pickT rfl rfl) ?_
  refine Reg.pur rfl rfl rfl rfl (Pur.mv rfl) ?_
  refine Reg.known (b' := true) 66 rfl (by rfl) ?_
  refine Reg.gpur rfl rfl rfl rfl rfl rfl (Pur.mv rfl) ?_
  refine Reg.gpur rfl rfl rfl rfl rfl rfl (Pur.not rfl) ?_
  refine Reg.pur rfl rfl rfl rfl (Pur.pickT rfl rfl) ?_
  refine Reg.pur rfl rfl rfl rfl (Pur.mv rfl) ?_
  refine Reg.known (b' := true) 70 rfl (by rfl) ?_
  refine Reg.gpur rfl rfl rfl rfl rfl rfl (Pur.mv rfl) ?_
  refine Reg.gop rfl rfl rfl rfl rfl rfl (Does.call rfl (numE_ok _ _)) ?_
  rintro _ H8_2 ⟨rfl, rfl⟩
  refine Reg.gpur rfl rfl rfl rfl rfl rfl (Pur.eql rfl rfl) ?_
  refine Reg.pur rfl rfl rfl rfl (Pur.pickT rfl rfl) ?_
  refine Reg.pur rfl rfl rfl rfl (Pur.mv rfl) ?_
  refine Reg.known (b' := true) 75 rfl (by rfl) ?_
  refine Reg.gpur rfl rfl rfl rfl rfl rfl (Pur.mv rfl) ?_
  refine Reg.gop rfl rfl rfl rfl rfl rfl (Does.call rfl (numE_ok _ _)) ?_
  rintro _ H8_2 ⟨rfl, rfl⟩
  refine Reg.gpur rfl rfl rfl rfl rfl rfl (Pur.eql rfl rfl) ?_
  refine Reg.pur rfl rfl rfl rfl (Pur.pickT rfl rfl) ?_
  refine Reg.pur rfl rfl rfl rfl (Pur.asg rfl) ?_
  refine Reg.nil ?_
  refine At.ret rfl Tryd.func38 rfl ?_
  exact ⟨rfl, hE⟩
end Go.Proofs.YtlfillhffpiffaaDoor

namespace Go.Proofs.YtlfillhffpiffaaDoor
set_option linter.unusedSimpArgs false
set_option linter.unusedVariables false
set_option maxRecDepth 8000
set_option maxHeartbeats 1000000
open Go Go.Fx Go.Proofs
namespace FactsDMaB
theorem ag55 : ag Tryd.prog 55 = some 1 := by kernel_rfl
theorem mixed : Tryd.prog.follows .mixedOrders = true := by kernel_rfl
theorem zc55 : zc Tryd.prog 55 = some [.slice none 0 0] := by kernel_rfl
end FactsDMaB
open FactsDMaB

theorem matches_law {A1 A2 : Option Addr} {c1 c2 : Nat} {L K : List (List Int)} (hL : Nine L) (hK : Nine K) {H : Heap} (hT : Tens H) (hS1 : SlT H Is 9 (.slice A1 L.length c1) L) (hS2 : SlT H Is 9 (.slice A2 K.length c2) K) (hl : L.length * 72 ≤ 140737488351232) (hk : K.length * 72 ≤ 140737488351232) :
    Ret Tryd.prog 9 [Ty A1 L.length c1, Ty A2 K.length c2] H (fun v H' => v = .bool true ∧ Ext H H') := by
  refine Ret.of_at (N := 76) Tryd.call9 Tryd.func9 rfl rfl rfl ?_
  have hE := Ext.refl H
  refine At.region rfl rfl ?_
  refine Reg.op rfl rfl rfl rfl (Does.box rfl rfl) ?_
  rintro _ H0_0 ⟨rfl, hn0_0⟩
  have z0_0 := hn0_0.size
  replace hE := hE.ext hn0_0.ext
  have o0_0 := hn0_0.own
  refine Reg.op rfl rfl rfl rfl (Does.box rfl rfl) ?_
  rintro _ H0_1 ⟨rfl, hn0_1⟩
  have z0_1 := hn0_1.size
  replace hE := hE.ext hn0_1.ext
  replace o0_0 := o0_0.ext hn0_1.ext
  have o0_1 := hn0_1.own
  refine Reg.pur rfl rfl rfl rfl (Pur.asg rfl) ?_
  refine Reg.nil ?_
  refine At.drawJ (σ := Option Addr × Nat × Option Addr × Nat × Nat × Nat) (fun (Ax, cx, Ay, cy, b5, b6) => [(5, ptr b5 0), (6, ptr b6 0), (2, ptr H.size 0), (3, ptr H0_0.size 0)]) (fun (Ax, cx, Ay, cy, b5, b6) H' => SlT H' Is 9 (.slice Ax L.length cx) L ∧ SlT H' Is 9 (.slice Ay K.length cy) K ∧ Own H' b5 [.slice Ax L.length cx] ∧ Own H' b6 [.slice Ay K.length cy] ∧ Own H' H.size [.slice A1 L.length c1] ∧ Own H' H0_0.size [.slice A2 K.length c2] ∧ Ext H H') ((Bks.cons o0_0.blk (Bks.cons o0_1.blk Bks.nil))) [7] mixed rfl rfl ?_ (fun s H_r1 hs => ?_)
  · refine RegD.take (i := 0) rfl rfl rfl rfl (by kernel_rfl) (Bks.cons o0_0.blk (Bks.cons o0_1.blk Bks.nil)) (fun H hS => Lod.ldn ag55 rfl hS.hd (whole rfl) rfl) ?_
    refine RegD.take (i := 2) rfl rfl rfl rfl (by kernel_rfl) (Bks.cons o0_0.blk (Bks.cons o0_1.blk Bks.nil)) (fun H hS => Lod.ldn ag55 rfl hS.tl.hd (whole rfl) rfl) ?_
    refine RegD.fork3 (i := 1) (j := 4) (k := 5) (by kernel_rfl) ?_ ?_ ?_
    · refine RegOp.one (i := 1) rfl rfl rfl rfl (Does.call rfl (copyType_ok hL (hS1.ext hE) hl)) ?_
      rintro _ H1_1 ⟨Ax, cx, rfl, ho1_1, hE1_1⟩
      have z1_1 := hE1_1.lt
      replace hE := hE.ext hE1_1
      replace o0_0 := o0_0.ext hE1_1
      replace o0_1 := o0_1.ext hE1_1
      have z_ho1_1 := ho1_1.lt
      refine ⟨fun _ _ => (Bks.cons o0_0.blk (Bks.cons o0_1.blk Bks.nil)), ?_⟩
      refine RegD.fork3 (i := 3) (j := 4) (k := 5) (by kernel_rfl) ?_ ?_ ?_
      · refine RegOp.one (i := 3) rfl rfl rfl rfl (Does.call rfl (copyType_ok hK (hS2.ext hE) hk)) ?_
        rintro _ H1_3 ⟨Ay, cy, rfl, ho1_3, hE1_3⟩
        have z1_3 := hE1_3.lt
        replace hE := hE.ext hE1_3
        replace o0_0 := o0_0.ext hE1_3
        replace o0_1 := o0_1.ext hE1_3
        replace ho1_1 := ho1_1.ext hE1_3
        have z_ho1_3 := ho1_3.lt
        refine ⟨fun _ _ => (Bks.cons o0_0.blk (Bks.cons o0_1.blk Bks.nil)), ?_⟩
        refine RegD.fork2 (i := 4) (j := 5) (by kernel_rfl) ?_ ?_
        · refine RegOp.one (i := 4) rfl rfl rfl rfl (Does.alloc zc55) ?_
          rintro _ H1_4 ⟨rfl, hn1_4⟩
          have z1_4 := hn1_4.size
          replace hE := hE.ext hn1_4.ext
          replace o0_0 := o0_0.ext hn1_4.ext
          replace o0_1 := o0_1.ext hn1_4.ext
          replace ho1_1 := ho1_1.ext hn1_4.ext
          replace ho1_3 := ho1_3.ext hn1_4.ext
          have hb5 := hn1_4.own
          refine ⟨fun _ _ => (Bks.cons o0_0.blk (Bks.cons o0_1.blk Bks.nil)), ?_⟩
          refine RegD.one (i := 5) (by kernel_rfl) rfl rfl rfl rfl (Does.alloc zc55) ?_
          rintro _ H1_5 ⟨rfl, hn1_5⟩
          have z1_5 := hn1_5.size
          replace hE := hE.ext hn1_5.ext
          replace o0_0 := o0_0.ext hn1_5.ext
          replace o0_1 := o0_1.ext hn1_5.ext
          replace ho1_1 := ho1_1.ext hn1_5.ext
          replace ho1_3 := ho1_3.ext hn1_5.ext
          replace hb5 := hb5.ext hn1_5.ext
          have hb6 := hn1_5.own
          refine ⟨fun _ _ => (Bks.cons o0_0.blk (Bks.cons o0_1.blk Bks.nil)), ?_⟩
          refine RegD.one0 (i := 6) (by kernel_rfl) rfl rfl rfl (Does.stn ag55 rfl rfl (by first | rfl | exact ones_Is _) (by first | rfl | (simp [*]; done)) hb5 (by first | decide | (simp; done) | (simp; omega) | omega)) ?_
          rintro _ H1_6 hu1_6
          have z1_6 := hu1_6.size
          replace hE := hE.upw hu1_6 (by omega)
          replace o0_0 := o0_0.upw hu1_6 (by omega)
          replace o0_1 := o0_1.upw hu1_6 (by omega)
          replace ho1_1 := ho1_1.upw hu1_6 (by omega)
          replace ho1_3 := ho1_3.upw hu1_6 (by omega)
          replace hb6 := hb6.upw hu1_6 (by omega)
          replace hb5 := hu1_6.own
          first | rw [over (by first | rfl | (simp; done))] at hb5 | skip
          refine ⟨fun _ _ => (Bks.cons o0_0.blk (Bks.cons o0_1.blk Bks.nil)), ?_⟩
          refine RegD.one0 (i := 7) (by kernel_rfl) rfl rfl rfl (Does.stn ag55 rfl rfl (by first | rfl | exact ones_Is _) (by first | rfl | (simp [*]; done)) hb6 (by first | decide | (simp; done) | (simp; omega) | omega)) ?_
          rintro _ H1_7 hu1_7
          have z1_7 := hu1_7.size
          replace hE := hE.upw hu1_7 (by omega)
          replace o0_0 := o0_0.upw hu1_7 (by omega)
          replace o0_1 := o0_1.upw hu1_7 (by omega)
          replace ho1_1 := ho1_1.upw hu1_7 (by omega)
          replace ho1_3 := ho1_3.upw hu1_7 (by omega)
          replace hb5 := hb5.upw hu1_7 (by omega)
          replace hb6 := hu1_7.own
          first | rw [over (by first | rfl | (simp; done))] at hb6 | skip
          refine ⟨fun h => (by cases h), ?_⟩
          refine RegD.done (by kernel_rfl) ?_
          exact ⟨(Ax, cx, Ay, cy, _, _), ⟨own_sl (wide9 hL) (by decide) ho1_1, own_sl (wide9 hK) (by decide) ho1_3, hb5, hb6, o0_0, o0_1, hE⟩, ⟨rfl, rfl, rfl, rfl, trivial⟩⟩
        refine RegOp.one (i := 5) rfl rfl rfl rfl (Does.alloc zc55) ?_
        rintro _ H1_5 ⟨rfl, hn1_5⟩
        have z1_5 := hn1_5.size
        replace hE := hE.ext hn1_5.ext
        replace o0_0 := o0_0.ext hn1_5.ext
        replace o0_1 := o0_1.ext hn1_5.ext
        replace ho1_1 := ho1_1.ext hn1_5.ext
        replace ho1_3 := ho1_3.ext hn1_5.ext
        have hb6 := hn1_5.own
        refine ⟨fun _ _ => (Bks.cons o0_0.blk (Bks.cons o0_1.blk Bks.nil)), ?_⟩
        refine RegD.one (i := 4) (by kernel_rfl) rfl rfl rfl rfl (Does.alloc zc55) ?_
        rintro _ H1_4 ⟨rfl, hn1_4⟩
        have z1_4 := hn1_4.size
        replace hE := hE.ext hn1_4.ext
        replace o0_0 := o0_0.ext hn1_4.ext
        replace o0_1 := o0_1.ext hn1_4.ext
        replace ho1_1 := ho1_1.ext hn1_4.ext
        replace ho1_3 := ho1_3.ext hn1_4.ext
        replace hb6 := hb6.ext hn1_4.ext
        have hb5 := hn1_4.own
        refine ⟨fun _ _ => (Bks.cons o0_0.blk (Bks.cons o0_1.blk Bks.nil)), ?_⟩
        refine RegD.one0 (i := 6) (by kernel_rfl) rfl rfl rfl (Does.stn ag55 rfl rfl (by first | rfl | exact ones_Is _) (by first | rfl | (simp [*]; done)) hb5 (by first | decide | (simp; done) | (simp; omega) | omega)) ?_
        rintro _ H1_6 hu1_6
        have z1_6 := hu1_6.size
        replace hE := hE.upw hu1_6 (by omega)
        replace o0_0 := o0_0.upw hu1_6 (by omega)
        replace o0_1 := o0_1.upw hu1_6 (by omega)
        replace ho1_1 := ho1_1.upw hu1_6 (by omega)
        replace ho1_3 := ho1_3.upw hu1_6 (by omega)
        replace hb6 := hb6.upw hu1_6 (by omega)
        replace hb5 := hu1_6.own
        first | rw [over (by first | rfl | (simp; done))] at hb5 | skip
        refine ⟨fun _ _ => (Bks.cons o0_0.blk (Bks.cons o0_1.blk Bks.nil)), ?_⟩
        refine RegD.one0 (i := 7) (by kernel_rfl) rfl rfl rfl (Does.stn ag55 rfl rfl (by first | rfl | exact ones_Is _) (by first | rfl | (simp [*]; done)) hb6 (by first | decide | (simp; done) | (simp; omega) | omega)) ?_
        rintro _ H1_7 hu1_7
        have z1_7 := hu1_7.size
        replace hE := hE.upw hu1_7 (by omega)
        replace o0_0 := o0_0.upw hu1_7 (by omega)
        replace o0_1 := o0_1.upw hu1_7 (by omega)
        replace ho1_1 := ho1_1.upw hu1_7 (by omega)
        replace ho1_3 := ho1_3.upw hu1_7 (by omega)
        replace hb5 := hb5.upw hu1_7 (by omega)
        replace hb6 := hu1_7.own
        first | rw [over (by first | rfl | (simp; done))] at hb6 | skip
        refine ⟨fun h => (by cases h), ?_⟩
        refine RegD.done (by kernel_rfl) ?_
        exact ⟨(Ax, cx, Ay, cy, _, _), ⟨own_sl (wide9 hL) (by decide) ho1_1, own_sl (wide9 hK) (by decide) ho1_3, hb5, hb6, o0_0, o0_1, hE⟩, ⟨rfl, rfl, rfl, rfl, trivial⟩⟩
      · refine RegOp.one (i := 4) rfl rfl rfl rfl (Does.alloc zc55) ?_
        rintro _ H1_4 ⟨rfl, hn1_4⟩
        have z1_4 := hn1_4.size
        replace hE := hE.ext hn1_4.ext
        replace o0_0 := o0_0.ext hn1_4.ext
        replace o0_1 := o0_1.ext hn1_4.ext
        replace ho1_1 := ho1_1.ext hn1_4.ext
        have hb5 := hn1_4.own
        refine ⟨fun _ _ => (Bks.cons o0_0.blk (Bks.cons o0_1.blk Bks.nil)), ?_⟩
        refine RegD.fork2 (i := 3) (j := 5) (by kernel_rfl) ?_ ?_
        · refine RegOp.one (i := 3) rfl rfl rfl rfl (Does.call rfl (copyType_ok hK (hS2.ext hE) hk)) ?_
          rintro _ H1_3 ⟨Ay, cy, rfl, ho1_3, hE1_3⟩
          have z1_3 := hE1_3.lt
          replace hE := hE.ext hE1_3
          replace o0_0 := o0_0.ext hE1_3
          replace o0_1 := o0_1.ext hE1_3
          replace ho1_1 := ho1_1.ext hE1_3
          replace hb5 := hb5.ext hE1_3
          have z_ho1_3 := ho1_3.lt
          refine ⟨fun _ _ => (Bks.cons o0_0.blk (Bks.cons o0_1.blk Bks.nil)), ?_⟩
          refine RegD.one (i := 5) (by kernel_rfl) rfl rfl rfl rfl (Does.alloc zc55) ?_
          rintro _ H1_5 ⟨rfl, hn1_5⟩
          have z1_5 := hn1_5.size
          replace hE := hE.ext hn1_5.ext
          replace o0_0 := o0_0.ext hn1_5.ext
          replace o0_1 := o0_1.ext hn1_5.ext
          replace ho1_1 := ho1_1.ext hn1_5.ext
          replace hb5 := hb5.ext hn1_5.ext
          replace ho1_3 := ho1_3.ext hn1_5.ext
          have hb6 := hn1_5.own
          refine ⟨fun _ _ => (Bks.cons o0_0.blk (Bks.cons o0_1.blk Bks.nil)), ?_⟩
          refine RegD.one0 (i := 6) (by kernel_rfl) rfl rfl rfl (Does.stn ag55 rfl rfl (by first | rfl | exact ones_Is _) (by first | rfl | (simp [*]; done)) hb5 (by first | decide | (simp; done) | (simp; omega) | omega)) ?_
          rintro _ H1_6 hu1_6
          have z1_6 := hu1_6.size
          replace hE := hE.upw hu1_6 (by omega)
          replace o0_0 := o0_0.upw hu1_6 (by omega)
          replace o0_1 := o0_1.upw hu1_6 (by omega)
          replace ho1_1 := ho1_1.upw hu1_6 (by omega)
          replace ho1_3 := ho1_3.upw hu1_6 (by omega)
          replace hb6 := hb6.upw hu1_6 (by omega)
          replace hb5 := hu1_6.own
          first | rw [over (by first | rfl | (simp; done))] at hb5 | skip
          refine ⟨fun _ _ => (Bks.cons o0_0.blk (Bks.cons o0_1.blk Bks.nil)), ?_⟩
          refine RegD.one0 (i := 7) (by kernel_rfl) rfl rfl rfl (Does.stn ag55 rfl rfl (by first | rfl | exact ones_Is _) (by first | rfl | (simp [*]; done)) hb6 (by first | decide | (simp; done) | (simp; omega) | omega)) ?_
          rintro _ H1_7 hu1_7
          have z1_7 := hu1_7.size
          replace hE := hE.upw hu1_7 (by omega)
          replace o0_0 := o0_0.upw hu1_7 (by omega)
          replace o0_1 := o0_1.upw hu1_7 (by omega)
          replace ho1_1 := ho1_1.upw hu1_7 (by omega)
          replace hb5 := hb5.upw hu1_7 (by omega)
          replace ho1_3 := ho1_3.upw hu1_7 (by omega)
          replace hb6 := hu1_7.own
          first | rw [over (by first | rfl | (simp; done))] at hb6 | skip
          refine ⟨fun h => (by cases h), ?_⟩
          refine RegD.done (by kernel_rfl) ?_
          exact ⟨(Ax, cx, Ay, cy, _, _), ⟨own_sl (wide9 hL) (by decide) ho1_1, own_sl (wide9 hK) (by decide) ho1_3, hb5, hb6, o0_0, o0_1, hE⟩, ⟨rfl, rfl, rfl, rfl, trivial⟩⟩
        refine RegOp.one (i := 5) rfl rfl rfl rfl (Does.alloc zc55) ?_
        rintro _ H1_5 ⟨rfl, hn1_5⟩
        have z1_5 := hn1_5.size
        replace hE := hE.ext hn1_5.ext
        replace o0_0 := o0_0.ext hn1_5.ext
        replace o0_1 := o0_1.ext hn1_5.ext
        replace ho1_1 := ho1_1.ext hn1_5.ext
        replace hb5 := hb5.ext hn1_5.ext
        have hb6 := hn1_5.own
        refine ⟨fun _ _ => (Bks.cons o0_0.blk (Bks.cons o0_1.blk Bks.nil)), ?_⟩
        refine RegD.one (i := 3) (by kernel_rfl) rfl rfl rfl rfl (Does.call rfl (copyType_ok hK (hS2.ext hE) hk)) ?_
        rintro _ H1_3 ⟨Ay, cy, rfl, ho1_3, hE1_3⟩
        have z1_3 := hE1_3.lt
        replace hE := hE.ext hE1_3
        replace o0_0 := o0_0.ext hE1_3
        replace o0_1 := o0_1.ext hE1_3
        replace ho1_1 := ho1_1.ext hE1_3
        replace hb5 := hb5.ext hE1_3
        replace hb6 := hb6.ext hE1_3
        have z_ho1_3 := ho1_3.lt
        refine ⟨fun _ _ => (Bks.cons o0_0.blk (Bks.cons o0_1.blk Bks.nil)), ?_⟩
        refine RegD.one0 (i := 6) (by kernel_rfl) rfl rfl rfl (Does.stn ag55 rfl rfl (by first | rfl | exact ones_Is _) (by first | rfl | (simp [*]; done)) hb5 (by first | decide | (simp; done) | (simp; omega) | omega)) ?_
        rintro _ H1_6 hu1_6
        have z1_6 := hu1_6.size
        replace hE := hE.upw hu1_6 (by omega)
        replace o0_0 := o0_0.upw hu1_6 (by omega)
        replace o0_1 := o0_1.upw hu1_6 (by omega)
        replace ho1_1 := ho1_1.upw hu1_6 (by omega)
        replace hb6 := hb6.upw hu1_6 (by omega)
        replace ho1_3 := ho1_3.upw hu1_6 (by omega)
        replace hb5 := hu1_6.own
        first | rw [over (by first | rfl | (simp; done))] at hb5 | skip
        refine ⟨fun _ _ => (Bks.cons o0_0.blk (Bks.cons o0_1.blk Bks.nil)), ?_⟩
        refine RegD.one0 (i := 7) (by kernel_rfl) rfl rfl rfl (Does.stn ag55 rfl rfl (by first | rfl | exact ones_Is _) (by first | rfl | (simp [*]; done)) hb6 (by first | decide | (simp; done) | (simp; omega) | omega)) ?_
        rintro _ H1_7 hu1_7
        have z1_7 := hu1_7.size
        replace hE := hE.upw hu1_7 (by omega)
        replace o0_0 := o0_0.upw hu1_7 (by omega)
        replace o0_1 := o0_1.upw hu1_7 (by omega)
        replace ho1_1 := ho1_1.upw hu1_7 (by omega)
        replace hb5 := hb5.upw hu1_7 (by omega)
        replace ho1_3 := ho1_3.upw hu1_7 (by omega)
        replace hb6 := hu1_7.own
        first | rw [over (by first | rfl | (simp; done))] at hb6 | skip
        refine ⟨fun h => (by cases h), ?_⟩
        refine RegD.done (by kernel_rfl) ?_
        exact ⟨(Ax, cx, Ay, cy, _, _), ⟨own_sl (wide9 hL) (by decide) ho1_1, own_sl (wide9 hK) (by decide) ho1_3, hb5, hb6, o0_0, o0_1, hE⟩, ⟨rfl, rfl, rfl, rfl, trivial⟩⟩
      refine RegOp.one (i := 5) rfl rfl rfl rfl (Does.alloc zc55) ?_
      rintro _ H1_5 ⟨rfl, hn1_5⟩
      have z1_5 := hn1_5.size
      replace hE := hE.ext hn1_5.ext
      replace o0_0 := o0_0.ext hn1_5.ext
      replace o0_1 := o0_1.ext hn1_5.ext
      replace ho1_1 := ho1_1.ext hn1_5.ext
      have hb6 := hn1_5.own
      refine ⟨fun _ _ => (Bks.cons o0_0.blk (Bks.cons o0_1.blk Bks.nil)), ?_⟩
      refine RegD.fork2 (i := 3) (j := 4) (by kernel_rfl) ?_ ?_
      · refine RegOp.one (i := 3) rfl rfl rfl rfl (Does.call rfl (copyType_ok hK (hS2.ext hE) hk)) ?_
        rintro _ H1_3 ⟨Ay, cy, rfl, ho1_3, hE1_3⟩
        have z1_3 := hE1_3.lt
        replace hE := hE.ext hE1_3
        replace o0_0 := o0_0.ext hE1_3
        replace o0_1 := o0_1.ext hE1_3
        replace ho1_1 := ho1_1.ext hE1_3
        replace hb6 := hb6.ext hE1_3
        have z_ho1_3 := ho1_3.lt
        refine ⟨fun _ _ => (Bks.cons o0_0.blk (Bks.cons o0_1.blk Bks.nil)), ?_⟩
        refine RegD.one (i := 4) (by kernel_rfl) rfl rfl rfl rfl (Does.alloc zc55) ?_
        rintro _ H1_4 ⟨rfl, hn1_4⟩
        have z1_4 := hn1_4.size
        replace hE := hE.ext hn1_4.ext
        replace o0_0 := o0_0.ext hn1_4.ext
        replace o0_1 := o0_1.ext hn1_4.ext
        replace ho1_1 := ho1_1.ext hn1_4.ext
        replace hb6 := hb6.ext hn1_4.ext
        replace ho1_3 := ho1_3.ext hn1_4.ext
        have hb5 := hn1_4.own
        refine ⟨fun _ _ => (Bks.cons o0_0.blk (Bks.cons o0_1.blk Bks.nil)), ?_⟩
        refine RegD.one0 (i := 6) (by kernel_rfl) rfl rfl rfl (Does.stn ag55 rfl rfl (by first | rfl | exact ones_Is _) (by first | rfl | (simp [*]; done)) hb5 (by first | decide | (simp; done) | (simp; omega) | omega)) ?_
        rintro _ H1_6 hu1_6
        have z1_6 := hu1_6.size
        replace hE := hE.upw hu1_6 (by omega)
        replace o0_0 := o0_0.upw hu1_6 (by omega)
        replace o0_1 := o0_1.upw hu1_6 (by omega)
        replace ho1_1 := ho1_1.upw hu1_6 (by omega)
        replace hb6 := hb6.upw hu1_6 (by omega)
        replace ho1_3 := ho1_3.upw hu1_6 (by omega)
        replace hb5 := hu1_6.own
        first | rw [over (by first | rfl | (simp; done))] at hb5 | skip
        refine ⟨fun _ _ => (Bks.cons o0_0.blk (Bks.cons o0_1.blk Bks.nil)), ?_⟩
        refine RegD.one0 (i := 7) (by kernel_rfl) rfl rfl rfl (Does.stn ag55 rfl rfl (by first | rfl | exact ones_Is _) (by first | rfl | (simp [*]; done)) hb6 (by first | decide | (simp; done) | (simp; omega) | omega)) ?_
        rintro _ H1_7 hu1_7
        have z1_7 := hu1_7.size
        replace hE := hE.upw hu1_7 (by omega)
        replace o0_0 := o0_0.upw hu1_7 (by omega)
        replace o0_1 := o0_1.upw hu1_7 (by omega)
        replace ho1_1 := ho1_1.upw hu1_7 (by omega)
        replace ho1_3 := ho1_3.upw hu1_7 (by omega)
        replace hb5 := hb5.upw hu1_7 (by omega)
        replace hb6 := hu1_7.own
        first | rw [over (by first | rfl | (simp; done))] at hb6 | skip
        refine ⟨fun h => (by cases h), ?_⟩
        refine RegD.done (by kernel_rfl) ?_
        exact ⟨(Ax, cx, Ay, cy, _, _), ⟨own_sl (wide9 hL) (by decide) ho1_1, own_sl (wide9 hK) (by decide) ho1_3, hb5, hb6, o0_0, o0_1, hE⟩, ⟨rfl, rfl, rfl, rfl, trivial⟩⟩
      refine RegOp.one (i := 4) rfl rfl rfl rfl (Does.alloc zc55) ?_
      rintro _ H1_4 ⟨rfl, hn1_4⟩
      have z1_4 := hn1_4.size
      replace hE := hE.ext hn1_4.ext
      replace o0_0 := o0_0.ext hn1_4.ext
      replace o0_1 := o0_1.ext hn1_4.ext
      replace ho1_1 := ho1_1.ext hn1_4.ext
      replace hb6 := hb6.ext hn1_4.ext
      have hb5 := hn1_4.own
      refine ⟨fun _ _ => (Bks.cons o0_0.blk (Bks.cons o0_1.blk Bks.nil)), ?_⟩
      refine RegD.one (i := 3) (by kernel_rfl) rfl rfl rfl rfl (Does.call rfl (copyType_ok hK (hS2.ext hE) hk)) ?_
      rintro _ H1_3 ⟨Ay, cy, rfl, ho1_3, hE1_3⟩
      have z1_3 := hE1_3.lt
      replace hE := hE.ext hE1_3
      replace o0_0 := o0_0.ext hE1_3
      replace o0_1 := o0_1.ext hE1_3
      replace ho1_1 := ho1_1.ext hE1_3
      replace hb6 := hb6.ext hE1_3
      replace hb5 := hb5.ext hE1_3
      have z_ho1_3 := ho1_3.lt
      refine ⟨fun _ _ => (Bks.cons o0_0.blk (Bks.cons o0_1.blk Bks.nil)), ?_⟩
      refine RegD.one0 (i := 6) (by kernel_rfl) rfl rfl rfl (Does.stn ag55 rfl rfl (by first | rfl | exact ones_Is _) (by first | rfl | (simp [*]; done)) hb5 (by first | decide | (simp; done) | (simp; omega) | omega)) ?_
      rintro _ H1_6 hu1_6
      have z1_6 := hu1_6.size
      replace hE := hE.upw hu1_6 (by omega)
      replace o0_0 := o0_0.upw hu1_6 (by omega)
      replace o0_1 := o0_1.upw hu1_6 (by omega)
      replace ho1_1 := ho1_1.upw hu1_6 (by omega)
      replace hb6 := hb6.upw hu1_6 (by omega)
      replace ho1_3 := ho1_3.upw hu1_6 (by omega)
      replace hb5 := hu1_6.own
      first | rw [over (by first | rfl | (simp; done))] at hb5 | skip
      refine ⟨fun _ _ => (Bks.cons o0_0.blk (Bks.cons o0_1.blk Bks.nil)), ?_⟩
      refine RegD.one0 (i := 7) (by kernel_rfl) rfl rfl rfl (Does.stn ag55 rfl rfl (by first | rfl | exact ones_Is _) (by first | rfl | (simp [*]; done)) hb6 (by first | decide | (simp; done) | (simp; omega) | omega)) ?_
      rintro _ H1_7 hu1_7
      have z1_7 := hu1_7.size
      replace hE := hE.upw hu1_7 (by omega)
      replace o0_0 := o0_0.upw hu1_7 (by omega)
      replace o0_1 := o0_1.upw hu1_7 (by omega)
      replace ho1_1 := ho1_1.upw hu1_7 (by omega)
      replace hb5 := hb5.upw hu1_7 (by omega)
      replace ho1_3 := ho1_3.upw hu1_7 (by omega)
      replace hb6 := hu1_7.own
      first | rw [over (by first | rfl | (simp; done))] at hb6 | skip
      refine ⟨fun h => (by cases h), ?_⟩
      refine RegD.done (by kernel_rfl) ?_
      exact ⟨(Ax, cx, Ay, cy, _, _), ⟨own_sl (wide9 hL) (by decide) ho1_1, own_sl (wide9 hK) (by decide) ho1_3, hb5, hb6, o0_0, o0_1, hE⟩, ⟨rfl, rfl, rfl, rfl, trivial⟩⟩
    · refine RegOp.one (i := 4) rfl rfl rfl rfl (Does.alloc zc55) ?_
      rintro _ H1_4 ⟨rfl, hn1_4⟩
      have z1_4 := hn1_4.size
      replace hE := hE.ext hn1_4.ext
      replace o0_0 := o0_0.ext hn1_4.ext
      replace o0_1 := o0_1.ext hn1_4.ext
      have hb5 := hn1_4.own
      refine ⟨fun _ _ => (Bks.cons o0_0.blk (Bks.cons o0_1.blk Bks.nil)), ?_⟩
      refine RegD.fork2 (i := 1) (j := 5) (by kernel_rfl) ?_ ?_
      · refine RegOp.one (i := 1) rfl rfl rfl rfl (Does.call rfl (copyType_ok hL (hS1.ext hE) hl)) ?_
        rintro _ H1_1 ⟨Ax, cx, rfl, ho1_1, hE1_1⟩
        have z1_1 := hE1_1.lt
        replace hE := hE.ext hE1_1
        replace o0_0 := o0_0.ext hE1_1
        replace o0_1 := o0_1.ext hE1_1
        replace hb5 := hb5.ext hE1_1
        have z_ho1_1 := ho1_1.lt
        refine ⟨fun _ _ => (Bks.cons o0_0.blk (Bks.cons o0_1.blk Bks.nil)), ?_⟩
        refine RegD.fork2 (i := 3) (j := 5) (by kernel_rfl) ?_ ?_
        · refine RegOp.one (i := 3) rfl rfl rfl rfl (Does.call rfl (copyType_ok hK (hS2.ext hE) hk)) ?_
          rintro _ H1_3 ⟨Ay, cy, rfl, ho1_3, hE1_3⟩
          have z1_3 := hE1_3.lt
          replace hE := hE.ext hE1_3
          replace o0_0 := o0_0.ext hE1_3
          replace o0_1 := o0_1.ext hE1_3
          replace hb5 := hb5.ext hE1_3
          replace ho1_1 := ho1_1.ext hE1_3
          have z_ho1_3 := ho1_3.lt
          refine ⟨fun _ _ => (Bks.cons o0_0.blk (Bks.cons o0_1.blk Bks.nil)), ?_⟩
          refine RegD.one (i := 5) (by kernel_rfl) rfl rfl rfl rfl (Does.alloc zc55) ?_
          rintro _ H1_5 ⟨rfl, hn1_5⟩
          have z1_5 := hn1_5.size
          replace hE := hE.ext hn1_5.ext
          replace o0_0 := o0_0.ext hn1_5.ext
          replace o0_1 := o0_1.ext hn1_5.ext
          replace hb5 := hb5.ext hn1_5.ext
          replace ho1_1 := ho1_1.ext hn1_5.ext
          replace ho1_3 := ho1_3.ext hn1_5.ext
          have hb6 := hn1_5.own
          refine ⟨fun _ _ => (Bks.cons o0_0.blk (Bks.cons o0_1.blk Bks.nil)), ?_⟩
          refine RegD.one0 (i := 6) (by kernel_rfl) rfl rfl rfl (Does.stn ag55 rfl rfl (by first | rfl | exact ones_Is _) (by first | rfl | (simp [*]; done)) hb5 (by first | decide | (simp; done) | (simp; omega) | omega)) ?_
          rintro _ H1_6 hu1_6
          have z1_6 := hu1_6.size
          replace hE := hE.upw hu1_6 (by omega)
          replace o0_0 := o0_0.upw hu1_6 (by omega)
          replace o0_1 := o0_1.upw hu1_6 (by omega)
          replace ho1_1 := ho1_1.upw hu1_6 (by omega)
          replace ho1_3 := ho1_3.upw hu1_6 (by omega)
          replace hb6 := hb6.upw hu1_6 (by omega)
          replace hb5 := hu1_6.own
          first | rw [over (by first | rfl | (simp; done))] at hb5 | skip
          refine ⟨fun _ _ => (Bks.cons o0_0.blk (Bks.cons o0_1.blk Bks.nil)), ?_⟩
          refine RegD.one0 (i := 7) (by kernel_rfl) rfl rfl rfl (Does.stn ag55 rfl rfl (by first | rfl | exact ones_Is _) (by first | rfl | (simp [*]; done)) hb6 (by first | decide | (simp; done) | (simp; omega) | omega)) ?_
          rintro _ H1_7 hu1_7
          have z1_7 := hu1_7.size
          replace hE := hE.upw hu1_7 (by omega)
          replace o0_0 := o0_0.upw hu1_7 (by omega)
          replace o0_1 := o0_1.upw hu1_7 (by omega)
          replace hb5 := hb5.upw hu1_7 (by omega)
          replace ho1_1 := ho1_1.upw hu1_7 (by omega)
          replace ho1_3 := ho1_3.upw hu1_7 (by omega)
          replace hb6 := hu1_7.own
          first | rw [over (by first | rfl | (simp; done))] at hb6 | skip
          refine ⟨fun h => (by cases h), ?_⟩
          refine RegD.done (by kernel_rfl) ?_
          exact ⟨(Ax, cx, Ay, cy, _, _), ⟨own_sl (wide9 hL) (by decide) ho1_1, own_sl (wide9 hK) (by decide) ho1_3, hb5, hb6, o0_0, o0_1, hE⟩, ⟨rfl, rfl, rfl, rfl, trivial⟩⟩
        refine RegOp.one (i := 5) rfl rfl rfl rfl (Does.alloc zc55) ?_
        rintro _ H1_5 ⟨rfl, hn1_5⟩
        have z1_5 := hn1_5.size
        replace hE := hE.ext hn1_5.ext
        replace o0_0 := o0_0.ext hn1_5.ext
        replace o0_1 := o0_1.ext hn1_5.ext
        replace hb5 := hb5.ext hn1_5.ext
        replace ho1_1 := ho1_1.ext hn1_5.ext
        have hb6 := hn1_5.own
        refine ⟨fun _ _ => (Bks.cons o0_0.blk (Bks.cons o0_1.blk Bks.nil)), ?_⟩
        refine RegD.one (i := 3) (by kernel_rfl) rfl rfl rfl rfl (Does.call rfl (copyType_ok hK (hS2.ext hE) hk)) ?_
        rintro _ H1_3 ⟨Ay, cy, rfl, ho1_3, hE1_3⟩
        have z1_3 := hE1_3.lt
        replace hE := hE.ext hE1_3
        replace o0_0 := o0_0.ext hE1_3
        replace o0_1 := o0_1.ext hE1_3
        replace hb5 := hb5.ext hE1_3
        replace ho1_1 := ho1_1.ext hE1_3
        replace hb6 := hb6.ext hE1_3
        have z_ho1_3 := ho1_3.lt
        refine ⟨fun _ _ => (Bks.cons o0_0.blk (Bks.cons o0_1.blk Bks.nil)), ?_⟩
        refine RegD.one0 (i := 6) (by kernel_rfl) rfl rfl rfl (Does.stn ag55 rfl rfl (by first | rfl | exact ones_Is _) (by first | rfl | (simp [*]; done)) hb5 (by first | decide | (simp; done) | (simp; omega) | omega)) ?_
        rintro _ H1_6 hu1_6
        have z1_6 := hu1_6.size
        replace hE := hE.upw hu1_6 (by omega)
        replace o0_0 := o0_0.upw hu1_6 (by omega)
        replace o0_1 := o0_1.upw hu1_6 (by omega)
        replace ho1_1 := ho1_1.upw hu1_6 (by omega)
        replace hb6 := hb6.upw hu1_6 (by omega)
        replace ho1_3 := ho1_3.upw hu1_6 (by omega)
        replace hb5 := hu1_6.own
        first | rw [over (by first | rfl | (simp; done))] at hb5 | skip
        refine ⟨fun _ _ => (Bks.cons o0_0.blk (Bks.cons o0_1.blk Bks.nil)), ?_⟩
        refine RegD.one0 (i := 7) (by kernel_rfl) rfl rfl rfl (Does.stn ag55 rfl rfl (by first | rfl | exact ones_Is _) (by first | rfl | (simp [*]; done)) hb6 (by first | decide | (simp; done) | (simp; omega) | omega)) ?_
        rintro _ H1_7 hu1_7
        have z1_7 := hu1_7.size
        replace hE := hE.upw hu1_7 (by omega)
        replace o0_0 := o0_0.upw hu1_7 (by omega)
        replace o0_1 := o0_1.upw hu1_7 (by omega)
        replace hb5 := hb5.upw hu1_7 (by omega)
        replace ho1_1 := ho1_1.upw hu1_7 (by omega)
        replace ho1_3 := ho1_3.upw hu1_7 (by omega)
        replace hb6 := hu1_7.own
        first | rw [over (by first | rfl | (simp; done))] at hb6 | skip
        refine ⟨fun h => (by cases h), ?_⟩
        refine RegD.done (by kernel_rfl) ?_
        exact ⟨(Ax, cx, Ay, cy, _, _), ⟨own_sl (wide9 hL) (by decide) ho1_1, own_sl (wide9 hK) (by decide) ho1_3, hb5, hb6, o0_0, o0_1, hE⟩, ⟨rfl, rfl, rfl, rfl, trivial⟩⟩
      refine RegOp.one (i := 5) rfl rfl rfl rfl (Does.alloc zc55) ?_
      rintro _ H1_5 ⟨rfl, hn1_5⟩
      have z1_5 := hn1_5.size
      replace hE := hE.ext hn1_5.ext
      replace o0_0 := o0_0.ext hn1_5.ext
      replace o0_1 := o0_1.ext hn1_5.ext
      replace hb5 := hb5.ext hn1_5.ext
      have hb6 := hn1_5.own
      refine ⟨fun _ _ => (Bks.cons o0_0.blk (Bks.cons o0_1.blk Bks.nil)), ?_⟩
      refine RegD.one (i := 1) (by kernel_rfl) rfl rfl rfl rfl (Does.call rfl (copyType_ok hL (hS1.ext hE) hl)) ?_
      rintro _ H1_1 ⟨Ax, cx, rfl, ho1_1, hE1_1⟩
      have z1_1 := hE1_1.lt
      replace hE := hE.ext hE1_1
      replace o0_0 := o0_0.ext hE1_1
      replace o0_1 := o0_1.ext hE1_1
      replace hb5 := hb5.ext hE1_1
      replace hb6 := hb6.ext hE1_1
      have z_ho1_1 := ho1_1.lt
      refine ⟨fun _ _ => (Bks.cons o0_0.blk (Bks.cons o0_1.blk Bks.nil)), ?_⟩
      refine RegD.one (i := 3) (by kernel_rfl) rfl rfl rfl rfl (Does.call rfl (copyType_ok hK (hS2.ext hE) hk)) ?_
      rintro _ H1_3 ⟨Ay, cy, rfl, ho1_3, hE1_3⟩
      have z1_3 := hE1_3.lt
      replace hE := hE.ext hE1_3
      replace o0_0 := o0_0.ext hE1_3
      replace o0_1 := o0_1.ext hE1_3
      replace hb5 := hb5.ext hE1_3
      replace hb6 := hb6.ext hE1_3
      replace ho1_1 := ho1_1.ext hE1_3
      have z_ho1_3 := ho1_3.lt
      refine ⟨fun _ _ => (Bks.cons o0_0.blk (Bks.cons o0_1.blk Bks.nil)), ?_⟩
      refine RegD.one0 (i := 6) (by kernel_rfl) rfl rfl rfl (Does.stn ag55 rfl rfl (by first | rfl | exact ones_Is _) (by first | rfl | (simp [*]; done)) hb5 (by first | decide | (simp; done) | (simp; omega) | omega)) ?_
      rintro _ H1_6 hu1_6
      have z1_6 := hu1_6.size
      replace hE := hE.upw hu1_6 (by omega)
      replace o0_0 := o0_0.upw hu1_6 (by omega)
      replace o0_1 := o0_1.upw hu1_6 (by omega)
      replace hb6 := hb6.upw hu1_6 (by omega)
      replace ho1_1 := ho1_1.upw hu1_6 (by omega)
      replace ho1_3 := ho1_3.upw hu1_6 (by omega)
      replace hb5 := hu1_6.own
      first | rw [over (by first | rfl | (simp; done))] at hb5 | skip
      refine ⟨fun _ _ => (Bks.cons o0_0.blk (Bks.cons o0_1.blk Bks.nil)), ?_⟩
      refine RegD.one0 (i := 7) (by kernel_rfl) rfl rfl rfl (Does.stn ag55 rfl rfl (by first | rfl | exact ones_Is _) (by first | rfl | (simp [*]; done)) hb6 (by first | decide | (simp; done) | (simp; omega) | omega)) ?_
      rintro _ H1_7 hu1_7
      have z1_7 := hu1_7.size
      replace hE := hE.upw hu1_7 (by omega)
      replace o0_0 := o0_0.upw hu1_7 (by omega)
      replace o0_1 := o0_1.upw hu1_7 (by omega)
      replace hb5 := hb5.upw hu1_7 (by omega)
      replace ho1_1 := ho1_1.upw hu1_7 (by omega)
      replace ho1_3 := ho1_3.upw hu1_7 (by omega)
      replace hb6 := hu1_7.own
      first | rw [over (by first | rfl | (simp; done))] at hb6 | skip
      refine ⟨fun h => (by cases h), ?_⟩
      refine RegD.done (by kernel_rfl) ?_
      exact ⟨(Ax, cx, Ay, cy, _, _), ⟨own_sl (wide9 hL) (by decide) ho1_1, own_sl (wide9 hK) (by decide) ho1_3, hb5, hb6, o0_0, o0_1, hE⟩, ⟨rfl, rfl, rfl, rfl, trivial⟩⟩
    refine RegOp.one (i := 5) rfl rfl rfl rfl (Does.alloc zc55) ?_
    rintro _ H1_5 ⟨rfl, hn1_5⟩
    have z1_5 := hn1_5.size
    replace hE := hE.ext hn1_5.ext
    replace o0_0 := o0_0.ext hn1_5.ext
    replace o0_1 := o0_1.ext hn1_5.ext
    have hb6 := hn1_5.own
    refine ⟨fun _ _ => (Bks.cons o0_0.blk (Bks.cons o0_1.blk Bks.nil)), ?_⟩
    refine RegD.fork2 (i := 1) (j := 4) (by kernel_rfl) ?_ ?_
    · refine RegOp.one (i := 1) rfl rfl rfl rfl (Does.call rfl (copyType_ok hL (hS1.ext hE) hl)) ?_
      rintro _ H1_1 ⟨Ax, cx, rfl, ho1_1, hE1_1⟩
      have z1_1 := hE1_1.lt
      replace hE := hE.ext hE1_1
      replace o0_0 := o0_0.ext hE1_1
      replace o0_1 := o0_1.ext hE1_1
      replace hb6 := hb6.ext hE1_1
      have z_ho1_1 := ho1_1.lt
      refine ⟨fun _ _ => (Bks.cons o0_0.blk (Bks.cons o0_1.blk Bks.nil)), ?_⟩
      refine RegD.fork2 (i := 3) (j := 4) (by kernel_rfl) ?_ ?_
      · refine RegOp.one (i := 3) rfl rfl rfl rfl (Does.call rfl (copyType_ok hK (hS2.ext hE) hk)) ?_
        rintro _ H1_3 ⟨Ay, cy, rfl, ho1_3, hE1_3⟩
        have z1_3 := hE1_3.lt
        replace hE := hE.ext hE1_3
        replace o0_0 := o0_0.ext hE1_3
        replace o0_1 := o0_1.ext hE1_3
        replace hb6 := hb6.ext hE1_3
        replace ho1_1 := ho1_1.ext hE1_3
        have z_ho1_3 := ho1_3.lt
        refine ⟨fun _ _ => (Bks.cons o0_0.blk (Bks.cons o0_1.blk Bks.nil)), ?_⟩
        refine RegD.one (i := 4) (by kernel_rfl) rfl rfl rfl rfl (Does.alloc zc55) ?_
        rintro _ H1_4 ⟨rfl, hn1_4⟩
        have z1_4 := hn1_4.size
        replace hE := hE.ext hn1_4.ext
        replace o0_0 := o0_0.ext hn1_4.ext
        replace o0_1 := o0_1.ext hn1_4.ext
        replace hb6 := hb6.ext hn1_4.ext
        replace ho1_1 := ho1_1.ext hn1_4.ext
        replace ho1_3 := ho1_3.ext hn1_4.ext
        have hb5 := hn1_4.own
        refine ⟨fun _ _ => (Bks.cons o0_0.blk (Bks.cons o0_1.blk Bks.nil)), ?_⟩
        refine RegD.one0 (i := 6) (by kernel_rfl) rfl rfl rfl (Does.stn ag55 rfl rfl (by first | rfl | exact ones_Is _) (by first | rfl | (simp [*]; done)) hb5 (by first | decide | (simp; done) | (simp; omega) | omega)) ?_
        rintro _ H1_6 hu1_6
        have z1_6 := hu1_6.size
        replace hE := hE.upw hu1_6 (by omega)
        replace o0_0 := o0_0.upw hu1_6 (by omega)
        replace o0_1 := o0_1.upw hu1_6 (by omega)
        replace hb6 := hb6.upw hu1_6 (by omega)
        replace ho1_1 := ho1_1.upw hu1_6 (by omega)
        replace ho1_3 := ho1_3.upw hu1_6 (by omega)
        replace hb5 := hu1_6.own
        first | rw [over (by first | rfl | (simp; done))] at hb5 | skip
        refine ⟨fun _ _ => (Bks.cons o0_0.blk (Bks.cons o0_1.blk Bks.nil)), ?_⟩
        refine RegD.one0 (i := 7) (by kernel_rfl) rfl rfl rfl (Does.stn ag55 rfl rfl (by first | rfl | exact ones_Is _) (by first | rfl | (simp [*]; done)) hb6 (by first | decide | (simp; done) | (simp; omega) | omega)) ?_
        rintro _ H1_7 hu1_7
        have z1_7 := hu1_7.size
        replace hE := hE.upw hu1_7 (by omega)
        replace o0_0 := o0_0.upw hu1_7 (by omega)
        replace o0_1 := o0_1.upw hu1_7 (by omega)
        replace ho1_1 := ho1_1.upw hu1_7 (by omega)
        replace ho1_3 := ho1_3.upw hu1_7 (by omega)
        replace hb5 := hb5.upw hu1_7 (by omega)
        replace hb6 := hu1_7.own
        first | rw [over (by first | rfl | (simp; done))] at hb6 | skip
        refine ⟨fun h => (by cases h), ?_⟩
        refine RegD.done (by kernel_rfl) ?_
        exact ⟨(Ax, cx, Ay, cy, _, _), ⟨own_sl (wide9 hL) (by decide) ho1_1, own_sl (wide9 hK) (by decide) ho1_3, hb5, hb6, o0_0, o0_1, hE⟩, ⟨rfl, rfl, rfl, rfl, trivial⟩⟩
      refine RegOp.one (i := 4) rfl rfl rfl rfl (Does.alloc zc55) ?_
      rintro _ H1_4 ⟨rfl, hn1_4⟩
      have z1_4 := hn1_4.size
      replace hE := hE.ext hn1_4.ext
      replace o0_0 := o0_0.ext hn1_4.ext
      replace o0_1 := o0_1.ext hn1_4.ext
      replace hb6 := hb6.ext hn1_4.ext
      replace ho1_1 := ho1_1.ext hn1_4.ext
      have hb5 := hn1_4.own
      refine ⟨fun _ _ => (Bks.cons o0_0.blk (Bks.cons o0_1.blk Bks.nil)), ?_⟩
      refine RegD.one (i := 3) (by kernel_rfl) rfl rfl rfl rfl (Does.call rfl (copyType_ok hK (hS2.ext hE) hk)) ?_
      rintro _ H1_3 ⟨Ay, cy, rfl, ho1_3, hE1_3⟩
      have z1_3 := hE1_3.lt
      replace hE := hE.ext hE1_3
      replace o0_0 := o0_0.ext hE1_3
      replace o0_1 := o0_1.ext hE1_3
      replace hb6 := hb6.ext hE1_3
      replace ho1_1 := ho1_1.ext hE1_3
      replace hb5 := hb5.ext hE1_3
      have z_ho1_3 := ho1_3.lt
      refine ⟨fun _ _ => (Bks.cons o0_0.blk (Bks.cons o0_1.blk Bks.nil)), ?_⟩
      refine RegD.one0 (i := 6) (by kernel_rfl) rfl rfl rfl (Does.stn ag55 rfl rfl (by first | rfl | exact ones_Is _) (by first | rfl | (simp [*]; done)) hb5 (by first | decide | (simp; done) | (simp; omega) | omega)) ?_
      rintro _ H1_6 hu1_6
      have z1_6 := hu1_6.size
      replace hE := hE.upw hu1_6 (by omega)
      replace o0_0 := o0_0.upw hu1_6 (by omega)
      replace o0_1 := o0_1.upw hu1_6 (by omega)
      replace hb6 := hb6.upw hu1_6 (by omega)
      replace ho1_1 := ho1_1.upw hu1_6 (by omega)
      replace ho1_3 := ho1_3.upw hu1_6 (by omega)
      replace hb5 := hu1_6.own
      first | rw [over (by first | rfl | (simp; done))] at hb5 | skip
      refine ⟨fun _ _ => (Bks.cons o0_0.blk (Bks.cons o0_1.blk Bks.nil)), ?_⟩
      refine RegD.one0 (i := 7) (by kernel_rfl) rfl rfl rfl (Does.stn ag55 rfl rfl (by first | rfl | exact ones_Is _) (by first | rfl | (simp [*]; done)) hb6 (by first | decide | (simp; done) | (simp; omega) | omega)) ?_
      rintro _ H1_7 hu1_7
      have z1_7 := hu1_7.size
      replace hE := hE.upw hu1_7 (by omega)
      replace o0_0 := o0_0.upw hu1_7 (by omega)
      replace o0_1 := o0_1.upw hu1_7 (by omega)
      replace ho1_1 := ho1_1.upw hu1_7 (by omega)
      replace hb5 := hb5.upw hu1_7 (by omega)
      replace ho1_3 := ho1_3.upw hu1_7 (by omega)
      replace hb6 := hu1_7.own
      first | rw [over (by first | rfl | (simp; done))] at hb6 | skip
      refine ⟨fun h => (by cases h), ?_⟩
      refine RegD.done (by kernel_rfl) ?_
      exact ⟨(Ax, cx, Ay, cy, _, _), ⟨own_sl (wide9 hL) (by decide) ho1_1, own_sl (wide9 hK) (by decide) ho1_3, hb5, hb6, o0_0, o0_1, hE⟩, ⟨rfl, rfl, rfl, rfl, trivial⟩⟩
    refine RegOp.one (i := 4) rfl rfl rfl rfl (Does.alloc zc55) ?_
    rintro _ H1_4 ⟨rfl, hn1_4⟩
    have z1_4 := hn1_4.size
    replace hE := hE.ext hn1_4.ext
    replace o0_0 := o0_0.ext hn1_4.ext
    replace o0_1 := o0_1.ext hn1_4.ext
    replace hb6 := hb6.ext hn1_4.ext
    have hb5 := hn1_4.own
    refine ⟨fun _ _ => (Bks.cons o0_0.blk (Bks.cons o0_1.blk Bks.nil)), ?_⟩
    refine RegD.one (i := 1) (by kernel_rfl) rfl rfl rfl rfl (Does.call rfl (copyType_ok hL (hS1.ext hE) hl)) ?_
    rintro _ H1_1 ⟨Ax, cx, rfl, ho1_1, hE1_1⟩
    have z1_1 := hE1_1.lt
    replace hE := hE.ext hE1_1
    replace o0_0 := o0_0.ext hE1_1
    replace o0_1 := o0_1.ext hE1_1
    replace hb6 := hb6.ext hE1_1
    replace hb5 := hb5.ext hE1_1
    have z_ho1_1 := ho1_1.lt
    refine ⟨fun _ _ => (Bks.cons o0_0.blk (Bks.cons o0_1.blk Bks.nil)), ?_⟩
    refine RegD.one (i := 3) (by kernel_rfl) rfl rfl rfl rfl (Does.call rfl (copyType_ok hK (hS2.ext hE) hk)) ?_
    rintro _ H1_3 ⟨Ay, cy, rfl, ho1_3, hE1_3⟩
    have z1_3 := hE1_3.lt
    replace hE := hE.ext hE1_3
    replace o0_0 := o0_0.ext hE1_3
    replace o0_1 := o0_1.ext hE1_3
    replace hb6 := hb6.ext hE1_3
    replace hb5 := hb5.ext hE1_3
    replace ho1_1 := ho1_1.ext hE1_3
    have z_ho1_3 := ho1_3.lt
    refine ⟨fun _ _ => (Bks.cons o0_0.blk (Bks.cons o0_1.blk Bks.nil)), ?_⟩
    refine RegD.one0 (i := 6) (by kernel_rfl) rfl rfl rfl (Does.stn ag55 rfl rfl (by first | rfl | exact ones_Is _) (by first | rfl | (simp [*]; done)) hb5 (by first | decide | (simp; done) | (simp; omega) | omega)) ?_
    rintro _ H1_6 hu1_6
    have z1_6 := hu1_6.size
    replace hE := hE.upw hu1_6 (by omega)
    replace o0_0 := o0_0.upw hu1_6 (by omega)
    replace o0_1 := o0_1.upw hu1_6 (by omega)
    replace hb6 := hb6.upw hu1_6 (by omega)
    replace ho1_1 := ho1_1.upw hu1_6 (by omega)
    replace ho1_3 := ho1_3.upw hu1_6 (by omega)
    replace hb5 := hu1_6.own
    first | rw [over (by first | rfl | (simp; done))] at hb5 | skip
    refine ⟨fun _ _ => (Bks.cons o0_0.blk (Bks.cons o0_1.blk Bks.nil)), ?_⟩
    refine RegD.one0 (i := 7) (by kernel_rfl) rfl rfl rfl (Does.stn ag55 rfl rfl (by first | rfl | exact ones_Is _) (by first | rfl | (simp [*]; done)) hb6 (by first | decide | (simp; done) | (simp; omega) | omega)) ?_
    rintro _ H1_7 hu1_7
    have z1_7 := hu1_7.size
    replace hE := hE.upw hu1_7 (by omega)
    replace o0_0 := o0_0.upw hu1_7 (by omega)
    replace o0_1 := o0_1.upw hu1_7 (by omega)
    replace hb5 := hb5.upw hu1_7 (by omega)
    replace ho1_1 := ho1_1.upw hu1_7 (by omega)
    replace ho1_3 := ho1_3.upw hu1_7 (by omega)
    replace hb6 := hu1_7.own
    first | rw [over (by first | rfl | (simp; done))] at hb6 | skip
    refine ⟨fun h => (by cases h), ?_⟩
    refine RegD.done (by kernel_rfl) ?_
    exact ⟨(Ax, cx, Ay, cy, _, _), ⟨own_sl (wide9 hL) (by decide) ho1_1, own_sl (wide9 hK) (by decide) ho1_3, hb5, hb6, o0_0, o0_1, hE⟩, ⟨rfl, rfl, rfl, rfl, trivial⟩⟩
  clear o0_0 o0_1 hE
  obtain ⟨Ax, cx, Ay, cy, b5, b6⟩ := s
  obtain ⟨hSx, hSy, hb5, hb6, o0_0, o0_1, hE⟩ := hs
  have z_hE := hE.lt
  have z_hSx := hSx.lt
  have z_hSy := hSy.lt
  have z_hb5 := hb5.lt
  have z_hb6 := hb6.lt
  have z_o0_0 := o0_0.lt
  have z_o0_1 := o0_1.lt
  refine At.region rfl rfl ?_
  refine Reg.lod rfl rfl rfl rfl (Lod.ldn ag55 rfl hb5.blk (whole rfl) rfl) ?_
  refine Reg.lod rfl rfl rfl rfl (Lod.ldn ag55 rfl hb6.blk (whole rfl) rfl) ?_
  refine Reg.op rfl rfl rfl rfl (Does.call rfl (instG_ok hL hK hSx hSy (by omega) (by omega))) ?_
  rintro _ H2_2 ⟨rfl, hE2_2⟩
  have z2_2 := hE2_2.lt
  replace hE := hE.ext hE2_2
  replace hSx := hSx.ext hE2_2
  replace hSy := hSy.ext hE2_2
  replace hb5 := hb5.ext hE2_2
  replace hb6 := hb6.ext hE2_2
  replace o0_0 := o0_0.ext hE2_2
  replace o0_1 := o0_1.ext hE2_2
  refine Reg.pur rfl rfl rfl rfl (Pur.mv rfl) ?_
  refine Reg.pur rfl rfl rfl rfl (Pur.ext rfl rfl) ?_
  refine Reg.pur rfl rfl rfl rfl (Pur.ext rfl rfl) ?_
  refine Reg.pur rfl rfl rfl rfl (Pur.asg rfl) ?_
  refine Reg.pur rfl rfl rfl rfl (Pur.asg rfl) ?_
  refine Reg.nil ?_
  refine At.region rfl rfl ?_
  refine Reg.lod rfl rfl rfl rfl (Lod.ldn ag55 rfl o0_0.blk (whole rfl) rfl) ?_
  refine Reg.lod rfl rfl rfl rfl (Lod.ldn ag55 rfl o0_1.blk (whole rfl) rfl) ?_
  refine Reg.op rfl rfl rfl rfl (Does.call rfl (instRG_ok hL hK (hS1.ext hE) (hS2.ext hE) (by omega) (by omega))) ?_
  rintro _ H3_2 ⟨rfl, hE3_2⟩
  have z3_2 := hE3_2.lt
  replace hE := hE.ext hE3_2
  replace hSx := hSx.ext hE3_2
  replace hSy := hSy.ext hE3_2
  replace hb5 := hb5.ext hE3_2
  replace hb6 := hb6.ext hE3_2
  replace o0_0 := o0_0.ext hE3_2
  replace o0_1 := o0_1.ext hE3_2
  refine Reg.pur rfl rfl rfl rfl (Pur.mv rfl) ?_
  refine Reg.pur rfl rfl rfl rfl (Pur.ext rfl rfl) ?_
  refine Reg.pur rfl rfl rfl rfl (Pur.ext rfl rfl) ?_
  refine Reg.pur rfl rfl rfl rfl (Pur.asg rfl) ?_
  refine Reg.pur rfl rfl rfl rfl (Pur.asg rfl) ?_
  refine Reg.nil ?_
  refine At.region rfl rfl ?_
  refine Reg.lod rfl rfl rfl rfl (Lod.ldn ag55 rfl hb5.blk (whole rfl) rfl) ?_
  refine Reg.lod rfl rfl rfl rfl (Lod.ldn ag55 rfl hb6.blk (whole rfl) rfl) ?_
  refine Reg.op rfl rfl rfl rfl (Does.call rfl (equal_ok hL hK (hT.ext hE) hSx hSy (by omega) (by omega))) ?_
  rintro _ H4_2 ⟨rfl, hE4_2⟩
  have z4_2 := hE4_2.lt
  replace hE := hE.ext hE4_2
  replace hSx := hSx.ext hE4_2
  replace hSy := hSy.ext hE4_2
  replace hb5 := hb5.ext hE4_2
  replace hb6 := hb6.ext hE4_2
  replace o0_0 := o0_0.ext hE4_2
  replace o0_1 := o0_1.ext hE4_2
  refine Reg.pur rfl rfl rfl rfl (Pur.mv rfl) ?_
  refine Reg.pur rfl rfl rfl rfl (Pur.ext rfl rfl) ?_
  refine Reg.pur rfl rfl rfl rfl (Pur.ext rfl rfl) ?_
  refine Reg.pur rfl rfl rfl rfl (Pur.asg rfl) ?_
  refine Reg.pur rfl rfl rfl rfl (Pur.asg rfl) ?_
  refine Reg.nil ?_
  refine At.region rfl rfl ?_
  refine Reg.lod rfl rfl rfl rfl (Lod.ldn ag55 rfl o0_0.blk (whole rfl) rfl) ?_
  refine Reg.lod rfl rfl rfl rfl (Lod.ldn ag55 rfl o0_1.blk (whole rfl) rfl) ?_
  refine Reg.op rfl rfl rfl rfl (Does.call rfl (equalR_ok hL hK (hS1.ext hE) (hS2.ext hE) (by omega) (by omega))) ?_
  rintro _ H5_2 ⟨rfl, hE5_2⟩
  have z5_2 := hE5_2.lt
  replace hE := hE.ext hE5_2
  replace hSx := hSx.ext hE5_2
  replace hSy := hSy.ext hE5_2
  replace hb5 := hb5.ext hE5_2
  replace hb6 := hb6.ext hE5_2
  replace o0_0 := o0_0.ext hE5_2
  replace o0_1 := o0_1.ext hE5_2
  refine Reg.pur rfl rfl rfl rfl (Pur.mv rfl) ?_
  refine Reg.pur rfl rfl rfl rfl (Pur.ext rfl rfl) ?_
  refine Reg.pur rfl rfl rfl rfl (Pur.ext rfl rfl) ?_
  refine Reg.pur rfl rfl rfl rfl (Pur.asg rfl) ?_
  refine Reg.pur rfl rfl rfl rfl (Pur.asg rfl) ?_
  refine Reg.nil ?_
  refine At.region rfl rfl ?_
  refine Reg.pur rfl rfl rfl rfl (Pur.mv rfl) ?_
  refine Reg.pur rfl rfl rfl rfl (Pur.mv rfl) ?_
  refine Reg.pur rfl rfl rfl rfl (Pur.eqB Tryd.underlying4 rfl rfl) ?_
  refine Reg.pur rfl rfl rfl rfl (Pur.mv rfl) ?_
  refine Reg.known (b' := true) 46 rfl (by first | rfl | simp) ?_
  refine Reg.gpur rfl rfl rfl rfl rfl rfl (Pur.mv rfl) ?_
  refine Reg.gop rfl rfl rfl rfl rfl rfl (Does.call rfl (numE_ok _ _)) ?_
  rintro _ H5_2 ⟨rfl, rfl⟩
  refine Reg.gpur rfl rfl rfl rfl rfl rfl (Pur.mv rfl) ?_
  refine Reg.gpur rfl rfl rfl rfl rfl rfl (Pur.eql rfl rfl) ?_
  refine Reg.pur rfl rfl rfl rfl (Pur.pickT rfl rfl) ?_
  refine Reg.pur rfl rfl rfl rfl (Pur.mv rfl) ?_
  refine Reg.known (b' := true) 52 rfl (by first | rfl | simp) ?_
  refine Reg.gpur rfl rfl rfl rfl rfl rfl (Pur.mv rfl) ?_
  refine Reg.gpur rfl rfl rfl rfl rfl rfl (Pur.mv rfl) ?_
  refine Reg.gpur rfl rfl rfl rfl rfl rfl (Pur.eqB Tryd.underlying4 rfl rfl) ?_
  refine Reg.pur rfl rfl rfl rfl (Pur.pickT rfl rfl) ?_
  refine Reg.pur rfl rfl rfl rfl (Pur.mv rfl) ?_
  refine Reg.known (b' := true) 57 rfl (by first | rfl | simp) ?_
  refine Reg.gpur rfl rfl rfl rfl rfl rfl (Pur.mv rfl) ?_
  refine Reg.gop rfl rfl rfl rfl rfl rfl (Does.call rfl (numE_ok _ _)) ?_
  rintro _ H5_2 ⟨rfl, rfl⟩
  refine Reg.gpur rfl rfl rfl rfl rfl rfl (Pur.mv rfl) ?_
  refine Reg.gpur rfl rfl rfl rfl rfl rfl (Pur.eql rfl rfl) ?_
  refine Reg.pur rfl rfl rfl rfl (Pur.pickT rfl rfl) ?_
  refine Reg.pur rfl rfl rfl rfl (Pur.mv rfl) ?_
  refine Reg.known (b' := true) 63 rfl (by first | rfl | simp) ?_
  refine Reg.glod rfl rfl rfl rfl rfl rfl (Lod.ldn ag55 rfl hb5.blk (whole rfl) rfl) ?_
  refine Reg.glod rfl rfl rfl rfl rfl rfl (Lod.ldn ag55 rfl o0_0.blk (whole rfl) rfl) ?_
  refine Reg.gop rfl rfl rfl rfl rfl rfl (Does.call rfl (sameType_ok hL hL hSx (hS1.ext hE) (by omega))) ?_
  rintro _ H6_23 ⟨rfl, hE6_23⟩
  have z6_23 := hE6_23.lt
  replace hE := hE.ext hE6_23
  replace hSx := hSx.ext hE6_23
  replace hSy := hSy.ext hE6_23
  replace hb5 := hb5.ext hE6_23
  replace hb6 := hb6.ext hE6_23
  replace o0_0 := o0_0.ext hE6_23
  replace o0_1 := o0_1.ext hE6_23
  refine Reg.pur rfl rfl rfl rfl (Pur.pickT rfl rfl) ?_
  refine Reg.pur rfl rfl rfl rfl (Pur.mv rfl) ?_
  refine Reg.known (b' := true) 68 rfl (by first | rfl | simp) ?_
  refine Reg.glod rfl rfl rfl rfl rfl rfl (Lod.ldn ag55 rfl hb6.blk (whole rfl) rfl) ?_
  refine Reg.glod rfl rfl rfl rfl rfl rfl (Lod.ldn ag55 rfl o0_1.blk (whole rfl) rfl) ?_
  refine Reg.gop rfl rfl rfl rfl rfl rfl (Does.call rfl (sameType_ok hK hK hSy (hS2.ext hE) (by omega))) ?_
  rintro _ H6_28 ⟨rfl, hE6_28⟩
  have z6_28 := hE6_28.lt
  replace hE := hE.ext hE6_28
  replace hSx := hSx.ext hE6_28
  replace hSy := hSy.ext hE6_28
  replace hb5 := hb5.ext hE6_28
  replace hb6 := hb6.ext hE6_28
  replace o0_0 := o0_0.ext hE6_28
  replace o0_1 := o0_1.ext hE6_28
  refine Reg.pur rfl rfl rfl rfl (Pur.pickT rfl rfl) ?_
  refine Reg.pur rfl rfl rfl rfl (Pur.mv rfl) ?_
  refine Reg.known (b' := true) 73 rfl (by first | rfl | simp) ?_
  refine Reg.gop rfl rfl rfl rfl rfl rfl (Does.call rfl (awake11_ok (hT.ext hE))) ?_
  rintro _ H6_31 ⟨rfl, hE6_31⟩
  have z6_31 := hE6_31.lt
  replace hE := hE.ext hE6_31
  replace hSx := hSx.ext hE6_31
  replace hSy := hSy.ext hE6_31
  replace hb5 := hb5.ext hE6_31
  replace hb6 := hb6.ext hE6_31
  replace o0_0 := o0_0.ext hE6_31
  replace o0_1 := o0_1.ext hE6_31
  refine Reg.pur rfl rfl rfl rfl (Pur.pickT rfl rfl) ?_
  refine Reg.pur rfl rfl rfl rfl (Pur.asg rfl) ?_
  refine Reg.nil ?_
  refine At.ret rfl Tryd.func9 rfl ?_
  exact ⟨rfl, hE⟩
end Go.Proofs.YtlfillhffpiffaaDoor

namespace Go.Proofs.YtlfillhffpiffaaDoor
set_option linter.unusedSimpArgs false
set_option linter.unusedVariables false
set_option maxRecDepth 100000
open Go Go.Fx Go.Proofs

theorem own : ownKnob Tryd.prog.godebug = none := by kernel_rfl
theorem laidOut : laidOutB Tryd.prog = true := by kernel_rfl
def litsOf : DataW Unit → Array Value
  | .agg l => (l.map fun | .lit (.int k n) => Value.int k n | _ => undef).toArray
  | _ => #[]
def put (a : Array Value) : Obj → Obj
  | .cells _ t fr => .cells a t fr
  | o => o
noncomputable def laidWorld (os : Os) : World :=
  let w0 := World.holding Tryd.prog os ⟨#[], #[], []⟩
  { w0 with heap := ((w0.heap.modify 0 (put (litsOf Rows.laid_internal_strconv_uint64pow10))).modify 2 (put (litsOf Rows.laid_math_bits_deBruijn32tab))).modify 3 (put (litsOf Rows.laid_math_bits_deBruijn64tab)) }
theorem laid_met (os : Os) (args : Array Value) : laidMet Tryd.prog Rows.rowsRow.laid ((laidWorld os).forCall (fun _ _ => 0) ⟨#[], args, []⟩).memory :=
  laidMet_of_run' 8 (by kernel_rfl) (by kernel_rfl)
theorem tab_eq : (Rows.laid_internal_strconv_uint64pow10 : DataW Unit) = Lib.tabData .u64 Lib.pow10Tab := by kernel_rfl
theorem tens_of {W : World} (h : laidMet Tryd.prog Rows.rowsRow.laid W) : Tens W.heap := by
  obtain ⟨g, t, cs, fuel, p, hg, hty, hvar, hd⟩ := Lib.laidMet.reads h (.tail _ (.tail _ (.head _)))
  obtain rfl := Option.some.inj ((show Tryd.prog.globalNamed _ = some 0 by kernel_rfl).symm.trans hg)
  obtain rfl := Option.some.inj ((show (Tryd.prog.globals[0]?).map (·.type) = some 172 by kernel_rfl).symm.trans hty)
  rw [tab_eq] at hd
  have hcs := Lib.cells_of_tab Tryd.underlying172 Tryd.underlying93 (by kernel_rfl) (by kernel_rfl) hd
  unfold World.var? at hvar
  rw [hg] at hvar
  simp only [Option.bind_some] at hvar
  cases hx : W.heap[0]? with
  | none => rw [hx] at hvar; cases hvar
  | some ob =>
    rw [hx] at hvar
    cases ob with
    | cells c T fr =>
      simp only [Option.some.injEq] at hvar
      subst hvar
      exact ⟨T, fr, by rw [hx, tens, ← hcs]⟩
    | _ => cases hvar
end Go.Proofs.YtlfillhffpiffaaDoor

