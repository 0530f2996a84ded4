/-
  Parts of the proof, 3.
-/
import Derived.Laws.BytesString
import Derived.Shelf.Strings.Builder1
import Derived.Shelf.Strings.Builder2
import Derived.Shelf.Strings.OnBuilder
import Derived.Shelf.Strconv.Itoa0
import Derived.Shelf.Strconv.Itoa1
import Derived.Shelf.LaysM
import Derived.Shelf.Strconv.Itoa2
import Derived.Shelf.Strconv.Itoa3
import Derived.Test.YtlfillhffpiffaaDoorProg
import Derived.Lib.LaidU8
import Derived.Test.YtlfillhffpiffaaDoorRows
import Derived.Test.YtlfillhffpiffaaDoorCards
import Derived.Test.YtlfillhffpiffaaDoorTie
import Derived.ProofKit
import Derived.ChangeSame
import Derived.ChangeVars
import Derived.JoinedOf
import Derived.LaidLaws
import Derived.Handed
import Derived.SevenTiedAt
import Derived.SizedLaws
import Derived.Test.YtlfillhffpiffaaDoorQ2
namespace Go.Proofs.YtlfillhffpiffaaDoor
set_option linter.unusedSimpArgs false
set_option linter.unusedVariables false
set_option maxRecDepth 8000
set_option maxHeartbeats 1000000
open Go Go.Fx Go.Proofs
namespace FactsUniNB
theorem ag65 : ag Tryd.prog 65 = some 9 := by kernel_rfl
theorem eqt65 : eqT Tryd.prog 65 = some [.int .i64, .int .i64, .int .i64, .int .i64, .int .i64, .int .i64, .int .i64, .int .i64, .int .i64] := by kernel_rfl
theorem es53 : esz Tryd.prog 53 = some 9 := by kernel_rfl
theorem fo55_0 : foff Tryd.prog 55 0 = some 0 := by kernel_rfl
theorem isl53 : isSl Tryd.prog 53 = true := by kernel_rfl
theorem mixed : Tryd.prog.follows .mixedOrders = true := by kernel_rfl
theorem sc53 : sc Tryd.prog 53 = true := by kernel_rfl
end FactsUniNB
open FactsUniNB

theorem eqN_ok {A A' : Option Addr} {cap cap' : Nat} {L L' : List (List Int)} (hL : Nine L) (hL' : Nine L') {H : Heap} (hS : SlT H Is 9 (.slice A L.length cap) L) (hS' : SlT H Is 9 (.slice A' L'.length cap') L') (hm : L.length ≤ 9223372036854775807) :
    Ret Tryd.prog 102 [.slice A L.length cap, .slice A' L'.length cap'] H (fun v H' => v = .bool (decide (L = L')) ∧ H' = H) := by
  refine Ret.of_at (N := 26) Tryd.call102 Tryd.func102 rfl rfl rfl ?_
  have hE := Ext.refl H

  refine At.region rfl rfl ?_
  refine Reg.pur rfl rfl rfl rfl (Pur.asg rfl) ?_
  refine Reg.nil ?_
  refine At.region rfl rfl ?_
  refine Reg.pur rfl rfl rfl rfl (Pur.mv rfl) ?_
  refine Reg.pur rfl rfl rfl rfl (Pur.lenS isl53 rfl) ?_
  refine Reg.pur rfl rfl rfl rfl (Pur.mv rfl) ?_
  refine Reg.pur rfl rfl rfl rfl (Pur.lenS isl53 rfl) ?_
  refine Reg.pur rfl rfl rfl rfl (Pur.neq rfl rfl) ?_
  refine Reg.nil ?_
  refine At.cond rfl rfl (fun q10 => ?_) (fun q10 => ?_)
  · first | (simp only [decide_eq_true_eq, decide_eq_false_iff_not, Bool.not_eq_true', Bool.not_eq_false', ne_eq, Decidable.not_not, Bool.not_eq_true, Bool.not_eq_false] at q10) | (dsimp only at q10) | skip
    refine At.region rfl rfl ?_
    refine Reg.pur rfl rfl rfl rfl (Pur.asg rfl) ?_
    refine Reg.nil ?_
    refine At.ret rfl Tryd.func102 rfl ?_
    exact ⟨congrArg Value.bool (decide_eq_false (fun h => by subst h; exact q10 rfl)).symm, rfl⟩
  first | (simp only [decide_eq_true_eq, decide_eq_false_iff_not, Bool.not_eq_true', Bool.not_eq_false', ne_eq, Decidable.not_not, Bool.not_eq_true, Bool.not_eq_false] at q10) | (dsimp only at q10) | skip
  have hll : L.length = L'.length := by omega
  refine At.region rfl rfl ?_
  refine Reg.pur rfl rfl rfl rfl (Pur.mv rfl) ?_
  refine Reg.pur rfl rfl rfl rfl (Pur.lenS isl53 rfl) ?_
  refine Reg.pur rfl rfl rfl rfl (Pur.mv rfl) ?_
  refine Reg.nil ?_
  refine At.loop (σ := Nat) (fun i => [(13, I i), (12, I L.length), (0, .slice A L.length cap), (1, .slice A' L'.length cap')]) (fun i H' => i ≤ L.length ∧ L.take i = L'.take i ∧ H' = H) (fun i => L.length - i) 0 rfl ⟨rfl, rfl, rfl, rfl, trivial⟩ ⟨by omega, rfl, rfl⟩ ?_
  rintro i H ⟨hi, hgo, rfl⟩ ih
  refine At.region rfl rfl ?_
  refine Reg.pur rfl rfl rfl rfl (Pur.lss rfl rfl) ?_
  refine Reg.nil ?_
  refine At.cond rfl rfl (fun q14 => ?_) (fun q14 => ?_)
  · first | (simp only [decide_eq_true_eq, decide_eq_false_iff_not, Bool.not_eq_true', Bool.not_eq_false', ne_eq, Decidable.not_not, Bool.not_eq_true, Bool.not_eq_false] at q14) | (dsimp only at q14) | skip
    refine At.region rfl rfl ?_
    refine Reg.pur rfl rfl rfl rfl (Pur.mv rfl) ?_
    refine Reg.pur rfl rfl rfl rfl (Pur.asg rfl) ?_
    refine Reg.nil ?_
    have hlt : i < L.length := by omega
    have hlt' : i < L'.length := by omega
    obtain ⟨b, o, c, rfl, hB, hd, h9⟩ := sl_at (wide9 hL) hS hlt
    obtain ⟨b', o', c', rfl, hB', hd', h9'⟩ := sl_at (wide9 hL') hS' hlt'
    have hf := fks_ints .i64 L[i]
    have hf' := fks_ints .i64 L'[i]
    rw [hL _ (List.getElem_mem hlt)] at hf
    rw [hL' _ (List.getElem_mem hlt')] at hf'
    have hq := eqs_ints .i64 L[i] L'[i]
    refine At.drawE ((Bks.cons hB.blk (Bks.cons hB'.blk Bks.nil))) [] mixed rfl rfl ?_
    refine RegD.tpur (i := 0) rfl rfl rfl rfl (by kernel_rfl) (Pur.mv rfl) ?_
    refine RegD.tpur (i := 1) rfl rfl rfl rfl (by kernel_rfl) (Pur.mv rfl) ?_
    refine RegD.tpur (i := 2) rfl rfl rfl rfl (by kernel_rfl) (Pur.idx _ es53 rfl rfl (by omega) (by omega)) ?_
    refine RegD.take (i := 3) rfl rfl rfl rfl (by kernel_rfl) (Bks.cons hB.blk (Bks.cons hB'.blk Bks.nil)) (fun H hS => Lod.ldn ag65 rfl hS.hd hd h9) ?_
    refine RegD.tpur (i := 4) rfl rfl rfl rfl (by kernel_rfl) (Pur.mv rfl) ?_
    refine RegD.tpur (i := 5) rfl rfl rfl rfl (by kernel_rfl) (Pur.mv rfl) ?_
    refine RegD.tpur (i := 6) rfl rfl rfl rfl (by kernel_rfl) (Pur.idx _ es53 rfl rfl (by omega) (by omega)) ?_
    refine RegD.take (i := 7) rfl rfl rfl rfl (by kernel_rfl) (Bks.cons hB.blk (Bks.cons hB'.blk Bks.nil)) (fun H hS => Lod.ldn ag65 rfl hS.tl.hd hd' h9') ?_
    refine RegD.tpur (i := 8) rfl rfl rfl rfl (by kernel_rfl) (Pur.neA eqt65 rfl rfl hf hf') ?_
    refine RegD.done (by kernel_rfl) ?_
    refine At.cond rfl rfl (fun q24 => ?_) (fun q24 => ?_)
    · first | (simp only [decide_eq_true_eq, decide_eq_false_iff_not, Bool.not_eq_true', Bool.not_eq_false', ne_eq, Decidable.not_not, Bool.not_eq_true, Bool.not_eq_false] at q24) | (dsimp only at q24) | skip
      refine At.region rfl rfl ?_
      refine Reg.pur rfl rfl rfl rfl (Pur.asg rfl) ?_
      refine Reg.nil ?_
      refine At.ret rfl Tryd.func102 rfl ?_
      refine ⟨congrArg Value.bool (decide_eq_false (fun h => ?_)).symm, rfl⟩
      subst h
      rw [hq] at q24
      simp at q24
    first | (simp only [decide_eq_true_eq, decide_eq_false_iff_not, Bool.not_eq_true', Bool.not_eq_false', ne_eq, Decidable.not_not, Bool.not_eq_true, Bool.not_eq_false] at q24) | (dsimp only at q24) | skip
    refine At.region rfl rfl ?_
    first | refine Reg.pur rfl rfl rfl rfl (Pur.add64 rfl rfl (by omega)) ?_ | refine Reg.pur rfl rfl rfl rfl (Pur.add64 rfl rfl (by assumption)) ?_ | refine Reg.pur rfl rfl rfl rfl (Pur.add rfl rfl) ?_
    refine Reg.pur rfl rfl rfl rfl (Pur.mv rfl) ?_
    refine Reg.nil ?_
    rw [hq] at q24
    have hq1 : L[i] = L'[i] := by simpa using q24
    exact At.meets rfl (ih (i + 1) _ ⟨by omega, by rw [List.take_succ_eq_append_getElem hlt, List.take_succ_eq_append_getElem hlt', hgo, hq1], rfl⟩ (by omega)) ⟨rfl, rfl, rfl, rfl, trivial⟩
  first | (simp only [decide_eq_true_eq, decide_eq_false_iff_not, Bool.not_eq_true', Bool.not_eq_false', ne_eq, Decidable.not_not, Bool.not_eq_true, Bool.not_eq_false] at q14) | (dsimp only at q14) | skip
  refine At.region rfl rfl ?_
  refine Reg.pur rfl rfl rfl rfl (Pur.asg rfl) ?_
  refine Reg.nil ?_
  refine At.ret rfl Tryd.func102 rfl ?_
  rw [List.take_of_length_le (by omega), List.take_of_length_le (by omega)] at hgo
  exact ⟨congrArg Value.bool (decide_eq_true hgo).symm, rfl⟩
theorem same_ok {A A' : Option Addr} {cap cap' yb yo zb zo : Nat} {cy cz : List Value} {L L' : List (List Int)} (hL : Nine L) (hL' : Nine L') (hcy : cy[yo]? = some (.slice A L.length cap)) (hcz : cz[zo]? = some (.slice A' L'.length cap')) {H : Heap} (hY : Blk H yb cy) (hZ : Blk H zb cz)
    (hS : SlT H Is 9 (.slice A L.length cap) L) (hS' : SlT H Is 9 (.slice A' L'.length cap') L') (hm : L.length ≤ 9223372036854775807) :
    Ret Tryd.prog 78 [ptr yb yo, ptr zb zo] H (fun v H' => v = .bool (decide (L = L')) ∧ H' = H) := by
  refine Ret.of_at (N := 14) Tryd.call78 Tryd.func78 rfl rfl rfl ?_
  have hE := Ext.refl H

  refine At.region rfl rfl ?_
  refine Reg.pur rfl rfl rfl rfl (Pur.asg rfl) ?_
  refine Reg.nil ?_
  refine At.drawE ((Bks.cons hY.blk (Bks.cons hZ.blk Bks.nil))) [8] mixed rfl rfl ?_
  refine RegD.tpur (i := 0) rfl rfl rfl rfl (by kernel_rfl) (Pur.mv rfl) ?_
  refine RegD.tpur (i := 1) rfl rfl rfl rfl (by kernel_rfl) (Pur.nilc rfl) ?_
  refine RegD.tpur (i := 2) rfl rfl rfl rfl (by kernel_rfl) (Pur.fld _ fo55_0 rfl) ?_
  refine RegD.take (i := 3) rfl rfl rfl rfl (by kernel_rfl) (Bks.cons hY.blk (Bks.cons hZ.blk Bks.nil)) (fun H hS => Lod.ld sc53 rfl hS.hd hcy) ?_
  refine RegD.tpur (i := 4) rfl rfl rfl rfl (by kernel_rfl) (Pur.mv rfl) ?_
  refine RegD.tpur (i := 5) rfl rfl rfl rfl (by kernel_rfl) (Pur.nilc rfl) ?_
  refine RegD.tpur (i := 6) rfl rfl rfl rfl (by kernel_rfl) (Pur.fld _ fo55_0 rfl) ?_
  refine RegD.take (i := 7) rfl rfl rfl rfl (by kernel_rfl) (Bks.cons hY.blk (Bks.cons hZ.blk Bks.nil)) (fun H hS => Lod.ld sc53 rfl hS.tl.hd hcz) ?_
  refine RegD.one (i := 8) (by kernel_rfl) rfl rfl rfl rfl (Does.call rfl (eqN_ok hL hL' hS hS' hm)) ?_
  rintro _ H ⟨rfl, rfl⟩
  refine ⟨fun h => (by cases h), ?_⟩
  refine RegD.tpur (i := 9) rfl rfl rfl rfl (by kernel_rfl) (Pur.asg rfl) ?_
  refine RegD.done (by kernel_rfl) ?_
  refine At.ret rfl Tryd.func78 rfl ?_
  exact ⟨rfl, rfl⟩
end Go.Proofs.YtlfillhffpiffaaDoor

namespace Go.Proofs.YtlfillhffpiffaaDoor
set_option linter.unusedSimpArgs false
set_option linter.unusedVariables false
set_option maxRecDepth 8000
set_option maxHeartbeats 1000000
open Go Go.Fx Go.Proofs
namespace FactsUniNC
theorem ag22 : ag Tryd.prog 22 = some 4 := by kernel_rfl
theorem ag24 : ag Tryd.prog 24 = some 5 := by kernel_rfl
theorem arr1_22 : arr1 Tryd.prog 22 = some 4 := by kernel_rfl
theorem arr22 : arr Tryd.prog 22 = some (4, 1) := by kernel_rfl
theorem eqt24 : eqT Tryd.prog 24 = some [.int .i64, .int .i64, .int .i64, .int .i64, .int .i64] := by kernel_rfl
theorem fo100_1 : foff Tryd.prog 100 1 = some 1 := by kernel_rfl
theorem fo24_0 : foff Tryd.prog 24 0 = some 0 := by kernel_rfl
theorem fo24_1 : foff Tryd.prog 24 1 = some 4 := by kernel_rfl
theorem mixed : Tryd.prog.follows .mixedOrders = true := by kernel_rfl
theorem pl24 : places Tryd.prog 24 = some [(0, 4), (4, 1)] := by kernel_rfl
theorem sc3 : sc Tryd.prog 3 = true := by kernel_rfl
theorem sc98 : sc Tryd.prog 98 = true := by kernel_rfl
theorem zc24 : zc Tryd.prog 24 = some [.int .i64 0, .int .i64 0, .int .i64 0, .int .i64 0, .int .i64 0] := by kernel_rfl
end FactsUniNC
open FactsUniNC

theorem zv_row : zv Tryd.prog 24 = some (.agg (Is [0, 0, 0, 0, 0]).toArray) := by kernel_rfl
def rst (g s : List Int) (k : Nat) : List Int := dfS g s k ++ [s.getD 4 0]
theorem rst_len (g s : List Int) (k : Nat) : (rst g s k).length = 5 := rfl
theorem rst_all (g s : List Int) : rst g s 4 = dfR g s := rfl
theorem rst_set (g s : List Int) {k : Nat} (h : k < 4) : (rst g s k).set k (s.getD k 0 - g.getD k 0) = rst g s (k + 1) := by
  unfold rst
  rw [List.set_append_left _ _ (by rw [dfS_len]; exact h), dfS_set g s h]
theorem rst_at (g s : List Int) {k : Nat} (h : k < 4) : (rst g s (k + 1)).getD k 0 = s.getD k 0 - g.getD k 0 := by
  have h1 := dfS_at g s h
  unfold rst
  rw [List.getD_eq_getElem?_getD, List.getElem?_append_left (by rw [dfS_len]; exact h), ← List.getD_eq_getElem?_getD, h1]
theorem neg_of {g s : List Int} {i : Nat} (hi : i < 4) (h : s.getD i 0 - g.getD i 0 < 0) : posR (dfR g s) = false := by
  unfold posR dfR
  rw [decide_eq_false_iff_not]
  simp only [List.getD_cons_zero, List.getD_cons_succ]
  match i, hi with
  | 0, _ => omega
  | 1, _ => omega
  | 2, _ => omega
  | 3, _ => omega
theorem df_none {g s : List Int} (hg5 : g.length = 5) (hs5 : s.length = 5) (h4 : g.getD 4 0 = -1) : dfR g s = [0, 0, 0, 0, -1] ↔ g = s := by
  obtain ⟨a, b, c, d, e, rfl⟩ := row_five hg5
  obtain ⟨a', b', c', d', e', rfl⟩ := row_five hs5
  have h4' : e = -1 := h4
  subst h4'
  simp only [dfR, List.getD_cons_zero, List.getD_cons_succ, List.cons.injEq, and_true]
  omega
def RwM (f : Int → Option Value) (M : List Bt) : Prop := (∀ v, f v = (findR M v).map (fun d => Value.agg (Is d).toArray)) ∧ ∀ v d, findR M v = some d → d.length = 5
theorem rw_upd {f : Int → Option Value} {M M' : List Bt} {g s : List Int} (h : RwM f M) (hp : ¬ posR (dfR g s) = false) (ht : ¬ g.getD 4 0 < 0) (e : instR M g s = some M') :
    RwM (fun j => if j = g.getD 4 0 then some (.agg (Is (rst g s 4)).toArray) else f j) M' := by
  unfold instR at e
  rw [if_neg hp, if_neg ht] at e
  cases hf : findR M (g.getD 4 0) with
  | none =>
    rw [hf] at e
    cases e
    have key : ∀ v, findR (M ++ [.r (g.getD 4 0) (dfR g s)]) v = if v = g.getD 4 0 then some (dfR g s) else findR M v := by
      intro v
      rw [findR_app]
      by_cases hv : v = g.getD 4 0
      · rw [if_pos hv, hv, hf]
        simp [findR]
      · rw [if_neg hv]
        cases findR M v with
        | some u => rfl
        | none => simp only [findR]; rw [if_neg (fun e => hv e.symm)]
    refine ⟨fun v => ?_, fun v d hd => ?_⟩
    · rw [key v, rst_all]
      show (if v = g.getD 4 0 then _ else _) = _
      by_cases hv : v = g.getD 4 0
      · rw [if_pos hv, if_pos hv]; rfl
      · rw [if_neg hv, if_neg hv]; exact h.1 v
    · rw [key v] at hd
      split at hd
      · cases hd; rfl
      · exact h.2 v d hd
  | some d =>
    rw [hf] at e
    dsimp only at e
    split at e
    · rename_i hd
      cases e
      refine ⟨fun v => ?_, h.2⟩
      show (if v = g.getD 4 0 then _ else _) = _
      by_cases hv : v = g.getD 4 0
      · rw [if_pos hv, hv, hf, rst_all, hd]; rfl
      · rw [if_neg hv]; exact h.1 v
    · cases e
theorem mrowG_ok {H : Heap} {mb b1 b2 gb go sb so : Nat} {cg cs : List Value} {f1 f2 : Int → Option Value} {M : List Bt} {g s : List Int} (hg5 : g.length = 5) (hg : rowM g = true) (hs5 : s.length = 5) (hs : rowM s = true)
    (om : Own H mb [.map (some b1), .map (some b2)]) (hM1 : Mp H b1 f1) (hM2 : Mp H b2 f2) (h12 : b1 ≠ b2) (hR : RwM f2 M) (hG : Blk H gb cg) (hcg : (cg.drop go).take 5 = Is g) (hZ : Blk H sb cs) (hcs : (cs.drop so).take 5 = Is s) :
    Ret Tryd.prog 80 [ptr mb 0, ptr gb go, ptr sb so] H (fun v H' => v = .bool (instR M g s).isSome ∧ ∃ f2', (∀ M', instR M g s = some M' → RwM f2' M') ∧ Mp H' b1 f1 ∧ Mp H' b2 f2' ∧ Chg b1 b2 H H') := by
  have zG := hG.lt
  have zZ := hZ.lt
  have zM := om.lt
  have z1 := hM1.lt
  have z2 := hM2.lt
  have n1 := hM1.ne hG
  have n2 := hM2.ne hG
  have n3 := hM1.ne hZ
  have n4 := hM2.ne hZ
  have n5 := hM1.ne om.blk
  have n6 := hM2.ne om.blk
  have hC : Chg b1 b2 H H := Chg.refl
  have ag := fun i (hi : i < 4) => rowM_all hg hi hg5
  have aS' := fun i (hi : i < 4) => rowM_all hs hi hs5
  have at4 := rowM_t hg
  have hgt : ∀ {j : Nat}, j < 5 → cg[go + j]? = some (I (g.getD j 0)) := fun hj => at_tk hcg hj (at_Is (by omega))
  have hst : ∀ {j : Nat}, j < 5 → cs[so + j]? = some (I (s.getD j 0)) := fun hj => at_tk hcs hj (at_Is (by omega))
  refine Ret.of_at (N := 78) Tryd.call80 Tryd.func80 rfl rfl rfl ?_
  have hE := Ext.refl H
  have z_hC := hC.lt
  have z_om := om.lt
  have z_hM1 := hM1.lt
  have z_hM2 := hM2.lt
  have z_hG := hG.lt
  have z_hZ := hZ.lt
  refine At.region rfl rfl ?_
  refine Reg.pur rfl rfl rfl rfl (Pur.asg rfl) ?_
  refine Reg.nil ?_
  refine At.region rfl rfl ?_
  refine Reg.pur rfl rfl rfl rfl (Pur.mv rfl) ?_
  refine Reg.pur rfl rfl rfl rfl (Pur.nilc rfl) ?_
  refine Reg.pur rfl rfl rfl rfl (Pur.fld _ fo24_1 rfl) ?_
  refine Reg.lod rfl rfl rfl rfl (Lod.ld sc3 rfl hZ (hst (j := 4) (by omega))) ?_
  refine Reg.pur rfl rfl rfl rfl (Pur.bld (cs := [_, _, _, _, _]) pl24 zc24 rfl rfl ⟨rfl, rfl, rfl, rfl, rfl, rfl⟩) ?_
  refine Reg.op rfl rfl rfl rfl (Does.alloc zc24) ?_
  rintro _ H1_5 ⟨rfl, hn1_5⟩
  have z1_5 := hn1_5.size
  replace hC := hC.ext hn1_5.ext
  replace om := om.ext hn1_5.ext
  replace hM1 := hM1.ext hn1_5.ext
  replace hM2 := hM2.ext hn1_5.ext
  replace hG := hG.ext hn1_5.ext
  replace hZ := hZ.ext hn1_5.ext
  have o1_5 := hn1_5.own
  refine Reg.op0 rfl rfl rfl (Does.stn ag24 rfl rfl (by first | rfl | exact ones_Is _) (by first | rfl | (simp [*]; done)) o1_5 (by first | decide | (simp; done) | (simp; omega) | omega)) ?_
  rintro _ H1_6 hu1_6
  have z1_6 := hu1_6.size
  replace hC := hC.upw hu1_6 (by omega)
  replace om := om.upw hu1_6 (by omega)
  replace hM1 := hM1.upw hu1_6 (by omega)
  replace hM2 := hM2.upw hu1_6 (by omega)
  replace hG := hG.upw hu1_6 (by omega)
  replace hZ := hZ.upw hu1_6 (by omega)
  replace o1_5 := hu1_6.own
  first | rw [over (by first | rfl | (simp; done))] at o1_5 | skip
  refine Reg.nil ?_

  have od : Own H1_6 H.size (Is (rst g s 0)) := o1_5
  have z_od := od.lt
  refine At.region rfl rfl ?_
  refine Reg.pur rfl rfl rfl rfl (Pur.mv rfl) ?_
  refine Reg.pur rfl rfl rfl rfl (Pur.nilc rfl) ?_
  refine Reg.pur rfl rfl rfl rfl (Pur.fld _ fo24_0 rfl) ?_
  refine Reg.lod rfl rfl rfl rfl (Lod.ldn ag22 rfl hG (show _ = Is (g.take 4) by rw [Nat.add_zero]; have h9 := congrArg (List.take 4) hcg; rw [List.take_take] at h9; rw [show min 4 5 = 4 from rfl] at h9; rw [h9]; simp [Is, List.map_take]) (by simp [Is]; omega)) ?_
  refine Reg.pur rfl rfl rfl rfl (Pur.mv rfl) ?_
  refine Reg.nil ?_
  have h4 : (g.take 4).length = 4 := by simp; omega
  refine At.loop (σ := Nat) (fun i => [(21, I i), (20, .agg (Is (g.take 4)).toArray), (7, ptr H.size 0), (0, ptr mb 0), (1, ptr gb go), (2, ptr sb so)]) (fun i H' => i ≤ 4 ∧ Chg b1 b2 H H' ∧ Own H' mb [.map (some b1), .map (some b2)] ∧ Mp H' b1 f1 ∧ Mp H' b2 f2 ∧ Blk H' gb cg ∧ Blk H' sb cs ∧ Own H' H.size (Is (rst g s i)) ∧ posTo g s i = true) (fun i => 4 - i) 0 rfl ⟨rfl, rfl, rfl, rfl, rfl, rfl, trivial⟩ ⟨by omega, hC, om, hM1, hM2, hG, hZ, od, rfl⟩ ?_
  clear hC om hM1 hM2 hG hZ od
  rintro i H2 ⟨hi, hC, om, hM1, hM2, hG, hZ, od, hpo⟩ ih
  have z_hC := hC.lt
  have z_om := om.lt
  have z_hM1 := hM1.lt
  have z_hM2 := hM2.lt
  have z_hG := hG.lt
  have z_hZ := hZ.lt
  have z_od := od.lt
  refine At.region rfl rfl ?_
  refine Reg.pur rfl rfl rfl rfl (Pur.lss rfl rfl) ?_
  refine Reg.nil ?_
  refine At.cond rfl rfl (fun q22 => ?_) (fun q22 => ?_)
  · first | (simp only [decide_eq_true_eq, decide_eq_false_iff_not, Bool.not_eq_true', Bool.not_eq_false', ne_eq, Decidable.not_not, Bool.not_eq_true, Bool.not_eq_false] at q22) | (dsimp only at q22) | skip
    have hlt : i < (g.take 4).length := by omega
    have hat := take4_at hg5 (i := i) (by omega)
    have hai : (Is (g.take 4))[(i : Int).toNat]? = some (I (g.getD i 0)) := by
      have : (Is (g.take 4))[i]? = some (I (g.take 4)[i]) := by simp only [Is, List.getElem?_map, List.getElem?_eq_getElem hlt, Option.map_some]
      rw [hat] at this
      exact this
    have hi4 : i < 4 := by omega
    have hg1 := ag i hi4
    have hs1 := aS' i hi4
    refine At.region rfl rfl ?_
    refine Reg.pur rfl rfl rfl rfl (Pur.mv rfl) ?_
    refine Reg.pur rfl rfl rfl rfl (Pur.ixA arr1_22 rfl rfl (by omega) (by omega) hai) ?_
    refine Reg.pur rfl rfl rfl rfl (Pur.asg rfl) ?_
    refine Reg.pur rfl rfl rfl rfl (Pur.asg rfl) ?_
    refine Reg.nil ?_
    refine At.region rfl rfl ?_
    refine Reg.pur rfl rfl rfl rfl (Pur.mv rfl) ?_
    refine Reg.pur rfl rfl rfl rfl (Pur.mv rfl) ?_
    refine Reg.pur rfl rfl rfl rfl (Pur.mv rfl) ?_
    refine Reg.pur rfl rfl rfl rfl (Pur.nilc rfl) ?_
    refine Reg.pur rfl rfl rfl rfl (Pur.fld _ fo24_0 rfl) ?_
    refine Reg.pur rfl rfl rfl rfl (Pur.idxP arr22 rfl rfl (by omega) (by omega)) ?_
    refine Reg.lod rfl rfl rfl rfl (Lod.ld sc3 rfl hZ (show _ = some (I (s.getD i 0)) by rw [show so + 0 + (i : Int).toNat * 1 = so + i by omega]; exact hst (by omega))) ?_
    refine Reg.pur rfl rfl rfl rfl (Pur.mv rfl) ?_
    first | refine Reg.pur rfl rfl rfl rfl (Pur.sub64 rfl rfl (by omega)) ?_ | refine Reg.pur rfl rfl rfl rfl (Pur.sub64 rfl rfl (by assumption)) ?_ | refine Reg.pur rfl rfl rfl rfl (Pur.sub rfl rfl) ?_
    refine Reg.pur rfl rfl rfl rfl (Pur.fld _ fo24_0 rfl) ?_
    refine Reg.pur rfl rfl rfl rfl (Pur.idxP arr22 rfl rfl (by omega) (by omega)) ?_
    refine Reg.op0 rfl rfl rfl (Does.st sc3 rfl rfl rfl od (by simp [rst_len]; omega)) ?_
    rintro _ H5_11 hu5_11
    have z5_11 := hu5_11.size
    replace hC := hC.upw hu5_11 (by omega)
    replace om := om.upw hu5_11 (by omega)
    replace hM1 := hM1.upw hu5_11 (by omega)
    replace hM2 := hM2.upw hu5_11 (by omega)
    replace hG := hG.upw hu5_11 (by omega)
    replace hZ := hZ.upw hu5_11 (by omega)
    replace od := hu5_11.own
    replace od := od.of (c' := Is (rst g s (i + 1))) (by rw [← rst_set g s hi4, show 0 + 0 + (i : Int).toNat * 1 = i by omega]; simp [Is, List.map_set])
    refine Reg.nil ?_
    refine At.region rfl rfl ?_
    refine Reg.pur rfl rfl rfl rfl (Pur.mv rfl) ?_
    refine Reg.pur rfl rfl rfl rfl (Pur.fld _ fo24_0 rfl) ?_
    refine Reg.pur rfl rfl rfl rfl (Pur.idxP arr22 rfl rfl (by omega) (by omega)) ?_
    refine Reg.lod rfl rfl rfl rfl (Lod.ld sc3 rfl od.blk (show _ = some (I ((rst g s (i + 1)).getD i 0)) by rw [show 0 + 0 + (i : Int).toNat * 1 = i by omega]; exact at_Is (by rw [rst_len]; omega))) ?_
    refine Reg.pur rfl rfl rfl rfl (Pur.lss rfl rfl) ?_
    refine Reg.nil ?_
    refine At.cond rfl rfl (fun q40 => ?_) (fun q40 => ?_)
    · first | (simp only [decide_eq_true_eq, decide_eq_false_iff_not, Bool.not_eq_true', Bool.not_eq_false', ne_eq, Decidable.not_not, Bool.not_eq_true, Bool.not_eq_false] at q40) | (dsimp only at q40) | skip
      refine At.region rfl rfl ?_
      refine Reg.pur rfl rfl rfl rfl (Pur.asg rfl) ?_
      refine Reg.nil ?_
      refine At.ret rfl Tryd.func80 rfl ?_
      have hne : instR M g s = none := by unfold instR; rw [if_pos (neg_of hi4 (by rw [rst_at g s hi4] at q40; exact q40))]
      exact ⟨by rw [hne]; rfl, f2, (fun M' h => by rw [hne] at h; cases h), hM1, hM2, hC⟩
    first | (simp only [decide_eq_true_eq, decide_eq_false_iff_not, Bool.not_eq_true', Bool.not_eq_false', ne_eq, Decidable.not_not, Bool.not_eq_true, Bool.not_eq_false] at q40) | (dsimp only at q40) | skip
    refine At.region rfl rfl ?_
    first | refine Reg.pur rfl rfl rfl rfl (Pur.add64 rfl rfl (by omega)) ?_ | refine Reg.pur rfl rfl rfl rfl (Pur.add64 rfl rfl (by assumption)) ?_ | refine Reg.pur rfl rfl rfl rfl (Pur.add rfl rfl) ?_
    refine Reg.pur rfl rfl rfl rfl (Pur.mv rfl) ?_
    refine Reg.nil ?_
    have hps := posTo_succ g s i
    rw [rst_at g s hi4] at q40
    exact At.meets rfl (ih (i + 1) _ ⟨by omega, hC, om, hM1, hM2, hG, hZ, od, by rw [hps, hpo, decide_eq_true (by omega)]; rfl⟩ (by omega)) ⟨rfl, rfl, rfl, rfl, rfl, rfl, trivial⟩
  first | (simp only [decide_eq_true_eq, decide_eq_false_iff_not, Bool.not_eq_true', Bool.not_eq_false', ne_eq, Decidable.not_not, Bool.not_eq_true, Bool.not_eq_false] at q22) | (dsimp only at q22) | skip
  obtain rfl : i = 4 := by omega
  rw [posTo_all] at hpo
  have hpn : ¬ posR (dfR g s) = false := by rw [hpo]; decide
  clear ih
  refine At.region rfl rfl ?_
  refine Reg.pur rfl rfl rfl rfl (Pur.mv rfl) ?_
  refine Reg.pur rfl rfl rfl rfl (Pur.nilc rfl) ?_
  refine Reg.pur rfl rfl rfl rfl (Pur.fld _ fo24_1 rfl) ?_
  refine Reg.lod rfl rfl rfl rfl (Lod.ld sc3 rfl hG (hgt (j := 4) (by omega))) ?_
  refine Reg.pur rfl rfl rfl rfl (Pur.eql rfl rfl) ?_
  refine Reg.nil ?_
  refine At.cond rfl rfl (fun q46 => ?_) (fun q46 => ?_)
  · first | (simp only [decide_eq_true_eq, decide_eq_false_iff_not, Bool.not_eq_true', Bool.not_eq_false', ne_eq, Decidable.not_not, Bool.not_eq_true, Bool.not_eq_false] at q46) | (dsimp only at q46) | skip
    have hfr := fks_ints .i64 (rst g s 4)
    have hfn := fks_ints .i64 [0, 0, 0, 0, -1]
    have hei := eqs_ints .i64 (rst g s 4) [0, 0, 0, 0, -1]
    refine At.region rfl rfl ?_
    refine Reg.lod rfl rfl rfl rfl (Lod.ldn ag24 rfl od.blk (whole rfl) rfl) ?_
    refine Reg.pur rfl rfl rfl rfl (Pur.bld (cs := [_, _, _, _, _]) pl24 zc24 rfl rfl ⟨rfl, rfl, rfl, rfl, rfl, rfl⟩) ?_
    refine Reg.pur rfl rfl rfl rfl (Pur.eqA eqt24 rfl rfl hfr hfn) ?_
    refine Reg.pur rfl rfl rfl rfl (Pur.asg rfl) ?_
    refine Reg.nil ?_
    refine At.ret rfl Tryd.func80 rfl ?_
    have hio : instR M g s = if g = s then some M else none := by unfold instR; rw [if_neg hpn, if_pos (by omega)]
    have hdn := df_none hg5 hs5 q46
    refine ⟨?_, f2, fun M' hM' => ?_, hM1, hM2, hC⟩
    · refine (congrArg Value.bool hei).trans ?_
      rw [hio, rst_all]
      by_cases h : g = s
      · rw [if_pos h, decide_eq_true (hdn.2 h)]; rfl
      · rw [if_neg h, decide_eq_false (fun e => h (hdn.1 e))]; rfl
    · rw [hio] at hM'; split at hM' <;> cases hM'; exact hR
  first | (simp only [decide_eq_true_eq, decide_eq_false_iff_not, Bool.not_eq_true', Bool.not_eq_false', ne_eq, Decidable.not_not, Bool.not_eq_true, Bool.not_eq_false] at q46) | (dsimp only at q46) | skip
  have hk0 : ¬ g.getD 4 0 < 0 := by omega
  have hd5 : ((findR M (g.getD 4 0)).getD [0, 0, 0, 0, 0]).length = 5 := by cases hf : findR M (g.getD 4 0) with | none => rfl | some d => exact hR.2 _ d hf
  have hv1 : (f2 (g.getD 4 0)).getD (.agg (Is [0, 0, 0, 0, 0]).toArray) = .agg (Is ((findR M (g.getD 4 0)).getD [0, 0, 0, 0, 0])).toArray := by rw [hR.1]; cases findR M (g.getD 4 0) <;> rfl
  have hv2 : (f2 (g.getD 4 0)).isSome = (findR M (g.getD 4 0)).isSome := by rw [hR.1]; cases findR M (g.getD 4 0) <;> rfl
  refine At.drawM ((And.intro (Bks.cons om.blk (Bks.cons hG.blk Bks.nil)) hM2)) [13] mixed rfl rfl ?_
  refine RegD.tpur (i := 0) rfl rfl rfl rfl (by kernel_rfl) (Pur.mv rfl) ?_
  refine RegD.tpur (i := 1) rfl rfl rfl rfl (by kernel_rfl) (Pur.nilc rfl) ?_
  refine RegD.tpur (i := 2) rfl rfl rfl rfl (by kernel_rfl) (Pur.fld _ fo100_1 rfl) ?_
  refine RegD.take (i := 3) rfl rfl rfl rfl (by kernel_rfl) (And.intro (Bks.cons om.blk (Bks.cons hG.blk Bks.nil)) hM2) (fun H hS => Lod.ld sc98 rfl hS.1.hd rfl) ?_
  refine RegD.tpur (i := 4) rfl rfl rfl rfl (by kernel_rfl) (Pur.mv rfl) ?_
  refine RegD.tpur (i := 5) rfl rfl rfl rfl (by kernel_rfl) (Pur.nilc rfl) ?_
  refine RegD.tpur (i := 6) rfl rfl rfl rfl (by kernel_rfl) (Pur.fld _ fo24_1 rfl) ?_
  refine RegD.take (i := 7) rfl rfl rfl rfl (by kernel_rfl) (And.intro (Bks.cons om.blk (Bks.cons hG.blk Bks.nil)) hM2) (fun H hS => Lod.ld sc3 rfl hS.1.tl.hd (hgt (j := 4) (by omega))) ?_
  refine RegD.take (i := 8) rfl rfl rfl rfl (by kernel_rfl) (And.intro (Bks.cons om.blk (Bks.cons hG.blk Bks.nil)) hM2) (fun H hS => Lod.mlk' Tryd.underlying98 Tryd.underlying3 zv_row hv1 hv2 rfl rfl hS.2) ?_
  refine RegD.tpur (i := 9) rfl rfl rfl rfl (by kernel_rfl) (Pur.mv rfl) ?_
  refine RegD.tpur (i := 10) rfl rfl rfl rfl (by kernel_rfl) (Pur.ext rfl rfl) ?_
  refine RegD.tpur (i := 11) rfl rfl rfl rfl (by kernel_rfl) (Pur.ext rfl rfl) ?_
  refine RegD.one (i := 12) (by kernel_rfl) rfl rfl rfl rfl (Does.alloc zc24) ?_
  rintro _ H11_12 ⟨rfl, hn11_12⟩
  have z11_12 := hn11_12.size
  replace hC := hC.ext hn11_12.ext
  replace om := om.ext hn11_12.ext
  replace hM1 := hM1.ext hn11_12.ext
  replace hM2 := hM2.ext hn11_12.ext
  replace hG := hG.ext hn11_12.ext
  replace hZ := hZ.ext hn11_12.ext
  replace od := od.ext hn11_12.ext
  have o11_12 := hn11_12.own
  refine ⟨fun _ _ => (And.intro (Bks.cons om.blk (Bks.cons hG.blk Bks.nil)) hM2), ?_⟩
  refine RegD.one0 (i := 13) (by kernel_rfl) rfl rfl rfl (Does.stn ag24 rfl rfl (ones_Is _) (by rw [List.length_map]; exact hd5) o11_12 (by decide)) ?_
  rintro _ H11_13 hu11_13
  have z11_13 := hu11_13.size
  replace hC := hC.upw hu11_13 (by omega)
  replace om := om.upw hu11_13 (by omega)
  replace hM1 := hM1.upw hu11_13 (by omega)
  replace hM2 := hM2.upw hu11_13 (by omega)
  replace hG := hG.upw hu11_13 (by omega)
  replace hZ := hZ.upw hu11_13 (by omega)
  replace od := od.upw hu11_13 (by omega)
  replace o11_12 := hu11_13.own
  first | rw [over (by first | rfl | (simp; done))] at o11_12 | skip
  refine ⟨fun h => (by cases h), ?_⟩
  refine RegD.tpur (i := 14) rfl rfl rfl rfl (by kernel_rfl) (Pur.asg rfl) ?_
  refine RegD.done (by kernel_rfl) ?_
  refine At.drawE ((Bks.cons om.blk (Bks.cons hG.blk (Bks.cons od.blk Bks.nil)))) [9] mixed rfl rfl ?_
  refine RegD.tpur (i := 0) rfl rfl rfl rfl (by kernel_rfl) (Pur.mv rfl) ?_
  refine RegD.tpur (i := 1) rfl rfl rfl rfl (by kernel_rfl) (Pur.nilc rfl) ?_
  refine RegD.tpur (i := 2) rfl rfl rfl rfl (by kernel_rfl) (Pur.fld _ fo100_1 rfl) ?_
  refine RegD.take (i := 3) rfl rfl rfl rfl (by kernel_rfl) (Bks.cons om.blk (Bks.cons hG.blk (Bks.cons od.blk Bks.nil))) (fun H hS => Lod.ld sc98 rfl hS.hd rfl) ?_
  refine RegD.tpur (i := 4) rfl rfl rfl rfl (by kernel_rfl) (Pur.mv rfl) ?_
  refine RegD.tpur (i := 5) rfl rfl rfl rfl (by kernel_rfl) (Pur.nilc rfl) ?_
  refine RegD.tpur (i := 6) rfl rfl rfl rfl (by kernel_rfl) (Pur.fld _ fo24_1 rfl) ?_
  refine RegD.take (i := 7) rfl rfl rfl rfl (by kernel_rfl) (Bks.cons om.blk (Bks.cons hG.blk (Bks.cons od.blk Bks.nil))) (fun H hS => Lod.ld sc3 rfl hS.tl.hd (hgt (j := 4) (by omega))) ?_
  refine RegD.take (i := 8) rfl rfl rfl rfl (by kernel_rfl) (Bks.cons om.blk (Bks.cons hG.blk (Bks.cons od.blk Bks.nil))) (fun H hS => Lod.ldn ag24 rfl hS.tl.tl.hd (whole rfl) rfl) ?_

  refine RegD.one0 (i := 9) (by kernel_rfl) rfl rfl rfl (Does.mup Tryd.underlying98 Tryd.underlying3 rfl rfl rfl hM2) ?_
  rintro _ H12_9 ⟨hm12_9, hbut12_9, hsz12_9⟩
  have z12_9 := hbut12_9.lt
  replace hC := hC.via hbut12_9 (by first | omega | (intro g; omega) | (intro g hg; omega) | (intro g hg h; omega))
  replace om := om.via hbut12_9 (by first | omega | (intro g; omega) | (intro g hg; omega) | (intro g hg h; omega))
  replace hM1 := hM1.via hbut12_9 (by first | omega | (intro g; omega) | (intro g hg; omega) | (intro g hg h; omega))
  replace hG := hG.via hbut12_9 (by first | omega | (intro g; omega) | (intro g hg; omega) | (intro g hg h; omega))
  replace hZ := hZ.via hbut12_9 (by first | omega | (intro g; omega) | (intro g hg; omega) | (intro g hg h; omega))
  replace od := od.via hbut12_9 (by first | omega | (intro g; omega) | (intro g hg; omega) | (intro g hg h; omega))
  replace o11_12 := o11_12.via hbut12_9 (by first | omega | (intro g; omega) | (intro g hg; omega) | (intro g hg h; omega))
  refine ⟨fun h => (by cases h), ?_⟩
  refine RegD.done (by kernel_rfl) ?_
  have hfd := fks_ints .i64 ((findR M (g.getD 4 0)).getD [0, 0, 0, 0, 0])
  rw [hd5] at hfd
  have hfr := fks_ints .i64 (rst g s 4)
  have hei := eqs_ints .i64 ((findR M (g.getD 4 0)).getD [0, 0, 0, 0, 0]) (rst g s 4)
  refine At.region rfl rfl ?_
  refine Reg.pur rfl rfl rfl rfl (Pur.mv rfl) ?_
  refine Reg.pur rfl rfl rfl rfl (Pur.not rfl) ?_
  refine Reg.pur rfl rfl rfl rfl (Pur.mv rfl) ?_
  refine Reg.case 73 rfl (fun q73 => ?_) (fun q73 => ?_)
  · first | (simp only [decide_eq_true_eq, decide_eq_false_iff_not, Bool.not_eq_true', Bool.not_eq_false', ne_eq, Decidable.not_not, Bool.not_eq_true, Bool.not_eq_false] at q73) | (dsimp only at q73) | skip
    refine Reg.skip rfl rfl rfl rfl rfl rfl rfl ?_
    refine Reg.skip rfl rfl rfl rfl rfl rfl rfl ?_
    refine Reg.skip rfl rfl rfl rfl rfl rfl rfl ?_
    refine Reg.pur rfl rfl rfl rfl (Pur.pickT rfl rfl) ?_
    refine Reg.pur rfl rfl rfl rfl (Pur.asg rfl) ?_
    refine Reg.nil ?_
    refine At.ret rfl Tryd.func80 rfl ?_
    have hio : instR M g s = match findR M (g.getD 4 0) with | none => some (M ++ [.r (g.getD 4 0) (dfR g s)]) | some d => if d = dfR g s then some M else none := by unfold instR; rw [if_neg hpn, if_neg hk0]; try (cases findR M (g.getD 4 0) <;> rfl)
    refine ⟨?_, _, fun M' hM' => rw_upd hR hpn hk0 hM', hM1, hm12_9, hC⟩
    cases hf : findR M (g.getD 4 0) with
    | none => first | (rw [hf] at q73; cases q73; done) | (rw [hio, hf]; rfl)
    | some d =>
      first
      | (rw [hf] at q73; cases q73; done)
      | (rw [hf] at hei
         refine (congrArg Value.bool hei).trans ?_
         rw [hio, hf, rst_all]
         show Value.bool (decide (d = dfR g s)) = Value.bool (if d = dfR g s then some M else none).isSome
         by_cases h : d = dfR g s
         · rw [if_pos h, decide_eq_true h]; rfl
         · rw [if_neg h, decide_eq_false h]; rfl)
  first | (simp only [decide_eq_true_eq, decide_eq_false_iff_not, Bool.not_eq_true', Bool.not_eq_false', ne_eq, Decidable.not_not, Bool.not_eq_true, Bool.not_eq_false] at q73) | (dsimp only at q73) | skip
  refine Reg.glod rfl rfl rfl rfl rfl rfl (Lod.ldn ag24 rfl o11_12.blk (whole (by rw [List.length_map]; exact hd5)) (by rw [List.length_map]; exact hd5)) ?_
  refine Reg.glod rfl rfl rfl rfl rfl rfl (Lod.ldn ag24 rfl od.blk (whole rfl) rfl) ?_
  refine Reg.gpur rfl rfl rfl rfl rfl rfl (Pur.eqA eqt24 rfl rfl hfd hfr) ?_
  refine Reg.pur rfl rfl rfl rfl (Pur.pickF rfl rfl) ?_
  refine Reg.pur rfl rfl rfl rfl (Pur.asg rfl) ?_
  refine Reg.nil ?_
  refine At.ret rfl Tryd.func80 rfl ?_
  have hio : instR M g s = match findR M (g.getD 4 0) with | none => some (M ++ [.r (g.getD 4 0) (dfR g s)]) | some d => if d = dfR g s then some M else none := by unfold instR; rw [if_neg hpn, if_neg hk0]; try (cases findR M (g.getD 4 0) <;> rfl)
  refine ⟨?_, _, fun M' hM' => rw_upd hR hpn hk0 hM', hM1, hm12_9, hC⟩
  cases hf : findR M (g.getD 4 0) with
  | none => first | (rw [hf] at q73; cases q73; done) | (rw [hio, hf]; rfl)
  | some d =>
    first
    | (rw [hf] at q73; cases q73; done)
    | (rw [hf] at hei
       refine (congrArg Value.bool hei).trans ?_
       rw [hio, hf, rst_all]
       show Value.bool (decide (d = dfR g s)) = Value.bool (if d = dfR g s then some M else none).isSome
       by_cases h : d = dfR g s
       · rw [if_pos h, decide_eq_true h]; rfl
       · rw [if_neg h, decide_eq_false h]; rfl)
end Go.Proofs.YtlfillhffpiffaaDoor

namespace Go.Proofs.YtlfillhffpiffaaDoor
set_option linter.unusedSimpArgs false
set_option linter.unusedVariables false
set_option maxRecDepth 8000
set_option maxHeartbeats 1000000
open Go Go.Fx Go.Proofs
namespace FactsUniZ

end FactsUniZ
open FactsUniZ

theorem enc_inj {t u : Tm} (ht : t.ok) (hu : u.ok) (htz : t.sz ≤ 256) (h : t.enc 0 = u.enc 0) : t = u := by
  suffices key : ∀ (t u : Tm) (k : Int), t.ok → u.ok → t.enc k = u.enc k → t = u from key t u 0 ht hu h
  intro t
  induction t with
  | bas k =>
    intro u j _ _ h
    cases u with
    | bas l => cases k <;> cases l <;> first | rfl | (simp [Tm.enc] at h)
    | var v => cases k <;> simp [Tm.enc] at h
    | fn a r b =>
      have := congrArg List.length h
      rw [Tm.enc_len, Tm.enc_len] at this
      have := a.sz_pos; have := b.sz_pos
      simp only [Tm.sz] at *; omega
  | var v =>
    intro u j _ _ h
    cases u with
    | bas l => cases l <;> simp [Tm.enc] at h
    | var w => simp [Tm.enc] at h; rw [h]
    | fn a r b =>
      have := congrArg List.length h
      rw [Tm.enc_len, Tm.enc_len] at this
      have := a.sz_pos; have := b.sz_pos
      simp only [Tm.sz] at *; omega
  | fn a r b iha ihb =>
    intro u j ht hu h
    cases u with
    | bas l =>
      have := congrArg List.length h
      rw [Tm.enc_len, Tm.enc_len] at this
      have := a.sz_pos; have := b.sz_pos
      simp only [Tm.sz] at *; omega
    | var w =>
      have := congrArg List.length h
      rw [Tm.enc_len, Tm.enc_len] at this
      have := a.sz_pos; have := b.sz_pos
      simp only [Tm.sz] at *; omega
    | fn a' r' b' =>
      simp only [Tm.enc] at h
      have hlen := congrArg List.length h
      simp only [List.length_append, Tm.enc_len, List.length_singleton] at hlen
      have h2 := List.append_inj_right' h rfl
      have h1 := List.append_inj_left' h rfl
      simp only [List.cons.injEq, and_true, List.cons_append, List.nil_append] at h2
      have hsz : a.sz = a'.sz := by have := h2.2.2.1; omega
      have e1 := List.append_inj_left h1 (by rw [Tm.enc_len, Tm.enc_len, hsz])
      have e2 := List.append_inj_right h1 (by rw [Tm.enc_len, Tm.enc_len, hsz])
      rw [← hsz] at e2
      rw [iha a' j ht.1 hu.1 e1, ihb b' _ ht.2.2.2 hu.2.2.2 e2, h2.2.2.2.2]
end Go.Proofs.YtlfillhffpiffaaDoor

namespace Go.Proofs.YtlfillhffpiffaaDoor
set_option linter.unusedSimpArgs false
set_option linter.unusedVariables false
set_option maxRecDepth 8000
set_option maxHeartbeats 600000
open Go Go.Fx Go.Proofs
namespace FactsUniND
theorem ag55 : ag Tryd.prog 55 = some 1 := by kernel_rfl
theorem fo100_0 : foff Tryd.prog 100 0 = some 0 := by kernel_rfl
theorem fo65_0 : foff Tryd.prog 65 0 = some 0 := by kernel_rfl
theorem fo65_1 : foff Tryd.prog 65 1 = some 1 := by kernel_rfl
theorem fo65_4 : foff Tryd.prog 65 4 = some 4 := by kernel_rfl
theorem mixed : Tryd.prog.follows .mixedOrders = true := by kernel_rfl
theorem sc3 : sc Tryd.prog 3 = true := by kernel_rfl
theorem sc97 : sc Tryd.prog 97 = true := by kernel_rfl
theorem zc55 : zc Tryd.prog 55 = some [.slice none 0 0] := by kernel_rfl
end FactsUniND
open FactsUniND

theorem zv_type : zv Tryd.prog 55 = some (.agg #[.slice none 0 0]) := by kernel_rfl
theorem at0 (v : Value) : ([v] : List Value)[0]? = some v := rfl
theorem one_at {c : List Value} {o : Nat} {v : Value} (h : c[o]? = some v) : (c.drop o).take 1 = [v] := by
  have hl : o < c.length := by
    rcases Nat.lt_or_ge o c.length with h' | h'
    · exact h'
    · rw [List.getElem?_eq_none h'] at h; cases h
  rw [List.drop_eq_getElem_cons hl]
  rw [List.getElem?_eq_getElem hl] at h
  simp at h
  simp [h]
def TyM (H : Heap) (f : Int → Option Value) (M : List Bt) : Prop := ∀ v, (findT M v = none → f v = none) ∧ ∀ t, findT M v = some t → t.ok ∧ t.sz ≤ 256 ∧ ∃ A cap, f v = some (.agg #[.slice A (t.enc 0).length cap]) ∧ SlT H Is 9 (.slice A (t.enc 0).length cap) (t.enc 0)
theorem TyM.chg {b1 b2 : Nat} {H H' : Heap} {f g1 g2 : Int → Option Value} {M : List Bt} (h : TyM H f M) (h1 : Mp H b1 g1) (h2 : Mp H b2 g2) (hC : Chg b1 b2 H H') : TyM H' f M := fun v =>
  ⟨(h v).1, fun t ht => by
    obtain ⟨k1, k2, A, cap, k3, k4⟩ := (h v).2 t ht
    exact ⟨k1, k2, A, cap, k3, sl_but k4 h1 h2 hC⟩⟩
theorem ty_upd {H : Heap} {f : Int → Option Value} {M M' : List Bt} {v : Int} {s : Tm} {A : Option Addr} {cap : Nat} (h : TyM H f M) (hs : SlT H Is 9 (.slice A (s.enc 0).length cap) (s.enc 0)) (ho : s.ok) (hz : s.sz ≤ 256) (e : inst M (.var v) s = some M') :
    TyM H (fun j => if j = v then some (.agg #[.slice A (s.enc 0).length cap]) else f j) M' := by
  have key : ∀ w, findT M' w = if w = v then some s else findT M w := by
    intro w
    cases hf : findT M v with
    | none =>
      simp only [inst, hf] at e
      cases e
      rw [findT_app]
      by_cases hw : w = v
      · rw [if_pos hw, hw, hf]; simp [findT]
      · rw [if_neg hw]
        cases findT M w with
        | some u => rfl
        | none => simp only [findT]; rw [if_neg (fun e => hw e.symm)]
    | some t =>
      simp only [inst, hf] at e
      split at e
      · rename_i ht
        cases e
        by_cases hw : w = v
        · rw [if_pos hw, hw, hf, ht]
        · rw [if_neg hw]
      · cases e
  intro w
  rw [key w]
  by_cases hw : w = v
  · refine ⟨fun h0 => (by rw [if_pos hw] at h0; cases h0), fun t ht => ?_⟩
    rw [if_pos hw] at ht
    cases ht
    exact ⟨ho, hz, A, cap, if_pos hw, hs⟩
  · refine ⟨fun h0 => ?_, fun t ht => ?_⟩
    · rw [if_neg hw] at h0
      exact (if_neg hw).trans ((h w).1 h0)
    · rw [if_neg hw] at ht
      obtain ⟨k1, k2, A', cap', k3, k4⟩ := (h w).2 t ht
      exact ⟨k1, k2, A', cap', (if_neg hw).trans k3, k4⟩
theorem rw_t {f : Int → Option Value} {M M' : List Bt} {v : Int} {s : Tm} (h : RwM f M) (e : inst M (.var v) s = some M') : RwM f M' := by
  have key : ∀ w, findR M' w = findR M w := by
    intro w
    cases hf : findT M v with
    | none =>
      simp only [inst, hf] at e
      cases e
      rw [findR_app]
      cases findR M w with
      | some u => rfl
      | none => rfl
    | some t =>
      simp only [inst, hf] at e
      split at e
      · cases e; rfl
      · cases e
  exact ⟨fun w => by rw [key w]; exact h.1 w, fun w d hd => h.2 w d (by rw [← key w]; exact hd)⟩
theorem ty_r {H : Heap} {f : Int → Option Value} {M M' : List Bt} {g s : List Int} (h : TyM H f M) (e : instR M g s = some M') : TyM H f M' := by
  have key : ∀ w, findT M' w = findT M w := by
    intro w
    unfold instR at e
    split at e
    · cases e
    · split at e
      · split at e
        · cases e; rfl
        · cases e
      · split at e
        · cases e
          rw [findT_app]
          cases findT M w with
          | some u => rfl
          | none => rfl
        · split at e
          · cases e; rfl
          · cases e
  exact fun w => ⟨fun h0 => (h w).1 (by rw [← key w]; exact h0), fun t ht => (h w).2 t (by rw [← key w]; exact ht)⟩
def TyR (b1 b2 : Nat) (H : Heap) (r : Option (List Bt)) (v : Value) (H' : Heap) : Prop := v = .bool r.isSome ∧ ∃ f1' f2', (∀ M', r = some M' → TyM H' f1' M' ∧ RwM f2' M') ∧ Mp H' b1 f1' ∧ Mp H' b2 f2' ∧ Chg b1 b2 H H'
theorem inst_leaf {M : List Bt} {p q : Tm} (h2 : p.lst.getD 0 0 ≠ 2) (h : p.lst.getD 0 0 ≠ q.lst.getD 0 0 ∨ p.lst.getD 0 0 ≠ 3) : inst M p q = if p.lst.getD 0 0 = q.lst.getD 0 0 then some M else none := by
  cases p with
  | var v => exact absurd rfl h2
  | bas k =>
    cases q with
    | bas l => cases k <;> cases l <;> rfl
    | var v => cases k <;> rfl
    | fn a r b => cases k <;> rfl
  | fn a r b =>
    cases q with
    | bas l => cases l <;> rfl
    | var v => rfl
    | fn a' r' b' => exact (h.elim (fun h => absurd rfl h) (fun h => absurd rfl h))
theorem typedG_ok {mb b1 b2 : Nat} (h12 : b1 ≠ b2) : ∀ (n : Nat) (p q : Tm), p.sz ≤ n → p.ok → p.sz ≤ 256 → q.ok → q.sz ≤ 256 → ∀ {H : Heap} {yb yo zb zo cp cq : Nat} {Ap Aq : Option Addr} {cy cz : List Value} {f1 f2 : Int → Option Value} {M : List Bt},
    Own H mb [.map (some b1), .map (some b2)] → Mp H b1 f1 → Mp H b2 f2 → TyM H f1 M → RwM f2 M → Blk H yb cy → cy[yo]? = some (.slice Ap (p.enc 0).length cp) → SlT H Is 9 (.slice Ap (p.enc 0).length cp) (p.enc 0) → Blk H zb cz → cz[zo]? = some (.slice Aq (q.enc 0).length cq) → SlT H Is 9 (.slice Aq (q.enc 0).length cq) (q.enc 0) →
    Ret Tryd.prog 59 [ptr mb 0, ptr yb yo, ptr zb zo] H (TyR b1 b2 H (inst M p q)) := by
  intro n
  induction n with
  | zero => intro p _ h; have := p.sz_pos; omega
  | succ n ihn =>
  intro p q hn hpo hpz hqo hqz H yb yo zb zo cp cq Ap Aq cy cz f1 f2 M om hM1 hM2 hTy hRw hY hcy hS1 hZ hcz hS2
  have hM10 := hM1
  have hM20 := hM2
  have hC : Chg b1 b2 H H := Chg.refl
  have hpn := p.enc_len 0
  have hqn := q.enc_len 0
  have hp1 := p.sz_pos
  have hq1 := q.sz_pos
  obtain ⟨bp, op, kp, rfl, hBp, hdp, hxp, hatp⟩ := el_cells (p.enc_nine 0 hpo) hS1 (z := ((p.enc 0).length : Int) - 1) (by omega) (by omega)
  obtain ⟨bq, oq, kq, rfl, hBq, hdq, hxq, hatq⟩ := el_cells (q.enc_nine 0 hqo) hS2 (z := ((q.enc 0).length : Int) - 1) (by omega) (by omega)
  rw [lst_el, show (((p.enc 0).length : Int) - 1).toNat = (p.enc 0).length - 1 by omega] at hdp hatp
  rw [lst_el, show (((q.enc 0).length : Int) - 1).toNat = (q.enc 0).length - 1 by omega] at hdq hatq
  rw [lst_el] at hxp hxq
  have n1 := hM1.ne hBp
  have n2 := hM2.ne hBp
  have n3 := hM1.ne hBq
  have n4 := hM2.ne hBq
  have n5 := hM1.ne om.blk
  have n6 := hM2.ne om.blk
  have n7 := hM1.ne hZ
  have n8 := hM2.ne hZ
  have n9 := hM1.ne hY
  have n10 := hM2.ne hY
  have z1 := hM1.lt
  have z2 := hM2.lt
  refine Ret.of_at (N := 104) Tryd.call59 Tryd.func59 rfl rfl rfl ?_
  have hE := Ext.refl H
  have z_hC := hC.lt
  have z_om := om.lt
  have z_hM1 := hM1.lt
  have z_hM2 := hM2.lt
  have z_hBp := hBp.lt
  have z_hBq := hBq.lt
  have z_hY := hY.lt
  have z_hZ := hZ.lt
  refine At.region rfl rfl ?_
  refine Reg.pur rfl rfl rfl rfl (Pur.asg rfl) ?_
  refine Reg.nil ?_
  refine At.region rfl rfl ?_
  refine Reg.pur rfl rfl rfl rfl (Pur.mv rfl) ?_
  refine Reg.op rfl rfl rfl rfl (Does.call rfl (root_ok hcy rfl hY (by omega) (by omega))) ?_
  rintro _ H ⟨rfl, rfl⟩
  refine Reg.pur rfl rfl rfl rfl (Pur.mv rfl) ?_
  refine Reg.op rfl rfl rfl rfl (Does.call rfl (root_ok hcz rfl hZ (by omega) (by omega))) ?_
  rintro _ H ⟨rfl, rfl⟩
  refine Reg.pur rfl rfl rfl rfl (Pur.asg rfl) ?_
  refine Reg.pur rfl rfl rfl rfl (Pur.asg rfl) ?_
  refine Reg.nil ?_
  refine At.region rfl rfl ?_
  refine Reg.pur rfl rfl rfl rfl (Pur.mv rfl) ?_
  refine Reg.pur rfl rfl rfl rfl (Pur.nilc rfl) ?_
  refine Reg.pur rfl rfl rfl rfl (Pur.fld _ fo65_0 rfl) ?_
  refine Reg.lod rfl rfl rfl rfl (Lod.ld sc3 rfl hBp (hatp 0 (by decide))) ?_
  refine Reg.pur rfl rfl rfl rfl (Pur.eql rfl rfl) ?_
  refine Reg.nil ?_
  refine At.cond rfl rfl (fun q23 => ?_) (fun q23 => ?_)
  · first | (simp only [decide_eq_true_eq, decide_eq_false_iff_not, Bool.not_eq_true', Bool.not_eq_false', ne_eq, Decidable.not_not, Bool.not_eq_true, Bool.not_eq_false] at q23) | (dsimp only at q23) | skip
    obtain ⟨v, rfl⟩ := lst_var q23
    obtain ⟨Av, lv, cv, hv1, hv2, hv3⟩ : ∃ Av lv cv, (f1 v).getD (.agg #[.slice none 0 0]) = .agg #[.slice Av lv cv] ∧ (f1 v).isSome = (findT M v).isSome ∧ ∀ t, findT M v = some t → t.ok ∧ t.sz ≤ 256 ∧ lv = (t.enc 0).length ∧ SlT H Is 9 (.slice Av lv cv) (t.enc 0) := by
      cases hf : findT M v with
      | none => exact ⟨none, 0, 0, by rw [(hTy v).1 hf]; rfl, by rw [(hTy v).1 hf]; rfl, fun t ht => by cases ht⟩
      | some t =>
        obtain ⟨k1, k2, A, cap, k3, k4⟩ := (hTy v).2 t hf
        exact ⟨A, _, cap, by rw [k3]; rfl, by rw [k3]; rfl, fun t' ht => by cases ht; exact ⟨k1, k2, rfl, k4⟩⟩
    refine At.drawM ((And.intro (Bks.cons om.blk (Bks.cons hBp.blk Bks.nil)) hM1)) [13] mixed rfl rfl ?_
    refine RegD.tpur (i := 0) rfl rfl rfl rfl (by kernel_rfl) (Pur.mv rfl) ?_
    refine RegD.tpur (i := 1) rfl rfl rfl rfl (by kernel_rfl) (Pur.nilc rfl) ?_
    refine RegD.tpur (i := 2) rfl rfl rfl rfl (by kernel_rfl) (Pur.fld _ fo100_0 rfl) ?_
    refine RegD.take (i := 3) rfl rfl rfl rfl (by kernel_rfl) (And.intro (Bks.cons om.blk (Bks.cons hBp.blk Bks.nil)) hM1) (fun H hS => Lod.ld sc97 rfl hS.1.hd rfl) ?_
    refine RegD.tpur (i := 4) rfl rfl rfl rfl (by kernel_rfl) (Pur.mv rfl) ?_
    refine RegD.tpur (i := 5) rfl rfl rfl rfl (by kernel_rfl) (Pur.nilc rfl) ?_
    refine RegD.tpur (i := 6) rfl rfl rfl rfl (by kernel_rfl) (Pur.fld _ fo65_1 rfl) ?_
    refine RegD.take (i := 7) rfl rfl rfl rfl (by kernel_rfl) (And.intro (Bks.cons om.blk (Bks.cons hBp.blk Bks.nil)) hM1) (fun H hS => Lod.ld sc3 rfl hS.1.tl.hd (hatp 1 (by decide))) ?_
    refine RegD.take (i := 8) rfl rfl rfl rfl (by kernel_rfl) (And.intro (Bks.cons om.blk (Bks.cons hBp.blk Bks.nil)) hM1) (fun H hS => Lod.mlk' (k := v) Tryd.underlying97 Tryd.underlying3 zv_type hv1 hv2 rfl rfl hS.2) ?_
    refine RegD.tpur (i := 9) rfl rfl rfl rfl (by kernel_rfl) (Pur.mv rfl) ?_
    refine RegD.tpur (i := 10) rfl rfl rfl rfl (by kernel_rfl) (Pur.ext rfl rfl) ?_
    refine RegD.tpur (i := 11) rfl rfl rfl rfl (by kernel_rfl) (Pur.ext rfl rfl) ?_
    refine RegD.one (i := 12) (by kernel_rfl) rfl rfl rfl rfl (Does.alloc zc55) ?_
    rintro _ H3_12 ⟨rfl, hn3_12⟩
    have z3_12 := hn3_12.size
    replace hC := hC.ext hn3_12.ext
    replace om := om.ext hn3_12.ext
    replace hM1 := hM1.ext hn3_12.ext
    replace hM2 := hM2.ext hn3_12.ext
    replace hBp := hBp.ext hn3_12.ext
    replace hBq := hBq.ext hn3_12.ext
    replace hY := hY.ext hn3_12.ext
    replace hZ := hZ.ext hn3_12.ext
    have o3_12 := hn3_12.own
    refine ⟨fun _ _ => (And.intro (Bks.cons om.blk (Bks.cons hBp.blk Bks.nil)) hM1), ?_⟩
    refine RegD.one0 (i := 13) (by kernel_rfl) rfl rfl rfl (Does.stn ag55 rfl rfl (by first | rfl | exact ones_Is _) (by first | rfl | (simp [*]; done)) o3_12 (by first | decide | (simp; done) | (simp; omega) | omega)) ?_
    rintro _ H3_13 hu3_13
    have z3_13 := hu3_13.size
    replace hC := hC.upw hu3_13 (by omega)
    replace om := om.upw hu3_13 (by omega)
    replace hM1 := hM1.upw hu3_13 (by omega)
    replace hM2 := hM2.upw hu3_13 (by omega)
    replace hBp := hBp.upw hu3_13 (by omega)
    replace hBq := hBq.upw hu3_13 (by omega)
    replace hY := hY.upw hu3_13 (by omega)
    replace hZ := hZ.upw hu3_13 (by omega)
    replace o3_12 := hu3_13.own
    first | rw [over (by first | rfl | (simp; done))] at o3_12 | skip
    refine ⟨fun h => (by cases h), ?_⟩
    refine RegD.tpur (i := 14) rfl rfl rfl rfl (by kernel_rfl) (Pur.asg rfl) ?_
    refine RegD.done (by kernel_rfl) ?_
    refine At.drawE ((Bks.cons om.blk (Bks.cons hBp.blk (Bks.cons hZ.blk Bks.nil)))) [11] mixed rfl rfl ?_
    refine RegD.tpur (i := 0) rfl rfl rfl rfl (by kernel_rfl) (Pur.mv rfl) ?_
    refine RegD.tpur (i := 1) rfl rfl rfl rfl (by kernel_rfl) (Pur.nilc rfl) ?_
    refine RegD.tpur (i := 2) rfl rfl rfl rfl (by kernel_rfl) (Pur.fld _ fo100_0 rfl) ?_
    refine RegD.take (i := 3) rfl rfl rfl rfl (by kernel_rfl) (Bks.cons om.blk (Bks.cons hBp.blk (Bks.cons hZ.blk Bks.nil))) (fun H hS => Lod.ld sc97 rfl hS.hd rfl) ?_
    refine RegD.tpur (i := 4) rfl rfl rfl rfl (by kernel_rfl) (Pur.mv rfl) ?_
    refine RegD.tpur (i := 5) rfl rfl rfl rfl (by kernel_rfl) (Pur.nilc rfl) ?_
    refine RegD.tpur (i := 6) rfl rfl rfl rfl (by kernel_rfl) (Pur.fld _ fo65_1 rfl) ?_
    refine RegD.take (i := 7) rfl rfl rfl rfl (by kernel_rfl) (Bks.cons om.blk (Bks.cons hBp.blk (Bks.cons hZ.blk Bks.nil))) (fun H hS => Lod.ld sc3 rfl hS.tl.hd (hatp 1 (by decide))) ?_
    refine RegD.tpur (i := 8) rfl rfl rfl rfl (by kernel_rfl) (Pur.mv rfl) ?_
    refine RegD.tpur (i := 9) rfl rfl rfl rfl (by kernel_rfl) (Pur.nilc rfl) ?_
    refine RegD.take (i := 10) rfl rfl rfl rfl (by kernel_rfl) (Bks.cons om.blk (Bks.cons hBp.blk (Bks.cons hZ.blk Bks.nil))) (fun H hS => Lod.ldn ag55 rfl hS.tl.tl.hd (one_at hcz) rfl) ?_

    refine RegD.one0 (i := 11) (by kernel_rfl) rfl rfl rfl (Does.mup (k := v) Tryd.underlying97 Tryd.underlying3 rfl rfl rfl hM1) ?_
    rintro _ H4_11 ⟨hm4_11, hbut4_11, hsz4_11⟩
    have z4_11 := hbut4_11.lt
    replace hC := hC.via hbut4_11 (by first | omega | (intro g; omega) | (intro g hg; omega) | (intro g hg h; omega))
    replace om := om.via hbut4_11 (by first | omega | (intro g; omega) | (intro g hg; omega) | (intro g hg h; omega))
    replace hM2 := hM2.via hbut4_11 (by first | omega | (intro g; omega) | (intro g hg; omega) | (intro g hg h; omega))
    replace hBp := hBp.via hbut4_11 (by first | omega | (intro g; omega) | (intro g hg; omega) | (intro g hg h; omega))
    replace hBq := hBq.via hbut4_11 (by first | omega | (intro g; omega) | (intro g hg; omega) | (intro g hg h; omega))
    replace hY := hY.via hbut4_11 (by first | omega | (intro g; omega) | (intro g hg; omega) | (intro g hg h; omega))
    replace hZ := hZ.via hbut4_11 (by first | omega | (intro g; omega) | (intro g hg; omega) | (intro g hg h; omega))
    replace o3_12 := o3_12.via hbut4_11 (by first | omega | (intro g; omega) | (intro g hg; omega) | (intro g hg h; omega))
    refine ⟨fun h => (by cases h), ?_⟩
    refine RegD.done (by kernel_rfl) ?_
    refine At.region rfl rfl ?_
    refine Reg.pur rfl rfl rfl rfl (Pur.mv rfl) ?_
    refine Reg.pur rfl rfl rfl rfl (Pur.not rfl) ?_
    refine Reg.pur rfl rfl rfl rfl (Pur.mv rfl) ?_
    refine Reg.case 49 rfl (fun q49 => ?_) (fun q49 => ?_)
    · first | (simp only [decide_eq_true_eq, decide_eq_false_iff_not, Bool.not_eq_true', Bool.not_eq_false', ne_eq, Decidable.not_not, Bool.not_eq_true, Bool.not_eq_false] at q49) | (dsimp only at q49) | skip
      refine Reg.skip rfl rfl rfl rfl rfl rfl rfl ?_
      refine Reg.skip rfl rfl rfl rfl rfl rfl rfl ?_
      refine Reg.pur rfl rfl rfl rfl (Pur.pickT rfl rfl) ?_
      refine Reg.pur rfl rfl rfl rfl (Pur.asg rfl) ?_
      refine Reg.nil ?_
      refine At.ret rfl Tryd.func59 rfl ?_
      refine ⟨?_, _, f2, fun M' hM' => ⟨ty_upd (hTy.chg hM10 hM20 hC) (sl_but hS2 hM10 hM20 hC) hqo hqz hM', rw_t hRw hM'⟩, hm4_11, hM2, hC⟩
      first
      | (have h0 : findT M v = none := by simpa using q49
         simp only [inst, h0]; rfl)
      | (simp only [inst, hf]
         by_cases h : t = q
         · rw [if_pos h, decide_eq_true (by rw [h])]; rfl
         · rw [if_neg h, decide_eq_false (fun e => h (enc_inj t1 hqo t2 e))]; rfl)
    first | (simp only [decide_eq_true_eq, decide_eq_false_iff_not, Bool.not_eq_true', Bool.not_eq_false', ne_eq, Decidable.not_not, Bool.not_eq_true, Bool.not_eq_false] at q49) | (dsimp only at q49) | skip
    refine Reg.gpur rfl rfl rfl rfl rfl rfl (Pur.mv rfl) ?_
    obtain ⟨t, hf⟩ := Option.isSome_iff_exists.1 q49
    obtain ⟨t1, t2, rfl, t3⟩ := hv3 t hf
    refine Reg.gop rfl rfl rfl rfl rfl rfl (Does.call rfl (same_ok (t.enc_nine 0 t1) (q.enc_nine 0 hqo) rfl hcz o3_12.blk hZ (sl_but t3 hM10 hM20 hC) (sl_but hS2 hM10 hM20 hC) (by rw [Tm.enc_len]; omega))) ?_
    rintro _ H4_11 ⟨rfl, rfl⟩
    refine Reg.pur rfl rfl rfl rfl (Pur.pickF rfl rfl) ?_
    refine Reg.pur rfl rfl rfl rfl (Pur.asg rfl) ?_
    refine Reg.nil ?_
    refine At.ret rfl Tryd.func59 rfl ?_
    refine ⟨?_, _, f2, fun M' hM' => ⟨ty_upd (hTy.chg hM10 hM20 hC) (sl_but hS2 hM10 hM20 hC) hqo hqz hM', rw_t hRw hM'⟩, hm4_11, hM2, hC⟩
    first
    | (have h0 : findT M v = none := by simpa using q49
       simp only [inst, h0]; rfl)
    | (simp only [inst, hf]
       by_cases h : t = q
       · rw [if_pos h, decide_eq_true (by rw [h])]; rfl
       · rw [if_neg h, decide_eq_false (fun e => h (enc_inj t1 hqo t2 e))]; rfl)
  first | (simp only [decide_eq_true_eq, decide_eq_false_iff_not, Bool.not_eq_true', Bool.not_eq_false', ne_eq, Decidable.not_not, Bool.not_eq_true, Bool.not_eq_false] at q23) | (dsimp only at q23) | skip
  refine At.drawE ((Bks.cons hBp.blk (Bks.cons hBq.blk Bks.nil))) [] mixed rfl rfl ?_
  refine RegD.tpur (i := 0) rfl rfl rfl rfl (by kernel_rfl) (Pur.mv rfl) ?_
  refine RegD.tpur (i := 1) rfl rfl rfl rfl (by kernel_rfl) (Pur.nilc rfl) ?_
  refine RegD.tpur (i := 2) rfl rfl rfl rfl (by kernel_rfl) (Pur.fld _ fo65_0 rfl) ?_
  refine RegD.take (i := 3) rfl rfl rfl rfl (by kernel_rfl) (Bks.cons hBp.blk (Bks.cons hBq.blk Bks.nil)) (fun H hS => Lod.ld sc3 rfl hS.hd (hatp 0 (by decide))) ?_
  refine RegD.tpur (i := 4) rfl rfl rfl rfl (by kernel_rfl) (Pur.mv rfl) ?_
  refine RegD.tpur (i := 5) rfl rfl rfl rfl (by kernel_rfl) (Pur.nilc rfl) ?_
  refine RegD.tpur (i := 6) rfl rfl rfl rfl (by kernel_rfl) (Pur.fld _ fo65_0 rfl) ?_
  refine RegD.take (i := 7) rfl rfl rfl rfl (by kernel_rfl) (Bks.cons hBp.blk (Bks.cons hBq.blk Bks.nil)) (fun H hS => Lod.ld sc3 rfl hS.tl.hd (hatq 0 (by decide))) ?_
  refine RegD.tpur (i := 8) rfl rfl rfl rfl (by kernel_rfl) (Pur.neq rfl rfl) ?_
  refine RegD.tpur (i := 9) rfl rfl rfl rfl (by kernel_rfl) (Pur.mv rfl) ?_
  refine RegD.case 62 rfl (fun q62 => ?_) (fun q62 => ?_)
  · first | (simp only [decide_eq_true_eq, decide_eq_false_iff_not, Bool.not_eq_true', Bool.not_eq_false', ne_eq, Decidable.not_not, Bool.not_eq_true, Bool.not_eq_false] at q62) | (dsimp only at q62) | skip
    refine RegD.skip (i := 10) rfl rfl rfl rfl rfl rfl rfl (by kernel_rfl) ?_
    refine RegD.skip (i := 11) rfl rfl rfl rfl rfl rfl rfl (by kernel_rfl) ?_
    refine RegD.skip (i := 12) rfl rfl rfl rfl rfl rfl rfl (by kernel_rfl) ?_
    refine RegD.skip (i := 13) rfl rfl rfl rfl rfl rfl rfl (by kernel_rfl) ?_
    refine RegD.skip (i := 14) rfl rfl rfl rfl rfl rfl rfl (by kernel_rfl) ?_
    refine RegD.tpur (i := 15) rfl rfl rfl rfl (by kernel_rfl) (Pur.pickT rfl rfl) ?_
    refine RegD.done (by kernel_rfl) ?_
    refine At.condT rfl rfl rfl ?_
    refine At.drawE ((Bks.cons hBp.blk (Bks.cons hBq.blk Bks.nil))) [] mixed rfl rfl ?_
    refine RegD.tpur (i := 0) rfl rfl rfl rfl (by kernel_rfl) (Pur.mv rfl) ?_
    refine RegD.tpur (i := 1) rfl rfl rfl rfl (by kernel_rfl) (Pur.nilc rfl) ?_
    refine RegD.tpur (i := 2) rfl rfl rfl rfl (by kernel_rfl) (Pur.fld _ fo65_0 rfl) ?_
    refine RegD.take (i := 3) rfl rfl rfl rfl (by kernel_rfl) (Bks.cons hBp.blk (Bks.cons hBq.blk Bks.nil)) (fun H hS => Lod.ld sc3 rfl hS.hd (hatp 0 (by decide))) ?_
    refine RegD.tpur (i := 4) rfl rfl rfl rfl (by kernel_rfl) (Pur.mv rfl) ?_
    refine RegD.tpur (i := 5) rfl rfl rfl rfl (by kernel_rfl) (Pur.nilc rfl) ?_
    refine RegD.tpur (i := 6) rfl rfl rfl rfl (by kernel_rfl) (Pur.fld _ fo65_0 rfl) ?_
    refine RegD.take (i := 7) rfl rfl rfl rfl (by kernel_rfl) (Bks.cons hBp.blk (Bks.cons hBq.blk Bks.nil)) (fun H hS => Lod.ld sc3 rfl hS.tl.hd (hatq 0 (by decide))) ?_
    refine RegD.tpur (i := 8) rfl rfl rfl rfl (by kernel_rfl) (Pur.eql rfl rfl) ?_
    refine RegD.tpur (i := 9) rfl rfl rfl rfl (by kernel_rfl) (Pur.asg rfl) ?_
    refine RegD.done (by kernel_rfl) ?_
    refine At.ret rfl Tryd.func59 rfl ?_
    rw [inst_leaf (M := M) q23 (by first | exact .inl q62 | exact .inr q68)]
    refine ⟨?_, f1, f2, fun M' h => ?_, hM1, hM2, hC⟩
    · by_cases h : p.lst.getD 0 0 = q.lst.getD 0 0
      · rw [if_pos h, decide_eq_true h]; rfl
      · rw [if_neg h, decide_eq_false h]; rfl
    · by_cases hk : p.lst.getD 0 0 = q.lst.getD 0 0
      · rw [if_pos hk] at h; cases h; exact ⟨hTy.chg hM10 hM20 hC, hRw⟩
      · rw [if_neg hk] at h; cases h
  first | (simp only [decide_eq_true_eq, decide_eq_false_iff_not, Bool.not_eq_true', Bool.not_eq_false', ne_eq, Decidable.not_not, Bool.not_eq_true, Bool.not_eq_false] at q62) | (dsimp only at q62) | skip
  refine RegD.gtpur (i := 10) rfl rfl rfl rfl rfl rfl (by kernel_rfl) (Pur.mv rfl) ?_
  refine RegD.gtpur (i := 11) rfl rfl rfl rfl rfl rfl (by kernel_rfl) (Pur.nilc rfl) ?_
  refine RegD.gtpur (i := 12) rfl rfl rfl rfl rfl rfl (by kernel_rfl) (Pur.fld _ fo65_0 rfl) ?_
  refine RegD.gtake (i := 13) rfl rfl rfl rfl rfl rfl (by kernel_rfl) (Bks.cons hBp.blk (Bks.cons hBq.blk Bks.nil)) (fun H hS => Lod.ld sc3 rfl hS.hd (hatp 0 (by decide))) ?_
  refine RegD.gtpur (i := 14) rfl rfl rfl rfl rfl rfl (by kernel_rfl) (Pur.neq rfl rfl) ?_
  refine RegD.tpur (i := 15) rfl rfl rfl rfl (by kernel_rfl) (Pur.pickF rfl rfl) ?_
  refine RegD.done (by kernel_rfl) ?_
  refine At.cond rfl rfl (fun q68 => ?_) (fun q68 => ?_)
  · first | (simp only [decide_eq_true_eq, decide_eq_false_iff_not, Bool.not_eq_true', Bool.not_eq_false', ne_eq, Decidable.not_not, Bool.not_eq_true, Bool.not_eq_false] at q68) | (dsimp only at q68) | skip
    refine At.drawE ((Bks.cons hBp.blk (Bks.cons hBq.blk Bks.nil))) [] mixed rfl rfl ?_
    refine RegD.tpur (i := 0) rfl rfl rfl rfl (by kernel_rfl) (Pur.mv rfl) ?_
    refine RegD.tpur (i := 1) rfl rfl rfl rfl (by kernel_rfl) (Pur.nilc rfl) ?_
    refine RegD.tpur (i := 2) rfl rfl rfl rfl (by kernel_rfl) (Pur.fld _ fo65_0 rfl) ?_
    refine RegD.take (i := 3) rfl rfl rfl rfl (by kernel_rfl) (Bks.cons hBp.blk (Bks.cons hBq.blk Bks.nil)) (fun H hS => Lod.ld sc3 rfl hS.hd (hatp 0 (by decide))) ?_
    refine RegD.tpur (i := 4) rfl rfl rfl rfl (by kernel_rfl) (Pur.mv rfl) ?_
    refine RegD.tpur (i := 5) rfl rfl rfl rfl (by kernel_rfl) (Pur.nilc rfl) ?_
    refine RegD.tpur (i := 6) rfl rfl rfl rfl (by kernel_rfl) (Pur.fld _ fo65_0 rfl) ?_
    refine RegD.take (i := 7) rfl rfl rfl rfl (by kernel_rfl) (Bks.cons hBp.blk (Bks.cons hBq.blk Bks.nil)) (fun H hS => Lod.ld sc3 rfl hS.tl.hd (hatq 0 (by decide))) ?_
    refine RegD.tpur (i := 8) rfl rfl rfl rfl (by kernel_rfl) (Pur.eql rfl rfl) ?_
    refine RegD.tpur (i := 9) rfl rfl rfl rfl (by kernel_rfl) (Pur.asg rfl) ?_
    refine RegD.done (by kernel_rfl) ?_
    refine At.ret rfl Tryd.func59 rfl ?_
    rw [inst_leaf (M := M) q23 (by first | exact .inl q62 | exact .inr q68)]
    refine ⟨?_, f1, f2, fun M' h => ?_, hM1, hM2, hC⟩
    · by_cases h : p.lst.getD 0 0 = q.lst.getD 0 0
      · rw [if_pos h, decide_eq_true h]; rfl
      · rw [if_neg h, decide_eq_false h]; rfl
    · by_cases hk : p.lst.getD 0 0 = q.lst.getD 0 0
      · rw [if_pos hk] at h; cases h; exact ⟨hTy.chg hM10 hM20 hC, hRw⟩
      · rw [if_neg hk] at h; cases h
  first | (simp only [decide_eq_true_eq, decide_eq_false_iff_not, Bool.not_eq_true', Bool.not_eq_false', ne_eq, Decidable.not_not, Bool.not_eq_true, Bool.not_eq_false] at q68) | (dsimp only at q68) | skip
  obtain ⟨x1, r1, x2, rfl⟩ := lst_fn q68
  obtain ⟨y1, r2, y2, rfl⟩ := lst_fn (q62.symm.trans q68)
  have hrp := nod_row hdp hpo.2.1
  have hrq := nod_row hdq hqo.2.1
  have hS1c := sl_but hS1 hM10 hM20 hC
  have hS2c := sl_but hS2 hM10 hM20 hC
  simp only [Tm.sz] at hn hpz hqz
  have z_hS2c := hS2c.lt
  refine At.region rfl rfl ?_
  refine Reg.pur rfl rfl rfl rfl (Pur.mv rfl) ?_
  refine Reg.op rfl rfl rfl rfl (Does.call rfl (sides_ok hpo (by simp only [Tm.sz]; omega) hcy hS1c hY)) ?_
  rintro v8_1 H8_1 ⟨⟨v1, v2, rfl, hT1, hT2⟩, hE8_1⟩
  have z8_1 := hE8_1.lt
  replace hC := hC.ext hE8_1
  replace om := om.ext hE8_1
  replace hM1 := hM1.ext hE8_1
  replace hM2 := hM2.ext hE8_1
  replace hBp := hBp.ext hE8_1
  replace hBq := hBq.ext hE8_1
  replace hY := hY.ext hE8_1
  replace hZ := hZ.ext hE8_1
  replace hS2c := hS2c.ext hE8_1
  obtain ⟨B1, k1, rfl, hQ1, hb1⟩ := hT1
  obtain ⟨B2, k2, rfl, hQ2, hb2⟩ := hT2
  have z_hQ1 := hQ1.lt
  have z_hQ2 := hQ2.lt
  refine Reg.pur rfl rfl rfl rfl (Pur.mv rfl) ?_
  refine Reg.pur rfl rfl rfl rfl (Pur.ext rfl rfl) ?_
  refine Reg.pur rfl rfl rfl rfl (Pur.ext rfl rfl) ?_
  refine Reg.op rfl rfl rfl rfl (Does.alloc zc55) ?_
  rintro _ H8_5 ⟨rfl, hn8_5⟩
  have z8_5 := hn8_5.size
  replace hC := hC.ext hn8_5.ext
  replace om := om.ext hn8_5.ext
  replace hM1 := hM1.ext hn8_5.ext
  replace hM2 := hM2.ext hn8_5.ext
  replace hBp := hBp.ext hn8_5.ext
  replace hBq := hBq.ext hn8_5.ext
  replace hY := hY.ext hn8_5.ext
  replace hZ := hZ.ext hn8_5.ext
  replace hS2c := hS2c.ext hn8_5.ext
  replace hQ1 := hQ1.ext hn8_5.ext
  replace hQ2 := hQ2.ext hn8_5.ext
  have o8_5 := hn8_5.own
  refine Reg.op rfl rfl rfl rfl (Does.alloc zc55) ?_
  rintro _ H8_6 ⟨rfl, hn8_6⟩
  have z8_6 := hn8_6.size
  replace hC := hC.ext hn8_6.ext
  replace om := om.ext hn8_6.ext
  replace hM1 := hM1.ext hn8_6.ext
  replace hM2 := hM2.ext hn8_6.ext
  replace hBp := hBp.ext hn8_6.ext
  replace hBq := hBq.ext hn8_6.ext
  replace hY := hY.ext hn8_6.ext
  replace hZ := hZ.ext hn8_6.ext
  replace hS2c := hS2c.ext hn8_6.ext
  replace hQ1 := hQ1.ext hn8_6.ext
  replace hQ2 := hQ2.ext hn8_6.ext
  replace o8_5 := o8_5.ext hn8_6.ext
  have o8_6 := hn8_6.own
  refine Reg.op0 rfl rfl rfl (Does.stn ag55 rfl rfl (by first | rfl | exact ones_Is _) (by first | rfl | (simp [*]; done)) o8_5 (by first | decide | (simp; done) | (simp; omega) | omega)) ?_
  rintro _ H8_7 hu8_7
  have z8_7 := hu8_7.size
  replace hC := hC.upw hu8_7 (by omega)
  replace om := om.upw hu8_7 (by omega)
  replace hM1 := hM1.upw hu8_7 (by omega)
  replace hM2 := hM2.upw hu8_7 (by omega)
  replace hBp := hBp.upw hu8_7 (by omega)
  replace hBq := hBq.upw hu8_7 (by omega)
  replace hY := hY.upw hu8_7 (by omega)
  replace hZ := hZ.upw hu8_7 (by omega)
  replace hS2c := hS2c.upw hu8_7 (by omega)
  replace hQ1 := hQ1.upw hu8_7 (by omega)
  replace hQ2 := hQ2.upw hu8_7 (by omega)
  replace o8_6 := o8_6.upw hu8_7 (by omega)
  replace o8_5 := hu8_7.own
  first | rw [over (by first | rfl | (simp; done))] at o8_5 | skip
  refine Reg.op0 rfl rfl rfl (Does.stn ag55 rfl rfl (by first | rfl | exact ones_Is _) (by first | rfl | (simp [*]; done)) o8_6 (by first | decide | (simp; done) | (simp; omega) | omega)) ?_
  rintro _ H8_8 hu8_8
  have z8_8 := hu8_8.size
  replace hC := hC.upw hu8_8 (by omega)
  replace om := om.upw hu8_8 (by omega)
  replace hM1 := hM1.upw hu8_8 (by omega)
  replace hM2 := hM2.upw hu8_8 (by omega)
  replace hBp := hBp.upw hu8_8 (by omega)
  replace hBq := hBq.upw hu8_8 (by omega)
  replace hY := hY.upw hu8_8 (by omega)
  replace hZ := hZ.upw hu8_8 (by omega)
  replace hS2c := hS2c.upw hu8_8 (by omega)
  replace hQ1 := hQ1.upw hu8_8 (by omega)
  replace hQ2 := hQ2.upw hu8_8 (by omega)
  replace o8_5 := o8_5.upw hu8_8 (by omega)
  replace o8_6 := hu8_8.own
  first | rw [over (by first | rfl | (simp; done))] at o8_6 | skip
  refine Reg.nil ?_
  refine At.region rfl rfl ?_
  refine Reg.pur rfl rfl rfl rfl (Pur.mv rfl) ?_
  refine Reg.op rfl rfl rfl rfl (Does.call rfl (sides_ok hqo (by simp only [Tm.sz]; omega) hcz hS2c hZ)) ?_
  rintro v9_1 H9_1 ⟨⟨v1, v2, rfl, hT1, hT2⟩, hE9_1⟩
  have z9_1 := hE9_1.lt
  replace hC := hC.ext hE9_1
  replace om := om.ext hE9_1
  replace hM1 := hM1.ext hE9_1
  replace hM2 := hM2.ext hE9_1
  replace hBp := hBp.ext hE9_1
  replace hBq := hBq.ext hE9_1
  replace hY := hY.ext hE9_1
  replace hZ := hZ.ext hE9_1
  replace hS2c := hS2c.ext hE9_1
  replace hQ1 := hQ1.ext hE9_1
  replace hQ2 := hQ2.ext hE9_1
  replace o8_5 := o8_5.ext hE9_1
  replace o8_6 := o8_6.ext hE9_1
  obtain ⟨B3, k3, rfl, hQ3, hb3⟩ := hT1
  obtain ⟨B4, k4, rfl, hQ4, hb4⟩ := hT2
  have z_hQ3 := hQ3.lt
  have z_hQ4 := hQ4.lt
  refine Reg.pur rfl rfl rfl rfl (Pur.mv rfl) ?_
  refine Reg.pur rfl rfl rfl rfl (Pur.ext rfl rfl) ?_
  refine Reg.pur rfl rfl rfl rfl (Pur.ext rfl rfl) ?_
  refine Reg.op rfl rfl rfl rfl (Does.alloc zc55) ?_
  rintro _ H9_5 ⟨rfl, hn9_5⟩
  have z9_5 := hn9_5.size
  replace hC := hC.ext hn9_5.ext
  replace om := om.ext hn9_5.ext
  replace hM1 := hM1.ext hn9_5.ext
  replace hM2 := hM2.ext hn9_5.ext
  replace hBp := hBp.ext hn9_5.ext
  replace hBq := hBq.ext hn9_5.ext
  replace hY := hY.ext hn9_5.ext
  replace hZ := hZ.ext hn9_5.ext
  replace hS2c := hS2c.ext hn9_5.ext
  replace hQ1 := hQ1.ext hn9_5.ext
  replace hQ2 := hQ2.ext hn9_5.ext
  replace o8_5 := o8_5.ext hn9_5.ext
  replace o8_6 := o8_6.ext hn9_5.ext
  replace hQ3 := hQ3.ext hn9_5.ext
  replace hQ4 := hQ4.ext hn9_5.ext
  have o9_5 := hn9_5.own
  refine Reg.op rfl rfl rfl rfl (Does.alloc zc55) ?_
  rintro _ H9_6 ⟨rfl, hn9_6⟩
  have z9_6 := hn9_6.size
  replace hC := hC.ext hn9_6.ext
  replace om := om.ext hn9_6.ext
  replace hM1 := hM1.ext hn9_6.ext
  replace hM2 := hM2.ext hn9_6.ext
  replace hBp := hBp.ext hn9_6.ext
  replace hBq := hBq.ext hn9_6.ext
  replace hY := hY.ext hn9_6.ext
  replace hZ := hZ.ext hn9_6.ext
  replace hS2c := hS2c.ext hn9_6.ext
  replace hQ1 := hQ1.ext hn9_6.ext
  replace hQ2 := hQ2.ext hn9_6.ext
  replace o8_5 := o8_5.ext hn9_6.ext
  replace o8_6 := o8_6.ext hn9_6.ext
  replace hQ3 := hQ3.ext hn9_6.ext
  replace hQ4 := hQ4.ext hn9_6.ext
  replace o9_5 := o9_5.ext hn9_6.ext
  have o9_6 := hn9_6.own
  refine Reg.op0 rfl rfl rfl (Does.stn ag55 rfl rfl (by first | rfl | exact ones_Is _) (by first | rfl | (simp [*]; done)) o9_5 (by first | decide | (simp; done) | (simp; omega) | omega)) ?_
  rintro _ H9_7 hu9_7
  have z9_7 := hu9_7.size
  replace hC := hC.upw hu9_7 (by omega)
  replace om := om.upw hu9_7 (by omega)
  replace hM1 := hM1.upw hu9_7 (by omega)
  replace hM2 := hM2.upw hu9_7 (by omega)
  replace hBp := hBp.upw hu9_7 (by omega)
  replace hBq := hBq.upw hu9_7 (by omega)
  replace hY := hY.upw hu9_7 (by omega)
  replace hZ := hZ.upw hu9_7 (by omega)
  replace hS2c := hS2c.upw hu9_7 (by omega)
  replace hQ1 := hQ1.upw hu9_7 (by omega)
  replace hQ2 := hQ2.upw hu9_7 (by omega)
  replace o8_5 := o8_5.upw hu9_7 (by omega)
  replace o8_6 := o8_6.upw hu9_7 (by omega)
  replace hQ3 := hQ3.upw hu9_7 (by omega)
  replace hQ4 := hQ4.upw hu9_7 (by omega)
  replace o9_6 := o9_6.upw hu9_7 (by omega)
  replace o9_5 := hu9_7.own
  first | rw [over (by first | rfl | (simp; done))] at o9_5 | skip
  refine Reg.op0 rfl rfl rfl (Does.stn ag55 rfl rfl (by first | rfl | exact ones_Is _) (by first | rfl | (simp [*]; done)) o9_6 (by first | decide | (simp; done) | (simp; omega) | omega)) ?_
  rintro _ H9_8 hu9_8
  have z9_8 := hu9_8.size
  replace hC := hC.upw hu9_8 (by omega)
  replace om := om.upw hu9_8 (by omega)
  replace hM1 := hM1.upw hu9_8 (by omega)
  replace hM2 := hM2.upw hu9_8 (by omega)
  replace hBp := hBp.upw hu9_8 (by omega)
  replace hBq := hBq.upw hu9_8 (by omega)
  replace hY := hY.upw hu9_8 (by omega)
  replace hZ := hZ.upw hu9_8 (by omega)
  replace hS2c := hS2c.upw hu9_8 (by omega)
  replace hQ1 := hQ1.upw hu9_8 (by omega)
  replace hQ2 := hQ2.upw hu9_8 (by omega)
  replace o8_5 := o8_5.upw hu9_8 (by omega)
  replace o8_6 := o8_6.upw hu9_8 (by omega)
  replace hQ3 := hQ3.upw hu9_8 (by omega)
  replace hQ4 := hQ4.upw hu9_8 (by omega)
  replace o9_5 := o9_5.upw hu9_8 (by omega)
  replace o9_6 := hu9_8.own
  first | rw [over (by first | rfl | (simp; done))] at o9_6 | skip
  refine Reg.nil ?_
  refine At.drawE (Bks.nil) [] mixed rfl rfl ?_
  refine RegD.tpur (i := 0) rfl rfl rfl rfl (by kernel_rfl) (Pur.mv rfl) ?_
  have hMa := hM1
  have hMb := hM2
  refine RegD.one (i := 1) (by kernel_rfl) rfl rfl rfl rfl (Does.call rfl (ihn x1 y1 (by omega) hpo.1 (by omega) hqo.1 (by omega) om hM1 hM2 (hTy.chg hM10 hM20 hC) hRw o8_5.blk (at0 _) hQ1 o9_5.blk (at0 _) hQ3)) ?_
  rintro v10_1 H10_1 hP1
  obtain ⟨rfl, g1, g2, hPM, hM1, hM2, hC1⟩ := hP1
  replace hC := hC.trans hC1
  replace om := om.via hC1 (not_or.2 ⟨n5, n6⟩)
  replace hBp := hBp.via hC1 (not_or.2 ⟨n1, n2⟩)
  replace hBq := hBq.via hC1 (not_or.2 ⟨n3, n4⟩)
  replace hQ2 := sl_but hQ2 hMa hMb hC1
  replace hQ4 := sl_but hQ4 hMa hMb hC1
  replace o8_6 := o8_6.via hC1 (by clear n1 n2 n3 n4 n5 n6 n7 n8 n9 n10 h12; omega)
  replace o9_6 := o9_6.via hC1 (by clear n1 n2 n3 n4 n5 n6 n7 n8 n9 n10 h12; omega)
  refine ⟨fun _ _ => Bks.nil, ?_⟩
  refine RegD.tpur (i := 2) rfl rfl rfl rfl (by kernel_rfl) (Pur.mv rfl) ?_
  refine RegD.case 90 rfl (fun q90 => ?_) (fun q90 => ?_)
  · first | (simp only [decide_eq_true_eq, decide_eq_false_iff_not, Bool.not_eq_true', Bool.not_eq_false', ne_eq, Decidable.not_not, Bool.not_eq_true, Bool.not_eq_false] at q90) | (dsimp only at q90) | skip
    refine RegD.gtpur (i := 3) rfl rfl rfl rfl rfl rfl (by kernel_rfl) (Pur.mv rfl) ?_
    refine RegD.gtpur (i := 4) rfl rfl rfl rfl rfl rfl (by kernel_rfl) (Pur.mv rfl) ?_
    refine RegD.gtpur (i := 5) rfl rfl rfl rfl rfl rfl (by kernel_rfl) (Pur.nilc rfl) ?_
    refine RegD.gtpur (i := 6) rfl rfl rfl rfl rfl rfl (by kernel_rfl) (Pur.fld _ fo65_4 rfl) ?_
    refine RegD.gtpur (i := 7) rfl rfl rfl rfl rfl rfl (by kernel_rfl) (Pur.mv rfl) ?_
    refine RegD.gtpur (i := 8) rfl rfl rfl rfl rfl rfl (by kernel_rfl) (Pur.nilc rfl) ?_
    refine RegD.gtpur (i := 9) rfl rfl rfl rfl rfl rfl (by kernel_rfl) (Pur.fld _ fo65_4 rfl) ?_
    obtain ⟨M1, hi1⟩ := Option.isSome_iff_exists.1 q90
    obtain ⟨hT1, hR1⟩ := hPM M1 hi1
    have hMc := hM1
    have hMd := hM2
    refine RegD.gone (i := 10) (by kernel_rfl) rfl rfl rfl rfl rfl rfl (Does.call rfl (mrowG_ok hpo.2.1 hpo.2.2.1 hqo.2.1 hqo.2.2.1 om hM1 hM2 h12 hR1 hBp hrp hBq hrq)) ?_
    rintro _ H10_10 ⟨rfl, g3, hPR, hM1, hM2, hC2⟩
    replace hC := hC.trans hC2
    replace om := om.via hC2 (not_or.2 ⟨n5, n6⟩)
    replace hQ2 := sl_but hQ2 hMc hMd hC2
    replace hQ4 := sl_but hQ4 hMc hMd hC2
    replace o8_6 := o8_6.via hC2 (by clear n1 n2 n3 n4 n5 n6 n7 n8 n9 n10 h12; omega)
    replace o9_6 := o9_6.via hC2 (by clear n1 n2 n3 n4 n5 n6 n7 n8 n9 n10 h12; omega)
    refine ⟨fun _ _ => Bks.nil, ?_⟩
    refine RegD.tpur (i := 11) rfl rfl rfl rfl (by kernel_rfl) (Pur.pickT rfl rfl) ?_
    refine RegD.tpur (i := 12) rfl rfl rfl rfl (by kernel_rfl) (Pur.mv rfl) ?_
    refine RegD.case 100 rfl (fun q100 => ?_) (fun q100 => ?_)
    · first | (simp only [decide_eq_true_eq, decide_eq_false_iff_not, Bool.not_eq_true', Bool.not_eq_false', ne_eq, Decidable.not_not, Bool.not_eq_true, Bool.not_eq_false] at q100) | (dsimp only at q100) | skip
      refine RegD.gtpur (i := 13) rfl rfl rfl rfl rfl rfl (by kernel_rfl) (Pur.mv rfl) ?_
      obtain ⟨M2, hi2⟩ := Option.isSome_iff_exists.1 q100
      refine RegD.gone (i := 14) (by kernel_rfl) rfl rfl rfl rfl rfl rfl (Does.call rfl (ihn x2 y2 (by omega) hpo.2.2.2 (by omega) hqo.2.2.2 (by omega) om hM1 hM2 (ty_r (hT1.chg hMc hMd hC2) hi2) (hPR M2 hi2) o8_6.blk (at0 _) hQ2 o9_6.blk (at0 _) hQ4)) ?_
      rintro v10_14 H10_14 hP3
      obtain ⟨rfl, g4, g5, hPZ, hM1, hM2, hC3⟩ := hP3
      refine ⟨fun _ _ => Bks.nil, ?_⟩
      refine RegD.tpur (i := 15) rfl rfl rfl rfl (by kernel_rfl) (Pur.pickT rfl rfl) ?_
      refine RegD.tpur (i := 16) rfl rfl rfl rfl (by kernel_rfl) (Pur.asg rfl) ?_
      refine RegD.done (by kernel_rfl) ?_
      refine At.ret rfl Tryd.func59 rfl ?_
      first
      | (have e : inst M (.fn x1 r1 x2) (.fn y1 r2 y2) = inst M2 x2 y2 := by simp only [inst, hi1, hi2]
         rw [e]
         exact ⟨rfl, g4, g5, hPZ, hM1, hM2, hC.trans hC3⟩)
      | (have e : inst M (.fn x1 r1 x2) (.fn y1 r2 y2) = none := by simp only [inst, hi1, Option.isSome_eq_false_iff.1 q100]; first | rfl | (rw [Option.isNone_iff_eq_none.1 (Option.isSome_eq_false_iff.1 q100)])
         rw [e]
         exact ⟨rfl, g1, g3, (fun M' h => by cases h), hM1, hM2, hC⟩)
      | (have e0 : inst M x1 y1 = none := Option.isNone_iff_eq_none.1 (Option.isSome_eq_false_iff.1 q90)
         have e : inst M (.fn x1 r1 x2) (.fn y1 r2 y2) = none := by simp only [inst, e0]
         rw [e]
         exact ⟨rfl, g1, g2, (fun M' h => by cases h), hM1, hM2, hC⟩)
    first | (simp only [decide_eq_true_eq, decide_eq_false_iff_not, Bool.not_eq_true', Bool.not_eq_false', ne_eq, Decidable.not_not, Bool.not_eq_true, Bool.not_eq_false] at q100) | (dsimp only at q100) | skip
    refine RegD.skip (i := 13) rfl rfl rfl rfl rfl rfl rfl (by kernel_rfl) ?_
    refine RegD.skip (i := 14) rfl rfl rfl rfl rfl rfl rfl (by kernel_rfl) ?_
    refine RegD.tpur (i := 15) rfl rfl rfl rfl (by kernel_rfl) (Pur.pickF rfl rfl) ?_
    refine RegD.tpur (i := 16) rfl rfl rfl rfl (by kernel_rfl) (Pur.asg rfl) ?_
    refine RegD.done (by kernel_rfl) ?_
    refine At.ret rfl Tryd.func59 rfl ?_
    first
    | (have e : inst M (.fn x1 r1 x2) (.fn y1 r2 y2) = inst M2 x2 y2 := by simp only [inst, hi1, hi2]
       rw [e]
       exact ⟨rfl, g4, g5, hPZ, hM1, hM2, hC.trans hC3⟩)
    | (have e : inst M (.fn x1 r1 x2) (.fn y1 r2 y2) = none := by simp only [inst, hi1, Option.isSome_eq_false_iff.1 q100]; first | rfl | (rw [Option.isNone_iff_eq_none.1 (Option.isSome_eq_false_iff.1 q100)])
       rw [e]
       exact ⟨rfl, g1, g3, (fun M' h => by cases h), hM1, hM2, hC⟩)
    | (have e0 : inst M x1 y1 = none := Option.isNone_iff_eq_none.1 (Option.isSome_eq_false_iff.1 q90)
       have e : inst M (.fn x1 r1 x2) (.fn y1 r2 y2) = none := by simp only [inst, e0]
       rw [e]
       exact ⟨rfl, g1, g2, (fun M' h => by cases h), hM1, hM2, hC⟩)
  first | (simp only [decide_eq_true_eq, decide_eq_false_iff_not, Bool.not_eq_true', Bool.not_eq_false', ne_eq, Decidable.not_not, Bool.not_eq_true, Bool.not_eq_false] at q90) | (dsimp only at q90) | skip
  refine RegD.skip (i := 3) rfl rfl rfl rfl rfl rfl rfl (by kernel_rfl) ?_
  refine RegD.skip (i := 4) rfl rfl rfl rfl rfl rfl rfl (by kernel_rfl) ?_
  refine RegD.skip (i := 5) rfl rfl rfl rfl rfl rfl rfl (by kernel_rfl) ?_
  refine RegD.skip (i := 6) rfl rfl rfl rfl rfl rfl rfl (by kernel_rfl) ?_
  refine RegD.skip (i := 7) rfl rfl rfl rfl rfl rfl rfl (by kernel_rfl) ?_
  refine RegD.skip (i := 8) rfl rfl rfl rfl rfl rfl rfl (by kernel_rfl) ?_
  refine RegD.skip (i := 9) rfl rfl rfl rfl rfl rfl rfl (by kernel_rfl) ?_
  refine RegD.skip (i := 10) rfl rfl rfl rfl rfl rfl rfl (by kernel_rfl) ?_
  refine RegD.tpur (i := 11) rfl rfl rfl rfl (by kernel_rfl) (Pur.pickF rfl rfl) ?_
  refine RegD.tpur (i := 12) rfl rfl rfl rfl (by kernel_rfl) (Pur.mv rfl) ?_
  refine RegD.skip (i := 13) rfl rfl rfl rfl rfl rfl rfl (by kernel_rfl) ?_
  refine RegD.skip (i := 14) rfl rfl rfl rfl rfl rfl rfl (by kernel_rfl) ?_
  refine RegD.tpur (i := 15) rfl rfl rfl rfl (by kernel_rfl) (Pur.pickF rfl rfl) ?_
  refine RegD.tpur (i := 16) rfl rfl rfl rfl (by kernel_rfl) (Pur.asg rfl) ?_
  refine RegD.done (by kernel_rfl) ?_
  refine At.ret rfl Tryd.func59 rfl ?_
  first
  | (have e : inst M (.fn x1 r1 x2) (.fn y1 r2 y2) = inst M2 x2 y2 := by simp only [inst, hi1, hi2]
     rw [e]
     exact ⟨rfl, g4, g5, hPZ, hM1, hM2, hC.trans hC3⟩)
  | (have e : inst M (.fn x1 r1 x2) (.fn y1 r2 y2) = none := by simp only [inst, hi1, Option.isSome_eq_false_iff.1 q100]; first | rfl | (rw [Option.isNone_iff_eq_none.1 (Option.isSome_eq_false_iff.1 q100)])
     rw [e]
     exact ⟨rfl, g1, g3, (fun M' h => by cases h), hM1, hM2, hC⟩)
  | (have e0 : inst M x1 y1 = none := Option.isNone_iff_eq_none.1 (Option.isSome_eq_false_iff.1 q90)
     have e : inst M (.fn x1 r1 x2) (.fn y1 r2 y2) = none := by simp only [inst, e0]
     rw [e]
     exact ⟨rfl, g1, g2, (fun M' h => by cases h), hM1, hM2, hC⟩)
end Go.Proofs.YtlfillhffpiffaaDoor

namespace Go.Proofs.YtlfillhffpiffaaDoor
set_option linter.unusedSimpArgs false
set_option linter.unusedVariables false
set_option maxRecDepth 8000
set_option maxHeartbeats 600000
open Go Go.Fx Go.Proofs
namespace FactsUniNE
theorem ag55 : ag Tryd.prog 55 = some 1 := by kernel_rfl
theorem pl100 : places Tryd.prog 100 = some [(0, 1), (1, 1)] := by kernel_rfl
theorem zc100 : zc Tryd.prog 100 = some [.map none, .map none] := by kernel_rfl
end FactsUniNE
open FactsUniNE

theorem tyM_nil (H : Heap) : TyM H (fun _ => none) [] := fun v => ⟨fun _ => rfl, fun t h => by cases h⟩
theorem rwM_nil : RwM (fun _ => none) [] := ⟨fun v => rfl, fun v d h => by cases h⟩
end Go.Proofs.YtlfillhffpiffaaDoor

namespace Go.Proofs.YtlfillhffpiffaaDoor
set_option linter.unusedSimpArgs false
set_option linter.unusedVariables false
set_option maxRecDepth 8000
set_option maxHeartbeats 4000000
open Go Go.Fx Go.Proofs
namespace FactsUniMB
theorem ag24 : ag Tryd.prog 24 = some 5 := by kernel_rfl
theorem ag55 : ag Tryd.prog 55 = some 1 := by kernel_rfl
theorem ag65 : ag Tryd.prog 65 = some 9 := by kernel_rfl
theorem es25 : esz Tryd.prog 25 = some 8 := by kernel_rfl
theorem es53 : esz Tryd.prog 53 = some 9 := by kernel_rfl
theorem fo55_0 : foff Tryd.prog 55 0 = some 0 := by kernel_rfl
theorem fo57_0 : foff Tryd.prog 57 0 = some 0 := by kernel_rfl
theorem fo57_1 : foff Tryd.prog 57 1 = some 1 := by kernel_rfl
theorem fo57_2 : foff Tryd.prog 57 2 = some 2 := by kernel_rfl
theorem fo65_0 : foff Tryd.prog 65 0 = some 0 := by kernel_rfl
theorem fo65_1 : foff Tryd.prog 65 1 = some 1 := by kernel_rfl
theorem fo65_2 : foff Tryd.prog 65 2 = some 2 := by kernel_rfl
theorem fo65_3 : foff Tryd.prog 65 3 = some 3 := by kernel_rfl
theorem fo65_4 : foff Tryd.prog 65 4 = some 4 := by kernel_rfl
theorem isl25 : isSl Tryd.prog 25 = true := by kernel_rfl
theorem mixed : Tryd.prog.follows .mixedOrders = true := by kernel_rfl
theorem sc3 : sc Tryd.prog 3 = true := by kernel_rfl
theorem sc4 : sc Tryd.prog 4 = true := by kernel_rfl
theorem sc53 : sc Tryd.prog 53 = true := by kernel_rfl
theorem zc55 : zc Tryd.prog 55 = some [.slice none 0 0] := by kernel_rfl
theorem zc65 : zc Tryd.prog 65 = some [.int .i64 0, .int .i64 0, .int .i64 0, .int .i64 0, .int .i64 0, .int .i64 0, .int .i64 0, .int .i64 0, .int .i64 0] := by kernel_rfl
end FactsUniMB
open FactsUniMB

end Go.Proofs.YtlfillhffpiffaaDoor

namespace Go.Proofs.YtlfillhffpiffaaDoor
set_option linter.unusedSimpArgs false
set_option linter.unusedVariables false
set_option maxRecDepth 8000
set_option maxHeartbeats 1000000
open Go Go.Fx Go.Proofs
namespace FactsUniAA
theorem ag55 : ag Tryd.prog 55 = some 1 := by kernel_rfl
theorem es25 : esz Tryd.prog 25 = some 8 := by kernel_rfl
theorem fo57_0 : foff Tryd.prog 57 0 = some 0 := by kernel_rfl
theorem fo57_2 : foff Tryd.prog 57 2 = some 2 := by kernel_rfl
theorem isl25 : isSl Tryd.prog 25 = true := by kernel_rfl
theorem sc3 : sc Tryd.prog 3 = true := by kernel_rfl
end FactsUniAA
open FactsUniAA

end Go.Proofs.YtlfillhffpiffaaDoor

namespace Go.Proofs.YtlfillhffpiffaaDoor
set_option linter.unusedSimpArgs false
set_option linter.unusedVariables false
set_option maxRecDepth 8000
set_option maxHeartbeats 1000000
open Go Go.Fx Go.Proofs
namespace FactsUniAE

end FactsUniAE
open FactsUniAE

theorem subT_tys {Bs : List Bd} {Ts : List Bt} {t : Tm} {X : List (List Int)} (h : Bs.map pl = Ts.map Bt.pl) (hok : ∀ b ∈ Ts, b.ok) (hX : subT Bs (t.enc 0) = some X) : ∃ p, tys Ts t = some p ∧ X = p.enc 0 := by
  unfold subT at hX
  split at hX
  · rw [typS_tys h hok t] at hX
    cases hp : tys Ts t with
    | none => rw [hp] at hX; cases hX
    | some p => rw [hp] at hX; exact ⟨p, rfl, (Option.some.inj hX).symm⟩
  · cases hX
end Go.Proofs.YtlfillhffpiffaaDoor

namespace Go.Proofs.YtlfillhffpiffaaDoor
set_option linter.unusedSimpArgs false
set_option linter.unusedVariables false
set_option maxRecDepth 8000
set_option maxHeartbeats 1000000
open Go Go.Fx Go.Proofs
namespace FactsUniMC
theorem ag55 : ag Tryd.prog 55 = some 1 := by kernel_rfl
theorem fo55_0 : foff Tryd.prog 55 0 = some 0 := by kernel_rfl
theorem isl53 : isSl Tryd.prog 53 = true := by kernel_rfl
theorem sc4 : sc Tryd.prog 4 = true := by kernel_rfl
theorem sc53 : sc Tryd.prog 53 = true := by kernel_rfl
end FactsUniMC
open FactsUniMC

theorem binds_tree : ∀ {Bs : List Bd}, (∀ b ∈ Bs, Nine b.nodes ∧ b.row.length = 5) → Bs.all bindM = true → ∃ Ts : List Bt, Bs.map pl = Ts.map Bt.pl ∧ ∀ b ∈ Ts, b.ok
  | [], _, _ => ⟨[], rfl, fun b hb => by cases hb⟩
  | b :: Bs, h, hb => by
    rw [List.all_cons, Bool.and_eq_true] at hb
    obtain ⟨Ts, h1, h2⟩ := binds_tree (fun x hx => h x (List.mem_cons_of_mem _ hx)) hb.2
    obtain ⟨h9, h5⟩ := h b List.mem_cons_self
    have hm := hb.1
    unfold bindM at hm
    rw [Bool.and_eq_true] at hm
    cases hr : b.isRow with
    | true =>
      rw [hr] at hm
      simp only [if_true, Bool.and_eq_true, decide_eq_true_eq] at hm
      refine ⟨.r b.var b.row :: Ts, ?_, fun x hx => ?_⟩
      · rw [List.map_cons, List.map_cons, h1]
        congr 1
        unfold pl Bt.pl
        rw [hr, List.eq_nil_of_length_eq_zero hm.2.1]
      · rcases List.mem_cons.1 hx with rfl | hx
        · exact ⟨h5, hm.2.2⟩
        · exact h2 x hx
    | false =>
      rw [hr] at hm
      simp only [Bool.false_eq_true, if_false, Bool.and_eq_true, decide_eq_true_eq] at hm
      obtain ⟨t, ht, hn, hz⟩ := typ_dec h9 hm.2.2
      refine ⟨.t b.var t :: Ts, ?_, fun x hx => ?_⟩
      · rw [List.map_cons, List.map_cons, h1]
        congr 1
        unfold pl Bt.pl
        rw [hr, hm.2.1, hn]
      · rcases List.mem_cons.1 hx with rfl | hx
        · exact ⟨ht, hz⟩
        · exact h2 x hx
theorem subT_some {Bs : List Bd} {L X : List (List Int)} (h : subT Bs L = some X) : bindsM Bs = true ∧ typM L = true := by
  unfold subT at h
  split at h
  · assumption
  · cases h
end Go.Proofs.YtlfillhffpiffaaDoor

namespace Go.Proofs.YtlfillhffpiffaaDoor
set_option linter.unusedSimpArgs false
set_option linter.unusedVariables false
set_option maxRecDepth 8000
open Go Go.Fx Go.Proofs
namespace FactsUniSA
end FactsUniSA
open FactsUniSA

def bstr (l : List Int) : ByteArray := l.foldl (fun r n => r.push (UInt8.ofNat n.toNat)) ByteArray.empty
theorem push_size : ∀ (l : List Int) (s : ByteArray), (l.foldl (fun r n => r.push (UInt8.ofNat n.toNat)) s).size = s.size + l.length
  | [], _ => rfl
  | x :: l, s => by
    rw [List.foldl_cons, push_size l, ByteArray.size_push, List.length_cons]; omega
theorem bstr_size (l : List Int) : (bstr l).size = l.length := by
  unfold bstr; rw [push_size]; simp
section rules
variable {P : Program} {dst : Option Tmp} {ty : TypeId} {pos : String} {aft : Array Edge} {gd : Option (Nat × Bool)} {e : Env} {H : Heap}
theorem Pur.addS {t t' : TypeId} {x y : Operand} {a b : ByteArray} (hx : ev e x = some (.string a)) (hy : ev e y = some (.string b)) (h : a.size + b.size ≤ 9223372036854775807) :
    Pur P ⟨dst, .binOp .add t x y t', ty, pos, aft, gd⟩ e (.string (a ++ b)) := by
  intro A w hA
  have e1 := hA.ev hx
  have e2 := hA.ev hy
  have hn : ¬ ((a.size + b.size : Nat) : Int) > IntKind.i64.max := by rw [show IntKind.i64.max = 9223372036854775807 from rfl]; omega
  simp only [execOp, e1, e2, eqGuard_at_string, Sem.run_bind, Sem.run_pure, Result.andThen_ok]
  simp only [binOp, Op.stringOp]
  rw [if_neg hn]
  simp
end rules

def decG : Nat → Nat → List Int → List Int
  | 0, _, l => l
  | f + 1, n, l => if n = 0 ∧ l.length ≠ 0 then l else decG f (n / 10) (((48 + n % 10 : Nat) : Int) :: l)
def decI (n : Nat) : List Int := decG 8 n []
theorem decG_len : ∀ (f n : Nat) (l : List Int), (decG f n l).length ≤ f + l.length
  | 0, n, l => by simp [decG]
  | f + 1, n, l => by
    unfold decG; split
    · omega
    · have := decG_len f (n / 10) (((48 + n % 10 : Nat) : Int) :: l)
      rw [List.length_cons] at this; omega
def dec (n : Nat) : ByteArray := bstr (decI n)
theorem dec_size (n : Nat) : (dec n).size ≤ 8 := by
  unfold dec; rw [bstr_size]; exact decG_len 8 n []
theorem decG_go {f n : Nat} {l : List Int} (h : 0 < n ∨ l.length = 0) : decG (f + 1) n l = decG f (n / 10) (((48 + n % 10 : Nat) : Int) :: l) := by
  show (if _ then _ else _) = _
  rw [if_neg (by omega)]
theorem decG_end {f : Nat} {l : List Int} (h : l.length ≠ 0) : decG (f + 1) 0 l = l := by
  show (if _ then _ else _) = _
  rw [if_pos ⟨rfl, h⟩]
theorem pow_step {f n : Nat} (hf : n < 10 ^ (f + 1)) : n / 10 < 10 ^ f := by
  rw [Nat.pow_succ] at hf; omega
end Go.Proofs.YtlfillhffpiffaaDoor

namespace Go.Proofs.YtlfillhffpiffaaDoor
set_option linter.unusedSimpArgs false
set_option linter.unusedVariables false
set_option maxRecDepth 8000
open Go Go.Fx Go.Proofs
namespace FactsUniSB
theorem arr22 : arr Tryd.prog 22 = some (4, 1) := by kernel_rfl
theorem fo24_0 : foff Tryd.prog 24 0 = some 0 := by kernel_rfl
theorem fo24_1 : foff Tryd.prog 24 1 = some 4 := by kernel_rfl
theorem sc3 : sc Tryd.prog 3 = true := by kernel_rfl
end FactsUniSB
open FactsUniSB

def rone (i : Nat) (s : ByteArray) : ByteArray := (if (!(s.toList == (⟨#[]⟩ : ByteArray).toList)) = true then s ++ ⟨#[44]⟩ else s) ++ ⟨#[111]⟩ ++ dec i
def rrep (i : Nat) : Nat → ByteArray → ByteArray
  | 0, s => s
  | k + 1, s => rone i (rrep i k s)
def rall (r : List Int) : Nat → ByteArray
  | 0 => ⟨#[]⟩
  | i + 1 => rrep i (r.getD i 0).toNat (rall r i)
def rtx (R : List Int) (r : List Int) : ByteArray := ⟨#[60]⟩ ++ (if 0 ≤ r.getD 4 0 then rall r 4 ++ ⟨#[124, 101]⟩ ++ dec (ixL R (r.getD 4 0)) else rall r 4) ++ ⟨#[62]⟩
def rnm (R : List Int) (r : List Int) : List Int := if 0 ≤ r.getD 4 0 then addL R (r.getD 4 0) else R
theorem sz1 (a : UInt8) : (ByteArray.mk #[a]).size = 1 := rfl
theorem sz2 (a b : UInt8) : (ByteArray.mk #[a, b]).size = 2 := rfl
theorem rone_size (i : Nat) (s : ByteArray) : (rone i s).size ≤ s.size + 10 := by
  have := dec_size i
  unfold rone
  rw [ByteArray.size_append, ByteArray.size_append]
  split
  · rw [ByteArray.size_append, sz1, sz1]; omega
  · rw [sz1]; omega
theorem rrep_size (i : Nat) : ∀ (k : Nat) (s : ByteArray), (rrep i k s).size ≤ s.size + 10 * k
  | 0, s => by simp [rrep]
  | k + 1, s => by
    have h1 := rone_size i (rrep i k s)
    have h2 := rrep_size i k s
    unfold rrep; omega
theorem row_cnt {r : List Int} (h5 : r.length = 5) (h : rowM r = true) : ∀ i, i < 4 → 0 ≤ r.getD i 0 ∧ r.getD i 0 ≤ 32 := by
  intro i hi
  unfold rowM at h
  simp only [Bool.and_eq_true, List.all_eq_true] at h
  have := h.1 (r.getD i 0) (by rw [← take4_at h5 hi]; exact List.getElem_mem _)
  simpa [okc] using this
theorem rall_size {r : List Int} (h5 : r.length = 5) (h : rowM r = true) : ∀ i, i ≤ 4 → (rall r i).size ≤ 320 * i
  | 0, _ => Nat.le_refl 0
  | i + 1, hi => by
    have h1 := rrep_size i (r.getD i 0).toNat (rall r i)
    have h2 := rall_size h5 h i (by omega)
    have h3 := row_cnt h5 h i (by omega)
    unfold rall; omega
theorem rtx_size {R r : List Int} (h5 : r.length = 5) (h : rowM r = true) : (rtx R r).size ≤ 1300 := by
  have h1 := rall_size h5 h 4 (Nat.le_refl _)
  have h2 := dec_size (ixL R (r.getD 4 0))
  unfold rtx
  rw [ByteArray.size_append, ByteArray.size_append, sz1, sz1]
  split
  · rw [ByteArray.size_append, ByteArray.size_append, sz2]; omega
  · omega
theorem sza {a b : ByteArray} {m n : Nat} (h : a.size ≤ m) (k : b.size ≤ n) : (a ++ b).size ≤ m + n := by rw [ByteArray.size_append]; omega
theorem szs {a b : ByteArray} {m n : Nat} (h : a.size ≤ m) (k : b.size ≤ n) (hn : m + n ≤ 1000000000000) : a.size + b.size ≤ 9223372036854775807 := by omega
theorem sl1 (a : UInt8) : (ByteArray.mk #[a]).size ≤ 1 := Nat.le_refl _
theorem sl2 (a b : UInt8) : (ByteArray.mk #[a, b]).size ≤ 2 := Nat.le_refl _

end Go.Proofs.YtlfillhffpiffaaDoor

namespace Go.Proofs.YtlfillhffpiffaaDoor
set_option linter.unusedSimpArgs false
set_option linter.unusedVariables false
set_option maxRecDepth 8000
open Go Go.Fx Go.Proofs
namespace FactsUniSC
theorem ag24 : ag Tryd.prog 24 = some 5 := by kernel_rfl
theorem ag55 : ag Tryd.prog 55 = some 1 := by kernel_rfl
theorem ag65 : ag Tryd.prog 65 = some 9 := by kernel_rfl
theorem es53 : esz Tryd.prog 53 = some 9 := by kernel_rfl
theorem fo55_0 : foff Tryd.prog 55 0 = some 0 := by kernel_rfl
theorem fo65_0 : foff Tryd.prog 65 0 = some 0 := by kernel_rfl
theorem fo65_1 : foff Tryd.prog 65 1 = some 1 := by kernel_rfl
theorem fo65_2 : foff Tryd.prog 65 2 = some 2 := by kernel_rfl
theorem fo65_3 : foff Tryd.prog 65 3 = some 3 := by kernel_rfl
theorem fo65_4 : foff Tryd.prog 65 4 = some 4 := by kernel_rfl
theorem isl53 : isSl Tryd.prog 53 = true := by kernel_rfl
theorem sc3 : sc Tryd.prog 3 = true := by kernel_rfl
theorem sc53 : sc Tryd.prog 53 = true := by kernel_rfl
theorem zc65 : zc Tryd.prog 65 = some [.int .i64 0, .int .i64 0, .int .i64 0, .int .i64 0, .int .i64 0, .int .i64 0, .int .i64 0, .int .i64 0, .int .i64 0] := by kernel_rfl
end FactsUniSC
open FactsUniSC

def tx : Nms → Tm → ByteArray × Nms
  | N, .bas b => (if b then ⟨#[98, 111, 111, 108]⟩ else ⟨#[105, 110, 116]⟩, N)
  | N, .var v => (⟨#[116]⟩ ++ dec (ixL N.1 v), (addL N.1 v, N.2))
  | N, .fn a r b => (⟨#[40]⟩ ++ (tx N a).1 ++ ⟨#[32, 45]⟩ ++ rtx (tx N a).2.2 r ++ ⟨#[32]⟩ ++ (tx ((tx N a).2.1, rnm (tx N a).2.2 r) b).1 ++ ⟨#[41]⟩, (tx ((tx N a).2.1, rnm (tx N a).2.2 r) b).2)
theorem tx_size : ∀ (t : Tm) (N : Nms), t.ok → (tx N t).1.size ≤ 1400 * t.sz
  | .bas b, N, _ => by cases b <;> exact Nat.le_of_ble_eq_true rfl
  | .var v, N, _ => by
    have := dec_size (ixL N.1 v)
    simp only [tx, Tm.sz]
    rw [ByteArray.size_append, sz1]; omega
  | .fn a r b, N, h => by
    have h1 := tx_size a N h.1
    have h2 := tx_size b ((tx N a).2.1, rnm (tx N a).2.2 r) h.2.2.2
    have h3 := rtx_size (R := (tx N a).2.2) h.2.1 h.2.2.1
    simp only [tx, Tm.sz]
    rw [ByteArray.size_append, ByteArray.size_append, ByteArray.size_append, ByteArray.size_append, ByteArray.size_append, ByteArray.size_append, sz1, sz2, sz1, sz1]
    omega
theorem rnm_len (R r : List Int) : (rnm R r).length ≤ R.length + 1 := by
  have := addL_len R (r.getD 4 0)
  unfold rnm; split <;> omega
theorem tx_len : ∀ (t : Tm) (N : Nms), (tx N t).2.1.length + (tx N t).2.2.length ≤ N.1.length + N.2.length + t.sz
  | .bas b, N => by simp only [tx, Tm.sz]; omega
  | .var v, N => by
    have := addL_len N.1 v
    simp only [tx, Tm.sz]; omega
  | .fn a r b, N => by
    have h1 := tx_len a N
    have h2 := tx_len b ((tx N a).2.1, rnm (tx N a).2.2 r)
    have h3 := rnm_len (tx N a).2.2 r
    simp only [tx, Tm.sz]
    dsimp only at h2
    omega
theorem nd_at (t : Tm) (pre post : List (List Int)) (x : List Int) (hx : el (pre ++ t.enc pre.length ++ post) ((pre.length : Int) + t.sz - 1) = x) :
    (x.getD 0 0 = 0 → t = .bas false) ∧ (x.getD 0 0 = 1 → t = .bas true) ∧ (x.getD 0 0 = 2 → t = .var (x.getD 1 0)) ∧
    (x.getD 0 0 ≠ 0 → x.getD 0 0 ≠ 1 → x.getD 0 0 ≠ 2 → ∃ a r b, t = .fn a r b ∧ x = fNode ((pre.length : Int) + a.sz - 1) ((pre.length : Int) + a.sz + b.sz - 1) r) := by
  cases t with
  | bas b =>
    rw [show (pre.length : Int) + (Tm.bas b).sz - 1 = pre.length by simp only [Tm.sz]; omega] at hx
    simp only [Tm.enc, List.append_assoc, List.singleton_append] at hx
    rw [el_mid] at hx; subst hx
    cases b <;> simp
  | var v =>
    rw [show (pre.length : Int) + (Tm.var v).sz - 1 = pre.length by simp only [Tm.sz]; omega] at hx
    simp only [Tm.enc, List.append_assoc, List.singleton_append] at hx
    rw [el_mid] at hx; subst hx
    simp
  | fn a r b =>
    have hp2 : ((pre ++ a.enc pre.length ++ b.enc ((pre.length : Int) + a.sz)).length : Int) = (pre.length : Int) + a.sz + b.sz := by rw [List.length_append, List.length_append, Tm.enc_len, Tm.enc_len]; omega
    have hL1 : pre ++ (Tm.fn a r b).enc pre.length ++ post = (pre ++ a.enc pre.length ++ b.enc ((pre.length : Int) + a.sz)) ++ fNode ((pre.length : Int) + a.sz - 1) ((pre.length : Int) + a.sz + b.sz - 1) r :: post := by
      simp only [Tm.enc, List.append_assoc, List.singleton_append]
    rw [hL1, show (pre.length : Int) + (Tm.fn a r b).sz - 1 = ((pre ++ a.enc pre.length ++ b.enc ((pre.length : Int) + a.sz)).length : Int) by rw [hp2]; simp only [Tm.sz]; omega, el_mid] at hx
    subst hx
    exact ⟨fun h => by (change (3 : Int) = 0 at h); omega, fun h => by (change (3 : Int) = 1 at h); omega, fun h => by (change (3 : Int) = 2 at h); omega, fun _ _ _ => ⟨a, r, b, rfl, rfl⟩⟩
theorem spl_a (a : Tm) (r : List Int) (b : Tm) (pre post : List (List Int)) : pre ++ (Tm.fn a r b).enc pre.length ++ post = pre ++ a.enc pre.length ++ (b.enc ((pre.length : Int) + a.sz) ++ fNode ((pre.length : Int) + a.sz - 1) ((pre.length : Int) + a.sz + b.sz - 1) r :: post) := by
  simp only [Tm.enc, List.append_assoc, List.singleton_append]
theorem spl_b (a : Tm) (r : List Int) (b : Tm) (pre post : List (List Int)) : pre ++ (Tm.fn a r b).enc pre.length ++ post = (pre ++ a.enc pre.length) ++ b.enc ((pre ++ a.enc pre.length).length : Int) ++ (fNode ((pre.length : Int) + a.sz - 1) ((pre.length : Int) + a.sz + b.sz - 1) r :: post) := by
  have hp : ((pre ++ a.enc pre.length).length : Int) = (pre.length : Int) + a.sz := by rw [List.length_append, Tm.enc_len]; omega
  rw [hp]; simp only [Tm.enc, List.append_assoc, List.singleton_append]
theorem spl_l (a : Tm) (pre : List (List Int)) : (pre ++ a.enc pre.length).length = pre.length + a.sz := by rw [List.length_append, Tm.enc_len]

end Go.Proofs.YtlfillhffpiffaaDoor

namespace Go.Proofs
open Go.Shelf
def Tryd.lays156_ren : Go.Shelf.Ren := ⟨fun | 156 => 75 | 165 => 98 | 166 => 99 | 169 => 100 | 240 => 109 | 241 => 110 | 276 => 116 | 277 => 117 | n => n, fun | 31 => 123 | 9 => 9 | 3 => 3 | 4 => 4 | 0 => 0 | 20 => 20 | 72 => 146 | 76 => 150 | 70 => 144 | 37 => 94 | 75 => 149 | 127 => 161 | 164 => 168 | 5 => 5 | 80 => 152 | n => n, fun | n => n⟩
theorem Tryd.lays156 : Go.Proofs.Lays.n156 Tryd.prog Tryd.lays156_ren := {
  mixed := by kernel_rfl
  f156 := Tryd.func75.trans (congrArg some (by kernel_rfl))
  f165 := Tryd.func98.trans (congrArg some (by kernel_rfl))
  f166 := Tryd.func99.trans (congrArg some (by kernel_rfl))
  f169 := Tryd.func100.trans (congrArg some (by kernel_rfl))
  f240 := Tryd.func109.trans (congrArg some (by kernel_rfl))
  f241 := Tryd.func110.trans (congrArg some (by kernel_rfl))
  f276 := Tryd.func116.trans (congrArg some (by kernel_rfl))
  f277 := Tryd.func117.trans (congrArg some (by kernel_rfl))
  t0 := Tryd.underlying0
  a0 := Tryd.isAgg0
  z0 := Tryd.sizeOf0
  v0 := Tryd.zeroValue0
  t3 := Tryd.underlying3
  a3 := Tryd.isAgg3
  z3 := Tryd.sizeOf3
  v3 := Tryd.zeroValue3
  t4 := Tryd.underlying4
  a4 := Tryd.isAgg4
  z4 := Tryd.sizeOf4
  v4 := Tryd.zeroValue4
  t9 := Tryd.underlying9
  a9 := Tryd.isAgg9
  z9 := Tryd.sizeOf9
  v9 := Tryd.zeroValue9
  t20 := Tryd.underlying20
  a20 := Tryd.isAgg20
  z20 := Tryd.sizeOf20
  v20 := Tryd.zeroValue20
  t31 := Tryd.underlying123
  a31 := Tryd.isAgg123
  z31 := Tryd.sizeOf123
  v31 := Tryd.zeroValue123
  t37 := Tryd.underlying94
  a37 := Tryd.isAgg94
  z37 := Tryd.sizeOf94
  v37 := Tryd.zeroValue94
  t70 := Tryd.underlying144
  a70 := Tryd.isAgg144
  z70 := Tryd.sizeOf144
  v70 := Tryd.zeroValue144
  t72 := Tryd.underlying146
  a72 := Tryd.isAgg146
  z72 := Tryd.sizeOf146
  v72 := Tryd.zeroValue146
  t75 := Tryd.underlying149
  a75 := Tryd.isAgg149
  z75 := Tryd.sizeOf149
  v75 := Tryd.zeroValue149
  t76 := Tryd.underlying150
  a76 := Tryd.isAgg150
  z76 := Tryd.sizeOf150
  v76 := Tryd.zeroValue150
  t127 := Tryd.underlying161
  a127 := Tryd.isAgg161
  z127 := Tryd.sizeOf161
  v127 := Tryd.zeroValue161
  t164 := Tryd.underlying168
  a164 := Tryd.isAgg168
  z164 := Tryd.sizeOf168
  v164 := Tryd.zeroValue168 }
theorem Tryd.Builder_Extra_156 : Builder.Extra Tryd.prog Tryd.lays156_ren := {
  sizeBuilder := by kernel_rfl
  liesBuilder := by kernel_rfl
  t5 := Tryd.underlying5
  a5 := Tryd.isAgg5
  z5 := Tryd.sizeOf5
  v5 := Tryd.zeroValue5
  infoByte := by kernel_rfl
  cellsByte := by kernel_rfl
  sizeByte := by kernel_rfl
  neB5 := by decide }
open Go.RowKit in
theorem Tryd.strings_Join_none (a : Option Addr) (c : Nat) (sep : ByteArray) (w : World) :
    Calls Tryd.prog 75 #[.slice a 0 c, .string sep] w fun e w' => e = .returned (.string ⟨#[]⟩) ∧ w' = w := Any.strings_Join_none Tryd.lays156 Tryd.Builder_Extra_156 a c sep w
open Go.RowKit in
theorem Tryd.strings_Join (bk o c : Nat) (xs : List ByteArray) (sep : ByteArray) (w : World) (hcells : ∀ (j : Nat) x, xs[j]? = some x → w.cell? ⟨bk, o + j, none⟩ = some (.string x)) (hbk : bk < w.heap.size) (hN : xs.length ≤ 140737488355328) (hcap : xs.length ≤ c) (hlen : (Lib.join (xs.map (·.data.toList)) sep.data.toList).length ≤ 140737488355328) :
    Calls Tryd.prog 75 #[.slice (some ⟨bk, o, none⟩) xs.length c, .string sep] w fun e w' => e = .returned (.string ⟨(Lib.join (xs.map (·.data.toList)) sep.data.toList).toArray⟩) ∧ Below w.heap.size w w' := Any.strings_Join Tryd.lays156 Tryd.Builder_Extra_156 bk o c xs sep w hcells hbk hN hcap hlen
def Tryd.laysM171_ren : Go.Shelf.Ren := ⟨fun | 171 => 74 | 243 => 97 | 246 => 108 | 283 => 112 | 284 => 113 | 285 => 114 | 286 => 115 | 129 => 119 | 317 => 118 | 318 => 120 | 319 => 121 | 320 => 122 | 337 => 123 | 338 => 124 | n => n, fun | 3 => 3 | 9 => 9 | 2 => 2 | 4 => 4 | 171 => 163 | 0 => 0 | 53 => 93 | 37 => 94 | 5 => 5 | 173 => 166 | 212 => 172 | 51 => 173 | 20 => 20 | 213 => 174 | 46 => 47 | 232 => 178 | 233 => 179 | n => n, fun | 17 => 0 | 18 => 2 | 19 => 3 | n => n⟩
theorem Tryd.laysM171 : Go.Proofs.LaysM.n171 Tryd.prog Tryd.laysM171_ren := {
  mixed := by kernel_rfl
  f129 := Tryd.func119.trans (congrArg some (by kernel_rfl))
  f171 := Tryd.func74.trans (congrArg some (by kernel_rfl))
  f243 := Tryd.func97.trans (congrArg some (by kernel_rfl))
  f246 := Tryd.func108.trans (congrArg some (by kernel_rfl))
  f283 := Tryd.func112.trans (congrArg some (by kernel_rfl))
  f284 := Tryd.func113.trans (congrArg some (by kernel_rfl))
  f285 := Tryd.func114.trans (congrArg some (by kernel_rfl))
  f286 := Tryd.func115.trans (congrArg some (by kernel_rfl))
  f317 := Tryd.func118.trans (congrArg some (by kernel_rfl))
  f318 := Tryd.func120.trans (congrArg some (by kernel_rfl))
  f319 := Tryd.func121.trans (congrArg some (by kernel_rfl))
  f320 := Tryd.func122.trans (congrArg some (by kernel_rfl))
  f337 := Tryd.func123.trans (congrArg some (by kernel_rfl))
  f338 := Tryd.func124.trans (congrArg some (by kernel_rfl))
  t0 := Tryd.underlying0
  a0 := Tryd.isAgg0
  z0 := Tryd.sizeOf0
  v0 := Tryd.zeroValue0
  t2 := Tryd.underlying2
  a2 := Tryd.isAgg2
  z2 := Tryd.sizeOf2
  v2 := Tryd.zeroValue2
  t3 := Tryd.underlying3
  a3 := Tryd.isAgg3
  z3 := Tryd.sizeOf3
  v3 := Tryd.zeroValue3
  t4 := Tryd.underlying4
  a4 := Tryd.isAgg4
  z4 := Tryd.sizeOf4
  v4 := Tryd.zeroValue4
  t5 := Tryd.underlying5
  a5 := Tryd.isAgg5
  z5 := Tryd.sizeOf5
  v5 := Tryd.zeroValue5
  t9 := Tryd.underlying9
  a9 := Tryd.isAgg9
  z9 := Tryd.sizeOf9
  v9 := Tryd.zeroValue9
  t20 := Tryd.underlying20
  a20 := Tryd.isAgg20
  z20 := Tryd.sizeOf20
  v20 := Tryd.zeroValue20
  t37 := Tryd.underlying94
  a37 := Tryd.isAgg94
  z37 := Tryd.sizeOf94
  v37 := Tryd.zeroValue94
  t46 := Tryd.underlying47
  a46 := Tryd.isAgg47
  z46 := Tryd.sizeOf47
  v46 := Tryd.zeroValue47
  t51 := Tryd.underlying173
  a51 := Tryd.isAgg173
  z51 := Tryd.sizeOf173
  v51 := Tryd.zeroValue173
  t53 := Tryd.underlying93
  a53 := Tryd.isAgg93
  z53 := Tryd.sizeOf93
  v53 := Tryd.zeroValue93
  t171 := Tryd.underlying163
  a171 := Tryd.isAgg163
  z171 := Tryd.sizeOf163
  v171 := Tryd.zeroValue163
  t173 := Tryd.underlying166
  a173 := Tryd.isAgg166
  z173 := Tryd.sizeOf166
  v173 := Tryd.zeroValue166
  t212 := Tryd.underlying172
  a212 := Tryd.isAgg172
  z212 := Tryd.sizeOf172
  v212 := Tryd.zeroValue172
  t213 := Tryd.underlying174
  a213 := Tryd.isAgg174
  z213 := Tryd.sizeOf174
  t232 := Tryd.underlying178
  a232 := Tryd.isAgg178
  z232 := Tryd.sizeOf178
  v232 := Tryd.zeroValue178
  t233 := Tryd.underlying179
  a233 := Tryd.isAgg179
  z233 := Tryd.sizeOf179
  v233 := Tryd.zeroValue179
  g17 := by kernel_rfl
  g18 := by kernel_rfl
  g19 := by kernel_rfl
  i0 := by kernel_rfl
  i2 := by kernel_rfl
  i3 := by kernel_rfl
  i4 := by kernel_rfl
  i5 := by kernel_rfl
  i9 := by kernel_rfl
  i20 := by kernel_rfl
  i37 := by kernel_rfl
  i46 := by kernel_rfl
  i51 := by kernel_rfl
  i53 := by kernel_rfl
  i171 := by kernel_rfl
  i173 := by kernel_rfl
  i212 := by kernel_rfl
  i232 := by kernel_rfl
  i233 := by kernel_rfl
  m17 := by kernel_rfl
  m18 := by kernel_rfl
  m19 := by kernel_rfl }
end Go.Proofs

namespace Go.Proofs.YtlfillhffpiffaaDoor
set_option linter.unusedSimpArgs false
set_option linter.unusedVariables false
set_option maxRecDepth 8000
open Go Go.Fx Go.Proofs

abbrev tens : List Value := Lib.pow10Tab.map fun z => Value.int .u64 z
abbrev Tens (H : Heap) : Prop := Blk H 0 tens
theorem tab_of {name : String} {w0 : World} {H : Heap} {n g : Nat} {zs : List Int} {k : IntKind} (hg : Tryd.prog.globalNamed name = some g) (h : Blk H g (zs.map fun z => Value.int k z)) : Lib.TabIs Tryd.prog (mk w0 H n) name k zs := by
  obtain ⟨T, fr, h⟩ := h
  unfold Lib.TabIs World.var?
  rw [hg]
  simp only [Option.bind_some, mk_heap, h]
theorem bstr_data : ∀ (l : List UInt8) (s : ByteArray), ((l.map fun b => ((b.toNat : Nat) : Int)).foldl (fun r n => r.push (UInt8.ofNat n.toNat)) s).data.toList = s.data.toList ++ l
  | [], s => by simp
  | x :: l, s => by
    rw [List.map_cons, List.foldl_cons, bstr_data l]
    simp [ByteArray.push]
theorem bstr_nat (l : List UInt8) : bstr (l.map fun b => ((b.toNat : Nat) : Int)) = ⟨l.toArray⟩ := by
  apply WideShapes.bytes_inj
  unfold bstr
  rw [bstr_data]
  simp
theorem decG_dig : ∀ (f n : Nat) (l : List Int), n < 10 ^ f → 0 < f → (0 < n ∨ l.length = 0) → decG (f + 1) n l = (Lib.decDigits n).map (fun b => ((b.toNat : Nat) : Int)) ++ l
  | 0, _, _, _, h, _ => absurd h (by omega)
  | f + 1, n, l, hn, _, h => by
    rw [decG_go h]
    unfold Lib.decDigits
    split
    · rename_i h10
      rw [show n / 10 = 0 by omega, decG_end (by simp), show n % 10 = n by omega]
      have : (UInt8.ofNat (48 + n)).toNat = 48 + n := by rw [UInt8.toNat_ofNat']; omega
      simp only [List.map_append, List.map_cons, List.map_nil, this, List.append_assoc, List.singleton_append, List.nil_append]
    · rename_i h10
      have hp := pow_step hn
      have hf : 0 < f := Nat.pos_of_ne_zero fun h0 => by subst h0; simp at hp; omega
      rw [decG_dig f (n / 10) _ hp hf (.inl (by omega))]
      have : (UInt8.ofNat (48 + n % 10)).toNat = 48 + n % 10 := by rw [UInt8.toNat_ofNat']; omega
      simp only [List.map_append, List.map_cons, List.map_nil, this, List.append_assoc, List.singleton_append, List.nil_append]
theorem itoa_dec (n : Nat) (h : n < 10000000) : (⟨(Lib.itoa (n : Int)).toArray⟩ : ByteArray) = dec n := by
  rw [Lib.itoa_nonneg, ← bstr_nat]
  unfold dec decI
  rw [decG_dig 7 n [] h (by decide) (.inr rfl), List.append_nil]
theorem itoa_ok (n : Nat) (h : n < 10000000) {H : Heap} (hT : Tens H) :
    Ret Tryd.prog 74 [I n] H (fun v H' => v = .string (dec n) ∧ Ext H H') := by
  refine ⟨Tryd.call74, fun w0 k => ?_⟩
  have h1 : Calls Tryd.prog 74 #[.int .i64 n] (mk w0 H k) fun e w' => e = .returned (.string ⟨(Lib.itoa n).toArray⟩) ∧ ∃ d os, w' = Sort.grow ((mk w0 H k).drewN d) os :=
    Any.strconv_Itoa Tryd.laysM171 n (by omega) (by omega) (mk w0 H k) (tab_of (by kernel_rfl) hT)
  refine h1.mono fun e w' hx => ?_
  obtain ⟨he, d, os, hw⟩ := hx
  refine ⟨_, H ++ os, k + d, he, hw, by rw [itoa_dec n h], ?_, fun b hb => Array.getElem?_append_left hb⟩
  rw [Array.size_append]; omega

def jn (xs : List ByteArray) : ByteArray := ⟨(Lib.join (xs.map (·.data.toList)) (⟨#[44]⟩ : ByteArray).data.toList).toArray⟩
abbrev Ss (s : ByteArray) : List Value := [.string s]
theorem wideS (L : List ByteArray) : Wide Ss 1 L := fun _ _ => rfl
theorem ones_Ss (L : List ByteArray) : ones (L.flatMap Ss) = true := by
  simp only [ones, List.all_eq_true, List.mem_flatMap]
  rintro v ⟨x, _, hv⟩
  simp only [List.mem_singleton] at hv
  subst hv; rfl
theorem join_ok {A : Option Addr} {cap : Nat} {xs : List ByteArray} {H : Heap} (hS : SlT H Ss 1 (.slice A xs.length cap) xs) (hN : xs.length ≤ 1000000) (hlen : (jn xs).size ≤ 1000000000) :
    Ret Tryd.prog 75 [.slice A xs.length cap, .string ⟨#[44]⟩] H (fun v H' => v = .string (jn xs) ∧ Ext H H') := by
  refine ⟨Tryd.call75, fun w0 k => ?_⟩
  cases xs with
  | nil =>
    have h1 := Tryd.strings_Join_none A cap ⟨#[44]⟩ (mk w0 H k)
    refine h1.mono fun e w' hx => ?_
    obtain ⟨he, hw⟩ := hx
    exact ⟨_, H, k, he, hw, rfl, Ext.refl H⟩
  | cons x0 xs =>
    obtain ⟨_, cap', hv, hc1, hc2, _, h3⟩ := hS
    simp only [Value.slice.injEq, true_and] at hv
    obtain ⟨rfl, rfl⟩ := hv
    rcases h3 with h0 | ⟨b, o, c, rfl, hB, hc⟩
    · simp at h0
    have hcl : ∀ (j : Nat) x, (x0 :: xs)[j]? = some x → (mk w0 H k).cell? ⟨b, o + j, none⟩ = some (.string x) := by
      intro j x hx
      obtain ⟨hj, hx⟩ := List.getElem?_eq_some_iff.1 hx
      have h2 := (hc j hj).2
      rw [hx, Nat.mul_one] at h2
      have h4 : c[o + j + 0]? = some (Value.string x) := at_tk h2 (by decide) rfl
      obtain ⟨T, fr, hB⟩ := hB
      unfold World.cell?
      simp only [mk_heap, hB]
      simpa using h4
    have hle : (x0 :: xs).length ≤ c.length := by
      have := (hc ((x0 :: xs).length - 1) (by simp)).1
      simp only [List.length_cons] at this ⊢; omega
    have h1 := Tryd.strings_Join b o cap (x0 :: xs) ⟨#[44]⟩ (mk w0 H k) hcl hB.lt (by omega) hc1 (by
      have : (jn (x0 :: xs)).size = (Lib.join ((x0 :: xs).map (·.data.toList)) (⟨#[44]⟩ : ByteArray).data.toList).length := by simp [jn, ByteArray.size]
      omega)
    refine h1.mono fun e w' hx => ?_
    obtain ⟨he, hb⟩ := hx
    refine ⟨_, w'.heap, w'.drawn, he, ?_, rfl, hb.size, fun q hq => hb.block q hq⟩
    obtain ⟨g1, g2, g3, g4, g5⟩ := w'
    have e1 := hb.os; have e2 := hb.tape; have e3 := hb.output
    simp only at e1 e2 e3
    subst e1 e2 e3
    rfl
end Go.Proofs.YtlfillhffpiffaaDoor

namespace Go.Proofs.YtlfillhffpiffaaDoor
set_option linter.unusedSimpArgs false
set_option linter.unusedVariables false
set_option maxRecDepth 8000
open Go Go.Fx Go.Proofs
namespace FactsDShB
theorem ag22 : ag Tryd.prog 22 = some 4 := by kernel_rfl
theorem apt123 : appT Tryd.prog 123 = some (9, 1, 16) := by kernel_rfl
theorem fo24_0 : foff Tryd.prog 24 0 = some 0 := by kernel_rfl
theorem fo24_1 : foff Tryd.prog 24 1 = some 4 := by kernel_rfl
theorem sc3 : sc Tryd.prog 3 = true := by kernel_rfl
theorem sl1_123 : Go.Fx.sl1 Tryd.prog 123 = true := by kernel_rfl
end FactsDShB
open FactsDShB

theorem dap (a b : ByteArray) : (a ++ b).data.toList = a.data.toList ++ b.data.toList := by simp
abbrev opn (i : Nat) : ByteArray := ⟨#[111]⟩ ++ dec i
def opsTo (r : List Int) : Nat → List ByteArray
  | 0 => []
  | i + 1 => opsTo r i ++ List.replicate (r.getD i 0).toNat (opn i)
theorem opn_pos (i : Nat) : 0 < (opn i).size := by rw [ByteArray.size_append, sz1]; omega
theorem ops_pos (r : List Int) : ∀ i, ∀ x ∈ opsTo r i, 0 < x.size
  | 0, x, h => by cases h
  | i + 1, x, h => by
    simp only [opsTo, List.mem_append, List.mem_replicate] at h
    rcases h with h | ⟨_, rfl⟩
    · exact ops_pos r i x h
    · exact opn_pos i
theorem jn_data (xs : List ByteArray) : (jn xs).data.toList = Lib.join (xs.map (·.data.toList)) [44] := rfl
theorem join_snoc (y sep : List UInt8) : ∀ (x : List UInt8) (xs : List (List UInt8)), Lib.join ((x :: xs) ++ [y]) sep = Lib.join (x :: xs) sep ++ sep ++ y := by
  intro x xs
  rw [List.cons_append, Lib.join_cons, Lib.join_cons]
  simp [Lib.joinTail]
theorem jn_ne {xs : List ByteArray} (h : ∀ x ∈ xs, 0 < x.size) (hx : xs ≠ []) : (jn xs).data.toList ≠ [] := by
  cases xs with
  | nil => exact absurd rfl hx
  | cons x xs =>
    rw [jn_data, List.map_cons, Lib.join_cons]
    have := h x List.mem_cons_self
    intro h0
    have h1 := (List.append_eq_nil_iff.1 h0).1
    have h2 := congrArg List.length h1
    simp only [Array.length_toList, List.length_nil] at h2
    simp only [ByteArray.size] at this
    omega
theorem rone_jn (i : Nat) {xs : List ByteArray} (h : ∀ x ∈ xs, 0 < x.size) : rone i (jn xs) = jn (xs ++ [opn i]) := by
  apply WideShapes.bytes_inj
  unfold rone
  rw [ByteArray.toList_eq, ByteArray.toList_eq]
  cases xs with
  | nil =>
    have h0 : (jn []).data.toList = [] := rfl
    rw [if_neg (by rw [h0]; decide)]
    simp [jn_data, Lib.join_one, Lib.join_nil, dap]
  | cons x xs =>
    rw [if_pos (by
      have := jn_ne h (by simp)
      cases hc : (jn (x :: xs)).data.toList with
      | nil => exact absurd hc this
      | cons a l => rfl)]
    rw [jn_data, List.map_append, List.map_cons, List.map_cons, List.map_nil, join_snoc, dap, dap, dap, jn_data, List.map_cons]
    simp [opn, dap]
theorem rrep_jn (i : Nat) {xs : List ByteArray} (h : ∀ x ∈ xs, 0 < x.size) : ∀ k, rrep i k (jn xs) = jn (xs ++ List.replicate k (opn i))
  | 0 => by simp [rrep]
  | k + 1 => by
    unfold rrep
    rw [rrep_jn i h k, rone_jn i (by
      intro x hx
      rcases List.mem_append.1 hx with hx | hx
      · exact h x hx
      · rw [(List.mem_replicate.1 hx).2]; exact opn_pos i), List.replicate_succ', List.append_assoc]
theorem rall_jn (r : List Int) : ∀ i, rall r i = jn (opsTo r i)
  | 0 => rfl
  | i + 1 => by
    unfold rall opsTo
    rw [rall_jn r i, rrep_jn i (ops_pos r i)]
theorem ops_len {r : List Int} (h5 : r.length = 5) (h : rowM r = true) : ∀ i, i ≤ 4 → (opsTo r i).length ≤ 32 * i
  | 0, _ => Nat.le_refl 0
  | i + 1, hi => by
    have h2 := ops_len h5 h i (by omega)
    have h3 := row_cnt h5 h i (by omega)
    simp only [opsTo, List.length_append, List.length_replicate]; omega

def wtx (r : List Int) (s : ByteArray) : ByteArray := ⟨#[60]⟩ ++ (if 0 ≤ r.getD 4 0 then rall r 4 ++ (⟨#[124]⟩ ++ s) else rall r 4) ++ ⟨#[62]⟩
theorem wtx_rtx (R r : List Int) : wtx r (⟨#[101]⟩ ++ dec (ixL R (r.getD 4 0))) = rtx R r := by
  apply WideShapes.bytes_inj
  unfold wtx rtx
  split
  · simp only [dap, List.append_assoc]; rfl
  · rfl

theorem write_ok {g : FuncId} {us : List Value} {rb ro : Nat} {cg : List Value} {r : List Int} (h5 : r.length = 5) (hr : rowM r = true) {Q : ByteArray → Heap → Heap → Prop} {H : Heap} (hT : Tens H) (hB : Blk H rb cg) (hc : (cg.drop ro).take 5 = Is r)
    (hf : ∀ H1, Ext H H1 → 0 ≤ r.getD 4 0 → Ret Tryd.prog g (I (r.getD 4 0) :: us) H1 (fun v H2 => ∃ s, v = .string s ∧ s.size ≤ 100 ∧ Q s H1 H2)) :
    Ret Tryd.prog 55 [ptr rb ro, .func (.func g) #[] us.toArray] H (fun v H' => ∃ s, v = .string (wtx r s) ∧ ∃ H1, Ext H H1 ∧ ((0 ≤ r.getD 4 0 ∧ Q s H1 H') ∨ (r.getD 4 0 < 0 ∧ H' = H1))) := by
  have zB := hB.lt
  have hat : ∀ {j : Nat}, j < 5 → cg[ro + j]? = some (I (r.getD j 0)) := fun hj => at_tk hc hj (at_Is (by omega))
  have hcnt := row_cnt h5 hr
  have hsz := rall_size h5 hr
  have hln := ops_len h5 hr
  have ht4 := rowM_t hr
  refine Ret.of_at (N := 47) Tryd.call55 Tryd.func55 rfl rfl rfl ?_
  have hE := Ext.refl H
  have z_hE := hE.lt
  have z_hT := hT.lt
  have z_hB := hB.lt
  refine At.region rfl rfl ?_
  refine Reg.pur rfl rfl rfl rfl (Pur.asg rfl) ?_
  refine Reg.nil ?_
  refine At.region rfl rfl ?_
  refine Reg.pur rfl rfl rfl rfl (Pur.asg rfl) ?_
  refine Reg.nil ?_
  refine At.region rfl rfl ?_
  refine Reg.pur rfl rfl rfl rfl (Pur.mv rfl) ?_
  refine Reg.pur rfl rfl rfl rfl (Pur.nilc rfl) ?_
  refine Reg.pur rfl rfl rfl rfl (Pur.fld _ fo24_0 rfl) ?_
  refine Reg.lod rfl rfl rfl rfl (Lod.ldn ag22 rfl hB (show _ = Is (r.take 4) by rw [Nat.add_zero]; have h9 := congrArg (List.take 4) hc; rw [List.take_take] at h9; rw [show min 4 5 = 4 from rfl] at h9; rw [h9]; simp [Is, List.map_take]) (by simp [h5])) ?_
  refine Reg.pur rfl rfl rfl rfl (Pur.mv rfl) ?_
  refine Reg.nil ?_
  refine At.loop (σ := Nat × Option Addr × Nat) (fun (i, A', cap') => [(13, I i), (5, .slice A' (opsTo r i).length cap'), (12, .agg (Is (r.take 4)).toArray), (0, ptr rb ro), (1, .func (.func g) #[] us.toArray)]) (fun (i, A', cap') H' => i ≤ 4 ∧ Ext H H' ∧ Tens H' ∧ Blk H' rb cg ∧ Gs H' H.size 9 1 A' cap' (opsTo r i).length ((opsTo r i).flatMap Ss)) (fun s => 4 - s.1) (0, none, 0) rfl ⟨rfl, rfl, rfl, rfl, rfl, trivial⟩ ⟨by omega, hE, hT, hB, OwnS.nilG⟩ ?_
  clear hE hT hB
  rintro ⟨i, A', cap'⟩ H1 ⟨hi, hE, hT, hB, hg⟩ ih
  dsimp only at hi hg ⊢
  have z_hE := hE.lt
  have z_hT := hT.lt
  have z_hB := hB.lt
  have z_hg := hg.lt
  refine At.region rfl rfl ?_
  refine Reg.pur rfl rfl rfl rfl (Pur.lss rfl rfl) ?_
  refine Reg.nil ?_
  refine At.cond rfl rfl (fun q14 => ?_) (fun q14 => ?_)
  · first | (simp only [decide_eq_true_eq, decide_eq_false_iff_not, Bool.not_eq_true', Bool.not_eq_false', ne_eq, Decidable.not_not, Bool.not_eq_true, Bool.not_eq_false] at q14) | (dsimp only at q14) | skip
    have hlt : i < (r.take 4).length := by simp [h5]; omega
    have hat4 := take4_at h5 (i := i) (by omega)
    have hai : (Is (r.take 4))[(i : Int).toNat]? = some (I (r.getD i 0)) := by
      have : (Is (r.take 4))[i]? = some (I (r.take 4)[i]) := by simp only [Is, List.getElem?_map, List.getElem?_eq_getElem hlt, Option.map_some]
      rw [hat4] at this
      exact this
    have hi4 : i < 4 := by omega
    have hci := hcnt i hi4
    have hli := hln i (by omega)
    refine At.region rfl rfl ?_
    refine Reg.pur rfl rfl rfl rfl (Pur.mv rfl) ?_
    refine Reg.pur rfl rfl rfl rfl (Pur.ixA (n := 4) (by kernel_rfl) rfl rfl (by omega) (by omega) hai) ?_
    refine Reg.pur rfl rfl rfl rfl (Pur.asg rfl) ?_
    refine Reg.pur rfl rfl rfl rfl (Pur.asg rfl) ?_
    refine Reg.nil ?_
    refine At.region rfl rfl ?_
    refine Reg.pur rfl rfl rfl rfl (Pur.mv rfl) ?_
    refine Reg.pur rfl rfl rfl rfl (Pur.mv rfl) ?_
    refine Reg.nil ?_
    refine At.loop (σ := Nat × Option Addr × Nat) (fun (k, A', cap') => [(18, I k), (17, I (r.getD i 0)), (6, I i), (13, I i), (5, .slice A' (opsTo r i ++ List.replicate k (opn i)).length cap'), (12, .agg (Is (r.take 4)).toArray), (0, ptr rb ro), (1, .func (.func g) #[] us.toArray)]) (fun (k, A', cap') H' => (k : Int) ≤ r.getD i 0 ∧ Ext H H' ∧ Tens H' ∧ Blk H' rb cg ∧ Gs H' H.size 9 1 A' cap' (opsTo r i ++ List.replicate k (opn i)).length ((opsTo r i ++ List.replicate k (opn i)).flatMap Ss)) (fun s => (r.getD i 0).toNat - s.1) (0, A', cap') rfl ⟨rfl, rfl, rfl, rfl, by simp [lk], rfl, rfl, rfl, trivial⟩ ⟨by omega, hE, hT, hB, by simpa using hg⟩ ?_
    clear hE hT hB hg
    rintro ⟨k, A2', cap2'⟩ H2 ⟨hk, hE, hT, hB, hg⟩ ih2
    dsimp only at hk hg ⊢
    have z_hE := hE.lt
    have z_hT := hT.lt
    have z_hB := hB.lt
    have z_hg := hg.lt
    refine At.region rfl rfl ?_
    refine Reg.pur rfl rfl rfl rfl (Pur.lss rfl rfl) ?_
    refine Reg.nil ?_
    refine At.cond rfl rfl (fun q19 => ?_) (fun q19 => ?_)
    · first | (simp only [decide_eq_true_eq, decide_eq_false_iff_not, Bool.not_eq_true', Bool.not_eq_false', ne_eq, Decidable.not_not, Bool.not_eq_true, Bool.not_eq_false] at q19) | (dsimp only at q19) | skip
      refine At.region rfl rfl ?_
      refine Reg.pur rfl rfl rfl rfl (Pur.mv rfl) ?_
      refine Reg.pur rfl rfl rfl rfl (Pur.mv rfl) ?_
      refine Reg.op rfl rfl rfl rfl (Does.call rfl (itoa_ok i (by omega) hT)) ?_
      rintro _ H7_2 ⟨rfl, hE7_2⟩
      have z7_2 := hE7_2.lt
      replace hE := hE.ext hE7_2
      replace hT := hT.ext hE7_2
      replace hB := hB.ext hE7_2
      replace hg := hg.ext hE7_2
      refine Reg.pur rfl rfl rfl rfl (Pur.addS rfl rfl (szs (sl1 _) (dec_size _) (by decide))) ?_
      refine Reg.op rfl rfl rfl rfl (Does.bsl1 sl1_123 rfl rfl rfl rfl rfl) ?_
      rintro _ H7_4 ⟨rfl, hn7_4⟩
      have z7_4 := hn7_4.size
      replace hE := hE.ext hn7_4.ext
      replace hT := hT.ext hn7_4.ext
      replace hB := hB.ext hn7_4.ext
      replace hg := hg.ext hn7_4.ext
      have o7_4 := hn7_4.own
      refine Reg.op rfl rfl rfl rfl (Does.appL apt123 rfl rfl (by decide) hg (wideS _) (sl_new (L := [opn i]) (wideS _) (by decide) hn7_4 (by simp)) (ones_Ss _) (by simp; omega) (by omega)) ?_
      rintro _ H7_5 ⟨A7_5, cap7_5, rfl, g7_5, hbut7_5, ha7_5⟩
      have z7_5 := hbut7_5.lt
      replace hE := hE.via hbut7_5 (by first | omega | (intro g; omega) | (intro g hg; omega) | (intro g hg h; omega))
      replace hT := hT.via hbut7_5 (by first | omega | (intro g; omega) | (intro g hg; omega) | (intro g hg h; omega))
      replace hB := hB.via hbut7_5 (by first | omega | (intro g; omega) | (intro g hg; omega) | (intro g hg h; omega))
      replace o7_4 := o7_4.via hbut7_5 (by first | omega | (intro g; omega) | (intro g hg; omega) | (intro g hg h; omega))
      replace hg := g7_5
      have zg7_5 := g7_5.lt
      refine Reg.pur rfl rfl rfl rfl (Pur.asg rfl) ?_
      refine Reg.nil ?_
      refine At.region rfl rfl ?_
      first | refine Reg.pur rfl rfl rfl rfl (Pur.add64 rfl rfl (by omega)) ?_ | refine Reg.pur rfl rfl rfl rfl (Pur.add64 rfl rfl (by assumption)) ?_ | refine Reg.pur rfl rfl rfl rfl (Pur.add rfl rfl) ?_
      refine Reg.pur rfl rfl rfl rfl (Pur.mv rfl) ?_
      refine Reg.nil ?_
      have hs : opsTo r i ++ List.replicate k (opn i) ++ [opn i] = opsTo r i ++ List.replicate (k + 1) (opn i) := by rw [List.replicate_succ', List.append_assoc]
      rw [hs] at hg
      exact At.via (ih2 (k + 1, A7_5, cap7_5) _ ⟨by (show ((k + 1 : Nat) : Int) ≤ _); omega, hE, hT, hB, hg⟩ (by (show _ - (k + 1) < _ - k); omega)) ⟨rfl, rfl, rfl, rfl, by (show some (Value.slice _ _ _) = _); rw [hs], rfl, rfl, rfl, trivial⟩
    first | (simp only [decide_eq_true_eq, decide_eq_false_iff_not, Bool.not_eq_true', Bool.not_eq_false', ne_eq, Decidable.not_not, Bool.not_eq_true, Bool.not_eq_false] at q19) | (dsimp only at q19) | skip
    refine At.region rfl rfl ?_
    first | refine Reg.pur rfl rfl rfl rfl (Pur.add64 rfl rfl (by omega)) ?_ | refine Reg.pur rfl rfl rfl rfl (Pur.add64 rfl rfl (by assumption)) ?_ | refine Reg.pur rfl rfl rfl rfl (Pur.add rfl rfl) ?_
    refine Reg.pur rfl rfl rfl rfl (Pur.mv rfl) ?_
    refine Reg.nil ?_
    have hkr : (k : Nat) = (r.getD i 0).toNat := by omega
    subst hkr
    exact At.via (ih (i + 1, A2', cap2') _ ⟨by (show i + 1 ≤ 4); omega, hE, hT, hB, hg⟩ (by (show 4 - (i + 1) < 4 - i); omega)) ⟨rfl, rfl, rfl, rfl, rfl, trivial⟩
  first | (simp only [decide_eq_true_eq, decide_eq_false_iff_not, Bool.not_eq_true', Bool.not_eq_false', ne_eq, Decidable.not_not, Bool.not_eq_true, Bool.not_eq_false] at q14) | (dsimp only at q14) | skip
  obtain rfl : i = 4 := by omega
  have hs4 := hsz 4 (by omega)
  have hl4 := hln 4 (by omega)
  rw [rall_jn] at hs4
  refine At.region rfl rfl ?_
  refine Reg.pur rfl rfl rfl rfl (Pur.mv rfl) ?_
  refine Reg.op rfl rfl rfl rfl (Does.call rfl (join_ok (own_sl (wideS _) (by decide) hg) (by omega) (by omega))) ?_
  rintro _ H10_1 ⟨rfl, hE10_1⟩
  have z10_1 := hE10_1.lt
  replace hE := hE.ext hE10_1
  replace hT := hT.ext hE10_1
  replace hB := hB.ext hE10_1
  replace hg := hg.ext hE10_1
  refine Reg.pur rfl rfl rfl rfl (Pur.addS rfl rfl (szs (n := 1280) (sl1 _) (by omega) (by decide))) ?_
  refine Reg.pur rfl rfl rfl rfl (Pur.asg rfl) ?_
  refine Reg.nil ?_
  refine At.region rfl rfl ?_
  refine Reg.pur rfl rfl rfl rfl (Pur.mv rfl) ?_
  refine Reg.pur rfl rfl rfl rfl (Pur.nilc rfl) ?_
  refine Reg.pur rfl rfl rfl rfl (Pur.fld _ fo24_1 rfl) ?_
  refine Reg.lod rfl rfl rfl rfl (Lod.ld sc3 rfl hB (hat (j := 4) (by omega))) ?_
  refine Reg.pur rfl rfl rfl rfl (Pur.neq rfl rfl) ?_
  refine Reg.nil ?_
  refine At.cond rfl rfl (fun q35 => ?_) (fun q35 => ?_)
  · first | (simp only [decide_eq_true_eq, decide_eq_false_iff_not, Bool.not_eq_true', Bool.not_eq_false', ne_eq, Decidable.not_not, Bool.not_eq_true, Bool.not_eq_false] at q35) | (dsimp only at q35) | skip
    refine At.region rfl rfl ?_
    refine Reg.pur rfl rfl rfl rfl (Pur.mv rfl) ?_
    refine Reg.pur rfl rfl rfl rfl (Pur.mv rfl) ?_
    refine Reg.pur rfl rfl rfl rfl (Pur.mv rfl) ?_
    refine Reg.pur rfl rfl rfl rfl (Pur.nilc rfl) ?_
    refine Reg.pur rfl rfl rfl rfl (Pur.fld _ fo24_1 rfl) ?_
    refine Reg.lod rfl rfl rfl rfl (Lod.ld sc3 rfl hB (hat (j := 4) (by omega))) ?_
    refine Reg.op rfl rfl rfl rfl (Does.callv rfl rfl (hf _ hE (by omega))) ?_
    rintro _ H12_6 ⟨s, rfl, hss, hQ12_6⟩
    refine Reg.pur rfl rfl rfl rfl (Pur.addS rfl rfl (szs (n := 100) (sl1 _) (by omega) (by decide))) ?_
    refine Reg.pur rfl rfl rfl rfl (Pur.addS rfl rfl (szs (m := 1281) (n := 101) (sza (m := 1) (n := 1280) (sl1 _) (by omega)) (sza (m := 1) (n := 100) (sl1 _) (by omega)) (by decide))) ?_
    refine Reg.pur rfl rfl rfl rfl (Pur.asg rfl) ?_
    refine Reg.nil ?_
    refine At.region rfl rfl ?_
    refine Reg.pur rfl rfl rfl rfl (Pur.mv rfl) ?_
    refine Reg.pur rfl rfl rfl rfl (Pur.addS rfl rfl (szs (m := 1382) (n := 1) (by first | exact sza (m := 1281) (n := 101) (sza (m := 1) (n := 1280) (sl1 _) (by omega)) (sza (m := 1) (n := 100) (sl1 _) (by omega)) | exact Nat.le_trans (sza (m := 1) (n := 1280) (sl1 _) (by omega)) (by decide)) (sl1 _) (by decide))) ?_
    refine Reg.pur rfl rfl rfl rfl (Pur.asg rfl) ?_
    refine Reg.nil ?_
    refine At.ret rfl Tryd.func55 rfl ?_
    refine ⟨s, ?_, _, hE, .inl ⟨by omega, hQ12_6⟩⟩
    unfold wtx
    rw [if_pos (by omega), rall_jn]
    exact congrArg Value.string (WideShapes.bytes_inj (by simp only [dap, List.append_assoc]))
  first | (simp only [decide_eq_true_eq, decide_eq_false_iff_not, Bool.not_eq_true', Bool.not_eq_false', ne_eq, Decidable.not_not, Bool.not_eq_true, Bool.not_eq_false] at q35) | (dsimp only at q35) | skip
  refine At.region rfl rfl ?_
  refine Reg.pur rfl rfl rfl rfl (Pur.mv rfl) ?_
  refine Reg.pur rfl rfl rfl rfl (Pur.addS rfl rfl (szs (m := 1382) (n := 1) (by first | exact sza (m := 1281) (n := 101) (sza (m := 1) (n := 1280) (sl1 _) (by omega)) (sza (m := 1) (n := 100) (sl1 _) (by omega)) | exact Nat.le_trans (sza (m := 1) (n := 1280) (sl1 _) (by omega)) (by decide)) (sl1 _) (by decide))) ?_
  refine Reg.pur rfl rfl rfl rfl (Pur.asg rfl) ?_
  refine Reg.nil ?_
  refine At.ret rfl Tryd.func55 rfl ?_
  refine ⟨⟨#[]⟩, ?_, _, hE, .inr ⟨by omega, rfl⟩⟩
  unfold wtx
  rw [if_neg (by omega), rall_jn]
end Go.Proofs.YtlfillhffpiffaaDoor

namespace Go.Proofs.YtlfillhffpiffaaDoor
set_option linter.unusedSimpArgs false
set_option linter.unusedVariables false
set_option maxRecDepth 8000
open Go Go.Fx Go.Proofs
namespace FactsDShC
theorem es53 : esz Tryd.prog 53 = some 9 := by kernel_rfl
theorem fo55_0 : foff Tryd.prog 55 0 = some 0 := by kernel_rfl
theorem fo65_0 : foff Tryd.prog 65 0 = some 0 := by kernel_rfl
theorem fo65_1 : foff Tryd.prog 65 1 = some 1 := by kernel_rfl
theorem fo65_2 : foff Tryd.prog 65 2 = some 2 := by kernel_rfl
theorem fo65_3 : foff Tryd.prog 65 3 = some 3 := by kernel_rfl
theorem fo65_4 : foff Tryd.prog 65 4 = some 4 := by kernel_rfl
theorem mixed : Tryd.prog.follows .mixedOrders = true := by kernel_rfl
theorem sc108 : sc Tryd.prog 108 = true := by kernel_rfl
theorem sc3 : sc Tryd.prog 3 = true := by kernel_rfl
theorem sc53 : sc Tryd.prog 53 = true := by kernel_rfl
end FactsDShC
open FactsDShC

abbrev gT : Nat := 0
theorem rtx_neg {R r : List Int} (s : ByteArray) (h : r.getD 4 0 < 0) : wtx r s = rtx R r ∧ rnm R r = R := by
  unfold wtx rtx rnm
  rw [if_neg (by omega), if_neg (by omega), if_neg (by omega)]
  exact ⟨rfl, rfl⟩
theorem rtx_pos {R r : List Int} (h : 0 ≤ r.getD 4 0) : rnm R r = addL R (r.getD 4 0) := if_pos h

theorem textTail_ok {xb nb B c1 c2 : Nat} {A1 A2 : Option Addr} {T R : List Int} (v : Int) {H : Heap} (hX : Blk H xb [ptr nb 0]) (hT : Tens H) (hoT : Off nb A1 A2 (gT : Nat)) (hN : Nm H nb B A1 c1 T A2 c2 R) (hm : R.length ≤ 100000) :
    Ret Tryd.prog 85 [I v, ptr xb 0] H (fun w H' => w = .string (⟨#[101]⟩ ++ dec (ixL R v)) ∧ ∃ A2' c2', Nm H' nb B A1 c1 T A2' c2' (addL R v) ∧ Mod nb A1 A2 A1 A2' H H') := by
  have hix := ixL_le R v
  refine Ret.of_at (N := 9) Tryd.call85 Tryd.func85 rfl rfl rfl ?_
  have hE := Ext.refl H

  refine At.region rfl rfl ?_
  refine Reg.pur rfl rfl rfl rfl (Pur.asg rfl) ?_
  refine Reg.nil ?_
  refine At.region rfl rfl ?_
  refine Reg.lod rfl rfl rfl rfl (Lod.ld sc108 rfl hX rfl) ?_
  refine Reg.pur rfl rfl rfl rfl (Pur.mv rfl) ?_
  refine Reg.op rfl rfl rfl rfl (Does.call rfl (nm_Row v hN (by omega))) ?_
  rintro _ H1_2 ⟨rfl, A2a, c2a, hN1_2, hM1_2⟩
  refine Reg.op rfl rfl rfl rfl (Does.call rfl (itoa_ok (ixL R v) (by omega) (hT.via hM1_2.1 hoT.not))) ?_
  rintro _ H1_3 ⟨rfl, hE1_3⟩
  have z1_3 := hE1_3.lt
  refine Reg.pur rfl rfl rfl rfl (Pur.addS rfl rfl (szs (sl1 _) (dec_size _) (by decide))) ?_
  refine Reg.pur rfl rfl rfl rfl (Pur.asg rfl) ?_
  refine Reg.nil ?_
  refine At.ret rfl Tryd.func85 rfl ?_
  exact ⟨rfl, A2a, c2a, hN1_2.ext hE1_3, hM1_2.ext hE1_3⟩
theorem rowW_ok {xb rb ro nb B c1 c2 : Nat} {cg : List Value} {r : List Int} {A1 A2 : Option Addr} {T R : List Int} (h5 : r.length = 5) (hr : rowM r = true) {H : Heap} (hX : Blk H xb [ptr nb 0]) (hT : Tens H) (hoT : Off nb A1 A2 (gT : Nat)) (hB : Blk H rb cg) (hc : (cg.drop ro).take 5 = Is r) (hN : Nm H nb B A1 c1 T A2 c2 R) (hm : R.length ≤ 100000) :
    Ret Tryd.prog 55 [ptr rb ro, .func (.func 85) #[] #[ptr xb 0]] H (fun v H' => v = .string (rtx R r) ∧ ∃ A2' c2', Nm H' nb B A1 c1 T A2' c2' (rnm R r) ∧ Mod nb A1 A2 A1 A2' H H') := by
  refine (write_ok (us := [ptr xb 0]) (Q := fun s H1 H2 => s = ⟨#[101]⟩ ++ dec (ixL R (r.getD 4 0)) ∧ ∃ A2' c2', Nm H2 nb B A1 c1 T A2' c2' (addL R (r.getD 4 0)) ∧ Mod nb A1 A2 A1 A2' H1 H2) h5 hr hT hB hc (fun H1 hE h0 => (textTail_ok (r.getD 4 0) (hX.ext hE) (hT.ext hE) hoT (hN.ext hE) hm).mono ?_)).mono ?_
  · rintro v H2 ⟨rfl, h⟩
    exact ⟨_, rfl, by have := dec_size (ixL R (r.getD 4 0)); rw [ByteArray.size_append, sz1]; omega, rfl, h⟩
  · rintro v H' ⟨s, rfl, H1, hE, ⟨h0, rfl, A2', c2', hN', hM⟩ | ⟨h0, rfl⟩⟩
    · exact ⟨by rw [wtx_rtx], A2', c2', by rw [rtx_pos h0]; exact hN', ((Mod.refl nb A1 A2 H).ext hE).trans hM⟩
    · exact ⟨by rw [(rtx_neg (R := R) s h0).1], A2, c2, by rw [(rtx_neg (R := R) s h0).2]; exact hN.ext hE, (Mod.refl nb A1 A2 H).ext hE⟩

theorem textP_ok {L : List (List Int)} (hL : Nine L) {A : Option Addr} {cap nb B yb yo : Nat} {cy : List Value} (hm : L.length ≤ 256) (hcy : cy[yo]? = some (.slice A L.length cap)) : ∀ (f : Nat) (t : Tm) (pre post : List (List Int)), t.sz ≤ f → t.ok → L = pre ++ t.enc pre.length ++ post →
    ∀ {H : Heap} {A1 A2 : Option Addr} {c1 c2 : Nat} {T R : List Int}, Blk H yb cy → Tens H → SlT H Is 9 (.slice A L.length cap) L → Nm H nb B A1 c1 T A2 c2 R → T.length + R.length + t.sz ≤ 90000 → Off nb A1 A2 (ob A) → Off nb A1 A2 yb → Off nb A1 A2 (gT : Nat) → ∀ z : Int, z = (pre.length : Int) + t.sz - 1 →
    Ret Tryd.prog 62 [ptr nb 0, ptr yb yo, I z] H (fun v H' => v = .string (tx (T, R) t).1 ∧ ∃ A1' c1' A2' c2', Nm H' nb B A1' c1' (tx (T, R) t).2.1 A2' c2' (tx (T, R) t).2.2 ∧ Mod nb A1 A2 A1' A2' H H') := by
  intro f
  induction f with
  | zero => intro t _ _ h; have := t.sz_pos; omega
  | succ f ihf =>
  intro t pre post hf hok hLe H A1 A2 c1 c2 T R hY hT hS hN hlen hoA hoY hoT z hz
  have hlL : L.length = pre.length + t.sz + post.length := by rw [hLe, List.length_append, List.length_append, Tm.enc_len]
  have hpos := t.sz_pos
  obtain ⟨b, o, c, rfl, hB, hd, hx9, hat⟩ := el_cells hL hS (z := z) (by omega) (by omega)
  obtain ⟨n0, n1, n2, n3⟩ := nd_at t pre post (el L z) (by rw [← hLe, hz])
  generalize el L z = x at hd hx9 hat n0 n1 n2 n3
  have hob : ob (some ⟨b, o, none⟩) = b := ob_some b o
  have zB := Int.ofNat_lt.2 hB.lt
  have zY := Int.ofNat_lt.2 hY.lt
  have zT := Int.ofNat_lt.2 hT.lt
  have zN := hN.own.lt
  rw [hob] at hoA
  refine Ret.of_at (N := 61) Tryd.call62 Tryd.func62 rfl rfl rfl ?_
  have hE := Ext.refl H

  refine At.region rfl rfl ?_
  refine Reg.op rfl rfl rfl rfl (Does.box rfl rfl) ?_
  rintro _ H0_0 ⟨rfl, hn0_0⟩
  have z0_0 := hn0_0.size
  have o0_0 := hn0_0.own
  refine Reg.pur rfl rfl rfl rfl (Pur.asg rfl) ?_
  refine Reg.nil ?_

  have hX : Blk H0_0 H.size [ptr nb 0] := o0_0.blk
  have hE0 : Ext H H0_0 := hn0_0.ext
  have hN0 := hN.ext hE0
  have hS0 := hS.ext hE0
  have hY0 := hY.ext hE0
  have hT0 := hT.ext hE0
  have hB0 := hB.ext hE0
  have hoX : Off nb A1 A2 H.size := ⟨by omega, by have := hN.g1.lt; omega, by have := hN.g2.lt; omega⟩
  have zX := Int.ofNat_lt.2 hX.lt
  have hM0 : Mod nb A1 A2 A1 A2 H H0_0 := (Mod.refl nb A1 A2 H).ext hE0
  have zB0 := Int.ofNat_lt.2 hB0.lt
  have zY0 := Int.ofNat_lt.2 hY0.lt
  have zT0 := Int.ofNat_lt.2 hT0.lt
  refine At.region rfl rfl ?_
  refine Reg.pur rfl rfl rfl rfl (Pur.mv rfl) ?_
  refine Reg.pur rfl rfl rfl rfl (Pur.nilc rfl) ?_
  refine Reg.pur rfl rfl rfl rfl (Pur.fld _ fo55_0 rfl) ?_
  refine Reg.lod rfl rfl rfl rfl (Lod.ld sc53 rfl hY0 hcy) ?_
  refine Reg.pur rfl rfl rfl rfl (Pur.mv rfl) ?_
  refine Reg.pur rfl rfl rfl rfl (Pur.idx _ es53 rfl rfl (by omega) (by omega)) ?_
  refine Reg.pur rfl rfl rfl rfl (Pur.asg rfl) ?_
  refine Reg.nil ?_
  refine At.region rfl rfl ?_
  refine Reg.pur rfl rfl rfl rfl (Pur.mv rfl) ?_
  refine Reg.pur rfl rfl rfl rfl (Pur.nilc rfl) ?_
  refine Reg.pur rfl rfl rfl rfl (Pur.fld _ fo65_0 rfl) ?_
  refine Reg.lod rfl rfl rfl rfl (Lod.ld sc3 rfl hB0 (hat 0 (by omega))) ?_
  refine Reg.nil ?_
  refine At.region rfl rfl ?_
  refine Reg.pur rfl rfl rfl rfl (Pur.eql rfl rfl) ?_
  refine Reg.pur rfl rfl rfl rfl (Pur.asg rfl) ?_
  refine Reg.nil ?_
  refine At.cond rfl rfl (fun q20 => ?_) (fun q20 => ?_)
  · first | (simp only [decide_eq_true_eq, decide_eq_false_iff_not, Bool.not_eq_true', Bool.not_eq_false', ne_eq, Decidable.not_not, Bool.not_eq_true, Bool.not_eq_false] at q20) | (dsimp only at q20) | skip
    refine At.region rfl rfl ?_
    refine Reg.pur rfl rfl rfl rfl (Pur.asg rfl) ?_
    refine Reg.nil ?_
    refine At.ret rfl Tryd.func62 rfl ?_
    obtain rfl := n0 q20
    exact ⟨rfl, A1, c1, A2, c2, hN0, hM0⟩
  first | (simp only [decide_eq_true_eq, decide_eq_false_iff_not, Bool.not_eq_true', Bool.not_eq_false', ne_eq, Decidable.not_not, Bool.not_eq_true, Bool.not_eq_false] at q20) | (dsimp only at q20) | skip
  refine At.region rfl rfl ?_
  refine Reg.pur rfl rfl rfl rfl (Pur.eql rfl rfl) ?_
  refine Reg.pur rfl rfl rfl rfl (Pur.asg rfl) ?_
  refine Reg.nil ?_
  refine At.cond rfl rfl (fun q22 => ?_) (fun q22 => ?_)
  · first | (simp only [decide_eq_true_eq, decide_eq_false_iff_not, Bool.not_eq_true', Bool.not_eq_false', ne_eq, Decidable.not_not, Bool.not_eq_true, Bool.not_eq_false] at q22) | (dsimp only at q22) | skip
    refine At.region rfl rfl ?_
    refine Reg.pur rfl rfl rfl rfl (Pur.asg rfl) ?_
    refine Reg.nil ?_
    refine At.ret rfl Tryd.func62 rfl ?_
    obtain rfl := n1 q22
    exact ⟨rfl, A1, c1, A2, c2, hN0, hM0⟩
  first | (simp only [decide_eq_true_eq, decide_eq_false_iff_not, Bool.not_eq_true', Bool.not_eq_false', ne_eq, Decidable.not_not, Bool.not_eq_true, Bool.not_eq_false] at q22) | (dsimp only at q22) | skip
  refine At.region rfl rfl ?_
  refine Reg.pur rfl rfl rfl rfl (Pur.eql rfl rfl) ?_
  refine Reg.pur rfl rfl rfl rfl (Pur.asg rfl) ?_
  refine Reg.nil ?_
  refine At.cond rfl rfl (fun q24 => ?_) (fun q24 => ?_)
  · first | (simp only [decide_eq_true_eq, decide_eq_false_iff_not, Bool.not_eq_true', Bool.not_eq_false', ne_eq, Decidable.not_not, Bool.not_eq_true, Bool.not_eq_false] at q24) | (dsimp only at q24) | skip
    refine At.drawE ((Bks.cons hX.blk (Bks.cons hB0.blk Bks.nil))) [5] mixed rfl rfl ?_
    refine RegD.take (i := 0) rfl rfl rfl rfl (by kernel_rfl) (Bks.cons hX.blk (Bks.cons hB0.blk Bks.nil)) (fun H hS => Lod.ld sc108 rfl hS.hd rfl) ?_
    refine RegD.tpur (i := 1) rfl rfl rfl rfl (by kernel_rfl) (Pur.mv rfl) ?_
    refine RegD.tpur (i := 2) rfl rfl rfl rfl (by kernel_rfl) (Pur.nilc rfl) ?_
    refine RegD.tpur (i := 3) rfl rfl rfl rfl (by kernel_rfl) (Pur.fld _ fo65_1 rfl) ?_
    refine RegD.take (i := 4) rfl rfl rfl rfl (by kernel_rfl) (Bks.cons hX.blk (Bks.cons hB0.blk Bks.nil)) (fun H hS => Lod.ld sc3 rfl hS.tl.hd (hat 1 (by omega))) ?_
    have hix := ixL_le T (x.getD 1 0)
    refine RegD.one (i := 5) (by kernel_rfl) rfl rfl rfl rfl (Does.call rfl (nm_Type _ hN0 (by omega))) ?_
    rintro _ H8_5 ⟨rfl, A1a, c1a, hN8_5, hM8_5⟩
    replace hX := hX.via hM8_5.1 hoX.not
    replace hB0 := hB0.via hM8_5.1 hoA.not
    refine ⟨fun h => (by cases h), ?_⟩
    refine RegD.one (i := 6) (by kernel_rfl) rfl rfl rfl rfl (Does.call rfl (itoa_ok (ixL T (x.getD 1 0)) (by omega) (hT0.via hM8_5.1 hoT.not))) ?_
    rintro _ H8_6 ⟨rfl, hD8_6⟩
    replace hX := hX.ext hD8_6
    replace hB0 := hB0.ext hD8_6
    refine ⟨fun _ _ => (Bks.cons hX.blk (Bks.cons hB0.blk Bks.nil)), ?_⟩
    refine RegD.tpur (i := 7) rfl rfl rfl rfl (by kernel_rfl) (Pur.addS rfl rfl (szs (sl1 _) (dec_size _) (by decide))) ?_
    refine RegD.tpur (i := 8) rfl rfl rfl rfl (by kernel_rfl) (Pur.asg rfl) ?_
    refine RegD.done (by kernel_rfl) ?_
    refine At.ret rfl Tryd.func62 rfl ?_
    have ht := n2 q24
    rw [ht]
    exact ⟨rfl, A1a, c1a, A2, c2, hN8_5.ext hD8_6, (hM0.trans hM8_5).ext hD8_6⟩
  first | (simp only [decide_eq_true_eq, decide_eq_false_iff_not, Bool.not_eq_true', Bool.not_eq_false', ne_eq, Decidable.not_not, Bool.not_eq_true, Bool.not_eq_false] at q24) | (dsimp only at q24) | skip
  obtain ⟨ta, r, tb, rfl, rfl⟩ := n3 q20 q22 q24
  obtain ⟨hoa, hr5, hrow, hob2⟩ := hok
  have hpa := ta.sz_pos
  have hpb := tb.sz_pos
  have e0 : (Tm.fn ta r tb).sz = ta.sz + tb.sz + 1 := rfl
  have sA : (tx (T, R) ta).1.size ≤ 358400 := Nat.le_trans (tx_size ta _ hoa) (by omega)
  have lA := tx_len ta (T, R)
  have lR := rnm_len (tx (T, R) ta).2.2 r
  have sR := rtx_size (R := (tx (T, R) ta).2.2) hr5 hrow
  have sB : (tx ((tx (T, R) ta).2.1, rnm (tx (T, R) ta).2.2 r) tb).1.size ≤ 358400 := Nat.le_trans (tx_size tb _ hob2) (by omega)
  dsimp only at lA
  have hrp := nod_row hd hr5
  refine At.drawE ((Bks.cons hX.blk (Bks.cons hB0.blk Bks.nil))) [6] mixed rfl rfl ?_
  refine RegD.take (i := 0) rfl rfl rfl rfl (by kernel_rfl) (Bks.cons hX.blk (Bks.cons hB0.blk Bks.nil)) (fun H hS => Lod.ld sc108 rfl hS.hd rfl) ?_
  refine RegD.tpur (i := 1) rfl rfl rfl rfl (by kernel_rfl) (Pur.mv rfl) ?_
  refine RegD.tpur (i := 2) rfl rfl rfl rfl (by kernel_rfl) (Pur.mv rfl) ?_
  refine RegD.tpur (i := 3) rfl rfl rfl rfl (by kernel_rfl) (Pur.nilc rfl) ?_
  refine RegD.tpur (i := 4) rfl rfl rfl rfl (by kernel_rfl) (Pur.fld _ fo65_2 rfl) ?_
  refine RegD.take (i := 5) rfl rfl rfl rfl (by kernel_rfl) (Bks.cons hX.blk (Bks.cons hB0.blk Bks.nil)) (fun H hS => Lod.ld sc3 rfl hS.tl.hd (show _ = some (I ((pre.length : Int) + ta.sz - 1)) from hat 2 (by omega))) ?_
  refine RegD.one (i := 6) (by kernel_rfl) rfl rfl rfl rfl (Does.call rfl (ihf ta pre _ (by omega) hoa (hLe.trans (spl_a ta r tb pre post)) hY0 hT0 hS0 hN0 (by omega) (by rw [hob]; exact hoA) hoY hoT _ rfl)) ?_
  rintro _ H9_6 ⟨rfl, A1a, c1a, A2a, c2a, hN9_6, hM9_6⟩
  have hX1 := hX.via hM9_6.1 hoX.not
  have hY1 := hY0.via hM9_6.1 hoY.not
  have hT1 := hT0.via hM9_6.1 hoT.not
  have hB1 := hB0.via hM9_6.1 hoA.not
  have hS1 := hS0.via hM9_6.1 (fun _ g hg => by rw [hob] at hg; obtain rfl : g = b := (by omega); exact hoA.not)
  have hoX1 := hoX.mod zX hM9_6
  have hoA1 := hoA.mod zB0 hM9_6
  have hoY1 := hoY.mod zY0 hM9_6
  have hoT1 := hoT.mod zT0 hM9_6
  have zX1 := Int.ofNat_lt.2 hX1.lt
  have zB1 := Int.ofNat_lt.2 hB1.lt
  have zY1 := Int.ofNat_lt.2 hY1.lt
  have zT1 := Int.ofNat_lt.2 hT1.lt
  refine ⟨fun h => (by cases h), ?_⟩
  refine RegD.tpur (i := 7) rfl rfl rfl rfl (by kernel_rfl) (Pur.asg rfl) ?_
  refine RegD.done (by kernel_rfl) ?_
  refine At.region rfl rfl ?_
  refine Reg.pur rfl rfl rfl rfl (Pur.mv rfl) ?_
  refine Reg.pur rfl rfl rfl rfl (Pur.nilc rfl) ?_
  refine Reg.pur rfl rfl rfl rfl (Pur.fld _ fo65_4 rfl) ?_
  refine Reg.pur rfl rfl rfl rfl (Pur.mkf rfl rfl) ?_
  refine Reg.op rfl rfl rfl rfl (Does.call rfl (rowW_ok hr5 hrow hX1 hT1 hoT1 hB1 hrp hN9_6 (by omega))) ?_
  rintro _ H10_4 ⟨rfl, A2b, c2b, hN10_4, hM10_4⟩
  have hX2 := hX1.via hM10_4.1 hoX1.not
  have hY2 := hY1.via hM10_4.1 hoY1.not
  have hT2 := hT1.via hM10_4.1 hoT1.not
  have hB2 := hB1.via hM10_4.1 hoA1.not
  have hS2 := hS1.via hM10_4.1 (fun _ g hg => by rw [hob] at hg; obtain rfl : g = b := (by omega); exact hoA1.not)
  have hoA2 := hoA1.mod zB1 hM10_4
  have hoY2 := hoY1.mod zY1 hM10_4
  have hoT2 := hoT1.mod zT1 hM10_4
  refine Reg.pur rfl rfl rfl rfl (Pur.asg rfl) ?_
  refine Reg.nil ?_
  refine At.drawE ((Bks.cons hX2.blk (Bks.cons hB2.blk Bks.nil))) [12] mixed rfl rfl ?_
  refine RegD.tpur (i := 0) rfl rfl rfl rfl (by kernel_rfl) (Pur.mv rfl) ?_
  refine RegD.tpur (i := 1) rfl rfl rfl rfl (by kernel_rfl) (Pur.addS rfl rfl (szs (sl1 _) sA (by decide))) ?_
  refine RegD.tpur (i := 2) rfl rfl rfl rfl (by kernel_rfl) (Pur.addS rfl rfl (szs (sza (sl1 _) sA) (sl2 _ _) (by decide))) ?_
  refine RegD.tpur (i := 3) rfl rfl rfl rfl (by kernel_rfl) (Pur.mv rfl) ?_
  refine RegD.tpur (i := 4) rfl rfl rfl rfl (by kernel_rfl) (Pur.addS rfl rfl (szs (sza (sza (sl1 _) sA) (sl2 _ _)) sR (by decide))) ?_
  refine RegD.tpur (i := 5) rfl rfl rfl rfl (by kernel_rfl) (Pur.addS rfl rfl (szs (sza (sza (sza (sl1 _) sA) (sl2 _ _)) sR) (sl1 _) (by decide))) ?_
  refine RegD.take (i := 6) rfl rfl rfl rfl (by kernel_rfl) (Bks.cons hX2.blk (Bks.cons hB2.blk Bks.nil)) (fun H hS => Lod.ld sc108 rfl hS.hd rfl) ?_
  refine RegD.tpur (i := 7) rfl rfl rfl rfl (by kernel_rfl) (Pur.mv rfl) ?_
  refine RegD.tpur (i := 8) rfl rfl rfl rfl (by kernel_rfl) (Pur.mv rfl) ?_
  refine RegD.tpur (i := 9) rfl rfl rfl rfl (by kernel_rfl) (Pur.nilc rfl) ?_
  refine RegD.tpur (i := 10) rfl rfl rfl rfl (by kernel_rfl) (Pur.fld _ fo65_3 rfl) ?_
  refine RegD.take (i := 11) rfl rfl rfl rfl (by kernel_rfl) (Bks.cons hX2.blk (Bks.cons hB2.blk Bks.nil)) (fun H hS => Lod.ld sc3 rfl hS.tl.hd (show _ = some (I ((pre.length : Int) + ta.sz + tb.sz - 1)) from hat 3 (by omega))) ?_
  refine RegD.one (i := 12) (by kernel_rfl) rfl rfl rfl rfl (Does.call rfl (ihf tb (pre ++ ta.enc pre.length) _ (by omega) hob2 (hLe.trans (spl_b ta r tb pre post)) hY2 hT2 hS2 hN10_4 (by first | omega | (dsimp only; omega)) (by rw [hob]; exact hoA2) hoY2 hoT2 _ (by rw [spl_l]; omega))) ?_
  rintro _ H11_12 ⟨rfl, A1d, c1d, A2d, c2d, hN11_12, hM11_12⟩
  refine ⟨fun h => (by cases h), ?_⟩
  refine RegD.tpur (i := 13) rfl rfl rfl rfl (by kernel_rfl) (Pur.addS rfl rfl (szs (sza (sza (sza (sza (sl1 _) sA) (sl2 _ _)) sR) (sl1 _)) sB (by decide))) ?_
  refine RegD.tpur (i := 14) rfl rfl rfl rfl (by kernel_rfl) (Pur.addS rfl rfl (szs (sza (sza (sza (sza (sza (sl1 _) sA) (sl2 _ _)) sR) (sl1 _)) sB) (sl1 _) (by decide))) ?_
  refine RegD.tpur (i := 15) rfl rfl rfl rfl (by kernel_rfl) (Pur.asg rfl) ?_
  refine RegD.done (by kernel_rfl) ?_
  refine At.ret rfl Tryd.func62 rfl ?_
  exact ⟨rfl, A1d, c1d, A2d, c2d, hN11_12, ((hM0.trans hM9_6).trans hM10_4).trans hM11_12⟩
end Go.Proofs.YtlfillhffpiffaaDoor

namespace Go.Proofs.YtlfillhffpiffaaDoor
set_option linter.unusedSimpArgs false
set_option linter.unusedVariables false
set_option maxRecDepth 8000
set_option maxHeartbeats 1000000
open Go Go.Fx Go.Proofs
namespace FactsDShD
theorem ag55 : ag Tryd.prog 55 = some 1 := by kernel_rfl
theorem fo55_0 : foff Tryd.prog 55 0 = some 0 := by kernel_rfl
theorem isl53 : isSl Tryd.prog 53 = true := by kernel_rfl
theorem pl100 : places Tryd.prog 100 = some [(0, 1), (1, 1)] := by kernel_rfl
theorem pl109 : places Tryd.prog 109 = some [(0, 1), (1, 1)] := by kernel_rfl
theorem sc4 : sc Tryd.prog 4 = true := by kernel_rfl
theorem sc53 : sc Tryd.prog 53 = true := by kernel_rfl
theorem zc100 : zc Tryd.prog 100 = some [.map none, .map none] := by kernel_rfl
theorem zc109 : zc Tryd.prog 109 = some [.slice none 0 0, .slice none 0 0] := by kernel_rfl
end FactsDShD
open FactsDShD

open Classical in
noncomputable def dcd (L : List (List Int)) : Tm := if h : ∃ t : Tm, t.ok ∧ t.sz ≤ 256 ∧ L = t.enc 0 then h.choose else .bas false
theorem dcd_enc {t : Tm} (h : t.ok) (hz : t.sz ≤ 256) : dcd (t.enc 0) = t := by
  unfold dcd
  have hx : ∃ u : Tm, u.ok ∧ u.sz ≤ 256 ∧ t.enc 0 = u.enc 0 := ⟨t, h, hz, rfl⟩
  rw [dif_pos hx]
  have h3 := hx.choose_spec
  exact enc_inj h3.1 h h3.2.1 h3.2.2.symm
noncomputable def txV (L : List (List Int)) : ByteArray × Int := if typM L then ((tx ([], []) (dcd L)).1, 0) else (⟨#[]⟩, 700)
noncomputable def insV (L K : List (List Int)) : Bool × Int := if typM L && typM K then ((inst [] (dcd L) (dcd K)).isSome, 0) else (false, 1100)
noncomputable def eqV (L K : List (List Int)) : Bool × Int := if typM L && typM K then ((txV L).1.toList == (txV K).1.toList, 0) else (false, 1100)
theorem txV_enc {t : Tm} (h : t.ok) (hz : t.sz ≤ 256) : txV (t.enc 0) = ((tx ([], []) t).1, 0) := by
  unfold txV; rw [enc_typ h hz, dcd_enc h hz]; rfl
theorem txV_no {L : List (List Int)} (h : typM L = false) : txV L = (⟨#[]⟩, 700) := by unfold txV; rw [h]; rfl
theorem insV_enc {t u : Tm} (h : t.ok) (hz : t.sz ≤ 256) (k : u.ok) (kz : u.sz ≤ 256) : insV (t.enc 0) (u.enc 0) = ((inst [] t u).isSome, 0) := by
  unfold insV; rw [enc_typ h hz, dcd_enc h hz, enc_typ k kz, dcd_enc k kz]; rfl
theorem insV_no1 {L K : List (List Int)} (h : typM L = false) : insV L K = (false, 1100) := by unfold insV; rw [h]; rfl
theorem insV_no2 {L K : List (List Int)} (h : typM K = false) : insV L K = (false, 1100) := by unfold insV; rw [h, Bool.and_false]; rfl
theorem txV_snd (L : List (List Int)) : (txV L).2 = 0 ↔ typM L = true := by
  unfold txV; cases typM L <;> simp
theorem eqV_yes {L K : List (List Int)} (h : typM L = true) (k : typM K = true) : eqV L K = ((txV L).1.toList == (txV K).1.toList, 0) := by
  unfold eqV; rw [h, k]; rfl
theorem eqV_no1 {L K : List (List Int)} (h : ¬ typM L = true) : eqV L K = (false, 1100) := by unfold eqV; rw [show typM L = false by simpa using h]; rfl
theorem eqV_no2 {L K : List (List Int)} (h : ¬ typM K = true) : eqV L K = (false, 1100) := by unfold eqV; rw [show typM K = false by simpa using h, Bool.and_false]; rfl

theorem instG_ok {A1 A2 : Option Addr} {c1 c2 : Nat} {L K : List (List Int)} (hL : Nine L) (hK : Nine K) {H : Heap} (hS1 : SlT H Is 9 (.slice A1 L.length c1) L) (hS2 : SlT H Is 9 (.slice A2 K.length c2) K) (hl : L.length ≤ 9223372036854775807) (hk : K.length ≤ 9223372036854775807) :
    Ret Tryd.prog 33 [Ty A1 L.length c1, Ty A2 K.length c2] H (fun v H' => v = .tuple #[.bool (insV L K).1, I (insV L K).2] ∧ Ext H H') := by
  refine Ret.of_at (N := 21) Tryd.call33 Tryd.func33 rfl rfl rfl ?_
  have hE := Ext.refl H
  refine At.region rfl rfl ?_
  refine Reg.op rfl rfl rfl rfl (Does.box rfl rfl) ?_
  rintro _ H0_0 ⟨rfl, hn0_0⟩
  have z0_0 := hn0_0.size
  replace hE := hE.ext hn0_0.ext
  have o0_0 := hn0_0.own
  refine Reg.op rfl rfl rfl rfl (Does.box rfl rfl) ?_
  rintro _ H0_1 ⟨rfl, hn0_1⟩
  have z0_1 := hn0_1.size
  replace hE := hE.ext hn0_1.ext
  replace o0_0 := o0_0.ext hn0_1.ext
  have o0_1 := hn0_1.own
  refine Reg.pur rfl rfl rfl rfl (Pur.asg rfl) ?_
  refine Reg.pur rfl rfl rfl rfl (Pur.asg rfl) ?_
  refine Reg.nil ?_
  refine At.region rfl rfl ?_
  refine Reg.lod rfl rfl rfl rfl (Lod.ldn ag55 rfl o0_0.blk (whole rfl) rfl) ?_
  refine Reg.op rfl rfl rfl rfl (Does.call rfl (typMay_ok L hL (hS1.ext hE) hl)) ?_
  rintro _ H1_1 ⟨rfl, hE1_1⟩
  have z1_1 := hE1_1.lt
  replace hE := hE.ext hE1_1
  replace o0_0 := o0_0.ext hE1_1
  replace o0_1 := o0_1.ext hE1_1
  refine Reg.pur rfl rfl rfl rfl (Pur.not rfl) ?_
  refine Reg.pur rfl rfl rfl rfl (Pur.mv rfl) ?_
  refine Reg.case 10 rfl (fun q10 => ?_) (fun q10 => ?_)
  · first | (simp only [decide_eq_true_eq, decide_eq_false_iff_not, Bool.not_eq_true', Bool.not_eq_false', ne_eq, Decidable.not_not, Bool.not_eq_true, Bool.not_eq_false] at q10) | (dsimp only at q10) | skip
    refine Reg.skip rfl rfl rfl rfl rfl rfl rfl ?_
    refine Reg.skip rfl rfl rfl rfl rfl rfl rfl ?_
    refine Reg.skip rfl rfl rfl rfl rfl rfl rfl ?_
    refine Reg.pur rfl rfl rfl rfl (Pur.pickT rfl rfl) ?_
    refine Reg.nil ?_
    refine At.condT rfl rfl rfl ?_
    refine At.region rfl rfl ?_
    refine Reg.pur rfl rfl rfl rfl (Pur.asg rfl) ?_
    refine Reg.pur rfl rfl rfl rfl (Pur.asg rfl) ?_
    refine Reg.nil ?_
    refine At.ret rfl Tryd.func33 rfl ?_
    rw [insV_no1 q10]; exact ⟨rfl, hE⟩
  first | (simp only [decide_eq_true_eq, decide_eq_false_iff_not, Bool.not_eq_true', Bool.not_eq_false', ne_eq, Decidable.not_not, Bool.not_eq_true, Bool.not_eq_false] at q10) | (dsimp only at q10) | skip
  refine Reg.glod rfl rfl rfl rfl rfl rfl (Lod.ldn ag55 rfl o0_1.blk (whole rfl) rfl) ?_
  refine Reg.gop rfl rfl rfl rfl rfl rfl (Does.call rfl (typMay_ok K hK (hS2.ext hE) hk)) ?_
  rintro _ H1_5 ⟨rfl, hE1_5⟩
  have z1_5 := hE1_5.lt
  replace hE := hE.ext hE1_5
  replace o0_0 := o0_0.ext hE1_5
  replace o0_1 := o0_1.ext hE1_5
  refine Reg.gpur rfl rfl rfl rfl rfl rfl (Pur.not rfl) ?_
  refine Reg.pur rfl rfl rfl rfl (Pur.pickF rfl rfl) ?_
  refine Reg.nil ?_
  refine At.cond rfl rfl (fun q14 => ?_) (fun q14 => ?_)
  · first | (simp only [decide_eq_true_eq, decide_eq_false_iff_not, Bool.not_eq_true', Bool.not_eq_false', ne_eq, Decidable.not_not, Bool.not_eq_true, Bool.not_eq_false] at q14) | (dsimp only at q14) | skip
    refine At.region rfl rfl ?_
    refine Reg.pur rfl rfl rfl rfl (Pur.asg rfl) ?_
    refine Reg.pur rfl rfl rfl rfl (Pur.asg rfl) ?_
    refine Reg.nil ?_
    refine At.ret rfl Tryd.func33 rfl ?_
    rw [insV_no2 q14]; exact ⟨rfl, hE⟩
  first | (simp only [decide_eq_true_eq, decide_eq_false_iff_not, Bool.not_eq_true', Bool.not_eq_false', ne_eq, Decidable.not_not, Bool.not_eq_true, Bool.not_eq_false] at q14) | (dsimp only at q14) | skip
  obtain ⟨g, hg, rfl, hgz⟩ := typ_dec hL q10
  obtain ⟨s, hs, rfl, hsz⟩ := typ_dec hK q14
  have hgn := g.enc_len 0
  have hsn := s.enc_len 0
  refine At.region rfl rfl ?_
  refine Reg.op rfl rfl rfl rfl (Does.mkm) ?_
  rintro _ H3_0 ⟨rfl, hm3_0, hE3_0, hsz3_0⟩
  have z3_0 := hE3_0.lt
  replace hE := hE.ext hE3_0
  replace o0_0 := o0_0.ext hE3_0
  replace o0_1 := o0_1.ext hE3_0
  have z_hm3_0 := hm3_0.lt
  refine Reg.op rfl rfl rfl rfl (Does.mkm) ?_
  rintro _ H3_1 ⟨rfl, hm3_1, hE3_1, hsz3_1⟩
  have z3_1 := hE3_1.lt
  replace hE := hE.ext hE3_1
  replace o0_0 := o0_0.ext hE3_1
  replace o0_1 := o0_1.ext hE3_1
  replace hm3_0 := hm3_0.ext hE3_1
  have z_hm3_1 := hm3_1.lt
  refine Reg.pur rfl rfl rfl rfl (Pur.bld (cs := [_, _]) pl100 zc100 rfl rfl ⟨rfl, rfl, rfl⟩) ?_
  refine Reg.op rfl rfl rfl rfl (Does.box rfl rfl) ?_
  rintro _ H3_3 ⟨rfl, hn3_3⟩
  have z3_3 := hn3_3.size
  replace hE := hE.ext hn3_3.ext
  replace o0_0 := o0_0.ext hn3_3.ext
  replace o0_1 := o0_1.ext hn3_3.ext
  replace hm3_0 := hm3_0.ext hn3_3.ext
  replace hm3_1 := hm3_1.ext hn3_3.ext
  have o3_3 := hn3_3.own
  refine Reg.pur rfl rfl rfl rfl (Pur.asg rfl) ?_
  refine Reg.nil ?_
  refine At.region rfl rfl ?_
  refine Reg.pur rfl rfl rfl rfl (Pur.mv rfl) ?_
  refine Reg.op rfl rfl rfl rfl (Does.call rfl (typedG_ok (by omega) g.sz g s (Nat.le_refl _) hg hgz hs hsz o3_3 hm3_0 hm3_1 (tyM_nil _) rwM_nil o0_0.blk (at0 _) (hS1.ext hE) o0_1.blk (at0 _) (hS2.ext hE))) ?_
  rintro v4_1 H4_1 hP
  obtain ⟨rfl, f1, f2, _, _, _, hC⟩ := hP
  refine Reg.pur rfl rfl rfl rfl (Pur.asg rfl) ?_
  refine Reg.pur rfl rfl rfl rfl (Pur.asg rfl) ?_
  refine Reg.nil ?_
  refine At.ret rfl Tryd.func33 rfl ?_
  rw [insV_enc hg hgz hs hsz]; exact ⟨rfl, hE.via hC (fun x hx h => by omega)⟩
theorem typText_ok {A : Option Addr} {cap : Nat} {L : List (List Int)} (hL : Nine L) {H : Heap} (hT : Tens H) (hS : SlT H Is 9 (.slice A L.length cap) L) (hl : L.length ≤ 9223372036854775807) :
    Ret Tryd.prog 39 [Ty A L.length cap] H (fun v H' => v = .tuple #[.string (txV L).1, I (txV L).2] ∧ Ext H H') := by
  have zT : gT < H.size := hT.lt
  refine Ret.of_at (N := 14) Tryd.call39 Tryd.func39 rfl rfl rfl ?_
  have hE := Ext.refl H
  refine At.region rfl rfl ?_
  refine Reg.op rfl rfl rfl rfl (Does.box rfl rfl) ?_
  rintro _ H0_0 ⟨rfl, hn0_0⟩
  have z0_0 := hn0_0.size
  replace hE := hE.ext hn0_0.ext
  have o0_0 := hn0_0.own
  refine Reg.pur rfl rfl rfl rfl (Pur.asg rfl) ?_
  refine Reg.pur rfl rfl rfl rfl (Pur.asg rfl) ?_
  refine Reg.nil ?_
  refine At.region rfl rfl ?_
  refine Reg.lod rfl rfl rfl rfl (Lod.ldn ag55 rfl o0_0.blk (whole rfl) rfl) ?_
  refine Reg.op rfl rfl rfl rfl (Does.call rfl (typMay_ok L hL (hS.ext hE) hl)) ?_
  rintro _ H1_1 ⟨rfl, hE1_1⟩
  have z1_1 := hE1_1.lt
  replace hE := hE.ext hE1_1
  replace o0_0 := o0_0.ext hE1_1
  refine Reg.pur rfl rfl rfl rfl (Pur.not rfl) ?_
  refine Reg.nil ?_
  refine At.cond rfl rfl (fun q6 => ?_) (fun q6 => ?_)
  · first | (simp only [decide_eq_true_eq, decide_eq_false_iff_not, Bool.not_eq_true', Bool.not_eq_false', ne_eq, Decidable.not_not, Bool.not_eq_true, Bool.not_eq_false] at q6) | (dsimp only at q6) | skip
    refine At.region rfl rfl ?_
    refine Reg.pur rfl rfl rfl rfl (Pur.asg rfl) ?_
    refine Reg.pur rfl rfl rfl rfl (Pur.asg rfl) ?_
    refine Reg.nil ?_
    refine At.ret rfl Tryd.func39 rfl ?_
    rw [txV_no q6]; exact ⟨rfl, hE⟩
  first | (simp only [decide_eq_true_eq, decide_eq_false_iff_not, Bool.not_eq_true', Bool.not_eq_false', ne_eq, Decidable.not_not, Bool.not_eq_true, Bool.not_eq_false] at q6) | (dsimp only at q6) | skip
  obtain ⟨t, hok, rfl, hsz⟩ := typ_dec hL q6
  have hl' : (t.enc 0).length = t.sz := Tm.enc_len t 0
  have hpos := t.sz_pos
  refine At.region rfl rfl ?_
  refine Reg.pur rfl rfl rfl rfl (Pur.bld (cs := [_, _]) pl109 zc109 rfl rfl ⟨rfl, rfl, rfl⟩) ?_
  refine Reg.op rfl rfl rfl rfl (Does.box rfl rfl) ?_
  rintro _ H3_1 ⟨rfl, hn3_1⟩
  have z3_1 := hn3_1.size
  replace hE := hE.ext hn3_1.ext
  replace o0_0 := o0_0.ext hn3_1.ext
  have o3_1 := hn3_1.own
  refine Reg.pur rfl rfl rfl rfl (Pur.fld _ fo55_0 rfl) ?_
  refine Reg.lod rfl rfl rfl rfl (Lod.ld sc53 rfl o0_0.blk rfl) ?_
  refine Reg.pur rfl rfl rfl rfl (Pur.lenS isl53 rfl) ?_
  refine Reg.pur rfl rfl rfl rfl (Pur.sub64 rfl rfl (by omega)) ?_
  refine Reg.op rfl rfl rfl rfl (Does.call rfl (textP_ok hL (by omega) (at0 _) t.sz t [] [] (Nat.le_refl _) hok (by simp) o0_0.blk (hT.ext hE) (hS.ext hE) (nm_new (B := H.size) o3_1 (by omega)) (by simp; omega) (off_none (by have := hS.lt; omega) (by have := hS.lt; omega)) (off_none (by omega) (by omega)) (off_none (by omega) (by omega)) _ (by rw [hl']; simp))) ?_
  rintro _ H3_6 ⟨rfl, A1, c1, A2, c2, hN3_6, hM3_6⟩
  refine Reg.pur rfl rfl rfl rfl (Pur.asg rfl) ?_
  refine Reg.pur rfl rfl rfl rfl (Pur.asg rfl) ?_
  refine Reg.nil ?_
  refine At.ret rfl Tryd.func39 rfl ?_
  rw [txV_enc hok hsz]; exact ⟨rfl, mod_ext hM3_6 hE (by omega)⟩
theorem equal_ok {A1 A2 : Option Addr} {c1 c2 : Nat} {L K : List (List Int)} (hL : Nine L) (hK : Nine K) {H : Heap} (hT : Tens H) (hS1 : SlT H Is 9 (.slice A1 L.length c1) L) (hS2 : SlT H Is 9 (.slice A2 K.length c2) K) (hl : L.length ≤ 9223372036854775807) (hk : K.length ≤ 9223372036854775807) :
    Ret Tryd.prog 35 [Ty A1 L.length c1, Ty A2 K.length c2] H (fun v H' => v = .tuple #[.bool (eqV L K).1, I (eqV L K).2] ∧ Ext H H') := by
  refine Ret.of_at (N := 29) Tryd.call35 Tryd.func35 rfl rfl rfl ?_
  have hE := Ext.refl H
  refine At.region rfl rfl ?_
  refine Reg.op rfl rfl rfl rfl (Does.box rfl rfl) ?_
  rintro _ H0_0 ⟨rfl, hn0_0⟩
  have z0_0 := hn0_0.size
  replace hE := hE.ext hn0_0.ext
  have o0_0 := hn0_0.own
  refine Reg.op rfl rfl rfl rfl (Does.box rfl rfl) ?_
  rintro _ H0_1 ⟨rfl, hn0_1⟩
  have z0_1 := hn0_1.size
  replace hE := hE.ext hn0_1.ext
  replace o0_0 := o0_0.ext hn0_1.ext
  have o0_1 := hn0_1.own
  refine Reg.pur rfl rfl rfl rfl (Pur.asg rfl) ?_
  refine Reg.pur rfl rfl rfl rfl (Pur.asg rfl) ?_
  refine Reg.nil ?_
  refine At.region rfl rfl ?_
  refine Reg.lod rfl rfl rfl rfl (Lod.ldn ag55 rfl o0_0.blk (whole rfl) rfl) ?_
  refine Reg.op rfl rfl rfl rfl (Does.call rfl (typText_ok hL (hT.ext hE) (hS1.ext hE) hl)) ?_
  rintro _ H1_1 ⟨rfl, hE1_1⟩
  have z1_1 := hE1_1.lt
  replace hE := hE.ext hE1_1
  replace o0_0 := o0_0.ext hE1_1
  replace o0_1 := o0_1.ext hE1_1
  refine Reg.pur rfl rfl rfl rfl (Pur.mv rfl) ?_
  refine Reg.pur rfl rfl rfl rfl (Pur.ext rfl rfl) ?_
  refine Reg.pur rfl rfl rfl rfl (Pur.ext rfl rfl) ?_
  refine Reg.pur rfl rfl rfl rfl (Pur.asg rfl) ?_
  refine Reg.pur rfl rfl rfl rfl (Pur.asg rfl) ?_
  refine Reg.nil ?_
  refine At.region rfl rfl ?_
  refine Reg.lod rfl rfl rfl rfl (Lod.ldn ag55 rfl o0_1.blk (whole rfl) rfl) ?_
  refine Reg.op rfl rfl rfl rfl (Does.call rfl (typText_ok hK (hT.ext hE) (hS2.ext hE) hk)) ?_
  rintro _ H2_1 ⟨rfl, hE2_1⟩
  have z2_1 := hE2_1.lt
  replace hE := hE.ext hE2_1
  replace o0_0 := o0_0.ext hE2_1
  replace o0_1 := o0_1.ext hE2_1
  refine Reg.pur rfl rfl rfl rfl (Pur.mv rfl) ?_
  refine Reg.pur rfl rfl rfl rfl (Pur.ext rfl rfl) ?_
  refine Reg.pur rfl rfl rfl rfl (Pur.ext rfl rfl) ?_
  refine Reg.pur rfl rfl rfl rfl (Pur.asg rfl) ?_
  refine Reg.pur rfl rfl rfl rfl (Pur.asg rfl) ?_
  refine Reg.nil ?_
  refine At.region rfl rfl ?_
  refine Reg.pur rfl rfl rfl rfl (Pur.mv rfl) ?_
  refine Reg.pur rfl rfl rfl rfl (Pur.neq rfl rfl) ?_
  refine Reg.pur rfl rfl rfl rfl (Pur.mv rfl) ?_
  refine Reg.case 22 rfl (fun q22 => ?_) (fun q22 => ?_)
  · first | (simp only [decide_eq_true_eq, decide_eq_false_iff_not, Bool.not_eq_true', Bool.not_eq_false', ne_eq, Decidable.not_not, Bool.not_eq_true, Bool.not_eq_false] at q22) | (dsimp only at q22) | skip
    refine Reg.skip rfl rfl rfl rfl rfl rfl rfl ?_
    refine Reg.skip rfl rfl rfl rfl rfl rfl rfl ?_
    refine Reg.pur rfl rfl rfl rfl (Pur.pickT rfl rfl) ?_
    refine Reg.nil ?_
    refine At.condT rfl rfl rfl ?_
    refine At.region rfl rfl ?_
    refine Reg.pur rfl rfl rfl rfl (Pur.asg rfl) ?_
    refine Reg.pur rfl rfl rfl rfl (Pur.asg rfl) ?_
    refine Reg.nil ?_
    refine At.ret rfl Tryd.func35 rfl ?_
    rw [txV_snd] at q22; rw [eqV_no1 q22]; exact ⟨rfl, hE⟩
  first | (simp only [decide_eq_true_eq, decide_eq_false_iff_not, Bool.not_eq_true', Bool.not_eq_false', ne_eq, Decidable.not_not, Bool.not_eq_true, Bool.not_eq_false] at q22) | (dsimp only at q22) | skip
  refine Reg.gpur rfl rfl rfl rfl rfl rfl (Pur.mv rfl) ?_
  refine Reg.gpur rfl rfl rfl rfl rfl rfl (Pur.neq rfl rfl) ?_
  refine Reg.pur rfl rfl rfl rfl (Pur.pickF rfl rfl) ?_
  refine Reg.nil ?_
  refine At.cond rfl rfl (fun q25 => ?_) (fun q25 => ?_)
  · first | (simp only [decide_eq_true_eq, decide_eq_false_iff_not, Bool.not_eq_true', Bool.not_eq_false', ne_eq, Decidable.not_not, Bool.not_eq_true, Bool.not_eq_false] at q25) | (dsimp only at q25) | skip
    refine At.region rfl rfl ?_
    refine Reg.pur rfl rfl rfl rfl (Pur.asg rfl) ?_
    refine Reg.pur rfl rfl rfl rfl (Pur.asg rfl) ?_
    refine Reg.nil ?_
    refine At.ret rfl Tryd.func35 rfl ?_
    rw [txV_snd] at q25; rw [eqV_no2 q25]; exact ⟨rfl, hE⟩
  first | (simp only [decide_eq_true_eq, decide_eq_false_iff_not, Bool.not_eq_true', Bool.not_eq_false', ne_eq, Decidable.not_not, Bool.not_eq_true, Bool.not_eq_false] at q25) | (dsimp only at q25) | skip
  refine At.region rfl rfl ?_
  refine Reg.pur rfl rfl rfl rfl (Pur.mv rfl) ?_
  refine Reg.pur rfl rfl rfl rfl (Pur.mv rfl) ?_
  refine Reg.pur rfl rfl rfl rfl (Pur.eqS rfl rfl) ?_
  refine Reg.pur rfl rfl rfl rfl (Pur.asg rfl) ?_
  refine Reg.pur rfl rfl rfl rfl (Pur.asg rfl) ?_
  refine Reg.nil ?_
  refine At.ret rfl Tryd.func35 rfl ?_
  rw [txV_snd] at q22 q25
  rw [eqV_yes q22 q25]; exact ⟨rfl, hE⟩
end Go.Proofs.YtlfillhffpiffaaDoor

namespace Go.Proofs.YtlfillhffpiffaaDoor
set_option linter.unusedSimpArgs false
set_option linter.unusedVariables false
set_option maxRecDepth 8000
set_option maxHeartbeats 1000000
open Go Go.Fx Go.Proofs
namespace FactsDMaA
theorem ag24 : ag Tryd.prog 24 = some 5 := by kernel_rfl
theorem ag55 : ag Tryd.prog 55 = some 1 := by kernel_rfl
theorem arr22 : arr Tryd.prog 22 = some (4, 1) := by kernel_rfl
theorem fo24_0 : foff Tryd.prog 24 0 = some 0 := by kernel_rfl
theorem pl24 : places Tryd.prog 24 = some [(0, 4), (4, 1)] := by kernel_rfl
theorem pl55 : places Tryd.prog 55 = some [(0, 1)] := by kernel_rfl
theorem pl65 : places Tryd.prog 65 = some [(0, 1), (1, 1), (2, 1), (3, 1), (4, 5)] := by kernel_rfl
theorem sc3 : sc Tryd.prog 3 = true := by kernel_rfl
theorem slA53 : slA Tryd.prog 53 = some (65, 9) := by kernel_rfl
theorem zc24 : zc Tryd.prog 24 = some [.int .i64 0, .int .i64 0, .int .i64 0, .int .i64 0, .int .i64 0] := by kernel_rfl
theorem zc55 : zc Tryd.prog 55 = some [.slice none 0 0] := by kernel_rfl
theorem zc65 : zc Tryd.prog 65 = some [.int .i64 0, .int .i64 0, .int .i64 0, .int .i64 0, .int .i64 0, .int .i64 0, .int .i64 0, .int .i64 0, .int .i64 0] := by kernel_rfl
end FactsDMaA
open FactsDMaA

abbrev maG : Tm := .fn (.var 5) [0, 0, 0, 0, 2] (.var 5)
abbrev maS : Tm := .fn (.bas false) [0, 0, 0, 1, -1] (.bas false)
theorem maGok : maG.ok := ⟨⟨by decide, by decide⟩, rfl, rfl, ⟨by decide, by decide⟩⟩
theorem maSok : maS.ok := ⟨trivial, rfl, rfl, trivial⟩
theorem maI1 : insV (maG.enc 0) (maS.enc 0) = (true, 0) := by rw [insV_enc maGok (by decide) maSok (by decide)]; exact congrArg (fun b => (b, (0 : Int))) (by kernel_rfl)
theorem maI2 : insV (maS.enc 0) (maG.enc 0) = (false, 0) := by rw [insV_enc maSok (by decide) maGok (by decide)]; exact congrArg (fun b => (b, (0 : Int))) (by kernel_rfl)
theorem maE1 : eqV (maG.enc 0) (maS.enc 0) = (false, 0) := by
  rw [eqV_yes (enc_typ maGok (by decide)) (enc_typ maSok (by decide)), txV_enc maGok (by decide), txV_enc maSok (by decide)]
  dsimp only
  rw [ByteArray.toList_eq, ByteArray.toList_eq]
  exact congrArg (fun b => (b, (0 : Int))) (by kernel_rfl)
theorem maE2 : eqV (maG.enc 0) [] = (false, 1100) := eqV_no2 (by decide)
theorem awake11_ok {H : Heap} (hT : Tens H) : Ret Tryd.prog 38 [] H (fun v H' => v = .bool true ∧ Ext H H') := by
  have hg9 := maG.enc_nine 0 maGok
  have hs9 := maS.enc_nine 0 maSok
  refine Ret.of_at (N := 80) Tryd.call38 Tryd.func38 rfl rfl rfl ?_
  have hE := Ext.refl H
  refine At.region rfl rfl ?_
  refine Reg.pur rfl rfl rfl rfl (Pur.asg rfl) ?_
  refine Reg.nil ?_
  refine At.region rfl rfl ?_
  refine Reg.pur rfl rfl rfl rfl (Pur.bld (cs := [_, _, _, _, _, _, _, _, _]) pl65 zc65 rfl rfl ⟨rfl, rfl, rfl, rfl, rfl, rfl, rfl, rfl, rfl, rfl⟩) ?_
  refine Reg.pur rfl rfl rfl rfl (Pur.bld (cs := [_, _, _, _, _, _, _, _, _]) pl65 zc65 rfl rfl ⟨rfl, rfl, rfl, rfl, rfl, rfl, rfl, rfl, rfl, rfl⟩) ?_
  refine Reg.pur rfl rfl rfl rfl (Pur.bld (cs := [_, _, _, _, _]) pl24 zc24 rfl rfl ⟨rfl, rfl, rfl, rfl, rfl, rfl⟩) ?_
  refine Reg.pur rfl rfl rfl rfl (Pur.bld (cs := [_, _, _, _, _, _, _, _, _]) pl65 zc65 rfl rfl ⟨rfl, rfl, rfl, rfl, rfl, rfl, rfl, rfl, rfl, rfl⟩) ?_
  refine Reg.op rfl rfl rfl rfl (Does.bslA ([Is (vNode 5), Is (vNode 5), Is (fNode 0 1 [0, 0, 0, 0, 2])]) slA53 rfl rfl rfl rfl rfl rfl) ?_
  rintro _ H1_4 ⟨rfl, hp1_4⟩
  have hn1_4 := New.of_eq hp1_4
  have z1_4 := hn1_4.size
  replace hE := hE.ext hn1_4.ext
  have o1_4 := hn1_4.own
  have hSg : SlT H1_4 Is 9 (.slice (some ⟨H.size, 0, none⟩) (maG.enc 0).length 3) (maG.enc 0) := sl_own (L := maG.enc 0) (wide9 hg9) (by decide) o1_4 (by decide)
  have z_hSg := hSg.lt
  refine Reg.pur rfl rfl rfl rfl (Pur.bld (cs := [_]) pl55 zc55 rfl rfl ⟨rfl, rfl⟩) ?_
  refine Reg.op rfl rfl rfl rfl (Does.alloc zc55) ?_
  rintro _ H1_6 ⟨rfl, hn1_6⟩
  have z1_6 := hn1_6.size
  replace hE := hE.ext hn1_6.ext
  replace o1_4 := o1_4.ext hn1_6.ext
  replace hSg := hSg.ext hn1_6.ext
  have o1_6 := hn1_6.own
  refine Reg.op0 rfl rfl rfl (Does.stn ag55 rfl rfl (by first | rfl | exact ones_Is _) (by first | rfl | (simp [*]; done)) o1_6 (by first | decide | (simp; done) | (simp; omega) | omega)) ?_
  rintro _ H1_7 hu1_7
  have z1_7 := hu1_7.size
  replace hE := hE.upw hu1_7 (by omega)
  replace o1_4 := o1_4.upw hu1_7 (by omega)
  replace hSg := hSg.upw hu1_7 (by omega)
  replace o1_6 := hu1_7.own
  first | rw [over (by first | rfl | (simp; done))] at o1_6 | skip
  refine Reg.nil ?_
  refine At.region rfl rfl ?_
  refine Reg.pur rfl rfl rfl rfl (Pur.bld (cs := [_, _, _, _, _]) pl24 zc24 rfl rfl ⟨rfl, rfl, rfl, rfl, rfl, rfl⟩) ?_
  refine Reg.op rfl rfl rfl rfl (Does.alloc zc24) ?_
  rintro _ H2_1 ⟨rfl, hn2_1⟩
  have z2_1 := hn2_1.size
  replace hE := hE.ext hn2_1.ext
  replace o1_4 := o1_4.ext hn2_1.ext
  replace hSg := hSg.ext hn2_1.ext
  replace o1_6 := o1_6.ext hn2_1.ext
  have o2_1 := hn2_1.own
  refine Reg.op0 rfl rfl rfl (Does.stn ag24 rfl rfl (by first | rfl | exact ones_Is _) (by first | rfl | (simp [*]; done)) o2_1 (by first | decide | (simp; done) | (simp; omega) | omega)) ?_
  rintro _ H2_2 hu2_2
  have z2_2 := hu2_2.size
  replace hE := hE.upw hu2_2 (by omega)
  replace o1_4 := o1_4.upw hu2_2 (by omega)
  replace hSg := hSg.upw hu2_2 (by omega)
  replace o1_6 := o1_6.upw hu2_2 (by omega)
  replace o2_1 := hu2_2.own
  first | rw [over (by first | rfl | (simp; done))] at o2_1 | skip
  refine Reg.nil ?_
  refine At.region rfl rfl ?_
  refine Reg.pur rfl rfl rfl rfl (Pur.fld _ fo24_0 rfl) ?_
  refine Reg.pur rfl rfl rfl rfl (Pur.idxP arr22 rfl rfl (by omega) (by omega)) ?_
  refine Reg.op0 rfl rfl rfl (Does.st sc3 rfl rfl rfl o2_1 (by first | decide | (simp; done) | (simp; omega) | omega)) ?_
  rintro _ H3_2 hu3_2
  have z3_2 := hu3_2.size
  replace hE := hE.upw hu3_2 (by omega)
  replace o1_4 := o1_4.upw hu3_2 (by omega)
  replace hSg := hSg.upw hu3_2 (by omega)
  replace o1_6 := o1_6.upw hu3_2 (by omega)
  replace o2_1 := hu3_2.own
  refine Reg.nil ?_
  refine At.region rfl rfl ?_
  refine Reg.pur rfl rfl rfl rfl (Pur.bld (cs := [_, _, _, _, _, _, _, _, _]) pl65 zc65 rfl rfl ⟨rfl, rfl, rfl, rfl, rfl, rfl, rfl, rfl, rfl, rfl⟩) ?_
  refine Reg.pur rfl rfl rfl rfl (Pur.bld (cs := [_, _, _, _, _, _, _, _, _]) pl65 zc65 rfl rfl ⟨rfl, rfl, rfl, rfl, rfl, rfl, rfl, rfl, rfl, rfl⟩) ?_
  refine Reg.lod rfl rfl rfl rfl (Lod.ldn ag24 rfl o2_1.blk rfl rfl) ?_
  refine Reg.pur rfl rfl rfl rfl (Pur.bld (cs := [_, _, _, _, _, _, _, _, _]) pl65 zc65 rfl rfl ⟨rfl, rfl, rfl, rfl, rfl, rfl, rfl, rfl, rfl, rfl⟩) ?_
  refine Reg.op rfl rfl rfl rfl (Does.bslA ([Is (bNode false), Is (bNode false), Is (fNode 0 1 [0, 0, 0, 1, -1])]) slA53 rfl rfl rfl rfl rfl rfl) ?_
  rintro _ H4_4 ⟨rfl, hp4_4⟩
  have hn4_4 := New.of_eq hp4_4
  have z4_4 := hn4_4.size
  replace hE := hE.ext hn4_4.ext
  replace o1_4 := o1_4.ext hn4_4.ext
  replace hSg := hSg.ext hn4_4.ext
  replace o1_6 := o1_6.ext hn4_4.ext
  replace o2_1 := o2_1.ext hn4_4.ext
  have o4_4 := hn4_4.own
  have hSs : SlT H4_4 Is 9 _ (maS.enc 0) := sl_own (L := maS.enc 0) (wide9 hs9) (by decide) o4_4 (by decide)
  have z_hSs := hSs.lt
  refine Reg.pur rfl rfl rfl rfl (Pur.bld (cs := [_]) pl55 zc55 rfl rfl ⟨rfl, rfl⟩) ?_
  refine Reg.op rfl rfl rfl rfl (Does.alloc zc55) ?_
  rintro _ H4_6 ⟨rfl, hn4_6⟩
  have z4_6 := hn4_6.size
  replace hE := hE.ext hn4_6.ext
  replace o1_4 := o1_4.ext hn4_6.ext
  replace hSg := hSg.ext hn4_6.ext
  replace o1_6 := o1_6.ext hn4_6.ext
  replace o2_1 := o2_1.ext hn4_6.ext
  replace o4_4 := o4_4.ext hn4_6.ext
  replace hSs := hSs.ext hn4_6.ext
  have o4_6 := hn4_6.own
  refine Reg.op0 rfl rfl rfl (Does.stn ag55 rfl rfl (by first | rfl | exact ones_Is _) (by first | rfl | (simp [*]; done)) o4_6 (by first | decide | (simp; done) | (simp; omega) | omega)) ?_
  rintro _ H4_7 hu4_7
  have z4_7 := hu4_7.size
  replace hE := hE.upw hu4_7 (by omega)
  replace o1_4 := o1_4.upw hu4_7 (by omega)
  replace hSg := hSg.upw hu4_7 (by omega)
  replace o1_6 := o1_6.upw hu4_7 (by omega)
  replace o2_1 := o2_1.upw hu4_7 (by omega)
  replace o4_4 := o4_4.upw hu4_7 (by omega)
  replace hSs := hSs.upw hu4_7 (by omega)
  replace o4_6 := hu4_7.own
  first | rw [over (by first | rfl | (simp; done))] at o4_6 | skip
  refine Reg.nil ?_
  refine At.region rfl rfl ?_
  refine Reg.lod rfl rfl rfl rfl (Lod.ldn ag55 rfl o1_6.blk (whole rfl) rfl) ?_
  refine Reg.lod rfl rfl rfl rfl (Lod.ldn ag55 rfl o4_6.blk (whole rfl) rfl) ?_
  refine Reg.op rfl rfl rfl rfl (Does.call rfl (instG_ok hg9 hs9 hSg hSs (by decide) (by decide))) ?_
  rintro _ H5_2 ⟨rfl, hE5_2⟩
  have z5_2 := hE5_2.lt
  replace hE := hE.ext hE5_2
  replace o1_4 := o1_4.ext hE5_2
  replace hSg := hSg.ext hE5_2
  replace o1_6 := o1_6.ext hE5_2
  replace o2_1 := o2_1.ext hE5_2
  replace o4_4 := o4_4.ext hE5_2
  replace hSs := hSs.ext hE5_2
  replace o4_6 := o4_6.ext hE5_2
  refine Reg.pur rfl rfl rfl rfl (Pur.mv rfl) ?_
  refine Reg.pur rfl rfl rfl rfl (Pur.ext rfl rfl) ?_
  refine Reg.pur rfl rfl rfl rfl (Pur.ext rfl rfl) ?_
  refine Reg.pur rfl rfl rfl rfl (Pur.asg rfl) ?_
  refine Reg.pur rfl rfl rfl rfl (Pur.asg rfl) ?_
  refine Reg.nil ?_
  refine At.region rfl rfl ?_
  refine Reg.lod rfl rfl rfl rfl (Lod.ldn ag55 rfl o4_6.blk (whole rfl) rfl) ?_
  refine Reg.lod rfl rfl rfl rfl (Lod.ldn ag55 rfl o1_6.blk (whole rfl) rfl) ?_
  refine Reg.op rfl rfl rfl rfl (Does.call rfl (instG_ok hs9 hg9 hSs hSg (by decide) (by decide))) ?_
  rintro _ H6_2 ⟨rfl, hE6_2⟩
  have z6_2 := hE6_2.lt
  replace hE := hE.ext hE6_2
  replace o1_4 := o1_4.ext hE6_2
  replace hSg := hSg.ext hE6_2
  replace o1_6 := o1_6.ext hE6_2
  replace o2_1 := o2_1.ext hE6_2
  replace o4_4 := o4_4.ext hE6_2
  replace hSs := hSs.ext hE6_2
  replace o4_6 := o4_6.ext hE6_2
  refine Reg.pur rfl rfl rfl rfl (Pur.mv rfl) ?_
  refine Reg.pur rfl rfl rfl rfl (Pur.ext rfl rfl) ?_
  refine Reg.pur rfl rfl rfl rfl (Pur.ext rfl rfl) ?_
  refine Reg.pur rfl rfl rfl rfl (Pur.asg rfl) ?_
  refine Reg.pur rfl rfl rfl rfl (Pur.asg rfl) ?_
  refine Reg.nil ?_
  refine At.region rfl rfl ?_
  refine Reg.lod rfl rfl rfl rfl (Lod.ldn ag55 rfl o1_6.blk (whole rfl) rfl) ?_
  refine Reg.lod rfl rfl rfl rfl (Lod.ldn ag55 rfl o4_6.blk (whole rfl) rfl) ?_
  refine Reg.op rfl rfl rfl rfl (Does.call rfl (equal_ok hg9 hs9 (hT.ext hE) hSg hSs (by decide) (by decide))) ?_
  rintro _ H7_2 ⟨rfl, hE7_2⟩
  have z7_2 := hE7_2.lt
  replace hE := hE.ext hE7_2
  replace o1_4 := o1_4.ext hE7_2
  replace hSg := hSg.ext hE7_2
  replace o1_6 := o1_6.ext hE7_2
  replace o2_1 := o2_1.ext hE7_2
  replace o4_4 := o4_4.ext hE7_2
  replace hSs := hSs.ext hE7_2
  replace o4_6 := o4_6.ext hE7_2
  refine Reg.pur rfl rfl rfl rfl (Pur.mv rfl) ?_
  refine Reg.pur rfl rfl rfl rfl (Pur.ext rfl rfl) ?_
  refine Reg.pur rfl rfl rfl rfl (Pur.ext rfl rfl) ?_
  refine Reg.pur rfl rfl rfl rfl (Pur.asg rfl) ?_
  refine Reg.pur rfl rfl rfl rfl (Pur.asg rfl) ?_
  refine Reg.nil ?_
  refine At.region rfl rfl ?_
  refine Reg.lod rfl rfl rfl rfl (Lod.ldn ag55 rfl o1_6.blk (whole rfl) rfl) ?_
  refine Reg.pur rfl rfl rfl rfl (Pur.bld (cs := [_]) pl55 zc55 rfl rfl ⟨rfl, rfl⟩) ?_
  refine Reg.op rfl rfl rfl rfl (Does.call rfl (equal_ok (A2 := none) (c2 := 0) (K := []) hg9 (nine_lit rfl) (hT.ext hE) hSg (sl_nil _) (by decide) (by decide))) ?_
  rintro _ H8_2 ⟨rfl, hE8_2⟩
  have z8_2 := hE8_2.lt
  replace hE := hE.ext hE8_2
  replace o1_4 := o1_4.ext hE8_2
  replace hSg := hSg.ext hE8_2
  replace o1_6 := o1_6.ext hE8_2
  replace o2_1 := o2_1.ext hE8_2
  replace o4_4 := o4_4.ext hE8_2
  replace hSs := hSs.ext hE8_2
  replace o4_6 := o4_6.ext hE8_2
  rw [maI1, maI2, maE1, maE2]
  refine Reg.pur rfl rfl rfl rfl (Pur.mv rfl) ?_
  refine Reg.pur rfl rfl rfl rfl (Pur.ext rfl rfl) ?_
  refine Reg.pur rfl rfl rfl rfl (Pur.ext rfl rfl) ?_
  refine Reg.pur rfl rfl rfl rfl (Pur.asg rfl) ?_
  refine Reg.pur rfl rfl rfl rfl (Pur.asg rfl) ?_
  refine Reg.nil ?_
  refine At.region rfl rfl ?_
  refine Reg.pur rfl rfl rfl rfl (Pur.mv rfl) ?_
  refine Reg.pur rfl rfl rfl rfl (Pur.mv rfl) ?_
  refine Reg.known (b' := true) 52 rfl (by rfl) ?_
  refine Reg.gpur rfl rfl rfl rfl rfl rfl (Pur.mv rfl) ?_
  refine Reg.gop rfl rfl rfl rfl rfl rfl (Does.call rfl (numE_ok _ _)) ?_
  rintro _ H8_2 ⟨rfl, rfl⟩
  refine Reg.gpur rfl rfl rfl rfl rfl rfl (Pur.eql rfl rfl) ?_
  refine Reg.pur rfl rfl rfl rfl (Pur.pickT rfl rfl) ?_
  refine Reg.pur rfl rfl rfl rfl (Pur.mv rfl) ?_
  refine Reg.known (b' := true) 57 rfl (by rfl) ?_
  refine Reg.gpur rfl rfl rfl rfl rfl rfl (Pur.mv rfl) ?_
  refine Reg.gpur rfl rfl rfl rfl rfl rfl (Pur.not rfl) ?_
  refine Reg.pur rfl rfl rfl rfl (Pur.pickT rfl rfl) ?_
  refine Reg.pur rfl rfl rfl rfl (Pur.mv rfl) ?_
  refine Reg.known (b' := true) 61 rfl (by rfl) ?_
  refine Reg.gpur rfl rfl rfl rfl rfl rfl (Pur.mv rfl) ?_
  refine Reg.gop rfl rfl rfl rfl rfl rfl (Does.call rfl (numE_ok _ _)) ?_
  rintro _ H8_2 ⟨rfl, rfl⟩
  refine Reg.gpur rfl rfl rfl rfl rfl rfl (Pur.eql rfl rfl) ?_
  refine Reg.pur rfl rfl rfl rfl (Pur.pickT rfl rfl) ?_
  refine Reg.pur rfl rfl rfl rfl (Pur.mv rfl) ?_
  refine Reg.known (b' := true) 66 rfl (by rfl) ?_
  refine Reg.gpur rfl rfl rfl rfl rfl rfl (Pur.mv rfl) ?_
  refine Reg.gpur rfl rfl rfl rfl rfl rfl (Pur.not rfl) ?_
  refine Reg.pur rfl rfl rfl rfl (Pur.pickT rfl rfl) ?_
  refine Reg.pur rfl rfl rfl rfl (Pur.mv rfl) ?_
  refine Reg.known (b' := true) 70 rfl (by rfl) ?_
  refine Reg.gpur rfl rfl rfl rfl rfl rfl (Pur.mv rfl) ?_
  refine Reg.gop rfl rfl rfl rfl rfl rfl (Does.call rfl (numE_ok _ _)) ?_
  rintro _ H8_2 ⟨rfl, rfl⟩
  refine Reg.gpur rfl rfl rfl rfl rfl rfl (Pur.eql rfl rfl) ?_
  refine Reg.pur rfl rfl rfl rfl (Pur.pickT rfl rfl) ?_
  refine Reg.pur rfl rfl rfl rfl (Pur.mv rfl) ?_
  refine Reg.known (b' := true) 75 rfl (by rfl) ?_
  refine Reg.gpur rfl rfl rfl rfl rfl rfl (Pur.mv rfl) ?_
  refine Reg.gop rfl rfl rfl rfl rfl rfl (Does.call rfl (numE_ok _ _)) ?_
  rintro _ H8_2 ⟨rfl, rfl⟩
  refine Reg.gpur rfl rfl rfl rfl rfl rfl (Pur.eql rfl rfl) ?_
  refine Reg.pur rfl rfl rfl rfl (Pur.pickT rfl rfl) ?_
  refine Reg.pur rfl rfl rfl rfl (Pur.asg rfl) ?_
  refine Reg.nil ?_
  refine At.ret rfl Tryd.func38 rfl ?_
  exact ⟨rfl, hE⟩
end Go.Proofs.YtlfillhffpiffaaDoor

namespace Go.Proofs.YtlfillhffpiffaaDoor
set_option linter.unusedSimpArgs false
set_option linter.unusedVariables false
set_option maxRecDepth 8000
set_option maxHeartbeats 1000000
open Go Go.Fx Go.Proofs
namespace FactsDMaC
theorem ag24 : ag Tryd.prog 24 = some 5 := by kernel_rfl
theorem ag55 : ag Tryd.prog 55 = some 1 := by kernel_rfl
theorem ag65 : ag Tryd.prog 65 = some 9 := by kernel_rfl
theorem arr22 : arr Tryd.prog 22 = some (4, 1) := by kernel_rfl
theorem eqt24 : eqT Tryd.prog 24 = some [.int .i64, .int .i64, .int .i64, .int .i64, .int .i64] := by kernel_rfl
theorem fo24_0 : foff Tryd.prog 24 0 = some 0 := by kernel_rfl
theorem fo24_1 : foff Tryd.prog 24 1 = some 4 := by kernel_rfl
theorem mixed : Tryd.prog.follows .mixedOrders = true := by kernel_rfl
theorem pl55 : places Tryd.prog 55 = some [(0, 1)] := by kernel_rfl
theorem pl65 : places Tryd.prog 65 = some [(0, 1), (1, 1), (2, 1), (3, 1), (4, 5)] := by kernel_rfl
theorem sc3 : sc Tryd.prog 3 = true := by kernel_rfl
theorem slA53 : slA Tryd.prog 53 = some (65, 9) := by kernel_rfl
theorem zc55 : zc Tryd.prog 55 = some [.slice none 0 0] := by kernel_rfl
theorem zc65 : zc Tryd.prog 65 = some [.int .i64 0, .int .i64 0, .int .i64 0, .int .i64 0, .int .i64 0, .int .i64 0, .int .i64 0, .int .i64 0, .int .i64 0] := by kernel_rfl
end FactsDMaC
open FactsDMaC

abbrev mrL (r : List Int) : List (List Int) := [bNode false, bNode false, fNode 0 1 r]
abbrev mrT (r : List Int) : Tm := .fn (.bas false) r (.bas false)
theorem mr_nine {r : List Int} (h : r.length = 5) : Nine (mrL r) := by
  intro x hx
  simp only [List.mem_cons, List.not_mem_nil, or_false] at hx
  rcases hx with rfl | rfl | rfl
  · rfl
  · rfl
  · simp [fNode, h]
theorem mr_typ {r : List Int} (h : r.length = 5) : typM (mrL r) = rowM r := by
  cases hr : rowM r with
  | true => exact enc_typ (t := mrT r) ⟨trivial, h, hr, trivial⟩ (Nat.le_of_ble_eq_true rfl)
  | false =>
    unfold typM
    have : nodM (fNode 0 1 r) = false := by
      unfold nodM
      rw [if_pos (show (fNode 0 1 r).getD 0 0 = 3 from rfl), show (fNode 0 1 r).drop 4 = r from rfl, hr]; rfl
    simp only [List.all_cons, this, Bool.false_and, Bool.and_false]
def leTo (a b : List Int) (i : Nat) : Bool := (List.range i).all fun i => decide (a.getD i 0 ≤ b.getD i 0)
theorem leTo_succ (a b : List Int) (i : Nat) : leTo a b (i + 1) = (leTo a b i && decide (a.getD i 0 ≤ b.getD i 0)) := by simp [leTo, List.range_succ]
theorem pos_le (a b : List Int) : posR (dfR a b) = leTo a b 4 := by
  unfold posR dfR
  rw [leTo_succ, leTo_succ, leTo_succ, leTo_succ]
  simp only [List.getD_cons_zero, List.getD_cons_succ, leTo, List.range_zero, List.all_nil, Bool.true_and]
  rw [Bool.eq_iff_iff]
  simp only [Bool.and_eq_true, decide_eq_true_eq]
  omega
theorem mr_ins {a b : List Int} (ha : a.length = 5) (hb : b.length = 5) :
    ∃ (x : Bool) (c : Int), insV (mrL a) (mrL b) = (x, c) ∧ (c ≠ 0 → c = 1100 ∧ x = false) ∧ (c = 0 → x = if 0 ≤ a.getD 4 0 then leTo a b 4 else decide (a = b)) := by
  cases hx : rowM a with
  | false => exact ⟨false, 1100, insV_no1 (by rw [mr_typ ha, hx]), fun _ => ⟨rfl, rfl⟩, fun h => by cases h⟩
  | true =>
    cases hy : rowM b with
    | false => exact ⟨false, 1100, insV_no2 (by rw [mr_typ hb, hy]), fun _ => ⟨rfl, rfl⟩, fun h => by cases h⟩
    | true =>
      refine ⟨_, 0, insV_enc (t := mrT a) (u := mrT b) ⟨trivial, ha, hx, trivial⟩ (Nat.le_of_ble_eq_true rfl) ⟨trivial, hb, hy, trivial⟩ (Nat.le_of_ble_eq_true rfl), fun h => absurd rfl h, fun _ => ?_⟩
      have e1 : inst [] (mrT a) (mrT b) = (instR [] a b).bind fun M => some M := by
        simp only [inst, if_pos]
        cases instR [] a b <;> rfl
      rw [e1]
      unfold instR
      rw [pos_le]
      by_cases h0 : a.getD 4 0 < 0
      · rw [if_neg (show ¬ 0 ≤ a.getD 4 0 by omega)]
        by_cases he : a = b
        · subst he
          have : leTo a a 4 = true := by rw [← pos_le]; unfold posR dfR; simp
          rw [this, if_neg (by decide), if_pos h0, if_pos rfl, decide_eq_true rfl]; rfl
        · rw [decide_eq_false he]
          split
          all_goals first | rfl | (rw [if_pos h0, if_neg he]; rfl)
      · rw [if_pos (show 0 ≤ a.getD 4 0 by omega)]
        cases hl : leTo a b 4 with
        | false => rfl
        | true => rw [if_neg (by decide), if_neg h0]; rfl

theorem matchRows_law {a b : List Int} (ha : a.length = 5) (hb : b.length = 5) {H : Heap} (hT : Tens H) :
    Ret Tryd.prog 11 [.agg (Is a).toArray, .agg (Is b).toArray] H (fun v H' => v = .bool true ∧ Ext H H') := by
  have ha' : (Is a).length = 5 := by simp [ha]
  have hb' : (Is b).length = 5 := by simp [hb]
  obtain ⟨x, c, hI, hc, hx⟩ := mr_ins ha hb
  have hfa := fks_ints .i64 a
  rw [ha] at hfa
  have hfb := fks_ints .i64 b
  rw [hb] at hfb
  obtain ⟨a0, a1, a2, a3, a4, rfl⟩ := row_five ha
  obtain ⟨b0, b1, b2, b3, b4, rfl⟩ := row_five hb
  refine Ret.of_at (N := 68) Tryd.call11 Tryd.func11 rfl rfl rfl ?_
  have hE := Ext.refl H
  refine At.region rfl rfl ?_
  refine Reg.op rfl rfl rfl rfl (Does.box rfl rfl) ?_
  rintro _ H0_0 ⟨rfl, hn0_0⟩
  have z0_0 := hn0_0.size
  replace hE := hE.ext hn0_0.ext
  have o0_0 := hn0_0.own
  refine Reg.op rfl rfl rfl rfl (Does.box rfl rfl) ?_
  rintro _ H0_1 ⟨rfl, hn0_1⟩
  have z0_1 := hn0_1.size
  replace hE := hE.ext hn0_1.ext
  replace o0_0 := o0_0.ext hn0_1.ext
  have o0_1 := hn0_1.own
  refine Reg.pur rfl rfl rfl rfl (Pur.asg rfl) ?_
  refine Reg.nil ?_
  refine At.region rfl rfl ?_
  refine Reg.op rfl rfl rfl rfl (Does.call rfl (awake11_ok (hT.ext hE))) ?_
  rintro _ H1_0 ⟨rfl, hE1_0⟩
  have z1_0 := hE1_0.lt
  replace hE := hE.ext hE1_0
  replace o0_0 := o0_0.ext hE1_0
  replace o0_1 := o0_1.ext hE1_0
  refine Reg.pur rfl rfl rfl rfl (Pur.not rfl) ?_
  refine Reg.nil ?_
  refine At.condF rfl rfl (rfl) ?_
  refine At.region rfl rfl ?_
  refine Reg.pur rfl rfl rfl rfl (Pur.bld (cs := [_, _, _, _, _, _, _, _, _]) pl65 zc65 rfl rfl ⟨rfl, rfl, rfl, rfl, rfl, rfl, rfl, rfl, rfl, rfl⟩) ?_
  refine Reg.op rfl rfl rfl rfl (Does.alloc zc65) ?_
  rintro _ H3_1 ⟨rfl, hn3_1⟩
  have z3_1 := hn3_1.size
  replace hE := hE.ext hn3_1.ext
  replace o0_0 := o0_0.ext hn3_1.ext
  replace o0_1 := o0_1.ext hn3_1.ext
  have o3_1 := hn3_1.own
  refine Reg.op0 rfl rfl rfl (Does.stn ag65 rfl rfl (by first | rfl | exact ones_Is _) (by first | rfl | (simp [*]; done)) o3_1 (by first | decide | (simp; done) | (simp; omega) | omega)) ?_
  rintro _ H3_2 hu3_2
  have z3_2 := hu3_2.size
  replace hE := hE.upw hu3_2 (by omega)
  replace o0_0 := o0_0.upw hu3_2 (by omega)
  replace o0_1 := o0_1.upw hu3_2 (by omega)
  replace o3_1 := hu3_2.own
  first | rw [over (by first | rfl | (simp; done))] at o3_1 | skip
  refine Reg.nil ?_
  refine At.region rfl rfl ?_
  refine Reg.lod rfl rfl rfl rfl (Lod.ldn ag65 rfl o3_1.blk (whole rfl) rfl) ?_
  refine Reg.lod rfl rfl rfl rfl (Lod.ldn ag65 rfl o3_1.blk (whole rfl) rfl) ?_
  refine Reg.lod rfl rfl rfl rfl (Lod.ldn ag24 rfl o0_0.blk (whole ha') ha') ?_
  refine Reg.pur rfl rfl rfl rfl (Pur.bld (cs := [_, _, _, _, _, _, _, _, _]) pl65 zc65 rfl rfl ⟨rfl, rfl, rfl, rfl, rfl, rfl, rfl, rfl, rfl, rfl⟩) ?_
  refine Reg.op rfl rfl rfl rfl (Does.bslA ([Is (bNode false), Is (bNode false), Is (fNode 0 1 [a0, a1, a2, a3, a4])]) slA53 rfl rfl rfl rfl rfl rfl) ?_
  rintro _ H4_4 ⟨rfl, hp4_4⟩
  have hn4_4 := New.of_eq hp4_4
  have z4_4 := hn4_4.size
  replace hE := hE.ext hn4_4.ext
  replace o0_0 := o0_0.ext hn4_4.ext
  replace o0_1 := o0_1.ext hn4_4.ext
  replace o3_1 := o3_1.ext hn4_4.ext
  have o4_4 := hn4_4.own
  have hS1 : SlT H4_4 Is 9 _ (mrL [a0, a1, a2, a3, a4]) := sl_own (L := mrL [a0, a1, a2, a3, a4]) (wide9 (mr_nine ha)) (by decide) o4_4 (Nat.le_of_ble_eq_true rfl)
  have z_hS1 := hS1.lt
  refine Reg.pur rfl rfl rfl rfl (Pur.bld (cs := [_]) pl55 zc55 rfl rfl ⟨rfl, rfl⟩) ?_
  refine Reg.op rfl rfl rfl rfl (Does.alloc zc55) ?_
  rintro _ H4_6 ⟨rfl, hn4_6⟩
  have z4_6 := hn4_6.size
  replace hE := hE.ext hn4_6.ext
  replace o0_0 := o0_0.ext hn4_6.ext
  replace o0_1 := o0_1.ext hn4_6.ext
  replace o3_1 := o3_1.ext hn4_6.ext
  replace o4_4 := o4_4.ext hn4_6.ext
  replace hS1 := hS1.ext hn4_6.ext
  have o4_6 := hn4_6.own
  refine Reg.op0 rfl rfl rfl (Does.stn ag55 rfl rfl (by first | rfl | exact ones_Is _) (by first | rfl | (simp [*]; done)) o4_6 (by first | decide | (simp; done) | (simp; omega) | omega)) ?_
  rintro _ H4_7 hu4_7
  have z4_7 := hu4_7.size
  replace hE := hE.upw hu4_7 (by omega)
  replace o0_0 := o0_0.upw hu4_7 (by omega)
  replace o0_1 := o0_1.upw hu4_7 (by omega)
  replace o3_1 := o3_1.upw hu4_7 (by omega)
  replace o4_4 := o4_4.upw hu4_7 (by omega)
  replace hS1 := hS1.upw hu4_7 (by omega)
  replace o4_6 := hu4_7.own
  first | rw [over (by first | rfl | (simp; done))] at o4_6 | skip
  refine Reg.nil ?_
  refine At.region rfl rfl ?_
  refine Reg.lod rfl rfl rfl rfl (Lod.ldn ag65 rfl o3_1.blk (whole rfl) rfl) ?_
  refine Reg.lod rfl rfl rfl rfl (Lod.ldn ag65 rfl o3_1.blk (whole rfl) rfl) ?_
  refine Reg.lod rfl rfl rfl rfl (Lod.ldn ag24 rfl o0_1.blk (whole hb') hb') ?_
  refine Reg.pur rfl rfl rfl rfl (Pur.bld (cs := [_, _, _, _, _, _, _, _, _]) pl65 zc65 rfl rfl ⟨rfl, rfl, rfl, rfl, rfl, rfl, rfl, rfl, rfl, rfl⟩) ?_
  refine Reg.op rfl rfl rfl rfl (Does.bslA ([Is (bNode false), Is (bNode false), Is (fNode 0 1 [b0, b1, b2, b3, b4])]) slA53 rfl rfl rfl rfl rfl rfl) ?_
  rintro _ H5_4 ⟨rfl, hp5_4⟩
  have hn5_4 := New.of_eq hp5_4
  have z5_4 := hn5_4.size
  replace hE := hE.ext hn5_4.ext
  replace o0_0 := o0_0.ext hn5_4.ext
  replace o0_1 := o0_1.ext hn5_4.ext
  replace o3_1 := o3_1.ext hn5_4.ext
  replace o4_4 := o4_4.ext hn5_4.ext
  replace hS1 := hS1.ext hn5_4.ext
  replace o4_6 := o4_6.ext hn5_4.ext
  have o5_4 := hn5_4.own
  have hS2 : SlT H5_4 Is 9 _ (mrL [b0, b1, b2, b3, b4]) := sl_own (L := mrL [b0, b1, b2, b3, b4]) (wide9 (mr_nine hb)) (by decide) o5_4 (Nat.le_of_ble_eq_true rfl)
  have z_hS2 := hS2.lt
  refine Reg.pur rfl rfl rfl rfl (Pur.bld (cs := [_]) pl55 zc55 rfl rfl ⟨rfl, rfl⟩) ?_
  refine Reg.op rfl rfl rfl rfl (Does.alloc zc55) ?_
  rintro _ H5_6 ⟨rfl, hn5_6⟩
  have z5_6 := hn5_6.size
  replace hE := hE.ext hn5_6.ext
  replace o0_0 := o0_0.ext hn5_6.ext
  replace o0_1 := o0_1.ext hn5_6.ext
  replace o3_1 := o3_1.ext hn5_6.ext
  replace o4_4 := o4_4.ext hn5_6.ext
  replace hS1 := hS1.ext hn5_6.ext
  replace o4_6 := o4_6.ext hn5_6.ext
  replace o5_4 := o5_4.ext hn5_6.ext
  replace hS2 := hS2.ext hn5_6.ext
  have o5_6 := hn5_6.own
  refine Reg.op0 rfl rfl rfl (Does.stn ag55 rfl rfl (by first | rfl | exact ones_Is _) (by first | rfl | (simp [*]; done)) o5_6 (by first | decide | (simp; done) | (simp; omega) | omega)) ?_
  rintro _ H5_7 hu5_7
  have z5_7 := hu5_7.size
  replace hE := hE.upw hu5_7 (by omega)
  replace o0_0 := o0_0.upw hu5_7 (by omega)
  replace o0_1 := o0_1.upw hu5_7 (by omega)
  replace o3_1 := o3_1.upw hu5_7 (by omega)
  replace o4_4 := o4_4.upw hu5_7 (by omega)
  replace hS1 := hS1.upw hu5_7 (by omega)
  replace o4_6 := o4_6.upw hu5_7 (by omega)
  replace o5_4 := o5_4.upw hu5_7 (by omega)
  replace hS2 := hS2.upw hu5_7 (by omega)
  replace o5_6 := hu5_7.own
  first | rw [over (by first | rfl | (simp; done))] at o5_6 | skip
  refine Reg.nil ?_
  refine At.region rfl rfl ?_
  refine Reg.lod rfl rfl rfl rfl (Lod.ldn ag55 rfl o4_6.blk (whole rfl) rfl) ?_
  refine Reg.lod rfl rfl rfl rfl (Lod.ldn ag55 rfl o5_6.blk (whole rfl) rfl) ?_
  refine Reg.op rfl rfl rfl rfl (Does.call rfl (instG_ok (L := mrL [a0, a1, a2, a3, a4]) (K := mrL [b0, b1, b2, b3, b4]) (mr_nine ha) (mr_nine hb) hS1 hS2 (by (show 3 ≤ _); decide) (by (show 3 ≤ _); decide))) ?_
  rintro _ H6_2 ⟨rfl, hE6_2⟩
  have z6_2 := hE6_2.lt
  replace hE := hE.ext hE6_2
  replace o0_0 := o0_0.ext hE6_2
  replace o0_1 := o0_1.ext hE6_2
  replace o3_1 := o3_1.ext hE6_2
  replace o4_4 := o4_4.ext hE6_2
  replace hS1 := hS1.ext hE6_2
  replace o4_6 := o4_6.ext hE6_2
  replace o5_4 := o5_4.ext hE6_2
  replace hS2 := hS2.ext hE6_2
  replace o5_6 := o5_6.ext hE6_2
  rw [hI]
  refine Reg.pur rfl rfl rfl rfl (Pur.mv rfl) ?_
  refine Reg.pur rfl rfl rfl rfl (Pur.ext rfl rfl) ?_
  refine Reg.pur rfl rfl rfl rfl (Pur.ext rfl rfl) ?_
  refine Reg.pur rfl rfl rfl rfl (Pur.asg rfl) ?_
  refine Reg.pur rfl rfl rfl rfl (Pur.asg rfl) ?_
  refine Reg.nil ?_
  refine At.region rfl rfl ?_
  refine Reg.pur rfl rfl rfl rfl (Pur.mv rfl) ?_
  refine Reg.op rfl rfl rfl rfl (Does.call rfl (numE_ok _ _)) ?_
  rintro _ H6_2 ⟨rfl, rfl⟩
  refine Reg.pur rfl rfl rfl rfl (Pur.neq rfl rfl) ?_
  refine Reg.nil ?_
  refine At.cond rfl rfl (fun q35 => ?_) (fun q35 => ?_)
  · first | (simp only [decide_eq_true_eq, decide_eq_false_iff_not, Bool.not_eq_true', Bool.not_eq_false', ne_eq, Decidable.not_not, Bool.not_eq_true, Bool.not_eq_false] at q35) | (dsimp only at q35) | skip
    obtain ⟨rfl, rfl⟩ := hc q35
    refine At.region rfl rfl ?_
    refine Reg.pur rfl rfl rfl rfl (Pur.mv rfl) ?_
    refine Reg.pur rfl rfl rfl rfl (Pur.not rfl) ?_
    refine Reg.pur rfl rfl rfl rfl (Pur.mv rfl) ?_
    refine Reg.known (b' := true) 38 rfl (rfl) ?_
    refine Reg.gpur rfl rfl rfl rfl rfl rfl (Pur.mv rfl) ?_
    refine Reg.gop rfl rfl rfl rfl rfl rfl (Does.call rfl (numE_ok _ _)) ?_
    rintro _ H6_2 ⟨rfl, rfl⟩
    refine Reg.gpur rfl rfl rfl rfl rfl rfl (Pur.eql rfl rfl) ?_
    refine Reg.pur rfl rfl rfl rfl (Pur.pickT rfl rfl) ?_
    refine Reg.pur rfl rfl rfl rfl (Pur.asg rfl) ?_
    refine Reg.nil ?_
    refine At.ret rfl Tryd.func11 rfl ?_
    exact ⟨rfl, hE⟩
  first | (simp only [decide_eq_true_eq, decide_eq_false_iff_not, Bool.not_eq_true', Bool.not_eq_false', ne_eq, Decidable.not_not, Bool.not_eq_true, Bool.not_eq_false] at q35) | (dsimp only at q35) | skip
  obtain rfl : c = 0 := by omega
  have hx := hx rfl
  refine At.region rfl rfl ?_
  refine Reg.lod rfl rfl rfl rfl (Lod.ldn ag24 rfl o0_0.blk (whole ha') ha') ?_
  refine Reg.lod rfl rfl rfl rfl (Lod.ldn ag24 rfl o0_1.blk (whole hb') hb') ?_
  refine Reg.pur rfl rfl rfl rfl (Pur.eqA eqt24 rfl rfl hfa hfb) ?_
  refine Reg.pur rfl rfl rfl rfl (Pur.asg rfl) ?_
  refine Reg.nil ?_
  refine At.region rfl rfl ?_
  refine Reg.pur rfl rfl rfl rfl (Pur.fld _ fo24_1 rfl) ?_
  refine Reg.lod rfl rfl rfl rfl (Lod.ld sc3 rfl o0_0.blk (hat4 [a0, a1, a2, a3, a4] ha)) ?_
  refine Reg.pur rfl rfl rfl rfl (Pur.geq rfl rfl) ?_
  refine Reg.nil ?_
  refine At.cond rfl rfl (fun q48 => ?_) (fun q48 => ?_)
  · first | (simp only [decide_eq_true_eq, decide_eq_false_iff_not, Bool.not_eq_true', Bool.not_eq_false', ne_eq, Decidable.not_not, Bool.not_eq_true, Bool.not_eq_false] at q48) | (dsimp only at q48) | skip
    refine At.region rfl rfl ?_
    refine Reg.pur rfl rfl rfl rfl (Pur.asg rfl) ?_
    refine Reg.nil ?_
    refine At.region rfl rfl ?_
    refine Reg.pur rfl rfl rfl rfl (Pur.asg rfl) ?_
    refine Reg.nil ?_
    refine At.loop (σ := Nat) (fun i => [(11, I i), (10, .bool (leTo [a0, a1, a2, a3, a4] [b0, b1, b2, b3, b4] i)), (8, .bool x), (2, ptr H.size 0), (3, ptr H0_0.size 0)]) (fun i H' => i ≤ 4 ∧ Own H' H.size (Is [a0, a1, a2, a3, a4]) ∧ Own H' H0_0.size (Is [b0, b1, b2, b3, b4]) ∧ Ext H H') (fun i => 4 - i) 0 rfl ⟨rfl, rfl, rfl, rfl, rfl, trivial⟩ ⟨by omega, o0_0, o0_1, hE⟩ ?_
    rintro i H5 ⟨hi, o0_0, o0_1, hE⟩ ih
    have z_hE := hE.lt
    have z_o0_0 := o0_0.lt
    have z_o0_1 := o0_1.lt
    refine At.region rfl rfl ?_
    refine Reg.pur rfl rfl rfl rfl (Pur.mv rfl) ?_
    refine Reg.pur rfl rfl rfl rfl (Pur.lss rfl rfl) ?_
    refine Reg.nil ?_
    refine At.cond rfl rfl (fun q50 => ?_) (fun q50 => ?_)
    · first | (simp only [decide_eq_true_eq, decide_eq_false_iff_not, Bool.not_eq_true', Bool.not_eq_false', ne_eq, Decidable.not_not, Bool.not_eq_true, Bool.not_eq_false] at q50) | (dsimp only at q50) | skip
      have hai : (Is [a0, a1, a2, a3, a4])[0 + 0 + (i : Int).toNat * 1]? = some (I ([a0, a1, a2, a3, a4].getD i 0)) := by rw [show 0 + 0 + (i : Int).toNat * 1 = i from by omega]; exact at_Is (by omega)
      have hbi : (Is [b0, b1, b2, b3, b4])[0 + 0 + (i : Int).toNat * 1]? = some (I ([b0, b1, b2, b3, b4].getD i 0)) := by rw [show 0 + 0 + (i : Int).toNat * 1 = i from by omega]; exact at_Is (by omega)
      refine At.drawE ((Bks.cons o0_0.blk (Bks.cons o0_1.blk Bks.nil))) [] mixed rfl rfl ?_
      refine RegD.tpur (i := 0) rfl rfl rfl rfl (by kernel_rfl) (Pur.mv rfl) ?_
      refine RegD.tpur (i := 1) rfl rfl rfl rfl (by kernel_rfl) (Pur.mv rfl) ?_
      refine RegD.case 54 rfl (fun q54 => ?_) (fun q54 => ?_)
      · first | (simp only [decide_eq_true_eq, decide_eq_false_iff_not, Bool.not_eq_true', Bool.not_eq_false', ne_eq, Decidable.not_not, Bool.not_eq_true, Bool.not_eq_false] at q54) | (dsimp only at q54) | skip
        refine RegD.gtpur (i := 2) rfl rfl rfl rfl rfl rfl (by kernel_rfl) (Pur.mv rfl) ?_
        refine RegD.gtpur (i := 3) rfl rfl rfl rfl rfl rfl (by kernel_rfl) (Pur.fld _ fo24_0 rfl) ?_
        refine RegD.gtpur (i := 4) rfl rfl rfl rfl rfl rfl (by kernel_rfl) (Pur.idxP arr22 rfl rfl (by omega) (by omega)) ?_
        refine RegD.gtake (i := 5) rfl rfl rfl rfl rfl rfl (by kernel_rfl) (Bks.cons o0_0.blk (Bks.cons o0_1.blk Bks.nil)) (fun H hS => Lod.ld sc3 rfl hS.hd hai) ?_
        refine RegD.gtpur (i := 6) rfl rfl rfl rfl rfl rfl (by kernel_rfl) (Pur.mv rfl) ?_
        refine RegD.gtpur (i := 7) rfl rfl rfl rfl rfl rfl (by kernel_rfl) (Pur.fld _ fo24_0 rfl) ?_
        refine RegD.gtpur (i := 8) rfl rfl rfl rfl rfl rfl (by kernel_rfl) (Pur.idxP arr22 rfl rfl (by omega) (by omega)) ?_
        refine RegD.gtake (i := 9) rfl rfl rfl rfl rfl rfl (by kernel_rfl) (Bks.cons o0_0.blk (Bks.cons o0_1.blk Bks.nil)) (fun H hS => Lod.ld sc3 rfl hS.tl.hd hbi) ?_
        refine RegD.gtpur (i := 10) rfl rfl rfl rfl rfl rfl (by kernel_rfl) (Pur.leq rfl rfl) ?_
        refine RegD.tpur (i := 11) rfl rfl rfl rfl (by kernel_rfl) (Pur.pickT rfl rfl) ?_
        refine RegD.tpur (i := 12) rfl rfl rfl rfl (by kernel_rfl) (Pur.asg rfl) ?_
        refine RegD.done (by kernel_rfl) ?_
        refine At.region rfl rfl ?_
        refine Reg.pur rfl rfl rfl rfl (Pur.mv rfl) ?_
        first | refine Reg.pur rfl rfl rfl rfl (Pur.add64 rfl rfl (by omega)) ?_ | refine Reg.pur rfl rfl rfl rfl (Pur.add64 rfl rfl (by assumption)) ?_ | refine Reg.pur rfl rfl rfl rfl (Pur.add rfl rfl) ?_
        refine Reg.pur rfl rfl rfl rfl (Pur.asg rfl) ?_
        refine Reg.nil ?_
        have hs := leTo_succ [a0, a1, a2, a3, a4] [b0, b1, b2, b3, b4] i
        rw [q54, Bool.true_and] at hs
        exact At.meets rfl (ih (i + 1) _ ⟨by omega, o0_0, o0_1, hE⟩ (by omega)) ⟨rfl, by (show some (Value.bool _) = _); rw [hs], rfl, rfl, rfl, trivial⟩
      first | (simp only [decide_eq_true_eq, decide_eq_false_iff_not, Bool.not_eq_true', Bool.not_eq_false', ne_eq, Decidable.not_not, Bool.not_eq_true, Bool.not_eq_false] at q54) | (dsimp only at q54) | skip
      refine RegD.skip (i := 2) rfl rfl rfl rfl rfl rfl rfl (by kernel_rfl) ?_
      refine RegD.skip (i := 3) rfl rfl rfl rfl rfl rfl rfl (by kernel_rfl) ?_
      refine RegD.skip (i := 4) rfl rfl rfl rfl rfl rfl rfl (by kernel_rfl) ?_
      refine RegD.skip (i := 5) rfl rfl rfl rfl rfl rfl rfl (by kernel_rfl) ?_
      refine RegD.skip (i := 6) rfl rfl rfl rfl rfl rfl rfl (by kernel_rfl) ?_
      refine RegD.skip (i := 7) rfl rfl rfl rfl rfl rfl rfl (by kernel_rfl) ?_
      refine RegD.skip (i := 8) rfl rfl rfl rfl rfl rfl rfl (by kernel_rfl) ?_
      refine RegD.skip (i := 9) rfl rfl rfl rfl rfl rfl rfl (by kernel_rfl) ?_
      refine RegD.skip (i := 10) rfl rfl rfl rfl rfl rfl rfl (by kernel_rfl) ?_
      refine RegD.tpur (i := 11) rfl rfl rfl rfl (by kernel_rfl) (Pur.pickF rfl rfl) ?_
      refine RegD.tpur (i := 12) rfl rfl rfl rfl (by kernel_rfl) (Pur.asg rfl) ?_
      refine RegD.done (by kernel_rfl) ?_
      refine At.region rfl rfl ?_
      refine Reg.pur rfl rfl rfl rfl (Pur.mv rfl) ?_
      first | refine Reg.pur rfl rfl rfl rfl (Pur.add64 rfl rfl (by omega)) ?_ | refine Reg.pur rfl rfl rfl rfl (Pur.add64 rfl rfl (by assumption)) ?_ | refine Reg.pur rfl rfl rfl rfl (Pur.add rfl rfl) ?_
      refine Reg.pur rfl rfl rfl rfl (Pur.asg rfl) ?_
      refine Reg.nil ?_
      have hs := leTo_succ [a0, a1, a2, a3, a4] [b0, b1, b2, b3, b4] i
      rw [q54, Bool.false_and] at hs
      exact At.meets rfl (ih (i + 1) _ ⟨by omega, o0_0, o0_1, hE⟩ (by omega)) ⟨rfl, by (show some (Value.bool _) = _); rw [hs], rfl, rfl, rfl, trivial⟩
    first | (simp only [decide_eq_true_eq, decide_eq_false_iff_not, Bool.not_eq_true', Bool.not_eq_false', ne_eq, Decidable.not_not, Bool.not_eq_true, Bool.not_eq_false] at q50) | (dsimp only at q50) | skip
    refine At.region rfl rfl ?_
    refine Reg.pur rfl rfl rfl rfl (Pur.mv rfl) ?_
    refine Reg.pur rfl rfl rfl rfl (Pur.mv rfl) ?_
    refine Reg.pur rfl rfl rfl rfl (Pur.eqB Tryd.underlying4 rfl rfl) ?_
    refine Reg.pur rfl rfl rfl rfl (Pur.asg rfl) ?_
    refine Reg.nil ?_
    refine At.ret rfl Tryd.func11 rfl ?_
    obtain rfl : i = 4 := by omega
    rw [if_pos q48] at hx
    exact ⟨by rw [hx]; simp, hE⟩
  first | (simp only [decide_eq_true_eq, decide_eq_false_iff_not, Bool.not_eq_true', Bool.not_eq_false', ne_eq, Decidable.not_not, Bool.not_eq_true, Bool.not_eq_false] at q48) | (dsimp only at q48) | skip
  refine At.region rfl rfl ?_
  refine Reg.pur rfl rfl rfl rfl (Pur.mv rfl) ?_
  refine Reg.pur rfl rfl rfl rfl (Pur.mv rfl) ?_
  refine Reg.pur rfl rfl rfl rfl (Pur.eqB Tryd.underlying4 rfl rfl) ?_
  refine Reg.pur rfl rfl rfl rfl (Pur.asg rfl) ?_
  refine Reg.nil ?_
  refine At.ret rfl Tryd.func11 rfl ?_
  rw [if_neg (by omega)] at hx
  exact ⟨by rw [hx, eqs_ints]; simp, hE⟩
end Go.Proofs.YtlfillhffpiffaaDoor

namespace Go.Proofs.YtlfillhffpiffaaDoor
set_option linter.unusedSimpArgs false
set_option linter.unusedVariables false
set_option maxRecDepth 100000
open Go Go.Fx Go.Proofs

theorem own : ownKnob Tryd.prog.godebug = none := by kernel_rfl
theorem laidOut : laidOutB Tryd.prog = true := by kernel_rfl
def litsOf : DataW Unit → Array Value
  | .agg l => (l.map fun | .lit (.int k n) => Value.int k n | _ => undef).toArray
  | _ => #[]
def put (a : Array Value) : Obj → Obj
  | .cells _ t fr => .cells a t fr
  | o => o
noncomputable def laidWorld (os : Os) : World :=
  let w0 := World.holding Tryd.prog os ⟨#[], #[], []⟩
  { w0 with heap := ((w0.heap.modify 0 (put (litsOf Rows.laid_internal_strconv_uint64pow10))).modify 2 (put (litsOf Rows.laid_math_bits_deBruijn32tab))).modify 3 (put (litsOf Rows.laid_math_bits_deBruijn64tab)) }
theorem laid_met (os : Os) (args : Array Value) : laidMet Tryd.prog Rows.rowsRow.laid ((laidWorld os).forCall (fun _ _ => 0) ⟨#[], args, []⟩).memory :=
  laidMet_of_run' 8 (by kernel_rfl) (by kernel_rfl)
theorem tab_eq : (Rows.laid_internal_strconv_uint64pow10 : DataW Unit) = Lib.tabData .u64 Lib.pow10Tab := by kernel_rfl
theorem tens_of {W : World} (h : laidMet Tryd.prog Rows.rowsRow.laid W) : Tens W.heap := by
  obtain ⟨g, t, cs, fuel, p, hg, hty, hvar, hd⟩ := Lib.laidMet.reads h (.tail _ (.tail _ (.head _)))
  obtain rfl := Option.some.inj ((show Tryd.prog.globalNamed _ = some 0 by kernel_rfl).symm.trans hg)
  obtain rfl := Option.some.inj ((show (Tryd.prog.globals[0]?).map (·.type) = some 172 by kernel_rfl).symm.trans hty)
  rw [tab_eq] at hd
  have hcs := Lib.cells_of_tab Tryd.underlying172 Tryd.underlying93 (by kernel_rfl) (by kernel_rfl) hd
  unfold World.var? at hvar
  rw [hg] at hvar
  simp only [Option.bind_some] at hvar
  cases hx : W.heap[0]? with
  | none => rw [hx] at hvar; cases hvar
  | some ob =>
    rw [hx] at hvar
    cases ob with
    | cells c T fr =>
      simp only [Option.some.injEq] at hvar
      subst hvar
      exact ⟨T, fr, by rw [hx, tens, ← hcs]⟩
    | _ => cases hvar
end Go.Proofs.YtlfillhffpiffaaDoor

namespace Go.Proofs.YtlfillhffpiffaaDoor
set_option linter.unusedSimpArgs false
set_option linter.unusedVariables false
set_option maxRecDepth 8000
set_option maxHeartbeats 1000000
open Go Go.Fx Go.Proofs
namespace FactsDMaD
theorem ag55 : ag Tryd.prog 55 = some 1 := by kernel_rfl
theorem es53 : esz Tryd.prog 53 = some 9 := by kernel_rfl
theorem fo55_0 : foff Tryd.prog 55 0 = some 0 := by kernel_rfl
theorem fo65_0 : foff Tryd.prog 65 0 = some 0 := by kernel_rfl
theorem isl53 : isSl Tryd.prog 53 = true := by kernel_rfl
theorem pl55 : places Tryd.prog 55 = some [(0, 1)] := by kernel_rfl
theorem pl65 : places Tryd.prog 65 = some [(0, 1), (1, 1), (2, 1), (3, 1), (4, 5)] := by kernel_rfl
theorem sc3 : sc Tryd.prog 3 = true := by kernel_rfl
theorem sc53 : sc Tryd.prog 53 = true := by kernel_rfl
theorem slA53 : slA Tryd.prog 53 = some (65, 9) := by kernel_rfl
theorem zc55 : zc Tryd.prog 55 = some [.slice none 0 0] := by kernel_rfl
theorem zc65 : zc Tryd.prog 65 = some [.int .i64 0, .int .i64 0, .int .i64 0, .int .i64 0, .int .i64 0, .int .i64 0, .int .i64 0, .int .i64 0, .int .i64 0] := by kernel_rfl
end FactsDMaD
open FactsDMaD

theorem mk_ins {k : Int} (hk : 0 ≤ k ∧ k < 4096) {L : List (List Int)} (hL : Nine L) :
    (typM L = false ∧ insV [vNode k] L = (false, 1100) ∧ insV [bNode false] L = (false, 1100) ∧ insV [bNode true] L = (false, 1100)) ∨
    (typM L = true ∧ 1 ≤ L.length ∧ insV [vNode k] L = (true, 0) ∧ insV [bNode false] L = (decide ((el L ((L.length : Int) - 1)).getD 0 0 = 0), 0) ∧ insV [bNode true] L = (decide ((el L ((L.length : Int) - 1)).getD 0 0 = 1), 0) ∧
      insV L [vNode k] = (decide ((el L ((L.length : Int) - 1)).getD 0 0 = 2), 0)) := by
  cases hM : typM L with
  | false => exact .inl ⟨rfl, insV_no2 hM, insV_no2 hM, insV_no2 hM⟩
  | true =>
    obtain ⟨t, ht, rfl, hz⟩ := typ_dec hL hM
    rw [lst_el]
    have hv : (Tm.var k).ok := hk
    have e0 := insV_enc (t := .var k) (u := t) hv (Nat.le_of_ble_eq_true rfl) ht hz
    have e1 := insV_enc (t := .bas false) (u := t) trivial (Nat.le_of_ble_eq_true rfl) ht hz
    have e2 := insV_enc (t := .bas true) (u := t) trivial (Nat.le_of_ble_eq_true rfl) ht hz
    have e3 := insV_enc (t := t) (u := .var k) ht hz hv (Nat.le_of_ble_eq_true rfl)
    refine .inr ⟨rfl, by have := t.enc_len 0; have := t.sz_pos; omega, ?_, ?_, ?_, ?_⟩
    · refine e0.trans ?_
      simp [inst, findT]
    · refine e1.trans ?_
      rw [inst_leaf (p := .bas false) (by decide) (.inr (by decide))]
      by_cases h : t.lst.getD 0 0 = 0
      · rw [decide_eq_true h, if_pos (show (Tm.bas false).lst.getD 0 0 = _ from h.symm)]; rfl
      · rw [decide_eq_false h, if_neg (show ¬ (Tm.bas false).lst.getD 0 0 = _ from fun e => h e.symm)]; rfl
    · refine e2.trans ?_
      rw [inst_leaf (p := .bas true) (by decide) (.inr (by decide))]
      by_cases h : t.lst.getD 0 0 = 1
      · rw [decide_eq_true h, if_pos (show (Tm.bas true).lst.getD 0 0 = _ from h.symm)]; rfl
      · rw [decide_eq_false h, if_neg (show ¬ (Tm.bas true).lst.getD 0 0 = _ from fun e => h e.symm)]; rfl
    · refine e3.trans ?_
      by_cases h : t.lst.getD 0 0 = 2
      · obtain ⟨v, rfl⟩ := lst_var h
        rw [decide_eq_true h]
        simp [inst, findT]
      · have hne : t.lst.getD 0 0 ≠ (Tm.var k).lst.getD 0 0 := h
        rw [decide_eq_false h, inst_leaf h (.inl hne), if_neg hne]; rfl

theorem matchKinds_law {A : Option Addr} {cap : Nat} {L : List (List Int)} (hL : Nine L) (n : Int) {H : Heap} (hT : Tens H) (hS : SlT H Is 9 (.slice A L.length cap) L) (hl : L.length ≤ 9223372036854775807) :
    Ret Tryd.prog 12 [Ty A L.length cap, I n] H (fun v H' => v = .bool true ∧ Ext H H') := by
  have hbb : 0 ≤ bits .and .i64 n 1023 ∧ bits .and .i64 n 1023 ≤ 1023 := and_le n 1023 (by decide)
  have hins := mk_ins (k := bits .and .i64 n 1023) (by omega) hL
  rcases hins with ⟨hM, e0, e1, e2⟩ | ⟨hM, h1, e0, e1, e2, e3⟩
  · refine Ret.of_at (N := 117) Tryd.call12 Tryd.func12 rfl rfl rfl ?_
    have hE := Ext.refl H
    refine At.region rfl rfl ?_
    refine Reg.op rfl rfl rfl rfl (Does.box rfl rfl) ?_
    rintro _ H0_0 ⟨rfl, hn0_0⟩
    have z0_0 := hn0_0.size
    replace hE := hE.ext hn0_0.ext
    have o0_0 := hn0_0.own
    refine Reg.pur rfl rfl rfl rfl (Pur.asg rfl) ?_
    refine Reg.nil ?_
    refine At.region rfl rfl ?_
    refine Reg.op rfl rfl rfl rfl (Does.call rfl (awake11_ok (hT.ext hE))) ?_
    rintro _ H1_0 ⟨rfl, hE1_0⟩
    have z1_0 := hE1_0.lt
    replace hE := hE.ext hE1_0
    replace o0_0 := o0_0.ext hE1_0
    refine Reg.pur rfl rfl rfl rfl (Pur.not rfl) ?_
    refine Reg.nil ?_
    refine At.condF rfl rfl (rfl) ?_
    refine At.region rfl rfl ?_
    refine Reg.pur rfl rfl rfl rfl (Pur.mv rfl) ?_
    refine Reg.pur rfl rfl rfl rfl (Pur.and rfl rfl) ?_
    refine Reg.pur rfl rfl rfl rfl (Pur.bld (cs := [_, _, _, _, _, _, _, _, _]) pl65 zc65 rfl rfl ⟨rfl, rfl, rfl, rfl, rfl, rfl, rfl, rfl, rfl, rfl⟩) ?_
    refine Reg.op rfl rfl rfl rfl (Does.bslA ([Is (vNode (bits .and .i64 n 1023))]) slA53 rfl rfl rfl rfl rfl rfl) ?_
    rintro _ H3_3 ⟨rfl, hp3_3⟩
    have hn3_3 := New.of_eq hp3_3
    have z3_3 := hn3_3.size
    replace hE := hE.ext hn3_3.ext
    replace o0_0 := o0_0.ext hn3_3.ext
    have o3_3 := hn3_3.own
    have hSv : SlT H3_3 Is 9 _ [vNode (bits .and .i64 n 1023)] := sl_own (L := [vNode (bits .and .i64 n 1023)]) (wide9 (nine_lit rfl)) (by decide) o3_3 (Nat.le_of_ble_eq_true rfl)
    have z_hSv := hSv.lt
    refine Reg.pur rfl rfl rfl rfl (Pur.bld (cs := [_]) pl55 zc55 rfl rfl ⟨rfl, rfl⟩) ?_
    refine Reg.op rfl rfl rfl rfl (Does.alloc zc55) ?_
    rintro _ H3_5 ⟨rfl, hn3_5⟩
    have z3_5 := hn3_5.size
    replace hE := hE.ext hn3_5.ext
    replace o0_0 := o0_0.ext hn3_5.ext
    replace o3_3 := o3_3.ext hn3_5.ext
    replace hSv := hSv.ext hn3_5.ext
    have o3_5 := hn3_5.own
    refine Reg.op0 rfl rfl rfl (Does.stn ag55 rfl rfl (by first | rfl | exact ones_Is _) (by first | rfl | (simp [*]; done)) o3_5 (by first | decide | (simp; done) | (simp; omega) | omega)) ?_
    rintro _ H3_6 hu3_6
    have z3_6 := hu3_6.size
    replace hE := hE.upw hu3_6 (by omega)
    replace o0_0 := o0_0.upw hu3_6 (by omega)
    replace o3_3 := o3_3.upw hu3_6 (by omega)
    replace hSv := hSv.upw hu3_6 (by omega)
    replace o3_5 := hu3_6.own
    first | rw [over (by first | rfl | (simp; done))] at o3_5 | skip
    refine Reg.nil ?_
    refine At.region rfl rfl ?_
    refine Reg.lod rfl rfl rfl rfl (Lod.ldn ag55 rfl o3_5.blk (whole rfl) rfl) ?_
    refine Reg.lod rfl rfl rfl rfl (Lod.ldn ag55 rfl o0_0.blk (whole rfl) rfl) ?_
    refine Reg.op rfl rfl rfl rfl (Does.call rfl (instG_ok (L := [vNode (bits .and .i64 n 1023)]) (K := L) (nine_lit rfl) hL hSv (hS.ext hE) (Nat.le_of_ble_eq_true rfl) hl)) ?_
    rintro _ H4_2 ⟨rfl, hE4_2⟩
    have z4_2 := hE4_2.lt
    replace hE := hE.ext hE4_2
    replace o0_0 := o0_0.ext hE4_2
    replace o3_3 := o3_3.ext hE4_2
    replace hSv := hSv.ext hE4_2
    replace o3_5 := o3_5.ext hE4_2
    rw [e0]
    refine Reg.pur rfl rfl rfl rfl (Pur.mv rfl) ?_
    refine Reg.pur rfl rfl rfl rfl (Pur.ext rfl rfl) ?_
    refine Reg.pur rfl rfl rfl rfl (Pur.ext rfl rfl) ?_
    refine Reg.pur rfl rfl rfl rfl (Pur.asg rfl) ?_
    refine Reg.pur rfl rfl rfl rfl (Pur.asg rfl) ?_
    refine Reg.nil ?_
    refine At.region rfl rfl ?_
    refine Reg.pur rfl rfl rfl rfl (Pur.bld (cs := [_, _, _, _, _, _, _, _, _]) pl65 zc65 rfl rfl ⟨rfl, rfl, rfl, rfl, rfl, rfl, rfl, rfl, rfl, rfl⟩) ?_
    refine Reg.op rfl rfl rfl rfl (Does.bslA ([Is (bNode false)]) slA53 rfl rfl rfl rfl rfl rfl) ?_
    rintro _ H5_1 ⟨rfl, hp5_1⟩
    have hn5_1 := New.of_eq hp5_1
    have z5_1 := hn5_1.size
    replace hE := hE.ext hn5_1.ext
    replace o0_0 := o0_0.ext hn5_1.ext
    replace o3_3 := o3_3.ext hn5_1.ext
    replace hSv := hSv.ext hn5_1.ext
    replace o3_5 := o3_5.ext hn5_1.ext
    have o5_1 := hn5_1.own
    refine Reg.pur rfl rfl rfl rfl (Pur.bld (cs := [_]) pl55 zc55 rfl rfl ⟨rfl, rfl⟩) ?_
    refine Reg.lod rfl rfl rfl rfl (Lod.ldn ag55 rfl o0_0.blk (whole rfl) rfl) ?_
    refine Reg.op rfl rfl rfl rfl (Does.call rfl (instG_ok (L := [bNode false]) (K := L) (nine_lit rfl) hL (sl_own (L := [bNode false]) (wide9 (nine_lit rfl)) (by decide) o5_1 (by decide)) (hS.ext hE) (by decide) hl)) ?_
    rintro _ H5_4 ⟨rfl, hE5_4⟩
    have z5_4 := hE5_4.lt
    replace hE := hE.ext hE5_4
    replace o0_0 := o0_0.ext hE5_4
    replace o3_3 := o3_3.ext hE5_4
    replace hSv := hSv.ext hE5_4
    replace o3_5 := o3_5.ext hE5_4
    replace o5_1 := o5_1.ext hE5_4
    rw [e1]
    refine Reg.pur rfl rfl rfl rfl (Pur.mv rfl) ?_
    refine Reg.pur rfl rfl rfl rfl (Pur.ext rfl rfl) ?_
    refine Reg.pur rfl rfl rfl rfl (Pur.ext rfl rfl) ?_
    refine Reg.pur rfl rfl rfl rfl (Pur.asg rfl) ?_
    refine Reg.pur rfl rfl rfl rfl (Pur.asg rfl) ?_
    refine Reg.nil ?_
    refine At.region rfl rfl ?_
    refine Reg.pur rfl rfl rfl rfl (Pur.bld (cs := [_, _, _, _, _, _, _, _, _]) pl65 zc65 rfl rfl ⟨rfl, rfl, rfl, rfl, rfl, rfl, rfl, rfl, rfl, rfl⟩) ?_
    refine Reg.op rfl rfl rfl rfl (Does.bslA ([Is (bNode true)]) slA53 rfl rfl rfl rfl rfl rfl) ?_
    rintro _ H6_1 ⟨rfl, hp6_1⟩
    have hn6_1 := New.of_eq hp6_1
    have z6_1 := hn6_1.size
    replace hE := hE.ext hn6_1.ext
    replace o0_0 := o0_0.ext hn6_1.ext
    replace o3_3 := o3_3.ext hn6_1.ext
    replace hSv := hSv.ext hn6_1.ext
    replace o3_5 := o3_5.ext hn6_1.ext
    replace o5_1 := o5_1.ext hn6_1.ext
    have o6_1 := hn6_1.own
    refine Reg.pur rfl rfl rfl rfl (Pur.bld (cs := [_]) pl55 zc55 rfl rfl ⟨rfl, rfl⟩) ?_
    refine Reg.lod rfl rfl rfl rfl (Lod.ldn ag55 rfl o0_0.blk (whole rfl) rfl) ?_
    refine Reg.op rfl rfl rfl rfl (Does.call rfl (instG_ok (L := [bNode true]) (K := L) (nine_lit rfl) hL (sl_own (L := [bNode true]) (wide9 (nine_lit rfl)) (by decide) o6_1 (by decide)) (hS.ext hE) (by decide) hl)) ?_
    rintro _ H6_4 ⟨rfl, hE6_4⟩
    have z6_4 := hE6_4.lt
    replace hE := hE.ext hE6_4
    replace o0_0 := o0_0.ext hE6_4
    replace o3_3 := o3_3.ext hE6_4
    replace hSv := hSv.ext hE6_4
    replace o3_5 := o3_5.ext hE6_4
    replace o5_1 := o5_1.ext hE6_4
    replace o6_1 := o6_1.ext hE6_4
    rw [e2]
    refine Reg.pur rfl rfl rfl rfl (Pur.mv rfl) ?_
    refine Reg.pur rfl rfl rfl rfl (Pur.ext rfl rfl) ?_
    refine Reg.pur rfl rfl rfl rfl (Pur.ext rfl rfl) ?_
    refine Reg.pur rfl rfl rfl rfl (Pur.asg rfl) ?_
    refine Reg.pur rfl rfl rfl rfl (Pur.asg rfl) ?_
    refine Reg.nil ?_
    refine At.region rfl rfl ?_
    refine Reg.pur rfl rfl rfl rfl (Pur.mv rfl) ?_
    refine Reg.op rfl rfl rfl rfl (Does.call rfl (numE_ok _ _)) ?_
    rintro _ H6_4 ⟨rfl, rfl⟩
    refine Reg.pur rfl rfl rfl rfl (Pur.neq rfl rfl) ?_
    refine Reg.pur rfl rfl rfl rfl (Pur.mv rfl) ?_
    refine Reg.known (b' := true) 47 rfl (by first | rfl | decide) ?_
    refine Reg.skip rfl rfl rfl rfl rfl rfl rfl ?_
    refine Reg.skip rfl rfl rfl rfl rfl rfl rfl ?_
    refine Reg.skip rfl rfl rfl rfl rfl rfl rfl ?_
    refine Reg.skip rfl rfl rfl rfl rfl rfl rfl ?_
    refine Reg.pur rfl rfl rfl rfl (Pur.pickT rfl rfl) ?_
    refine Reg.nil ?_
    refine At.condT rfl rfl rfl ?_
    refine At.region rfl rfl ?_
    refine Reg.pur rfl rfl rfl rfl (Pur.mv rfl) ?_
    refine Reg.op rfl rfl rfl rfl (Does.call rfl (numE_ok _ _)) ?_
    rintro _ H6_4 ⟨rfl, rfl⟩
    refine Reg.pur rfl rfl rfl rfl (Pur.eql rfl rfl) ?_
    refine Reg.pur rfl rfl rfl rfl (Pur.mv rfl) ?_
    refine Reg.known (b' := true) 56 rfl (by first | rfl | decide) ?_
    refine Reg.gpur rfl rfl rfl rfl rfl rfl (Pur.mv rfl) ?_
    refine Reg.gpur rfl rfl rfl rfl rfl rfl (Pur.not rfl) ?_
    refine Reg.pur rfl rfl rfl rfl (Pur.pickT rfl rfl) ?_
    refine Reg.pur rfl rfl rfl rfl (Pur.mv rfl) ?_
    refine Reg.known (b' := true) 60 rfl (by first | rfl | decide) ?_
    refine Reg.gpur rfl rfl rfl rfl rfl rfl (Pur.mv rfl) ?_
    refine Reg.gpur rfl rfl rfl rfl rfl rfl (Pur.not rfl) ?_
    refine Reg.pur rfl rfl rfl rfl (Pur.pickT rfl rfl) ?_
    refine Reg.pur rfl rfl rfl rfl (Pur.mv rfl) ?_
    refine Reg.known (b' := true) 64 rfl (by first | rfl | decide) ?_
    refine Reg.gpur rfl rfl rfl rfl rfl rfl (Pur.mv rfl) ?_
    refine Reg.gpur rfl rfl rfl rfl rfl rfl (Pur.not rfl) ?_
    refine Reg.pur rfl rfl rfl rfl (Pur.pickT rfl rfl) ?_
    refine Reg.pur rfl rfl rfl rfl (Pur.asg rfl) ?_
    refine Reg.nil ?_
    refine At.ret rfl Tryd.func12 rfl ?_
    exact ⟨rfl, hE⟩
  · obtain ⟨b, o, c, rfl, hB, hd, hx9, hat⟩ := el_cells hL hS (z := (L.length : Int) - 1) (by omega) (by omega)
    generalize (el L ((L.length : Int) - 1)) = x at e1 e2 e3 hat
    refine Ret.of_at (N := 117) Tryd.call12 Tryd.func12 rfl rfl rfl ?_
    have hE := Ext.refl H
    have z_hE := hE.lt
    have z_hB := hB.lt
    refine At.region rfl rfl ?_
    refine Reg.op rfl rfl rfl rfl (Does.box rfl rfl) ?_
    rintro _ H0_0 ⟨rfl, hn0_0⟩
    have z0_0 := hn0_0.size
    replace hE := hE.ext hn0_0.ext
    replace hB := hB.ext hn0_0.ext
    have o0_0 := hn0_0.own
    refine Reg.pur rfl rfl rfl rfl (Pur.asg rfl) ?_
    refine Reg.nil ?_
    refine At.region rfl rfl ?_
    refine Reg.op rfl rfl rfl rfl (Does.call rfl (awake11_ok (hT.ext hE))) ?_
    rintro _ H1_0 ⟨rfl, hE1_0⟩
    have z1_0 := hE1_0.lt
    replace hE := hE.ext hE1_0
    replace hB := hB.ext hE1_0
    replace o0_0 := o0_0.ext hE1_0
    refine Reg.pur rfl rfl rfl rfl (Pur.not rfl) ?_
    refine Reg.nil ?_
    refine At.condF rfl rfl (rfl) ?_
    refine At.region rfl rfl ?_
    refine Reg.pur rfl rfl rfl rfl (Pur.mv rfl) ?_
    refine Reg.pur rfl rfl rfl rfl (Pur.and rfl rfl) ?_
    refine Reg.pur rfl rfl rfl rfl (Pur.bld (cs := [_, _, _, _, _, _, _, _, _]) pl65 zc65 rfl rfl ⟨rfl, rfl, rfl, rfl, rfl, rfl, rfl, rfl, rfl, rfl⟩) ?_
    refine Reg.op rfl rfl rfl rfl (Does.bslA ([Is (vNode (bits .and .i64 n 1023))]) slA53 rfl rfl rfl rfl rfl rfl) ?_
    rintro _ H3_3 ⟨rfl, hp3_3⟩
    have hn3_3 := New.of_eq hp3_3
    have z3_3 := hn3_3.size
    replace hE := hE.ext hn3_3.ext
    replace hB := hB.ext hn3_3.ext
    replace o0_0 := o0_0.ext hn3_3.ext
    have o3_3 := hn3_3.own
    have hSv : SlT H3_3 Is 9 _ [vNode (bits .and .i64 n 1023)] := sl_own (L := [vNode (bits .and .i64 n 1023)]) (wide9 (nine_lit rfl)) (by decide) o3_3 (Nat.le_of_ble_eq_true rfl)
    have z_hSv := hSv.lt
    refine Reg.pur rfl rfl rfl rfl (Pur.bld (cs := [_]) pl55 zc55 rfl rfl ⟨rfl, rfl⟩) ?_
    refine Reg.op rfl rfl rfl rfl (Does.alloc zc55) ?_
    rintro _ H3_5 ⟨rfl, hn3_5⟩
    have z3_5 := hn3_5.size
    replace hE := hE.ext hn3_5.ext
    replace hB := hB.ext hn3_5.ext
    replace o0_0 := o0_0.ext hn3_5.ext
    replace o3_3 := o3_3.ext hn3_5.ext
    replace hSv := hSv.ext hn3_5.ext
    have o3_5 := hn3_5.own
    refine Reg.op0 rfl rfl rfl (Does.stn ag55 rfl rfl (by first | rfl | exact ones_Is _) (by first | rfl | (simp [*]; done)) o3_5 (by first | decide | (simp; done) | (simp; omega) | omega)) ?_
    rintro _ H3_6 hu3_6
    have z3_6 := hu3_6.size
    replace hE := hE.upw hu3_6 (by omega)
    replace hB := hB.upw hu3_6 (by omega)
    replace o0_0 := o0_0.upw hu3_6 (by omega)
    replace o3_3 := o3_3.upw hu3_6 (by omega)
    replace hSv := hSv.upw hu3_6 (by omega)
    replace o3_5 := hu3_6.own
    first | rw [over (by first | rfl | (simp; done))] at o3_5 | skip
    refine Reg.nil ?_
    refine At.region rfl rfl ?_
    refine Reg.lod rfl rfl rfl rfl (Lod.ldn ag55 rfl o3_5.blk (whole rfl) rfl) ?_
    refine Reg.lod rfl rfl rfl rfl (Lod.ldn ag55 rfl o0_0.blk (whole rfl) rfl) ?_
    refine Reg.op rfl rfl rfl rfl (Does.call rfl (instG_ok (L := [vNode (bits .and .i64 n 1023)]) (K := L) (nine_lit rfl) hL hSv (hS.ext hE) (Nat.le_of_ble_eq_true rfl) hl)) ?_
    rintro _ H4_2 ⟨rfl, hE4_2⟩
    have z4_2 := hE4_2.lt
    replace hE := hE.ext hE4_2
    replace hB := hB.ext hE4_2
    replace o0_0 := o0_0.ext hE4_2
    replace o3_3 := o3_3.ext hE4_2
    replace hSv := hSv.ext hE4_2
    replace o3_5 := o3_5.ext hE4_2
    rw [e0]
    refine Reg.pur rfl rfl rfl rfl (Pur.mv rfl) ?_
    refine Reg.pur rfl rfl rfl rfl (Pur.ext rfl rfl) ?_
    refine Reg.pur rfl rfl rfl rfl (Pur.ext rfl rfl) ?_
    refine Reg.pur rfl rfl rfl rfl (Pur.asg rfl) ?_
    refine Reg.pur rfl rfl rfl rfl (Pur.asg rfl) ?_
    refine Reg.nil ?_
    refine At.region rfl rfl ?_
    refine Reg.pur rfl rfl rfl rfl (Pur.bld (cs := [_, _, _, _, _, _, _, _, _]) pl65 zc65 rfl rfl ⟨rfl, rfl, rfl, rfl, rfl, rfl, rfl, rfl, rfl, rfl⟩) ?_
    refine Reg.op rfl rfl rfl rfl (Does.bslA ([Is (bNode false)]) slA53 rfl rfl rfl rfl rfl rfl) ?_
    rintro _ H5_1 ⟨rfl, hp5_1⟩
    have hn5_1 := New.of_eq hp5_1
    have z5_1 := hn5_1.size
    replace hE := hE.ext hn5_1.ext
    replace hB := hB.ext hn5_1.ext
    replace o0_0 := o0_0.ext hn5_1.ext
    replace o3_3 := o3_3.ext hn5_1.ext
    replace hSv := hSv.ext hn5_1.ext
    replace o3_5 := o3_5.ext hn5_1.ext
    have o5_1 := hn5_1.own
    refine Reg.pur rfl rfl rfl rfl (Pur.bld (cs := [_]) pl55 zc55 rfl rfl ⟨rfl, rfl⟩) ?_
    refine Reg.lod rfl rfl rfl rfl (Lod.ldn ag55 rfl o0_0.blk (whole rfl) rfl) ?_
    refine Reg.op rfl rfl rfl rfl (Does.call rfl (instG_ok (L := [bNode false]) (K := L) (nine_lit rfl) hL (sl_own (L := [bNode false]) (wide9 (nine_lit rfl)) (by decide) o5_1 (by decide)) (hS.ext hE) (by decide) hl)) ?_
    rintro _ H5_4 ⟨rfl, hE5_4⟩
    have z5_4 := hE5_4.lt
    replace hE := hE.ext hE5_4
    replace hB := hB.ext hE5_4
    replace o0_0 := o0_0.ext hE5_4
    replace o3_3 := o3_3.ext hE5_4
    replace hSv := hSv.ext hE5_4
    replace o3_5 := o3_5.ext hE5_4
    replace o5_1 := o5_1.ext hE5_4
    rw [e1]
    refine Reg.pur rfl rfl rfl rfl (Pur.mv rfl) ?_
    refine Reg.pur rfl rfl rfl rfl (Pur.ext rfl rfl) ?_
    refine Reg.pur rfl rfl rfl rfl (Pur.ext rfl rfl) ?_
    refine Reg.pur rfl rfl rfl rfl (Pur.asg rfl) ?_
    refine Reg.pur rfl rfl rfl rfl (Pur.asg rfl) ?_
    refine Reg.nil ?_
    refine At.region rfl rfl ?_
    refine Reg.pur rfl rfl rfl rfl (Pur.bld (cs := [_, _, _, _, _, _, _, _, _]) pl65 zc65 rfl rfl ⟨rfl, rfl, rfl, rfl, rfl, rfl, rfl, rfl, rfl, rfl⟩) ?_
    refine Reg.op rfl rfl rfl rfl (Does.bslA ([Is (bNode true)]) slA53 rfl rfl rfl rfl rfl rfl) ?_
    rintro _ H6_1 ⟨rfl, hp6_1⟩
    have hn6_1 := New.of_eq hp6_1
    have z6_1 := hn6_1.size
    replace hE := hE.ext hn6_1.ext
    replace hB := hB.ext hn6_1.ext
    replace o0_0 := o0_0.ext hn6_1.ext
    replace o3_3 := o3_3.ext hn6_1.ext
    replace hSv := hSv.ext hn6_1.ext
    replace o3_5 := o3_5.ext hn6_1.ext
    replace o5_1 := o5_1.ext hn6_1.ext
    have o6_1 := hn6_1.own
    refine Reg.pur rfl rfl rfl rfl (Pur.bld (cs := [_]) pl55 zc55 rfl rfl ⟨rfl, rfl⟩) ?_
    refine Reg.lod rfl rfl rfl rfl (Lod.ldn ag55 rfl o0_0.blk (whole rfl) rfl) ?_
    refine Reg.op rfl rfl rfl rfl (Does.call rfl (instG_ok (L := [bNode true]) (K := L) (nine_lit rfl) hL (sl_own (L := [bNode true]) (wide9 (nine_lit rfl)) (by decide) o6_1 (by decide)) (hS.ext hE) (by decide) hl)) ?_
    rintro _ H6_4 ⟨rfl, hE6_4⟩
    have z6_4 := hE6_4.lt
    replace hE := hE.ext hE6_4
    replace hB := hB.ext hE6_4
    replace o0_0 := o0_0.ext hE6_4
    replace o3_3 := o3_3.ext hE6_4
    replace hSv := hSv.ext hE6_4
    replace o3_5 := o3_5.ext hE6_4
    replace o5_1 := o5_1.ext hE6_4
    replace o6_1 := o6_1.ext hE6_4
    rw [e2]
    refine Reg.pur rfl rfl rfl rfl (Pur.mv rfl) ?_
    refine Reg.pur rfl rfl rfl rfl (Pur.ext rfl rfl) ?_
    refine Reg.pur rfl rfl rfl rfl (Pur.ext rfl rfl) ?_
    refine Reg.pur rfl rfl rfl rfl (Pur.asg rfl) ?_
    refine Reg.pur rfl rfl rfl rfl (Pur.asg rfl) ?_
    refine Reg.nil ?_
    refine At.region rfl rfl ?_
    refine Reg.pur rfl rfl rfl rfl (Pur.mv rfl) ?_
    refine Reg.op rfl rfl rfl rfl (Does.call rfl (numE_ok _ _)) ?_
    rintro _ H6_4 ⟨rfl, rfl⟩
    refine Reg.pur rfl rfl rfl rfl (Pur.neq rfl rfl) ?_
    refine Reg.pur rfl rfl rfl rfl (Pur.mv rfl) ?_
    refine Reg.known (b' := false) 47 rfl (by decide) ?_
    refine Reg.gpur rfl rfl rfl rfl rfl rfl (Pur.fld _ fo55_0 rfl) ?_
    refine Reg.glod rfl rfl rfl rfl rfl rfl (Lod.ld sc53 rfl o0_0.blk rfl) ?_
    refine Reg.gpur rfl rfl rfl rfl rfl rfl (Pur.lenS isl53 rfl) ?_
    refine Reg.gpur rfl rfl rfl rfl rfl rfl (Pur.lss rfl rfl) ?_
    refine Reg.pur rfl rfl rfl rfl (Pur.pickF rfl rfl) ?_
    refine Reg.nil ?_
    refine At.condF rfl rfl (decide_eq_false (by omega)) ?_
    refine At.region rfl rfl ?_
    refine Reg.lod rfl rfl rfl rfl (Lod.ldn ag55 rfl o0_0.blk (whole rfl) rfl) ?_
    refine Reg.lod rfl rfl rfl rfl (Lod.ldn ag55 rfl o3_5.blk (whole rfl) rfl) ?_
    refine Reg.op rfl rfl rfl rfl (Does.call rfl (instG_ok (L := L) (K := [vNode (bits .and .i64 n 1023)]) hL (nine_lit rfl) (hS.ext hE) hSv hl (Nat.le_of_ble_eq_true rfl))) ?_
    rintro _ H9_2 ⟨rfl, hE9_2⟩
    have z9_2 := hE9_2.lt
    replace hE := hE.ext hE9_2
    replace hB := hB.ext hE9_2
    replace o0_0 := o0_0.ext hE9_2
    replace o3_3 := o3_3.ext hE9_2
    replace hSv := hSv.ext hE9_2
    replace o3_5 := o3_5.ext hE9_2
    replace o5_1 := o5_1.ext hE9_2
    replace o6_1 := o6_1.ext hE9_2
    rw [e3]
    refine Reg.pur rfl rfl rfl rfl (Pur.mv rfl) ?_
    refine Reg.pur rfl rfl rfl rfl (Pur.ext rfl rfl) ?_
    refine Reg.pur rfl rfl rfl rfl (Pur.ext rfl rfl) ?_
    refine Reg.pur rfl rfl rfl rfl (Pur.asg rfl) ?_
    refine Reg.pur rfl rfl rfl rfl (Pur.asg rfl) ?_
    refine Reg.nil ?_
    refine At.region rfl rfl ?_
    refine Reg.pur rfl rfl rfl rfl (Pur.fld _ fo55_0 rfl) ?_
    refine Reg.lod rfl rfl rfl rfl (Lod.ld sc53 rfl o0_0.blk rfl) ?_
    refine Reg.pur rfl rfl rfl rfl (Pur.fld _ fo55_0 rfl) ?_
    refine Reg.lod rfl rfl rfl rfl (Lod.ld sc53 rfl o0_0.blk rfl) ?_
    refine Reg.pur rfl rfl rfl rfl (Pur.lenS isl53 rfl) ?_
    refine Reg.pur rfl rfl rfl rfl (Pur.sub64 rfl rfl (by omega)) ?_
    refine Reg.pur rfl rfl rfl rfl (Pur.idx _ es53 rfl rfl (by omega) (by omega)) ?_
    refine Reg.pur rfl rfl rfl rfl (Pur.fld _ fo65_0 rfl) ?_
    refine Reg.lod rfl rfl rfl rfl (Lod.ld sc3 rfl hB (hat 0 (by decide))) ?_
    refine Reg.pur rfl rfl rfl rfl (Pur.asg rfl) ?_
    refine Reg.nil ?_
    refine At.region rfl rfl ?_
    refine Reg.pur rfl rfl rfl rfl (Pur.mv rfl) ?_
    refine Reg.pur rfl rfl rfl rfl (Pur.mv rfl) ?_
    refine Reg.known (b' := true) 84 rfl (by first | rfl | simp) ?_
    refine Reg.gpur rfl rfl rfl rfl rfl rfl (Pur.mv rfl) ?_
    refine Reg.gop rfl rfl rfl rfl rfl rfl (Does.call rfl (numE_ok _ _)) ?_
    rintro _ H9_2 ⟨rfl, rfl⟩
    refine Reg.gpur rfl rfl rfl rfl rfl rfl (Pur.eql rfl rfl) ?_
    refine Reg.pur rfl rfl rfl rfl (Pur.pickT rfl rfl) ?_
    refine Reg.pur rfl rfl rfl rfl (Pur.mv rfl) ?_
    refine Reg.known (b' := true) 89 rfl (by first | rfl | simp) ?_
    refine Reg.gpur rfl rfl rfl rfl rfl rfl (Pur.mv rfl) ?_
    refine Reg.gop rfl rfl rfl rfl rfl rfl (Does.call rfl (numE_ok _ _)) ?_
    rintro _ H9_2 ⟨rfl, rfl⟩
    refine Reg.gpur rfl rfl rfl rfl rfl rfl (Pur.eql rfl rfl) ?_
    refine Reg.pur rfl rfl rfl rfl (Pur.pickT rfl rfl) ?_
    refine Reg.pur rfl rfl rfl rfl (Pur.mv rfl) ?_
    refine Reg.known (b' := true) 94 rfl (by first | rfl | simp) ?_
    refine Reg.gpur rfl rfl rfl rfl rfl rfl (Pur.mv rfl) ?_
    refine Reg.gop rfl rfl rfl rfl rfl rfl (Does.call rfl (numE_ok _ _)) ?_
    rintro _ H9_2 ⟨rfl, rfl⟩
    refine Reg.gpur rfl rfl rfl rfl rfl rfl (Pur.eql rfl rfl) ?_
    refine Reg.pur rfl rfl rfl rfl (Pur.pickT rfl rfl) ?_
    refine Reg.pur rfl rfl rfl rfl (Pur.mv rfl) ?_
    refine Reg.known (b' := true) 99 rfl (by first | rfl | simp) ?_
    refine Reg.gpur rfl rfl rfl rfl rfl rfl (Pur.mv rfl) ?_
    refine Reg.gpur rfl rfl rfl rfl rfl rfl (Pur.mv rfl) ?_
    refine Reg.gpur rfl rfl rfl rfl rfl rfl (Pur.eql rfl rfl) ?_
    refine Reg.gpur rfl rfl rfl rfl rfl rfl (Pur.eqB Tryd.underlying4 rfl rfl) ?_
    refine Reg.pur rfl rfl rfl rfl (Pur.pickT rfl rfl) ?_
    refine Reg.pur rfl rfl rfl rfl (Pur.mv rfl) ?_
    refine Reg.known (b' := true) 105 rfl (by first | rfl | simp) ?_
    refine Reg.gpur rfl rfl rfl rfl rfl rfl (Pur.mv rfl) ?_
    refine Reg.gpur rfl rfl rfl rfl rfl rfl (Pur.mv rfl) ?_
    refine Reg.gpur rfl rfl rfl rfl rfl rfl (Pur.eql rfl rfl) ?_
    refine Reg.gpur rfl rfl rfl rfl rfl rfl (Pur.eqB Tryd.underlying4 rfl rfl) ?_
    refine Reg.pur rfl rfl rfl rfl (Pur.pickT rfl rfl) ?_
    refine Reg.pur rfl rfl rfl rfl (Pur.mv rfl) ?_
    refine Reg.known (b' := true) 111 rfl (by first | rfl | simp) ?_
    refine Reg.gpur rfl rfl rfl rfl rfl rfl (Pur.mv rfl) ?_
    refine Reg.gpur rfl rfl rfl rfl rfl rfl (Pur.mv rfl) ?_
    refine Reg.gpur rfl rfl rfl rfl rfl rfl (Pur.eql rfl rfl) ?_
    refine Reg.gpur rfl rfl rfl rfl rfl rfl (Pur.eqB Tryd.underlying4 rfl rfl) ?_
    refine Reg.pur rfl rfl rfl rfl (Pur.pickT rfl rfl) ?_
    refine Reg.pur rfl rfl rfl rfl (Pur.asg rfl) ?_
    refine Reg.nil ?_
    refine At.ret rfl Tryd.func12 rfl ?_
    exact ⟨(by first | rfl | simp), hE⟩
def Asg.comp (φ θ : Asg) : Asg := ⟨fun v => φ.tm (θ.T v), fun v => φ.row (θ.R v)⟩
theorem row_comp (φ θ : Asg) (r : List Int) : (φ.comp θ).row r = φ.row (θ.row r) := by
  by_cases h : r.getD 4 0 < 0
  · rw [Asg.row_no (θ := θ) h, Asg.row_no h, Asg.row_no h]
  · rw [Asg.row_yes (θ := θ) h, Asg.row_yes h, Asg.row_ad]; rfl
theorem tm_comp (φ θ : Asg) : ∀ t : Tm, (φ.comp θ).tm t = φ.tm (θ.tm t)
  | .bas k => rfl
  | .var v => rfl
  | .fn a r b => by
    simp only [Asg.tm]
    rw [tm_comp φ θ a, row_comp, tm_comp φ θ b]
theorem comp_ok {φ θ : Asg} (h : φ.Ok) (k : θ.Ok) : (φ.comp θ).Ok := by
  have key : ∀ v, 0 ≤ v → ((φ.comp θ).R v).length = 5 ∧ (∀ i, i < 4 → 0 ≤ ((φ.comp θ).R v).getD i 0) ∧ -1 ≤ ((φ.comp θ).R v).getD 4 0 := by
    intro v hv
    show (φ.row (θ.R v)).length = 5 ∧ (∀ i, i < 4 → 0 ≤ (φ.row (θ.R v)).getD i 0) ∧ -1 ≤ (φ.row (θ.R v)).getD 4 0
    have h1 := k.len v hv
    have h2 := k.pos v hv
    have h3 := k.tl v hv
    by_cases hn : (θ.R v).getD 4 0 < 0
    · rw [Asg.row_no hn]; exact ⟨h1, h2, h3⟩
    · rw [Asg.row_yes hn]
      have g2 := h.pos ((θ.R v).getD 4 0) (by omega)
      have g3 := h.tl ((θ.R v).getD 4 0) (by omega)
      refine ⟨rfl, fun i hi => ?_, by rw [adR_tail]; exact g3⟩
      match i, hi with
      | 0, _ => have := h2 0 (by decide); have := g2 0 (by decide); show 0 ≤ _ + _; omega
      | 1, _ => have := h2 1 (by decide); have := g2 1 (by decide); show 0 ≤ _ + _; omega
      | 2, _ => have := h2 2 (by decide); have := g2 2 (by decide); show 0 ≤ _ + _; omega
      | 3, _ => have := h2 3 (by decide); have := g2 3 (by decide); show 0 ≤ _ + _; omega
  exact ⟨fun v hv => (key v hv).1, fun v hv => (key v hv).2.1, fun v hv => (key v hv).2.2⟩
theorem made_asg {Bs : List Bd} {L W : List (List Int)} (hB : ∀ b ∈ Bs, Nine b.nodes ∧ b.row.length = 5) (hL : Nine L) (h : subT Bs L = some W) :
    ∃ (t w : Tm) (θ : Asg), L = t.enc 0 ∧ W = w.enc 0 ∧ t.ok ∧ w.ok ∧ t.sz ≤ 256 ∧ w.sz ≤ 256 ∧ θ.Ok ∧ θ.tm t = w := by
  obtain ⟨hb, hT⟩ := subT_some h
  unfold bindsM at hb
  rw [Bool.and_eq_true] at hb
  obtain ⟨Ts, k1, k2⟩ := binds_tree hB hb.2
  obtain ⟨t, ht, rfl, htz⟩ := typ_dec hL hT
  obtain ⟨u, hu, rfl⟩ := subT_tys k1 k2 h
  exact ⟨t, u, asg Ts, rfl, rfl, ht, sub_ok k2 ht (tys_sub hu).1, htz, (tys_sub hu).2, asg_ok k2, sub_asg k2 ht (tys_sub hu).1⟩
theorem ins_asg {t w : Tm} {θ : Asg} (ht : t.ok) (hz : t.sz ≤ 256) (hw : w.ok) (hwz : w.sz ≤ 256) (hθ : θ.Ok) (h : θ.tm t = w) : insV (t.enc 0) (w.enc 0) = (true, 0) := by
  obtain ⟨M', hM, _⟩ := inst_of hθ ht hw (has_nil _) h
  rw [insV_enc ht hz hw hwz, hM]; rfl
theorem ce_some {α : Type} {o : Option α} : ce o.isSome = 0 ↔ ∃ x, o = some x := by
  cases o <;> simp [ce]
theorem matchMade_law {A AB AC : Option Addr} {cap kb kc : Nat} {L : List (List Int)} {Bs Cs : List Bd} (hL : Nine L) {H : Heap} (hT : Tens H) (hS : SlT H Is 9 (.slice A L.length cap) L) (hm : L.length * 72 ≤ 140737488351232) (hB : Bds H (.slice AB Bs.length kb) Bs) (hC : Bds H (.slice AC Cs.length kc) Cs) :
    Ret Tryd.prog 17 [Ty A L.length cap, .slice AB Bs.length kb, .slice AC Cs.length kc] H (fun v H' => v = .bool true ∧ Ext H H') := by
  have hB5 : ∀ b ∈ Bs, Nine b.nodes ∧ b.row.length = 5 := fun b hb => ⟨(hB.ok b hb).nine, (hB.ok b hb).row⟩
  have hC5 : ∀ b ∈ Cs, Nine b.nodes ∧ b.row.length = 5 := fun b hb => ⟨(hC.ok b hb).nine, (hC.ok b hb).row⟩
  refine Ret.of_at (N := 69) Tryd.call17 Tryd.func17 rfl rfl rfl ?_
  have hE := Ext.refl H
  refine At.region rfl rfl ?_
  refine Reg.op rfl rfl rfl rfl (Does.box rfl rfl) ?_
  rintro _ H0_0 ⟨rfl, hn0_0⟩
  have z0_0 := hn0_0.size
  replace hE := hE.ext hn0_0.ext
  have o0_0 := hn0_0.own
  refine Reg.pur rfl rfl rfl rfl (Pur.asg rfl) ?_
  refine Reg.nil ?_
  refine At.region rfl rfl ?_
  refine Reg.op rfl rfl rfl rfl (Does.call rfl (awake11_ok (hT.ext hE))) ?_
  rintro _ H1_0 ⟨rfl, hE1_0⟩
  have z1_0 := hE1_0.lt
  replace hE := hE.ext hE1_0
  replace o0_0 := o0_0.ext hE1_0
  refine Reg.pur rfl rfl rfl rfl (Pur.not rfl) ?_
  refine Reg.nil ?_
  refine At.condF rfl rfl (rfl) ?_
  refine At.region rfl rfl ?_
  refine Reg.pur rfl rfl rfl rfl (Pur.mv rfl) ?_
  refine Reg.lod rfl rfl rfl rfl (Lod.ldn ag55 rfl o0_0.blk (whole rfl) rfl) ?_
  refine Reg.op rfl rfl rfl rfl (Does.call rfl (type_ok (hB.ext hE) (hS.ext hE) hL hm)) ?_
  rintro v3_2 H3_2 ⟨hE3_2, hT3_2⟩
  have z3_2 := hE3_2.lt
  replace hE := hE.ext hE3_2
  replace o0_0 := o0_0.ext hE3_2
  obtain ⟨A3, cap3, rfl, ho3, hN3, hl3⟩ := hT3_2
  have z_ho3 := ho3.lt
  refine Reg.pur rfl rfl rfl rfl (Pur.mv rfl) ?_
  refine Reg.pur rfl rfl rfl rfl (Pur.ext rfl rfl) ?_
  refine Reg.pur rfl rfl rfl rfl (Pur.ext rfl rfl) ?_
  refine Reg.op rfl rfl rfl rfl (Does.alloc zc55) ?_
  rintro _ H3_6 ⟨rfl, hn3_6⟩
  have z3_6 := hn3_6.size
  replace hE := hE.ext hn3_6.ext
  replace o0_0 := o0_0.ext hn3_6.ext
  replace ho3 := ho3.ext hn3_6.ext
  have o3_6 := hn3_6.own
  refine Reg.op0 rfl rfl rfl (Does.stn ag55 rfl rfl (by first | rfl | exact ones_Is _) (by first | rfl | (simp [*]; done)) o3_6 (by first | decide | (simp; done) | (simp; omega) | omega)) ?_
  rintro _ H3_7 hu3_7
  have z3_7 := hu3_7.size
  replace hE := hE.upw hu3_7 (by omega)
  replace o0_0 := o0_0.upw hu3_7 (by omega)
  replace ho3 := ho3.upw hu3_7 (by omega)
  replace o3_6 := hu3_7.own
  first | rw [over (by first | rfl | (simp; done))] at o3_6 | skip
  refine Reg.pur rfl rfl rfl rfl (Pur.asg rfl) ?_
  refine Reg.nil ?_
  refine At.region rfl rfl ?_
  refine Reg.pur rfl rfl rfl rfl (Pur.mv rfl) ?_
  refine Reg.lod rfl rfl rfl rfl (Lod.ldn ag55 rfl o3_6.blk (whole rfl) rfl) ?_
  refine Reg.op rfl rfl rfl rfl (Does.call rfl (type_ok (hC.ext hE) (own_sl (wide9 hN3) (by decide) ho3) hN3 (by omega))) ?_
  rintro v4_2 H4_2 ⟨hE4_2, hT4_2⟩
  have z4_2 := hE4_2.lt
  replace hE := hE.ext hE4_2
  replace o0_0 := o0_0.ext hE4_2
  replace ho3 := ho3.ext hE4_2
  replace o3_6 := o3_6.ext hE4_2
  obtain ⟨A4, cap4, rfl, ho4, hN4, hl4⟩ := hT4_2
  have z_ho4 := ho4.lt
  refine Reg.pur rfl rfl rfl rfl (Pur.mv rfl) ?_
  refine Reg.pur rfl rfl rfl rfl (Pur.ext rfl rfl) ?_
  refine Reg.pur rfl rfl rfl rfl (Pur.ext rfl rfl) ?_
  refine Reg.op rfl rfl rfl rfl (Does.alloc zc55) ?_
  rintro _ H4_6 ⟨rfl, hn4_6⟩
  have z4_6 := hn4_6.size
  replace hE := hE.ext hn4_6.ext
  replace o0_0 := o0_0.ext hn4_6.ext
  replace ho3 := ho3.ext hn4_6.ext
  replace o3_6 := o3_6.ext hn4_6.ext
  replace ho4 := ho4.ext hn4_6.ext
  have o4_6 := hn4_6.own
  refine Reg.op0 rfl rfl rfl (Does.stn ag55 rfl rfl (by first | rfl | exact ones_Is _) (by first | rfl | (simp [*]; done)) o4_6 (by first | decide | (simp; done) | (simp; omega) | omega)) ?_
  rintro _ H4_7 hu4_7
  have z4_7 := hu4_7.size
  replace hE := hE.upw hu4_7 (by omega)
  replace o0_0 := o0_0.upw hu4_7 (by omega)
  replace ho3 := ho3.upw hu4_7 (by omega)
  replace o3_6 := o3_6.upw hu4_7 (by omega)
  replace ho4 := ho4.upw hu4_7 (by omega)
  replace o4_6 := hu4_7.own
  first | rw [over (by first | rfl | (simp; done))] at o4_6 | skip
  refine Reg.pur rfl rfl rfl rfl (Pur.asg rfl) ?_
  refine Reg.nil ?_
  refine At.region rfl rfl ?_
  refine Reg.lod rfl rfl rfl rfl (Lod.ldn ag55 rfl o0_0.blk (whole rfl) rfl) ?_
  refine Reg.lod rfl rfl rfl rfl (Lod.ldn ag55 rfl o3_6.blk (whole rfl) rfl) ?_
  refine Reg.op rfl rfl rfl rfl (Does.call rfl (instG_ok hL hN3 (hS.ext hE) (own_sl (wide9 hN3) (by decide) ho3) (by omega) (by omega))) ?_
  rintro _ H5_2 ⟨rfl, hE5_2⟩
  have z5_2 := hE5_2.lt
  replace hE := hE.ext hE5_2
  replace o0_0 := o0_0.ext hE5_2
  replace ho3 := ho3.ext hE5_2
  replace o3_6 := o3_6.ext hE5_2
  replace ho4 := ho4.ext hE5_2
  replace o4_6 := o4_6.ext hE5_2
  refine Reg.pur rfl rfl rfl rfl (Pur.mv rfl) ?_
  refine Reg.pur rfl rfl rfl rfl (Pur.ext rfl rfl) ?_
  refine Reg.pur rfl rfl rfl rfl (Pur.ext rfl rfl) ?_
  refine Reg.pur rfl rfl rfl rfl (Pur.asg rfl) ?_
  refine Reg.pur rfl rfl rfl rfl (Pur.asg rfl) ?_
  refine Reg.nil ?_
  refine At.region rfl rfl ?_
  refine Reg.lod rfl rfl rfl rfl (Lod.ldn ag55 rfl o0_0.blk (whole rfl) rfl) ?_
  refine Reg.lod rfl rfl rfl rfl (Lod.ldn ag55 rfl o4_6.blk (whole rfl) rfl) ?_
  refine Reg.op rfl rfl rfl rfl (Does.call rfl (instG_ok hL hN4 (hS.ext hE) (own_sl (wide9 hN4) (by decide) ho4) (by omega) (by omega))) ?_
  rintro _ H6_2 ⟨rfl, hE6_2⟩
  have z6_2 := hE6_2.lt
  replace hE := hE.ext hE6_2
  replace o0_0 := o0_0.ext hE6_2
  replace ho3 := ho3.ext hE6_2
  replace o3_6 := o3_6.ext hE6_2
  replace ho4 := ho4.ext hE6_2
  replace o4_6 := o4_6.ext hE6_2
  refine Reg.pur rfl rfl rfl rfl (Pur.mv rfl) ?_
  refine Reg.pur rfl rfl rfl rfl (Pur.ext rfl rfl) ?_
  refine Reg.pur rfl rfl rfl rfl (Pur.ext rfl rfl) ?_
  refine Reg.pur rfl rfl rfl rfl (Pur.asg rfl) ?_
  refine Reg.pur rfl rfl rfl rfl (Pur.asg rfl) ?_
  refine Reg.nil ?_
  have h1 : ce (subT Bs L).isSome = 0 → insV L ((subT Bs L).getD []) = (true, 0) := by
    intro h
    obtain ⟨W, hW⟩ := ce_some.1 h
    obtain ⟨t, w, θ, rfl, rfl, k1, k2, k3, k4, k5, k6⟩ := made_asg hB5 hL hW
    rw [hW]
    exact ins_asg k1 k3 k2 k4 k5 k6
  have h2 : ce (subT Bs L).isSome = 0 → ce (subT Cs ((subT Bs L).getD [])).isSome = 0 → insV L ((subT Cs ((subT Bs L).getD [])).getD []) = (true, 0) := by
    intro h h'
    obtain ⟨W, hW⟩ := ce_some.1 h
    rw [hW] at h' hN3 ⊢
    obtain ⟨X, hX⟩ := ce_some.1 h'
    obtain ⟨t, w, θ, rfl, rfl, k1, k2, k3, k4, k5, k6⟩ := made_asg hB5 hL hW
    obtain ⟨t', w', φ, e1, rfl, j1, j2, j3, j4, j5, j6⟩ := made_asg hC5 hN3 hX
    obtain rfl := enc_inj k2 j1 k4 e1
    rw [hX]
    exact ins_asg (θ := φ.comp θ) k1 k3 j2 j4 (comp_ok j5 k5) (by rw [tm_comp, k6, j6])
  refine At.region rfl rfl ?_
  refine Reg.pur rfl rfl rfl rfl (Pur.mv rfl) ?_
  refine Reg.op rfl rfl rfl rfl (Does.call rfl (numE_ok _ _)) ?_
  rintro _ H6_2 ⟨rfl, rfl⟩
  refine Reg.pur rfl rfl rfl rfl (Pur.eql rfl rfl) ?_
  refine Reg.pur rfl rfl rfl rfl (Pur.mv rfl) ?_
  refine Reg.case 44 rfl (fun q44 => ?_) (fun q44 => ?_)
  · first | (simp only [decide_eq_true_eq, decide_eq_false_iff_not, Bool.not_eq_true', Bool.not_eq_false', ne_eq, Decidable.not_not, Bool.not_eq_true, Bool.not_eq_false] at q44) | (dsimp only at q44) | skip
    refine Reg.gpur rfl rfl rfl rfl rfl rfl (Pur.mv rfl) ?_
    refine Reg.gpur rfl rfl rfl rfl rfl rfl (Pur.not rfl) ?_
    refine Reg.gpur rfl rfl rfl rfl rfl rfl (Pur.mv rfl) ?_
    refine Reg.case 47 rfl (fun q47 => ?_) (fun q47 => ?_)
    · first | (simp only [decide_eq_true_eq, decide_eq_false_iff_not, Bool.not_eq_true', Bool.not_eq_false', ne_eq, Decidable.not_not, Bool.not_eq_true, Bool.not_eq_false] at q47) | (dsimp only at q47) | skip
      refine Reg.skip rfl rfl rfl rfl rfl rfl rfl ?_
      refine Reg.skip rfl rfl rfl rfl rfl rfl rfl ?_
      refine Reg.skip rfl rfl rfl rfl rfl rfl rfl ?_
      refine Reg.gpur rfl rfl rfl rfl rfl rfl (Pur.pickT rfl rfl) ?_
      refine Reg.pur rfl rfl rfl rfl (Pur.pickT rfl rfl) ?_
      refine Reg.nil ?_
      refine At.condT rfl rfl rfl ?_
      refine At.region rfl rfl ?_
      refine Reg.pur rfl rfl rfl rfl (Pur.asg rfl) ?_
      refine Reg.nil ?_
      refine At.ret rfl Tryd.func17 rfl ?_
      first | exact ⟨rfl, hE⟩ | (refine ⟨?_, hE⟩; simp_all; done) | (exfalso; simp_all; done)
    first | (simp only [decide_eq_true_eq, decide_eq_false_iff_not, Bool.not_eq_true', Bool.not_eq_false', ne_eq, Decidable.not_not, Bool.not_eq_true, Bool.not_eq_false] at q47) | (dsimp only at q47) | skip
    refine Reg.gpur rfl rfl rfl rfl rfl rfl (Pur.mv rfl) ?_
    refine Reg.gop rfl rfl rfl rfl rfl rfl (Does.call rfl (numE_ok _ _)) ?_
    rintro _ H6_2 ⟨rfl, rfl⟩
    refine Reg.gpur rfl rfl rfl rfl rfl rfl (Pur.neq rfl rfl) ?_
    refine Reg.gpur rfl rfl rfl rfl rfl rfl (Pur.pickF rfl rfl) ?_
    refine Reg.pur rfl rfl rfl rfl (Pur.pickT rfl rfl) ?_
    refine Reg.nil ?_
    refine At.cond rfl rfl (fun q52 => ?_) (fun q52 => ?_)
    · first | (simp only [decide_eq_true_eq, decide_eq_false_iff_not, Bool.not_eq_true', Bool.not_eq_false', ne_eq, Decidable.not_not, Bool.not_eq_true, Bool.not_eq_false] at q52) | (dsimp only at q52) | skip
      refine At.region rfl rfl ?_
      refine Reg.pur rfl rfl rfl rfl (Pur.asg rfl) ?_
      refine Reg.nil ?_
      refine At.ret rfl Tryd.func17 rfl ?_
      first | exact ⟨rfl, hE⟩ | (refine ⟨?_, hE⟩; simp_all; done) | (exfalso; simp_all; done)
    first | (simp only [decide_eq_true_eq, decide_eq_false_iff_not, Bool.not_eq_true', Bool.not_eq_false', ne_eq, Decidable.not_not, Bool.not_eq_true, Bool.not_eq_false] at q52) | (dsimp only at q52) | skip
    refine At.region rfl rfl ?_
    refine Reg.pur rfl rfl rfl rfl (Pur.mv rfl) ?_
    refine Reg.op rfl rfl rfl rfl (Does.call rfl (numE_ok _ _)) ?_
    rintro _ H6_2 ⟨rfl, rfl⟩
    refine Reg.pur rfl rfl rfl rfl (Pur.neq rfl rfl) ?_
    refine Reg.pur rfl rfl rfl rfl (Pur.mv rfl) ?_
    refine Reg.case 56 rfl (fun q56 => ?_) (fun q56 => ?_)
    · first | (simp only [decide_eq_true_eq, decide_eq_false_iff_not, Bool.not_eq_true', Bool.not_eq_false', ne_eq, Decidable.not_not, Bool.not_eq_true, Bool.not_eq_false] at q56) | (dsimp only at q56) | skip
      refine Reg.skip rfl rfl rfl rfl rfl rfl rfl ?_
      refine Reg.skip rfl rfl rfl rfl rfl rfl rfl ?_
      refine Reg.skip rfl rfl rfl rfl rfl rfl rfl ?_
      refine Reg.pur rfl rfl rfl rfl (Pur.pickT rfl rfl) ?_
      refine Reg.pur rfl rfl rfl rfl (Pur.mv rfl) ?_
      refine Reg.skip rfl rfl rfl rfl rfl rfl rfl ?_
      refine Reg.skip rfl rfl rfl rfl rfl rfl rfl ?_
      refine Reg.skipU rfl rfl rfl rfl rfl rfl ?_
      refine Reg.skipU rfl rfl rfl rfl rfl rfl ?_
      refine Reg.skipU rfl rfl rfl rfl rfl rfl ?_
      refine Reg.skip rfl rfl rfl rfl rfl rfl rfl ?_
      refine Reg.pur rfl rfl rfl rfl (Pur.pickT rfl rfl) ?_
      refine Reg.pur rfl rfl rfl rfl (Pur.asg rfl) ?_
      refine Reg.nil ?_
      refine At.ret rfl Tryd.func17 rfl ?_
      first | exact ⟨rfl, hE⟩ | (refine ⟨?_, hE⟩; simp_all; done) | (exfalso; simp_all; done)
    first | (simp only [decide_eq_true_eq, decide_eq_false_iff_not, Bool.not_eq_true', Bool.not_eq_false', ne_eq, Decidable.not_not, Bool.not_eq_true, Bool.not_eq_false] at q56) | (dsimp only at q56) | skip
    refine Reg.gpur rfl rfl rfl rfl rfl rfl (Pur.mv rfl) ?_
    refine Reg.gop rfl rfl rfl rfl rfl rfl (Does.call rfl (numE_ok _ _)) ?_
    rintro _ H6_2 ⟨rfl, rfl⟩
    refine Reg.gpur rfl rfl rfl rfl rfl rfl (Pur.neq rfl rfl) ?_
    refine Reg.pur rfl rfl rfl rfl (Pur.pickF rfl rfl) ?_
    refine Reg.pur rfl rfl rfl rfl (Pur.mv rfl) ?_
    refine Reg.case 61 rfl (fun q61 => ?_) (fun q61 => ?_)
    · first | (simp only [decide_eq_true_eq, decide_eq_false_iff_not, Bool.not_eq_true', Bool.not_eq_false', ne_eq, Decidable.not_not, Bool.not_eq_true, Bool.not_eq_false] at q61) | (dsimp only at q61) | skip
      refine Reg.skip rfl rfl rfl rfl rfl rfl rfl ?_
      refine Reg.skip rfl rfl rfl rfl rfl rfl rfl ?_
      refine Reg.skipU rfl rfl rfl rfl rfl rfl ?_
      refine Reg.skipU rfl rfl rfl rfl rfl rfl ?_
      refine Reg.skipU rfl rfl rfl rfl rfl rfl ?_
      refine Reg.skip rfl rfl rfl rfl rfl rfl rfl ?_
      refine Reg.pur rfl rfl rfl rfl (Pur.pickT rfl rfl) ?_
      refine Reg.pur rfl rfl rfl rfl (Pur.asg rfl) ?_
      refine Reg.nil ?_
      refine At.ret rfl Tryd.func17 rfl ?_
      first | exact ⟨rfl, hE⟩ | (refine ⟨?_, hE⟩; simp_all; done) | (exfalso; simp_all; done)
    first | (simp only [decide_eq_true_eq, decide_eq_false_iff_not, Bool.not_eq_true', Bool.not_eq_false', ne_eq, Decidable.not_not, Bool.not_eq_true, Bool.not_eq_false] at q61) | (dsimp only at q61) | skip
    refine Reg.gpur rfl rfl rfl rfl rfl rfl (Pur.mv rfl) ?_
    refine Reg.gpur rfl rfl rfl rfl rfl rfl (Pur.mv rfl) ?_
    refine Reg.case 63 rfl (fun q63 => ?_) (fun q63 => ?_)
    · first | (simp only [decide_eq_true_eq, decide_eq_false_iff_not, Bool.not_eq_true', Bool.not_eq_false', ne_eq, Decidable.not_not, Bool.not_eq_true, Bool.not_eq_false] at q63) | (dsimp only at q63) | skip
      refine Reg.gpur rfl rfl rfl rfl rfl rfl (Pur.mv rfl) ?_
      refine Reg.gop rfl rfl rfl rfl rfl rfl (Does.call rfl (numE_ok _ _)) ?_
      rintro _ H6_2 ⟨rfl, rfl⟩
      refine Reg.gpur rfl rfl rfl rfl rfl rfl (Pur.eql rfl rfl) ?_
      refine Reg.gpur rfl rfl rfl rfl rfl rfl (Pur.pickT rfl rfl) ?_
      refine Reg.pur rfl rfl rfl rfl (Pur.pickF rfl rfl) ?_
      refine Reg.pur rfl rfl rfl rfl (Pur.asg rfl) ?_
      refine Reg.nil ?_
      refine At.ret rfl Tryd.func17 rfl ?_
      first | exact ⟨rfl, hE⟩ | (refine ⟨?_, hE⟩; simp_all; done) | (exfalso; simp_all; done)
    first | (simp only [decide_eq_true_eq, decide_eq_false_iff_not, Bool.not_eq_true', Bool.not_eq_false', ne_eq, Decidable.not_not, Bool.not_eq_true, Bool.not_eq_false] at q63) | (dsimp only at q63) | skip
    refine Reg.skip rfl rfl rfl rfl rfl rfl rfl ?_
    refine Reg.skip rfl rfl rfl rfl rfl rfl rfl ?_
    refine Reg.skip rfl rfl rfl rfl rfl rfl rfl ?_
    refine Reg.gpur rfl rfl rfl rfl rfl rfl (Pur.pickF rfl rfl) ?_
    refine Reg.pur rfl rfl rfl rfl (Pur.pickF rfl rfl) ?_
    refine Reg.pur rfl rfl rfl rfl (Pur.asg rfl) ?_
    refine Reg.nil ?_
    refine At.ret rfl Tryd.func17 rfl ?_
    first | exact ⟨rfl, hE⟩ | (refine ⟨?_, hE⟩; simp_all; done) | (exfalso; simp_all; done)
  first | (simp only [decide_eq_true_eq, decide_eq_false_iff_not, Bool.not_eq_true', Bool.not_eq_false', ne_eq, Decidable.not_not, Bool.not_eq_true, Bool.not_eq_false] at q44) | (dsimp only at q44) | skip
  refine Reg.skip rfl rfl rfl rfl rfl rfl rfl ?_
  refine Reg.skip rfl rfl rfl rfl rfl rfl rfl ?_
  refine Reg.skip rfl rfl rfl rfl rfl rfl rfl ?_
  refine Reg.skipU rfl rfl rfl rfl rfl rfl ?_
  refine Reg.skipU rfl rfl rfl rfl rfl rfl ?_
  refine Reg.skipU rfl rfl rfl rfl rfl rfl ?_
  refine Reg.skip rfl rfl rfl rfl rfl rfl rfl ?_
  refine Reg.pur rfl rfl rfl rfl (Pur.pickF rfl rfl) ?_
  refine Reg.nil ?_
  refine At.condF rfl rfl rfl ?_
  refine At.region rfl rfl ?_
  refine Reg.pur rfl rfl rfl rfl (Pur.mv rfl) ?_
  refine Reg.op rfl rfl rfl rfl (Does.call rfl (numE_ok _ _)) ?_
  rintro _ H6_2 ⟨rfl, rfl⟩
  refine Reg.pur rfl rfl rfl rfl (Pur.neq rfl rfl) ?_
  refine Reg.pur rfl rfl rfl rfl (Pur.mv rfl) ?_
  refine Reg.case 56 rfl (fun q56 => ?_) (fun q56 => ?_)
  · first | (simp only [decide_eq_true_eq, decide_eq_false_iff_not, Bool.not_eq_true', Bool.not_eq_false', ne_eq, Decidable.not_not, Bool.not_eq_true, Bool.not_eq_false] at q56) | (dsimp only at q56) | skip
    refine Reg.skip rfl rfl rfl rfl rfl rfl rfl ?_
    refine Reg.skip rfl rfl rfl rfl rfl rfl rfl ?_
    refine Reg.skip rfl rfl rfl rfl rfl rfl rfl ?_
    refine Reg.pur rfl rfl rfl rfl (Pur.pickT rfl rfl) ?_
    refine Reg.pur rfl rfl rfl rfl (Pur.mv rfl) ?_
    refine Reg.skip rfl rfl rfl rfl rfl rfl rfl ?_
    refine Reg.skip rfl rfl rfl rfl rfl rfl rfl ?_
    refine Reg.skipU rfl rfl rfl rfl rfl rfl ?_
    refine Reg.skipU rfl rfl rfl rfl rfl rfl ?_
    refine Reg.skipU rfl rfl rfl rfl rfl rfl ?_
    refine Reg.skip rfl rfl rfl rfl rfl rfl rfl ?_
    refine Reg.pur rfl rfl rfl rfl (Pur.pickT rfl rfl) ?_
    refine Reg.pur rfl rfl rfl rfl (Pur.asg rfl) ?_
    refine Reg.nil ?_
    refine At.ret rfl Tryd.func17 rfl ?_
    first | exact ⟨rfl, hE⟩ | (refine ⟨?_, hE⟩; simp_all; done) | (exfalso; simp_all; done)
  first | (simp only [decide_eq_true_eq, decide_eq_false_iff_not, Bool.not_eq_true', Bool.not_eq_false', ne_eq, Decidable.not_not, Bool.not_eq_true, Bool.not_eq_false] at q56) | (dsimp only at q56) | skip
  refine Reg.gpur rfl rfl rfl rfl rfl rfl (Pur.mv rfl) ?_
  refine Reg.gop rfl rfl rfl rfl rfl rfl (Does.call rfl (numE_ok _ _)) ?_
  rintro _ H6_2 ⟨rfl, rfl⟩
  refine Reg.gpur rfl rfl rfl rfl rfl rfl (Pur.neq rfl rfl) ?_
  refine Reg.pur rfl rfl rfl rfl (Pur.pickF rfl rfl) ?_
  refine Reg.pur rfl rfl rfl rfl (Pur.mv rfl) ?_
  refine Reg.case 61 rfl (fun q61 => ?_) (fun q61 => ?_)
  · first | (simp only [decide_eq_true_eq, decide_eq_false_iff_not, Bool.not_eq_true', Bool.not_eq_false', ne_eq, Decidable.not_not, Bool.not_eq_true, Bool.not_eq_false] at q61) | (dsimp only at q61) | skip
    refine Reg.skip rfl rfl rfl rfl rfl rfl rfl ?_
    refine Reg.skip rfl rfl rfl rfl rfl rfl rfl ?_
    refine Reg.skipU rfl rfl rfl rfl rfl rfl ?_
    refine Reg.skipU rfl rfl rfl rfl rfl rfl ?_
    refine Reg.skipU rfl rfl rfl rfl rfl rfl ?_
    refine Reg.skip rfl rfl rfl rfl rfl rfl rfl ?_
    refine Reg.pur rfl rfl rfl rfl (Pur.pickT rfl rfl) ?_
    refine Reg.pur rfl rfl rfl rfl (Pur.asg rfl) ?_
    refine Reg.nil ?_
    refine At.ret rfl Tryd.func17 rfl ?_
    first | exact ⟨rfl, hE⟩ | (refine ⟨?_, hE⟩; simp_all; done) | (exfalso; simp_all; done)
  first | (simp only [decide_eq_true_eq, decide_eq_false_iff_not, Bool.not_eq_true', Bool.not_eq_false', ne_eq, Decidable.not_not, Bool.not_eq_true, Bool.not_eq_false] at q61) | (dsimp only at q61) | skip
  refine Reg.gpur rfl rfl rfl rfl rfl rfl (Pur.mv rfl) ?_
  refine Reg.gpur rfl rfl rfl rfl rfl rfl (Pur.mv rfl) ?_
  refine Reg.case 63 rfl (fun q63 => ?_) (fun q63 => ?_)
  · first | (simp only [decide_eq_true_eq, decide_eq_false_iff_not, Bool.not_eq_true', Bool.not_eq_false', ne_eq, Decidable.not_not, Bool.not_eq_true, Bool.not_eq_false] at q63) | (dsimp only at q63) | skip
    refine Reg.gpur rfl rfl rfl rfl rfl rfl (Pur.mv rfl) ?_
    refine Reg.gop rfl rfl rfl rfl rfl rfl (Does.call rfl (numE_ok _ _)) ?_
    rintro _ H6_2 ⟨rfl, rfl⟩
    refine Reg.gpur rfl rfl rfl rfl rfl rfl (Pur.eql rfl rfl) ?_
    refine Reg.gpur rfl rfl rfl rfl rfl rfl (Pur.pickT rfl rfl) ?_
    refine Reg.pur rfl rfl rfl rfl (Pur.pickF rfl rfl) ?_
    refine Reg.pur rfl rfl rfl rfl (Pur.asg rfl) ?_
    refine Reg.nil ?_
    refine At.ret rfl Tryd.func17 rfl ?_
    first | exact ⟨rfl, hE⟩ | (refine ⟨?_, hE⟩; simp_all; done) | (exfalso; simp_all; done)
  first | (simp only [decide_eq_true_eq, decide_eq_false_iff_not, Bool.not_eq_true', Bool.not_eq_false', ne_eq, Decidable.not_not, Bool.not_eq_true, Bool.not_eq_false] at q63) | (dsimp only at q63) | skip
  refine Reg.skip rfl rfl rfl rfl rfl rfl rfl ?_
  refine Reg.skip rfl rfl rfl rfl rfl rfl rfl ?_
  refine Reg.skip rfl rfl rfl rfl rfl rfl rfl ?_
  refine Reg.gpur rfl rfl rfl rfl rfl rfl (Pur.pickF rfl rfl) ?_
  refine Reg.pur rfl rfl rfl rfl (Pur.pickF rfl rfl) ?_
  refine Reg.pur rfl rfl rfl rfl (Pur.asg rfl) ?_
  refine Reg.nil ?_
  refine At.ret rfl Tryd.func17 rfl ?_
  first | exact ⟨rfl, hE⟩ | (refine ⟨?_, hE⟩; simp_all; done) | (exfalso; simp_all; done)
end Go.Proofs.YtlfillhffpiffaaDoor

