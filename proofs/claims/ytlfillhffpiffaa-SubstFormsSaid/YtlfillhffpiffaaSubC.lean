/-
  Binds put into a row.
-/
import Derived.Test.YtlfillhffpiffaaSubB
namespace Go.Proofs.Ytlfillhffpiffaa
set_option linter.unusedSimpArgs false
set_option linter.unusedVariables false
set_option maxRecDepth 8000
open Go Go.Fx Go.Proofs
namespace FactsSubC
theorem ag26 : ag Try.prog 26 = some 4 := by kernel_rfl
theorem ag28 : ag Try.prog 28 = some 5 := by kernel_rfl
theorem arr1_26 : arr1 Try.prog 26 = some 4 := by kernel_rfl
theorem arr26 : arr Try.prog 26 = some (4, 1) := by kernel_rfl
theorem fo28_0 : foff Try.prog 28 0 = some 0 := by kernel_rfl
theorem fo28_1 : foff Try.prog 28 1 = some 4 := by kernel_rfl
theorem fo49_3 : foff Try.prog 49 3 = some 3 := by kernel_rfl
theorem isPt143 : isPt Try.prog 143 = true := by kernel_rfl
theorem pl28 : places Try.prog 28 = some [(0, 4), (4, 1)] := by kernel_rfl
theorem sc3 : sc Try.prog 3 = true := by kernel_rfl
theorem zc28 : zc Try.prog 28 = some [.int .i64 0, .int .i64 0, .int .i64 0, .int .i64 0, .int .i64 0] := by kernel_rfl
end FactsSubC
open FactsSubC

def sm (r b : List Int) (i : Nat) : Int := IntKind.i64.wrap (r.getD i 0 + b.getD i 0)
def sumR (r b : List Int) : List Int := (List.range 4).map (sm r b) ++ [b.getD 4 0]
def sumOk (r b : List Int) : Bool := (List.range 4).all fun i => decide (sm r b i ≤ 32)
def rowS (L : List Bd) (r : List Int) : List Int × Bool :=
  if r.getD 4 0 < 0 then (r, true) else match L.find? (mt true (r.getD 4 0)) with
    | none => (r, true)
    | some bd => if sumOk r bd.row then (sumR r bd.row, true) else (noRow, false)
def mixR (r b : List Int) (i : Nat) : List Int := (List.range 5).map fun j => if j < i then sm r b j else r.getD j 0
def mixO (r b : List Int) (i : Nat) : List Int := ((List.range 4).map fun j => if j < i then sm r b j else 0) ++ [b.getD 4 0]
theorem mixR_len (r b : List Int) (i : Nat) : (mixR r b i).length = 5 := by simp [mixR]
theorem mixO_len (r b : List Int) (i : Nat) : (mixO r b i).length = 5 := by simp [mixO]
theorem mixR_0 {r : List Int} (b : List Int) (h : r.length = 5) : mixR r b 0 = r := by
  match r, h with
  | [r0, r1, r2, r3, r4], _ => rfl
theorem mixR_set (r b : List Int) {i : Nat} (h : i < 4) : (mixR r b i).set i (sm r b i) = mixR r b (i + 1) := by
  match i, h with
  | 0, _ => rfl
  | 1, _ => rfl
  | 2, _ => rfl
  | 3, _ => rfl
theorem mixO_set (r b : List Int) {i : Nat} (h : i < 4) : (mixO r b i).set i (sm r b i) = mixO r b (i + 1) := by
  match i, h with
  | 0, _ => rfl
  | 1, _ => rfl
  | 2, _ => rfl
  | 3, _ => rfl
theorem mixR_at (r b : List Int) {i : Nat} (h : i < 5) : (mixR r b i).getD i 0 = r.getD i 0 := by simp [mixR, h]
theorem mixR_done (r b : List Int) {i : Nat} (h : i < 4) : (mixR r b (i + 1)).getD i 0 = sm r b i := by simp [mixR, show i < 5 by omega]
theorem mixO_done (r b : List Int) {i : Nat} (h : i < 4) : (mixO r b (i + 1)).getD i 0 = sm r b i := by
  match i, h with
  | 0, _ => rfl
  | 1, _ => rfl
  | 2, _ => rfl
  | 3, _ => rfl
theorem mixR_end (r b : List Int) : (mixR r b 4).set 4 (b.getD 4 0) = sumR r b := rfl
theorem mixO_end (r b : List Int) : mixO r b 4 = sumR r b := rfl
theorem okTo_step {r b : List Int} {i : Nat} : ((List.range (i + 1)).all fun i => decide (sm r b i ≤ 32)) = (((List.range i).all fun i => decide (sm r b i ≤ 32)) && decide (sm r b i ≤ 32)) := by
  rw [List.range_succ, List.all_append]; simp
theorem not_okTo {r b : List Int} {i : Nat} (hi : i < 4) (h : 32 < sm r b i) : sumOk r b = false := by
  cases hh : sumOk r b with
  | false => rfl
  | true =>
    simp only [sumOk, List.all_eq_true, List.mem_range, decide_eq_true_eq] at hh
    have := hh i hi; omega
theorem at5 {x : List Int} (h : x.length = 5) {j : Nat} (hj : j < 5) : (Is x)[j]? = some (I (x.getD j 0)) := at_Is (by omega)

theorem hb5' {c : List Value} {o : Nat} {bd : Bd} (hd : (c.drop o).take 8 = encB bd) (hbl : bd.row.length = 5) : c[o + 3 + 4]? = some (I (bd.row.getD 4 0)) := by
  rw [Nat.add_assoc]; exact at_tk hd (by omega) (at5 hbl (j := 4) (by omega))
theorem take4_Is {r : List Int} (h : r.length = 5) {i : Nat} (hi : i < 4) : (Is (r.take 4))[i]? = some (I (r.getD i 0)) := by
  match r, h with
  | [a, b, c, d, e], _ =>
    match i, hi with
    | 0, _ => rfl
    | 1, _ => rfl
    | 2, _ => rfl
    | 3, _ => rfl
/-- a row and whether it is one -/
abbrev RowB (p : List Int × Bool) : Value := .tuple #[.agg (Is p.1).toArray, .bool p.2]

theorem ret_row {L : List Bd} {r : List Int} {p : List Int × Bool} {H H' : Heap} (h : rowS L r = p) (hl : p.1.length = 5) (hE : Ext H H') : tupl [.agg (Is p.1).toArray, .bool p.2] = RowB (rowS L r) ∧ (rowS L r).1.length = 5 ∧ Ext H H' := by
  subst h; exact ⟨rfl, hl, hE⟩
theorem rowS_lo {L : List Bd} {r : List Int} (h : r.getD 4 0 < 0) : rowS L r = (r, true) := by unfold rowS; rw [if_pos h]
theorem rowS_none {L : List Bd} {r : List Int} (h : L.find? (mt true (r.getD 4 0)) = none) : rowS L r = (r, true) := by unfold rowS; rw [h]; split <;> rfl
theorem rowS_bad {L : List Bd} {r : List Int} {bd : Bd} {i : Nat} (h0 : ¬ r.getD 4 0 < 0) (hq : L.find? (mt true (r.getD 4 0)) = some bd) (hi : i < 4) (h : 32 < sm r bd.row i) : rowS L r = (noRow, false) := by
  unfold rowS; rw [if_neg h0, hq]; dsimp only; rw [not_okTo hi h]; rfl
theorem rowS_sum {L : List Bd} {r : List Int} {bd : Bd} (h0 : ¬ r.getD 4 0 < 0) (hq : L.find? (mt true (r.getD 4 0)) = some bd) (h : sumOk r bd.row = true) : rowS L r = (sumR r bd.row, true) := by
  unfold rowS; rw [if_neg h0, hq]; dsimp only; rw [h]; rfl
theorem ofRow_ok {A : Option Addr} {cap : Nat} {L : List Bd} {H : Heap} (hS : Bds H (.slice A L.length cap) L) (r : List Int) (hr : r.length = 5) (ht : -1 ≤ r.getD 4 0) :
    Ret Try.prog 59 [.slice A L.length cap, .agg (Is r).toArray] H (fun v H' => v = RowB (rowS L r) ∧ (rowS L r).1.length = 5 ∧ Ext H H') := by
  refine Ret.of_at (N := 51) Try.call59 Try.func59 rfl rfl rfl ?_
  refine At.region rfl rfl ?_
  refine Reg.op rfl rfl rfl rfl (Does.box rfl rfl) ?_
  rintro _ H1 ⟨rfl, hn1⟩
  refine Reg.op rfl rfl rfl rfl (Does.alloc zc28) ?_
  rintro _ H2 ⟨rfl, hn2⟩
  refine Reg.pur rfl rfl rfl rfl (Pur.asg rfl) ?_
  refine Reg.nil ?_
  have hlt := hn1.own.lt
  have hX := hn1.own.ext hn2.ext
  have hR0 := hn2.own
  have hE2 := hn1.ext.trans hn2.ext
  refine At.region rfl rfl ?_
  refine Reg.pur rfl rfl rfl rfl (Pur.fld _ fo28_1 rfl) ?_
  refine Reg.lod rfl rfl rfl rfl (Lod.ld sc3 rfl hX.blk (at5 hr (by omega))) ?_
  refine Reg.pur rfl rfl rfl rfl (Pur.eql rfl rfl) ?_
  refine Reg.nil ?_
  refine At.cond rfl rfl (fun hb1 => ?_) (fun hb1 => ?_)
  · refine At.region rfl rfl ?_
    refine Reg.lod rfl rfl rfl rfl (Lod.ldn ag28 rfl hX.blk (whole (by simp [hr])) (by simp [hr])) ?_
    refine Reg.op0 rfl rfl rfl (Does.stn ag28 rfl rfl (ones_Is _) (by simp [hr]) hR0 (by simp)) ?_
    rintro _ H3 hu3
    refine Reg.pur rfl rfl rfl rfl (Pur.asg rfl) ?_
    refine Reg.nil ?_
    have hR : Own H3 H1.size (Is r) := by have := hu3.own; rwa [over (by rfl)] at this
    have hE3 := hE2.upd hu3 (by have := hn1.ext.1; omega)
    have hRl : (Is r).length = 5 := by simp [hr]
    refine At.retC rfl Try.func59 ⟨_, _, _, _, rfl, rfl, ⟨_, hR.blk, .inr ⟨_, _, ag28, (whole hRl), hRl, rfl⟩⟩, ⟨_, _, rfl, rfl, rfl⟩⟩ ?_
    first | exact ret_row (rowS_lo (by have h1 : r.getD 4 0 = -1 := of_decide_eq_true hb1; omega)) hr hE3 | exact ret_row (rowS_none (by cases hq : L.find? (mt true (r.getD 4 0)) with | none => rfl | some bd => (rw [hq] at hf; obtain ⟨b, o, c, rfl, _⟩ := hf; cases hb2))) hr hE3 | exact ret_row (rowS_bad (by have h1 : ¬ r.getD 4 0 = -1 := of_decide_eq_false hb1; omega) hq hi4 (of_decide_eq_true hb4)) rfl hE7 | exact ret_row (rowS_sum (by have h1 : ¬ r.getD 4 0 = -1 := of_decide_eq_false hb1; omega) hq hgo) rfl hE7
  · refine At.region rfl rfl ?_
    refine Reg.pur rfl rfl rfl rfl (Pur.mv rfl) ?_
    refine Reg.pur rfl rfl rfl rfl (Pur.fld _ fo28_1 rfl) ?_
    refine Reg.lod rfl rfl rfl rfl (Lod.ld sc3 rfl hX.blk (at5 hr (by omega))) ?_
    refine Reg.op rfl rfl rfl rfl (Does.call rfl (find_ok (hS.ext hE2) true (r.getD 4 0))) ?_
    rintro _ H2 ⟨rfl, a, rfl, hf⟩
    refine Reg.pur rfl rfl rfl rfl (Pur.asg rfl) ?_
    refine Reg.nil ?_
    refine At.region rfl rfl ?_
    refine Reg.pur rfl rfl rfl rfl (Pur.mv rfl) ?_
    refine Reg.pur rfl rfl rfl rfl (Pur.eqPN isPt143 rfl rfl) ?_
    refine Reg.nil ?_
    refine At.cond rfl rfl (fun hb2 => ?_) (fun hb2 => ?_)
    · refine At.region rfl rfl ?_
      refine Reg.lod rfl rfl rfl rfl (Lod.ldn ag28 rfl hX.blk (whole (by simp [hr])) (by simp [hr])) ?_
      refine Reg.op0 rfl rfl rfl (Does.stn ag28 rfl rfl (ones_Is _) (by simp [hr]) hR0 (by simp)) ?_
      rintro _ H3 hu3
      refine Reg.pur rfl rfl rfl rfl (Pur.asg rfl) ?_
      refine Reg.nil ?_
      have hR : Own H3 H1.size (Is r) := by have := hu3.own; rwa [over (by rfl)] at this
      have hE3 := hE2.upd hu3 (by have := hn1.ext.1; omega)
      have hRl : (Is r).length = 5 := by simp [hr]
      refine At.retC rfl Try.func59 ⟨_, _, _, _, rfl, rfl, ⟨_, hR.blk, .inr ⟨_, _, ag28, (whole hRl), hRl, rfl⟩⟩, ⟨_, _, rfl, rfl, rfl⟩⟩ ?_
      first | exact ret_row (rowS_lo (by have h1 : r.getD 4 0 = -1 := of_decide_eq_true hb1; omega)) hr hE3 | exact ret_row (rowS_none (by cases hq : L.find? (mt true (r.getD 4 0)) with | none => rfl | some bd => (rw [hq] at hf; obtain ⟨b, o, c, rfl, _⟩ := hf; cases hb2))) hr hE3 | exact ret_row (rowS_bad (by have h1 : ¬ r.getD 4 0 = -1 := of_decide_eq_false hb1; omega) hq hi4 (of_decide_eq_true hb4)) rfl hE7 | exact ret_row (rowS_sum (by have h1 : ¬ r.getD 4 0 = -1 := of_decide_eq_false hb1; omega) hq hgo) rfl hE7
    · obtain ⟨bd, hq, b, o, c, rfl, hB, hd, hok, oa, rfl⟩ : ∃ bd, L.find? (mt true (r.getD 4 0)) = some bd ∧ ∃ b o c, a = some ⟨b, o, none⟩ ∧ Blk H2 b c ∧ (c.drop o).take 8 = encB bd ∧ bd.Ok H2 ∧ ∃ oa, A = some ⟨b, oa, none⟩ := by
        cases hq : L.find? (mt true (r.getD 4 0)) with
        | none => rw [hq] at hf; subst hf; cases hb2
        | some bd => rw [hq] at hf; exact ⟨bd, rfl, hf⟩
      have hbl := hok.row
      have hb0 := hS.lt (by cases L with | nil => cases hq | cons _ _ => simp)
      have hlt2 := hn1.ext.1
      refine At.region rfl rfl ?_
      refine Reg.pur rfl rfl rfl rfl (Pur.mv rfl) ?_
      refine Reg.pur rfl rfl rfl rfl (Pur.nilc rfl) ?_
      refine Reg.pur rfl rfl rfl rfl (Pur.fld _ fo49_3 rfl) ?_
      refine Reg.pur rfl rfl rfl rfl (Pur.fld _ fo28_0 rfl) ?_
      refine Reg.lod rfl rfl rfl rfl (Lod.ldn ag26 rfl hB (show _ = Is (bd.row.take 4) by rw [Nat.add_zero, ← List.drop_drop, take_mid hd (by decide)]; simp [encB, Is, List.map_take]) (by simp [hbl])) ?_
      refine Reg.pur rfl rfl rfl rfl (Pur.mv rfl) ?_
      refine Reg.nil ?_
      refine At.loop (σ := Nat) (fun i => [(25, I i), (24, .agg (Is (bd.row.take 4)).toArray), (3, ptr H.size 0), (4, ptr H1.size 0), (6, ptr b o)]) (fun i H' => i ≤ 4 ∧ Own H' H.size (Is (mixR r bd.row i)) ∧ Own H' H1.size (Is noRow) ∧ Blk H' b c ∧ Ext H H' ∧ ((List.range i).all fun i => decide (sm r bd.row i ≤ 32)) = true) (fun i => 4 - i) 0 rfl ⟨rfl, rfl, rfl, rfl, rfl, trivial⟩ ⟨by omega, by rw [mixR_0 _ hr]; exact hX, hR0, hB, hE2, rfl⟩ ?_
      rintro i H5 ⟨hi, hX, hR0, hB, hE, hgo⟩ ih
      refine At.region rfl rfl ?_
      refine Reg.pur rfl rfl rfl rfl (Pur.lss rfl rfl) ?_
      refine Reg.nil ?_
      refine At.cond rfl rfl (fun hb3 => ?_) (fun hb3 => ?_)
      · simp only [decide_eq_true_eq] at hb3
        have hi4 : i < 4 := by omega
        have hai : (Is (bd.row.take 4))[(i : Int).toNat]? = some (I (bd.row.getD i 0)) := by
          exact take4_Is hbl hi4
        refine At.region rfl rfl ?_
        refine Reg.pur rfl rfl rfl rfl (Pur.mv rfl) ?_
        refine Reg.pur rfl rfl rfl rfl (Pur.ixA arr1_26 rfl rfl (by omega) (by omega) hai) ?_
        refine Reg.pur rfl rfl rfl rfl (Pur.asg rfl) ?_
        refine Reg.pur rfl rfl rfl rfl (Pur.asg rfl) ?_
        refine Reg.nil ?_
        have e0 : 0 + 0 + (i : Int).toNat * 1 = i := by omega
        have hri : (Is (mixR r bd.row i))[0 + 0 + (i : Int).toNat * 1]? = some (I (r.getD i 0)) := by rw [e0, ← mixR_at r bd.row (show i < 5 by omega)]; exact at5 (mixR_len _ _ _) (by omega)
        refine At.region rfl rfl ?_
        refine Reg.pur rfl rfl rfl rfl (Pur.mv rfl) ?_
        refine Reg.pur rfl rfl rfl rfl (Pur.fld _ fo28_0 rfl) ?_
        refine Reg.pur rfl rfl rfl rfl (Pur.idxP arr26 rfl rfl (by omega) (by omega)) ?_
        refine Reg.lod rfl rfl rfl rfl (Lod.ld sc3 rfl hX.blk hri) ?_
        refine Reg.pur rfl rfl rfl rfl (Pur.mv rfl) ?_
        first | refine Reg.pur rfl rfl rfl rfl (Pur.add64 rfl rfl (by omega)) ?_ | refine Reg.pur rfl rfl rfl rfl (Pur.add64 rfl rfl (by assumption)) ?_ | refine Reg.pur rfl rfl rfl rfl (Pur.add rfl rfl) ?_
        refine Reg.pur rfl rfl rfl rfl (Pur.fld _ fo28_0 rfl) ?_
        refine Reg.pur rfl rfl rfl rfl (Pur.idxP arr26 rfl rfl (by omega) (by omega)) ?_
        refine Reg.op0 rfl rfl rfl (Does.st sc3 rfl rfl rfl hX (by rw [e0]; simp [mixR_len]; omega)) ?_
        rintro _ H6 hu6
        refine Reg.nil ?_
        have hX : Own H6 H.size (Is (mixR r bd.row (i + 1))) := by have := hu6.own; rw [e0] at this; rw [← mixR_set _ _ hi4, ← Is_set]; exact this
        have hR0 := hR0.upd hu6 (by omega)
        have hB := hB.upd hu6 (by omega)
        have hE := hE.upd hu6 (Nat.le_refl _)
        have hrd : (Is (mixR r bd.row (i + 1)))[0 + 0 + (i : Int).toNat * 1]? = some (I (sm r bd.row i)) := by rw [e0, ← mixR_done r bd.row hi4]; exact at5 (mixR_len _ _ _) (by omega)
        refine At.region rfl rfl ?_
        refine Reg.pur rfl rfl rfl rfl (Pur.mv rfl) ?_
        refine Reg.pur rfl rfl rfl rfl (Pur.fld _ fo28_0 rfl) ?_
        refine Reg.pur rfl rfl rfl rfl (Pur.idxP arr26 rfl rfl (by omega) (by omega)) ?_
        refine Reg.lod rfl rfl rfl rfl (Lod.ld sc3 rfl hX.blk hrd) ?_
        refine Reg.pur rfl rfl rfl rfl (Pur.gtr rfl rfl) ?_
        refine Reg.nil ?_
        refine At.cond rfl rfl (fun hb4 => ?_) (fun hb4 => ?_)
        · refine At.region rfl rfl ?_
          refine Reg.pur rfl rfl rfl rfl (Pur.bld (cs := [_, _, _, _, _]) pl28 zc28 rfl rfl ⟨rfl, rfl, rfl, rfl, rfl, rfl⟩) ?_
          refine Reg.op0 rfl rfl rfl (Does.stn ag28 rfl rfl rfl rfl hR0 (by simp)) ?_
          rintro _ H7 hu7
          refine Reg.pur rfl rfl rfl rfl (Pur.asg rfl) ?_
          refine Reg.nil ?_
          have hR : Own H7 H1.size (Is noRow) := hu7.own
          have hE7 := hE.upd hu7 (by omega)
          have hRl : (Is noRow).length = 5 := rfl
          refine At.retC rfl Try.func59 ⟨_, _, _, _, rfl, rfl, ⟨_, hR.blk, .inr ⟨_, _, ag28, (whole hRl), hRl, rfl⟩⟩, ⟨_, _, rfl, rfl, rfl⟩⟩ ?_
          first | exact ret_row (rowS_lo (by have h1 : r.getD 4 0 = -1 := of_decide_eq_true hb1; omega)) hr hE3 | exact ret_row (rowS_none (by cases hq : L.find? (mt true (r.getD 4 0)) with | none => rfl | some bd => (rw [hq] at hf; obtain ⟨b, o, c, rfl, _⟩ := hf; cases hb2))) hr hE3 | exact ret_row (rowS_bad (by have h1 : ¬ r.getD 4 0 = -1 := of_decide_eq_false hb1; omega) hq hi4 (of_decide_eq_true hb4)) rfl hE7 | exact ret_row (rowS_sum (by have h1 : ¬ r.getD 4 0 = -1 := of_decide_eq_false hb1; omega) hq hgo) rfl hE7
        · refine At.region rfl rfl ?_
          first | refine Reg.pur rfl rfl rfl rfl (Pur.add64 rfl rfl (by omega)) ?_ | refine Reg.pur rfl rfl rfl rfl (Pur.add64 rfl rfl (by assumption)) ?_ | refine Reg.pur rfl rfl rfl rfl (Pur.add rfl rfl) ?_
          refine Reg.pur rfl rfl rfl rfl (Pur.mv rfl) ?_
          refine Reg.nil ?_
          simp only [decide_eq_false_iff_not] at hb4
          refine At.via (ih (i + 1) _ ⟨by omega, hX, hR0, hB, hE, ?_⟩ (by omega)) ⟨rfl, rfl, rfl, rfl, rfl, trivial⟩
          rw [okTo_step, hgo, decide_eq_true (by omega)]; rfl
      · simp only [decide_eq_false_iff_not] at hb3
        obtain rfl : i = 4 := by omega
        refine At.region rfl rfl ?_
        refine Reg.pur rfl rfl rfl rfl (Pur.mv rfl) ?_
        refine Reg.pur rfl rfl rfl rfl (Pur.nilc rfl) ?_
        refine Reg.pur rfl rfl rfl rfl (Pur.fld _ fo49_3 rfl) ?_
        refine Reg.pur rfl rfl rfl rfl (Pur.fld _ fo28_1 rfl) ?_
        refine Reg.lod rfl rfl rfl rfl (Lod.ld sc3 rfl hB (hb5' hd hbl)) ?_
        refine Reg.pur rfl rfl rfl rfl (Pur.fld _ fo28_1 rfl) ?_
        refine Reg.op0 rfl rfl rfl (Does.st sc3 rfl rfl rfl hX (by simp [mixR_len])) ?_
        rintro _ H6 hu6
        refine Reg.nil ?_
        have hX : Own H6 H.size (Is (sumR r bd.row)) := by have := hu6.own; rw [← mixR_end, ← Is_set]; exact this
        have hR0 := hR0.upd hu6 (by omega)
        have hE := hE.upd hu6 (Nat.le_refl _)
        refine At.region rfl rfl ?_
        refine Reg.lod rfl rfl rfl rfl (Lod.ldn ag28 rfl hX.blk (whole rfl) rfl) ?_
        refine Reg.op0 rfl rfl rfl (Does.stn ag28 rfl rfl (ones_Is _) rfl hR0 (by simp)) ?_
        rintro _ H7 hu7
        refine Reg.pur rfl rfl rfl rfl (Pur.asg rfl) ?_
        refine Reg.nil ?_
        have hR : Own H7 H1.size (Is (sumR r bd.row)) := by have := hu7.own; rwa [over (by rfl)] at this
        have hE7 := hE.upd hu7 (by omega)
        have hRl : (Is (sumR r bd.row)).length = 5 := rfl
        refine At.retC rfl Try.func59 ⟨_, _, _, _, rfl, rfl, ⟨_, hR.blk, .inr ⟨_, _, ag28, (whole hRl), hRl, rfl⟩⟩, ⟨_, _, rfl, rfl, rfl⟩⟩ ?_
        first | exact ret_row (rowS_lo (by have h1 : r.getD 4 0 = -1 := of_decide_eq_true hb1; omega)) hr hE3 | exact ret_row (rowS_none (by cases hq : L.find? (mt true (r.getD 4 0)) with | none => rfl | some bd => (rw [hq] at hf; obtain ⟨b, o, c, rfl, _⟩ := hf; cases hb2))) hr hE3 | exact ret_row (rowS_bad (by have h1 : ¬ r.getD 4 0 = -1 := of_decide_eq_false hb1; omega) hq hi4 (of_decide_eq_true hb4)) rfl hE7 | exact ret_row (rowS_sum (by have h1 : ¬ r.getD 4 0 = -1 := of_decide_eq_false hb1; omega) hq hgo) rfl hE7
end Go.Proofs.Ytlfillhffpiffaa
