/-
  Parts of the proof, 2.
-/
import Derived.Test.YtlfillhffpiffaaDoorProg
import Derived.Test.YtlfillhffpiffaaDoorQ1
namespace Go.Proofs.YtlfillhffpiffaaDoor
set_option linter.unusedSimpArgs false
set_option linter.unusedVariables false
set_option maxRecDepth 8000
open Go Go.Fx Go.Proofs
namespace FactsSchA
theorem es50 : esz Tryd.prog 50 = some 1 := by kernel_rfl
theorem isl50 : isSl Tryd.prog 50 = true := by kernel_rfl
theorem sc3 : sc Tryd.prog 3 = true := by kernel_rfl
end FactsSchA
open FactsSchA

def ixL : List Int → Int → Nat
  | [], _ => 0
  | x :: l, v => if x = v then 0 else ixL l v + 1
def inL (l : List Int) (v : Int) : Bool := decide (ixL l v < l.length)
theorem ixL_le : ∀ (l : List Int) (v : Int), ixL l v ≤ l.length
  | [], _ => Nat.le_refl _
  | x :: l, v => by
    simp only [ixL]; split
    · simp
    · simp only [List.length_cons]; have := ixL_le l v; omega
theorem ix_drop {l : List Int} {i : Nat} {v : Int} (hi : i < l.length) : ixL (l.drop i) v = if l[i] = v then 0 else ixL (l.drop (i + 1)) v + 1 := by
  rw [dropL hi, ixL]
theorem ix_end {l : List Int} {i : Nat} {v : Int} (hi : l.length ≤ i) : ixL (l.drop i) v = 0 := by rw [List.drop_of_length_le hi]; rfl
theorem int_at {l : List Int} {H : Heap} {A : Option Addr} {cap : Nat} (hS : SlT H e1 1 (.slice A l.length cap) l) {i : Nat} (hi : i < l.length) :
    ∃ b o c, A = some ⟨b, o, none⟩ ∧ Blk H b c ∧ c[o + i * 1]? = some (I l[i]) := by
  obtain ⟨b, o, c, h1, h2, h3, _⟩ := sl_at (wide1 l) hS hi
  exact ⟨b, o, c, h1, h2, by have := at_tk (j := 0) h3 (by omega) (v := I l[i]) rfl; simpa using this⟩

theorem index_ok {A : Option Addr} {cap : Nat} (l : List Int) {H : Heap} (hS : SlT H e1 1 (.slice A l.length cap) l) (hm : l.length ≤ 9223372036854775807) (v : Int) :
    Ret Tryd.prog 111 [.slice A l.length cap, I v] H (fun r H' => r = I (if inL l v then ixL l v else -1) ∧ H' = H) := by
  refine Ret.of_at (N := 19) Tryd.call111 Tryd.func111 rfl rfl rfl ?_
  have hE := Ext.refl H
  refine At.region rfl rfl ?_
  refine Reg.pur rfl rfl rfl rfl (Pur.asg rfl) ?_
  refine Reg.nil ?_
  refine At.region rfl rfl ?_
  refine Reg.pur rfl rfl rfl rfl (Pur.mv rfl) ?_
  refine Reg.pur rfl rfl rfl rfl (Pur.lenS isl50 rfl) ?_
  refine Reg.pur rfl rfl rfl rfl (Pur.mv rfl) ?_
  refine Reg.nil ?_
  refine At.loop (σ := Nat) (fun i => [(8, I i), (7, I l.length), (0, .slice A l.length cap), (1, I v)]) (fun i H' => i ≤ l.length ∧ H' = H ∧ ixL l v = i + ixL (l.drop i) v) (fun i => l.length - i) 0 rfl ⟨rfl, rfl, rfl, rfl, trivial⟩ ⟨by omega, rfl, by simp⟩ ?_
  rintro i H ⟨hi, rfl, hgo⟩ ih
  refine At.region rfl rfl ?_
  refine Reg.pur rfl rfl rfl rfl (Pur.lss rfl rfl) ?_
  refine Reg.nil ?_
  refine At.cond rfl rfl (fun q9 => ?_) (fun q9 => ?_)
  · first | (simp only [decide_eq_true_eq, decide_eq_false_iff_not, Bool.not_eq_true', Bool.not_eq_false', ne_eq, Decidable.not_not, Bool.not_eq_true, Bool.not_eq_false] at q9) | (dsimp only at q9) | skip
    have hlt : i < l.length := by omega
    obtain ⟨b, o, c, rfl, hB, hc⟩ := int_at hS hlt
    rw [ix_drop hlt] at hgo
    refine At.region rfl rfl ?_
    refine Reg.pur rfl rfl rfl rfl (Pur.mv rfl) ?_
    refine Reg.pur rfl rfl rfl rfl (Pur.asg rfl) ?_
    refine Reg.nil ?_
    refine At.region rfl rfl ?_
    refine Reg.pur rfl rfl rfl rfl (Pur.mv rfl) ?_
    refine Reg.pur rfl rfl rfl rfl (Pur.mv rfl) ?_
    refine Reg.pur rfl rfl rfl rfl (Pur.mv rfl) ?_
    refine Reg.pur rfl rfl rfl rfl (Pur.idx _ es50 rfl rfl (by omega) (by omega)) ?_
    refine Reg.lod rfl rfl rfl rfl (Lod.ld sc3 rfl hB hc) ?_
    refine Reg.pur rfl rfl rfl rfl (Pur.eql rfl rfl) ?_
    refine Reg.nil ?_
    refine At.cond rfl rfl (fun q16 => ?_) (fun q16 => ?_)
    · first | (simp only [decide_eq_true_eq, decide_eq_false_iff_not, Bool.not_eq_true', Bool.not_eq_false', ne_eq, Decidable.not_not, Bool.not_eq_true, Bool.not_eq_false] at q16) | (dsimp only at q16) | skip
      refine At.region rfl rfl ?_
      refine Reg.pur rfl rfl rfl rfl (Pur.mv rfl) ?_
      refine Reg.pur rfl rfl rfl rfl (Pur.asg rfl) ?_
      refine Reg.nil ?_
      refine At.ret rfl Tryd.func111 rfl ?_
      rw [if_pos q16.symm] at hgo
      exact ⟨by rw [if_pos (by simp [inL]; omega)]; congr 1; omega, rfl⟩
    first | (simp only [decide_eq_true_eq, decide_eq_false_iff_not, Bool.not_eq_true', Bool.not_eq_false', ne_eq, Decidable.not_not, Bool.not_eq_true, Bool.not_eq_false] at q16) | (dsimp only at q16) | skip
    refine At.region rfl rfl ?_
    first | refine Reg.pur rfl rfl rfl rfl (Pur.add64 rfl rfl (by omega)) ?_ | refine Reg.pur rfl rfl rfl rfl (Pur.add64 rfl rfl (by assumption)) ?_ | refine Reg.pur rfl rfl rfl rfl (Pur.add rfl rfl) ?_
    refine Reg.pur rfl rfl rfl rfl (Pur.mv rfl) ?_
    refine Reg.nil ?_
    rw [if_neg (fun h => q16 h.symm)] at hgo
    exact At.via (ih (i + 1) _ ⟨by omega, rfl, by omega⟩ (by omega)) ⟨rfl, rfl, rfl, rfl, trivial⟩
  first | (simp only [decide_eq_true_eq, decide_eq_false_iff_not, Bool.not_eq_true', Bool.not_eq_false', ne_eq, Decidable.not_not, Bool.not_eq_true, Bool.not_eq_false] at q9) | (dsimp only at q9) | skip
  refine At.region rfl rfl ?_
  refine Reg.pur rfl rfl rfl rfl (Pur.asg rfl) ?_
  refine Reg.nil ?_
  refine At.ret rfl Tryd.func111 rfl ?_
  rw [ix_end (by omega)] at hgo
  exact ⟨by rw [if_neg (by simp [inL]; omega)], rfl⟩

end Go.Proofs.YtlfillhffpiffaaDoor

namespace Go.Proofs.YtlfillhffpiffaaDoor
set_option linter.unusedSimpArgs false
set_option linter.unusedVariables false
open Go Go.Fx Go.Proofs
namespace FactsTypA
theorem ag22 : ag Tryd.prog 22 = some 4 := by kernel_rfl
theorem arr1_22 : arr1 Tryd.prog 22 = some 4 := by kernel_rfl
theorem arr22 : arr Tryd.prog 22 = some (4, 1) := by kernel_rfl
theorem fo24_0 : foff Tryd.prog 24 0 = some 0 := by kernel_rfl
theorem fo24_1 : foff Tryd.prog 24 1 = some 4 := by kernel_rfl
theorem sc3 : sc Tryd.prog 3 = true := by kernel_rfl
end FactsTypA
open FactsTypA

def okc (n : Int) : Bool := decide (0 ≤ n ∧ n ≤ 32)
def rowM (r : List Int) : Bool := (r.take 4).all okc && decide (-1 ≤ r.getD 4 0 ∧ r.getD 4 0 < 4096)
theorem take4_at {r : List Int} (h : r.length = 5) {i : Nat} (hi : i < 4) : (r.take 4)[i]'(by simp; omega) = r.getD i 0 := by
  simp [List.getD_eq_getElem?_getD, List.getElem?_eq_getElem (by omega : i < r.length)]

theorem hat4 (r : List Int) (h : r.length = 5) : (Is r)[0 + 4]? = some (I (r.getD 4 0)) := at_Is (by omega)
theorem rowMay_ok (r : List Int) (h : r.length = 5) (H : Heap) : Ret Tryd.prog 26 [.agg (Is r).toArray] H (fun v H' => v = .bool (rowM r) ∧ Ext H H') := by
  have h4 : (r.take 4).length = 4 := by simp; omega
  refine Ret.of_at (N := 25) Tryd.call26 Tryd.func26 rfl rfl rfl ?_
  refine At.region rfl rfl ?_
  refine Reg.op rfl rfl rfl rfl (Does.box rfl rfl) ?_
  rintro _ H1 ⟨rfl, hn1⟩
  refine Reg.pur rfl rfl rfl rfl (Pur.asg rfl) ?_
  refine Reg.nil ?_
  refine At.region rfl rfl ?_
  refine Reg.pur rfl rfl rfl rfl (Pur.fld _ fo24_0 rfl) ?_
  refine Reg.lod rfl rfl rfl rfl (Lod.ldn ag22 rfl hn1.own.blk (show _ = Is (r.take 4) by simp [Is, List.map_take]) (by simp [Is]; omega)) ?_
  refine Reg.pur rfl rfl rfl rfl (Pur.mv rfl) ?_
  refine Reg.nil ?_
  refine At.loop (σ := Nat) (fun i => [(7, I i), (6, .agg (Is (r.take 4)).toArray), (1, ptr H.size 0)]) (fun i H' => i ≤ 4 ∧ H' = H1 ∧ ((r.take 4).take i).all okc = true) (fun i => 4 - i) 0 rfl ⟨rfl, rfl, rfl, trivial⟩ ⟨by omega, rfl, rfl⟩ ?_
  rintro i H2 ⟨hi, rfl, hgo⟩ ih
  refine At.region rfl rfl ?_
  refine Reg.pur rfl rfl rfl rfl (Pur.lss rfl rfl) ?_
  refine Reg.nil ?_
  refine At.cond rfl rfl (fun hb1 => ?_) (fun hb1 => ?_)
  · simp only [decide_eq_true_eq] at hb1
    have hlt : i < (r.take 4).length := by omega
    have hat := take4_at h (i := i) (by omega)
    have hai : (Is (r.take 4))[(i : Int).toNat]? = some (I (r.getD i 0)) := by
      have : (Is (r.take 4))[i]? = some (I (r.take 4)[i]) := by simp only [Is, List.getElem?_map, List.getElem?_eq_getElem hlt, Option.map_some]
      rw [hat] at this
      exact this
    refine At.region rfl rfl ?_
    refine Reg.pur rfl rfl rfl rfl (Pur.ixA arr1_22 rfl rfl (by omega) (by omega) hai) ?_
    refine Reg.pur rfl rfl rfl rfl (Pur.asg rfl) ?_
    refine Reg.nil ?_
    refine At.region rfl rfl ?_
    refine Reg.pur rfl rfl rfl rfl (Pur.mv rfl) ?_
    refine Reg.pur rfl rfl rfl rfl (Pur.lss rfl rfl) ?_
    refine Reg.pur rfl rfl rfl rfl (Pur.mv rfl) ?_
    refine Reg.case 12 rfl (fun hc2 => ?_) (fun hc2 => ?_)
    · refine Reg.skip rfl rfl rfl rfl rfl rfl rfl ?_
      refine Reg.skip rfl rfl rfl rfl rfl rfl rfl ?_
      refine Reg.pur rfl rfl rfl rfl (Pur.pickT rfl rfl) ?_
      refine Reg.nil ?_
      refine At.condT rfl rfl rfl ?_
      refine At.region rfl rfl ?_
      refine Reg.pur rfl rfl rfl rfl (Pur.asg rfl) ?_
      refine Reg.nil ?_
      refine At.ret rfl Tryd.func26 rfl ?_
      refine ⟨congrArg Value.bool ?_, hn1.ext⟩
      simp only [decide_eq_false_iff_not, decide_eq_true_eq] at *
      unfold rowM
      first | (rw [all_of_take hlt (by rw [hat, okc, decide_eq_false_iff_not]; omega)]; rfl) | (rw [List.take_of_length_le (by omega)] at hgo; rw [hgo]; generalize r.getD 4 0 = t at *; simp [*])
    refine Reg.gpur rfl rfl rfl rfl rfl rfl (Pur.mv rfl) ?_
    refine Reg.gpur rfl rfl rfl rfl rfl rfl (Pur.gtr rfl rfl) ?_
    refine Reg.pur rfl rfl rfl rfl (Pur.pickF rfl rfl) ?_
    refine Reg.nil ?_
    refine At.cond rfl rfl (fun hb3 => ?_) (fun hb3 => ?_)
    · refine At.region rfl rfl ?_
      refine Reg.pur rfl rfl rfl rfl (Pur.asg rfl) ?_
      refine Reg.nil ?_
      refine At.ret rfl Tryd.func26 rfl ?_
      refine ⟨congrArg Value.bool ?_, hn1.ext⟩
      simp only [decide_eq_false_iff_not, decide_eq_true_eq] at *
      unfold rowM
      first | (rw [all_of_take hlt (by rw [hat, okc, decide_eq_false_iff_not]; omega)]; rfl) | (rw [List.take_of_length_le (by omega)] at hgo; rw [hgo]; generalize r.getD 4 0 = t at *; simp [*])
    refine At.region rfl rfl ?_
    first | refine Reg.pur rfl rfl rfl rfl (Pur.add64 rfl rfl (by omega)) ?_ | refine Reg.pur rfl rfl rfl rfl (Pur.add64 rfl rfl (by assumption)) ?_ | refine Reg.pur rfl rfl rfl rfl (Pur.add rfl rfl) ?_
    refine Reg.pur rfl rfl rfl rfl (Pur.mv rfl) ?_
    refine Reg.nil ?_
    refine At.via (ih (i + 1) _ ⟨by omega, rfl, ?_⟩ (by omega)) ⟨rfl, rfl, rfl, trivial⟩
    simp only [decide_eq_false_iff_not, decide_eq_true_eq] at *
    rw [all_take hlt, hgo, hat, okc, decide_eq_true (by omega)]; rfl
  refine At.region rfl rfl ?_
  refine Reg.pur rfl rfl rfl rfl (Pur.fld _ fo24_1 rfl) ?_
  refine Reg.lod rfl rfl rfl rfl (Lod.ld sc3 rfl hn1.own.blk (hat4 r h)) ?_
  refine Reg.pur rfl rfl rfl rfl (Pur.geq rfl rfl) ?_
  refine Reg.pur rfl rfl rfl rfl (Pur.mv rfl) ?_
  refine Reg.case 20 rfl (fun hc4 => ?_) (fun hc4 => ?_)
  · refine Reg.gpur rfl rfl rfl rfl rfl rfl (Pur.fld _ fo24_1 rfl) ?_
    refine Reg.glod rfl rfl rfl rfl rfl rfl (Lod.ld sc3 rfl hn1.own.blk (hat4 r h)) ?_
    refine Reg.gpur rfl rfl rfl rfl rfl rfl (Pur.lss rfl rfl) ?_
    refine Reg.pur rfl rfl rfl rfl (Pur.pickT rfl rfl) ?_
    refine Reg.pur rfl rfl rfl rfl (Pur.asg rfl) ?_
    refine Reg.nil ?_
    refine At.ret rfl Tryd.func26 rfl ?_
    refine ⟨congrArg Value.bool ?_, hn1.ext⟩
    simp only [decide_eq_false_iff_not, decide_eq_true_eq] at *
    unfold rowM
    first | (rw [all_of_take hlt (by rw [hat, okc, decide_eq_false_iff_not]; omega)]; rfl) | (rw [List.take_of_length_le (by omega)] at hgo; rw [hgo]; generalize r.getD 4 0 = t at *; simp [*])
  refine Reg.skip rfl rfl rfl rfl rfl rfl rfl ?_
  refine Reg.skip rfl rfl rfl rfl rfl rfl rfl ?_
  refine Reg.skip rfl rfl rfl rfl rfl rfl rfl ?_
  refine Reg.pur rfl rfl rfl rfl (Pur.pickF rfl rfl) ?_
  refine Reg.pur rfl rfl rfl rfl (Pur.asg rfl) ?_
  refine Reg.nil ?_
  refine At.ret rfl Tryd.func26 rfl ?_
  refine ⟨congrArg Value.bool ?_, hn1.ext⟩
  simp only [decide_eq_false_iff_not, decide_eq_true_eq] at *
  unfold rowM
  first | (rw [all_of_take hlt (by rw [hat, okc, decide_eq_false_iff_not]; omega)]; rfl) | (rw [List.take_of_length_le (by omega)] at hgo; rw [hgo]; generalize r.getD 4 0 = t at *; simp [*])

def nodM (x : List Int) : Bool :=
  if x.getD 0 0 = 3 then rowM (x.drop 4) && decide (x.getD 1 0 = 0)
  else if x.getD 0 0 = 2 then decide (0 ≤ x.getD 1 0 ∧ x.getD 1 0 < 4096) && decide (x = [2, x.getD 1 0, 0, 0, 0, 0, 0, 0, 0])
  else if x.getD 0 0 = 0 ∨ x.getD 0 0 = 1 then decide (x = [x.getD 0 0, 0, 0, 0, 0, 0, 0, 0, 0]) else false
end Go.Proofs.YtlfillhffpiffaaDoor

namespace Go.Proofs.YtlfillhffpiffaaDoor
set_option linter.unusedSimpArgs false
set_option linter.unusedVariables false
set_option maxRecDepth 8000
open Go Go.Fx Go.Proofs
namespace FactsTypB
theorem ag24 : ag Tryd.prog 24 = some 5 := by kernel_rfl
theorem ag65 : ag Tryd.prog 65 = some 9 := by kernel_rfl
theorem eqt65 : eqT Tryd.prog 65 = some [.int .i64, .int .i64, .int .i64, .int .i64, .int .i64, .int .i64, .int .i64, .int .i64, .int .i64] := by kernel_rfl
theorem fo65_0 : foff Tryd.prog 65 0 = some 0 := by kernel_rfl
theorem fo65_1 : foff Tryd.prog 65 1 = some 1 := by kernel_rfl
theorem fo65_2 : foff Tryd.prog 65 2 = some 2 := by kernel_rfl
theorem fo65_3 : foff Tryd.prog 65 3 = some 3 := by kernel_rfl
theorem fo65_4 : foff Tryd.prog 65 4 = some 4 := by kernel_rfl
theorem pl24 : places Tryd.prog 24 = some [(0, 4), (4, 1)] := by kernel_rfl
theorem pl65 : places Tryd.prog 65 = some [(0, 1), (1, 1), (2, 1), (3, 1), (4, 5)] := by kernel_rfl
theorem sc3 : sc Tryd.prog 3 = true := by kernel_rfl
theorem zc24 : zc Tryd.prog 24 = some [.int .i64 0, .int .i64 0, .int .i64 0, .int .i64 0, .int .i64 0] := by kernel_rfl
theorem zc65 : zc Tryd.prog 65 = some [.int .i64 0, .int .i64 0, .int .i64 0, .int .i64 0, .int .i64 0, .int .i64 0, .int .i64 0, .int .i64 0, .int .i64 0] := by kernel_rfl
end FactsTypB
open FactsTypB

theorem nodMay_ok (k v a b c d e f t : Int) (H : Heap) : Ret Tryd.prog 68 [.agg (Is [k, v, a, b, c, d, e, f, t]).toArray] H (fun r H' => r = .bool (nodM [k, v, a, b, c, d, e, f, t]) ∧ Ext H H') := by
  refine Ret.of_at (N := 37) Tryd.call68 Tryd.func68 rfl rfl rfl ?_
  refine At.region rfl rfl ?_
  refine Reg.op rfl rfl rfl rfl (Does.box rfl rfl) ?_
  rintro _ H1 ⟨rfl, hn1⟩
  refine Reg.pur rfl rfl rfl rfl (Pur.asg rfl) ?_
  refine Reg.nil ?_
  have hX := hn1.own
  refine At.region rfl rfl ?_
  refine Reg.pur rfl rfl rfl rfl (Pur.fld _ fo65_0 rfl) ?_
  refine Reg.lod rfl rfl rfl rfl (Lod.ld sc3 rfl hX.blk rfl) ?_
  refine Reg.nil ?_
  refine At.region rfl rfl ?_
  refine Reg.pur rfl rfl rfl rfl (Pur.eql rfl rfl) ?_
  refine Reg.pur rfl rfl rfl rfl (Pur.asg rfl) ?_
  refine Reg.nil ?_
  refine At.cond rfl rfl (fun hb1 => ?_) (fun hb1 => ?_)
  · have hr := rowMay_ok [c, d, e, f, t] rfl H1
    refine At.region rfl rfl ?_
    refine Reg.pur rfl rfl rfl rfl (Pur.fld _ fo65_4 rfl) ?_
    refine Reg.lod rfl rfl rfl rfl (Lod.ldn ag24 rfl hX.blk (show _ = Is [c, d, e, f, t] from rfl) rfl) ?_
    refine Reg.op rfl rfl rfl rfl (Does.call rfl (hr)) ?_
    rintro _ H2 ⟨rfl, hE2⟩
    refine Reg.pur rfl rfl rfl rfl (Pur.not rfl) ?_
    refine Reg.nil ?_
    have hX := hX.ext hE2
    refine At.cond rfl rfl (fun hb2 => ?_) (fun hb2 => ?_)
    · refine At.region rfl rfl ?_
      refine Reg.pur rfl rfl rfl rfl (Pur.asg rfl) ?_
      refine Reg.nil ?_
      refine At.ret rfl Tryd.func68 rfl ?_
      refine ⟨congrArg Value.bool ?_, by first | exact hE5 | exact hn1.ext.trans hE2 | exact hn1.ext.upd hu3 (Nat.le_refl _) | exact hn1.ext⟩
      try rw [eqs_ints]
      rw [Bool.eq_iff_iff]
      simp only [decide_eq_true_eq, decide_eq_false_iff_not, Bool.not_eq_true', Bool.not_eq_eq_eq_not, Bool.not_true, Bool.not_false] at *
      simp [nodM, eqs, eqv, *]
      try omega
    refine At.region rfl rfl ?_
    refine Reg.pur rfl rfl rfl rfl (Pur.bld (cs := [_, _, _, _, _]) pl24 zc24 rfl rfl ⟨rfl, rfl, rfl, rfl, rfl, rfl⟩) ?_
    refine Reg.pur rfl rfl rfl rfl (Pur.fld _ fo65_4 rfl) ?_
    refine Reg.op0 rfl rfl rfl (Does.stn ag24 rfl rfl rfl rfl hX (by simp)) ?_
    rintro _ H3 hu3
    refine Reg.pur rfl rfl rfl rfl (Pur.fld _ fo65_2 rfl) ?_
    refine Reg.op0 rfl rfl rfl (Does.st sc3 rfl rfl rfl hu3.own (by simp)) ?_
    rintro _ H4 hu4
    refine Reg.pur rfl rfl rfl rfl (Pur.fld _ fo65_3 rfl) ?_
    refine Reg.op0 rfl rfl rfl (Does.st sc3 rfl rfl rfl hu4.own (by simp)) ?_
    rintro _ H5 hu5
    refine Reg.nil ?_
    have hY : Own H5 H.size (Is [k, v, 0, 0, 0, 0, 0, 0, 0]) := hu5.own
    have hE5 := (((hn1.ext.trans hE2).upd hu3 (Nat.le_refl _)).upd hu4 (Nat.le_refl _)).upd hu5 (Nat.le_refl _)
    refine At.region rfl rfl ?_
    refine Reg.lod rfl rfl rfl rfl (Lod.ldn ag65 rfl hY.blk (whole rfl) rfl) ?_
    refine Reg.pur rfl rfl rfl rfl (Pur.bld (cs := [_, _, _, _, _, _, _, _, _]) pl65 zc65 rfl rfl ⟨rfl, rfl, rfl, rfl, rfl, rfl, rfl, rfl, rfl, rfl⟩) ?_
    refine Reg.pur rfl rfl rfl rfl (Pur.eqA eqt65 rfl rfl (fks_ints .i64 [k, v, 0, 0, 0, 0, 0, 0, 0]) (fks_ints .i64 [3, 0, 0, 0, 0, 0, 0, 0, 0])) ?_
    refine Reg.pur rfl rfl rfl rfl (Pur.asg rfl) ?_
    refine Reg.nil ?_
    refine At.ret rfl Tryd.func68 rfl ?_
    refine ⟨congrArg Value.bool ?_, by first | exact hE5 | exact hn1.ext.trans hE2 | exact hn1.ext.upd hu3 (Nat.le_refl _) | exact hn1.ext⟩
    try rw [eqs_ints]
    rw [Bool.eq_iff_iff]
    simp only [decide_eq_true_eq, decide_eq_false_iff_not, Bool.not_eq_true', Bool.not_eq_eq_eq_not, Bool.not_true, Bool.not_false] at *
    simp [nodM, eqs, eqv, *]
    try omega
  refine At.region rfl rfl ?_
  refine Reg.pur rfl rfl rfl rfl (Pur.eql rfl rfl) ?_
  refine Reg.pur rfl rfl rfl rfl (Pur.asg rfl) ?_
  refine Reg.nil ?_
  refine At.cond rfl rfl (fun hb3 => ?_) (fun hb3 => ?_)
  · refine At.region rfl rfl ?_
    refine Reg.pur rfl rfl rfl rfl (Pur.fld _ fo65_1 rfl) ?_
    refine Reg.lod rfl rfl rfl rfl (Lod.ld sc3 rfl hX.blk rfl) ?_
    refine Reg.pur rfl rfl rfl rfl (Pur.lss rfl rfl) ?_
    refine Reg.pur rfl rfl rfl rfl (Pur.mv rfl) ?_
    refine Reg.case 26 rfl (fun hc4 => ?_) (fun hc4 => ?_)
    · refine Reg.skip rfl rfl rfl rfl rfl rfl rfl ?_
      refine Reg.skip rfl rfl rfl rfl rfl rfl rfl ?_
      refine Reg.skip rfl rfl rfl rfl rfl rfl rfl ?_
      refine Reg.pur rfl rfl rfl rfl (Pur.pickT rfl rfl) ?_
      refine Reg.nil ?_
      refine At.condT rfl rfl rfl ?_
      refine At.region rfl rfl ?_
      refine Reg.pur rfl rfl rfl rfl (Pur.asg rfl) ?_
      refine Reg.nil ?_
      refine At.ret rfl Tryd.func68 rfl ?_
      refine ⟨congrArg Value.bool ?_, by first | exact hE5 | exact hn1.ext.trans hE2 | exact hn1.ext.upd hu3 (Nat.le_refl _) | exact hn1.ext⟩
      try rw [eqs_ints]
      rw [Bool.eq_iff_iff]
      simp only [decide_eq_true_eq, decide_eq_false_iff_not, Bool.not_eq_true', Bool.not_eq_eq_eq_not, Bool.not_true, Bool.not_false] at *
      simp [nodM, eqs, eqv, *]
      try omega
    refine Reg.gpur rfl rfl rfl rfl rfl rfl (Pur.fld _ fo65_1 rfl) ?_
    refine Reg.glod rfl rfl rfl rfl rfl rfl (Lod.ld sc3 rfl hX.blk rfl) ?_
    refine Reg.gpur rfl rfl rfl rfl rfl rfl (Pur.geq rfl rfl) ?_
    refine Reg.pur rfl rfl rfl rfl (Pur.pickF rfl rfl) ?_
    refine Reg.nil ?_
    refine At.cond rfl rfl (fun hb5 => ?_) (fun hb5 => ?_)
    · refine At.region rfl rfl ?_
      refine Reg.pur rfl rfl rfl rfl (Pur.asg rfl) ?_
      refine Reg.nil ?_
      refine At.ret rfl Tryd.func68 rfl ?_
      refine ⟨congrArg Value.bool ?_, by first | exact hE5 | exact hn1.ext.trans hE2 | exact hn1.ext.upd hu3 (Nat.le_refl _) | exact hn1.ext⟩
      try rw [eqs_ints]
      rw [Bool.eq_iff_iff]
      simp only [decide_eq_true_eq, decide_eq_false_iff_not, Bool.not_eq_true', Bool.not_eq_eq_eq_not, Bool.not_true, Bool.not_false] at *
      simp [nodM, eqs, eqv, *]
      try omega
    refine At.region rfl rfl ?_
    refine Reg.pur rfl rfl rfl rfl (Pur.fld _ fo65_1 rfl) ?_
    refine Reg.op0 rfl rfl rfl (Does.st sc3 rfl rfl rfl hX (by simp)) ?_
    rintro _ H3 hu3
    refine Reg.nil ?_
    have hX : Own H3 H.size (Is [k, 0, a, b, c, d, e, f, t]) := hu3.own
    refine At.region rfl rfl ?_
    refine Reg.lod rfl rfl rfl rfl (Lod.ldn ag65 rfl hX.blk (whole rfl) rfl) ?_
    refine Reg.pur rfl rfl rfl rfl (Pur.fld _ fo65_0 rfl) ?_
    refine Reg.lod rfl rfl rfl rfl (Lod.ld sc3 rfl hX.blk rfl) ?_
    refine Reg.pur rfl rfl rfl rfl (Pur.bld (cs := [_, _, _, _, _, _, _, _, _]) pl65 zc65 rfl rfl ⟨rfl, rfl, rfl, rfl, rfl, rfl, rfl, rfl, rfl, rfl⟩) ?_
    refine Reg.pur rfl rfl rfl rfl (Pur.eqA eqt65 rfl rfl (fks_ints .i64 [_, _, _, _, _, _, _, _, _]) (fks_ints .i64 [_, 0, 0, 0, 0, 0, 0, 0, 0])) ?_
    refine Reg.pur rfl rfl rfl rfl (Pur.asg rfl) ?_
    refine Reg.nil ?_
    refine At.ret rfl Tryd.func68 rfl ?_
    refine ⟨congrArg Value.bool ?_, by first | exact hE5 | exact hn1.ext.trans hE2 | exact hn1.ext.upd hu3 (Nat.le_refl _) | exact hn1.ext⟩
    try rw [eqs_ints]
    rw [Bool.eq_iff_iff]
    simp only [decide_eq_true_eq, decide_eq_false_iff_not, Bool.not_eq_true', Bool.not_eq_eq_eq_not, Bool.not_true, Bool.not_false] at *
    simp [nodM, eqs, eqv, *]
    try omega
  refine At.region rfl rfl ?_
  refine Reg.pur rfl rfl rfl rfl (Pur.eql rfl rfl) ?_
  refine Reg.pur rfl rfl rfl rfl (Pur.asg rfl) ?_
  refine Reg.nil ?_
  refine At.cond rfl rfl (fun hb6 => ?_) (fun hb6 => ?_)
  · refine At.condT rfl rfl (by first | exact hb6 | exact decide_eq_true hb6 | exact decide_eq_false hb6 | simpa using hb6) ?_
    refine At.region rfl rfl ?_
    refine Reg.lod rfl rfl rfl rfl (Lod.ldn ag65 rfl hX.blk (whole rfl) rfl) ?_
    refine Reg.pur rfl rfl rfl rfl (Pur.fld _ fo65_0 rfl) ?_
    refine Reg.lod rfl rfl rfl rfl (Lod.ld sc3 rfl hX.blk rfl) ?_
    refine Reg.pur rfl rfl rfl rfl (Pur.bld (cs := [_, _, _, _, _, _, _, _, _]) pl65 zc65 rfl rfl ⟨rfl, rfl, rfl, rfl, rfl, rfl, rfl, rfl, rfl, rfl⟩) ?_
    refine Reg.pur rfl rfl rfl rfl (Pur.eqA eqt65 rfl rfl (fks_ints .i64 [_, _, _, _, _, _, _, _, _]) (fks_ints .i64 [_, 0, 0, 0, 0, 0, 0, 0, 0])) ?_
    refine Reg.pur rfl rfl rfl rfl (Pur.asg rfl) ?_
    refine Reg.nil ?_
    refine At.ret rfl Tryd.func68 rfl ?_
    refine ⟨congrArg Value.bool ?_, by first | exact hE5 | exact hn1.ext.trans hE2 | exact hn1.ext.upd hu3 (Nat.le_refl _) | exact hn1.ext⟩
    try rw [eqs_ints]
    rw [Bool.eq_iff_iff]
    simp only [decide_eq_true_eq, decide_eq_false_iff_not, Bool.not_eq_true', Bool.not_eq_eq_eq_not, Bool.not_true, Bool.not_false] at *
    simp [nodM, eqs, eqv, *]
    try omega
  refine At.region rfl rfl ?_
  refine Reg.pur rfl rfl rfl rfl (Pur.eql rfl rfl) ?_
  refine Reg.pur rfl rfl rfl rfl (Pur.asg rfl) ?_
  refine Reg.nil ?_
  refine At.cond rfl rfl (fun hb7 => ?_) (fun hb7 => ?_)
  · refine At.region rfl rfl ?_
    refine Reg.lod rfl rfl rfl rfl (Lod.ldn ag65 rfl hX.blk (whole rfl) rfl) ?_
    refine Reg.pur rfl rfl rfl rfl (Pur.fld _ fo65_0 rfl) ?_
    refine Reg.lod rfl rfl rfl rfl (Lod.ld sc3 rfl hX.blk rfl) ?_
    refine Reg.pur rfl rfl rfl rfl (Pur.bld (cs := [_, _, _, _, _, _, _, _, _]) pl65 zc65 rfl rfl ⟨rfl, rfl, rfl, rfl, rfl, rfl, rfl, rfl, rfl, rfl⟩) ?_
    refine Reg.pur rfl rfl rfl rfl (Pur.eqA eqt65 rfl rfl (fks_ints .i64 [_, _, _, _, _, _, _, _, _]) (fks_ints .i64 [_, 0, 0, 0, 0, 0, 0, 0, 0])) ?_
    refine Reg.pur rfl rfl rfl rfl (Pur.asg rfl) ?_
    refine Reg.nil ?_
    refine At.ret rfl Tryd.func68 rfl ?_
    refine ⟨congrArg Value.bool ?_, by first | exact hE5 | exact hn1.ext.trans hE2 | exact hn1.ext.upd hu3 (Nat.le_refl _) | exact hn1.ext⟩
    try rw [eqs_ints]
    rw [Bool.eq_iff_iff]
    simp only [decide_eq_true_eq, decide_eq_false_iff_not, Bool.not_eq_true', Bool.not_eq_eq_eq_not, Bool.not_true, Bool.not_false] at *
    simp [nodM, eqs, eqv, *]
    try omega
  refine At.region rfl rfl ?_
  refine Reg.pur rfl rfl rfl rfl (Pur.asg rfl) ?_
  refine Reg.nil ?_
  refine At.ret rfl Tryd.func68 rfl ?_
  refine ⟨congrArg Value.bool ?_, by first | exact hE5 | exact hn1.ext.trans hE2 | exact hn1.ext.upd hu3 (Nat.le_refl _) | exact hn1.ext⟩
  try rw [eqs_ints]
  rw [Bool.eq_iff_iff]
  simp only [decide_eq_true_eq, decide_eq_false_iff_not, Bool.not_eq_true', Bool.not_eq_eq_eq_not, Bool.not_true, Bool.not_false] at *
  simp [nodM, eqs, eqv, *]
  try omega
end Go.Proofs.YtlfillhffpiffaaDoor

namespace Go.Proofs.YtlfillhffpiffaaDoor
set_option linter.unusedSimpArgs false
set_option linter.unusedVariables false
set_option maxRecDepth 8000
open Go Go.Fx Go.Proofs
namespace FactsTypC
theorem es53 : esz Tryd.prog 53 = some 9 := by kernel_rfl
theorem fo65_0 : foff Tryd.prog 65 0 = some 0 := by kernel_rfl
theorem fo65_2 : foff Tryd.prog 65 2 = some 2 := by kernel_rfl
theorem fo65_3 : foff Tryd.prog 65 3 = some 3 := by kernel_rfl
theorem sc3 : sc Tryd.prog 3 = true := by kernel_rfl
end FactsTypC
open FactsTypC

abbrev el (L : List (List Int)) (i : Int) : List Int := L.getD i.toNat []
abbrev Nine (L : List (List Int)) : Prop := ∀ x ∈ L, x.length = 9
theorem wide9 {L : List (List Int)} (h : Nine L) : Wide Is 9 L := fun x hx => by simp [Is, h x hx]
def bgn (L : List (List Int)) : Nat → Int → Int
  | 0, _ => -1
  | f + 1, z => if (el L z).getD 0 0 ≠ 3 then z else if z = 0 ∨ (el L z).getD 3 0 ≠ z - 1 then -1 else
    if bgn L f ((el L z).getD 3 0) < 1 ∨ (el L z).getD 2 0 ≠ bgn L f ((el L z).getD 3 0) - 1 then -1 else bgn L f ((el L z).getD 2 0)
theorem bgn_succ (L : List (List Int)) (f : Nat) (z : Int) : bgn L (f + 1) z = if (el L z).getD 0 0 ≠ 3 then z else if z = 0 ∨ (el L z).getD 3 0 ≠ z - 1 then -1 else
    if bgn L f ((el L z).getD 3 0) < 1 ∨ (el L z).getD 2 0 ≠ bgn L f ((el L z).getD 3 0) - 1 then -1 else bgn L f ((el L z).getD 2 0) := rfl
theorem bgn_le (L : List (List Int)) : ∀ (f : Nat) (z : Int), 0 ≤ z → bgn L f z ≤ z
  | 0, z, h => by simp only [bgn]; omega
  | f + 1, z, h => by
    rw [bgn_succ]
    split
    · omega
    · split
      · omega
      · split
        · omega
        · rename_i h1 h2 h3
          have e1 := bgn_le L f ((el L z).getD 3 0) (by omega)
          have e2 := bgn_le L f ((el L z).getD 2 0) (by omega)
          omega

theorem el_cells {L : List (List Int)} (hL : Nine L) {H : Heap} {A : Option Addr} {cap : Nat} (hS : SlT H Is 9 (.slice A L.length cap) L) {z : Int} (h0 : 0 ≤ z) (h1 : z < L.length) :
    ∃ b o c, A = some ⟨b, o, none⟩ ∧ Blk H b c ∧ (c.drop (o + z.toNat * 9)).take 9 = Is (el L z) ∧ (el L z).length = 9 ∧ ∀ j, j < 9 → c[o + z.toNat * 9 + j]? = some (I ((el L z).getD j 0)) := by
  have hzn : z.toNat < L.length := by omega
  obtain ⟨b, o, c, h2, h3, h4, h5⟩ := sl_at (wide9 hL) hS hzn
  have hel : el L z = L[z.toNat] := by simp [el, List.getD_eq_getElem?_getD, List.getElem?_eq_getElem hzn]
  have h9 : (el L z).length = 9 := by rw [hel]; exact hL _ (List.getElem_mem hzn)
  rw [← hel] at h4
  exact ⟨b, o, c, h2, h3, h4, h9, fun j hj => at_tk h4 hj (at_Is (by omega))⟩

theorem begin_ok {A : Option Addr} {cap : Nat} (L : List (List Int)) (hL : Nine L) {H : Heap} (hS : SlT H Is 9 (.slice A L.length cap) L) (hm : L.length ≤ 9223372036854775807) : ∀ (f : Nat) (z : Int), 0 ≤ z → z < L.length → z.toNat < f →
    Ret Tryd.prog 69 [.slice A L.length cap, I z] H (fun v H' => v = I (bgn L f z) ∧ H' = H) := by
  intro f
  induction f with
  | zero => intro z _ _ h; omega
  | succ f ihf =>
  intro z hz0 hzl hzf
  obtain ⟨b0, o0, c0, rfl, hb0, hbd, hx9, hat⟩ := el_cells hL hS hz0 hzl
  have hfin := bgn_succ L f z
  generalize el L z = x at hfin hbd hx9 hat
  refine Ret.of_at (N := 50) Tryd.call69 Tryd.func69 rfl rfl rfl ?_
  refine At.region rfl rfl ?_
  refine Reg.pur rfl rfl rfl rfl (Pur.asg rfl) ?_
  refine Reg.nil ?_
  refine At.region rfl rfl ?_
  refine Reg.pur rfl rfl rfl rfl (Pur.mv rfl) ?_
  refine Reg.pur rfl rfl rfl rfl (Pur.mv rfl) ?_
  refine Reg.pur rfl rfl rfl rfl (Pur.idx _ es53 rfl rfl (by omega) (by omega)) ?_
  refine Reg.pur rfl rfl rfl rfl (Pur.asg rfl) ?_
  refine Reg.nil ?_
  refine At.region rfl rfl ?_
  refine Reg.pur rfl rfl rfl rfl (Pur.mv rfl) ?_
  refine Reg.pur rfl rfl rfl rfl (Pur.nilc rfl) ?_
  refine Reg.pur rfl rfl rfl rfl (Pur.fld _ fo65_0 rfl) ?_
  refine Reg.lod rfl rfl rfl rfl (Lod.ld sc3 rfl hb0 (hat 0 (by omega))) ?_
  refine Reg.pur rfl rfl rfl rfl (Pur.neq rfl rfl) ?_
  refine Reg.nil ?_
  refine At.cond rfl rfl (fun hb1 => ?_) (fun hb1 => ?_)
  · refine At.region rfl rfl ?_
    refine Reg.pur rfl rfl rfl rfl (Pur.mv rfl) ?_
    refine Reg.pur rfl rfl rfl rfl (Pur.asg rfl) ?_
    refine Reg.nil ?_
    refine At.ret rfl Tryd.func69 rfl ?_
    refine ⟨congrArg I ?_, rfl⟩
    try simp only [decide_eq_true_eq, decide_eq_false_iff_not] at *
    rw [hfin]
    first | (rw [if_pos (by omega)]; done) | (rw [if_neg (by omega), if_pos (by omega)]; done) | (rw [if_neg (by omega), if_neg (by omega), if_pos (by omega)]; done) | (rw [if_neg (by omega), if_neg (by omega), if_neg (by omega)]; done)
  refine At.region rfl rfl ?_
  refine Reg.pur rfl rfl rfl rfl (Pur.mv rfl) ?_
  refine Reg.pur rfl rfl rfl rfl (Pur.eql rfl rfl) ?_
  refine Reg.pur rfl rfl rfl rfl (Pur.mv rfl) ?_
  refine Reg.case 18 rfl (fun hc2 => ?_) (fun hc2 => ?_)
  · refine Reg.skip rfl rfl rfl rfl rfl rfl rfl ?_
    refine Reg.skip rfl rfl rfl rfl rfl rfl rfl ?_
    refine Reg.skip rfl rfl rfl rfl rfl rfl rfl ?_
    refine Reg.skip rfl rfl rfl rfl rfl rfl rfl ?_
    refine Reg.skip rfl rfl rfl rfl rfl rfl rfl ?_
    refine Reg.skip rfl rfl rfl rfl rfl rfl rfl ?_
    refine Reg.skip rfl rfl rfl rfl rfl rfl rfl ?_
    refine Reg.pur rfl rfl rfl rfl (Pur.pickT rfl rfl) ?_
    refine Reg.nil ?_
    refine At.condT rfl rfl rfl ?_
    refine At.region rfl rfl ?_
    refine Reg.pur rfl rfl rfl rfl (Pur.asg rfl) ?_
    refine Reg.nil ?_
    refine At.ret rfl Tryd.func69 rfl ?_
    refine ⟨congrArg I ?_, rfl⟩
    try simp only [decide_eq_true_eq, decide_eq_false_iff_not] at *
    rw [hfin]
    first | (rw [if_pos (by omega)]; done) | (rw [if_neg (by omega), if_pos (by omega)]; done) | (rw [if_neg (by omega), if_neg (by omega), if_pos (by omega)]; done) | (rw [if_neg (by omega), if_neg (by omega), if_neg (by omega)]; done)
  refine Reg.gpur rfl rfl rfl rfl rfl rfl (Pur.mv rfl) ?_
  refine Reg.gpur rfl rfl rfl rfl rfl rfl (Pur.nilc rfl) ?_
  refine Reg.gpur rfl rfl rfl rfl rfl rfl (Pur.fld _ fo65_3 rfl) ?_
  refine Reg.glod rfl rfl rfl rfl rfl rfl (Lod.ld sc3 rfl hb0 (hat 3 (by omega))) ?_
  refine Reg.gpur rfl rfl rfl rfl rfl rfl (Pur.mv rfl) ?_
  first | refine Reg.gpur rfl rfl rfl rfl rfl rfl (Pur.sub64 rfl rfl (by omega)) ?_ | refine Reg.gpur rfl rfl rfl rfl rfl rfl (Pur.sub64 rfl rfl (by assumption)) ?_ | refine Reg.gpur rfl rfl rfl rfl rfl rfl (Pur.sub rfl rfl) ?_
  refine Reg.gpur rfl rfl rfl rfl rfl rfl (Pur.neq rfl rfl) ?_
  refine Reg.pur rfl rfl rfl rfl (Pur.pickF rfl rfl) ?_
  refine Reg.nil ?_
  refine At.cond rfl rfl (fun hb3 => ?_) (fun hb3 => ?_)
  · refine At.region rfl rfl ?_
    refine Reg.pur rfl rfl rfl rfl (Pur.asg rfl) ?_
    refine Reg.nil ?_
    refine At.ret rfl Tryd.func69 rfl ?_
    refine ⟨congrArg I ?_, rfl⟩
    try simp only [decide_eq_true_eq, decide_eq_false_iff_not] at *
    rw [hfin]
    first | (rw [if_pos (by omega)]; done) | (rw [if_neg (by omega), if_pos (by omega)]; done) | (rw [if_neg (by omega), if_neg (by omega), if_pos (by omega)]; done) | (rw [if_neg (by omega), if_neg (by omega), if_neg (by omega)]; done)
  simp only [decide_eq_true_eq, decide_eq_false_iff_not] at *
  have hle := bgn_le L f (x.getD 3 0) (by omega)
  refine At.region rfl rfl ?_
  refine Reg.pur rfl rfl rfl rfl (Pur.mv rfl) ?_
  refine Reg.pur rfl rfl rfl rfl (Pur.mv rfl) ?_
  refine Reg.pur rfl rfl rfl rfl (Pur.nilc rfl) ?_
  refine Reg.pur rfl rfl rfl rfl (Pur.fld _ fo65_3 rfl) ?_
  refine Reg.lod rfl rfl rfl rfl (Lod.ld sc3 rfl hb0 (hat 3 (by omega))) ?_
  refine Reg.op rfl rfl rfl rfl (Does.call rfl (ihf (x.getD 3 0) (by omega) (by omega) (by omega))) ?_
  rintro _ H ⟨rfl, rfl⟩
  refine Reg.pur rfl rfl rfl rfl (Pur.asg rfl) ?_
  refine Reg.nil ?_
  refine At.region rfl rfl ?_
  refine Reg.pur rfl rfl rfl rfl (Pur.mv rfl) ?_
  refine Reg.pur rfl rfl rfl rfl (Pur.lss rfl rfl) ?_
  refine Reg.pur rfl rfl rfl rfl (Pur.mv rfl) ?_
  refine Reg.case 35 rfl (fun hc4 => ?_) (fun hc4 => ?_)
  · refine Reg.skip rfl rfl rfl rfl rfl rfl rfl ?_
    refine Reg.skip rfl rfl rfl rfl rfl rfl rfl ?_
    refine Reg.skip rfl rfl rfl rfl rfl rfl rfl ?_
    refine Reg.skip rfl rfl rfl rfl rfl rfl rfl ?_
    refine Reg.skip rfl rfl rfl rfl rfl rfl rfl ?_
    try simp only [decide_eq_false_iff_not] at hc4
    refine Reg.skip rfl rfl rfl rfl rfl rfl rfl ?_
    refine Reg.skip rfl rfl rfl rfl rfl rfl rfl ?_
    refine Reg.pur rfl rfl rfl rfl (Pur.pickT rfl rfl) ?_
    refine Reg.nil ?_
    refine At.condT rfl rfl rfl ?_
    refine At.region rfl rfl ?_
    refine Reg.pur rfl rfl rfl rfl (Pur.asg rfl) ?_
    refine Reg.nil ?_
    refine At.ret rfl Tryd.func69 rfl ?_
    refine ⟨congrArg I ?_, rfl⟩
    try simp only [decide_eq_true_eq, decide_eq_false_iff_not] at *
    rw [hfin]
    first | (rw [if_pos (by omega)]; done) | (rw [if_neg (by omega), if_pos (by omega)]; done) | (rw [if_neg (by omega), if_neg (by omega), if_pos (by omega)]; done) | (rw [if_neg (by omega), if_neg (by omega), if_neg (by omega)]; done)
  refine Reg.gpur rfl rfl rfl rfl rfl rfl (Pur.mv rfl) ?_
  refine Reg.gpur rfl rfl rfl rfl rfl rfl (Pur.nilc rfl) ?_
  refine Reg.gpur rfl rfl rfl rfl rfl rfl (Pur.fld _ fo65_2 rfl) ?_
  refine Reg.glod rfl rfl rfl rfl rfl rfl (Lod.ld sc3 rfl hb0 (hat 2 (by omega))) ?_
  refine Reg.gpur rfl rfl rfl rfl rfl rfl (Pur.mv rfl) ?_
  try simp only [decide_eq_false_iff_not] at hc4
  first | refine Reg.gpur rfl rfl rfl rfl rfl rfl (Pur.sub64 rfl rfl (by omega)) ?_ | refine Reg.gpur rfl rfl rfl rfl rfl rfl (Pur.sub64 rfl rfl (by assumption)) ?_ | refine Reg.gpur rfl rfl rfl rfl rfl rfl (Pur.sub rfl rfl) ?_
  refine Reg.gpur rfl rfl rfl rfl rfl rfl (Pur.neq rfl rfl) ?_
  refine Reg.pur rfl rfl rfl rfl (Pur.pickF rfl rfl) ?_
  refine Reg.nil ?_
  refine At.cond rfl rfl (fun hb5 => ?_) (fun hb5 => ?_)
  · refine At.region rfl rfl ?_
    refine Reg.pur rfl rfl rfl rfl (Pur.asg rfl) ?_
    refine Reg.nil ?_
    refine At.ret rfl Tryd.func69 rfl ?_
    refine ⟨congrArg I ?_, rfl⟩
    try simp only [decide_eq_true_eq, decide_eq_false_iff_not] at *
    rw [hfin]
    first | (rw [if_pos (by omega)]; done) | (rw [if_neg (by omega), if_pos (by omega)]; done) | (rw [if_neg (by omega), if_neg (by omega), if_pos (by omega)]; done) | (rw [if_neg (by omega), if_neg (by omega), if_neg (by omega)]; done)
  try simp only [decide_eq_true_eq, decide_eq_false_iff_not] at *
  refine At.region rfl rfl ?_
  refine Reg.pur rfl rfl rfl rfl (Pur.mv rfl) ?_
  refine Reg.pur rfl rfl rfl rfl (Pur.mv rfl) ?_
  refine Reg.pur rfl rfl rfl rfl (Pur.nilc rfl) ?_
  refine Reg.pur rfl rfl rfl rfl (Pur.fld _ fo65_2 rfl) ?_
  refine Reg.lod rfl rfl rfl rfl (Lod.ld sc3 rfl hb0 (hat 2 (by omega))) ?_
  refine Reg.op rfl rfl rfl rfl (Does.call rfl (ihf (x.getD 2 0) (by omega) (by omega) (by omega))) ?_
  rintro _ H ⟨rfl, rfl⟩
  refine Reg.pur rfl rfl rfl rfl (Pur.asg rfl) ?_
  refine Reg.nil ?_
  refine At.ret rfl Tryd.func69 rfl ?_
  refine ⟨congrArg I ?_, rfl⟩
  try simp only [decide_eq_true_eq, decide_eq_false_iff_not] at *
  rw [hfin]
  first | (rw [if_pos (by omega)]; done) | (rw [if_neg (by omega), if_pos (by omega)]; done) | (rw [if_neg (by omega), if_neg (by omega), if_pos (by omega)]; done) | (rw [if_neg (by omega), if_neg (by omega), if_neg (by omega)]; done)

end Go.Proofs.YtlfillhffpiffaaDoor

namespace Go.Proofs.YtlfillhffpiffaaDoor
set_option linter.unusedSimpArgs false
set_option linter.unusedVariables false
set_option maxRecDepth 8000
open Go Go.Fx Go.Proofs
namespace FactsTypD
theorem ag24 : ag Tryd.prog 24 = some 5 := by kernel_rfl
theorem ag65 : ag Tryd.prog 65 = some 9 := by kernel_rfl
theorem eqt65 : eqT Tryd.prog 65 = some [.int .i64, .int .i64, .int .i64, .int .i64, .int .i64, .int .i64, .int .i64, .int .i64, .int .i64] := by kernel_rfl
theorem es53 : esz Tryd.prog 53 = some 9 := by kernel_rfl
theorem fo55_0 : foff Tryd.prog 55 0 = some 0 := by kernel_rfl
theorem fo65_0 : foff Tryd.prog 65 0 = some 0 := by kernel_rfl
theorem fo65_1 : foff Tryd.prog 65 1 = some 1 := by kernel_rfl
theorem fo65_2 : foff Tryd.prog 65 2 = some 2 := by kernel_rfl
theorem fo65_3 : foff Tryd.prog 65 3 = some 3 := by kernel_rfl
theorem fo65_4 : foff Tryd.prog 65 4 = some 4 := by kernel_rfl
theorem isl53 : isSl Tryd.prog 53 = true := by kernel_rfl
theorem pl65 : places Tryd.prog 65 = some [(0, 1), (1, 1), (2, 1), (3, 1), (4, 5)] := by kernel_rfl
theorem sc3 : sc Tryd.prog 3 = true := by kernel_rfl
theorem sc53 : sc Tryd.prog 53 = true := by kernel_rfl
theorem zc65 : zc Tryd.prog 65 = some [.int .i64 0, .int .i64 0, .int .i64 0, .int .i64 0, .int .i64 0, .int .i64 0, .int .i64 0, .int .i64 0, .int .i64 0] := by kernel_rfl
end FactsTypD
open FactsTypD

theorem nodMay_ok9 {x : List Int} (hx : x.length = 9) (H : Heap) : Ret Tryd.prog 68 [.agg (Is x).toArray] H (fun r H' => r = .bool (nodM x) ∧ Ext H H') := by
  match x, hx with
  | [k, v, a, b, c, d, e, f, t], _ => exact nodMay_ok k v a b c d e f t H
def typM (L : List (List Int)) : Bool := decide (1 ≤ L.length ∧ L.length ≤ 256) && L.all nodM && decide (bgn L L.length ((L.length : Int) - 1) = 0)
abbrev Ty (A : Option Addr) (len cap : Nat) : Value := .agg #[.slice A len cap]

theorem typMay_ok {A : Option Addr} {cap : Nat} (L : List (List Int)) (hL : Nine L) {H : Heap} (hS : SlT H Is 9 (.slice A L.length cap) L) (hm : L.length ≤ 9223372036854775807) :
    Ret Tryd.prog 46 [Ty A L.length cap] H (fun v H' => v = .bool (typM L) ∧ Ext H H') := by
  refine Ret.of_at (N := 32) Tryd.call46 Tryd.func46 rfl rfl rfl ?_
  refine At.region rfl rfl ?_
  refine Reg.op rfl rfl rfl rfl (Does.box rfl rfl) ?_
  rintro _ H1 ⟨rfl, hn1⟩
  refine Reg.pur rfl rfl rfl rfl (Pur.asg rfl) ?_
  refine Reg.nil ?_
  have hB := hn1.own.blk
  have hS1 := hS.ext hn1.ext
  refine At.region rfl rfl ?_
  refine Reg.pur rfl rfl rfl rfl (Pur.fld _ fo55_0 rfl) ?_
  refine Reg.lod rfl rfl rfl rfl (Lod.ld sc53 rfl hB rfl) ?_
  refine Reg.pur rfl rfl rfl rfl (Pur.lenS isl53 rfl) ?_
  refine Reg.pur rfl rfl rfl rfl (Pur.asg rfl) ?_
  refine Reg.nil ?_
  refine At.region rfl rfl ?_
  refine Reg.pur rfl rfl rfl rfl (Pur.mv rfl) ?_
  refine Reg.pur rfl rfl rfl rfl (Pur.lss rfl rfl) ?_
  refine Reg.pur rfl rfl rfl rfl (Pur.mv rfl) ?_
  refine Reg.case 11 rfl (fun hc1 => ?_) (fun hc1 => ?_)
  · refine Reg.skip rfl rfl rfl rfl rfl rfl rfl ?_
    refine Reg.skip rfl rfl rfl rfl rfl rfl rfl ?_
    refine Reg.pur rfl rfl rfl rfl (Pur.pickT rfl rfl) ?_
    refine Reg.nil ?_
    refine At.condT rfl rfl rfl ?_
    refine At.region rfl rfl ?_
    refine Reg.pur rfl rfl rfl rfl (Pur.asg rfl) ?_
    refine Reg.nil ?_
    refine At.ret rfl Tryd.func46 rfl ?_
    first | exact ⟨congrArg Value.bool (by unfold typM; simp only [decide_eq_true_eq] at *; rw [decide_eq_false (by omega)]; rfl), hn1.ext⟩ | exact ⟨congrArg Value.bool (by unfold typM; rw [all_of_take hlt (by simpa using hb4)]; simp), hn1.ext.trans (hE.trans (hE4.trans hE5))⟩ | exact ⟨congrArg Value.bool (by simp only [decide_eq_false_iff_not] at *; rw [List.take_of_length_le (by omega)] at hgo; unfold typM; rw [hgo, decide_eq_true (p := 1 ≤ L.length ∧ L.length ≤ 256) (by omega)]; rfl), hn1.ext.trans hE⟩
  refine Reg.gpur rfl rfl rfl rfl rfl rfl (Pur.mv rfl) ?_
  refine Reg.gpur rfl rfl rfl rfl rfl rfl (Pur.gtr rfl rfl) ?_
  refine Reg.pur rfl rfl rfl rfl (Pur.pickF rfl rfl) ?_
  refine Reg.nil ?_
  refine At.cond rfl rfl (fun hb2 => ?_) (fun hb2 => ?_)
  · refine At.region rfl rfl ?_
    refine Reg.pur rfl rfl rfl rfl (Pur.asg rfl) ?_
    refine Reg.nil ?_
    refine At.ret rfl Tryd.func46 rfl ?_
    first | exact ⟨congrArg Value.bool (by unfold typM; simp only [decide_eq_true_eq] at *; rw [decide_eq_false (by omega)]; rfl), hn1.ext⟩ | exact ⟨congrArg Value.bool (by unfold typM; rw [all_of_take hlt (by simpa using hb4)]; simp), hn1.ext.trans (hE.trans (hE4.trans hE5))⟩ | exact ⟨congrArg Value.bool (by simp only [decide_eq_false_iff_not] at *; rw [List.take_of_length_le (by omega)] at hgo; unfold typM; rw [hgo, decide_eq_true (p := 1 ≤ L.length ∧ L.length ≤ 256) (by omega)]; rfl), hn1.ext.trans hE⟩
  refine At.region rfl rfl ?_
  refine Reg.pur rfl rfl rfl rfl (Pur.fld _ fo55_0 rfl) ?_
  refine Reg.lod rfl rfl rfl rfl (Lod.ld sc53 rfl hB rfl) ?_
  refine Reg.pur rfl rfl rfl rfl (Pur.lenS isl53 rfl) ?_
  refine Reg.pur rfl rfl rfl rfl (Pur.mv rfl) ?_
  refine Reg.nil ?_
  refine At.loop (σ := Nat) (fun i => [(18, I i), (17, I L.length), (16, .slice A L.length cap), (1, ptr H.size 0), (3, I L.length)]) (fun i H' => i ≤ L.length ∧ Ext H1 H' ∧ (L.take i).all nodM = true) (fun i => L.length - i) 0 rfl ⟨rfl, rfl, rfl, rfl, rfl, trivial⟩ ⟨by omega, Ext.refl _, rfl⟩ ?_
  rintro i H2 ⟨hi, hE, hgo⟩ ih
  refine At.region rfl rfl ?_
  refine Reg.pur rfl rfl rfl rfl (Pur.lss rfl rfl) ?_
  refine Reg.nil ?_
  refine At.cond rfl rfl (fun hb3 => ?_) (fun hb3 => ?_)
  · simp only [decide_eq_true_eq] at hb3
    have hlt : i < L.length := by omega
    obtain ⟨b, o, c, rfl, hB2, hd, h9⟩ := sl_at (wide9 hL) (hS1.ext hE) hlt
    have h9' := hL _ (List.getElem_mem hlt)
    refine At.region rfl rfl ?_
    refine Reg.pur rfl rfl rfl rfl (Pur.idx _ es53 rfl rfl (by omega) hb3) ?_
    refine Reg.lod rfl rfl rfl rfl (Lod.ldn ag65 rfl hB2 hd h9) ?_
    refine Reg.op rfl rfl rfl rfl (Does.alloc zc65) ?_
    rintro _ H3 ⟨rfl, hn3⟩
    refine Reg.op0 rfl rfl rfl (Does.stn ag65 rfl rfl (ones_Is _) h9 hn3.own (by decide)) ?_
    rintro _ H4 hu4
    refine Reg.nil ?_
    have hX : Own H4 H2.size (Is L[i]) := by have := hu4.own; rwa [over (by rfl)] at this
    have hE4 : Ext H2 H4 := hn3.ext.upd hu4 (Nat.le_refl _)
    refine At.region rfl rfl ?_
    refine Reg.lod rfl rfl rfl rfl (Lod.ldn ag65 rfl hX.blk (whole h9) h9) ?_
    refine Reg.op rfl rfl rfl rfl (Does.call rfl (nodMay_ok9 h9' _)) ?_
    rintro _ H5 ⟨rfl, hE5⟩
    refine Reg.pur rfl rfl rfl rfl (Pur.not rfl) ?_
    refine Reg.nil ?_
    refine At.cond rfl rfl (fun hb4 => ?_) (fun hb4 => ?_)
    · refine At.region rfl rfl ?_
      refine Reg.pur rfl rfl rfl rfl (Pur.asg rfl) ?_
      refine Reg.nil ?_
      refine At.ret rfl Tryd.func46 rfl ?_
      first | exact ⟨congrArg Value.bool (by unfold typM; simp only [decide_eq_true_eq] at *; rw [decide_eq_false (by omega)]; rfl), hn1.ext⟩ | exact ⟨congrArg Value.bool (by unfold typM; rw [all_of_take hlt (by simpa using hb4)]; simp), hn1.ext.trans (hE.trans (hE4.trans hE5))⟩ | exact ⟨congrArg Value.bool (by simp only [decide_eq_false_iff_not] at *; rw [List.take_of_length_le (by omega)] at hgo; unfold typM; rw [hgo, decide_eq_true (p := 1 ≤ L.length ∧ L.length ≤ 256) (by omega)]; rfl), hn1.ext.trans hE⟩
    refine At.region rfl rfl ?_
    first | refine Reg.pur rfl rfl rfl rfl (Pur.add64 rfl rfl (by omega)) ?_ | refine Reg.pur rfl rfl rfl rfl (Pur.add64 rfl rfl (by assumption)) ?_ | refine Reg.pur rfl rfl rfl rfl (Pur.add rfl rfl) ?_
    refine Reg.pur rfl rfl rfl rfl (Pur.mv rfl) ?_
    refine Reg.nil ?_
    refine At.via (ih (i + 1) H5 ⟨by omega, hE.trans (hE4.trans hE5), ?_⟩ (by omega)) ⟨rfl, rfl, rfl, rfl, rfl, trivial⟩
    rw [all_take hlt, hgo]; simpa using hb4
  have hlen : 1 ≤ L.length ∧ L.length ≤ 256 := by simp only [decide_eq_false_iff_not] at *; omega
  refine At.region rfl rfl ?_
  refine Reg.pur rfl rfl rfl rfl (Pur.fld _ fo55_0 rfl) ?_
  refine Reg.lod rfl rfl rfl rfl (Lod.ld sc53 rfl (hB.ext hE) rfl) ?_
  refine Reg.pur rfl rfl rfl rfl (Pur.mv rfl) ?_
  first | refine Reg.pur rfl rfl rfl rfl (Pur.sub64 rfl rfl (by omega)) ?_ | refine Reg.pur rfl rfl rfl rfl (Pur.sub64 rfl rfl (by assumption)) ?_ | refine Reg.pur rfl rfl rfl rfl (Pur.sub rfl rfl) ?_
  refine Reg.op rfl rfl rfl rfl (Does.call rfl (begin_ok L hL (hS1.ext hE) hm L.length _ (by omega) (by omega) (by omega))) ?_
  rintro _ H2 ⟨rfl, rfl⟩
  refine Reg.pur rfl rfl rfl rfl (Pur.eql rfl rfl) ?_
  refine Reg.pur rfl rfl rfl rfl (Pur.asg rfl) ?_
  refine Reg.nil ?_
  refine At.ret rfl Tryd.func46 rfl ?_
  first | exact ⟨congrArg Value.bool (by unfold typM; simp only [decide_eq_true_eq] at *; rw [decide_eq_false (by omega)]; rfl), hn1.ext⟩ | exact ⟨congrArg Value.bool (by unfold typM; rw [all_of_take hlt (by simpa using hb4)]; simp), hn1.ext.trans (hE.trans (hE4.trans hE5))⟩ | exact ⟨congrArg Value.bool (by simp only [decide_eq_false_iff_not] at *; rw [List.take_of_length_le (by omega)] at hgo; unfold typM; rw [hgo, decide_eq_true (p := 1 ≤ L.length ∧ L.length ≤ 256) (by omega)]; rfl), hn1.ext.trans hE⟩

end Go.Proofs.YtlfillhffpiffaaDoor

namespace Go.Proofs.YtlfillhffpiffaaDoor
set_option linter.unusedSimpArgs false
set_option linter.unusedVariables false
set_option maxRecDepth 8000
open Go Go.Fx Go.Proofs
namespace FactsSubA
theorem ag24 : ag Tryd.prog 24 = some 5 := by kernel_rfl
theorem ag55 : ag Tryd.prog 55 = some 1 := by kernel_rfl
theorem eqt24 : eqT Tryd.prog 24 = some [.int .i64, .int .i64, .int .i64, .int .i64, .int .i64] := by kernel_rfl
theorem fo55_0 : foff Tryd.prog 55 0 = some 0 := by kernel_rfl
theorem fo57_0 : foff Tryd.prog 57 0 = some 0 := by kernel_rfl
theorem fo57_1 : foff Tryd.prog 57 1 = some 1 := by kernel_rfl
theorem fo57_2 : foff Tryd.prog 57 2 = some 2 := by kernel_rfl
theorem fo57_3 : foff Tryd.prog 57 3 = some 3 := by kernel_rfl
theorem isl53 : isSl Tryd.prog 53 = true := by kernel_rfl
theorem pl24 : places Tryd.prog 24 = some [(0, 4), (4, 1)] := by kernel_rfl
theorem sc3 : sc Tryd.prog 3 = true := by kernel_rfl
theorem sc4 : sc Tryd.prog 4 = true := by kernel_rfl
theorem sc53 : sc Tryd.prog 53 = true := by kernel_rfl
theorem zc24 : zc Tryd.prog 24 = some [.int .i64 0, .int .i64 0, .int .i64 0, .int .i64 0, .int .i64 0] := by kernel_rfl
end FactsSubA
open FactsSubA

structure Bd where
  var : Int
  isRow : Bool
  A : Option Addr
  cap : Nat
  nodes : List (List Int)
  row : List Int
abbrev Bd.sl (b : Bd) : Value := .slice b.A b.nodes.length b.cap
abbrev encB (b : Bd) : List Value := I b.var :: .bool b.isRow :: b.sl :: Is b.row
structure Bd.Ok (H : Heap) (b : Bd) : Prop where
  sl : SlT H Is 9 b.sl b.nodes
  nine : Nine b.nodes
  row : b.row.length = 5
  fits : b.nodes.length * 72 ≤ 140737488351232
theorem Bd.Ok.ext {H H' : Heap} {b : Bd} (h : b.Ok H) (he : Ext H H') : b.Ok H' := ⟨h.sl.ext he, h.nine, h.row, h.fits⟩
theorem Bd.Ok.len {H : Heap} {b : Bd} (h : b.Ok H) : (encB b).length = 8 := by simp [h.row]
theorem Bd.Ok.max {H : Heap} {b : Bd} (h : b.Ok H) : b.nodes.length ≤ 9223372036854775807 := by have := h.fits; omega
abbrev noRow : List Int := [0, 0, 0, 0, 0]
def bindM (b : Bd) : Bool := decide (0 ≤ b.var ∧ b.var < 4096) && if b.isRow then decide (b.nodes.length = 0) && rowM b.row else decide (b.row = noRow) && typM b.nodes
theorem not_ok (b : Bd) {H : Heap} (hb : b.Ok H) : Ret Tryd.prog 94 [.agg (encB b).toArray] H (fun v H' => v = .bool (!bindM b) ∧ Ext H H') := by
  obtain ⟨var, isRow, A, cap, nodes, row⟩ := b
  have hrl := hb.row
  have hsl := hb.sl
  have hnn := hb.nine
  have hmm := hb.max
  dsimp only [Bd.sl] at hrl hsl hnn hmm
  have hf := fks_ints .i64 row
  rw [hrl] at hf
  refine Ret.of_at (N := 34) Tryd.call94 Tryd.func94 rfl rfl rfl ?_
  refine At.region rfl rfl ?_
  refine Reg.op rfl rfl rfl rfl (Does.box rfl rfl) ?_
  rintro _ H1 ⟨rfl, hn1⟩
  refine Reg.pur rfl rfl rfl rfl (Pur.asg rfl) ?_
  refine Reg.nil ?_
  have hB := hn1.own.blk
  refine At.region rfl rfl ?_
  refine Reg.pur rfl rfl rfl rfl (Pur.fld _ fo57_0 rfl) ?_
  refine Reg.lod rfl rfl rfl rfl (Lod.ld sc3 rfl hB rfl) ?_
  refine Reg.pur rfl rfl rfl rfl (Pur.lss rfl rfl) ?_
  refine Reg.pur rfl rfl rfl rfl (Pur.mv rfl) ?_
  refine Reg.case 6 rfl (fun hc1 => ?_) (fun hc1 => ?_)
  · refine Reg.skip rfl rfl rfl rfl rfl rfl rfl ?_
    refine Reg.skip rfl rfl rfl rfl rfl rfl rfl ?_
    refine Reg.skip rfl rfl rfl rfl rfl rfl rfl ?_
    refine Reg.pur rfl rfl rfl rfl (Pur.pickT rfl rfl) ?_
    refine Reg.nil ?_
    refine At.condT rfl rfl rfl ?_
    refine At.region rfl rfl ?_
    refine Reg.pur rfl rfl rfl rfl (Pur.asg rfl) ?_
    refine Reg.nil ?_
    refine At.ret rfl Tryd.func94 rfl ?_
    refine ⟨congrArg Value.bool ?_, by first | exact hn1.ext.trans hE2 | exact hn1.ext⟩
    unfold bindM
    try change (!eqs (Is row) (Is noRow)) = _ at hc5
    have hq := eqs_ints .i64 row noRow
    try simp only [decide_eq_true_eq, decide_eq_false_iff_not] at hc1
    try simp only [decide_eq_true_eq, decide_eq_false_iff_not] at hb2
    try simp only [decide_eq_true_eq, decide_eq_false_iff_not] at hc4
    try dsimp only at hb3
    dsimp only
    first | (rw [decide_eq_false (p := 0 ≤ var ∧ var < 4096) (by omega)]; rfl) | (rw [decide_eq_true (p := 0 ≤ var ∧ var < 4096) (by omega), if_pos hb3, decide_eq_false (p := nodes.length = 0) (by omega)]; rfl) | (rw [decide_eq_true (p := 0 ≤ var ∧ var < 4096) (by omega), if_pos hb3, decide_eq_true (p := nodes.length = 0) (by omega)]; rfl) | (rw [decide_eq_true (p := 0 ≤ var ∧ var < 4096) (by omega), if_neg (by rw [hb3]; decide), ← hq]; generalize eqs (Is row) (Is noRow) = q at *; cases q <;> simp_all; done)
  refine Reg.gpur rfl rfl rfl rfl rfl rfl (Pur.fld _ fo57_0 rfl) ?_
  refine Reg.glod rfl rfl rfl rfl rfl rfl (Lod.ld sc3 rfl hB rfl) ?_
  refine Reg.gpur rfl rfl rfl rfl rfl rfl (Pur.geq rfl rfl) ?_
  refine Reg.pur rfl rfl rfl rfl (Pur.pickF rfl rfl) ?_
  refine Reg.nil ?_
  refine At.cond rfl rfl (fun hb2 => ?_) (fun hb2 => ?_)
  · refine At.region rfl rfl ?_
    refine Reg.pur rfl rfl rfl rfl (Pur.asg rfl) ?_
    refine Reg.nil ?_
    refine At.ret rfl Tryd.func94 rfl ?_
    refine ⟨congrArg Value.bool ?_, by first | exact hn1.ext.trans hE2 | exact hn1.ext⟩
    unfold bindM
    try change (!eqs (Is row) (Is noRow)) = _ at hc5
    have hq := eqs_ints .i64 row noRow
    try simp only [decide_eq_true_eq, decide_eq_false_iff_not] at hc1
    try simp only [decide_eq_true_eq, decide_eq_false_iff_not] at hb2
    try simp only [decide_eq_true_eq, decide_eq_false_iff_not] at hc4
    try dsimp only at hb3
    dsimp only
    first | (rw [decide_eq_false (p := 0 ≤ var ∧ var < 4096) (by omega)]; rfl) | (rw [decide_eq_true (p := 0 ≤ var ∧ var < 4096) (by omega), if_pos hb3, decide_eq_false (p := nodes.length = 0) (by omega)]; rfl) | (rw [decide_eq_true (p := 0 ≤ var ∧ var < 4096) (by omega), if_pos hb3, decide_eq_true (p := nodes.length = 0) (by omega)]; rfl) | (rw [decide_eq_true (p := 0 ≤ var ∧ var < 4096) (by omega), if_neg (by rw [hb3]; decide), ← hq]; generalize eqs (Is row) (Is noRow) = q at *; cases q <;> simp_all; done)
  refine At.region rfl rfl ?_
  refine Reg.pur rfl rfl rfl rfl (Pur.fld _ fo57_1 rfl) ?_
  refine Reg.lod rfl rfl rfl rfl (Lod.ld sc4 rfl hB rfl) ?_
  refine Reg.nil ?_
  refine At.cond rfl rfl (fun hb3 => ?_) (fun hb3 => ?_)
  · refine At.region rfl rfl ?_
    refine Reg.pur rfl rfl rfl rfl (Pur.fld _ fo57_2 rfl) ?_
    refine Reg.pur rfl rfl rfl rfl (Pur.fld _ fo55_0 rfl) ?_
    refine Reg.lod rfl rfl rfl rfl (Lod.ld sc53 rfl hB rfl) ?_
    refine Reg.pur rfl rfl rfl rfl (Pur.lenS isl53 rfl) ?_
    refine Reg.pur rfl rfl rfl rfl (Pur.gtr rfl rfl) ?_
    refine Reg.pur rfl rfl rfl rfl (Pur.mv rfl) ?_
    refine Reg.case 18 rfl (fun hc4 => ?_) (fun hc4 => ?_)
    · refine Reg.skip rfl rfl rfl rfl rfl rfl rfl ?_
      refine Reg.skip rfl rfl rfl rfl rfl rfl rfl ?_
      refine Reg.skip rfl rfl rfl rfl rfl rfl rfl ?_
      refine Reg.skip rfl rfl rfl rfl rfl rfl rfl ?_
      refine Reg.pur rfl rfl rfl rfl (Pur.pickT rfl rfl) ?_
      refine Reg.pur rfl rfl rfl rfl (Pur.asg rfl) ?_
      refine Reg.nil ?_
      refine At.ret rfl Tryd.func94 rfl ?_
      refine ⟨congrArg Value.bool ?_, by first | exact hn1.ext.trans hE2 | exact hn1.ext⟩
      unfold bindM
      try change (!eqs (Is row) (Is noRow)) = _ at hc5
      have hq := eqs_ints .i64 row noRow
      try simp only [decide_eq_true_eq, decide_eq_false_iff_not] at hc1
      try simp only [decide_eq_true_eq, decide_eq_false_iff_not] at hb2
      try simp only [decide_eq_true_eq, decide_eq_false_iff_not] at hc4
      try dsimp only at hb3
      dsimp only
      first | (rw [decide_eq_false (p := 0 ≤ var ∧ var < 4096) (by omega)]; rfl) | (rw [decide_eq_true (p := 0 ≤ var ∧ var < 4096) (by omega), if_pos hb3, decide_eq_false (p := nodes.length = 0) (by omega)]; rfl) | (rw [decide_eq_true (p := 0 ≤ var ∧ var < 4096) (by omega), if_pos hb3, decide_eq_true (p := nodes.length = 0) (by omega)]; rfl) | (rw [decide_eq_true (p := 0 ≤ var ∧ var < 4096) (by omega), if_neg (by rw [hb3]; decide), ← hq]; generalize eqs (Is row) (Is noRow) = q at *; cases q <;> simp_all; done)
    refine Reg.gpur rfl rfl rfl rfl rfl rfl (Pur.fld _ fo57_3 rfl) ?_
    refine Reg.glod rfl rfl rfl rfl rfl rfl (Lod.ldn ag24 rfl hB (show (Is row).take 5 = Is row from List.take_of_length_le (by simp [hrl])) (by simp [hrl])) ?_
    refine Reg.gop rfl rfl rfl rfl rfl rfl (Does.call rfl (rowMay_ok row hrl _)) ?_
    rintro _ H2 ⟨rfl, hE2⟩
    refine Reg.gpur rfl rfl rfl rfl rfl rfl (Pur.not rfl) ?_
    refine Reg.pur rfl rfl rfl rfl (Pur.pickF rfl rfl) ?_
    refine Reg.pur rfl rfl rfl rfl (Pur.asg rfl) ?_
    refine Reg.nil ?_
    refine At.ret rfl Tryd.func94 rfl ?_
    refine ⟨congrArg Value.bool ?_, by first | exact hn1.ext.trans hE2 | exact hn1.ext⟩
    unfold bindM
    try change (!eqs (Is row) (Is noRow)) = _ at hc5
    have hq := eqs_ints .i64 row noRow
    try simp only [decide_eq_true_eq, decide_eq_false_iff_not] at hc1
    try simp only [decide_eq_true_eq, decide_eq_false_iff_not] at hb2
    try simp only [decide_eq_true_eq, decide_eq_false_iff_not] at hc4
    try dsimp only at hb3
    dsimp only
    first | (rw [decide_eq_false (p := 0 ≤ var ∧ var < 4096) (by omega)]; rfl) | (rw [decide_eq_true (p := 0 ≤ var ∧ var < 4096) (by omega), if_pos hb3, decide_eq_false (p := nodes.length = 0) (by omega)]; rfl) | (rw [decide_eq_true (p := 0 ≤ var ∧ var < 4096) (by omega), if_pos hb3, decide_eq_true (p := nodes.length = 0) (by omega)]; rfl) | (rw [decide_eq_true (p := 0 ≤ var ∧ var < 4096) (by omega), if_neg (by rw [hb3]; decide), ← hq]; generalize eqs (Is row) (Is noRow) = q at *; cases q <;> simp_all; done)
  refine At.region rfl rfl ?_
  refine Reg.pur rfl rfl rfl rfl (Pur.fld _ fo57_3 rfl) ?_
  refine Reg.lod rfl rfl rfl rfl (Lod.ldn ag24 rfl hB (show (Is row).take 5 = Is row from List.take_of_length_le (by simp [hrl])) (by simp [hrl])) ?_
  refine Reg.pur rfl rfl rfl rfl (Pur.bld (cs := [_, _, _, _, _]) pl24 zc24 rfl rfl ⟨rfl, rfl, rfl, rfl, rfl, rfl⟩) ?_
  refine Reg.pur rfl rfl rfl rfl (Pur.neA eqt24 rfl rfl hf (fks_ints .i64 noRow)) ?_
  refine Reg.pur rfl rfl rfl rfl (Pur.mv rfl) ?_
  refine Reg.case 28 rfl (fun hc5 => ?_) (fun hc5 => ?_)
  · refine Reg.skip rfl rfl rfl rfl rfl rfl rfl ?_
    refine Reg.skip rfl rfl rfl rfl rfl rfl rfl ?_
    refine Reg.skip rfl rfl rfl rfl rfl rfl rfl ?_
    refine Reg.skip rfl rfl rfl rfl rfl rfl rfl ?_
    refine Reg.pur rfl rfl rfl rfl (Pur.pickT rfl rfl) ?_
    refine Reg.pur rfl rfl rfl rfl (Pur.asg rfl) ?_
    refine Reg.nil ?_
    refine At.ret rfl Tryd.func94 rfl ?_
    refine ⟨congrArg Value.bool ?_, by first | exact hn1.ext.trans hE2 | exact hn1.ext⟩
    unfold bindM
    try change (!eqs (Is row) (Is noRow)) = _ at hc5
    have hq := eqs_ints .i64 row noRow
    try simp only [decide_eq_true_eq, decide_eq_false_iff_not] at hc1
    try simp only [decide_eq_true_eq, decide_eq_false_iff_not] at hb2
    try simp only [decide_eq_true_eq, decide_eq_false_iff_not] at hc4
    try dsimp only at hb3
    dsimp only
    first | (rw [decide_eq_false (p := 0 ≤ var ∧ var < 4096) (by omega)]; rfl) | (rw [decide_eq_true (p := 0 ≤ var ∧ var < 4096) (by omega), if_pos hb3, decide_eq_false (p := nodes.length = 0) (by omega)]; rfl) | (rw [decide_eq_true (p := 0 ≤ var ∧ var < 4096) (by omega), if_pos hb3, decide_eq_true (p := nodes.length = 0) (by omega)]; rfl) | (rw [decide_eq_true (p := 0 ≤ var ∧ var < 4096) (by omega), if_neg (by rw [hb3]; decide), ← hq]; generalize eqs (Is row) (Is noRow) = q at *; cases q <;> simp_all; done)
  refine Reg.gpur rfl rfl rfl rfl rfl rfl (Pur.fld _ fo57_2 rfl) ?_
  refine Reg.glod rfl rfl rfl rfl rfl rfl (Lod.ldn ag55 rfl hB (show _ = [Value.slice A nodes.length cap] from rfl) rfl) ?_
  refine Reg.gop rfl rfl rfl rfl rfl rfl (Does.call rfl (typMay_ok nodes hnn (hsl.ext hn1.ext) hmm)) ?_
  rintro _ H2 ⟨rfl, hE2⟩
  refine Reg.gpur rfl rfl rfl rfl rfl rfl (Pur.not rfl) ?_
  refine Reg.pur rfl rfl rfl rfl (Pur.pickF rfl rfl) ?_
  refine Reg.pur rfl rfl rfl rfl (Pur.asg rfl) ?_
  refine Reg.nil ?_
  refine At.ret rfl Tryd.func94 rfl ?_
  refine ⟨congrArg Value.bool ?_, by first | exact hn1.ext.trans hE2 | exact hn1.ext⟩
  unfold bindM
  try change (!eqs (Is row) (Is noRow)) = _ at hc5
  have hq := eqs_ints .i64 row noRow
  try simp only [decide_eq_true_eq, decide_eq_false_iff_not] at hc1
  try simp only [decide_eq_true_eq, decide_eq_false_iff_not] at hb2
  try simp only [decide_eq_true_eq, decide_eq_false_iff_not] at hc4
  try dsimp only at hb3
  dsimp only
  first | (rw [decide_eq_false (p := 0 ≤ var ∧ var < 4096) (by omega)]; rfl) | (rw [decide_eq_true (p := 0 ≤ var ∧ var < 4096) (by omega), if_pos hb3, decide_eq_false (p := nodes.length = 0) (by omega)]; rfl) | (rw [decide_eq_true (p := 0 ≤ var ∧ var < 4096) (by omega), if_pos hb3, decide_eq_true (p := nodes.length = 0) (by omega)]; rfl) | (rw [decide_eq_true (p := 0 ≤ var ∧ var < 4096) (by omega), if_neg (by rw [hb3]; decide), ← hq]; generalize eqs (Is row) (Is noRow) = q at *; cases q <;> simp_all; done)
end Go.Proofs.YtlfillhffpiffaaDoor

namespace Go.Proofs.YtlfillhffpiffaaDoor
set_option linter.unusedSimpArgs false
set_option linter.unusedVariables false
set_option maxRecDepth 8000
open Go Go.Fx Go.Proofs
namespace FactsSubB
theorem ag57 : ag Tryd.prog 57 = some 8 := by kernel_rfl
theorem es25 : esz Tryd.prog 25 = some 8 := by kernel_rfl
theorem fo57_0 : foff Tryd.prog 57 0 = some 0 := by kernel_rfl
theorem fo57_1 : foff Tryd.prog 57 1 = some 1 := by kernel_rfl
theorem isl25 : isSl Tryd.prog 25 = true := by kernel_rfl
theorem sc3 : sc Tryd.prog 3 = true := by kernel_rfl
theorem sc4 : sc Tryd.prog 4 = true := by kernel_rfl
end FactsSubB
open FactsSubB

structure Bds (H : Heap) (v : Value) (L : List Bd) : Prop where
  sl : SlT H encB 8 v L
  ok : ∀ b ∈ L, b.Ok H
  fits : L.length * 80 ≤ 140737488351232
theorem Bds.ext {H H' : Heap} {v : Value} {L : List Bd} (h : Bds H v L) (he : Ext H H') : Bds H' v L := ⟨h.sl.ext he, fun b hb => (h.ok b hb).ext he, h.fits⟩
theorem Bds.wide {H : Heap} {v : Value} {L : List Bd} (h : Bds H v L) : Wide encB 8 L := fun b hb => (h.ok b hb).len
theorem Bds.max {H : Heap} {v : Value} {L : List Bd} (h : Bds H v L) : L.length ≤ 9223372036854775807 := by have := h.fits; omega
theorem Bds.at {H : Heap} {A : Option Addr} {cap : Nat} {L : List Bd} (h : Bds H (.slice A L.length cap) L) {i : Nat} (hi : i < L.length) :
    ∃ b o c, A = some ⟨b, o, none⟩ ∧ Blk H b c ∧ (c.drop (o + i * 8)).take 8 = encB L[i] ∧ L[i].Ok H := by
  obtain ⟨b, o, c, h1, h2, h3, _⟩ := sl_at h.wide h.sl hi
  exact ⟨b, o, c, h1, h2, h3, h.ok _ (List.getElem_mem hi)⟩
theorem Bds.lt {H : Heap} {b o cap : Nat} {L : List Bd} (h : Bds H (.slice (some ⟨b, o, none⟩) L.length cap) L) (h0 : 0 < L.length) : b < H.size := by
  obtain ⟨b', o', c, e, h2, _⟩ := h.at h0
  cases e; exact h2.lt
def bindsM (L : List Bd) : Bool := decide (L.length ≤ 4096) && L.all bindM

theorem indexFuncB_ok {A : Option Addr} {cap : Nat} {L : List Bd} {H : Heap} (hS : Bds H (.slice A L.length cap) L) :
    Ret Tryd.prog 107 [.slice A L.length cap, .func (.func 94) #[] #[]] H (fun v H' => (∃ r, v = I r ∧ decide (0 ≤ r) = !L.all bindM) ∧ Ext H H') := by
  have hm := hS.max
  refine Ret.of_at (N := 19) Tryd.call107 Tryd.func107 rfl rfl rfl ?_
  refine At.region rfl rfl ?_
  refine Reg.pur rfl rfl rfl rfl (Pur.asg rfl) ?_
  refine Reg.nil ?_
  refine At.region rfl rfl ?_
  refine Reg.pur rfl rfl rfl rfl (Pur.mv rfl) ?_
  refine Reg.pur rfl rfl rfl rfl (Pur.lenS isl25 rfl) ?_
  refine Reg.pur rfl rfl rfl rfl (Pur.mv rfl) ?_
  refine Reg.nil ?_
  refine At.loop (σ := Nat) (fun i => [(8, I i), (7, I L.length), (0, .slice A L.length cap), (1, .func (.func 94) #[] #[])]) (fun i H' => i ≤ L.length ∧ Ext H H' ∧ (L.take i).all bindM = true) (fun i => L.length - i) 0 rfl ⟨rfl, rfl, rfl, rfl, trivial⟩ ⟨by omega, Ext.refl _, rfl⟩ ?_
  rintro i H1 ⟨hi, hE, hgo⟩ ih
  refine At.region rfl rfl ?_
  refine Reg.pur rfl rfl rfl rfl (Pur.lss rfl rfl) ?_
  refine Reg.nil ?_
  refine At.cond rfl rfl (fun hb1 => ?_) (fun hb1 => ?_)
  · refine At.region rfl rfl ?_
    refine Reg.pur rfl rfl rfl rfl (Pur.mv rfl) ?_
    refine Reg.pur rfl rfl rfl rfl (Pur.asg rfl) ?_
    refine Reg.nil ?_
    simp only [decide_eq_true_eq] at hb1
    have hlt : i < L.length := by omega
    obtain ⟨b, o, c, rfl, hB, hd, hok⟩ := (hS.ext hE).at hlt
    refine At.region rfl rfl ?_
    refine Reg.pur rfl rfl rfl rfl (Pur.mv rfl) ?_
    refine Reg.pur rfl rfl rfl rfl (Pur.mv rfl) ?_
    refine Reg.pur rfl rfl rfl rfl (Pur.mv rfl) ?_
    refine Reg.pur rfl rfl rfl rfl (Pur.idx _ es25 rfl rfl (by omega) hb1) ?_
    refine Reg.lod rfl rfl rfl rfl (Lod.ldn ag57 rfl hB hd hok.len) ?_
    refine Reg.op rfl rfl rfl rfl (Does.callv rfl rfl (not_ok L[i] hok)) ?_
    rintro _ H2 ⟨rfl, hE2⟩
    refine Reg.nil ?_
    refine At.cond rfl rfl (fun hb2 => ?_) (fun hb2 => ?_)
    · refine At.region rfl rfl ?_
      refine Reg.pur rfl rfl rfl rfl (Pur.mv rfl) ?_
      refine Reg.pur rfl rfl rfl rfl (Pur.asg rfl) ?_
      refine Reg.nil ?_
      refine At.ret rfl Tryd.func107 rfl ?_
      first | exact ⟨⟨_, rfl, by rw [all_of_take hlt (by simpa using hb2)]; simp⟩, hE.trans hE2⟩ | exact ⟨⟨_, rfl, by simp only [decide_eq_false_iff_not] at *; rw [List.take_of_length_le (by omega)] at hgo; rw [hgo]; rfl⟩, hE⟩
    refine At.region rfl rfl ?_
    first | refine Reg.pur rfl rfl rfl rfl (Pur.add64 rfl rfl (by omega)) ?_ | refine Reg.pur rfl rfl rfl rfl (Pur.add64 rfl rfl (by assumption)) ?_ | refine Reg.pur rfl rfl rfl rfl (Pur.add rfl rfl) ?_
    refine Reg.pur rfl rfl rfl rfl (Pur.mv rfl) ?_
    refine Reg.nil ?_
    refine At.via (ih (i + 1) H2 ⟨by omega, hE.trans hE2, ?_⟩ (by omega)) ⟨rfl, rfl, rfl, rfl, trivial⟩
    rw [all_take hlt, hgo]; simpa using hb2
  refine At.region rfl rfl ?_
  refine Reg.pur rfl rfl rfl rfl (Pur.asg rfl) ?_
  refine Reg.nil ?_
  refine At.ret rfl Tryd.func107 rfl ?_
  first | exact ⟨⟨_, rfl, by rw [all_of_take hlt (by simpa using hb2)]; simp⟩, hE.trans hE2⟩ | exact ⟨⟨_, rfl, by simp only [decide_eq_false_iff_not] at *; rw [List.take_of_length_le (by omega)] at hgo; rw [hgo]; rfl⟩, hE⟩

theorem containsFuncB_ok {A : Option Addr} {cap : Nat} {L : List Bd} {H : Heap} (hS : Bds H (.slice A L.length cap) L) :
    Ret Tryd.prog 93 [.slice A L.length cap, .func (.func 94) #[] #[]] H (fun v H' => v = .bool (!L.all bindM) ∧ Ext H H') := by
  refine Ret.of_at (N := 9) Tryd.call93 Tryd.func93 rfl rfl rfl ?_
  refine At.region rfl rfl ?_
  refine Reg.pur rfl rfl rfl rfl (Pur.asg rfl) ?_
  refine Reg.nil ?_
  refine At.region rfl rfl ?_
  refine Reg.pur rfl rfl rfl rfl (Pur.mv rfl) ?_
  refine Reg.pur rfl rfl rfl rfl (Pur.mv rfl) ?_
  refine Reg.op rfl rfl rfl rfl (Does.call rfl (indexFuncB_ok hS)) ?_
  rintro _ H1 ⟨⟨r, rfl, hr⟩, hE⟩
  refine Reg.pur rfl rfl rfl rfl (Pur.geq rfl rfl) ?_
  refine Reg.pur rfl rfl rfl rfl (Pur.asg rfl) ?_
  refine Reg.nil ?_
  refine At.ret rfl Tryd.func93 rfl ?_
  exact ⟨congrArg Value.bool hr, hE⟩

theorem bindsMay_ok {A : Option Addr} {cap : Nat} {L : List Bd} {H : Heap} (hS : Bds H (.slice A L.length cap) L) :
    Ret Tryd.prog 72 [.slice A L.length cap] H (fun v H' => v = .bool (bindsM L) ∧ Ext H H') := by
  refine Ret.of_at (N := 11) Tryd.call72 Tryd.func72 rfl rfl rfl ?_
  refine At.region rfl rfl ?_
  refine Reg.pur rfl rfl rfl rfl (Pur.asg rfl) ?_
  refine Reg.nil ?_
  refine At.region rfl rfl ?_
  refine Reg.pur rfl rfl rfl rfl (Pur.mv rfl) ?_
  refine Reg.pur rfl rfl rfl rfl (Pur.lenS isl25 rfl) ?_
  refine Reg.pur rfl rfl rfl rfl (Pur.leq rfl rfl) ?_
  refine Reg.pur rfl rfl rfl rfl (Pur.mv rfl) ?_
  refine Reg.case 6 rfl (fun hc1 => ?_) (fun hc1 => ?_)
  · refine Reg.gpur rfl rfl rfl rfl rfl rfl (Pur.mv rfl) ?_
    refine Reg.gop rfl rfl rfl rfl rfl rfl (Does.call rfl (containsFuncB_ok hS)) ?_
    rintro _ H1 ⟨rfl, hE⟩
    refine Reg.gpur rfl rfl rfl rfl rfl rfl (Pur.not rfl) ?_
    refine Reg.pur rfl rfl rfl rfl (Pur.pickT rfl rfl) ?_
    refine Reg.pur rfl rfl rfl rfl (Pur.asg rfl) ?_
    refine Reg.nil ?_
    refine At.ret rfl Tryd.func72 rfl ?_
    refine ⟨congrArg Value.bool ?_, by first | exact hE | exact Ext.refl _⟩
    unfold bindsM
    simp only [decide_eq_true_eq, decide_eq_false_iff_not] at hc1
    first | (rw [decide_eq_true (p := L.length ≤ 4096) (by omega)]; simp; done) | (rw [decide_eq_false (p := L.length ≤ 4096) (by omega)]; rfl)
  refine Reg.skip rfl rfl rfl rfl rfl rfl rfl ?_
  refine Reg.skip rfl rfl rfl rfl rfl rfl rfl ?_
  refine Reg.skip rfl rfl rfl rfl rfl rfl rfl ?_
  refine Reg.pur rfl rfl rfl rfl (Pur.pickF rfl rfl) ?_
  refine Reg.pur rfl rfl rfl rfl (Pur.asg rfl) ?_
  refine Reg.nil ?_
  refine At.ret rfl Tryd.func72 rfl ?_
  refine ⟨congrArg Value.bool ?_, by first | exact hE | exact Ext.refl _⟩
  unfold bindsM
  simp only [decide_eq_true_eq, decide_eq_false_iff_not] at hc1
  first | (rw [decide_eq_true (p := L.length ≤ 4096) (by omega)]; simp; done) | (rw [decide_eq_false (p := L.length ≤ 4096) (by omega)]; rfl)

def mt (r : Bool) (v : Int) (b : Bd) : Bool := b.isRow == r && decide (b.var = v)
theorem find_ok {A : Option Addr} {cap : Nat} {L : List Bd} {H : Heap} (hS : Bds H (.slice A L.length cap) L) (r : Bool) (n : Int) :
    Ret Tryd.prog 95 [.slice A L.length cap, .bool r, I n] H (fun v H' => H' = H ∧ ∃ a, v = .pointer a ∧ match L.find? (mt r n) with
      | none => a = none
      | some bd => ∃ b o c, a = some ⟨b, o, none⟩ ∧ Blk H b c ∧ (c.drop o).take 8 = encB bd ∧ bd.Ok H ∧ ∃ oa, A = some ⟨b, oa, none⟩) := by
  have hm := hS.max
  refine Ret.of_at (N := 33) Tryd.call95 Tryd.func95 rfl rfl rfl ?_
  refine At.region rfl rfl ?_
  refine Reg.pur rfl rfl rfl rfl (Pur.asg rfl) ?_
  refine Reg.nil ?_
  refine At.region rfl rfl ?_
  refine Reg.pur rfl rfl rfl rfl (Pur.mv rfl) ?_
  refine Reg.pur rfl rfl rfl rfl (Pur.lenS isl25 rfl) ?_
  refine Reg.pur rfl rfl rfl rfl (Pur.mv rfl) ?_
  refine Reg.nil ?_
  refine At.loop (σ := Nat) (fun i => [(10, I i), (9, I L.length), (0, .slice A L.length cap), (1, .bool r), (2, I n)]) (fun i H' => i ≤ L.length ∧ H' = H ∧ (L.drop i).find? (mt r n) = L.find? (mt r n)) (fun i => L.length - i) 0 rfl ⟨rfl, rfl, rfl, rfl, rfl, trivial⟩ ⟨by omega, rfl, rfl⟩ ?_
  rintro i H ⟨hi, rfl, hgo⟩ ih
  refine At.region rfl rfl ?_
  refine Reg.pur rfl rfl rfl rfl (Pur.lss rfl rfl) ?_
  refine Reg.nil ?_
  refine At.cond rfl rfl (fun hb1 => ?_) (fun hb1 => ?_)
  · refine At.region rfl rfl ?_
    refine Reg.pur rfl rfl rfl rfl (Pur.mv rfl) ?_
    refine Reg.pur rfl rfl rfl rfl (Pur.asg rfl) ?_
    refine Reg.nil ?_
    simp only [decide_eq_true_eq] at hb1
    have hlt : i < L.length := by omega
    obtain ⟨b, o, c, rfl, hB, hd, hok⟩ := hS.at hlt
    rw [dropL hlt, List.find?_cons] at hgo
    generalize L[i] = bd at *
    refine At.region rfl rfl ?_
    refine Reg.pur rfl rfl rfl rfl (Pur.mv rfl) ?_
    refine Reg.pur rfl rfl rfl rfl (Pur.mv rfl) ?_
    refine Reg.pur rfl rfl rfl rfl (Pur.idx _ es25 rfl rfl (by omega) hb1) ?_
    refine Reg.pur rfl rfl rfl rfl (Pur.fld _ fo57_1 rfl) ?_
    refine Reg.lod rfl rfl rfl rfl (Lod.ld sc4 rfl hB (at_tk (j := 1) hd (by decide) rfl)) ?_
    refine Reg.pur rfl rfl rfl rfl (Pur.mv rfl) ?_
    refine Reg.pur rfl rfl rfl rfl (Pur.eqB Tryd.underlying4 rfl rfl) ?_
    refine Reg.pur rfl rfl rfl rfl (Pur.mv rfl) ?_
    refine Reg.case 20 rfl (fun hc2 => ?_) (fun hc2 => ?_)
    · refine Reg.gpur rfl rfl rfl rfl rfl rfl (Pur.mv rfl) ?_
      refine Reg.gpur rfl rfl rfl rfl rfl rfl (Pur.mv rfl) ?_
      refine Reg.gpur rfl rfl rfl rfl rfl rfl (Pur.idx _ es25 rfl rfl (by omega) hb1) ?_
      refine Reg.gpur rfl rfl rfl rfl rfl rfl (Pur.fld _ fo57_0 rfl) ?_
      refine Reg.glod rfl rfl rfl rfl rfl rfl (Lod.ld sc3 rfl hB (at_tk (j := 0) hd (by decide) rfl)) ?_
      refine Reg.gpur rfl rfl rfl rfl rfl rfl (Pur.mv rfl) ?_
      refine Reg.gpur rfl rfl rfl rfl rfl rfl (Pur.eql rfl rfl) ?_
      refine Reg.pur rfl rfl rfl rfl (Pur.pickT rfl rfl) ?_
      refine Reg.nil ?_
      refine At.cond rfl rfl (fun hb3 => ?_) (fun hb3 => ?_)
      · refine At.region rfl rfl ?_
        refine Reg.pur rfl rfl rfl rfl (Pur.mv rfl) ?_
        refine Reg.pur rfl rfl rfl rfl (Pur.mv rfl) ?_
        refine Reg.pur rfl rfl rfl rfl (Pur.idx _ es25 rfl rfl (by omega) hb1) ?_
        refine Reg.pur rfl rfl rfl rfl (Pur.asg rfl) ?_
        refine Reg.nil ?_
        refine At.ret rfl Tryd.func95 rfl ?_
        first | (refine ⟨rfl, ?_⟩; rw [← hgo, show mt r n bd = true by simp_all [mt]]; exact ⟨_, rfl, b, _, c, rfl, hB, hd, hok, _, rfl⟩) | (refine ⟨rfl, ?_⟩; simp only [decide_eq_false_iff_not] at hb1; rw [List.drop_of_length_le (by omega)] at hgo; rw [← hgo]; exact ⟨none, rfl, rfl⟩)
      refine At.region rfl rfl ?_
      first | refine Reg.pur rfl rfl rfl rfl (Pur.add64 rfl rfl (by omega)) ?_ | refine Reg.pur rfl rfl rfl rfl (Pur.add64 rfl rfl (by assumption)) ?_ | refine Reg.pur rfl rfl rfl rfl (Pur.add rfl rfl) ?_
      refine Reg.pur rfl rfl rfl rfl (Pur.mv rfl) ?_
      refine Reg.nil ?_
      refine At.via (ih (i + 1) _ ⟨by omega, rfl, ?_⟩ (by omega)) ⟨rfl, rfl, rfl, rfl, rfl, trivial⟩
      rw [← hgo, show mt r n bd = false by simp_all [mt]]
    refine Reg.skip rfl rfl rfl rfl rfl rfl rfl ?_
    refine Reg.skip rfl rfl rfl rfl rfl rfl rfl ?_
    refine Reg.skip rfl rfl rfl rfl rfl rfl rfl ?_
    refine Reg.skip rfl rfl rfl rfl rfl rfl rfl ?_
    refine Reg.skip rfl rfl rfl rfl rfl rfl rfl ?_
    refine Reg.skip rfl rfl rfl rfl rfl rfl rfl ?_
    refine Reg.skip rfl rfl rfl rfl rfl rfl rfl ?_
    refine Reg.pur rfl rfl rfl rfl (Pur.pickF rfl rfl) ?_
    refine Reg.nil ?_
    refine At.condF rfl rfl rfl ?_
    refine At.region rfl rfl ?_
    first | refine Reg.pur rfl rfl rfl rfl (Pur.add64 rfl rfl (by omega)) ?_ | refine Reg.pur rfl rfl rfl rfl (Pur.add64 rfl rfl (by assumption)) ?_ | refine Reg.pur rfl rfl rfl rfl (Pur.add rfl rfl) ?_
    refine Reg.pur rfl rfl rfl rfl (Pur.mv rfl) ?_
    refine Reg.nil ?_
    refine At.via (ih (i + 1) _ ⟨by omega, rfl, ?_⟩ (by omega)) ⟨rfl, rfl, rfl, rfl, rfl, trivial⟩
    rw [← hgo, show mt r n bd = false by simp_all [mt]]
  refine At.region rfl rfl ?_
  refine Reg.pur rfl rfl rfl rfl (Pur.asg rfl) ?_
  refine Reg.nil ?_
  refine At.ret rfl Tryd.func95 rfl ?_
  first | (refine ⟨rfl, ?_⟩; rw [← hgo, show mt r n bd = true by simp_all [mt]]; exact ⟨_, rfl, b, _, c, rfl, hB, hd, hok, _, rfl⟩) | (refine ⟨rfl, ?_⟩; simp only [decide_eq_false_iff_not] at hb1; rw [List.drop_of_length_le (by omega)] at hgo; rw [← hgo]; exact ⟨none, rfl, rfl⟩)
end Go.Proofs.YtlfillhffpiffaaDoor

namespace Go.Proofs.YtlfillhffpiffaaDoor
set_option linter.unusedSimpArgs false
set_option linter.unusedVariables false
set_option maxRecDepth 8000
open Go Go.Fx Go.Proofs
namespace FactsSubC
theorem ag22 : ag Tryd.prog 22 = some 4 := by kernel_rfl
theorem ag24 : ag Tryd.prog 24 = some 5 := by kernel_rfl
theorem arr1_22 : arr1 Tryd.prog 22 = some 4 := by kernel_rfl
theorem arr22 : arr Tryd.prog 22 = some (4, 1) := by kernel_rfl
theorem fo24_0 : foff Tryd.prog 24 0 = some 0 := by kernel_rfl
theorem fo24_1 : foff Tryd.prog 24 1 = some 4 := by kernel_rfl
theorem fo57_3 : foff Tryd.prog 57 3 = some 3 := by kernel_rfl
theorem isPt140 : isPt Tryd.prog 140 = true := by kernel_rfl
theorem pl24 : places Tryd.prog 24 = some [(0, 4), (4, 1)] := by kernel_rfl
theorem sc3 : sc Tryd.prog 3 = true := by kernel_rfl
theorem zc24 : zc Tryd.prog 24 = some [.int .i64 0, .int .i64 0, .int .i64 0, .int .i64 0, .int .i64 0] := by kernel_rfl
end FactsSubC
open FactsSubC

def sm (r b : List Int) (i : Nat) : Int := IntKind.i64.wrap (r.getD i 0 + b.getD i 0)
def sumR (r b : List Int) : List Int := (List.range 4).map (sm r b) ++ [b.getD 4 0]
def sumOk (r b : List Int) : Bool := (List.range 4).all fun i => decide (sm r b i ≤ 32)
def rowS (L : List Bd) (r : List Int) : List Int × Bool :=
  if r.getD 4 0 < 0 then (r, true) else match L.find? (mt true (r.getD 4 0)) with
    | none => (r, true)
    | some bd => if sumOk r bd.row then (sumR r bd.row, true) else (noRow, false)
def mixR (r b : List Int) (i : Nat) : List Int := (List.range 5).map fun j => if j < i then sm r b j else r.getD j 0
theorem mixR_len (r b : List Int) (i : Nat) : (mixR r b i).length = 5 := by simp [mixR]
theorem mixR_0 {r : List Int} (b : List Int) (h : r.length = 5) : mixR r b 0 = r := by
  match r, h with
  | [r0, r1, r2, r3, r4], _ => rfl
theorem mixR_set (r b : List Int) {i : Nat} (h : i < 4) : (mixR r b i).set i (sm r b i) = mixR r b (i + 1) := by
  match i, h with
  | 0, _ => rfl
  | 1, _ => rfl
  | 2, _ => rfl
  | 3, _ => rfl
theorem mixR_at (r b : List Int) {i : Nat} (h : i < 5) : (mixR r b i).getD i 0 = r.getD i 0 := by simp [mixR, h]
theorem mixR_done (r b : List Int) {i : Nat} (h : i < 4) : (mixR r b (i + 1)).getD i 0 = sm r b i := by simp [mixR, show i < 5 by omega]
theorem mixR_end (r b : List Int) : (mixR r b 4).set 4 (b.getD 4 0) = sumR r b := rfl
theorem okTo_step {r b : List Int} {i : Nat} : ((List.range (i + 1)).all fun i => decide (sm r b i ≤ 32)) = (((List.range i).all fun i => decide (sm r b i ≤ 32)) && decide (sm r b i ≤ 32)) := by
  rw [List.range_succ, List.all_append]; simp
theorem not_okTo {r b : List Int} {i : Nat} (hi : i < 4) (h : 32 < sm r b i) : sumOk r b = false := by
  cases hh : sumOk r b with
  | false => rfl
  | true =>
    simp only [sumOk, List.all_eq_true, List.mem_range, decide_eq_true_eq] at hh
    have := hh i hi; omega
theorem at5 {x : List Int} (h : x.length = 5) {j : Nat} (hj : j < 5) : (Is x)[j]? = some (I (x.getD j 0)) := at_Is (by omega)

theorem hb5' {c : List Value} {o : Nat} {bd : Bd} (hd : (c.drop o).take 8 = encB bd) (hbl : bd.row.length = 5) : c[o + 3 + 4]? = some (I (bd.row.getD 4 0)) := by
  rw [Nat.add_assoc]; exact at_tk hd (by omega) (at5 hbl (j := 4) (by omega))
theorem take4_Is {r : List Int} (h : r.length = 5) {i : Nat} (hi : i < 4) : (Is (r.take 4))[i]? = some (I (r.getD i 0)) := by
  match r, h with
  | [a, b, c, d, e], _ =>
    match i, hi with
    | 0, _ => rfl
    | 1, _ => rfl
    | 2, _ => rfl
    | 3, _ => rfl
abbrev RowB (p : List Int × Bool) : Value := .tuple #[.agg (Is p.1).toArray, .bool p.2]

theorem ret_row {L : List Bd} {r : List Int} {p : List Int × Bool} {H H' : Heap} (h : rowS L r = p) (hl : p.1.length = 5) (hE : Ext H H') : tupl [.agg (Is p.1).toArray, .bool p.2] = RowB (rowS L r) ∧ (rowS L r).1.length = 5 ∧ Ext H H' := by
  subst h; exact ⟨rfl, hl, hE⟩
theorem rowS_lo {L : List Bd} {r : List Int} (h : r.getD 4 0 < 0) : rowS L r = (r, true) := by unfold rowS; rw [if_pos h]
theorem rowS_none {L : List Bd} {r : List Int} (h : L.find? (mt true (r.getD 4 0)) = none) : rowS L r = (r, true) := by unfold rowS; rw [h]; split <;> rfl
theorem rowS_bad {L : List Bd} {r : List Int} {bd : Bd} {i : Nat} (h0 : ¬ r.getD 4 0 < 0) (hq : L.find? (mt true (r.getD 4 0)) = some bd) (hi : i < 4) (h : 32 < sm r bd.row i) : rowS L r = (noRow, false) := by
  unfold rowS; rw [if_neg h0, hq]; dsimp only; rw [not_okTo hi h]; rfl
theorem rowS_sum {L : List Bd} {r : List Int} {bd : Bd} (h0 : ¬ r.getD 4 0 < 0) (hq : L.find? (mt true (r.getD 4 0)) = some bd) (h : sumOk r bd.row = true) : rowS L r = (sumR r bd.row, true) := by
  unfold rowS; rw [if_neg h0, hq]; dsimp only; rw [h]; rfl
theorem ofRow_ok {A : Option Addr} {cap : Nat} {L : List Bd} {H : Heap} (hS : Bds H (.slice A L.length cap) L) (r : List Int) (hr : r.length = 5) (ht : -1 ≤ r.getD 4 0) :
    Ret Tryd.prog 96 [.slice A L.length cap, .agg (Is r).toArray] H (fun v H' => v = RowB (rowS L r) ∧ (rowS L r).1.length = 5 ∧ Ext H H') := by
  refine Ret.of_at (N := 51) Tryd.call96 Tryd.func96 rfl rfl rfl ?_
  refine At.region rfl rfl ?_
  refine Reg.op rfl rfl rfl rfl (Does.box rfl rfl) ?_
  rintro _ H1 ⟨rfl, hn1⟩
  refine Reg.op rfl rfl rfl rfl (Does.alloc zc24) ?_
  rintro _ H2 ⟨rfl, hn2⟩
  refine Reg.pur rfl rfl rfl rfl (Pur.asg rfl) ?_
  refine Reg.nil ?_
  have hlt := hn1.own.lt
  have hX := hn1.own.ext hn2.ext
  have hR0 := hn2.own
  have hE2 := hn1.ext.trans hn2.ext
  refine At.region rfl rfl ?_
  refine Reg.pur rfl rfl rfl rfl (Pur.fld _ fo24_1 rfl) ?_
  refine Reg.lod rfl rfl rfl rfl (Lod.ld sc3 rfl hX.blk (at5 hr (by omega))) ?_
  refine Reg.pur rfl rfl rfl rfl (Pur.eql rfl rfl) ?_
  refine Reg.nil ?_
  refine At.cond rfl rfl (fun hb1 => ?_) (fun hb1 => ?_)
  · refine At.region rfl rfl ?_
    refine Reg.lod rfl rfl rfl rfl (Lod.ldn ag24 rfl hX.blk (whole (by simp [hr])) (by simp [hr])) ?_
    refine Reg.op0 rfl rfl rfl (Does.stn ag24 rfl rfl (ones_Is _) (by simp [hr]) hR0 (by simp)) ?_
    rintro _ H3 hu3
    refine Reg.pur rfl rfl rfl rfl (Pur.asg rfl) ?_
    refine Reg.nil ?_
    have hR : Own H3 H1.size (Is r) := by have := hu3.own; rwa [over (by rfl)] at this
    have hE3 := hE2.upd hu3 (by have := hn1.ext.1; omega)
    have hRl : (Is r).length = 5 := by simp [hr]
    refine At.retC rfl Tryd.func96 ⟨_, _, _, _, rfl, rfl, ⟨_, hR.blk, .inr ⟨_, _, ag24, (whole hRl), hRl, rfl⟩⟩, ⟨_, _, rfl, rfl, rfl⟩⟩ ?_
    first | exact ret_row (rowS_lo (by have h1 : r.getD 4 0 = -1 := of_decide_eq_true hb1; omega)) hr hE3 | exact ret_row (rowS_none (by cases hq : L.find? (mt true (r.getD 4 0)) with | none => rfl | some bd => (rw [hq] at hf; obtain ⟨b, o, c, rfl, _⟩ := hf; cases hb2))) hr hE3 | exact ret_row (rowS_bad (by have h1 : ¬ r.getD 4 0 = -1 := of_decide_eq_false hb1; omega) hq hi4 (of_decide_eq_true hb4)) rfl hE7 | exact ret_row (rowS_sum (by have h1 : ¬ r.getD 4 0 = -1 := of_decide_eq_false hb1; omega) hq hgo) rfl hE7
  refine At.region rfl rfl ?_
  refine Reg.pur rfl rfl rfl rfl (Pur.mv rfl) ?_
  refine Reg.pur rfl rfl rfl rfl (Pur.fld _ fo24_1 rfl) ?_
  refine Reg.lod rfl rfl rfl rfl (Lod.ld sc3 rfl hX.blk (at5 hr (by omega))) ?_
  refine Reg.op rfl rfl rfl rfl (Does.call rfl (find_ok (hS.ext hE2) true (r.getD 4 0))) ?_
  rintro _ H2 ⟨rfl, a, rfl, hf⟩
  refine Reg.pur rfl rfl rfl rfl (Pur.asg rfl) ?_
  refine Reg.nil ?_
  refine At.region rfl rfl ?_
  refine Reg.pur rfl rfl rfl rfl (Pur.mv rfl) ?_
  refine Reg.pur rfl rfl rfl rfl (Pur.eqPN isPt140 rfl rfl) ?_
  refine Reg.nil ?_
  refine At.cond rfl rfl (fun hb2 => ?_) (fun hb2 => ?_)
  · refine At.region rfl rfl ?_
    refine Reg.lod rfl rfl rfl rfl (Lod.ldn ag24 rfl hX.blk (whole (by simp [hr])) (by simp [hr])) ?_
    refine Reg.op0 rfl rfl rfl (Does.stn ag24 rfl rfl (ones_Is _) (by simp [hr]) hR0 (by simp)) ?_
    rintro _ H3 hu3
    refine Reg.pur rfl rfl rfl rfl (Pur.asg rfl) ?_
    refine Reg.nil ?_
    have hR : Own H3 H1.size (Is r) := by have := hu3.own; rwa [over (by rfl)] at this
    have hE3 := hE2.upd hu3 (by have := hn1.ext.1; omega)
    have hRl : (Is r).length = 5 := by simp [hr]
    refine At.retC rfl Tryd.func96 ⟨_, _, _, _, rfl, rfl, ⟨_, hR.blk, .inr ⟨_, _, ag24, (whole hRl), hRl, rfl⟩⟩, ⟨_, _, rfl, rfl, rfl⟩⟩ ?_
    first | exact ret_row (rowS_lo (by have h1 : r.getD 4 0 = -1 := of_decide_eq_true hb1; omega)) hr hE3 | exact ret_row (rowS_none (by cases hq : L.find? (mt true (r.getD 4 0)) with | none => rfl | some bd => (rw [hq] at hf; obtain ⟨b, o, c, rfl, _⟩ := hf; cases hb2))) hr hE3 | exact ret_row (rowS_bad (by have h1 : ¬ r.getD 4 0 = -1 := of_decide_eq_false hb1; omega) hq hi4 (of_decide_eq_true hb4)) rfl hE7 | exact ret_row (rowS_sum (by have h1 : ¬ r.getD 4 0 = -1 := of_decide_eq_false hb1; omega) hq hgo) rfl hE7
  obtain ⟨bd, hq, b, o, c, rfl, hB, hd, hok, oa, rfl⟩ : ∃ bd, L.find? (mt true (r.getD 4 0)) = some bd ∧ ∃ b o c, a = some ⟨b, o, none⟩ ∧ Blk H2 b c ∧ (c.drop o).take 8 = encB bd ∧ bd.Ok H2 ∧ ∃ oa, A = some ⟨b, oa, none⟩ := by
    cases hq : L.find? (mt true (r.getD 4 0)) with
    | none => rw [hq] at hf; subst hf; cases hb2
    | some bd => rw [hq] at hf; exact ⟨bd, rfl, hf⟩
  have hbl := hok.row
  have hb0 := hS.lt (by cases L with | nil => cases hq | cons _ _ => simp)
  have hlt2 := hn1.ext.1
  refine At.region rfl rfl ?_
  refine Reg.pur rfl rfl rfl rfl (Pur.mv rfl) ?_
  refine Reg.pur rfl rfl rfl rfl (Pur.nilc rfl) ?_
  refine Reg.pur rfl rfl rfl rfl (Pur.fld _ fo57_3 rfl) ?_
  refine Reg.pur rfl rfl rfl rfl (Pur.fld _ fo24_0 rfl) ?_
  refine Reg.lod rfl rfl rfl rfl (Lod.ldn ag22 rfl hB (show _ = Is (bd.row.take 4) by rw [Nat.add_zero, ← List.drop_drop, take_mid hd (by decide)]; simp [encB, Is, List.map_take]) (by simp [hbl])) ?_
  refine Reg.pur rfl rfl rfl rfl (Pur.mv rfl) ?_
  refine Reg.nil ?_
  refine At.loop (σ := Nat) (fun i => [(25, I i), (24, .agg (Is (bd.row.take 4)).toArray), (3, ptr H.size 0), (4, ptr H1.size 0), (6, ptr b o)]) (fun i H' => i ≤ 4 ∧ Own H' H.size (Is (mixR r bd.row i)) ∧ Own H' H1.size (Is noRow) ∧ Blk H' b c ∧ Ext H H' ∧ ((List.range i).all fun i => decide (sm r bd.row i ≤ 32)) = true) (fun i => 4 - i) 0 rfl ⟨rfl, rfl, rfl, rfl, rfl, trivial⟩ ⟨by omega, by rw [mixR_0 _ hr]; exact hX, hR0, hB, hE2, rfl⟩ ?_
  rintro i H5 ⟨hi, hX, hR0, hB, hE, hgo⟩ ih
  refine At.region rfl rfl ?_
  refine Reg.pur rfl rfl rfl rfl (Pur.lss rfl rfl) ?_
  refine Reg.nil ?_
  refine At.cond rfl rfl (fun hb3 => ?_) (fun hb3 => ?_)
  · simp only [decide_eq_true_eq] at hb3
    have hi4 : i < 4 := by omega
    have hai : (Is (bd.row.take 4))[(i : Int).toNat]? = some (I (bd.row.getD i 0)) := by
      exact take4_Is hbl hi4
    refine At.region rfl rfl ?_
    refine Reg.pur rfl rfl rfl rfl (Pur.mv rfl) ?_
    refine Reg.pur rfl rfl rfl rfl (Pur.ixA arr1_22 rfl rfl (by omega) (by omega) hai) ?_
    refine Reg.pur rfl rfl rfl rfl (Pur.asg rfl) ?_
    refine Reg.pur rfl rfl rfl rfl (Pur.asg rfl) ?_
    refine Reg.nil ?_
    have e0 : 0 + 0 + (i : Int).toNat * 1 = i := by omega
    have hri : (Is (mixR r bd.row i))[0 + 0 + (i : Int).toNat * 1]? = some (I (r.getD i 0)) := by rw [e0, ← mixR_at r bd.row (show i < 5 by omega)]; exact at5 (mixR_len _ _ _) (by omega)
    refine At.region rfl rfl ?_
    refine Reg.pur rfl rfl rfl rfl (Pur.mv rfl) ?_
    refine Reg.pur rfl rfl rfl rfl (Pur.fld _ fo24_0 rfl) ?_
    refine Reg.pur rfl rfl rfl rfl (Pur.idxP arr22 rfl rfl (by omega) (by omega)) ?_
    refine Reg.lod rfl rfl rfl rfl (Lod.ld sc3 rfl hX.blk hri) ?_
    refine Reg.pur rfl rfl rfl rfl (Pur.mv rfl) ?_
    first | refine Reg.pur rfl rfl rfl rfl (Pur.add64 rfl rfl (by omega)) ?_ | refine Reg.pur rfl rfl rfl rfl (Pur.add64 rfl rfl (by assumption)) ?_ | refine Reg.pur rfl rfl rfl rfl (Pur.add rfl rfl) ?_
    refine Reg.pur rfl rfl rfl rfl (Pur.fld _ fo24_0 rfl) ?_
    refine Reg.pur rfl rfl rfl rfl (Pur.idxP arr22 rfl rfl (by omega) (by omega)) ?_
    refine Reg.op0 rfl rfl rfl (Does.st sc3 rfl rfl rfl hX (by rw [e0]; simp [mixR_len]; omega)) ?_
    rintro _ H6 hu6
    refine Reg.nil ?_
    have hX : Own H6 H.size (Is (mixR r bd.row (i + 1))) := by have := hu6.own; rw [e0] at this; rw [← mixR_set _ _ hi4, ← Is_set]; exact this
    have hR0 := hR0.upd hu6 (by omega)
    have hB := hB.upd hu6 (by omega)
    have hE := hE.upd hu6 (Nat.le_refl _)
    have hrd : (Is (mixR r bd.row (i + 1)))[0 + 0 + (i : Int).toNat * 1]? = some (I (sm r bd.row i)) := by rw [e0, ← mixR_done r bd.row hi4]; exact at5 (mixR_len _ _ _) (by omega)
    refine At.region rfl rfl ?_
    refine Reg.pur rfl rfl rfl rfl (Pur.mv rfl) ?_
    refine Reg.pur rfl rfl rfl rfl (Pur.fld _ fo24_0 rfl) ?_
    refine Reg.pur rfl rfl rfl rfl (Pur.idxP arr22 rfl rfl (by omega) (by omega)) ?_
    refine Reg.lod rfl rfl rfl rfl (Lod.ld sc3 rfl hX.blk hrd) ?_
    refine Reg.pur rfl rfl rfl rfl (Pur.gtr rfl rfl) ?_
    refine Reg.nil ?_
    refine At.cond rfl rfl (fun hb4 => ?_) (fun hb4 => ?_)
    · refine At.region rfl rfl ?_
      refine Reg.pur rfl rfl rfl rfl (Pur.bld (cs := [_, _, _, _, _]) pl24 zc24 rfl rfl ⟨rfl, rfl, rfl, rfl, rfl, rfl⟩) ?_
      refine Reg.op0 rfl rfl rfl (Does.stn ag24 rfl rfl rfl rfl hR0 (by simp)) ?_
      rintro _ H7 hu7
      refine Reg.pur rfl rfl rfl rfl (Pur.asg rfl) ?_
      refine Reg.nil ?_
      have hR : Own H7 H1.size (Is noRow) := hu7.own
      have hE7 := hE.upd hu7 (by omega)
      have hRl : (Is noRow).length = 5 := rfl
      refine At.retC rfl Tryd.func96 ⟨_, _, _, _, rfl, rfl, ⟨_, hR.blk, .inr ⟨_, _, ag24, (whole hRl), hRl, rfl⟩⟩, ⟨_, _, rfl, rfl, rfl⟩⟩ ?_
      first | exact ret_row (rowS_lo (by have h1 : r.getD 4 0 = -1 := of_decide_eq_true hb1; omega)) hr hE3 | exact ret_row (rowS_none (by cases hq : L.find? (mt true (r.getD 4 0)) with | none => rfl | some bd => (rw [hq] at hf; obtain ⟨b, o, c, rfl, _⟩ := hf; cases hb2))) hr hE3 | exact ret_row (rowS_bad (by have h1 : ¬ r.getD 4 0 = -1 := of_decide_eq_false hb1; omega) hq hi4 (of_decide_eq_true hb4)) rfl hE7 | exact ret_row (rowS_sum (by have h1 : ¬ r.getD 4 0 = -1 := of_decide_eq_false hb1; omega) hq hgo) rfl hE7
    refine At.region rfl rfl ?_
    first | refine Reg.pur rfl rfl rfl rfl (Pur.add64 rfl rfl (by omega)) ?_ | refine Reg.pur rfl rfl rfl rfl (Pur.add64 rfl rfl (by assumption)) ?_ | refine Reg.pur rfl rfl rfl rfl (Pur.add rfl rfl) ?_
    refine Reg.pur rfl rfl rfl rfl (Pur.mv rfl) ?_
    refine Reg.nil ?_
    simp only [decide_eq_false_iff_not] at hb4
    refine At.via (ih (i + 1) _ ⟨by omega, hX, hR0, hB, hE, ?_⟩ (by omega)) ⟨rfl, rfl, rfl, rfl, rfl, trivial⟩
    rw [okTo_step, hgo, decide_eq_true (by omega)]; rfl
  simp only [decide_eq_false_iff_not] at hb3
  obtain rfl : i = 4 := by omega
  refine At.region rfl rfl ?_
  refine Reg.pur rfl rfl rfl rfl (Pur.mv rfl) ?_
  refine Reg.pur rfl rfl rfl rfl (Pur.nilc rfl) ?_
  refine Reg.pur rfl rfl rfl rfl (Pur.fld _ fo57_3 rfl) ?_
  refine Reg.pur rfl rfl rfl rfl (Pur.fld _ fo24_1 rfl) ?_
  refine Reg.lod rfl rfl rfl rfl (Lod.ld sc3 rfl hB (hb5' hd hbl)) ?_
  refine Reg.pur rfl rfl rfl rfl (Pur.fld _ fo24_1 rfl) ?_
  refine Reg.op0 rfl rfl rfl (Does.st sc3 rfl rfl rfl hX (by simp [mixR_len])) ?_
  rintro _ H6 hu6
  refine Reg.nil ?_
  have hX : Own H6 H.size (Is (sumR r bd.row)) := by have := hu6.own; rw [← mixR_end, ← Is_set]; exact this
  have hR0 := hR0.upd hu6 (by omega)
  have hE := hE.upd hu6 (Nat.le_refl _)
  refine At.region rfl rfl ?_
  refine Reg.lod rfl rfl rfl rfl (Lod.ldn ag24 rfl hX.blk (whole rfl) rfl) ?_
  refine Reg.op0 rfl rfl rfl (Does.stn ag24 rfl rfl (ones_Is _) rfl hR0 (by simp)) ?_
  rintro _ H7 hu7
  refine Reg.pur rfl rfl rfl rfl (Pur.asg rfl) ?_
  refine Reg.nil ?_
  have hR : Own H7 H1.size (Is (sumR r bd.row)) := by have := hu7.own; rwa [over (by rfl)] at this
  have hE7 := hE.upd hu7 (by omega)
  have hRl : (Is (sumR r bd.row)).length = 5 := rfl
  refine At.retC rfl Tryd.func96 ⟨_, _, _, _, rfl, rfl, ⟨_, hR.blk, .inr ⟨_, _, ag24, (whole hRl), hRl, rfl⟩⟩, ⟨_, _, rfl, rfl, rfl⟩⟩ ?_
  first | exact ret_row (rowS_lo (by have h1 : r.getD 4 0 = -1 := of_decide_eq_true hb1; omega)) hr hE3 | exact ret_row (rowS_none (by cases hq : L.find? (mt true (r.getD 4 0)) with | none => rfl | some bd => (rw [hq] at hf; obtain ⟨b, o, c, rfl, _⟩ := hf; cases hb2))) hr hE3 | exact ret_row (rowS_bad (by have h1 : ¬ r.getD 4 0 = -1 := of_decide_eq_false hb1; omega) hq hi4 (of_decide_eq_true hb4)) rfl hE7 | exact ret_row (rowS_sum (by have h1 : ¬ r.getD 4 0 = -1 := of_decide_eq_false hb1; omega) hq hgo) rfl hE7
end Go.Proofs.YtlfillhffpiffaaDoor

namespace Go.Proofs.YtlfillhffpiffaaDoor
set_option linter.unusedSimpArgs false
set_option linter.unusedVariables false
set_option maxRecDepth 8000
open Go Go.Fx Go.Proofs
namespace FactsSubE
theorem apt53 : appT Tryd.prog 53 = some (65, 9, 72) := by kernel_rfl
theorem isSlN53 : isSl' Tryd.prog 53 = true := by kernel_rfl
theorem slA53 : slA Tryd.prog 53 = some (65, 9) := by kernel_rfl
end FactsSubE
open FactsSubE

theorem flat_set : ∀ {M : List (List Int)} (hM : Nine M) {i j : Nat} (hi : i < M.length) (hj : j < 9) (v : Int), (M.flatMap Is).set (i * 9 + j) (I v) = (M.set i ((M.getD i []).set j v)).flatMap Is
  | [], _, _, _, hi, _, _ => by simp at hi
  | x :: M, hM, 0, j, _, hj, v => by
    have h9 : x.length = 9 := hM x List.mem_cons_self
    rw [List.flatMap_cons, List.set_cons_zero, List.flatMap_cons, Nat.zero_mul, Nat.zero_add, List.set_append_left _ _ (by simp [h9]; omega), Is_set]
    rfl
  | x :: M, hM, i + 1, j, hi, hj, v => by
    have h9 : x.length = 9 := hM x List.mem_cons_self
    have ih := flat_set (M := M) (fun y hy => hM y (List.mem_cons_of_mem _ hy)) (i := i) (by simpa using hi) hj v
    rw [List.flatMap_cons, List.set_cons_succ, List.flatMap_cons, List.set_append_right _ _ (by simp [h9]; omega), show (i + 1) * 9 + j - (Is x).length = i * 9 + j by simp [h9]; omega, ih]
    rfl

theorem cloneT_ok {A : Option Addr} {cap : Nat} {L : List (List Int)} (hL : Nine L) {H : Heap} (hS : SlT H Is 9 (.slice A L.length cap) L) (hb : L.length * 72 ≤ 140737488351232) :
    Ret Tryd.prog 106 [.slice A L.length cap] H (fun v H' => OwnS H' H.size 65 9 v L.length (L.flatMap Is) ∧ Ext H H') := by
  refine Ret.of_at (N := 8) Tryd.call106 Tryd.func106 rfl rfl rfl ?_
  refine At.region rfl rfl ?_
  refine Reg.pur rfl rfl rfl rfl (Pur.asg rfl) ?_
  refine Reg.nil ?_
  refine At.region rfl rfl ?_
  refine Reg.pur rfl rfl rfl rfl (Pur.mv rfl) ?_
  refine Reg.pur rfl rfl rfl rfl (Pur.eqSN isSlN53 rfl rfl) ?_
  refine Reg.nil ?_
  refine At.cond rfl rfl (fun hb1 => ?_) (fun hb1 => ?_)
  · refine At.region rfl rfl ?_
    refine Reg.pur rfl rfl rfl rfl (Pur.asg rfl) ?_
    refine Reg.nil ?_
    refine At.ret rfl Tryd.func106 rfl ?_
    first | (refine ⟨by simpa using ho, ?_⟩; exact (New.of_push (xs := []).ext).trBut hbut (fun b hb h => by simp only [Value.ownBlock, Option.some.injEq] at h; omega)) | (obtain ⟨A', cap', e, h1, _, h0, _⟩ := hS; cases e; have hA : A = none := by { cases A with | none => rfl | some _ => cases hb1 }; have hc := h0 hA; have hl : L = [] := List.length_eq_zero_iff.1 (by omega); subst hl; exact ⟨OwnS.nil _ _ _ _, Ext.refl _⟩)
  refine At.region rfl rfl ?_
  refine Reg.op rfl rfl rfl rfl (Does.bslA ([]) slA53 rfl rfl rfl rfl rfl rfl) ?_
  rintro _ H1 ⟨rfl, rfl⟩
  refine Reg.pur rfl rfl rfl rfl (Pur.mv rfl) ?_
  refine Reg.op rfl rfl rfl rfl (Does.app apt53 rfl rfl (OwnS.new (xs := []) (n := 0) (H := H) (B := H.size) rfl (by decide) (Nat.le_refl _)) (sl_src (wide9 hL) (hS.ext New.of_push.ext)) (ones_flat L) (by rw [show maxLen = 9223372036854775807 from rfl]; omega) (by omega) (by simp)) ?_
  rintro v H2 ⟨ho, hbut, _, _⟩
  refine Reg.pur rfl rfl rfl rfl (Pur.asg rfl) ?_
  refine Reg.nil ?_
  refine At.ret rfl Tryd.func106 rfl ?_
  first | (refine ⟨by simpa using ho, ?_⟩; exact (New.of_push (xs := []).ext).trBut hbut (fun b hb h => by simp only [Value.ownBlock, Option.some.injEq] at h; omega)) | (obtain ⟨A', cap', e, h1, _, h0, _⟩ := hS; cases e; have hA : A = none := by { cases A with | none => rfl | some _ => cases hb1 }; have hc := h0 hA; have hl : L = [] := List.length_eq_zero_iff.1 (by omega); subst hl; exact ⟨OwnS.nil _ _ _ _, Ext.refl _⟩)
end Go.Proofs.YtlfillhffpiffaaDoor

namespace Go.Proofs.YtlfillhffpiffaaDoor
set_option linter.unusedSimpArgs false
set_option linter.unusedVariables false
set_option maxRecDepth 8000
open Go Go.Fx Go.Proofs
namespace FactsSubF
theorem es53 : esz Tryd.prog 53 = some 9 := by kernel_rfl
theorem fo65_0 : foff Tryd.prog 65 0 = some 0 := by kernel_rfl
theorem fo65_2 : foff Tryd.prog 65 2 = some 2 := by kernel_rfl
theorem fo65_3 : foff Tryd.prog 65 3 = some 3 := by kernel_rfl
theorem isl53 : isSl Tryd.prog 53 = true := by kernel_rfl
theorem sc3 : sc Tryd.prog 3 = true := by kernel_rfl
end FactsSubF
open FactsSubF

def movS (by' : Int) (x : List Int) : List Int := if x.getD 0 0 = 3 then (x.set 2 (IntKind.i64.wrap (x.getD 2 0 + by'))).set 3 (IntKind.i64.wrap (x.getD 3 0 + by')) else x
theorem movS_len (by' : Int) (x : List Int) : (movS by' x).length = x.length := by unfold movS; split <;> simp
theorem nine_mov {by' : Int} {L : List (List Int)} (h : Nine L) : Nine (L.map (movS by')) := by
  intro x hx
  obtain ⟨y, hy, rfl⟩ := List.mem_map.1 hx
  rw [movS_len]; exact h y hy
def mid (by' : Int) (L : List (List Int)) (i : Nat) : List (List Int) := (L.take i).map (movS by') ++ L.drop i
theorem mid_len (by' : Int) (L : List (List Int)) (i : Nat) : (mid by' L i).length = L.length := by
  unfold mid; simp; omega
theorem mid_nine {by' : Int} {L : List (List Int)} (h : Nine L) (i : Nat) : Nine (mid by' L i) := by
  intro x hx
  unfold mid at hx
  rcases List.mem_append.1 hx with hx | hx
  · exact nine_mov (fun y hy => h y (List.mem_of_mem_take hy)) x hx
  · exact h x (List.mem_of_mem_drop hx)
theorem mid_get (by' : Int) {L : List (List Int)} {i : Nat} (h : i < L.length) : (mid by' L i).getD i [] = L[i] := by
  unfold mid
  rw [List.getD_eq_getElem?_getD, List.getElem?_append_right (by simp; omega)]
  simp [Nat.min_eq_left (Nat.le_of_lt h), List.getElem?_eq_getElem h]
theorem mid_set (by' : Int) {L : List (List Int)} {i : Nat} (h : i < L.length) : (mid by' L i).set i (movS by' L[i]) = mid by' L (i + 1) := by
  unfold mid
  rw [List.set_append_right _ _ (by simp; omega), List.take_succ_eq_append_getElem h, List.map_append, List.append_assoc]
  congr 1
  simp only [List.length_map, List.length_take, Nat.min_eq_left (Nat.le_of_lt h), Nat.sub_self]
  rw [dropL h]; rfl
theorem mid_same (by' : Int) {L : List (List Int)} {i : Nat} (h : i < L.length) (hm : movS by' L[i] = L[i]) : mid by' L (i + 1) = mid by' L i := by
  unfold mid
  rw [List.take_succ_eq_append_getElem h, List.map_append, List.append_assoc, dropL h]
  simp only [List.map_cons, List.map_nil, hm, List.singleton_append]
theorem mid_all (by' : Int) (L : List (List Int)) {i : Nat} (h : L.length ≤ i) : mid by' L i = L.map (movS by') := by
  unfold mid; rw [List.take_of_length_le h, List.drop_of_length_le h, List.append_nil]
theorem rd {c : List Value} {M : List (List Int)} {n i j : Nat} (h : c.take (n * 9) = M.flatMap Is) (hM : Nine M) (hl : M.length = n) (hi : i < n) (hj : j < 9) : c[0 + (i : Int).toNat * 9 + j]? = some (I ((M.getD i []).getD j 0)) := by
  subst hl
  have h1 : (c.drop (i * 9)).take 9 = Is M[i] := by rw [take_mid h (by omega)]; exact flat_at M i (wide9 hM) hi
  have h2 : M.getD i [] = M[i] := by simp [List.getD_eq_getElem?_getD, List.getElem?_eq_getElem hi]
  rw [h2, Nat.zero_add]
  exact at_tk h1 hj (at_Is (by rw [hM _ (List.getElem_mem hi)]; exact hj))
theorem wr {c : List Value} {M : List (List Int)} {n i j : Nat} (h : c.take (n * 9) = M.flatMap Is) (hM : Nine M) (hl : M.length = n) (hi : i < n) (hj : j < 9) (v : Int) : (c.set (0 + (i : Int).toNat * 9 + j) (I v)).take (n * 9) = (M.set i ((M.getD i []).set j v)).flatMap Is := by
  subst hl
  rw [Nat.zero_add, List.take_set, h]
  exact flat_set hM hi hj v
theorem len_of {c : List Value} {M : List (List Int)} {n : Nat} (h : c.take (n * 9) = M.flatMap Is) (hM : Nine M) (hl : M.length = n) : n * 9 ≤ c.length := by
  have := congrArg List.length h
  rw [List.length_take, flat_len (wide9 hM), hl] at this; omega
theorem nine_set {M : List (List Int)} (hM : Nine M) (i j : Nat) (v : Int) : Nine (M.set i ((M.getD i []).set j v)) := by
  intro x hx
  by_cases hi : i < M.length
  · rcases List.mem_or_eq_of_mem_set hx with h | h
    · exact hM x h
    · subst h
      rw [List.length_set, List.getD_eq_getElem?_getD, List.getElem?_eq_getElem hi]; exact hM _ (List.getElem_mem hi)
  · rw [List.set_eq_of_length_le (by omega)] at hx; exact hM x hx

theorem moved_ok {A : Option Addr} {cap : Nat} {L : List (List Int)} (hL : Nine L) {H : Heap} (hS : SlT H Is 9 (.slice A L.length cap) L) (hb : L.length * 72 ≤ 140737488351232) (by' : Int) :
    Ret Tryd.prog 92 [.slice A L.length cap, I by'] H (fun v H' => (∃ A' cap', v = .slice A' L.length cap' ∧ (L.length = 0 ∨ ∃ g, H.size ≤ g ∧ A' = some ⟨g, 0, none⟩)) ∧ SlT H' Is 9 v (L.map (movS by')) ∧ Ext H H') := by
  refine Ret.of_at (N := 40) Tryd.call92 Tryd.func92 rfl rfl rfl ?_
  refine At.region rfl rfl ?_
  refine Reg.pur rfl rfl rfl rfl (Pur.asg rfl) ?_
  refine Reg.nil ?_
  refine At.region rfl rfl ?_
  refine Reg.pur rfl rfl rfl rfl (Pur.mv rfl) ?_
  refine Reg.op rfl rfl rfl rfl (Does.call rfl (cloneT_ok hL hS hb)) ?_
  rintro v H1 ⟨ho, hE1⟩
  refine Reg.pur rfl rfl rfl rfl (Pur.asg rfl) ?_
  refine Reg.nil ?_
  obtain ⟨A', cap', rfl, hc1, hc2, hc3, g, c0, hg⟩ : ∃ A' cap', v = .slice A' L.length cap' ∧ L.length ≤ cap' ∧ cap' ≤ maxLen ∧ (A' = none → cap' = 0) ∧ ∃ g c, L.length = 0 ∨ (H.size ≤ g ∧ A' = some ⟨g, 0, none⟩ ∧ Own H1 g c ∧ c.take (L.length * 9) = (mid by' L 0).flatMap Is) := by
    obtain ⟨_, ⟨rfl, h0⟩ | ⟨g, cap, cur, rfl, h2, h3, h4, h5, h6, h7⟩⟩ := ho
    · exact ⟨none, 0, by rw [h0], by omega, by decide, fun _ => rfl, 0, [], .inl h0⟩
    · exact ⟨_, cap, rfl, h4, h5, (fun h => by cases h), g, cur.toList, .inr ⟨h2, rfl, ⟨_, by simpa using h3⟩, h7⟩⟩
  refine At.region rfl rfl ?_
  refine Reg.pur rfl rfl rfl rfl (Pur.mv rfl) ?_
  refine Reg.pur rfl rfl rfl rfl (Pur.lenS isl53 rfl) ?_
  refine Reg.pur rfl rfl rfl rfl (Pur.mv rfl) ?_
  refine Reg.nil ?_
  refine At.loop (σ := Nat × List Value) (fun s => [(11, I s.1), (10, I L.length), (5, .slice A' L.length cap'), (1, I by')]) (fun s H' => s.1 ≤ L.length ∧ Ext H H' ∧ (L.length = 0 ∨ (H.size ≤ g ∧ A' = some ⟨g, 0, none⟩ ∧ Own H' g s.2 ∧ s.2.take (L.length * 9) = (mid by' L s.1).flatMap Is))) (fun s => L.length - s.1) (0, c0) rfl ⟨rfl, rfl, rfl, rfl, trivial⟩ ⟨by omega, hE1, hg⟩ ?_
  clear hg ho
  rintro ⟨i, c⟩ H2 ⟨hi, hE, hI⟩ ih
  dsimp only at hi hE hI ⊢
  refine At.region rfl rfl ?_
  refine Reg.pur rfl rfl rfl rfl (Pur.lss rfl rfl) ?_
  refine Reg.nil ?_
  refine At.cond rfl rfl (fun hb1 => ?_) (fun hb1 => ?_)
  · refine At.region rfl rfl ?_
    refine Reg.pur rfl rfl rfl rfl (Pur.mv rfl) ?_
    refine Reg.pur rfl rfl rfl rfl (Pur.asg rfl) ?_
    refine Reg.nil ?_
    simp only [decide_eq_true_eq] at hb1
    have hlt : i < L.length := by omega
    obtain ⟨hgH, rfl, hO, htk⟩ := hI.resolve_left (by omega)
    have hN := mid_nine (by' := by') hL i
    have hln := mid_len by' L i
    have hcl := len_of htk hN hln
    have r0 := rd htk hN hln hlt (j := 0) (by omega)
    have r2 := rd htk hN hln hlt (j := 2) (by omega)
    have hx9 := hL _ (List.getElem_mem hlt)
    have hms := mid_set by' hlt
    rw [mid_get by' hlt] at r0 r2
    refine At.region rfl rfl ?_
    refine Reg.pur rfl rfl rfl rfl (Pur.mv rfl) ?_
    refine Reg.pur rfl rfl rfl rfl (Pur.mv rfl) ?_
    refine Reg.pur rfl rfl rfl rfl (Pur.idx _ es53 rfl rfl (by omega) hb1) ?_
    refine Reg.pur rfl rfl rfl rfl (Pur.fld _ fo65_0 rfl) ?_
    refine Reg.lod rfl rfl rfl rfl (Lod.ld sc3 rfl hO.blk r0) ?_
    refine Reg.pur rfl rfl rfl rfl (Pur.eql rfl rfl) ?_
    refine Reg.nil ?_
    refine At.cond rfl rfl (fun hb2 => ?_) (fun hb2 => ?_)
    · refine At.region rfl rfl ?_
      refine Reg.pur rfl rfl rfl rfl (Pur.mv rfl) ?_
      refine Reg.pur rfl rfl rfl rfl (Pur.mv rfl) ?_
      refine Reg.pur rfl rfl rfl rfl (Pur.idx _ es53 rfl rfl (by omega) (by omega)) ?_
      refine Reg.pur rfl rfl rfl rfl (Pur.fld _ fo65_2 rfl) ?_
      refine Reg.lod rfl rfl rfl rfl (Lod.ld sc3 rfl hO.blk r2) ?_
      refine Reg.pur rfl rfl rfl rfl (Pur.mv rfl) ?_
      first | refine Reg.pur rfl rfl rfl rfl (Pur.add64 rfl rfl (by omega)) ?_ | refine Reg.pur rfl rfl rfl rfl (Pur.add64 rfl rfl (by assumption)) ?_ | refine Reg.pur rfl rfl rfl rfl (Pur.add rfl rfl) ?_
      refine Reg.pur rfl rfl rfl rfl (Pur.idx _ es53 rfl rfl (by omega) (by omega)) ?_
      refine Reg.pur rfl rfl rfl rfl (Pur.fld _ fo65_2 rfl) ?_
      refine Reg.op0 rfl rfl rfl (Does.st sc3 rfl rfl rfl hO (by omega)) ?_
      rintro _ H3 hu3
      refine Reg.nil ?_
      have t3 := wr htk hN hln hlt (j := 2) (by omega) (IntKind.i64.wrap (L[i].getD 2 0 + by'))
      have N3 := nine_set hN i 2 (IntKind.i64.wrap (L[i].getD 2 0 + by'))
      have l3 : ((mid by' L i).set i (((mid by' L i).getD i []).set 2 (IntKind.i64.wrap (L[i].getD 2 0 + by')))).length = L.length := by rw [List.length_set]; exact hln
      have g3 : ((mid by' L i).set i (((mid by' L i).getD i []).set 2 (IntKind.i64.wrap (L[i].getD 2 0 + by')))).getD i [] = L[i].set 2 (IntKind.i64.wrap (L[i].getD 2 0 + by')) := by rw [mid_get by' hlt, List.getD_eq_getElem?_getD, List.getElem?_set]; simp [hln, hlt]
      have r3 := rd t3 N3 l3 hlt (j := 3) (by omega)
      rw [g3, show (L[i].set 2 (IntKind.i64.wrap (L[i].getD 2 0 + by'))).getD 3 0 = L[i].getD 3 0 by simp [List.getD_eq_getElem?_getD, List.getElem?_set]] at r3
      refine At.region rfl rfl ?_
      refine Reg.pur rfl rfl rfl rfl (Pur.mv rfl) ?_
      refine Reg.pur rfl rfl rfl rfl (Pur.mv rfl) ?_
      refine Reg.pur rfl rfl rfl rfl (Pur.idx _ es53 rfl rfl (by omega) (by omega)) ?_
      refine Reg.pur rfl rfl rfl rfl (Pur.fld _ fo65_3 rfl) ?_
      refine Reg.lod rfl rfl rfl rfl (Lod.ld sc3 rfl hu3.own.blk r3) ?_
      refine Reg.pur rfl rfl rfl rfl (Pur.mv rfl) ?_
      first | refine Reg.pur rfl rfl rfl rfl (Pur.add64 rfl rfl (by omega)) ?_ | refine Reg.pur rfl rfl rfl rfl (Pur.add64 rfl rfl (by assumption)) ?_ | refine Reg.pur rfl rfl rfl rfl (Pur.add rfl rfl) ?_
      refine Reg.pur rfl rfl rfl rfl (Pur.idx _ es53 rfl rfl (by omega) (by omega)) ?_
      refine Reg.pur rfl rfl rfl rfl (Pur.fld _ fo65_3 rfl) ?_
      refine Reg.op0 rfl rfl rfl (Does.st sc3 rfl rfl rfl hu3.own (by rw [List.length_set]; omega)) ?_
      rintro _ H4 hu4
      refine Reg.nil ?_
      have t4 := wr t3 N3 l3 hlt (j := 3) (by omega) (IntKind.i64.wrap (L[i].getD 3 0 + by'))
      refine At.region rfl rfl ?_
      first | refine Reg.pur rfl rfl rfl rfl (Pur.add64 rfl rfl (by omega)) ?_ | refine Reg.pur rfl rfl rfl rfl (Pur.add64 rfl rfl (by assumption)) ?_ | refine Reg.pur rfl rfl rfl rfl (Pur.add rfl rfl) ?_
      refine Reg.pur rfl rfl rfl rfl (Pur.mv rfl) ?_
      refine Reg.nil ?_
      first | (rw [g3, List.set_set, show (L[i].set 2 (IntKind.i64.wrap (L[i].getD 2 0 + by'))).set 3 (IntKind.i64.wrap (L[i].getD 3 0 + by')) = movS by' L[i] by unfold movS; rw [if_pos (of_decide_eq_true hb2)], hms] at t4; exact At.via (ih (i + 1, _) H4 ⟨by omega, (hE.upd hu3 hgH).upd hu4 hgH, .inr ⟨hgH, rfl, hu4.own, t4⟩⟩ (by simp only; omega)) ⟨rfl, rfl, rfl, rfl, trivial⟩) | (rw [← mid_same by' hlt (by unfold movS; rw [if_neg (of_decide_eq_false hb2)])] at htk; exact At.via (ih (i + 1, c) _ ⟨by omega, hE, .inr ⟨hgH, rfl, hO, htk⟩⟩ (by simp only; omega)) ⟨rfl, rfl, rfl, rfl, trivial⟩)
    refine At.region rfl rfl ?_
    first | refine Reg.pur rfl rfl rfl rfl (Pur.add64 rfl rfl (by omega)) ?_ | refine Reg.pur rfl rfl rfl rfl (Pur.add64 rfl rfl (by assumption)) ?_ | refine Reg.pur rfl rfl rfl rfl (Pur.add rfl rfl) ?_
    refine Reg.pur rfl rfl rfl rfl (Pur.mv rfl) ?_
    refine Reg.nil ?_
    first | (rw [g3, List.set_set, show (L[i].set 2 (IntKind.i64.wrap (L[i].getD 2 0 + by'))).set 3 (IntKind.i64.wrap (L[i].getD 3 0 + by')) = movS by' L[i] by unfold movS; rw [if_pos (of_decide_eq_true hb2)], hms] at t4; exact At.via (ih (i + 1, _) H4 ⟨by omega, (hE.upd hu3 hgH).upd hu4 hgH, .inr ⟨hgH, rfl, hu4.own, t4⟩⟩ (by simp only; omega)) ⟨rfl, rfl, rfl, rfl, trivial⟩) | (rw [← mid_same by' hlt (by unfold movS; rw [if_neg (of_decide_eq_false hb2)])] at htk; exact At.via (ih (i + 1, c) _ ⟨by omega, hE, .inr ⟨hgH, rfl, hO, htk⟩⟩ (by simp only; omega)) ⟨rfl, rfl, rfl, rfl, trivial⟩)
  refine At.region rfl rfl ?_
  refine Reg.pur rfl rfl rfl rfl (Pur.mv rfl) ?_
  refine Reg.pur rfl rfl rfl rfl (Pur.asg rfl) ?_
  refine Reg.nil ?_
  refine At.ret rfl Tryd.func92 rfl ?_
  simp only [decide_eq_false_iff_not] at hb1
  refine ⟨⟨A', cap', rfl, hI.imp id (fun ⟨h1, h2, _⟩ => ⟨g, h1, h2⟩)⟩, ?_, hE⟩
  rcases hI with h0 | ⟨h1, rfl, hO, htk⟩
  · obtain rfl : L = [] := List.length_eq_zero_iff.1 h0
    exact ⟨A', cap', rfl, by simp, hc2, hc3, .inl rfl⟩
  · rw [mid_all by' L (by omega)] at htk
    have := sl_of (L := L.map (movS by')) (o := 0) (wide9 (nine_mov hL)) (by decide) hO.blk (by rw [List.drop_zero, List.length_map]; exact htk) (by rw [List.length_map]; exact hc1) hc2
    rw [List.length_map] at this
    exact this
end Go.Proofs.YtlfillhffpiffaaDoor

namespace Go.Proofs.YtlfillhffpiffaaDoor
set_option linter.unusedSimpArgs false
set_option linter.unusedVariables false
set_option maxRecDepth 8000
open Go Go.Fx Go.Proofs
namespace FactsSubG
theorem ag55 : ag Tryd.prog 55 = some 1 := by kernel_rfl
theorem ag65 : ag Tryd.prog 65 = some 9 := by kernel_rfl
theorem apt53 : appT Tryd.prog 53 = some (65, 9, 72) := by kernel_rfl
theorem eqt65 : eqT Tryd.prog 65 = some [.int .i64, .int .i64, .int .i64, .int .i64, .int .i64, .int .i64, .int .i64, .int .i64, .int .i64] := by kernel_rfl
theorem es53 : esz Tryd.prog 53 = some 9 := by kernel_rfl
theorem fo55_0 : foff Tryd.prog 55 0 = some 0 := by kernel_rfl
theorem isl53 : isSl Tryd.prog 53 = true := by kernel_rfl
theorem mixed : Tryd.prog.follows .mixedOrders = true := by kernel_rfl
theorem pl55 : places Tryd.prog 55 = some [(0, 1)] := by kernel_rfl
theorem sc53 : sc Tryd.prog 53 = true := by kernel_rfl
theorem slA53 : slA Tryd.prog 53 = some (65, 9) := by kernel_rfl
theorem zc55 : zc Tryd.prog 55 = some [.slice none 0 0] := by kernel_rfl
end FactsSubG
open FactsSubG

theorem own_slice {H : Heap} {B : Nat} {ty : TypeId} {v : Value} {n s : Nat} {xs : List Value} (h : OwnS H B ty s v n xs) : ∃ A cap, v = .slice A n cap ∧ (∀ g, v.ownBlock = some g → B ≤ g) := by
  obtain ⟨_, ⟨rfl, rfl⟩ | ⟨g, cap, cur, rfl, h2, _⟩⟩ := h
  · exact ⟨none, 0, rfl, fun g h => by cases h⟩
  · exact ⟨_, _, rfl, fun g' h => by simp only [Value.ownBlock, Option.some.injEq] at h; omega⟩

end Go.Proofs.YtlfillhffpiffaaDoor

namespace Go.Proofs.YtlfillhffpiffaaDoor
set_option linter.unusedSimpArgs false
set_option linter.unusedVariables false
set_option maxRecDepth 8000
open Go Go.Fx Go.Proofs
namespace FactsSubH
theorem es53 : esz Tryd.prog 53 = some 9 := by kernel_rfl
theorem fo55_0 : foff Tryd.prog 55 0 = some 0 := by kernel_rfl
theorem fo65_1 : foff Tryd.prog 65 1 = some 1 := by kernel_rfl
theorem isl53 : isSl Tryd.prog 53 = true := by kernel_rfl
theorem sc3 : sc Tryd.prog 3 = true := by kernel_rfl
theorem sc53 : sc Tryd.prog 53 = true := by kernel_rfl
end FactsSubH
open FactsSubH

end Go.Proofs.YtlfillhffpiffaaDoor

namespace Go.Proofs.YtlfillhffpiffaaDoor
set_option linter.unusedSimpArgs false
set_option linter.unusedVariables false
set_option maxRecDepth 8000
open Go Go.Fx Go.Proofs

theorem bgn_all (L : List (List Int)) : ∀ (f : Nat) (z : Int), 0 ≤ z → 0 ≤ bgn L f z → ∀ i : Int, bgn L f z ≤ i → i ≤ z → (el L i).getD 0 0 = 3 →
    (el L i).getD 3 0 = i - 1 ∧ 0 ≤ (el L i).getD 2 0 ∧ (el L i).getD 2 0 < i - 1 ∧ 1 ≤ i
  | 0, z, h0, h, i, _, _, _ => by simp only [bgn] at h; omega
  | f + 1, z, h0, h, i, h1, h2, h3 => by
    rw [bgn_succ] at h h1
    by_cases hk : (el L z).getD 0 0 ≠ 3
    · rw [if_pos hk] at h1
      have : i = z := by omega
      subst this; exact (hk h3).elim
    · rw [if_neg hk] at h h1
      by_cases hb : z = 0 ∨ (el L z).getD 3 0 ≠ z - 1
      · rw [if_pos hb] at h; omega
      · rw [if_neg hb] at h h1
        by_cases hc : bgn L f ((el L z).getD 3 0) < 1 ∨ (el L z).getD 2 0 ≠ bgn L f ((el L z).getD 3 0) - 1
        · rw [if_pos hc] at h; omega
        · rw [if_neg hc] at h h1
          have hB : (el L z).getD 3 0 = z - 1 := by omega
          have hle := bgn_le L f ((el L z).getD 3 0) (by omega)
          by_cases hi : i = z
          · subst hi; omega
          · by_cases hi2 : bgn L f ((el L z).getD 3 0) ≤ i
            · exact bgn_all L f _ (by omega) (by omega) i hi2 (by omega) h3
            · exact bgn_all L f _ (by omega) h i h1 (by omega) h3

theorem typM_all {L : List (List Int)} (h : typM L = true) {i : Nat} (hi : i < L.length) (hk : L[i].getD 0 0 = 3) :
    L[i].getD 3 0 = (i : Int) - 1 ∧ 0 ≤ L[i].getD 2 0 ∧ L[i].getD 2 0 < (i : Int) - 1 ∧ 1 ≤ i := by
  unfold typM at h
  simp only [Bool.and_eq_true, decide_eq_true_eq] at h
  obtain ⟨⟨h1, _⟩, h2⟩ := h
  have hel : el L (i : Int) = L[i] := by simp [el, List.getD_eq_getElem?_getD, List.getElem?_eq_getElem hi]
  have := bgn_all L L.length ((L.length : Int) - 1) (by omega) (by omega) i (by omega) (by omega) (by rw [hel]; exact hk)
  rw [hel] at this
  omega
theorem typM_nod {L : List (List Int)} (h : typM L = true) {i : Nat} (hi : i < L.length) : nodM L[i] = true := by
  unfold typM at h
  simp only [Bool.and_eq_true, decide_eq_true_eq, List.all_eq_true] at h
  exact h.1.2 _ (List.getElem_mem hi)
end Go.Proofs.YtlfillhffpiffaaDoor

namespace Go.Proofs.YtlfillhffpiffaaDoor
set_option linter.unusedSimpArgs false
set_option linter.unusedVariables false
set_option maxRecDepth 8000
open Go Go.Fx Go.Proofs
namespace FactsSchC
theorem apt50 : appT Tryd.prog 50 = some (3, 1, 8) := by kernel_rfl
theorem es50 : esz Tryd.prog 50 = some 1 := by kernel_rfl
theorem fo109_0 : foff Tryd.prog 109 0 = some 0 := by kernel_rfl
theorem fo109_1 : foff Tryd.prog 109 1 = some 1 := by kernel_rfl
theorem isl50 : isSl Tryd.prog 50 = true := by kernel_rfl
theorem sc3 : sc Tryd.prog 3 = true := by kernel_rfl
theorem sc50 : sc Tryd.prog 50 = true := by kernel_rfl
theorem sl1_50 : Go.Fx.sl1 Tryd.prog 50 = true := by kernel_rfl
end FactsSchC
open FactsSchC

def addL (T : List Int) (v : Int) : List Int := if inL T v then T else T ++ [v]
theorem addL_len (T : List Int) (v : Int) : (addL T v).length ≤ T.length + 1 := by unfold addL; split <;> simp
structure Nm (H : Heap) (nb B : Nat) (A1 : Option Addr) (c1 : Nat) (T : List Int) (A2 : Option Addr) (c2 : Nat) (R : List Int) : Prop where
  own : Own H nb [.slice A1 T.length c1, .slice A2 R.length c2]
  g1 : Gs H B 3 1 A1 c1 T.length (T.flatMap e1)
  g2 : Gs H B 3 1 A2 c2 R.length (R.flatMap e1)
  d1 : ob A1 = -1 ∨ ob A1 ≠ ob A2
  d2 : ob A1 ≠ nb
  d3 : ob A2 ≠ nb
  lo : B ≤ H.size
def Mod (nb : Nat) (A1 A2 A1' A2' : Option Addr) (H H' : Heap) : Prop :=
  But (fun g => g = nb ∨ (g : Int) = ob A1 ∨ (g : Int) = ob A2) H H' ∧ (ob A1' = ob A1 ∨ (H.size : Int) ≤ ob A1') ∧ (ob A2' = ob A2 ∨ (H.size : Int) ≤ ob A2')
theorem Mod.refl (nb : Nat) (A1 A2 : Option Addr) (H : Heap) : Mod nb A1 A2 A1 A2 H H := ⟨But.refl _ _, .inl rfl, .inl rfl⟩
theorem Mod.trans {nb : Nat} {A1 A2 B1 B2 C1 C2 : Option Addr} {H H' H'' : Heap} (h : Mod nb A1 A2 B1 B2 H H') (k : Mod nb B1 B2 C1 C2 H' H'') : Mod nb A1 A2 C1 C2 H H'' := by
  obtain ⟨h1, h2, h3⟩ := h
  obtain ⟨k1, k2, k3⟩ := k
  have hs := h1.1
  refine ⟨⟨Nat.le_trans h1.1 k1.1, fun b hb hS => ?_⟩, by omega, by omega⟩
  rw [k1.2 b (by omega) (fun hk => hS (by dsimp only at hk ⊢; omega)), h1.2 b hb hS]
theorem Mod.ext {nb : Nat} {A1 A2 B1 B2 : Option Addr} {H H' H'' : Heap} (h : Mod nb A1 A2 B1 B2 H H') (k : Ext H' H'') : Mod nb A1 A2 B1 B2 H H'' :=
  ⟨h.1.trans k.but, h.2⟩
theorem Nm.ext {H H' : Heap} {nb B : Nat} {A1 A2 : Option Addr} {c1 c2 : Nat} {T R : List Int} (h : Nm H nb B A1 c1 T A2 c2 R) (he : Ext H H') : Nm H' nb B A1 c1 T A2 c2 R :=
  ⟨h.own.ext he, h.g1.ext he, h.g2.ext he, h.d1, h.d2, h.d3, Nat.le_trans h.lo he.1⟩

theorem set_same {α : Type} {cs : List α} {o : Nat} {v : α} (hc : cs[o]? = some v) : cs.set o v = cs := by
  apply List.ext_getElem?
  intro j
  by_cases h : o = j
  · subst h
    have : o < cs.length := by
      rcases Nat.lt_or_ge o cs.length with h | h
      · exact h
      · rw [List.getElem?_eq_none h] at hc; cases hc
    rw [List.getElem?_set_self this, hc]
  · rw [List.getElem?_set_ne h]
theorem name_ok {nb o B cap : Nat} {A : Option Addr} {cs : List Value} (T : List Int) (v : Int) {H : Heap} (ho : Own H nb cs) (hc : cs[o]? = some (.slice A T.length cap)) (hg : Gs H B 3 1 A cap T.length (T.flatMap e1)) (hd : ob A ≠ nb) (hB : B ≤ H.size) (hm : T.length ≤ 1000000) :
    Ret Tryd.prog 104 [ptr nb o, I v] H (fun r H' => ∃ A' cap', r = I (ixL T v) ∧ Own H' nb (cs.set o (.slice A' (addL T v).length cap')) ∧ Gs H' B 3 1 A' cap' (addL T v).length ((addL T v).flatMap e1) ∧ But (fun g => g = nb ∨ (g : Int) = ob A) H H' ∧ (ob A' = ob A ∨ (H.size : Int) ≤ ob A')) := by
  have hol : o < cs.length := by
    rcases Nat.lt_or_ge o cs.length with h | h
    · exact h
    · rw [List.getElem?_eq_none h] at hc; cases hc
  refine Ret.of_at (N := 26) Tryd.call104 Tryd.func104 rfl rfl rfl ?_
  have hE := Ext.refl H
  have z_ho := ho.lt
  have z_hg := hg.lt
  refine At.region rfl rfl ?_
  refine Reg.pur rfl rfl rfl rfl (Pur.asg rfl) ?_
  refine Reg.nil ?_
  refine At.region rfl rfl ?_
  refine Reg.pur rfl rfl rfl rfl (Pur.mv rfl) ?_
  refine Reg.pur rfl rfl rfl rfl (Pur.nilc rfl) ?_
  refine Reg.lod rfl rfl rfl rfl (Lod.ld sc50 rfl ho.blk hc) ?_
  refine Reg.pur rfl rfl rfl rfl (Pur.mv rfl) ?_
  refine Reg.op rfl rfl rfl rfl (Does.call rfl (index_ok T (own_sl (wide1 T) (by decide) hg) (by omega) v)) ?_
  rintro _ H ⟨rfl, rfl⟩
  refine Reg.pur rfl rfl rfl rfl (Pur.asg rfl) ?_
  refine Reg.nil ?_
  refine At.region rfl rfl ?_
  refine Reg.pur rfl rfl rfl rfl (Pur.mv rfl) ?_
  refine Reg.pur rfl rfl rfl rfl (Pur.lss rfl rfl) ?_
  refine Reg.nil ?_
  refine At.cond rfl rfl (fun q12 => ?_) (fun q12 => ?_)
  · first | (simp only [decide_eq_true_eq, decide_eq_false_iff_not, Bool.not_eq_true', Bool.not_eq_false', ne_eq, Decidable.not_not, Bool.not_eq_true, Bool.not_eq_false] at q12) | (dsimp only at q12) | skip
    have hni : inL T v = false := by { cases h : inL T v with | false => rfl | true => rw [h] at q12; simp at q12; omega }
    have hix : ixL T v = T.length := by { have := ixL_le T v; simp [inL] at hni; omega }
    have had : addL T v = T ++ [v] := by unfold addL; rw [hni]; rfl
    refine At.region rfl rfl ?_
    refine Reg.pur rfl rfl rfl rfl (Pur.mv rfl) ?_
    refine Reg.pur rfl rfl rfl rfl (Pur.nilc rfl) ?_
    refine Reg.lod rfl rfl rfl rfl (Lod.ld sc50 rfl ho.blk hc) ?_
    refine Reg.pur rfl rfl rfl rfl (Pur.lenS isl50 rfl) ?_
    refine Reg.pur rfl rfl rfl rfl (Pur.asg rfl) ?_
    refine Reg.nil ?_
    refine At.region rfl rfl ?_
    refine Reg.pur rfl rfl rfl rfl (Pur.mv rfl) ?_
    refine Reg.pur rfl rfl rfl rfl (Pur.mv rfl) ?_
    refine Reg.pur rfl rfl rfl rfl (Pur.nilc rfl) ?_
    refine Reg.lod rfl rfl rfl rfl (Lod.ld sc50 rfl ho.blk hc) ?_
    refine Reg.pur rfl rfl rfl rfl (Pur.mv rfl) ?_
    refine Reg.op rfl rfl rfl rfl (Does.bsl1T sl1_50 Tryd.underlying50 rfl rfl rfl rfl rfl) ?_
    rintro _ H4_5 ⟨rfl, hp4_5⟩
    have hn4_5 := New.of_eq hp4_5
    have z4_5 := hn4_5.size
    replace ho := ho.ext hn4_5.ext
    replace hg := hg.ext hn4_5.ext
    have o4_5 := hn4_5.own
    refine Reg.op rfl rfl rfl rfl (Does.appL apt50 rfl rfl (by decide) hg (wide1 _) (sl_new (L := [v]) (wide1 _) (by decide) hn4_5 (by simp)) (ones_e1 _) (by simp; omega) (by omega)) ?_
    rintro _ H4_6 ⟨A4_6, cap4_6, rfl, g4_6, hbut4_6, ha4_6⟩
    have z4_6 := hbut4_6.lt
    replace ho := ho.via hbut4_6 (by first | omega | (intro g; omega) | (intro g hg; omega) | (intro g hg h; omega))
    replace o4_5 := o4_5.via hbut4_6 (by first | omega | (intro g; omega) | (intro g hg; omega) | (intro g hg h; omega))
    replace hg := g4_6
    have zg4_6 := g4_6.lt
    refine Reg.pur rfl rfl rfl rfl (Pur.nilc rfl) ?_
    refine Reg.op0 rfl rfl rfl (Does.st sc50 rfl rfl rfl ho hol) ?_
    rintro _ H4_8 hu4_8
    have z4_8 := hu4_8.size
    replace hg := hg.upw hu4_8 (by omega)
    replace o4_5 := o4_5.upw hu4_8 (by omega)
    replace ho := hu4_8.own
    refine Reg.nil ?_
    refine At.region rfl rfl ?_
    refine Reg.pur rfl rfl rfl rfl (Pur.mv rfl) ?_
    refine Reg.pur rfl rfl rfl rfl (Pur.asg rfl) ?_
    refine Reg.nil ?_
    refine At.ret rfl Tryd.func104 rfl ?_
    rw [← had] at hg ho
    refine ⟨A4_6, cap4_6, ?_, ho, hg, (hn4_5.ext.but (S := fun g => g = nb ∨ (g : Int) = ob A)).trans ((hbut4_6.mono (fun b hb h => Or.inr h)).trans (hu4_8.but.mono (fun b hb h => Or.inl h))), by omega⟩
    rw [hix]
  first | (simp only [decide_eq_true_eq, decide_eq_false_iff_not, Bool.not_eq_true', Bool.not_eq_false', ne_eq, Decidable.not_not, Bool.not_eq_true, Bool.not_eq_false] at q12) | (dsimp only at q12) | skip
  refine At.region rfl rfl ?_
  refine Reg.pur rfl rfl rfl rfl (Pur.mv rfl) ?_
  refine Reg.pur rfl rfl rfl rfl (Pur.asg rfl) ?_
  refine Reg.nil ?_
  refine At.ret rfl Tryd.func104 rfl ?_
  have hin : inL T v = true := by { cases h : inL T v with | true => rfl | false => exact absurd (by rw [h]; simp) q12 }
  have had : addL T v = T := by unfold addL; rw [hin]; rfl
  rw [had]
  exact ⟨A, cap, by rw [hin]; rfl, ho.of (set_same hc).symm, hg, But.refl _ _, .inl rfl⟩

theorem nm_Type {nb B c1 c2 : Nat} {A1 A2 : Option Addr} {T R : List Int} (v : Int) {H : Heap} (h : Nm H nb B A1 c1 T A2 c2 R) (hm : T.length ≤ 1000000) :
    Ret Tryd.prog 84 [ptr nb 0, I v] H (fun r H' => r = I (ixL T v) ∧ ∃ A1' c1', Nm H' nb B A1' c1' (addL T v) A2 c2 R ∧ Mod nb A1 A2 A1' A2 H H') := by
  obtain ⟨ho, hg1, hg2, hd1, hd2, hd3, hlo⟩ := h
  have z1 := hg1.lt
  have z2 := hg2.lt
  have hnb := ho.lt
  refine Ret.of_at (N := 10) Tryd.call84 Tryd.func84 rfl rfl rfl ?_
  have hE := Ext.refl H

  refine At.region rfl rfl ?_
  refine Reg.pur rfl rfl rfl rfl (Pur.asg rfl) ?_
  refine Reg.nil ?_
  refine At.region rfl rfl ?_
  refine Reg.pur rfl rfl rfl rfl (Pur.mv rfl) ?_
  refine Reg.pur rfl rfl rfl rfl (Pur.nilc rfl) ?_
  refine Reg.pur rfl rfl rfl rfl (Pur.fld _ fo109_0 rfl) ?_
  refine Reg.pur rfl rfl rfl rfl (Pur.mv rfl) ?_
  refine Reg.op rfl rfl rfl rfl (Does.call rfl (name_ok T v ho rfl hg1 hd2 hlo hm)) ?_
  rintro _ H1_4 ⟨A', cap', rfl, ho1_4, hg1_4, hbut1_4, ha1_4⟩
  have z1_4 := hbut1_4.lt
  refine Reg.pur rfl rfl rfl rfl (Pur.asg rfl) ?_
  refine Reg.nil ?_
  refine At.ret rfl Tryd.func84 rfl ?_
  refine ⟨rfl, A', cap', ⟨ho1_4, hg1_4, hg2.via hbut1_4 (fun g hg h => by omega), by omega, by omega, hd3, by have := hbut1_4.lt; omega⟩, ⟨hbut1_4.mono (fun b hb h => by omega), ha1_4, .inl rfl⟩⟩
theorem nm_Row {nb B c1 c2 : Nat} {A1 A2 : Option Addr} {T R : List Int} (v : Int) {H : Heap} (h : Nm H nb B A1 c1 T A2 c2 R) (hm : R.length ≤ 1000000) :
    Ret Tryd.prog 86 [ptr nb 0, I v] H (fun r H' => r = I (ixL R v) ∧ ∃ A2' c2', Nm H' nb B A1 c1 T A2' c2' (addL R v) ∧ Mod nb A1 A2 A1 A2' H H') := by
  obtain ⟨ho, hg1, hg2, hd1, hd2, hd3, hlo⟩ := h
  have z1 := hg1.lt
  have z2 := hg2.lt
  have hnb := ho.lt
  refine Ret.of_at (N := 10) Tryd.call86 Tryd.func86 rfl rfl rfl ?_
  have hE := Ext.refl H

  refine At.region rfl rfl ?_
  refine Reg.pur rfl rfl rfl rfl (Pur.asg rfl) ?_
  refine Reg.nil ?_
  refine At.region rfl rfl ?_
  refine Reg.pur rfl rfl rfl rfl (Pur.mv rfl) ?_
  refine Reg.pur rfl rfl rfl rfl (Pur.nilc rfl) ?_
  refine Reg.pur rfl rfl rfl rfl (Pur.fld _ fo109_1 rfl) ?_
  refine Reg.pur rfl rfl rfl rfl (Pur.mv rfl) ?_
  refine Reg.op rfl rfl rfl rfl (Does.call rfl (name_ok R v ho rfl hg2 hd3 hlo hm)) ?_
  rintro _ H1_4 ⟨A', cap', rfl, ho1_4, hg1_4, hbut1_4, ha1_4⟩
  have z1_4 := hbut1_4.lt
  refine Reg.pur rfl rfl rfl rfl (Pur.asg rfl) ?_
  refine Reg.nil ?_
  refine At.ret rfl Tryd.func86 rfl ?_
  refine ⟨rfl, A', cap', ⟨ho1_4, hg1.via hbut1_4 (fun g hg h => by omega), hg1_4, by omega, hd2, by omega, by have := hbut1_4.lt; omega⟩, ⟨hbut1_4.mono (fun b hb h => by omega), .inl rfl, ha1_4⟩⟩

end Go.Proofs.YtlfillhffpiffaaDoor

namespace Go.Proofs.YtlfillhffpiffaaDoor
set_option linter.unusedSimpArgs false
set_option linter.unusedVariables false
set_option maxRecDepth 8000
open Go Go.Fx Go.Proofs
namespace FactsSchD
theorem fo24_1 : foff Tryd.prog 24 1 = some 4 := by kernel_rfl
theorem fo65_0 : foff Tryd.prog 65 0 = some 0 := by kernel_rfl
theorem fo65_1 : foff Tryd.prog 65 1 = some 1 := by kernel_rfl
theorem fo65_4 : foff Tryd.prog 65 4 = some 4 := by kernel_rfl
theorem mixed : Tryd.prog.follows .mixedOrders = true := by kernel_rfl
theorem sc108 : sc Tryd.prog 108 = true := by kernel_rfl
theorem sc3 : sc Tryd.prog 3 = true := by kernel_rfl
end FactsSchD
open FactsSchD

abbrev Nms := List Int × List Int
theorem bgn_fun {L : List (List Int)} {f : Nat} {z : Int} (h : 0 ≤ bgn L (f + 1) z) (hk : (el L z).getD 0 0 = 3) :
    z ≠ 0 ∧ (el L z).getD 3 0 = z - 1 ∧ 1 ≤ bgn L f ((el L z).getD 3 0) ∧ (el L z).getD 2 0 = bgn L f ((el L z).getD 3 0) - 1 ∧ 0 ≤ bgn L f ((el L z).getD 2 0) := by
  rw [bgn_succ, if_neg (by omega)] at h
  by_cases hb : z = 0 ∨ (el L z).getD 3 0 ≠ z - 1
  · rw [if_pos hb] at h; omega
  · rw [if_neg hb] at h
    by_cases hc : bgn L f ((el L z).getD 3 0) < 1 ∨ (el L z).getD 2 0 ≠ bgn L f ((el L z).getD 3 0) - 1
    · rw [if_pos hc] at h; omega
    · rw [if_neg hc] at h; omega

end Go.Proofs.YtlfillhffpiffaaDoor

namespace Go.Proofs.YtlfillhffpiffaaDoor
set_option linter.unusedSimpArgs false
set_option linter.unusedVariables false
set_option maxRecDepth 8000
open Go Go.Fx Go.Proofs
namespace FactsSchE
theorem es53 : esz Tryd.prog 53 = some 9 := by kernel_rfl
theorem fo55_0 : foff Tryd.prog 55 0 = some 0 := by kernel_rfl
theorem fo65_0 : foff Tryd.prog 65 0 = some 0 := by kernel_rfl
theorem fo65_2 : foff Tryd.prog 65 2 = some 2 := by kernel_rfl
theorem fo65_3 : foff Tryd.prog 65 3 = some 3 := by kernel_rfl
theorem isl53 : isSl Tryd.prog 53 = true := by kernel_rfl
theorem sc3 : sc Tryd.prog 3 = true := by kernel_rfl
theorem sc53 : sc Tryd.prog 53 = true := by kernel_rfl
end FactsSchE
open FactsSchE

structure Off (nb : Nat) (A1 A2 : Option Addr) (b : Int) : Prop where
  h1 : b ≠ nb
  h2 : b ≠ ob A1
  h3 : b ≠ ob A2
theorem Off.not {nb : Nat} {A1 A2 : Option Addr} {b : Nat} (h : Off nb A1 A2 b) : ¬ (b = nb ∨ (b : Int) = ob A1 ∨ (b : Int) = ob A2) := by
  rintro (e | e | e)
  · exact h.h1 (by rw [e])
  · exact h.h2 e
  · exact h.h3 e
theorem Off.mod {nb : Nat} {A1 A2 A1' A2' : Option Addr} {b : Int} {H H' : Heap} (h : Off nb A1 A2 b) (hb : b < H.size) (hM : Mod nb A1 A2 A1' A2' H H') : Off nb A1' A2' b := by
  obtain ⟨_, h1, h2⟩ := hM
  obtain ⟨k1, k2, k3⟩ := h
  exact ⟨k1, by omega, by omega⟩
theorem typM_bgn {L : List (List Int)} (h : typM L = true) : (1 ≤ L.length ∧ L.length ≤ 256) ∧ bgn L L.length ((L.length : Int) - 1) = 0 := by
  unfold typM at h
  simp only [Bool.and_eq_true, decide_eq_true_eq] at h
  exact ⟨h.1.1, h.2⟩
end Go.Proofs.YtlfillhffpiffaaDoor

namespace Go.Proofs.YtlfillhffpiffaaDoor
set_option linter.unusedSimpArgs false
set_option linter.unusedVariables false
set_option maxRecDepth 8000
open Go Go.Fx Go.Proofs
namespace FactsSchF
theorem ag55 : ag Tryd.prog 55 = some 1 := by kernel_rfl
theorem ag65 : ag Tryd.prog 65 = some 9 := by kernel_rfl
theorem es53 : esz Tryd.prog 53 = some 9 := by kernel_rfl
theorem fo109_0 : foff Tryd.prog 109 0 = some 0 := by kernel_rfl
theorem fo109_1 : foff Tryd.prog 109 1 = some 1 := by kernel_rfl
theorem fo24_1 : foff Tryd.prog 24 1 = some 4 := by kernel_rfl
theorem fo55_0 : foff Tryd.prog 55 0 = some 0 := by kernel_rfl
theorem fo65_0 : foff Tryd.prog 65 0 = some 0 := by kernel_rfl
theorem fo65_1 : foff Tryd.prog 65 1 = some 1 := by kernel_rfl
theorem fo65_2 : foff Tryd.prog 65 2 = some 2 := by kernel_rfl
theorem fo65_3 : foff Tryd.prog 65 3 = some 3 := by kernel_rfl
theorem fo65_4 : foff Tryd.prog 65 4 = some 4 := by kernel_rfl
theorem isl53 : isSl Tryd.prog 53 = true := by kernel_rfl
theorem mixed : Tryd.prog.follows .mixedOrders = true := by kernel_rfl
theorem pl109 : places Tryd.prog 109 = some [(0, 1), (1, 1)] := by kernel_rfl
theorem sc3 : sc Tryd.prog 3 = true := by kernel_rfl
theorem sc50 : sc Tryd.prog 50 = true := by kernel_rfl
theorem sc53 : sc Tryd.prog 53 = true := by kernel_rfl
theorem zc109 : zc Tryd.prog 109 = some [.slice none 0 0, .slice none 0 0] := by kernel_rfl
theorem zc65 : zc Tryd.prog 65 = some [.int .i64 0, .int .i64 0, .int .i64 0, .int .i64 0, .int .i64 0, .int .i64 0, .int .i64 0, .int .i64 0, .int .i64 0] := by kernel_rfl
end FactsSchF
open FactsSchF

theorem nm_new {H H' : Heap} {B : Nat} (h : Own H' H.size [.slice none 0 0, .slice none 0 0]) (hB : B ≤ H'.size) : Nm H' H.size B none 0 [] none 0 [] :=
  ⟨h, OwnS.nilG, OwnS.nilG, .inl rfl, by rw [ob_none]; omega, by rw [ob_none]; omega, hB⟩
theorem off_none {nb : Nat} {b : Int} (h : b ≠ nb) (h0 : 0 ≤ b) : Off nb none none b := ⟨h, by rw [ob_none]; omega, by rw [ob_none]; omega⟩
theorem mod_ext {nb : Nat} {A1' A2' : Option Addr} {H0 H H' : Heap} (h : Mod nb none none A1' A2' H H') (hE : Ext H0 H) (hn : H0.size ≤ nb) : Ext H0 H' :=
  hE.via h.1 (fun g hg hS => by rw [ob_none] at hS; omega)
end Go.Proofs.YtlfillhffpiffaaDoor

namespace Go.Proofs.YtlfillhffpiffaaDoor
set_option linter.unusedSimpArgs false
set_option linter.unusedVariables false
set_option maxRecDepth 8000
open Go Go.Fx Go.Proofs
namespace FactsSchG

end FactsSchG
open FactsSchG

def cs (b : Bool) : Int := if b then 0 else 1200
end Go.Proofs.YtlfillhffpiffaaDoor

namespace Go.Proofs.YtlfillhffpiffaaDoor
set_option linter.unusedSimpArgs false
set_option linter.unusedVariables false
set_option maxRecDepth 8000
open Go Go.Fx Go.Proofs

def funS (x : List Int) (a b : Int) (r : List Int) : List Int := ((x.set 2 a).set 3 b).take 4 ++ r
def moreS (Bs : List Bd) (out : List (List Int)) (ends : List Int) (x : List Int) : Option (List (List Int)) :=
  if x.getD 0 0 = 2 then match Bs.find? (mt false (x.getD 1 0)) with
    | some bd => some (bd.nodes.map (movS out.length))
    | none => some [x]
  else if x.getD 0 0 = 3 then
    if (rowS Bs (x.drop 4)).2 then some [funS x (ends.getD (x.getD 2 0).toNat 0) (ends.getD (x.getD 3 0).toNat 0) (rowS Bs (x.drop 4)).1] else none
  else some [x]
def goS (Bs : List Bd) : List (List Int) → List (List Int) → List Int → Option (List (List Int))
  | [], out, _ => some out
  | x :: xs, out, ends => match moreS Bs out ends x with
    | none => none
    | some m => if 256 < out.length + m.length then none else goS Bs xs (out ++ m) (ends ++ [((out.length + m.length : Nat) : Int) - 1])
def typS (Bs : List Bd) (L : List (List Int)) : Option (List (List Int)) := goS Bs L [] []

end Go.Proofs.YtlfillhffpiffaaDoor

namespace Go.Proofs.YtlfillhffpiffaaDoor
set_option linter.unusedSimpArgs false
set_option linter.unusedVariables false
set_option maxRecDepth 8000
open Go Go.Fx Go.Proofs
namespace FactsSubK
theorem ag24 : ag Tryd.prog 24 = some 5 := by kernel_rfl
theorem ag55 : ag Tryd.prog 55 = some 1 := by kernel_rfl
theorem ag65 : ag Tryd.prog 65 = some 9 := by kernel_rfl
theorem apt53 : appT Tryd.prog 53 = some (65, 9, 72) := by kernel_rfl
theorem es50 : esz Tryd.prog 50 = some 1 := by kernel_rfl
theorem es53 : esz Tryd.prog 53 = some 9 := by kernel_rfl
theorem fo55_0 : foff Tryd.prog 55 0 = some 0 := by kernel_rfl
theorem fo57_2 : foff Tryd.prog 57 2 = some 2 := by kernel_rfl
theorem fo65_0 : foff Tryd.prog 65 0 = some 0 := by kernel_rfl
theorem fo65_1 : foff Tryd.prog 65 1 = some 1 := by kernel_rfl
theorem fo65_2 : foff Tryd.prog 65 2 = some 2 := by kernel_rfl
theorem fo65_3 : foff Tryd.prog 65 3 = some 3 := by kernel_rfl
theorem fo65_4 : foff Tryd.prog 65 4 = some 4 := by kernel_rfl
theorem isPt140 : isPt Tryd.prog 140 = true := by kernel_rfl
theorem isl53 : isSl Tryd.prog 53 = true := by kernel_rfl
theorem mixed : Tryd.prog.follows .mixedOrders = true := by kernel_rfl
theorem mkT50 : mkT Tryd.prog 50 = some (3, .int .i64 0, 8) := by kernel_rfl
theorem pl55 : places Tryd.prog 55 = some [(0, 1)] := by kernel_rfl
theorem sc3 : sc Tryd.prog 3 = true := by kernel_rfl
theorem sc53 : sc Tryd.prog 53 = true := by kernel_rfl
theorem slA53 : slA Tryd.prog 53 = some (65, 9) := by kernel_rfl
theorem zc24 : zc Tryd.prog 24 = some [.int .i64 0, .int .i64 0, .int .i64 0, .int .i64 0, .int .i64 0] := by kernel_rfl
theorem zc55 : zc Tryd.prog 55 = some [.slice none 0 0] := by kernel_rfl
theorem zc65 : zc Tryd.prog 65 = some [.int .i64 0, .int .i64 0, .int .i64 0, .int .i64 0, .int .i64 0, .int .i64 0, .int .i64 0, .int .i64 0, .int .i64 0] := by kernel_rfl
end FactsSubK
open FactsSubK

def TypB (B : Nat) (H' : Heap) (v : Value) (o : Option (List (List Int))) : Prop :=
  match o with
  | none => v = .tuple #[Ty none 0 0, .bool false]
  | some out => ∃ A' cap', v = .tuple #[Ty A' out.length cap', .bool true] ∧ OwnS H' B 65 9 (.slice A' out.length cap') out.length (out.flatMap Is) ∧ Nine out ∧ out.length ≤ 256

theorem nine1 {x : List Int} (h : x.length = 9) : Nine [x] := by intro y hy; simp at hy; subst hy; exact h
theorem ends_at {ends : List Int} {m : Nat} {z : Int} (h0 : 0 ≤ z) (h : z < ends.length) : (Is (ends ++ List.replicate m 0))[0 + z.toNat * 1]? = some (I (ends.getD z.toNat 0)) := by
  rw [show 0 + z.toNat * 1 = z.toNat by omega]
  simp only [Is, List.getElem?_map]
  rw [List.getElem?_append_left (by omega), List.getD_eq_getElem?_getD, List.getElem?_eq_getElem (by omega)]; rfl
theorem more_nil {Bs : List Bd} {out : List (List Int)} {ends : List Int} {k v p q c0 c1 c2 c3 t : Int} {a : Option Addr} {P' : Bd → Nat → Nat → List Value → Prop} (hk : k = 2)
    (hf : match Bs.find? (mt false v) with | none => a = none | some bd => (∃ b o c, a = some ⟨b, o, none⟩ ∧ P' bd b o c)) (hb : (!a.isNone) = false) : moreS Bs out ends [k, v, p, q, c0, c1, c2, c3, t] = some [[k, v, p, q, c0, c1, c2, c3, t]] := by
  subst hk
  cases hq : Bs.find? (mt false v) with
  | none => simp [moreS, hq]
  | some bd => rw [hq] at hf; obtain ⟨b, o, c, rfl, _⟩ := hf; cases hb
theorem more_else {Bs : List Bd} {out : List (List Int)} {ends : List Int} {k v p q c0 c1 c2 c3 t : Int} (h2 : ¬ k = 2) (h3 : ¬ k = 3) : moreS Bs out ends [k, v, p, q, c0, c1, c2, c3, t] = some [[k, v, p, q, c0, c1, c2, c3, t]] := by
  simp [moreS, h2, h3]
theorem ends_set {ends : List Int} {n i : Nat} (hl : ends.length = i) (hi : i < n) (z : Int) : (Is (ends ++ List.replicate (n - i) 0)).set (0 + (i : Int).toNat * 1) (I z) = Is ((ends ++ [z]) ++ List.replicate (n - (i + 1)) 0) := by
  rw [show 0 + (i : Int).toNat * 1 = i by omega, Is_set, List.set_append_right _ _ (by omega), hl, Nat.sub_self, show n - i = (n - (i + 1)) + 1 by omega, List.replicate_succ, List.set_cons_zero, List.append_assoc]; rfl
theorem nod3 {k v p q c0 c1 c2 c3 t : Int} (h : nodM [k, v, p, q, c0, c1, c2, c3, t] = true) (hk : k = 3) : rowM [c0, c1, c2, c3, t] = true := by
  subst hk; simp [nodM] at h; exact h.1
theorem row_tail {r : List Int} (h : rowM r = true) : -1 ≤ r.getD 4 0 := by
  unfold rowM at h; simp only [Bool.and_eq_true, decide_eq_true_eq] at h; exact h.2.1

theorem ofType_ok {A A1 : Option Addr} {cap cap1 bt ot : Nat} {ct : List Value} {Bs : List Bd} {L : List (List Int)} {H : Heap} (hB : Bds H (.slice A Bs.length cap) Bs) (hS : SlT H Is 9 (.slice A1 L.length cap1) L) (hL : Nine L) (hM : typM L = true)
    (hT : Blk H bt ct) (hct : ct[ot]? = some (.slice A1 L.length cap1)) :
    Ret Tryd.prog 73 [.slice A Bs.length cap, ptr bt ot] H (fun v H' => Ext H H' ∧ TypB H.size H' v (typS Bs L)) := by
  have hlen : 1 ≤ L.length ∧ L.length ≤ 256 := by unfold typM at hM; simp only [Bool.and_eq_true, decide_eq_true_eq] at hM; exact hM.1.1
  refine Ret.of_at (N := 101) Tryd.call73 Tryd.func73 rfl rfl rfl ?_
  refine At.region rfl rfl ?_
  refine Reg.op rfl rfl rfl rfl (Does.alloc zc55) ?_
  rintro _ H1 ⟨rfl, hn1⟩
  refine Reg.pur rfl rfl rfl rfl (Pur.asg rfl) ?_
  refine Reg.nil ?_
  have hT1 := hT.ext hn1.ext
  refine At.region rfl rfl ?_
  refine Reg.pur rfl rfl rfl rfl (Pur.asg rfl) ?_
  refine Reg.nil ?_
  refine At.region rfl rfl ?_
  refine Reg.pur rfl rfl rfl rfl (Pur.mv rfl) ?_
  refine Reg.pur rfl rfl rfl rfl (Pur.nilc rfl) ?_
  refine Reg.pur rfl rfl rfl rfl (Pur.fld _ fo55_0 rfl) ?_
  refine Reg.lod rfl rfl rfl rfl (Lod.ld sc53 rfl hT1 (by simpa using hct)) ?_
  refine Reg.pur rfl rfl rfl rfl (Pur.lenS isl53 rfl) ?_
  refine Reg.op rfl rfl rfl rfl (Does.mks mkT50 rfl rfl (by omega) (by omega)) ?_
  rintro _ H2 ⟨rfl, hp2⟩
  refine Reg.pur rfl rfl rfl rfl (Pur.asg rfl) ?_
  refine Reg.nil ?_
  have hn2 : New H1 H2 (List.replicate L.length (I 0)) := ⟨_, hp2⟩
  have hEn : Own H2 H1.size (Is ([] ++ List.replicate (L.length - 0) 0)) := by have := hn2.own; rwa [show (List.replicate L.length (I 0)) = Is ([] ++ List.replicate (L.length - 0) 0) by simp [Is]] at this
  have hRb : Own H2 H.size [.slice none 0 0] := hn1.own.ext hn2.ext
  have hE2 := hn1.ext.trans hn2.ext
  have hlt1 := hn1.own.lt
  have hlt2 := hn2.own.lt
  refine At.region rfl rfl ?_
  refine Reg.pur rfl rfl rfl rfl (Pur.mv rfl) ?_
  refine Reg.pur rfl rfl rfl rfl (Pur.nilc rfl) ?_
  refine Reg.pur rfl rfl rfl rfl (Pur.fld _ fo55_0 rfl) ?_
  refine Reg.lod rfl rfl rfl rfl (Lod.ld sc53 rfl (hT1.ext hn2.ext) (by simpa using hct)) ?_
  refine Reg.pur rfl rfl rfl rfl (Pur.lenS isl53 rfl) ?_
  refine Reg.pur rfl rfl rfl rfl (Pur.mv rfl) ?_
  refine Reg.nil ?_
  refine At.loop (σ := Nat × List (List Int) × List Int × Option Addr × Nat) (fun s => [(25, I s.1), (24, I L.length), (23, .slice A1 L.length cap1), (6, .slice s.2.2.2.1 s.2.1.length s.2.2.2.2), (7, .slice (some ⟨H1.size, 0, none⟩) L.length L.length), (0, .slice A Bs.length cap), (4, ptr H.size 0)]) (fun s H' => s.1 ≤ L.length ∧ s.2.1.length ≤ 256 ∧ s.2.2.1.length = s.1 ∧ Nine s.2.1 ∧ OwnS H' H2.size 65 9 (.slice s.2.2.2.1 s.2.1.length s.2.2.2.2) s.2.1.length (s.2.1.flatMap Is) ∧ Own H' H1.size (Is (s.2.2.1 ++ List.replicate (L.length - s.1) 0)) ∧ Own H' H.size [.slice none 0 0] ∧ Ext H1 H' ∧ goS Bs (L.drop s.1) s.2.1 s.2.2.1 = typS Bs L) (fun s => L.length - s.1) (0, [], [], none, 0) rfl ⟨rfl, rfl, rfl, rfl, rfl, rfl, rfl, trivial⟩ ⟨by omega, by simp, rfl, (fun x hx => by cases hx), OwnS.nil _ _ _ _, hEn, hRb, hn2.ext, rfl⟩ ?_
  clear hEn hRb
  rintro ⟨i, out, ends, A', cap'⟩ H3 ⟨hi, hol, hel, hN, hO, hEn, hRb, hE, hgo⟩ ih
  dsimp only at hi hol hel hN hO hEn hRb hE hgo ⊢
  refine At.region rfl rfl ?_
  refine Reg.pur rfl rfl rfl rfl (Pur.lss rfl rfl) ?_
  refine Reg.nil ?_
  refine At.cond rfl rfl (fun hb1 => ?_) (fun hb1 => ?_)
  · simp only [decide_eq_true_eq] at hb1
    have hlt : i < L.length := by omega
    have hE3 := hn1.ext.trans hE
    obtain ⟨b, o, c, rfl, hB0, hd, h9⟩ := sl_at (wide9 hL) (hS.ext hE3) hlt
    have h9' := hL _ (List.getElem_mem hlt)
    have hfun := typM_all hM hlt
    have hnod := typM_nod hM hlt
    rw [dropL hlt, goS] at hgo
    generalize L[i] = x at hgo hd h9 h9' hfun hnod
    obtain ⟨k, v, p, q, c0, c1, c2, c3, t, rfl⟩ : ∃ k v p q c0 c1 c2 c3 t, x = [k, v, p, q, c0, c1, c2, c3, t] := by match x, h9' with | [k, v, p, q, c0, c1, c2, c3, t], _ => exact ⟨_, _, _, _, _, _, _, _, _, rfl⟩
    refine At.region rfl rfl ?_
    refine Reg.pur rfl rfl rfl rfl (Pur.mv rfl) ?_
    refine Reg.pur rfl rfl rfl rfl (Pur.idx _ es53 rfl rfl (by omega) hb1) ?_
    refine Reg.lod rfl rfl rfl rfl (Lod.ldn ag65 rfl hB0 hd h9) ?_
    refine Reg.op rfl rfl rfl rfl (Does.alloc zc65) ?_
    rintro _ H4 ⟨rfl, hn4⟩
    refine Reg.pur rfl rfl rfl rfl (Pur.asg rfl) ?_
    refine Reg.op0 rfl rfl rfl (Does.stn ag65 rfl rfl (ones_Is _) h9 hn4.own (by decide)) ?_
    rintro _ H5 hu5
    refine Reg.nil ?_
    have hX : Own H5 H3.size (Is [k, v, p, q, c0, c1, c2, c3, t]) := by have := hu5.own; rwa [over (by rfl)] at this
    have hE5 : Ext H3 H5 := hn4.ext.upd hu5 (Nat.le_refl _)
    refine At.region rfl rfl ?_
    refine Reg.lod rfl rfl rfl rfl (Lod.ldn ag65 rfl hX.blk (whole rfl) rfl) ?_
    refine Reg.op rfl rfl rfl rfl (Does.bslA ([[_, _, _, _, _, _, _, _, _]]) slA53 rfl rfl rfl rfl rfl rfl) ?_
    rintro _ H6 ⟨rfl, hp6⟩
    refine Reg.pur rfl rfl rfl rfl (Pur.asg rfl) ?_
    refine Reg.nil ?_
    have hn6 : New H5 H6 (Is [k, v, p, q, c0, c1, c2, c3, t]) := ⟨_, hp6⟩
    have hX6 := hX.ext hn6.ext
    have hE6 := hE5.trans hn6.ext
    have hY := hn6.own
    refine At.region rfl rfl ?_
    refine Reg.pur rfl rfl rfl rfl (Pur.fld _ fo65_0 rfl) ?_
    refine Reg.lod rfl rfl rfl rfl (Lod.ld sc3 rfl hX6.blk rfl) ?_
    refine Reg.nil ?_
    refine At.region rfl rfl ?_
    refine Reg.pur rfl rfl rfl rfl (Pur.eql rfl rfl) ?_
    refine Reg.pur rfl rfl rfl rfl (Pur.asg rfl) ?_
    refine Reg.nil ?_
    refine At.joinc (σ := List (List Int) × Option Addr × Nat) (fun s => [(10, .slice s.2.1 s.1.length s.2.2), (6, .slice A' out.length cap'), (7, .slice (some ⟨H1.size, 0, none⟩) L.length L.length), (8, I i), (25, I i), (24, I L.length), (23, .slice (some ⟨b, o, none⟩) L.length cap1), (0, .slice A Bs.length cap), (4, ptr H.size 0)]) (fun s H' => moreS Bs out ends [k, v, p, q, c0, c1, c2, c3, t] = some s.1 ∧ SlT H' Is 9 (.slice s.2.1 s.1.length s.2.2) s.1 ∧ Nine s.1 ∧ s.1.length ≤ 1954687338212 ∧ Ext H3 H') rfl (fun hJ => ?_) (fun s H7 ⟨hmo, hSm, hNm, hml, hE7⟩ => ?_)
    · refine At.cond rfl rfl (fun hb2 => ?_) (fun hb2 => ?_)
      · refine At.region rfl rfl ?_
        refine Reg.pur rfl rfl rfl rfl (Pur.mv rfl) ?_
        refine Reg.pur rfl rfl rfl rfl (Pur.fld _ fo65_1 rfl) ?_
        refine Reg.lod rfl rfl rfl rfl (Lod.ld sc3 rfl hX6.blk rfl) ?_
        refine Reg.op rfl rfl rfl rfl (Does.call rfl (find_ok (hB.ext (hE3.trans hE6)) false v)) ?_
        rintro _ H6 ⟨rfl, a, rfl, hf⟩
        refine Reg.pur rfl rfl rfl rfl (Pur.asg rfl) ?_
        refine Reg.nil ?_
        refine At.region rfl rfl ?_
        refine Reg.pur rfl rfl rfl rfl (Pur.mv rfl) ?_
        refine Reg.pur rfl rfl rfl rfl (Pur.nePN isPt140 rfl rfl) ?_
        refine Reg.nil ?_
        refine At.cond rfl rfl (fun hb3 => ?_) (fun hb3 => ?_)
        · obtain ⟨bd, hq, b', o', c', rfl, hB', hd', hok, _⟩ : ∃ bd, Bs.find? (mt false v) = some bd ∧ ∃ b o c, a = some ⟨b, o, none⟩ ∧ Blk H6 b c ∧ (c.drop o).take 8 = encB bd ∧ bd.Ok H6 ∧ ∃ oa, A = some ⟨b, oa, none⟩ := by
            cases hq : Bs.find? (mt false v) with
            | none => rw [hq] at hf; subst hf; cases hb3
            | some bd => rw [hq] at hf; exact ⟨bd, rfl, hf⟩
          refine At.region rfl rfl ?_
          refine Reg.pur rfl rfl rfl rfl (Pur.mv rfl) ?_
          refine Reg.pur rfl rfl rfl rfl (Pur.nilc rfl) ?_
          refine Reg.pur rfl rfl rfl rfl (Pur.fld _ fo57_2 rfl) ?_
          refine Reg.pur rfl rfl rfl rfl (Pur.fld _ fo55_0 rfl) ?_
          refine Reg.lod rfl rfl rfl rfl (Lod.ld sc53 rfl hB' (at_tk (j := 2) hd' (by decide) rfl)) ?_
          refine Reg.pur rfl rfl rfl rfl (Pur.mv rfl) ?_
          refine Reg.pur rfl rfl rfl rfl (Pur.lenS isl53 rfl) ?_
          refine Reg.op rfl rfl rfl rfl (Does.call rfl (moved_ok hok.nine hok.sl hok.fits out.length)) ?_
          rintro _ H7 ⟨⟨A2, cap2, rfl, _⟩, hS2, hE7⟩
          refine Reg.pur rfl rfl rfl rfl (Pur.asg rfl) ?_
          refine Reg.nil ?_
          have hS1 : ∀ H', Ext H6 H' → SlT H' Is 9 (.slice (some ⟨H5.size, 0, none⟩) 1 1) [[k, v, p, q, c0, c1, c2, c3, t]] := fun H' h => (sl_of (L := [[k, v, p, q, c0, c1, c2, c3, t]]) (cap := 1) (o := 0) (wide9 (nine1 rfl)) (by decide) hY.blk rfl (by simp) (by decide)).ext h
          first | exact At.meets rfl (hJ (bd.nodes.map (movS out.length), A2, cap2) _ ⟨by have hk2 : k = 2 := of_decide_eq_true hb2; subst hk2; simp [moreS, hq], by simp only [List.length_map]; exact hS2, nine_mov hok.nine, by simp only [List.length_map]; have := hok.fits; omega, hE6.trans hE7⟩) ⟨by simp only [List.length_map]; rfl, rfl, rfl, rfl, rfl, rfl, rfl, rfl, rfl, trivial⟩ | exact At.meets rfl (hJ ([[k, v, p, q, c0, c1, c2, c3, t]], some ⟨H5.size, 0, none⟩, 1) _ ⟨more_nil (of_decide_eq_true hb2) hf hb3, hS1 _ (Ext.refl _), nine1 rfl, by simp, hE6⟩) ⟨rfl, rfl, rfl, rfl, rfl, rfl, rfl, rfl, rfl, trivial⟩ | exact At.meets rfl (hJ ([[k, v, p, q, c0, c1, c2, c3, t]], some ⟨H5.size, 0, none⟩, 1) _ ⟨more_else (of_decide_eq_false hb2) (of_decide_eq_false hb4), hS1 _ (Ext.refl _), nine1 rfl, by simp, hE6⟩) ⟨rfl, rfl, rfl, rfl, rfl, rfl, rfl, rfl, rfl, trivial⟩ | exact At.meets rfl (hJ ([funS [k, v, p, q, c0, c1, c2, c3, t] (ends.getD p.toNat 0) (ends.getD q.toNat 0) (rowS Bs [c0, c1, c2, c3, t]).1], some ⟨H5.size, 0, none⟩, 1) _ ⟨by subst hk3; simp at hb5; simp [moreS, hb5], sl_of (L := [funS [k, v, p, q, c0, c1, c2, c3, t] (ends.getD p.toNat 0) (ends.getD q.toNat 0) (rowS Bs [c0, c1, c2, c3, t]).1]) (cap := 1) (o := 0) (wide9 (nine1 hFl)) (by decide) hF.blk (by rw [List.drop_zero, List.take_of_length_le (by simpa [Is] using Nat.le_of_eq hFl)]; simp) (by simp) (by decide), nine1 hFl, by simp, hEc⟩) ⟨rfl, rfl, rfl, rfl, rfl, rfl, rfl, rfl, rfl, trivial⟩
        have hS1 : ∀ H', Ext H6 H' → SlT H' Is 9 (.slice (some ⟨H5.size, 0, none⟩) 1 1) [[k, v, p, q, c0, c1, c2, c3, t]] := fun H' h => (sl_of (L := [[k, v, p, q, c0, c1, c2, c3, t]]) (cap := 1) (o := 0) (wide9 (nine1 rfl)) (by decide) hY.blk rfl (by simp) (by decide)).ext h
        first | exact At.meets rfl (hJ (bd.nodes.map (movS out.length), A2, cap2) _ ⟨by have hk2 : k = 2 := of_decide_eq_true hb2; subst hk2; simp [moreS, hq], by simp only [List.length_map]; exact hS2, nine_mov hok.nine, by simp only [List.length_map]; have := hok.fits; omega, hE6.trans hE7⟩) ⟨by simp only [List.length_map]; rfl, rfl, rfl, rfl, rfl, rfl, rfl, rfl, rfl, trivial⟩ | exact At.meets rfl (hJ ([[k, v, p, q, c0, c1, c2, c3, t]], some ⟨H5.size, 0, none⟩, 1) _ ⟨more_nil (of_decide_eq_true hb2) hf hb3, hS1 _ (Ext.refl _), nine1 rfl, by simp, hE6⟩) ⟨rfl, rfl, rfl, rfl, rfl, rfl, rfl, rfl, rfl, trivial⟩ | exact At.meets rfl (hJ ([[k, v, p, q, c0, c1, c2, c3, t]], some ⟨H5.size, 0, none⟩, 1) _ ⟨more_else (of_decide_eq_false hb2) (of_decide_eq_false hb4), hS1 _ (Ext.refl _), nine1 rfl, by simp, hE6⟩) ⟨rfl, rfl, rfl, rfl, rfl, rfl, rfl, rfl, rfl, trivial⟩ | exact At.meets rfl (hJ ([funS [k, v, p, q, c0, c1, c2, c3, t] (ends.getD p.toNat 0) (ends.getD q.toNat 0) (rowS Bs [c0, c1, c2, c3, t]).1], some ⟨H5.size, 0, none⟩, 1) _ ⟨by subst hk3; simp at hb5; simp [moreS, hb5], sl_of (L := [funS [k, v, p, q, c0, c1, c2, c3, t] (ends.getD p.toNat 0) (ends.getD q.toNat 0) (rowS Bs [c0, c1, c2, c3, t]).1]) (cap := 1) (o := 0) (wide9 (nine1 hFl)) (by decide) hF.blk (by rw [List.drop_zero, List.take_of_length_le (by simpa [Is] using Nat.le_of_eq hFl)]; simp) (by simp) (by decide), nine1 hFl, by simp, hEc⟩) ⟨rfl, rfl, rfl, rfl, rfl, rfl, rfl, rfl, rfl, trivial⟩
      refine At.region rfl rfl ?_
      refine Reg.pur rfl rfl rfl rfl (Pur.eql rfl rfl) ?_
      refine Reg.pur rfl rfl rfl rfl (Pur.asg rfl) ?_
      refine Reg.nil ?_
      refine At.cond rfl rfl (fun hb4 => ?_) (fun hb4 => ?_)
      · have hk3 : k = 3 := of_decide_eq_true hb4
        have hf3 : q = (i : Int) - 1 ∧ 0 ≤ p ∧ p < (i : Int) - 1 ∧ 1 ≤ i := hfun hk3
        have htl := row_tail (nod3 hnod hk3)
        refine At.region rfl rfl ?_
        refine Reg.pur rfl rfl rfl rfl (Pur.mv rfl) ?_
        refine Reg.pur rfl rfl rfl rfl (Pur.fld _ fo65_4 rfl) ?_
        refine Reg.lod rfl rfl rfl rfl (Lod.ldn ag24 rfl hX6.blk (show _ = Is [c0, c1, c2, c3, t] from rfl) rfl) ?_
        refine Reg.op rfl rfl rfl rfl (Does.call rfl (ofRow_ok (hB.ext (hE3.trans hE6)) [c0, c1, c2, c3, t] rfl htl)) ?_
        rintro _ H7 ⟨rfl, hrl, hE7⟩
        refine Reg.pur rfl rfl rfl rfl (Pur.mv rfl) ?_
        refine Reg.pur rfl rfl rfl rfl (Pur.ext rfl rfl) ?_
        refine Reg.pur rfl rfl rfl rfl (Pur.ext rfl rfl) ?_
        refine Reg.op rfl rfl rfl rfl (Does.alloc zc24) ?_
        rintro _ H8 ⟨rfl, hn8⟩
        refine Reg.op0 rfl rfl rfl (Does.stn ag24 rfl rfl (ones_Is _) (by simp [hrl]) hn8.own (by decide)) ?_
        rintro _ H9 hu9
        refine Reg.pur rfl rfl rfl rfl (Pur.asg rfl) ?_
        refine Reg.nil ?_
        have hl36 : H3.size < H6.size := hX6.lt
        have hl56 : H5.size < H6.size := hY.lt
        have hl67 := hE7.1
        have hl13 : H1.size < H3.size := hEn.lt
        have hl13' : H3.size < H5.size := hX.lt
        have hE9 : Ext H3 H9 := (((hE6.trans hE7).trans hn8.ext)).upd hu9 (by omega)
        have hX9 := ((hX6.ext hE7).ext hn8.ext).upd hu9 (by omega)
        have hY9 := ((hY.ext hE7).ext hn8.ext).upd hu9 (by omega)
        have hEn9 := hEn.ext hE9
        have hRb9 := hRb.ext hE9
        have hZ : Own H9 H7.size (Is (rowS Bs [c0, c1, c2, c3, t]).1) := by have := hu9.own; rwa [over (by rfl)] at this
        refine At.region rfl rfl ?_
        refine Reg.pur rfl rfl rfl rfl (Pur.mv rfl) ?_
        refine Reg.pur rfl rfl rfl rfl (Pur.not rfl) ?_
        refine Reg.nil ?_
        refine At.cond rfl rfl (fun hb5 => ?_) (fun hb5 => ?_)
        · refine At.region rfl rfl ?_
          refine Reg.pur rfl rfl rfl rfl (Pur.bld (cs := [_]) pl55 zc55 rfl rfl ⟨rfl, rfl⟩) ?_
          refine Reg.op0 rfl rfl rfl (Does.stn ag55 rfl rfl rfl rfl hRb9 (by simp)) ?_
          rintro _ H10 hu10
          refine Reg.pur rfl rfl rfl rfl (Pur.asg rfl) ?_
          refine Reg.nil ?_
          have hR : Own H10 H.size [.slice none 0 0] := hu10.own
          have hRl : ([.slice none 0 0] : List Value).length = 1 := rfl
          refine At.retC rfl Tryd.func73 ⟨_, _, _, _, rfl, rfl, ⟨_, hR.blk, .inr ⟨_, _, ag55, (whole hRl), hRl, rfl⟩⟩, ⟨_, _, rfl, rfl, rfl⟩⟩ ?_
          first | (refine ⟨(hn1.ext.trans (hE.trans hE9)).upd hu10 (Nat.le_refl _), ?_⟩; rw [← hgo, show moreS Bs out ends [k, v, p, q, c0, c1, c2, c3, t] = none by subst hk3; simp at hb5; simp [moreS, hb5]]; exact rfl) | (refine ⟨(hn1.ext.trans (hE.trans hE7)).upd hu10 (Nat.le_refl _), ?_⟩; rw [← hgo, if_pos (by simp only [decide_eq_true_eq] at hb6; omega)]; exact rfl) | (refine ⟨(hn1.ext.trans hE).upd hu10 (Nat.le_refl _), ?_⟩; simp only [decide_eq_false_iff_not] at hb1; rw [List.drop_of_length_le (by omega)] at hgo; rw [← hgo]; exact ⟨A', cap', rfl, (hO.mono (by have := hn1.ext.1; omega)).but hu10.but (fun g hg he => by obtain ⟨_, _, _, hown⟩ := own_slice hO; have := hown g hg; omega), hN, hol⟩)
        refine At.draw (fun H' => Blk H' H3.size (Is [k, v, p, q, c0, c1, c2, c3, t]) ∧ Blk H' H1.size (Is (ends ++ List.replicate (L.length - i) 0)) ∧ Blk H' H7.size (Is (rowS Bs [c0, c1, c2, c3, t]).1)) [22] mixed rfl rfl ?_
        refine RegD.tpur (i := 0) rfl rfl rfl rfl (by kernel_rfl) (Pur.mv rfl) ?_
        refine RegD.tpur (i := 1) rfl rfl rfl rfl (by kernel_rfl) (Pur.mv rfl) ?_
        refine RegD.tpur (i := 2) rfl rfl rfl rfl (by kernel_rfl) (Pur.mv rfl) ?_
        refine RegD.tpur (i := 3) rfl rfl rfl rfl (by kernel_rfl) (Pur.mv rfl) ?_
        refine RegD.tpur (i := 4) rfl rfl rfl rfl (by kernel_rfl) (Pur.fld _ fo65_2 rfl) ?_
        refine RegD.take (i := 5) rfl rfl rfl rfl (by kernel_rfl) ⟨hX9.blk, hEn9.blk, hZ.blk⟩ (fun H hS => Lod.ld sc3 rfl hS.1 rfl) ?_
        refine RegD.tpur (i := 6) rfl rfl rfl rfl (by kernel_rfl) (Pur.idx _ es50 rfl rfl (by omega) (by omega)) ?_
        refine RegD.take (i := 7) rfl rfl rfl rfl (by kernel_rfl) ⟨hX9.blk, hEn9.blk, hZ.blk⟩ (fun H hS => Lod.ld sc3 rfl hS.2.1 (ends_at (by omega) (by omega))) ?_
        refine RegD.tpur (i := 8) rfl rfl rfl rfl (by kernel_rfl) (Pur.mv rfl) ?_
        refine RegD.tpur (i := 9) rfl rfl rfl rfl (by kernel_rfl) (Pur.fld _ fo65_3 rfl) ?_
        refine RegD.take (i := 10) rfl rfl rfl rfl (by kernel_rfl) ⟨hX9.blk, hEn9.blk, hZ.blk⟩ (fun H hS => Lod.ld sc3 rfl hS.1 rfl) ?_
        refine RegD.tpur (i := 11) rfl rfl rfl rfl (by kernel_rfl) (Pur.idx _ es50 rfl rfl (by omega) (by omega)) ?_
        refine RegD.take (i := 12) rfl rfl rfl rfl (by kernel_rfl) ⟨hX9.blk, hEn9.blk, hZ.blk⟩ (fun H hS => Lod.ld sc3 rfl hS.2.1 (ends_at (by omega) (by omega))) ?_
        refine RegD.take (i := 13) rfl rfl rfl rfl (by kernel_rfl) ⟨hX9.blk, hEn9.blk, hZ.blk⟩ (fun H hS => Lod.ldn ag24 rfl hS.2.2 (whole (by simp [hrl])) (by simp [hrl])) ?_
        refine RegD.tpur (i := 14) rfl rfl rfl rfl (by kernel_rfl) (Pur.idx _ es53 rfl rfl (by omega) (by omega)) ?_
        refine RegD.tpur (i := 15) rfl rfl rfl rfl (by kernel_rfl) (Pur.fld _ fo65_2 rfl) ?_
        refine RegD.one0 (i := 16) (by kernel_rfl) rfl rfl rfl (Does.st sc3 rfl rfl rfl hY9 (by simp)) ?_
        rintro _ Ha hua
        have hXa := hX9.upd hua (by omega)
        have hEna := hEn9.upd hua (by omega)
        have hZa := hZ.upd hua (by omega)
        refine ⟨fun _ _ => ⟨hXa.blk, hEna.blk, hZa.blk⟩, ?_⟩
        refine RegD.tpur (i := 17) rfl rfl rfl rfl (by kernel_rfl) (Pur.idx _ es53 rfl rfl (by omega) (by omega)) ?_
        refine RegD.tpur (i := 18) rfl rfl rfl rfl (by kernel_rfl) (Pur.fld _ fo65_3 rfl) ?_
        refine RegD.one0 (i := 19) (by kernel_rfl) rfl rfl rfl (Does.st sc3 rfl rfl rfl hua.own (by simp)) ?_
        rintro _ Hb hub
        have hXb := hXa.upd hub (by omega)
        have hEnb := hEna.upd hub (by omega)
        have hZb := hZa.upd hub (by omega)
        refine ⟨fun _ _ => ⟨hXb.blk, hEnb.blk, hZb.blk⟩, ?_⟩
        refine RegD.tpur (i := 20) rfl rfl rfl rfl (by kernel_rfl) (Pur.idx _ es53 rfl rfl (by omega) (by omega)) ?_
        refine RegD.tpur (i := 21) rfl rfl rfl rfl (by kernel_rfl) (Pur.fld _ fo65_4 rfl) ?_
        refine RegD.one0 (i := 22) (by kernel_rfl) rfl rfl rfl (Does.stn ag24 rfl rfl (ones_Is _) (by simp [hrl]) hub.own (by simp)) ?_
        rintro _ Hc huc
        refine ⟨fun h => (by cases h), ?_⟩
        refine RegD.done (by kernel_rfl) ?_
        have hF : Own Hc H5.size (Is (funS [k, v, p, q, c0, c1, c2, c3, t] (ends.getD p.toNat 0) (ends.getD q.toNat 0) (rowS Bs [c0, c1, c2, c3, t]).1)) := by have := huc.own; simpa [Is, funS] using this
        have hEc : Ext H3 Hc := ((hE9.upd hua (by omega)).upd hub (by omega)).upd huc (by omega)
        have hFl : (funS [k, v, p, q, c0, c1, c2, c3, t] (ends.getD p.toNat 0) (ends.getD q.toNat 0) (rowS Bs [c0, c1, c2, c3, t]).1).length = 9 := by simp [funS, hrl]
        have hS1 : ∀ H', Ext H6 H' → SlT H' Is 9 (.slice (some ⟨H5.size, 0, none⟩) 1 1) [[k, v, p, q, c0, c1, c2, c3, t]] := fun H' h => (sl_of (L := [[k, v, p, q, c0, c1, c2, c3, t]]) (cap := 1) (o := 0) (wide9 (nine1 rfl)) (by decide) hY.blk rfl (by simp) (by decide)).ext h
        first | exact At.meets rfl (hJ (bd.nodes.map (movS out.length), A2, cap2) _ ⟨by have hk2 : k = 2 := of_decide_eq_true hb2; subst hk2; simp [moreS, hq], by simp only [List.length_map]; exact hS2, nine_mov hok.nine, by simp only [List.length_map]; have := hok.fits; omega, hE6.trans hE7⟩) ⟨by simp only [List.length_map]; rfl, rfl, rfl, rfl, rfl, rfl, rfl, rfl, rfl, trivial⟩ | exact At.meets rfl (hJ ([[k, v, p, q, c0, c1, c2, c3, t]], some ⟨H5.size, 0, none⟩, 1) _ ⟨more_nil (of_decide_eq_true hb2) hf hb3, hS1 _ (Ext.refl _), nine1 rfl, by simp, hE6⟩) ⟨rfl, rfl, rfl, rfl, rfl, rfl, rfl, rfl, rfl, trivial⟩ | exact At.meets rfl (hJ ([[k, v, p, q, c0, c1, c2, c3, t]], some ⟨H5.size, 0, none⟩, 1) _ ⟨more_else (of_decide_eq_false hb2) (of_decide_eq_false hb4), hS1 _ (Ext.refl _), nine1 rfl, by simp, hE6⟩) ⟨rfl, rfl, rfl, rfl, rfl, rfl, rfl, rfl, rfl, trivial⟩ | exact At.meets rfl (hJ ([funS [k, v, p, q, c0, c1, c2, c3, t] (ends.getD p.toNat 0) (ends.getD q.toNat 0) (rowS Bs [c0, c1, c2, c3, t]).1], some ⟨H5.size, 0, none⟩, 1) _ ⟨by subst hk3; simp at hb5; simp [moreS, hb5], sl_of (L := [funS [k, v, p, q, c0, c1, c2, c3, t] (ends.getD p.toNat 0) (ends.getD q.toNat 0) (rowS Bs [c0, c1, c2, c3, t]).1]) (cap := 1) (o := 0) (wide9 (nine1 hFl)) (by decide) hF.blk (by rw [List.drop_zero, List.take_of_length_le (by simpa [Is] using Nat.le_of_eq hFl)]; simp) (by simp) (by decide), nine1 hFl, by simp, hEc⟩) ⟨rfl, rfl, rfl, rfl, rfl, rfl, rfl, rfl, rfl, trivial⟩
      have hS1 : ∀ H', Ext H6 H' → SlT H' Is 9 (.slice (some ⟨H5.size, 0, none⟩) 1 1) [[k, v, p, q, c0, c1, c2, c3, t]] := fun H' h => (sl_of (L := [[k, v, p, q, c0, c1, c2, c3, t]]) (cap := 1) (o := 0) (wide9 (nine1 rfl)) (by decide) hY.blk rfl (by simp) (by decide)).ext h
      first | exact At.meets rfl (hJ (bd.nodes.map (movS out.length), A2, cap2) _ ⟨by have hk2 : k = 2 := of_decide_eq_true hb2; subst hk2; simp [moreS, hq], by simp only [List.length_map]; exact hS2, nine_mov hok.nine, by simp only [List.length_map]; have := hok.fits; omega, hE6.trans hE7⟩) ⟨by simp only [List.length_map]; rfl, rfl, rfl, rfl, rfl, rfl, rfl, rfl, rfl, trivial⟩ | exact At.meets rfl (hJ ([[k, v, p, q, c0, c1, c2, c3, t]], some ⟨H5.size, 0, none⟩, 1) _ ⟨more_nil (of_decide_eq_true hb2) hf hb3, hS1 _ (Ext.refl _), nine1 rfl, by simp, hE6⟩) ⟨rfl, rfl, rfl, rfl, rfl, rfl, rfl, rfl, rfl, trivial⟩ | exact At.meets rfl (hJ ([[k, v, p, q, c0, c1, c2, c3, t]], some ⟨H5.size, 0, none⟩, 1) _ ⟨more_else (of_decide_eq_false hb2) (of_decide_eq_false hb4), hS1 _ (Ext.refl _), nine1 rfl, by simp, hE6⟩) ⟨rfl, rfl, rfl, rfl, rfl, rfl, rfl, rfl, rfl, trivial⟩ | exact At.meets rfl (hJ ([funS [k, v, p, q, c0, c1, c2, c3, t] (ends.getD p.toNat 0) (ends.getD q.toNat 0) (rowS Bs [c0, c1, c2, c3, t]).1], some ⟨H5.size, 0, none⟩, 1) _ ⟨by subst hk3; simp at hb5; simp [moreS, hb5], sl_of (L := [funS [k, v, p, q, c0, c1, c2, c3, t] (ends.getD p.toNat 0) (ends.getD q.toNat 0) (rowS Bs [c0, c1, c2, c3, t]).1]) (cap := 1) (o := 0) (wide9 (nine1 hFl)) (by decide) hF.blk (by rw [List.drop_zero, List.take_of_length_le (by simpa [Is] using Nat.le_of_eq hFl)]; simp) (by simp) (by decide), nine1 hFl, by simp, hEc⟩) ⟨rfl, rfl, rfl, rfl, rfl, rfl, rfl, rfl, rfl, trivial⟩
    obtain ⟨m, A2, cap2⟩ := s
    dsimp only at hmo hSm hNm hml ⊢
    rw [hmo] at hgo
    dsimp only at hgo
    have hl13 : H1.size < H3.size := hEn.lt
    have hO7 := hO.ext hE7
    have hEn7 := hEn.ext hE7
    have hRb7 := hRb.ext hE7
    obtain ⟨_, _, _, hown⟩ := own_slice hO
    refine At.region rfl rfl ?_
    refine Reg.pur rfl rfl rfl rfl (Pur.mv rfl) ?_
    refine Reg.pur rfl rfl rfl rfl (Pur.lenS isl53 rfl) ?_
    refine Reg.pur rfl rfl rfl rfl (Pur.mv rfl) ?_
    refine Reg.pur rfl rfl rfl rfl (Pur.lenS isl53 rfl) ?_
    first | refine Reg.pur rfl rfl rfl rfl (Pur.add64 rfl rfl (by omega)) ?_ | refine Reg.pur rfl rfl rfl rfl (Pur.add64 rfl rfl (by assumption)) ?_ | refine Reg.pur rfl rfl rfl rfl (Pur.add rfl rfl) ?_
    refine Reg.pur rfl rfl rfl rfl (Pur.gtr rfl rfl) ?_
    refine Reg.nil ?_
    refine At.cond rfl rfl (fun hb6 => ?_) (fun hb6 => ?_)
    · refine At.region rfl rfl ?_
      refine Reg.pur rfl rfl rfl rfl (Pur.bld (cs := [_]) pl55 zc55 rfl rfl ⟨rfl, rfl⟩) ?_
      refine Reg.op0 rfl rfl rfl (Does.stn ag55 rfl rfl rfl rfl hRb7 (by simp)) ?_
      rintro _ H10 hu10
      refine Reg.pur rfl rfl rfl rfl (Pur.asg rfl) ?_
      refine Reg.nil ?_
      have hR : Own H10 H.size [.slice none 0 0] := hu10.own
      have hRl : ([.slice none 0 0] : List Value).length = 1 := rfl
      refine At.retC rfl Tryd.func73 ⟨_, _, _, _, rfl, rfl, ⟨_, hR.blk, .inr ⟨_, _, ag55, (whole hRl), hRl, rfl⟩⟩, ⟨_, _, rfl, rfl, rfl⟩⟩ ?_
      first | (refine ⟨(hn1.ext.trans (hE.trans hE9)).upd hu10 (Nat.le_refl _), ?_⟩; rw [← hgo, show moreS Bs out ends [k, v, p, q, c0, c1, c2, c3, t] = none by subst hk3; simp at hb5; simp [moreS, hb5]]; exact rfl) | (refine ⟨(hn1.ext.trans (hE.trans hE7)).upd hu10 (Nat.le_refl _), ?_⟩; rw [← hgo, if_pos (by simp only [decide_eq_true_eq] at hb6; omega)]; exact rfl) | (refine ⟨(hn1.ext.trans hE).upd hu10 (Nat.le_refl _), ?_⟩; simp only [decide_eq_false_iff_not] at hb1; rw [List.drop_of_length_le (by omega)] at hgo; rw [← hgo]; exact ⟨A', cap', rfl, (hO.mono (by have := hn1.ext.1; omega)).but hu10.but (fun g hg he => by obtain ⟨_, _, _, hown⟩ := own_slice hO; have := hown g hg; omega), hN, hol⟩)
    have hsm : out.length + m.length ≤ 256 := by simp only [decide_eq_false_iff_not] at hb6; omega
    refine At.region rfl rfl ?_
    refine Reg.pur rfl rfl rfl rfl (Pur.mv rfl) ?_
    refine Reg.pur rfl rfl rfl rfl (Pur.mv rfl) ?_
    refine Reg.op rfl rfl rfl rfl (Does.app apt53 rfl rfl hO7 (sl_src (wide9 hNm) hSm) (ones_flat m) (by rw [show maxLen = 9223372036854775807 from rfl]; omega) (by omega) (by have := hn2.size; have := hE7.1; omega)) ?_
    rintro v8 H8 ⟨ho8, hbut, _, _⟩
    refine Reg.pur rfl rfl rfl rfl (Pur.asg rfl) ?_
    refine Reg.nil ?_
    obtain ⟨A8, cap8, rfl, hB8⟩ := own_slice ho8
    have hE8 : Ext H1 H8 := (hE.trans hE7).trBut hbut (fun b hb h => by have := hown b h; omega)
    have hEn8 := hEn7.but hbut (fun h => by have := hown _ h; omega)
    have hRb8 := hRb7.but hbut (fun h => by have := hown _ h; omega)
    refine At.region rfl rfl ?_
    refine Reg.pur rfl rfl rfl rfl (Pur.mv rfl) ?_
    refine Reg.pur rfl rfl rfl rfl (Pur.mv rfl) ?_
    refine Reg.pur rfl rfl rfl rfl (Pur.mv rfl) ?_
    refine Reg.pur rfl rfl rfl rfl (Pur.lenS isl53 rfl) ?_
    first | refine Reg.pur rfl rfl rfl rfl (Pur.sub64 rfl rfl (by omega)) ?_ | refine Reg.pur rfl rfl rfl rfl (Pur.sub64 rfl rfl (by assumption)) ?_ | refine Reg.pur rfl rfl rfl rfl (Pur.sub rfl rfl) ?_
    refine Reg.pur rfl rfl rfl rfl (Pur.idx _ es50 rfl rfl (by omega) (by omega)) ?_
    refine Reg.op0 rfl rfl rfl (Does.st sc3 rfl rfl rfl hEn8 (by simp; omega)) ?_
    rintro _ H9 hu9
    refine Reg.nil ?_
    refine At.region rfl rfl ?_
    first | refine Reg.pur rfl rfl rfl rfl (Pur.add64 rfl rfl (by omega)) ?_ | refine Reg.pur rfl rfl rfl rfl (Pur.add64 rfl rfl (by assumption)) ?_ | refine Reg.pur rfl rfl rfl rfl (Pur.add rfl rfl) ?_
    refine Reg.pur rfl rfl rfl rfl (Pur.mv rfl) ?_
    refine Reg.nil ?_
    have hla : (out ++ m).length = out.length + m.length := List.length_append
    have hoN : OwnS H9 H2.size 65 9 (.slice A8 (out ++ m).length cap8) (out ++ m).length ((out ++ m).flatMap Is) := by rw [hla, List.flatMap_append]; exact ho8.but hu9.but (fun g hg he => by have := hB8 g hg; omega)
    have hEn9 : Own H9 H1.size (Is ((ends ++ [((out.length + m.length : Nat) : Int) - 1]) ++ List.replicate (L.length - (i + 1)) 0)) := by rw [← ends_set hel hlt]; exact hu9.own
    have hgo9 : goS Bs (L.drop (i + 1)) (out ++ m) (ends ++ [((out.length + m.length : Nat) : Int) - 1]) = typS Bs L := by rw [← hgo, if_neg (by omega)]
    rw [← hla]
    exact At.via (ih (i + 1, out ++ m, ends ++ [((out.length + m.length : Nat) : Int) - 1], A8, cap8) H9 ⟨by omega, by simp only [hla]; omega, by simp [hel], (fun x hx => (List.mem_append.1 hx).elim (hN x) (hNm x)), hoN, hEn9, hRb8.upd hu9 (by omega), hE8.upd hu9 (Nat.le_refl _), hgo9⟩ (by simp only; omega)) ⟨rfl, rfl, rfl, rfl, rfl, rfl, rfl, trivial⟩
  refine At.region rfl rfl ?_
  refine Reg.pur rfl rfl rfl rfl (Pur.mv rfl) ?_
  refine Reg.pur rfl rfl rfl rfl (Pur.bld (cs := [_]) pl55 zc55 rfl rfl ⟨rfl, rfl⟩) ?_
  refine Reg.op0 rfl rfl rfl (Does.stn ag55 rfl rfl rfl rfl hRb (by simp)) ?_
  rintro _ H10 hu10
  refine Reg.pur rfl rfl rfl rfl (Pur.asg rfl) ?_
  refine Reg.nil ?_
  have hR : Own H10 H.size [.slice A' out.length cap'] := hu10.own
  have hRl : ([.slice A' out.length cap'] : List Value).length = 1 := rfl
  refine At.retC rfl Tryd.func73 ⟨_, _, _, _, rfl, rfl, ⟨_, hR.blk, .inr ⟨_, _, ag55, (whole hRl), hRl, rfl⟩⟩, ⟨_, _, rfl, rfl, rfl⟩⟩ ?_
  first | (refine ⟨(hn1.ext.trans (hE.trans hE9)).upd hu10 (Nat.le_refl _), ?_⟩; rw [← hgo, show moreS Bs out ends [k, v, p, q, c0, c1, c2, c3, t] = none by subst hk3; simp at hb5; simp [moreS, hb5]]; exact rfl) | (refine ⟨(hn1.ext.trans (hE.trans hE7)).upd hu10 (Nat.le_refl _), ?_⟩; rw [← hgo, if_pos (by simp only [decide_eq_true_eq] at hb6; omega)]; exact rfl) | (refine ⟨(hn1.ext.trans hE).upd hu10 (Nat.le_refl _), ?_⟩; simp only [decide_eq_false_iff_not] at hb1; rw [List.drop_of_length_le (by omega)] at hgo; rw [← hgo]; exact ⟨A', cap', rfl, (hO.mono (by have := hn1.ext.1; omega)).but hu10.but (fun g hg he => by obtain ⟨_, _, _, hown⟩ := own_slice hO; have := hown g hg; omega), hN, hol⟩)
end Go.Proofs.YtlfillhffpiffaaDoor

namespace Go.Proofs.YtlfillhffpiffaaDoor
set_option linter.unusedSimpArgs false
set_option linter.unusedVariables false
set_option maxRecDepth 8000
open Go Go.Fx Go.Proofs
namespace FactsSubL

end FactsSubL
open FactsSubL

theorem nine_app {L M : List (List Int)} (h : Nine L) (h' : Nine M) : Nine (L ++ M) := fun x hx => (List.mem_append.1 hx).elim (h x) (h' x)

end Go.Proofs.YtlfillhffpiffaaDoor

namespace Go.Proofs.YtlfillhffpiffaaDoor
set_option linter.unusedSimpArgs false
set_option linter.unusedVariables false
set_option maxRecDepth 8000
open Go Go.Fx Go.Proofs
namespace FactsSubM
theorem ag55 : ag Tryd.prog 55 = some 1 := by kernel_rfl
theorem pl55 : places Tryd.prog 55 = some [(0, 1)] := by kernel_rfl
theorem zc55 : zc Tryd.prog 55 = some [.slice none 0 0] := by kernel_rfl
end FactsSubM
open FactsSubM

def TypV (B : Nat) (H' : Heap) (w v : Value) (out : List (List Int)) : Prop :=
  ∃ A' cap', v = .tuple #[Ty A' out.length cap', w] ∧ OwnS H' B 65 9 (.slice A' out.length cap') out.length (out.flatMap Is) ∧ Nine out ∧ out.length ≤ 256
theorem TypB.v {B : Nat} {H' : Heap} {v : Value} {o : Option (List (List Int))} (h : TypB B H' v o) : TypV B H' (.bool o.isSome) v (o.getD []) := by
  cases o with
  | none => exact ⟨none, 0, h, OwnS.nil _ _ _ _, (fun x hx => by cases hx), by simp⟩
  | some out => exact h
theorem TypV.non {B : Nat} {H' : Heap} {w v : Value} (h : v = .tuple #[Ty none 0 0, w]) : TypV B H' w v [] := ⟨none, 0, h, OwnS.nil _ _ _ _, (fun x hx => by cases hx), by simp⟩
def ce (b : Bool) : Int := if b then 0 else 900
def subT (Bs : List Bd) (L : List (List Int)) : Option (List (List Int)) := if bindsM Bs = true ∧ typM L = true then typS Bs L else none
theorem type_ok {A A1 : Option Addr} {cap cap1 : Nat} {Bs : List Bd} {L : List (List Int)} {H : Heap} (hB : Bds H (.slice A Bs.length cap) Bs) (hS : SlT H Is 9 (.slice A1 L.length cap1) L) (hL : Nine L) (hm : L.length * 72 ≤ 140737488351232) :
    Ret Tryd.prog 51 [.slice A Bs.length cap, Ty A1 L.length cap1] H (fun v H' => Ext H H' ∧ TypV H.size H' (I (ce (subT Bs L).isSome)) v ((subT Bs L).getD [])) := by
  refine Ret.of_at (N := 26) Tryd.call51 Tryd.func51 rfl rfl rfl ?_
  have hE := Ext.refl H
  refine At.region rfl rfl ?_
  refine Reg.op rfl rfl rfl rfl (Does.box rfl rfl) ?_
  rintro _ H0_0 ⟨rfl, hn0_0⟩
  have z0_0 := hn0_0.size
  replace hE := hE.ext hn0_0.ext
  have o0_0 := hn0_0.own
  refine Reg.op rfl rfl rfl rfl (Does.alloc zc55) ?_
  rintro _ H0_1 ⟨rfl, hn0_1⟩
  have z0_1 := hn0_1.size
  replace hE := hE.ext hn0_1.ext
  replace o0_0 := o0_0.ext hn0_1.ext
  have o0_1 := hn0_1.own
  refine Reg.pur rfl rfl rfl rfl (Pur.asg rfl) ?_
  refine Reg.nil ?_
  refine At.region rfl rfl ?_
  refine Reg.pur rfl rfl rfl rfl (Pur.mv rfl) ?_
  refine Reg.op rfl rfl rfl rfl (Does.call rfl (bindsMay_ok (hB.ext hE))) ?_
  rintro _ H1_1 ⟨rfl, hE1_1⟩
  have z1_1 := hE1_1.lt
  replace hE := hE.ext hE1_1
  replace o0_0 := o0_0.ext hE1_1
  replace o0_1 := o0_1.ext hE1_1
  refine Reg.pur rfl rfl rfl rfl (Pur.not rfl) ?_
  refine Reg.pur rfl rfl rfl rfl (Pur.mv rfl) ?_
  refine Reg.case 11 rfl (fun q11 => ?_) (fun q11 => ?_)
  · first | (simp only [decide_eq_true_eq, decide_eq_false_iff_not, Bool.not_eq_true', Bool.not_eq_false', ne_eq, Decidable.not_not, Bool.not_eq_true, Bool.not_eq_false] at q11) | (dsimp only at q11) | skip
    refine Reg.skip rfl rfl rfl rfl rfl rfl rfl ?_
    refine Reg.skip rfl rfl rfl rfl rfl rfl rfl ?_
    refine Reg.skip rfl rfl rfl rfl rfl rfl rfl ?_
    refine Reg.pur rfl rfl rfl rfl (Pur.pickT rfl rfl) ?_
    refine Reg.nil ?_
    refine At.condT rfl rfl rfl ?_
    refine At.region rfl rfl ?_
    refine Reg.pur rfl rfl rfl rfl (Pur.bld (cs := [_]) pl55 zc55 rfl rfl ⟨rfl, rfl⟩) ?_
    refine Reg.op0 rfl rfl rfl (Does.stn ag55 rfl rfl (by first | rfl | exact ones_Is _) (by first | rfl | (simp [*]; done)) o0_1 (by first | decide | (simp; done) | (simp; omega) | omega)) ?_
    rintro _ H2_1 hu2_1
    have z2_1 := hu2_1.size
    replace hE := hE.upw hu2_1 (by omega)
    replace o0_0 := o0_0.upw hu2_1 (by omega)
    replace o0_1 := hu2_1.own
    first | rw [over (by first | rfl | (simp; done))] at o0_1 | skip
    refine Reg.pur rfl rfl rfl rfl (Pur.asg rfl) ?_
    refine Reg.nil ?_
    refine At.retC rfl Tryd.func51 ⟨_, _, _, _, rfl, rfl, ⟨_, o0_1.blk, .inr ⟨_, _, ag55, (by first | exact whole rfl | exact whole (by simp [*])), (by first | rfl | simp [*]), rfl⟩⟩, ⟨_, _, rfl, rfl, rfl⟩⟩ ?_
    refine ⟨hE, ?_⟩
    rw [show subT Bs L = none by unfold subT; rw [if_neg]; simp_all]
    exact TypV.non rfl
  first | (simp only [decide_eq_true_eq, decide_eq_false_iff_not, Bool.not_eq_true', Bool.not_eq_false', ne_eq, Decidable.not_not, Bool.not_eq_true, Bool.not_eq_false] at q11) | (dsimp only at q11) | skip
  refine Reg.glod rfl rfl rfl rfl rfl rfl (Lod.ldn ag55 rfl o0_0.blk (by first | exact whole rfl | rfl | (simp only [List.drop_succ_cons, List.drop_zero, List.take_succ_cons, List.take_zero]; rfl)) (by first | rfl | (simp [*]; done))) ?_
  refine Reg.gop rfl rfl rfl rfl rfl rfl (Does.call rfl (typMay_ok L hL (hS.ext hE) (by omega))) ?_
  rintro _ H1_5 ⟨rfl, hE1_5⟩
  have z1_5 := hE1_5.lt
  replace hE := hE.ext hE1_5
  replace o0_0 := o0_0.ext hE1_5
  replace o0_1 := o0_1.ext hE1_5
  refine Reg.gpur rfl rfl rfl rfl rfl rfl (Pur.not rfl) ?_
  refine Reg.pur rfl rfl rfl rfl (Pur.pickF rfl rfl) ?_
  refine Reg.nil ?_
  refine At.cond rfl rfl (fun q15 => ?_) (fun q15 => ?_)
  · first | (simp only [decide_eq_true_eq, decide_eq_false_iff_not, Bool.not_eq_true', Bool.not_eq_false', ne_eq, Decidable.not_not, Bool.not_eq_true, Bool.not_eq_false] at q15) | (dsimp only at q15) | skip
    refine At.region rfl rfl ?_
    refine Reg.pur rfl rfl rfl rfl (Pur.bld (cs := [_]) pl55 zc55 rfl rfl ⟨rfl, rfl⟩) ?_
    refine Reg.op0 rfl rfl rfl (Does.stn ag55 rfl rfl (by first | rfl | exact ones_Is _) (by first | rfl | (simp [*]; done)) o0_1 (by first | decide | (simp; done) | (simp; omega) | omega)) ?_
    rintro _ H2_1 hu2_1
    have z2_1 := hu2_1.size
    replace hE := hE.upw hu2_1 (by omega)
    replace o0_0 := o0_0.upw hu2_1 (by omega)
    replace o0_1 := hu2_1.own
    first | rw [over (by first | rfl | (simp; done))] at o0_1 | skip
    refine Reg.pur rfl rfl rfl rfl (Pur.asg rfl) ?_
    refine Reg.nil ?_
    refine At.retC rfl Tryd.func51 ⟨_, _, _, _, rfl, rfl, ⟨_, o0_1.blk, .inr ⟨_, _, ag55, (by first | exact whole rfl | exact whole (by simp [*])), (by first | rfl | simp [*]), rfl⟩⟩, ⟨_, _, rfl, rfl, rfl⟩⟩ ?_
    refine ⟨hE, ?_⟩
    rw [show subT Bs L = none by unfold subT; rw [if_neg]; simp_all]
    exact TypV.non rfl
  first | (simp only [decide_eq_true_eq, decide_eq_false_iff_not, Bool.not_eq_true', Bool.not_eq_false', ne_eq, Decidable.not_not, Bool.not_eq_true, Bool.not_eq_false] at q15) | (dsimp only at q15) | skip
  have hM : typM L = true := q15
  refine At.region rfl rfl ?_
  refine Reg.pur rfl rfl rfl rfl (Pur.mv rfl) ?_
  refine Reg.op rfl rfl rfl rfl (Does.call rfl (ofType_ok (hB.ext hE) (hS.ext hE) hL hM o0_0.blk rfl)) ?_
  rintro v3_1 H3_1 ⟨hE3_1, hT3_1⟩
  have z3_1 := hE3_1.lt
  replace hE := hE.ext hE3_1
  replace o0_0 := o0_0.ext hE3_1
  replace o0_1 := o0_1.ext hE3_1
  obtain ⟨A', cap', rfl, ho, hN, hl⟩ := hT3_1.v
  have z_ho := ho.lt
  refine Reg.pur rfl rfl rfl rfl (Pur.mv rfl) ?_
  refine Reg.pur rfl rfl rfl rfl (Pur.ext rfl rfl) ?_
  refine Reg.pur rfl rfl rfl rfl (Pur.ext rfl rfl) ?_
  refine Reg.op rfl rfl rfl rfl (Does.alloc zc55) ?_
  rintro _ H3_5 ⟨rfl, hn3_5⟩
  have z3_5 := hn3_5.size
  replace hE := hE.ext hn3_5.ext
  replace o0_0 := o0_0.ext hn3_5.ext
  replace o0_1 := o0_1.ext hn3_5.ext
  replace ho := ho.ext hn3_5.ext
  have o3_5 := hn3_5.own
  refine Reg.op0 rfl rfl rfl (Does.stn ag55 rfl rfl (by first | rfl | exact ones_Is _) (by first | rfl | (simp [*]; done)) o3_5 (by first | decide | (simp; done) | (simp; omega) | omega)) ?_
  rintro _ H3_6 hu3_6
  have z3_6 := hu3_6.size
  replace hE := hE.upw hu3_6 (by omega)
  replace o0_0 := o0_0.upw hu3_6 (by omega)
  replace o0_1 := o0_1.upw hu3_6 (by omega)
  replace ho := ho.upw hu3_6 (by omega)
  replace o3_5 := hu3_6.own
  first | rw [over (by first | rfl | (simp; done))] at o3_5 | skip
  refine Reg.pur rfl rfl rfl rfl (Pur.asg rfl) ?_
  refine Reg.nil ?_
  have hq : subT Bs L = typS Bs L := by unfold subT; rw [if_pos ⟨q11, hM⟩]
  refine At.region rfl rfl ?_
  refine Reg.pur rfl rfl rfl rfl (Pur.mv rfl) ?_
  refine Reg.pur rfl rfl rfl rfl (Pur.not rfl) ?_
  refine Reg.nil ?_
  refine At.cond rfl rfl (fun q23 => ?_) (fun q23 => ?_)
  · first | (simp only [decide_eq_true_eq, decide_eq_false_iff_not, Bool.not_eq_true', Bool.not_eq_false', ne_eq, Decidable.not_not, Bool.not_eq_true, Bool.not_eq_false] at q23) | (dsimp only at q23) | skip
    refine At.region rfl rfl ?_
    refine Reg.pur rfl rfl rfl rfl (Pur.bld (cs := [_]) pl55 zc55 rfl rfl ⟨rfl, rfl⟩) ?_
    refine Reg.op0 rfl rfl rfl (Does.stn ag55 rfl rfl (by first | rfl | exact ones_Is _) (by first | rfl | (simp [*]; done)) o0_1 (by first | decide | (simp; done) | (simp; omega) | omega)) ?_
    rintro _ H5_1 hu5_1
    have z5_1 := hu5_1.size
    replace hE := hE.upw hu5_1 (by omega)
    replace o0_0 := o0_0.upw hu5_1 (by omega)
    replace ho := ho.upw hu5_1 (by omega)
    replace o3_5 := o3_5.upw hu5_1 (by omega)
    replace o0_1 := hu5_1.own
    first | rw [over (by first | rfl | (simp; done))] at o0_1 | skip
    refine Reg.pur rfl rfl rfl rfl (Pur.asg rfl) ?_
    refine Reg.nil ?_
    refine At.retC rfl Tryd.func51 ⟨_, _, _, _, rfl, rfl, ⟨_, o0_1.blk, .inr ⟨_, _, ag55, (by first | exact whole rfl | exact whole (by simp [*])), (by first | rfl | simp [*]), rfl⟩⟩, ⟨_, _, rfl, rfl, rfl⟩⟩ ?_
    refine ⟨hE, ?_⟩
    rw [hq]
    cases hh : typS Bs L with
    | none => exact TypV.non rfl
    | some out => rw [hh] at q23; cases q23
  first | (simp only [decide_eq_true_eq, decide_eq_false_iff_not, Bool.not_eq_true', Bool.not_eq_false', ne_eq, Decidable.not_not, Bool.not_eq_true, Bool.not_eq_false] at q23) | (dsimp only at q23) | skip
  refine At.region rfl rfl ?_
  refine Reg.lod rfl rfl rfl rfl (Lod.ldn ag55 rfl o3_5.blk (by first | exact whole rfl | rfl | (simp only [List.drop_succ_cons, List.drop_zero, List.take_succ_cons, List.take_zero]; rfl)) (by first | rfl | (simp [*]; done))) ?_
  refine Reg.op0 rfl rfl rfl (Does.stn ag55 rfl rfl (by first | rfl | exact ones_Is _) (by first | rfl | (simp [*]; done)) o0_1 (by first | decide | (simp; done) | (simp; omega) | omega)) ?_
  rintro _ H6_1 hu6_1
  have z6_1 := hu6_1.size
  replace hE := hE.upw hu6_1 (by omega)
  replace o0_0 := o0_0.upw hu6_1 (by omega)
  replace ho := ho.upw hu6_1 (by omega)
  replace o3_5 := o3_5.upw hu6_1 (by omega)
  replace o0_1 := hu6_1.own
  first | rw [over (by first | rfl | (simp; done))] at o0_1 | skip
  refine Reg.pur rfl rfl rfl rfl (Pur.asg rfl) ?_
  refine Reg.nil ?_
  refine At.retC rfl Tryd.func51 ⟨_, _, _, _, rfl, rfl, ⟨_, o0_1.blk, .inr ⟨_, _, ag55, (by first | exact whole rfl | exact whole (by simp [*])), (by first | rfl | simp [*]), rfl⟩⟩, ⟨_, _, rfl, rfl, rfl⟩⟩ ?_
  refine ⟨hE, ?_⟩
  rw [hq]
  rw [show (typS Bs L).isSome = true from q23]
  exact ⟨A', cap', rfl, ho.mono (by omega), hN, hl⟩

end Go.Proofs.YtlfillhffpiffaaDoor

namespace Go.Proofs.YtlfillhffpiffaaDoor
set_option linter.unusedSimpArgs false
set_option linter.unusedVariables false
set_option maxRecDepth 8000
open Go Go.Fx Go.Proofs
namespace FactsSubN
theorem ag24 : ag Tryd.prog 24 = some 5 := by kernel_rfl
theorem ag55 : ag Tryd.prog 55 = some 1 := by kernel_rfl
theorem eqt24 : eqT Tryd.prog 24 = some [.int .i64, .int .i64, .int .i64, .int .i64, .int .i64] := by kernel_rfl
theorem es25 : esz Tryd.prog 25 = some 8 := by kernel_rfl
theorem fo57_0 : foff Tryd.prog 57 0 = some 0 := by kernel_rfl
theorem fo57_1 : foff Tryd.prog 57 1 = some 1 := by kernel_rfl
theorem fo57_2 : foff Tryd.prog 57 2 = some 2 := by kernel_rfl
theorem fo57_3 : foff Tryd.prog 57 3 = some 3 := by kernel_rfl
theorem isl25 : isSl Tryd.prog 25 = true := by kernel_rfl
theorem mixed : Tryd.prog.follows .mixedOrders = true := by kernel_rfl
theorem sc3 : sc Tryd.prog 3 = true := by kernel_rfl
theorem sc4 : sc Tryd.prog 4 = true := by kernel_rfl
end FactsSubN
open FactsSubN

def pl (b : Bd) : Int × Bool × List (List Int) × List Int := (b.var, b.isRow, b.nodes, b.row)
end Go.Proofs.YtlfillhffpiffaaDoor

namespace Go.Proofs.YtlfillhffpiffaaDoor
set_option linter.unusedSimpArgs false
set_option linter.unusedVariables false
set_option maxRecDepth 8000
open Go Go.Fx Go.Proofs
namespace FactsSchI
theorem es50 : esz Tryd.prog 50 = some 1 := by kernel_rfl
theorem isl50 : isSl Tryd.prog 50 = true := by kernel_rfl
theorem mixed : Tryd.prog.follows .mixedOrders = true := by kernel_rfl
theorem sc3 : sc Tryd.prog 3 = true := by kernel_rfl
end FactsSchI
open FactsSchI

end Go.Proofs.YtlfillhffpiffaaDoor

namespace Go.Proofs.YtlfillhffpiffaaDoor
set_option linter.unusedSimpArgs false
set_option linter.unusedVariables false
set_option maxRecDepth 8000
open Go Go.Fx Go.Proofs
namespace FactsSchL

end FactsSchL
open FactsSchL

abbrev Five (L : List (List Int)) : Prop := ∀ x ∈ L, x.length = 5
end Go.Proofs.YtlfillhffpiffaaDoor

namespace Go.Proofs.YtlfillhffpiffaaDoor
set_option linter.unusedSimpArgs false
set_option linter.unusedVariables false
set_option maxRecDepth 8000
open Go Go.Fx Go.Proofs
namespace FactsSubO

end FactsSubO
open FactsSubO

theorem numE_ok (n : Int) (H : Heap) : Ret Tryd.prog 25 [I n] H (fun v H' => v = I n ∧ H' = H) := by
  refine Ret.of_at (N := 4) Tryd.call25 Tryd.func25 rfl rfl rfl ?_
  refine At.region rfl rfl ?_
  refine Reg.pur rfl rfl rfl rfl (Pur.asg rfl) ?_
  refine Reg.nil ?_
  refine At.region rfl rfl ?_
  refine Reg.pur rfl rfl rfl rfl (Pur.mv rfl) ?_
  refine Reg.pur rfl rfl rfl rfl (Pur.asg rfl) ?_
  refine Reg.nil ?_
  refine At.ret rfl Tryd.func25 rfl ?_
  exact ⟨rfl, rfl⟩
end Go.Proofs.YtlfillhffpiffaaDoor

namespace Go.Proofs.YtlfillhffpiffaaDoor
set_option linter.unusedSimpArgs false
set_option linter.unusedVariables false
set_option maxRecDepth 8000
open Go Go.Fx Go.Proofs
namespace FactsSubP

end FactsSubP
open FactsSubP

theorem nine_lit {L : List (List Int)} (h : (L.all fun x => x.length == 9) = true) : Nine L := by
  intro x hx
  have := List.all_eq_true.1 h x hx
  simpa using this
end Go.Proofs.YtlfillhffpiffaaDoor

namespace Go.Proofs.YtlfillhffpiffaaDoor
set_option linter.unusedSimpArgs false
set_option linter.unusedVariables false
set_option maxRecDepth 8000
set_option maxHeartbeats 1000000
open Go Go.Fx Go.Proofs
namespace FactsSchO

end FactsSchO
open FactsSchO

theorem k5 : Five [[0, 0, 0, 0, -1]] := by intro x hx; simp at hx; subst hx; rfl
end Go.Proofs.YtlfillhffpiffaaDoor

namespace Go.Proofs.YtlfillhffpiffaaDoor
set_option linter.unusedSimpArgs false
set_option linter.unusedVariables false
set_option maxRecDepth 8000
set_option maxHeartbeats 2000000
open Go Go.Fx Go.Proofs
namespace FactsSchR

end FactsSchR
open FactsSchR

theorem sl_own {α : Type} {enc : α → List Value} {n b : Nat} {L : List α} {H : Heap} (hL : Wide enc n L) (hn : 0 < n) (h : Own H b (L.flatMap enc)) (hl : L.length ≤ 1000) : SlT H enc n (.slice (some ⟨b, 0, none⟩) L.length L.length) L :=
  sl_of hL hn h.blk (by rw [List.drop_zero, List.take_of_length_le (by rw [flat_len hL]; exact Nat.le_refl _)]) (Nat.le_refl _) (by omega)
end Go.Proofs.YtlfillhffpiffaaDoor

namespace Go.Proofs.YtlfillhffpiffaaDoor
set_option linter.unusedSimpArgs false
set_option linter.unusedVariables false
set_option maxRecDepth 8000
open Go Go.Fx Go.Proofs
namespace FactsSubQ

end FactsSubQ
open FactsSubQ

theorem type_of_fits {H : Heap} {v : Value} (h : fitc H (.sl 72 (List.replicate 9 (.int .i64))) v) : ∃ (A : Option Addr) (cap : Nat) (L : List (List Int)), v = .slice A L.length cap ∧ Nine L ∧ SlT H Is 9 (.slice A L.length cap) L ∧ L.length * 72 ≤ 140737488351232 := by
  obtain ⟨L, hL, hS, hb⟩ := SlT.of_fits (p := fun x : List Int => x.length = 9) (enc := Is) h (fun cs h => by obtain ⟨xs, rfl, hl, _⟩ := fit_ints h; exact ⟨xs, hl, rfl⟩)
  have hS' := hS
  obtain ⟨A, cap, rfl, _⟩ := hS'
  exact ⟨A, cap, L, rfl, hL, hS, by rw [show reachBytes = 140737488351232 from rfl] at hb; omega⟩
theorem bd_of_fits {H : Heap} {cs : List Value} (h : fits H (.int .i64 :: .bool :: .sl 72 (List.replicate 9 (.int .i64)) :: List.replicate 5 (.int .i64)) cs) : ∃ b : Bd, b.Ok H ∧ cs = encB b := by
  simp only [fits] at h
  obtain ⟨v1, r1, rfl, h1, v2, r2, rfl, h2, v3, r3, rfl, h3, h4⟩ := h
  simp only [fitc] at h1 h2
  obtain ⟨n, rfl, _⟩ := h1
  obtain ⟨b, rfl⟩ := h2
  obtain ⟨A, cap, L, rfl, hL, hS, hb⟩ := type_of_fits h3
  obtain ⟨xs, rfl, hl, _⟩ := fit_ints h4
  exact ⟨⟨n, b, A, cap, L, xs⟩, ⟨hS, hL, hl, hb⟩, rfl⟩
theorem binds_of_fits {H : Heap} {v : Value} (h : fitc H (.sl 80 (.int .i64 :: .bool :: .sl 72 (List.replicate 9 (.int .i64)) :: List.replicate 5 (.int .i64))) v) : ∃ (A : Option Addr) (cap : Nat) (Bs : List Bd), v = .slice A Bs.length cap ∧ Bds H (.slice A Bs.length cap) Bs := by
  obtain ⟨L, hL, hS, hb⟩ := SlT.of_fits (p := fun b : Bd => b.Ok H) (enc := encB) h (fun cs h => bd_of_fits h)
  have hS' := hS
  obtain ⟨A, cap, rfl, _⟩ := hS'
  exact ⟨A, cap, L, rfl, ⟨hS, hL, by rw [show reachBytes = 140737488351232 from rfl] at hb; omega⟩⟩

end Go.Proofs.YtlfillhffpiffaaDoor

namespace Go.Proofs.YtlfillhffpiffaaDoor
set_option linter.unusedSimpArgs false
set_option linter.unusedVariables false
set_option maxRecDepth 8000
set_option maxHeartbeats 1000000
open Go Go.Fx Go.Proofs
namespace FactsSchS
theorem ag24 : ag Tryd.prog 24 = some 5 := by kernel_rfl
theorem ag55 : ag Tryd.prog 55 = some 1 := by kernel_rfl
theorem ag65 : ag Tryd.prog 65 = some 9 := by kernel_rfl
theorem apt53 : appT Tryd.prog 53 = some (65, 9, 72) := by kernel_rfl
theorem es53 : esz Tryd.prog 53 = some 9 := by kernel_rfl
theorem fo55_0 : foff Tryd.prog 55 0 = some 0 := by kernel_rfl
theorem fo65_0 : foff Tryd.prog 65 0 = some 0 := by kernel_rfl
theorem fo65_2 : foff Tryd.prog 65 2 = some 2 := by kernel_rfl
theorem fo65_3 : foff Tryd.prog 65 3 = some 3 := by kernel_rfl
theorem isl53 : isSl Tryd.prog 53 = true := by kernel_rfl
theorem pl55 : places Tryd.prog 55 = some [(0, 1)] := by kernel_rfl
theorem pl65 : places Tryd.prog 65 = some [(0, 1), (1, 1), (2, 1), (3, 1), (4, 5)] := by kernel_rfl
theorem sc3 : sc Tryd.prog 3 = true := by kernel_rfl
theorem sc53 : sc Tryd.prog 53 = true := by kernel_rfl
theorem slA53 : slA Tryd.prog 53 = some (65, 9) := by kernel_rfl
theorem zc55 : zc Tryd.prog 55 = some [.slice none 0 0] := by kernel_rfl
theorem zc65 : zc Tryd.prog 65 = some [.int .i64 0, .int .i64 0, .int .i64 0, .int .i64 0, .int .i64 0, .int .i64 0, .int .i64 0, .int .i64 0, .int .i64 0] := by kernel_rfl
end FactsSchS
open FactsSchS

end Go.Proofs.YtlfillhffpiffaaDoor

namespace Go.Proofs.YtlfillhffpiffaaDoor
set_option linter.unusedSimpArgs false
set_option linter.unusedVariables false
set_option maxRecDepth 8000
set_option maxHeartbeats 1000000
open Go Go.Fx Go.Proofs
namespace FactsSchT

end FactsSchT
open FactsSchT

theorem goS_cons (Bs : List Bd) (x : List Int) (xs out : List (List Int)) (ends : List Int) : goS Bs (x :: xs) out ends = match moreS Bs out ends x with
    | none => none
    | some m => if 256 < out.length + m.length then none else goS Bs xs (out ++ m) (ends ++ [((out.length + m.length : Nat) : Int) - 1]) := rfl
end Go.Proofs.YtlfillhffpiffaaDoor

namespace Go.Proofs.YtlfillhffpiffaaDoor
set_option linter.unusedSimpArgs false
set_option linter.unusedVariables false
set_option maxRecDepth 8000
open Go Go.Fx Go.Proofs

inductive Tm where
  | bas (k : Bool)
  | var (v : Int)
  | fn (a : Tm) (r : List Int) (b : Tm)
deriving DecidableEq
def Tm.sz : Tm → Nat
  | .bas _ => 1
  | .var _ => 1
  | .fn a _ b => a.sz + b.sz + 1
theorem Tm.sz_pos : ∀ t : Tm, 1 ≤ t.sz
  | .bas _ => Nat.le_refl 1
  | .var _ => Nat.le_refl 1
  | .fn a _ b => by simp only [Tm.sz]; omega
def Tm.ok : Tm → Prop
  | .bas _ => True
  | .var v => 0 ≤ v ∧ v < 4096
  | .fn a r b => a.ok ∧ r.length = 5 ∧ rowM r = true ∧ b.ok
abbrev bNode (k : Bool) : List Int := [if k then 1 else 0, 0, 0, 0, 0, 0, 0, 0, 0]
abbrev vNode (v : Int) : List Int := [2, v, 0, 0, 0, 0, 0, 0, 0]
abbrev fNode (a b : Int) (r : List Int) : List Int := [3, 0, a, b] ++ r
def Tm.enc (k : Int) : Tm → List (List Int)
  | .bas b => [bNode b]
  | .var v => [vNode v]
  | .fn a r b => a.enc k ++ b.enc (k + a.sz) ++ [fNode (k + a.sz - 1) (k + a.sz + b.sz - 1) r]
theorem Tm.enc_len : ∀ (t : Tm) (k : Int), (t.enc k).length = t.sz
  | .bas _, _ => rfl
  | .var _, _ => rfl
  | .fn a r b, k => by simp only [Tm.enc, List.length_append, Tm.enc_len a, Tm.enc_len b, Tm.sz, List.length_singleton]
theorem Tm.enc_nine : ∀ (t : Tm) (k : Int), t.ok → Nine (t.enc k)
  | .bas _, _, _ => nine1 rfl
  | .var _, _, _ => nine1 rfl
  | .fn a r b, k, h => nine_app (nine_app (a.enc_nine k h.1) (b.enc_nine _ h.2.2.2)) (nine1 (by simp [h.2.1]))
theorem mov_fn {j a b : Int} {r : List Int} (h1 : -9223372036854775808 ≤ a + j ∧ a + j ≤ 9223372036854775807) (h2 : -9223372036854775808 ≤ b + j ∧ b + j ≤ 9223372036854775807) : movS j (fNode a b r) = fNode (a + j) (b + j) r := by
  unfold movS
  rw [if_pos (by rfl)]
  show [3, 0, IntKind.i64.wrap (a + j), IntKind.i64.wrap (b + j)] ++ r = _
  rw [wrap_in h1, wrap_in h2]
theorem Tm.enc_mov : ∀ (t : Tm) (k j : Int), -1000000 ≤ k → -1000000 ≤ k + j → k ≤ 1000000 → k + j ≤ 1000000 → k + t.sz ≤ 1000000 → k + j + t.sz ≤ 1000000 → (t.enc k).map (movS j) = t.enc (k + j)
  | .bas b, _, _, _, _, _, _, _, _ => by cases b <;> rfl
  | .var _, _, _, _, _, _, _, _, _ => rfl
  | .fn a r b, k, j, h1, h2, h3, h4, h5, h6 => by
    have ha := a.sz_pos
    have hb := b.sz_pos
    simp only [Tm.sz, Int.natCast_add] at h5 h6
    simp only [Tm.enc, List.map_append, List.map_cons, List.map_nil]
    rw [Tm.enc_mov a k j h1 h2 h3 h4 (by omega) (by omega), Tm.enc_mov b (k + a.sz) j (by omega) (by omega) (by omega) (by omega) (by omega) (by omega), mov_fn (by omega) (by omega)]
    rw [show k + (a.sz : Int) + j = k + j + a.sz by omega, show k + (a.sz : Int) - 1 + j = k + j + a.sz - 1 by omega, show k + (a.sz : Int) + b.sz - 1 + j = k + j + a.sz + b.sz - 1 by omega]

theorem nod_fn {x : List Int} (h9 : x.length = 9) (hn : nodM x = true) (hk : x.getD 0 0 = 3) : ∃ r, r.length = 5 ∧ rowM r = true ∧ x = fNode (x.getD 2 0) (x.getD 3 0) r := by
  match x, h9 with
  | [k, v, p, q, c0, c1, c2, c3, t], _ =>
    unfold nodM at hn
    rw [if_pos hk] at hn
    simp only [Bool.and_eq_true, decide_eq_true_eq] at hn
    obtain ⟨h1, h2⟩ := hn
    change k = 3 at hk
    change v = 0 at h2
    subst hk h2
    exact ⟨[c0, c1, c2, c3, t], rfl, h1, rfl⟩
theorem nod_else {x : List Int} (hn : nodM x = true) (hk : x.getD 0 0 ≠ 3) : (∃ b, x = bNode b) ∨ ∃ v, 0 ≤ v ∧ v < 4096 ∧ x = vNode v := by
  unfold nodM at hn
  rw [if_neg hk] at hn
  split at hn
  · simp only [Bool.and_eq_true, decide_eq_true_eq] at hn
    exact .inr ⟨_, hn.1.1, hn.1.2, hn.2⟩
  · split at hn
    · rename_i h
      rw [decide_eq_true_eq] at hn
      rcases h with h | h
      · rw [h] at hn; exact .inl ⟨false, hn⟩
      · rw [h] at hn; exact .inl ⟨true, hn⟩
    · cases hn
theorem el_nat {L : List (List Int)} {n : Nat} (h : n < L.length) : el L (n : Int) = L[n] := by
  simp [el, List.getD_eq_getElem?_getD, List.getElem?_eq_getElem h]
abbrev seg (L : List (List Int)) (p z : Int) : List (List Int) := (L.drop p.toNat).take (z + 1 - p).toNat
theorem seg_app {L : List (List Int)} {p q z : Int} (h0 : 0 ≤ p) (h1 : p ≤ q) (h2 : q ≤ z + 1) : seg L p (q - 1) ++ seg L q z = seg L p z := by
  have h : (z + 1 - p).toNat = (q - 1 + 1 - p).toNat + (z + 1 - q).toNat := by omega
  unfold seg
  rw [h, List.take_add, List.drop_drop, show p.toNat + (q - 1 + 1 - p).toNat = q.toNat by omega]
theorem seg_one {L : List (List Int)} {z : Int} (h0 : 0 ≤ z) (h1 : z < L.length) : seg L z z = [el L z] := by
  obtain ⟨n, rfl⟩ := Int.eq_ofNat_of_zero_le h0
  unfold seg
  rw [show ((n : Int) + 1 - n).toNat = 1 by omega, el_nat (by omega), Int.toNat_natCast, List.drop_eq_getElem_cons (by omega)]
  rfl
theorem dec_at {L : List (List Int)} (h9 : Nine L) (hn : L.all nodM = true) : ∀ (f : Nat) (z : Int), 0 ≤ z → z < L.length → 0 ≤ bgn L f z → ∃ t : Tm, t.ok ∧ seg L (bgn L f z) z = t.enc (bgn L f z) ∧ (t.sz : Int) = z + 1 - bgn L f z
  | 0, z, _, _, h => by simp only [bgn] at h; omega
  | f + 1, z, h0, h1, h => by
    have hx : el L z ∈ L := by
      obtain ⟨n, rfl⟩ := Int.eq_ofNat_of_zero_le h0
      rw [el_nat (by omega)]; exact List.getElem_mem _
    have hx9 := h9 _ hx
    have hxn := List.all_eq_true.1 hn _ hx
    by_cases hk : (el L z).getD 0 0 = 3
    · obtain ⟨hz, hB, hb, hA, hbA⟩ := bgn_fun h hk
      have hle := bgn_le L f ((el L z).getD 3 0) (by omega)
      have hle2 := bgn_le L f ((el L z).getD 2 0) (by omega)
      have hq : bgn L (f + 1) z = bgn L f ((el L z).getD 2 0) := by
        rw [bgn_succ, if_neg (by omega), if_neg (by omega), if_neg (by omega)]
      obtain ⟨a, ha, hsa, hza⟩ := dec_at h9 hn f ((el L z).getD 2 0) (by omega) (by omega) hbA
      obtain ⟨b, hb', hsb, hzb⟩ := dec_at h9 hn f ((el L z).getD 3 0) (by omega) (by omega) (by omega)
      obtain ⟨r, hr5, hrm, hx⟩ := nod_fn hx9 hxn hk
      have e0 := seg_one h0 h1
      rw [hx] at e0
      rw [hq]
      clear h hq hxn hx9 hx hk hn h9
      generalize (el L z).getD 2 0 = A at *
      generalize (el L z).getD 3 0 = B at *
      generalize bgn L f A = p at *
      generalize bgn L f B = q at *
      subst hA hB
      refine ⟨.fn a r b, ⟨ha, hr5, hrm, hb'⟩, ?_, by simp only [Tm.sz]; omega⟩
      rw [← seg_app (L := L) (p := p) (q := z) (z := z) (by omega) (by omega) (by omega), ← seg_app (L := L) (p := p) (q := q) (z := z - 1) (by omega) (by omega) (by omega), hsa, hsb, e0]
      simp only [Tm.enc]
      rw [show p + (a.sz : Int) = q by omega, show q + (b.sz : Int) - 1 = z - 1 by omega]
    · have hq : bgn L (f + 1) z = z := by rw [bgn_succ, if_pos hk]
      rw [hq, seg_one h0 h1]
      rcases nod_else hxn hk with ⟨b, hb⟩ | ⟨v, hv1, hv2, hv⟩
      · exact ⟨.bas b, trivial, by rw [hb]; rfl, by simp only [Tm.sz]; omega⟩
      · exact ⟨.var v, ⟨hv1, hv2⟩, by rw [hv]; rfl, by simp only [Tm.sz]; omega⟩

theorem el_mid {pre post : List (List Int)} {x : List Int} : el (pre ++ x :: post) (pre.length : Int) = x := by
  simp [el, List.getD_eq_getElem?_getD]
theorem enc_bgn : ∀ (t : Tm) (f : Nat) (pre post : List (List Int)), t.sz ≤ f → bgn (pre ++ t.enc pre.length ++ post) f ((pre.length : Int) + t.sz - 1) = pre.length
  | t, 0, _, _, h => by have := t.sz_pos; omega
  | .bas b, f + 1, pre, post, h => by
    rw [bgn_succ, if_pos]
    · simp only [Tm.sz]; omega
    · rw [show (pre.length : Int) + (Tm.bas b).sz - 1 = pre.length by simp only [Tm.sz]; omega]
      simp only [Tm.enc, List.append_assoc, List.singleton_append]
      rw [el_mid]
      cases b <;> decide
  | .var v, f + 1, pre, post, h => by
    rw [bgn_succ, if_pos]
    · simp only [Tm.sz]; omega
    · rw [show (pre.length : Int) + (Tm.var v).sz - 1 = pre.length by simp only [Tm.sz]; omega]
      simp only [Tm.enc, List.append_assoc, List.singleton_append]
      rw [el_mid]
      show (2 : Int) ≠ 3
      decide
  | .fn a r b, f + 1, pre, post, h => by
    have ha := a.sz_pos
    have hb := b.sz_pos
    simp only [Tm.sz] at h ⊢
    have hp : ((pre ++ a.enc pre.length).length : Int) = (pre.length : Int) + a.sz := by rw [List.length_append, Tm.enc_len]; omega
    have hp2 : ((pre ++ a.enc pre.length ++ b.enc ((pre.length : Int) + a.sz)).length : Int) = (pre.length : Int) + a.sz + b.sz := by rw [List.length_append, List.length_append, Tm.enc_len, Tm.enc_len]; omega
    have hL1 : pre ++ (Tm.fn a r b).enc pre.length ++ post = (pre ++ a.enc pre.length ++ b.enc ((pre.length : Int) + a.sz)) ++ fNode ((pre.length : Int) + a.sz - 1) ((pre.length : Int) + a.sz + b.sz - 1) r :: post := by
      simp only [Tm.enc, List.append_assoc, List.singleton_append]
    have hL2 : pre ++ (Tm.fn a r b).enc pre.length ++ post = (pre ++ a.enc pre.length) ++ b.enc ((pre ++ a.enc pre.length).length : Int) ++ (fNode ((pre.length : Int) + a.sz - 1) ((pre.length : Int) + a.sz + b.sz - 1) r :: post) := by
      rw [hp]; simp only [Tm.enc, List.append_assoc, List.singleton_append]
    have hL3 : pre ++ (Tm.fn a r b).enc pre.length ++ post = pre ++ a.enc pre.length ++ (b.enc ((pre.length : Int) + a.sz) ++ fNode ((pre.length : Int) + a.sz - 1) ((pre.length : Int) + a.sz + b.sz - 1) r :: post) := by
      simp only [Tm.enc, List.append_assoc, List.singleton_append]
    have hel : el (pre ++ (Tm.fn a r b).enc pre.length ++ post) ((pre.length : Int) + (a.sz + b.sz + 1 : Nat) - 1) = fNode ((pre.length : Int) + a.sz - 1) ((pre.length : Int) + a.sz + b.sz - 1) r := by
      rw [hL1, show (pre.length : Int) + (a.sz + b.sz + 1 : Nat) - 1 = ((pre ++ a.enc pre.length ++ b.enc ((pre.length : Int) + a.sz)).length : Int) by rw [hp2]; omega, el_mid]
    have hb1 : bgn (pre ++ (Tm.fn a r b).enc pre.length ++ post) f ((pre.length : Int) + a.sz + b.sz - 1) = (pre.length : Int) + a.sz := by
      rw [hL2, ← hp, enc_bgn b f _ _ (by omega)]
    have hb2 : bgn (pre ++ (Tm.fn a r b).enc pre.length ++ post) f ((pre.length : Int) + a.sz - 1) = pre.length := by
      rw [hL3, enc_bgn a f _ _ (by omega)]
    have e2 : (fNode ((pre.length : Int) + a.sz - 1) ((pre.length : Int) + a.sz + b.sz - 1) r).getD 2 0 = (pre.length : Int) + a.sz - 1 := rfl
    have e3 : (fNode ((pre.length : Int) + a.sz - 1) ((pre.length : Int) + a.sz + b.sz - 1) r).getD 3 0 = (pre.length : Int) + a.sz + b.sz - 1 := rfl
    have e0 : (fNode ((pre.length : Int) + a.sz - 1) ((pre.length : Int) + a.sz + b.sz - 1) r).getD 0 0 = 3 := rfl
    rw [bgn_succ, hel, e0, e2, e3, hb1, hb2, if_neg (by decide), if_neg (by omega), if_neg (by omega)]
theorem enc_nod : ∀ (t : Tm) (k : Int), t.ok → ∀ x ∈ t.enc k, nodM x = true
  | .bas b, _, _, x, h => by rw [List.mem_singleton.1 h]; cases b <;> decide
  | .var v, _, hk, x, h => by
    rw [List.mem_singleton.1 h]
    unfold nodM
    rw [if_neg (by show ¬ (2 : Int) = 3; decide), if_pos (by rfl)]
    simp only [Bool.and_eq_true, decide_eq_true_eq]
    exact ⟨hk, rfl⟩
  | .fn a r b, k, hk, x, h => by
    simp only [Tm.enc, List.mem_append, List.mem_singleton] at h
    rcases h with (h | h) | h
    · exact enc_nod a _ hk.1 x h
    · exact enc_nod b _ hk.2.2.2 x h
    · subst h
      unfold nodM
      rw [if_pos (by rfl)]
      simp only [Bool.and_eq_true, decide_eq_true_eq]
      exact ⟨hk.2.2.1, rfl⟩
theorem enc_typ {t : Tm} (h : t.ok) (hs : t.sz ≤ 256) : typM (t.enc 0) = true := by
  have := t.sz_pos
  unfold typM
  rw [Tm.enc_len]
  simp only [Bool.and_eq_true, decide_eq_true_eq, List.all_eq_true]
  have hb := enc_bgn t t.sz [] [] (Nat.le_refl _)
  simp only [List.nil_append, List.append_nil, List.length_nil, Int.natCast_zero, Int.zero_add] at hb
  exact ⟨⟨⟨by omega, hs⟩, enc_nod t 0 h⟩, hb⟩
theorem typ_dec {L : List (List Int)} (h9 : Nine L) (h : typM L = true) : ∃ t : Tm, t.ok ∧ L = t.enc 0 ∧ t.sz ≤ 256 := by
  obtain ⟨⟨h1, h2⟩, hb⟩ := typM_bgn h
  unfold typM at h
  simp only [Bool.and_eq_true] at h
  obtain ⟨t, ht, hs, hz⟩ := dec_at h9 h.1.2 L.length ((L.length : Int) - 1) (by omega) (by omega) (by omega)
  rw [hb] at hs hz
  refine ⟨t, ht, ?_, by omega⟩
  rw [← hs]
  unfold seg
  rw [List.take_of_length_le (by simp)]
  rfl
theorem enc_parts (a : Tm) (r : List Int) (b : Tm) : el ((Tm.fn a r b).enc 0) (((Tm.fn a r b).enc 0).length - 1 : Int) = fNode ((a.sz : Int) - 1) ((a.sz : Int) + b.sz - 1) r ∧
    bgn ((Tm.fn a r b).enc 0) ((Tm.fn a r b).enc 0).length ((a.sz : Int) - 1) = 0 ∧ bgn ((Tm.fn a r b).enc 0) ((Tm.fn a r b).enc 0).length ((a.sz : Int) + b.sz - 1) = a.sz ∧
    seg ((Tm.fn a r b).enc 0) 0 ((a.sz : Int) - 1) = a.enc 0 ∧ seg ((Tm.fn a r b).enc 0) a.sz ((a.sz : Int) + b.sz - 1) = b.enc a.sz := by
  have ha := a.sz_pos
  have hb := b.sz_pos
  have hl : ((Tm.fn a r b).enc 0).length = a.sz + b.sz + 1 := Tm.enc_len _ _
  have hL : (Tm.fn a r b).enc 0 = a.enc 0 ++ b.enc a.sz ++ [fNode ((a.sz : Int) - 1) ((a.sz : Int) + b.sz - 1) r] := by simp only [Tm.enc, Int.zero_add]
  have l1 : (a.enc 0).length = a.sz := Tm.enc_len _ _
  have l2 : (b.enc a.sz).length = b.sz := Tm.enc_len _ _
  refine ⟨?_, ?_, ?_, ?_, ?_⟩
  · rw [hl, hL, show ((a.sz + b.sz + 1 : Nat) : Int) - 1 = ((a.enc 0 ++ b.enc a.sz).length : Int) by rw [List.length_append, l1, l2]; omega, el_mid]
  · have := enc_bgn a (a.sz + b.sz + 1) [] (b.enc a.sz ++ [fNode ((a.sz : Int) - 1) ((a.sz : Int) + b.sz - 1) r]) (by omega)
    rw [hl, hL, List.append_assoc]
    simpa using this
  · have := enc_bgn b (a.sz + b.sz + 1) (a.enc 0) [fNode ((a.sz : Int) - 1) ((a.sz : Int) + b.sz - 1) r] (by omega)
    rw [l1] at this
    rw [hl, hL]
    exact this
  · unfold seg
    rw [hL, List.append_assoc, show ((a.sz : Int) - 1 + 1 - 0).toNat = (a.enc 0).length by rw [l1]; omega]
    show List.take _ (_ ++ _) = _
    rw [List.take_left]
  · unfold seg
    rw [hL, List.append_assoc, show ((a.sz : Int)).toNat = (a.enc 0).length by rw [l1]; omega, List.drop_left, show ((a.sz : Int) + b.sz - 1 + 1 - a.sz).toNat = (b.enc a.sz).length by rw [l2]; omega, List.take_left]
end Go.Proofs.YtlfillhffpiffaaDoor

namespace Go.Fx
open Go
set_option linter.unusedSimpArgs false
set_option linter.unusedVariables false
theorem Pur.cutB {P : Program} {dst : Option Tmp} {ty : TypeId} {pos : String} {aft : Array Edge} {gd : Option (Nat × Bool)} {e : Env} {t : TypeId} {x y z : Operand} {b o : Nat} {n c s : Nat} {k k' : IntKind} {l h : Int} (hs : esz P t = some s) (hx : ev e x = some (.slice (some ⟨b, o, none⟩) n c)) (hy : ev e y = some (.int k l)) (hz : ev e z = some (.int k' h)) (h0 : 0 ≤ l) (h1 : l ≤ h) (h2 : h ≤ c) (h3 : l < c) :
    Pur P ⟨dst, .slice t x (some y) (some z) none, ty, pos, aft, gd⟩ e (.slice (some ⟨b, o + l.toNat * s, none⟩) (h.toNat - l.toNat) (c - l.toNat)) := by
  intro a w hA
  have e1 := hA.ev hx
  have e2 := hA.ev hy
  have e3 := hA.ev hz
  unfold esz at hs
  split at hs
  case h_2 => cases hs
  rename_i el hu
  simp only [Option.map_eq_some_iff] at hs
  obtain ⟨i, hi, rfl⟩ := hs
  have g1 : 0 ≤ h ∧ h ≤ (c : Int) := by omega
  have g2 : 0 ≤ l ∧ l ≤ ((h.toNat : Nat) : Int) := by omega
  have hne : c ≠ l.toNat := by omega
  simp only [execOp, e1, e2, e3, Option.map_some, Option.map_none, Instr.sliceAt, Sem.run_bind, run_underlying hu, Result.andThen_ok, Instr.slice, Instr.sliceBounds, Sem.run_pure, Instr.sliceBound, asIntOf, run_sizeOf' hi, if_pos g1, if_pos g2]
  simp [g1, g2, Addr.add, hne]
end Go.Fx
namespace Go.Proofs.YtlfillhffpiffaaDoor
set_option linter.unusedSimpArgs false
set_option linter.unusedVariables false
set_option maxRecDepth 8000
open Go Go.Fx Go.Proofs
namespace FactsUniC
theorem ag55 : ag Tryd.prog 55 = some 1 := by kernel_rfl
theorem es53 : esz Tryd.prog 53 = some 9 := by kernel_rfl
theorem fo55_0 : foff Tryd.prog 55 0 = some 0 := by kernel_rfl
theorem fo65_2 : foff Tryd.prog 65 2 = some 2 := by kernel_rfl
theorem fo65_3 : foff Tryd.prog 65 3 = some 3 := by kernel_rfl
theorem isl53 : isSl Tryd.prog 53 = true := by kernel_rfl
theorem mixed : Tryd.prog.follows .mixedOrders = true := by kernel_rfl
theorem pl55 : places Tryd.prog 55 = some [(0, 1)] := by kernel_rfl
theorem sc3 : sc Tryd.prog 3 = true := by kernel_rfl
theorem sc53 : sc Tryd.prog 53 = true := by kernel_rfl
theorem zc55 : zc Tryd.prog 55 = some [.slice none 0 0] := by kernel_rfl
end FactsUniC
open FactsUniC

def TyF (B : Nat) (H : Heap) (v : Value) (M : List (List Int)) : Prop := ∃ A cap, v = Ty A M.length cap ∧ SlT H Is 9 (.slice A M.length cap) M ∧ (M.length = 0 ∨ (B : Int) ≤ ob A)
theorem TyF.ext {B : Nat} {H H' : Heap} {v : Value} {M : List (List Int)} (h : TyF B H v M) (he : Ext H H') : TyF B H' v M := by
  obtain ⟨A, cap, h1, h2, h3⟩ := h
  exact ⟨A, cap, h1, h2.ext he, h3⟩
theorem TyF.via {B : Nat} {H H' : Heap} {S : Nat → Prop} {v : Value} {M : List (List Int)} (h : TyF B H v M) (he : But S H H') (hs : ∀ g, B ≤ g → ¬ S g) : TyF B H' v M := by
  obtain ⟨A, cap, h1, h2, h3⟩ := h
  exact ⟨A, cap, h1, h2.via he (fun h0 g hg => hs g (by omega)), h3⟩
theorem TyF.upw {B b : Nat} {H H' : Heap} {c : List Value} {v : Value} {M : List (List Int)} (h : TyF B H v M) (u : Upd H H' b c) (hb : b < B) : TyF B H' v M :=
  h.via u.but (fun g hg e => by omega)
theorem TyF.mono {B B' : Nat} {H : Heap} {v : Value} {M : List (List Int)} (h : TyF B H v M) (hb : B' ≤ B) : TyF B' H v M := by
  obtain ⟨A, cap, h1, h2, h3⟩ := h
  exact ⟨A, cap, h1, h2, by omega⟩
theorem TyF.lt {B : Nat} {H : Heap} {v : Value} {M : List (List Int)} (h : TyF B H v M) : True := trivial
theorem TyF.one {B : Nat} {H : Heap} {v : Value} {M : List (List Int)} (h : TyF B H v M) : ∃ A n c, v = .agg #[.slice A n c] := by
  obtain ⟨A, cap, h1, _⟩ := h
  exact ⟨A, _, cap, h1⟩
theorem sl_seg {H : Heap} {b o cap lo hi : Nat} {L : List (List Int)} (hS : SlT H Is 9 (.slice (some ⟨b, o, none⟩) L.length cap) L) (h1 : lo ≤ hi) (h2 : hi ≤ L.length) (h3 : lo < L.length) :
    SlT H Is 9 (.slice (some ⟨b, o + lo * 9, none⟩) (hi - lo) (cap - lo)) ((L.drop lo).take (hi - lo)) ∧ hi ≤ cap := by
  obtain ⟨A, cap', he, k1, k2, _, k4⟩ := hS
  cases he
  obtain ⟨b', o', c, hA, hB, hc⟩ := k4.resolve_left (by omega)
  cases hA
  have hl : ((L.drop lo).take (hi - lo)).length = hi - lo := by rw [List.length_take, List.length_drop]; omega
  refine ⟨⟨_, cap - lo, by rw [hl], by rw [hl]; omega, by omega, (fun h => by cases h), .inr ⟨b, o + lo * 9, c, rfl, hB, fun i hi' => ?_⟩⟩, by omega⟩
  rw [hl] at hi'
  have := hc (lo + i) (by omega)
  rw [show o + lo * 9 + i * 9 = o + (lo + i) * 9 by omega]
  refine ⟨this.1, ?_⟩
  rw [this.2]
  congr 1
  rw [List.getElem_take, List.getElem_drop]
theorem nine_seg {L : List (List Int)} (h : Nine L) (p q : Nat) : Nine ((L.drop p).take q) := fun x hx => h x (List.mem_of_mem_drop (List.mem_of_mem_take hx))
theorem part_ok {L : List (List Int)} (hL : Nine L) {A : Option Addr} {cap yb yo : Nat} {cy : List Value} (hcy : cy[yo]? = some (.slice A L.length cap)) {H : Heap} (hS : SlT H Is 9 (.slice A L.length cap) L) (hY : Blk H yb cy) (h256 : L.length ≤ 256) {z p : Int} (h0 : 0 ≤ z) (h1 : z < L.length) (hp : bgn L L.length z = p) (hp0 : 0 ≤ p) :
    Ret Tryd.prog 103 [ptr yb yo, I z] H (fun v H' => TyF H.size H' v ((seg L p z).map (movS (-p))) ∧ Ext H H') := by
  obtain ⟨b, o, c, rfl, _⟩ := el_cells hL hS h0 h1
  have hle := bgn_le L L.length z h0
  rw [hp] at hle
  have hsg := sl_seg (lo := p.toNat) (hi := (z + 1).toNat) hS (by omega) (by omega) (by omega)
  have hsl : ((L.drop p.toNat).take ((z + 1).toNat - p.toNat)).length = (z + 1).toNat - p.toNat := by rw [List.length_take, List.length_drop]; omega
  have hsd : seg L p z = (L.drop p.toNat).take ((z + 1).toNat - p.toNat) := by unfold seg; congr 1; omega
  have h9 := nine_seg hL p.toNat ((z + 1).toNat - p.toNat)
  rw [hsd]
  generalize (L.drop p.toNat).take ((z + 1).toNat - p.toNat) = M at hsg hsl h9
  rw [← hsl] at hsg
  refine Ret.of_at (N := 24) Tryd.call103 Tryd.func103 rfl rfl rfl ?_
  have hE := Ext.refl H
  have z_hE := hE.lt
  have z_hY := hY.lt
  refine At.region rfl rfl ?_
  refine Reg.op rfl rfl rfl rfl (Does.alloc zc55) ?_
  rintro _ H0_0 ⟨rfl, hn0_0⟩
  have z0_0 := hn0_0.size
  replace hE := hE.ext hn0_0.ext
  replace hY := hY.ext hn0_0.ext
  have o0_0 := hn0_0.own
  refine Reg.nil ?_
  refine At.region rfl rfl ?_
  refine Reg.pur rfl rfl rfl rfl (Pur.mv rfl) ?_
  refine Reg.pur rfl rfl rfl rfl (Pur.nilc rfl) ?_
  refine Reg.pur rfl rfl rfl rfl (Pur.fld _ fo55_0 rfl) ?_
  refine Reg.lod rfl rfl rfl rfl (Lod.ld sc53 rfl hY hcy) ?_
  refine Reg.pur rfl rfl rfl rfl (Pur.mv rfl) ?_
  refine Reg.op rfl rfl rfl rfl (Does.call rfl (begin_ok L hL (hS.ext hE) (by omega) L.length z h0 h1 (by omega))) ?_
  rintro _ H0_0 ⟨rfl, rfl⟩
  refine Reg.pur rfl rfl rfl rfl (Pur.asg rfl) ?_
  refine Reg.nil ?_
  refine At.region rfl rfl ?_
  rw [hp]
  refine Reg.pur rfl rfl rfl rfl (Pur.mv rfl) ?_
  refine Reg.pur rfl rfl rfl rfl (Pur.nilc rfl) ?_
  refine Reg.pur rfl rfl rfl rfl (Pur.fld _ fo55_0 rfl) ?_
  refine Reg.lod rfl rfl rfl rfl (Lod.ld sc53 rfl hY hcy) ?_
  refine Reg.pur rfl rfl rfl rfl (Pur.mv rfl) ?_
  refine Reg.pur rfl rfl rfl rfl (Pur.mv rfl) ?_
  first | refine Reg.pur rfl rfl rfl rfl (Pur.add64 rfl rfl (by omega)) ?_ | refine Reg.pur rfl rfl rfl rfl (Pur.add64 rfl rfl (by assumption)) ?_ | refine Reg.pur rfl rfl rfl rfl (Pur.add rfl rfl) ?_
  refine Reg.pur rfl rfl rfl rfl (Pur.cutB es53 rfl rfl rfl (by omega) (by omega) (by omega) (by omega)) ?_
  rw [← hsl]
  refine Reg.pur rfl rfl rfl rfl (Pur.mv rfl) ?_
  refine Reg.pur rfl rfl rfl rfl (Pur.neg64 rfl (by omega)) ?_
  refine Reg.op rfl rfl rfl rfl (Does.call rfl (moved_ok h9 (hsg.1.ext hE) (by omega) (-p))) ?_
  rintro v2_10 H2_10 ⟨⟨A', cap', rfl, hA'⟩, hS', hE2_10⟩
  have z2_10 := hE2_10.lt
  replace hE := hE.ext hE2_10
  replace hY := hY.ext hE2_10
  replace o0_0 := o0_0.ext hE2_10
  have hA2 : M.length = 0 ∨ (H0_0.size : Int) ≤ ob A' := hA'.imp id (by rintro ⟨g, hg, rfl⟩; exact Int.ofNat_le.2 hg)
  refine Reg.pur rfl rfl rfl rfl (Pur.bld (cs := [_]) pl55 zc55 rfl rfl ⟨rfl, rfl⟩) ?_
  refine Reg.op0 rfl rfl rfl (Does.stn ag55 rfl rfl (by first | rfl | exact ones_Is _) (by first | rfl | (simp [*]; done)) o0_0 (by first | decide | (simp; done) | (simp; omega) | omega)) ?_
  rintro _ H2_12 hu2_12
  have z2_12 := hu2_12.size
  replace hE := hE.upw hu2_12 (by omega)
  replace hY := hY.upw hu2_12 (by omega)
  replace o0_0 := hu2_12.own
  first | rw [over (by first | rfl | (simp; done))] at o0_0 | skip
  refine Reg.nil ?_
  refine At.retC rfl Tryd.func103 ⟨_, _, _, _, rfl, rfl, ⟨_, o0_0.blk, .inr ⟨_, _, ag55, (by first | exact whole rfl | exact whole (by simp [*])), (by first | rfl | simp [*]), rfl⟩⟩, rfl⟩ ?_
  refine ⟨⟨A', cap', by rw [List.length_map]; rfl, ?_, by rw [List.length_map]; omega⟩, hE⟩
  rw [List.length_map]
  exact hS'.upw hu2_12 (by omega)
theorem root_ok {L : List (List Int)} {A : Option Addr} {b o cap yb yo : Nat} {cy : List Value} (hcy : cy[yo]? = some (.slice A L.length cap)) {H : Heap} (hA : A = some ⟨b, o, none⟩) (hY : Blk H yb cy) (h256 : L.length ≤ 256) (h1 : 1 ≤ L.length) :
    Ret Tryd.prog 77 [ptr yb yo] H (fun v H' => v = ptr b (o + (L.length - 1) * 9) ∧ H' = H) := by
  subst hA
  refine Ret.of_at (N := 14) Tryd.call77 Tryd.func77 rfl rfl rfl ?_
  have hE := Ext.refl H

  refine At.region rfl rfl ?_
  refine Reg.pur rfl rfl rfl rfl (Pur.asg rfl) ?_
  refine Reg.nil ?_
  refine At.drawE ((Bks.cons hY.blk Bks.nil)) [] mixed rfl rfl ?_
  refine RegD.tpur (i := 0) rfl rfl rfl rfl (by kernel_rfl) (Pur.mv rfl) ?_
  refine RegD.tpur (i := 1) rfl rfl rfl rfl (by kernel_rfl) (Pur.nilc rfl) ?_
  refine RegD.tpur (i := 2) rfl rfl rfl rfl (by kernel_rfl) (Pur.fld _ fo55_0 rfl) ?_
  refine RegD.take (i := 3) rfl rfl rfl rfl (by kernel_rfl) (Bks.cons hY.blk Bks.nil) (fun H hS => Lod.ld sc53 rfl hS.hd hcy) ?_
  refine RegD.tpur (i := 4) rfl rfl rfl rfl (by kernel_rfl) (Pur.mv rfl) ?_
  refine RegD.tpur (i := 5) rfl rfl rfl rfl (by kernel_rfl) (Pur.nilc rfl) ?_
  refine RegD.tpur (i := 6) rfl rfl rfl rfl (by kernel_rfl) (Pur.fld _ fo55_0 rfl) ?_
  refine RegD.take (i := 7) rfl rfl rfl rfl (by kernel_rfl) (Bks.cons hY.blk Bks.nil) (fun H hS => Lod.ld sc53 rfl hS.hd hcy) ?_
  refine RegD.tpur (i := 8) rfl rfl rfl rfl (by kernel_rfl) (Pur.lenS isl53 rfl) ?_
  first | refine RegD.tpur (i := 9) rfl rfl rfl rfl (by kernel_rfl) (Pur.sub64 rfl rfl (by omega)) ?_ | refine RegD.tpur (i := 9) rfl rfl rfl rfl (by kernel_rfl) (Pur.sub64 rfl rfl (by assumption)) ?_ | refine RegD.tpur (i := 9) rfl rfl rfl rfl (by kernel_rfl) (Pur.sub rfl rfl) ?_
  refine RegD.tpur (i := 10) rfl rfl rfl rfl (by kernel_rfl) (Pur.idx _ es53 rfl rfl (by omega) (by omega)) ?_
  refine RegD.tpur (i := 11) rfl rfl rfl rfl (by kernel_rfl) (Pur.asg rfl) ?_
  refine RegD.done (by kernel_rfl) ?_
  refine At.ret rfl Tryd.func77 rfl ?_
  refine ⟨?_, rfl⟩
  rw [show ((L.length : Int) - 1).toNat = L.length - 1 by omega]
theorem sides_ok {a b : Tm} {r : List Int} (hok : (Tm.fn a r b).ok) (hsz : (Tm.fn a r b).sz ≤ 256) {A : Option Addr} {cap yb yo : Nat} {cy : List Value} (hcy : cy[yo]? = some (.slice A ((Tm.fn a r b).enc 0).length cap)) {H : Heap} (hS : SlT H Is 9 (.slice A ((Tm.fn a r b).enc 0).length cap) ((Tm.fn a r b).enc 0)) (hY : Blk H yb cy) :
    Ret Tryd.prog 79 [ptr yb yo] H (fun v H' => (∃ v1 v2, v = .tuple #[v1, v2] ∧ TyF H.size H' v1 (a.enc 0) ∧ TyF H.size H' v2 (b.enc 0)) ∧ Ext H H') := by
  have hL := (Tm.fn a r b).enc_nine 0 hok
  have hlen : ((Tm.fn a r b).enc 0).length = a.sz + b.sz + 1 := Tm.enc_len _ _
  have haz := a.sz_pos
  have hbz := b.sz_pos
  simp only [Tm.sz] at hsz
  obtain ⟨e1, e2, e3, e4, e5⟩ := enc_parts a r b
  have ha' := Tm.enc_mov a 0 (-0) (by omega) (by omega) (by omega) (by omega) (by omega) (by omega)
  have hb' := Tm.enc_mov b a.sz (-a.sz) (by omega) (by omega) (by omega) (by omega) (by omega) (by omega)
  rw [show (a.sz : Int) + -a.sz = 0 by omega] at hb'
  obtain ⟨b0, o0, c0, rfl, hB, hd, hx9, hat⟩ := el_cells hL hS (z := (((Tm.fn a r b).enc 0).length : Int) - 1) (by omega) (by omega)
  rw [e1] at hat
  rw [show ((((Tm.fn a r b).enc 0).length : Int) - 1).toNat = ((Tm.fn a r b).enc 0).length - 1 by omega] at hat
  generalize hLg : (Tm.fn a r b).enc 0 = L at *
  refine Ret.of_at (N := 19) Tryd.call79 Tryd.func79 rfl rfl rfl ?_
  have hE := Ext.refl H
  have z_hE := hE.lt
  have z_hY := hY.lt
  have z_hB := hB.lt
  refine At.region rfl rfl ?_
  refine Reg.op rfl rfl rfl rfl (Does.alloc zc55) ?_
  rintro _ H0_0 ⟨rfl, hn0_0⟩
  have z0_0 := hn0_0.size
  replace hE := hE.ext hn0_0.ext
  replace hY := hY.ext hn0_0.ext
  replace hB := hB.ext hn0_0.ext
  have o0_0 := hn0_0.own
  refine Reg.op rfl rfl rfl rfl (Does.alloc zc55) ?_
  rintro _ H0_1 ⟨rfl, hn0_1⟩
  have z0_1 := hn0_1.size
  replace hE := hE.ext hn0_1.ext
  replace hY := hY.ext hn0_1.ext
  replace hB := hB.ext hn0_1.ext
  replace o0_0 := o0_0.ext hn0_1.ext
  have o0_1 := hn0_1.own
  refine Reg.nil ?_
  refine At.region rfl rfl ?_
  refine Reg.pur rfl rfl rfl rfl (Pur.mv rfl) ?_
  refine Reg.op rfl rfl rfl rfl (Does.call rfl (root_ok hcy rfl hY (by omega) (by omega))) ?_
  rintro _ H0_1 ⟨rfl, rfl⟩
  refine Reg.pur rfl rfl rfl rfl (Pur.asg rfl) ?_
  refine Reg.nil ?_
  refine At.drawE ((Bks.cons hB.blk (Bks.cons hY.blk Bks.nil))) [13] mixed rfl rfl ?_
  refine RegD.tpur (i := 0) rfl rfl rfl rfl (by kernel_rfl) (Pur.mv rfl) ?_
  refine RegD.tpur (i := 1) rfl rfl rfl rfl (by kernel_rfl) (Pur.mv rfl) ?_
  refine RegD.tpur (i := 2) rfl rfl rfl rfl (by kernel_rfl) (Pur.nilc rfl) ?_
  refine RegD.tpur (i := 3) rfl rfl rfl rfl (by kernel_rfl) (Pur.fld _ fo65_2 rfl) ?_
  refine RegD.take (i := 4) rfl rfl rfl rfl (by kernel_rfl) (Bks.cons hB.blk (Bks.cons hY.blk Bks.nil)) (fun H hS => Lod.ld sc3 rfl hS.hd (hat 2 (by omega))) ?_
  refine RegD.tpur (i := 6) rfl rfl rfl rfl (by kernel_rfl) (Pur.mv rfl) ?_
  refine RegD.tpur (i := 7) rfl rfl rfl rfl (by kernel_rfl) (Pur.mv rfl) ?_
  refine RegD.tpur (i := 8) rfl rfl rfl rfl (by kernel_rfl) (Pur.nilc rfl) ?_
  refine RegD.tpur (i := 9) rfl rfl rfl rfl (by kernel_rfl) (Pur.fld _ fo65_3 rfl) ?_
  refine RegD.take (i := 10) rfl rfl rfl rfl (by kernel_rfl) (Bks.cons hB.blk (Bks.cons hY.blk Bks.nil)) (fun H hS => Lod.ld sc3 rfl hS.hd (hat 3 (by omega))) ?_
  refine RegD.one (i := 5) (by kernel_rfl) rfl rfl rfl rfl (Does.call rfl (part_ok hL hcy (hS.ext hE) hY (by omega) (z := (a.sz : Int) - 1) (p := 0) (by omega) (by omega) e2 (by omega))) ?_
  rintro v1 H2_5 ⟨hT1, hE2_5⟩
  have z2_5 := hE2_5.lt
  replace hE := hE.ext hE2_5
  replace hY := hY.ext hE2_5
  replace hB := hB.ext hE2_5
  replace o0_0 := o0_0.ext hE2_5
  replace o0_1 := o0_1.ext hE2_5
  rw [e4, ha'] at hT1
  have z_hT1 := hT1.lt
  obtain ⟨B1, n1, k1, rfl⟩ := hT1.one
  refine ⟨fun _ _ => (Bks.cons hB.blk (Bks.cons hY.blk Bks.nil)), ?_⟩
  refine RegD.one (i := 11) (by kernel_rfl) rfl rfl rfl rfl (Does.call rfl (part_ok hL hcy (hS.ext hE) hY (by omega) (z := (a.sz : Int) + b.sz - 1) (p := a.sz) (by omega) (by omega) e3 (by omega))) ?_
  rintro v2 H2_11 ⟨hT2, hE2_11⟩
  have z2_11 := hE2_11.lt
  replace hE := hE.ext hE2_11
  replace hY := hY.ext hE2_11
  replace hB := hB.ext hE2_11
  replace o0_0 := o0_0.ext hE2_11
  replace o0_1 := o0_1.ext hE2_11
  replace hT1 := hT1.ext hE2_11
  rw [e5, hb'] at hT2
  have z_hT2 := hT2.lt
  obtain ⟨B2, n2, k2, rfl⟩ := hT2.one
  refine ⟨fun _ _ => (Bks.cons hB.blk (Bks.cons hY.blk Bks.nil)), ?_⟩
  refine RegD.one0 (i := 12) (by kernel_rfl) rfl rfl rfl (Does.stn ag55 rfl rfl (by first | rfl | exact ones_Is _) (by first | rfl | (simp [*]; done)) o0_0 (by first | decide | (simp; done) | (simp; omega) | omega)) ?_
  rintro _ H2_12 hu2_12
  have z2_12 := hu2_12.size
  replace hE := hE.upw hu2_12 (by omega)
  replace hY := hY.upw hu2_12 (by omega)
  replace hB := hB.upw hu2_12 (by omega)
  replace o0_1 := o0_1.upw hu2_12 (by omega)
  replace hT1 := hT1.upw hu2_12 (by omega)
  replace hT2 := hT2.upw hu2_12 (by omega)
  replace o0_0 := hu2_12.own
  first | rw [over (by first | rfl | (simp; done))] at o0_0 | skip
  refine ⟨fun _ _ => (Bks.cons hB.blk (Bks.cons hY.blk Bks.nil)), ?_⟩
  refine RegD.one0 (i := 13) (by kernel_rfl) rfl rfl rfl (Does.stn ag55 rfl rfl (by first | rfl | exact ones_Is _) (by first | rfl | (simp [*]; done)) o0_1 (by first | decide | (simp; done) | (simp; omega) | omega)) ?_
  rintro _ H2_13 hu2_13
  have z2_13 := hu2_13.size
  replace hE := hE.upw hu2_13 (by omega)
  replace hY := hY.upw hu2_13 (by omega)
  replace hB := hB.upw hu2_13 (by omega)
  replace o0_0 := o0_0.upw hu2_13 (by omega)
  replace hT1 := hT1.upw hu2_13 (by omega)
  replace hT2 := hT2.upw hu2_13 (by omega)
  replace o0_1 := hu2_13.own
  first | rw [over (by first | rfl | (simp; done))] at o0_1 | skip
  refine ⟨fun h => (by cases h), ?_⟩
  refine RegD.done (by kernel_rfl) ?_
  refine At.retC rfl Tryd.func79 ⟨_, _, _, _, rfl, rfl, ⟨_, o0_0.blk, .inr ⟨_, _, ag55, (by first | exact whole rfl | exact whole (by simp [*])), (by first | rfl | simp [*]), rfl⟩⟩, ⟨_, _, _, _, rfl, rfl, ⟨_, o0_1.blk, .inr ⟨_, _, ag55, (by first | exact whole rfl | exact whole (by simp [*])), (by first | rfl | simp [*]), rfl⟩⟩, rfl⟩⟩ ?_
  exact ⟨⟨_, _, rfl, hT1.mono (by omega), hT2.mono (by omega)⟩, hE⟩
end Go.Proofs.YtlfillhffpiffaaDoor

namespace Go.Proofs.YtlfillhffpiffaaDoor
set_option linter.unusedSimpArgs false
set_option linter.unusedVariables false
set_option maxRecDepth 8000
open Go Go.Fx Go.Proofs

def lkE (k : Int) : List MapEntry → Option Value
  | [] => none
  | e :: es => match e.key with
    | .int .i64 a => if k = a then some e.val else lkE k es
    | _ => none
def AllI (es : List MapEntry) : Prop := ∀ e ∈ es, ∃ a, e.key = I a
theorem lk_cons {k a : Int} {v : Value} {n : Nat} {es : List MapEntry} : lkE k (⟨I a, v, n⟩ :: es) = if k = a then some v else lkE k es := rfl
theorem mfind_ok (k : Int) : ∀ (es : List MapEntry) (i : Nat), AllI es → (lkE k es = none ∧ Instr.findNow (.int .i64) (I k) es i = some none) ∨
    ∃ j v, lkE k es = some v ∧ Instr.findNow (.int .i64) (I k) es i = some (some (i + j, v)) ∧ (es[j]?).map (·.key) = some (I k) ∧ ∀ w, AllI (es.modify j fun e => { e with key := I k, val := w }) ∧ ∀ k', lkE k' (es.modify j fun e => { e with key := I k, val := w }) = if k' = k then some w else lkE k' es
  | [], i, _ => .inl ⟨rfl, rfl⟩
  | ⟨ky, v, n⟩ :: es, i, h => by
    obtain ⟨a, ha⟩ := h _ List.mem_cons_self
    dsimp only at ha
    subst ha
    have hr : AllI es := fun e he => h e (List.mem_cons_of_mem _ he)
    by_cases hk : k = a
    · subst hk
      refine .inr ⟨0, v, by rw [lk_cons, if_pos rfl], by simp [Instr.findNow, Instr.sameNow], rfl, fun w => ⟨?_, fun k' => ?_⟩⟩
      · intro e he
        simp only [List.modify_zero_cons, List.mem_cons] at he
        rcases he with rfl | he
        · exact ⟨k, rfl⟩
        · exact hr e he
      · simp only [List.modify_zero_cons]
        rw [lk_cons, lk_cons]
        by_cases h' : k' = k <;> simp [h']
    · have hne : Instr.findNow (.int .i64) (I k) (⟨I a, v, n⟩ :: es) i = Instr.findNow (.int .i64) (I k) es (i + 1) := by simp [Instr.findNow, Instr.sameNow, show (k == a) = false from by simpa using hk]
      rw [lk_cons, if_neg hk, hne]
      rcases mfind_ok k es (i + 1) hr with ⟨h1, h2⟩ | ⟨j, v', h1, h2, h3, h4⟩
      · exact .inl ⟨h1, h2⟩
      · refine .inr ⟨j + 1, v', h1, by rw [h2]; congr 3; omega, by simpa using h3, fun w => ⟨?_, fun k' => ?_⟩⟩
        · intro e he
          simp only [List.modify_succ_cons, List.mem_cons] at he
          rcases he with rfl | he
          · exact ⟨a, rfl⟩
          · exact (h4 w).1 e he
        · simp only [List.modify_succ_cons]
          rw [lk_cons, lk_cons, (h4 w).2 k']
          by_cases h1 : k' = a
          · rw [if_pos h1, if_pos h1, if_neg (by omega)]
          · rw [if_neg h1, if_neg h1]
theorem lk_push {k : Int} {w : Value} {n : Nat} : ∀ {es : List MapEntry}, AllI es → lkE k es = none → ∀ k', lkE k' (es ++ [⟨I k, w, n⟩]) = if k' = k then some w else lkE k' es
  | [], _, _, k' => by rw [List.nil_append, lk_cons]
  | ⟨ky, v, m⟩ :: es, h, h0, k' => by
    obtain ⟨a, ha⟩ := h _ List.mem_cons_self
    dsimp only at ha
    subst ha
    rw [lk_cons] at h0
    rw [List.cons_append, lk_cons, lk_cons]
    have hka : k ≠ a := by intro e; rw [if_pos e] at h0; cases h0
    rw [if_neg hka] at h0
    rw [lk_push (fun e he => h e (List.mem_cons_of_mem _ he)) h0 k']
    by_cases h1 : k' = a
    · rw [if_pos h1, if_pos h1, if_neg (by omega)]
    · rw [if_neg h1, if_neg h1]
def Mp (H : Heap) (b : Nat) (f : Int → Option Value) : Prop := ∃ E c, H[b]? = some (.map E c) ∧ AllI E.toList ∧ ∀ k, lkE k E.toList = f k
theorem Mp.lt {H : Heap} {b : Nat} {f : Int → Option Value} (h : Mp H b f) : b < H.size := by
  obtain ⟨E, c, h, _⟩ := h
  rcases Nat.lt_or_ge b H.size with h' | h'
  · exact h'
  · simp [Array.getElem?_eq_none h'] at h
theorem Mp.via {H H' : Heap} {S : Nat → Prop} {b : Nat} {f : Int → Option Value} (h : Mp H b f) (he : But S H H') (hb : ¬ S b) : Mp H' b f := by
  have hl := h.lt
  obtain ⟨E, c, h, k⟩ := h
  exact ⟨E, c, by rw [he.2 b hl hb]; exact h, k⟩
theorem Mp.ext {H H' : Heap} {b : Nat} {f : Int → Option Value} (h : Mp H b f) (he : Ext H H') : Mp H' b f := h.via (S := fun _ => False) he.but id
theorem Mp.upw {H H' : Heap} {b b' : Nat} {c : List Value} {f : Int → Option Value} (h : Mp H b f) (u : Upd H H' b' c) (hb : b ≠ b') : Mp H' b f := h.via u.but hb
theorem Mp.ne {H : Heap} {b b' : Nat} {c : List Value} {f : Int → Option Value} (h : Mp H b f) (k : Blk H b' c) : b' ≠ b := by
  rintro rfl
  obtain ⟨E, c, h, _⟩ := h
  obtain ⟨T, fr, k⟩ := k
  rw [h] at k; cases k
theorem sl_but {α : Type} {H H' : Heap} {enc : α → List Value} {n b1 b2 len cap : Nat} {f1 f2 : Int → Option Value} {A : Option Addr} {L : List α} (h : SlT H enc n (.slice A len cap) L) (h1 : Mp H b1 f1) (h2 : Mp H b2 f2) (he : But (fun g => g = b1 ∨ g = b2) H H') : SlT H' enc n (.slice A len cap) L := by
  obtain ⟨A', cap', e, k1, k2, k0, k3⟩ := h
  refine ⟨A', cap', e, k1, k2, k0, k3.imp id ?_⟩
  rintro ⟨b, o, c, rfl, hb, k4⟩
  exact ⟨b, o, c, rfl, hb.but he (fun hs => hs.elim (h1.ne hb) (h2.ne hb)), k4⟩
def zv (P : Program) (t : TypeId) : Option Value := (P.info? t).bind (·.zero)
section rules
variable {P : Program} {dst : Option Tmp} {ty : TypeId} {pos : String} {aft : Array Edge} {gd : Option (Nat × Bool)} {e : Env} {H : Heap}
theorem key_run {kt : TypeId} (hk : P.underlying kt = some (.int .i64)) (em : Bool) (n : Nat) (k : Int) (w : World) : (Instr.checkKey em (n + 1) kt (I k)).run P w = .ok () w := by
  unfold Instr.checkKey
  simp only [Sem.run_bind, run_underlying hk, Result.andThen_ok]
  rfl
theorem fk_run {kt : TypeId} (hk : P.underlying kt = some (.int .i64)) {k : Int} {es : List MapEntry} {r : Option (Nat × Value)} (h : Instr.findNow (.int .i64) (I k) es 0 = some r) (w : World) : (Instr.findKey kt (I k) es).run P w = .ok r w := by
  unfold Instr.findKey
  simp only [Sem.run_bind, run_underlying hk, Result.andThen_ok, h, Sem.run_pure]
theorem go_run {w : World} {r : Nat} {es : Array MapEntry} {c : Nat} (hb : w.heap[r]? = some (.map es c)) : (getObj r).run P w = .ok (.map es c) w := by
  simp [getObj, Sem.run, hb]
theorem so_run {w : World} {r : Nat} {es : Array MapEntry} {c : Nat} (o : Obj) (hb : w.heap[r]? = some (.map es c)) : (setObj r o).run P w = .ok () { w with heap := w.heap.setIfInBounds r o } := by
  simp [setObj, Sem.run, hb]
theorem Lod.mlk {mt kt et : TypeId} {x y : Operand} {b : Nat} {f : Int → Option Value} {k : Int} {z : Value} (hm : P.underlying mt = some (.map kt et)) (hk : P.underlying kt = some (.int .i64)) (hz : zv P et = some z)
    (hx : ev e x = some (.map (some b))) (hy : ev e y = some (I k)) (hM : Mp H b f) : Lod P ⟨dst, .lookup mt x y true, ty, pos, aft, gd⟩ e H (.tuple #[(f k).getD z, .bool (f k).isSome]) := by
  intro A w hw hA
  obtain ⟨E, c, h1, h2, h3⟩ := hM
  have hb : w.heap[b]? = some (.map E c) := by rw [hw]; exact h1
  have hzr : (zeroValue et).run P w = .ok z w := by
    simp only [zv, Option.bind_eq_some_iff] at hz
    obtain ⟨i, hi, hv⟩ := hz
    simp [zeroValue, typeInfo, hi, hv]
  simp only [execOp, hA.ev hx, hA.ev hy, Instr.lookup, Sem.run_bind, run_underlying hm, Result.andThen_ok, go_run hb, Sem.run_pure, key_run hk]
  rcases mfind_ok k E.toList 0 h2 with ⟨k1, k2⟩ | ⟨j, v, k1, k2, _⟩
  · rw [fk_run hk k2]
    rw [h3] at k1
    simp [hzr, k1]
  · rw [fk_run hk k2]
    rw [h3] at k1
    simp [k1]
theorem Does.mup {mt kt et : TypeId} {x y u : Operand} {b : Nat} {f : Int → Option Value} {k : Int} {v : Value} (hm : P.underlying mt = some (.map kt et)) (hk : P.underlying kt = some (.int .i64))
    (hx : ev e x = some (.map (some b))) (hy : ev e y = some (I k)) (hu : ev e u = some v) (hM : Mp H b f) :
    Does P ⟨dst, .mapUpdate mt x y u, ty, pos, aft, gd⟩ e H (fun _ H' => Mp H' b (fun j => if j = k then some v else f j) ∧ But (· = b) H H' ∧ H'.size = H.size) := by
  intro w0 n a hA K Q hK
  obtain ⟨E, c, h1, h2, h3⟩ := hM
  have hl : b < H.size := (show Mp H b f from ⟨E, c, h1, h2, h3⟩).lt
  have hb : (mk w0 H n).heap[b]? = some (.map E c) := h1
  have key : ∃ o : Obj, (∃ E' c', o = .map E' c' ∧ AllI E'.toList ∧ ∀ j, lkE j E'.toList = if j = k then some v else f j) ∧ (execOp a.eval ⟨dst, .mapUpdate mt x y u, ty, pos, aft, gd⟩).run P (mk w0 H n) = .ok .skip (mk w0 (H.setIfInBounds b o) n) := by
    simp only [execOp, hA.ev hx, hA.ev hy, hA.ev hu, Instr.mapUpdate, Sem.run_bind, run_underlying hm, Result.andThen_ok, go_run hb, key_run hk]
    rcases mfind_ok k E.toList 0 h2 with ⟨k1, k2⟩ | ⟨j, v', k1, k2, k3, k4⟩
    · rw [fk_run hk k2]
      refine ⟨.map (E.push ⟨I k, v, c⟩) (c + 1), ⟨_, _, rfl, ?_, ?_⟩, ?_⟩
      · rw [Array.toList_push]
        intro e he
        rcases List.mem_append.1 he with he | he
        · exact h2 e he
        · rw [List.mem_singleton] at he; subst he; exact ⟨k, rfl⟩
      · intro j
        rw [Array.toList_push, lk_push h2 k1 j, h3]
      · simp only [Result.andThen_ok, so_run _ hb]
        simp [mk]
    · rw [fk_run hk k2]
      refine ⟨.map (E.modify (0 + j) fun e => { e with key := I k, val := v }) c, ⟨_, _, rfl, ?_, ?_⟩, ?_⟩
      · rw [Array.toList_modify, Nat.zero_add]; exact (k4 v).1
      · intro i
        rw [Array.toList_modify, Nat.zero_add, (k4 v).2 i, h3]
      · have hky : (((E[0 + j]?).map (·.key)).getD (I k)) = I k := by
          have : (E.toList[j]?).map (·.key) = some (I k) := k3
          rw [Nat.zero_add, ← Array.getElem?_toList, this]; rfl
        have hst : (Instr.keyThatStays (I k) (I k)).run P (mk w0 H n) = .ok (I k) (mk w0 H n) := by
          unfold Instr.keyThatStays
          rw [if_pos (by simp [Instr.sameBits])]
          simp
        simp only [Result.andThen_ok, Sem.run_bind, hky, hst, so_run _ hb]
        simp [mk]
  obtain ⟨o, ⟨E', c', rfl, g1, g2⟩, hrun⟩ := key
  unfold Oper.wp
  rw [hrun]
  refine hK _ _ n ⟨⟨E', c', by simp [hl], g1, g2⟩, ⟨by simp, fun b' hb' hne => ?_⟩, by simp⟩
  rw [Array.getElem?_setIfInBounds_ne (fun h => hne h.symm)]
theorem Does.mkm {t : TypeId} : Does P ⟨dst, .makeMap t none, ty, pos, aft, gd⟩ e H (fun u H' => u = .map (some H.size) ∧ Mp H' H.size (fun _ => none) ∧ Ext H H' ∧ H'.size = H.size + 1) := by
  intro w0 n a hA K Q hK
  have hrun : (execOp a.eval ⟨dst, .makeMap t none, ty, pos, aft, gd⟩).run P (mk w0 H n) = .ok (.value (.map (some H.size))) (mk w0 (H.push (.map #[] 0)) n) := by
    simp only [execOp, Instr.makeMap, Sem.run_bind, run_newObj, Result.andThen_ok, Sem.run_pure]; rfl
  unfold Oper.wp
  rw [hrun]
  refine hK _ _ n ⟨rfl, ⟨#[], 0, by simp, fun e he => by simp at he, fun k => rfl⟩, ⟨by simp, fun b hb => ?_⟩, by simp⟩
  rw [Array.getElem?_push, if_neg (by omega)]
theorem Lod.mlk' {mt kt et : TypeId} {x y : Operand} {b : Nat} {f : Int → Option Value} {k : Int} {z v : Value} {ok : Bool} (hm : P.underlying mt = some (.map kt et)) (hk : P.underlying kt = some (.int .i64)) (hz : zv P et = some z)
    (hv : (f k).getD z = v) (hok : (f k).isSome = ok) (hx : ev e x = some (.map (some b))) (hy : ev e y = some (I k)) (hM : Mp H b f) : Lod P ⟨dst, .lookup mt x y true, ty, pos, aft, gd⟩ e H (.tuple #[v, .bool ok]) := by
  subst hv hok; exact Lod.mlk hm hk hz hx hy hM
theorem At.drawM {f : FuncId} {N : Nat} {R : Value → Heap → Prop} {k : List Item} {ops : Array Oper} {k' : List Item} {m b : Nat} {l : List (Nat × List Value)} {F : Int → Option Value} (h0 : Bks l H ∧ Mp H b F) (fs : List Nat) (hm : P.follows .mixedOrders = true) (hh : hd 60 k = .region ops true k') (hi : ops.size = m)
    (h : RegD P ops N (fun H' => Bks l H' ∧ Mp H' b F) fs m (Array.replicate m false) (fun e' H' => At P f N R (k := k') e' H') e H) : At P f N R (k := k) e H := At.draw (fun H' => Bks l H' ∧ Mp H' b F) fs hm hh hi h
end rules
def Chg (b1 b2 : Nat) (H H' : Heap) : Prop := But (fun g => g = b1 ∨ g = b2) H H'
section chg
variable {b1 b2 : Nat} {A B C : Heap}
theorem Chg.refl : Chg b1 b2 A A := But.refl _ _
theorem Chg.trans (h : Chg b1 b2 A B) (k : Chg b1 b2 B C) : Chg b1 b2 A C := But.trans h k
theorem Chg.ext (h : Chg b1 b2 A B) (k : Ext B C) : Chg b1 b2 A C := But.trans h k.but
theorem Chg.lt (h : Chg b1 b2 A B) : A.size ≤ B.size := h.1
theorem Chg.via {S : Nat → Prop} (h : Chg b1 b2 A B) (k : But S B C) (hs : ∀ g, g < A.size → S g → g = b1 ∨ g = b2) : Chg b1 b2 A C :=
  ⟨Nat.le_trans h.1 k.1, fun b hb hS => (k.2 b (Nat.lt_of_lt_of_le hb h.1) (fun hk => hS (hs b hb hk))).trans (h.2 b hb hS)⟩
theorem Chg.upw {b' : Nat} {c' : List Value} (h : Chg b1 b2 A B) (u : Upd B C b' c') (hb : A.size ≤ b') : Chg b1 b2 A C :=
  h.via u.but (fun g hg e => by omega)
end chg
end Go.Proofs.YtlfillhffpiffaaDoor

namespace Go.Proofs.YtlfillhffpiffaaDoor
set_option linter.unusedSimpArgs false
set_option linter.unusedVariables false
set_option maxRecDepth 8000
open Go Go.Fx Go.Proofs

inductive Bt where
  | t (v : Int) (u : Tm)
  | r (v : Int) (s : List Int)
def Bt.pl : Bt → Int × Bool × List (List Int) × List Int
  | .t v u => (v, false, u.enc 0, noRow)
  | .r v s => (v, true, [], s)
def Bt.ok : Bt → Prop
  | .t v u => u.ok ∧ u.sz ≤ 256
  | .r v s => s.length = 5 ∧ rowM s = true
def findT : List Bt → Int → Option Tm
  | [], _ => none
  | .t w u :: l, v => if w = v then some u else findT l v
  | .r _ _ :: l, v => findT l v
def findR : List Bt → Int → Option (List Int)
  | [], _ => none
  | .r w s :: l, v => if w = v then some s else findR l v
  | .t _ _ :: l, v => findR l v
theorem find_T {v : Int} : ∀ {Bs : List Bd} {Ts : List Bt}, Bs.map pl = Ts.map Bt.pl → (Bs.find? (mt false v)).map (·.nodes) = (findT Ts v).map (·.enc 0)
  | [], [], _ => rfl
  | [], _ :: _, h => by simp at h
  | _ :: _, [], h => by simp at h
  | b :: Bs, .t w u :: Ts, h => by
    simp only [List.map_cons, List.cons.injEq] at h
    obtain ⟨h1, h2⟩ := h
    simp only [pl, Bt.pl, Prod.mk.injEq] at h1
    have hm : mt false v b = decide (w = v) := by unfold mt; rw [h1.2.1, h1.1]; rfl
    rw [List.find?_cons, hm]
    simp only [findT]
    by_cases hw : w = v
    · rw [if_pos hw, decide_eq_true hw]; simp only [Option.map_some]; rw [h1.2.2.1]
    · rw [if_neg hw, decide_eq_false hw]; exact find_T h2
  | b :: Bs, .r w s :: Ts, h => by
    simp only [List.map_cons, List.cons.injEq] at h
    obtain ⟨h1, h2⟩ := h
    simp only [pl, Bt.pl, Prod.mk.injEq] at h1
    have hm : mt false v b = false := by unfold mt; rw [h1.2.1]; rfl
    rw [List.find?_cons, hm]
    simp only [findT]
    exact find_T h2
theorem find_R {v : Int} : ∀ {Bs : List Bd} {Ts : List Bt}, Bs.map pl = Ts.map Bt.pl → (Bs.find? (mt true v)).map (·.row) = findR Ts v
  | [], [], _ => rfl
  | [], _ :: _, h => by simp at h
  | _ :: _, [], h => by simp at h
  | b :: Bs, .r w s :: Ts, h => by
    simp only [List.map_cons, List.cons.injEq] at h
    obtain ⟨h1, h2⟩ := h
    simp only [pl, Bt.pl, Prod.mk.injEq] at h1
    have hm : mt true v b = decide (w = v) := by unfold mt; rw [h1.2.1, h1.1]; rfl
    rw [List.find?_cons, hm]
    simp only [findR]
    by_cases hw : w = v
    · rw [if_pos hw, decide_eq_true hw]; simp only [Option.map_some]; rw [h1.2.2.2]
    · rw [if_neg hw, decide_eq_false hw]; exact find_R h2
  | b :: Bs, .t w u :: Ts, h => by
    simp only [List.map_cons, List.cons.injEq] at h
    obtain ⟨h1, h2⟩ := h
    simp only [pl, Bt.pl, Prod.mk.injEq] at h1
    have hm : mt true v b = false := by unfold mt; rw [h1.2.1]; rfl
    rw [List.find?_cons, hm]
    simp only [findR]
    exact find_R h2
def rwS (Ts : List Bt) (r : List Int) : Option (List Int) :=
  if r.getD 4 0 < 0 then some r else match findR Ts (r.getD 4 0) with
    | none => some r
    | some s => if sumOk r s then some (sumR r s) else none
def rwP (o : Option (List Int)) : List Int × Bool := match o with | some x => (x, true) | none => (noRow, false)
theorem rowS_rw {Bs : List Bd} {Ts : List Bt} (h : Bs.map pl = Ts.map Bt.pl) (r : List Int) : rowS Bs r = rwP (rwS Ts r) := by
  have hf := find_R (v := r.getD 4 0) h
  unfold rowS rwS
  split
  · rfl
  · cases hq : Bs.find? (mt true (r.getD 4 0)) with
    | none => rw [hq] at hf; rw [← hf]; rfl
    | some bd =>
      rw [hq] at hf; rw [← hf]
      simp only [Option.map_some]
      split <;> rfl
def sub (Ts : List Bt) : Tm → Option Tm
  | .bas k => some (.bas k)
  | .var v => match findT Ts v with | some u => some u | none => some (.var v)
  | .fn a r b => match sub Ts a, rwS Ts r, sub Ts b with
    | some a', some r', some b' => some (.fn a' r' b')
    | _, _, _ => none
def tys (Ts : List Bt) (t : Tm) : Option Tm := match sub Ts t with
  | some u => if u.sz ≤ 256 then some u else none
  | none => none

def tys' (n : Nat) (o : Option Tm) : Option Tm := match o with | some u => if n + u.sz ≤ 256 then some u else none | none => none
theorem ends_get {ends es fs : List Int} {j : Nat} (h : j < es.length) : (ends ++ es ++ fs).getD (ends.length + j) 0 = es.getD j 0 := by
  simp [List.getD_eq_getElem?_getD, List.getElem?_append, h]
  rw [if_neg (by omega)]; rfl
theorem go_one {Bs : List Bd} {x : List Int} {rest out m : List (List Int)} {ends : List Int} (h : moreS Bs out ends x = some m) :
    goS Bs (x :: rest) out ends = if 256 < out.length + m.length then none else goS Bs rest (out ++ m) (ends ++ [((out.length + m.length : Nat) : Int) - 1]) := by
  rw [goS_cons, h]
def GoP (Bs : List Bd) (t : Tm) (o : Option Tm) (out rest : List (List Int)) (ends : List Int) : Prop :=
  match tys' out.length o with
    | some u => ∃ es : List Int, es.length = t.sz ∧ es.getD (t.sz - 1) 0 = (out.length : Int) + u.sz - 1 ∧ goS Bs (t.enc ends.length ++ rest) out ends = goS Bs rest (out ++ u.enc out.length) (ends ++ es)
    | none => goS Bs (t.enc ends.length ++ rest) out ends = none
theorem go_leaf {Bs : List Bd} {t u : Tm} {x : List Int} {out rest : List (List Int)} {ends : List Int} (ht : t.sz = 1) (hx : t.enc ends.length = [x]) (hm : moreS Bs out ends x = some (u.enc out.length)) : GoP Bs t (some u) out rest ends := by
  unfold GoP tys'
  have h1 := go_one (rest := rest) hm
  rw [Tm.enc_len] at h1
  dsimp only
  by_cases hs : out.length + u.sz ≤ 256
  · rw [if_pos hs]
    rw [if_neg (by omega)] at h1
    refine ⟨_, ?_, ?_, by rw [hx]; exact h1⟩
    · rw [ht]; rfl
    · rw [ht]; show ((out.length + u.sz : Nat) : Int) - 1 = _; omega
  · rw [if_neg hs]
    rw [if_pos (by omega)] at h1
    dsimp only
    rw [hx]; exact h1
theorem more_var {Bs : List Bd} {Ts : List Bt} (h : Bs.map pl = Ts.map Bt.pl) (hok : ∀ b ∈ Ts, b.ok) {out : List (List Int)} (ho : out.length ≤ 256) {ends : List Int} {v : Int} :
    moreS Bs out ends (vNode v) = some ((match findT Ts v with | some u => u | none => Tm.var v).enc out.length) := by
  have hf := find_T (v := v) h
  unfold moreS
  rw [if_pos (by rfl)]
  show (match Bs.find? (mt false v) with | some bd => some (bd.nodes.map (movS out.length)) | none => some [vNode v]) = _
  cases hq : findT Ts v with
  | none =>
    rw [hq] at hf
    cases hb : Bs.find? (mt false v) with
    | none => rfl
    | some bd => rw [hb] at hf; cases hf
  | some u =>
    rw [hq] at hf
    have hu : u.sz ≤ 256 := by
      have : ∀ {l : List Bt}, (∀ b ∈ l, b.ok) → findT l v = some u → u.sz ≤ 256 := by
        intro l
        induction l with
        | nil => intro _ h; cases h
        | cons b l ih =>
          intro hl h
          cases b with
          | t w x =>
            simp only [findT] at h
            split at h
            · cases h; exact (hl _ List.mem_cons_self).2
            · exact ih (fun b hb => hl b (List.mem_cons_of_mem _ hb)) h
          | r w x => exact ih (fun b hb => hl b (List.mem_cons_of_mem _ hb)) h
      exact this hok hq
    cases hb : Bs.find? (mt false v) with
    | none => rw [hb] at hf; cases hf
    | some bd =>
      rw [hb] at hf
      simp only [Option.map_some, Option.some.injEq] at hf
      dsimp only
      rw [hf, Tm.enc_mov u 0 out.length (by omega) (by omega) (by omega) (by omega) (by omega) (by omega), Int.zero_add]
theorem go_enc {Bs : List Bd} {Ts : List Bt} (h : Bs.map pl = Ts.map Bt.pl) (hok : ∀ b ∈ Ts, b.ok) : ∀ (t : Tm) (out rest : List (List Int)) (ends : List Int), out.length ≤ 256 → GoP Bs t (sub Ts t) out rest ends
  | .bas b, out, rest, ends, ho => go_leaf rfl rfl (by cases b <;> rfl)
  | .var v, out, rest, ends, ho => by
    have := more_var h hok ho (ends := ends) (v := v)
    simp only [sub]
    cases hq : findT Ts v with
    | none => rw [hq] at this; exact go_leaf rfl rfl this
    | some u => rw [hq] at this; exact go_leaf rfl rfl this
  | .fn a r b, out, rest, ends, ho => by
    have haz := a.sz_pos
    have hbz := b.sz_pos
    have ha := go_enc h hok a out (b.enc (ends.length + a.sz) ++ fNode (ends.length + a.sz - 1) (ends.length + a.sz + b.sz - 1) r :: rest) ends ho
    have hL : (Tm.fn a r b).enc ends.length ++ rest = a.enc ends.length ++ (b.enc (ends.length + a.sz) ++ fNode (ends.length + a.sz - 1) (ends.length + a.sz + b.sz - 1) r :: rest) := by
      simp only [Tm.enc, List.append_assoc, List.singleton_append]
    unfold GoP
    rw [hL]
    unfold GoP at ha
    simp only [sub]
    cases hsa : sub Ts a with
    | none => rw [hsa] at ha; exact ha
    | some ua =>
      rw [hsa] at ha
      have huz := ua.sz_pos
      unfold tys' at ha
      dsimp only at ha
      by_cases h1 : out.length + ua.sz ≤ 256
      · rw [if_pos h1] at ha
        obtain ⟨es, hes, hel, hga⟩ := ha
        rw [hga]
        have hb := go_enc h hok b (out ++ ua.enc out.length) (fNode (ends.length + a.sz - 1) (ends.length + a.sz + b.sz - 1) r :: rest) (ends ++ es) (by rw [List.length_append, Tm.enc_len]; exact h1)
        unfold GoP at hb
        rw [List.length_append, Tm.enc_len, List.length_append, hes] at hb
        simp only [Int.natCast_add] at hb
        cases hsb : sub Ts b with
        | none =>
          rw [hsb] at hb
          have : tys' out.length (match some ua, rwS Ts r, (none : Option Tm) with | some a', some r', some b' => some (Tm.fn a' r' b') | _, _, _ => none) = none := by cases rwS Ts r <;> rfl
          rw [this]
          exact hb
        | some ub =>
          rw [hsb] at hb
          have hvz := ub.sz_pos
          unfold tys' at hb
          dsimp only at hb
          by_cases h2 : out.length + ua.sz + ub.sz ≤ 256
          · rw [if_pos h2] at hb
            obtain ⟨fs, hfs, hfl, hgb⟩ := hb
            rw [hgb]
            have hi1 : ((ends ++ es ++ fs).getD ((fNode (ends.length + a.sz - 1) (ends.length + a.sz + b.sz - 1) r).getD 2 0).toNat 0) = (out.length : Int) + ua.sz - 1 := by
              rw [show ((fNode (ends.length + a.sz - 1) (ends.length + a.sz + b.sz - 1) r).getD 2 0).toNat = ends.length + (a.sz - 1) by show ((ends.length : Int) + a.sz - 1).toNat = _; omega, ends_get (by omega), hel]
            have hi2 : ((ends ++ es ++ fs).getD ((fNode (ends.length + a.sz - 1) (ends.length + a.sz + b.sz - 1) r).getD 3 0).toNat 0) = (out.length : Int) + ua.sz + ub.sz - 1 := by
              have := ends_get (ends := ends ++ es) (es := fs) (fs := []) (j := b.sz - 1) (by omega)
              rw [List.append_nil] at this
              rw [show ((fNode (ends.length + a.sz - 1) (ends.length + a.sz + b.sz - 1) r).getD 3 0).toNat = (ends ++ es).length + (b.sz - 1) by rw [List.length_append, hes]; show ((ends.length : Int) + a.sz + b.sz - 1).toNat = _; omega, this, hfl]
            have hrow := rowS_rw h r
            have hdr : (fNode (ends.length + a.sz - 1) (ends.length + a.sz + b.sz - 1) r).drop 4 = r := rfl
            cases hr : rwS Ts r with
            | none =>
              rw [hr] at hrow
              dsimp only [tys']
              rw [goS_cons]
              have hm : moreS Bs (out ++ ua.enc out.length ++ ub.enc ((out.length : Int) + ua.sz)) (ends ++ es ++ fs) (fNode (ends.length + a.sz - 1) (ends.length + a.sz + b.sz - 1) r) = none := by
                unfold moreS
                rw [if_neg (by show ¬ (3 : Int) = 2; decide), if_pos (by rfl), hdr, hrow]
                rfl
              rw [hm]
            | some r' =>
              rw [hr] at hrow
              have hm : moreS Bs (out ++ ua.enc out.length ++ ub.enc ((out.length : Int) + ua.sz)) (ends ++ es ++ fs) (fNode (ends.length + a.sz - 1) (ends.length + a.sz + b.sz - 1) r) = some [fNode ((out.length : Int) + ua.sz - 1) ((out.length : Int) + ua.sz + ub.sz - 1) r'] := by
                unfold moreS
                rw [if_neg (by show ¬ (3 : Int) = 2; decide), if_pos (by rfl), hdr, hrow, hi1, hi2]
                rfl
              have hl : (out ++ ua.enc out.length ++ ub.enc ((out.length : Int) + ua.sz)).length = out.length + ua.sz + ub.sz := by rw [List.length_append, List.length_append, Tm.enc_len, Tm.enc_len]
              have h3 := go_one (rest := rest) hm
              rw [hl, List.length_singleton] at h3
              rw [h3]
              dsimp only [tys']
              have hz : (Tm.fn ua r' ub).sz = ua.sz + ub.sz + 1 := rfl
              have hz' : (Tm.fn a r b).sz = a.sz + b.sz + 1 := rfl
              by_cases h4 : out.length + (Tm.fn ua r' ub).sz ≤ 256
              · rw [if_pos h4, if_neg (by omega)]
                refine ⟨es ++ fs ++ [((out.length + ua.sz + ub.sz + 1 : Nat) : Int) - 1], by rw [List.length_append, List.length_append, hes, hfs]; rfl, ?_, ?_⟩
                · rw [show (Tm.fn a r b).sz - 1 = (es ++ fs).length by rw [List.length_append, hes, hfs]; rfl]
                  simp [List.getD_eq_getElem?_getD]; omega
                · simp only [Tm.enc, List.append_assoc]
              · rw [if_neg h4, if_pos (by omega)]
          · rw [if_neg h2] at hb
            have : tys' out.length (match some ua, rwS Ts r, some ub with | some a', some r', some b' => some (Tm.fn a' r' b') | _, _, _ => none) = none := by
              cases rwS Ts r with
              | none => rfl
              | some r' => dsimp only [tys']; rw [if_neg (by simp only [Tm.sz]; omega)]
            rw [this]
            exact hb
      · rw [if_neg h1] at ha
        have : tys' out.length (match some ua, rwS Ts r, sub Ts b with | some a', some r', some b' => some (Tm.fn a' r' b') | _, _, _ => none) = none := by
          cases rwS Ts r with
          | none => rfl
          | some r' =>
            cases sub Ts b with
            | none => rfl
            | some ub => dsimp only [tys']; rw [if_neg (by simp only [Tm.sz]; omega)]
        rw [this]
        exact ha
theorem typS_tys {Bs : List Bd} {Ts : List Bt} (h : Bs.map pl = Ts.map Bt.pl) (hok : ∀ b ∈ Ts, b.ok) (t : Tm) : typS Bs (t.enc 0) = (tys Ts t).map (·.enc 0) := by
  have := go_enc h hok t [] [] [] (by simp)
  unfold GoP tys' at this
  unfold typS tys
  simp only [List.append_nil, List.length_nil, Nat.zero_add, List.nil_append, Int.natCast_zero] at this
  cases hs : sub Ts t with
  | none => rw [hs] at this; exact this
  | some u =>
    rw [hs] at this
    dsimp only at this ⊢
    by_cases h1 : u.sz ≤ 256
    · rw [if_pos h1] at this ⊢
      obtain ⟨es, _, _, hg⟩ := this
      rw [hg]; rfl
    · rw [if_neg h1] at this ⊢
      exact this
end Go.Proofs.YtlfillhffpiffaaDoor

namespace Go.Proofs.YtlfillhffpiffaaDoor
set_option linter.unusedSimpArgs false
set_option linter.unusedVariables false
set_option maxRecDepth 8000
open Go Go.Fx Go.Proofs
namespace FactsUniA
theorem ag22 : ag Tryd.prog 22 = some 4 := by kernel_rfl
theorem ag57 : ag Tryd.prog 57 = some 8 := by kernel_rfl
theorem arr22 : arr Tryd.prog 22 = some (4, 1) := by kernel_rfl
theorem fo24_0 : foff Tryd.prog 24 0 = some 0 := by kernel_rfl
theorem pl24 : places Tryd.prog 24 = some [(0, 4), (4, 1)] := by kernel_rfl
theorem sc3 : sc Tryd.prog 3 = true := by kernel_rfl
theorem zc24 : zc Tryd.prog 24 = some [.int .i64 0, .int .i64 0, .int .i64 0, .int .i64 0, .int .i64 0] := by kernel_rfl
end FactsUniA
open FactsUniA

theorem rowM_all {r : List Int} (h : rowM r = true) {i : Nat} (hi : i < 4) (hl : r.length = 5) : 0 ≤ r.getD i 0 ∧ r.getD i 0 ≤ 32 := by
  unfold rowM at h
  simp only [Bool.and_eq_true] at h
  have := List.all_eq_true.1 h.1 (r.getD i 0) (by
    rw [← take4_at hl hi]; exact List.getElem_mem _)
  simpa [okc] using this
theorem rowM_t {r : List Int} (h : rowM r = true) : -1 ≤ r.getD 4 0 ∧ r.getD 4 0 < 4096 := by
  unfold rowM at h
  simp only [Bool.and_eq_true, decide_eq_true_eq] at h
  exact h.2

end Go.Proofs.YtlfillhffpiffaaDoor

namespace Go.Proofs.YtlfillhffpiffaaDoor
set_option linter.unusedSimpArgs false
set_option linter.unusedVariables false
set_option maxRecDepth 8000
open Go Go.Fx Go.Proofs
namespace FactsUniB
theorem ag22 : ag Tryd.prog 22 = some 4 := by kernel_rfl
theorem ag24 : ag Tryd.prog 24 = some 5 := by kernel_rfl
theorem arr22 : arr Tryd.prog 22 = some (4, 1) := by kernel_rfl
theorem fo24_0 : foff Tryd.prog 24 0 = some 0 := by kernel_rfl
theorem fo24_1 : foff Tryd.prog 24 1 = some 4 := by kernel_rfl
theorem mixed : Tryd.prog.follows .mixedOrders = true := by kernel_rfl
theorem sc3 : sc Tryd.prog 3 = true := by kernel_rfl
end FactsUniB
open FactsUniB

end Go.Proofs.YtlfillhffpiffaaDoor

namespace Go.Proofs.YtlfillhffpiffaaDoor
set_option linter.unusedSimpArgs false
set_option linter.unusedVariables false
set_option maxRecDepth 8000
open Go Go.Fx Go.Proofs

def bt (b : Bd) : Bt := .r b.var b.row
def occ (v : Int) : Tm → Bool
  | .bas _ => false
  | .var w => decide (w = v)
  | .fn a _ b => occ v a || occ v b
theorem find_some {v : Int} {u : Tm} : ∀ {l : List Bt}, findT l v = some u → Bt.t v u ∈ l
  | [], h => by cases h
  | .t w x :: l, h => by
    simp only [findT] at h
    split at h
    · rename_i hw; cases h; subst hw; exact List.mem_cons_self
    · exact List.mem_cons_of_mem _ (find_some h)
  | .r w s :: l, h => List.mem_cons_of_mem _ (find_some (l := l) h)
theorem findR_some {v : Int} {u : List Int} : ∀ {l : List Bt}, findR l v = some u → Bt.r v u ∈ l
  | [], h => by cases h
  | .r w x :: l, h => by
    simp only [findR] at h
    split at h
    · rename_i hw; cases h; subst hw; exact List.mem_cons_self
    · exact List.mem_cons_of_mem _ (findR_some h)
  | .t w s :: l, h => List.mem_cons_of_mem _ (findR_some (l := l) h)
theorem sub_fn {Ts : List Bt} {a b u : Tm} {r : List Int} (h : sub Ts (.fn a r b) = some u) : ∃ a' r' b', sub Ts a = some a' ∧ rwS Ts r = some r' ∧ sub Ts b = some b' ∧ u = .fn a' r' b' := by
  simp only [sub] at h
  cases ha : sub Ts a with
  | none => rw [ha] at h; cases h
  | some a' =>
    cases hr : rwS Ts r with
    | none => rw [ha, hr] at h; cases h
    | some r' =>
      cases hb : sub Ts b with
      | none => rw [ha, hr, hb] at h; cases h
      | some b' => rw [ha, hr, hb] at h; cases h; exact ⟨_, _, _, rfl, rfl, rfl, rfl⟩
theorem row_five {r : List Int} (h : r.length = 5) : ∃ a b c d e, r = [a, b, c, d, e] := by
  match r, h with
  | [a, b, c, d, e], _ => exact ⟨a, b, c, d, e, rfl⟩
theorem sum_ok {r s : List Int} (hr : r.length = 5) (hrm : rowM r = true) (hs : s.length = 5) (hsm : rowM s = true) (h : sumOk r s = true) : (sumR r s).length = 5 ∧ rowM (sumR r s) = true := by
  obtain ⟨a, b, c, d, e, rfl⟩ := row_five hr
  obtain ⟨a', b', c', d', e', rfl⟩ := row_five hs
  refine ⟨rfl, ?_⟩
  have f := fun i (hi : i < 4) => rowM_all hrm hi hr
  have g := fun i (hi : i < 4) => rowM_all hsm hi hs
  have t := rowM_t hsm
  have f0 := f 0 (by decide); have f1 := f 1 (by decide); have f2 := f 2 (by decide); have f3 := f 3 (by decide)
  have g0 := g 0 (by decide); have g1 := g 1 (by decide); have g2 := g 2 (by decide); have g3 := g 3 (by decide)
  simp only [List.getD_cons_zero, List.getD_cons_succ] at f0 f1 f2 f3 g0 g1 g2 g3 t
  unfold sumOk at h
  simp only [List.all_eq_true, List.mem_range, decide_eq_true_eq, sm] at h
  have h0 := h 0 (by decide); have h1 := h 1 (by decide); have h2 := h 2 (by decide); have h3 := h 3 (by decide)
  simp only [List.getD_cons_zero, List.getD_cons_succ] at h0 h1 h2 h3
  rw [wrap_in (n := a + a') (by omega)] at h0
  rw [wrap_in (n := b + b') (by omega)] at h1
  rw [wrap_in (n := c + c') (by omega)] at h2
  rw [wrap_in (n := d + d') (by omega)] at h3
  have e : sumR [a, b, c, d, e] [a', b', c', d', e'] = [a + a', b + b', c + c', d + d', e'] := by
    show [IntKind.i64.wrap (a + a'), IntKind.i64.wrap (b + b'), IntKind.i64.wrap (c + c'), IntKind.i64.wrap (d + d'), e'] = _
    rw [wrap_in (by omega), wrap_in (by omega), wrap_in (by omega), wrap_in (by omega)]
  rw [e]
  rw [decide_eq_true_eq] at h0 h1 h2 h3
  unfold rowM
  simp [okc]
  omega
theorem rw_ok {Ts : List Bt} (hT : ∀ b ∈ Ts, b.ok) {r u : List Int} (hr : r.length = 5) (hrm : rowM r = true) (h : rwS Ts r = some u) : u.length = 5 ∧ rowM u = true := by
  unfold rwS at h
  split at h
  · cases h; exact ⟨hr, hrm⟩
  · split at h
    · cases h; exact ⟨hr, hrm⟩
    · rename_i s hf
      split at h
      · rename_i hs
        cases h
        have := hT _ (findR_some hf)
        exact sum_ok hr hrm this.1 this.2 hs
      · cases h
theorem sub_ok {Ts : List Bt} (hT : ∀ b ∈ Ts, b.ok) : ∀ {t u : Tm}, t.ok → sub Ts t = some u → u.ok
  | .bas k, u, _, h => by cases h; trivial
  | .var w, u, ht, h => by
    simp only [sub] at h
    cases hf : findT Ts w with
    | none => rw [hf] at h; cases h; exact ht
    | some x => rw [hf] at h; cases h; exact (hT _ (find_some hf)).1
  | .fn a r b, u, ht, h => by
    obtain ⟨a', r', b', h1, h2, h3, rfl⟩ := sub_fn h
    have := rw_ok hT ht.2.1 ht.2.2.1 h2
    exact ⟨sub_ok hT ht.1 h1, this.1, this.2, sub_ok hT ht.2.2.2 h3⟩
theorem tys_sub {Ts : List Bt} {t u : Tm} (h : tys Ts t = some u) : sub Ts t = some u ∧ u.sz ≤ 256 := by
  unfold tys at h
  cases hs : sub Ts t with
  | none => rw [hs] at h; cases h
  | some x =>
    rw [hs] at h
    dsimp only at h
    split at h
    · rename_i hz; cases h; exact ⟨rfl, hz⟩
    · cases h

end Go.Proofs.YtlfillhffpiffaaDoor

namespace Go.Fx
open Go
set_option linter.unusedSimpArgs false
set_option linter.unusedVariables false
section
variable {P : Program} {dst : Option Tmp} {ty : TypeId} {pos : String} {aft : Array Edge} {gd : Option (Nat × Bool)} {e : Env} {H H' : Heap}
end
end Go.Fx
namespace Go.Proofs.YtlfillhffpiffaaDoor
set_option linter.unusedSimpArgs false
set_option linter.unusedVariables false
set_option maxRecDepth 8000
open Go Go.Fx Go.Proofs

theorem flat_at {α : Type} {enc : α → List Value} {n : Nat} {L : List α} (hL : Wide enc n L) {i : Nat} (hi : i < L.length) :
    ∃ p q, L.flatMap enc = p ++ enc L[i] ++ q ∧ p.length = i * n ∧ ∀ x, (L.set i x).flatMap enc = p ++ enc x ++ q := by
  refine ⟨(L.take i).flatMap enc, (L.drop (i + 1)).flatMap enc, ?_, ?_, fun x => ?_⟩
  · have h : L = L.take i ++ L[i] :: L.drop (i + 1) := by rw [← List.drop_eq_getElem_cons hi, List.take_append_drop]
    have h2 : L.flatMap enc = (L.take i ++ L[i] :: L.drop (i + 1)).flatMap enc := congrArg (·.flatMap enc) h
    rw [h2]
    simp only [List.flatMap_append, List.flatMap_cons, List.append_assoc]
  · rw [flat_len (fun x hx => hL x (List.mem_of_mem_take hx)), List.length_take]; congr 1; omega
  · rw [List.set_eq_take_append_cons_drop, if_pos hi]
    simp [List.flatMap_append, List.flatMap_cons]
end Go.Proofs.YtlfillhffpiffaaDoor

namespace Go.Proofs.YtlfillhffpiffaaDoor
set_option linter.unusedSimpArgs false
set_option linter.unusedVariables false
set_option maxRecDepth 8000
open Go Go.Fx Go.Proofs

def adR (r s : List Int) : List Int := [r.getD 0 0 + s.getD 0 0, r.getD 1 0 + s.getD 1 0, r.getD 2 0 + s.getD 2 0, r.getD 3 0 + s.getD 3 0, s.getD 4 0]
theorem adR_tail (r s : List Int) : (adR r s).getD 4 0 = s.getD 4 0 := rfl
theorem adR_assoc (r s u : List Int) : adR (adR r s) u = adR r (adR s u) := by
  unfold adR
  simp only [List.getD_cons_zero, List.getD_cons_succ, Int.add_assoc]
theorem adR_z {r : List Int} (h : r.length = 5) : adR r [0, 0, 0, 0, r.getD 4 0] = r := by
  obtain ⟨a, b, c, d, e, rfl⟩ := row_five h
  simp [adR]
theorem sumR_ad {r s : List Int} (hr : r.length = 5) (hrm : rowM r = true) (hs : s.length = 5) (hsm : rowM s = true) : sumR r s = adR r s := by
  have f := fun i (hi : i < 4) => rowM_all hrm hi hr
  have g := fun i (hi : i < 4) => rowM_all hsm hi hs
  have f0 := f 0 (by decide); have f1 := f 1 (by decide); have f2 := f 2 (by decide); have f3 := f 3 (by decide)
  have g0 := g 0 (by decide); have g1 := g 1 (by decide); have g2 := g 2 (by decide); have g3 := g 3 (by decide)
  show [IntKind.i64.wrap (r.getD 0 0 + s.getD 0 0), IntKind.i64.wrap (r.getD 1 0 + s.getD 1 0), IntKind.i64.wrap (r.getD 2 0 + s.getD 2 0), IntKind.i64.wrap (r.getD 3 0 + s.getD 3 0), s.getD 4 0] = _
  rw [wrap_in (by omega), wrap_in (by omega), wrap_in (by omega), wrap_in (by omega)]
  rfl

structure Asg where
  T : Int → Tm
  R : Int → List Int
def Asg.row (θ : Asg) (r : List Int) : List Int := if r.getD 4 0 < 0 then r else adR r (θ.R (r.getD 4 0))
def Asg.tm (θ : Asg) : Tm → Tm
  | .bas k => .bas k
  | .var v => θ.T v
  | .fn a r b => .fn (θ.tm a) (θ.row r) (θ.tm b)
theorem Asg.row_no {θ : Asg} {r : List Int} (h : r.getD 4 0 < 0) : θ.row r = r := if_pos h
theorem Asg.row_yes {θ : Asg} {r : List Int} (h : ¬ r.getD 4 0 < 0) : θ.row r = adR r (θ.R (r.getD 4 0)) := if_neg h
theorem Asg.row_ad (θ : Asg) (r s : List Int) : θ.row (adR r s) = adR r (θ.row s) := by
  by_cases h : s.getD 4 0 < 0
  · rw [Asg.row_no (r := s) h, Asg.row_no (by rw [adR_tail]; exact h)]
  · rw [Asg.row_yes (r := s) h, Asg.row_yes (by rw [adR_tail]; exact h), adR_tail, adR_assoc]
def asg (l : List Bt) : Asg := ⟨fun v => match findT l v with | some u => u | none => .var v, fun v => match findR l v with | some s => s | none => [0, 0, 0, 0, v]⟩
theorem rw_asg {l : List Bt} (hl : ∀ b ∈ l, b.ok) {r u : List Int} (hr : r.length = 5) (hrm : rowM r = true) (h : rwS l r = some u) : (asg l).row r = u := by
  unfold rwS at h
  by_cases h0 : r.getD 4 0 < 0
  · rw [if_pos h0] at h; cases h; exact Asg.row_no h0
  · rw [if_neg h0] at h
    rw [Asg.row_yes h0]
    cases hf : findR l (r.getD 4 0) with
    | none =>
      rw [hf] at h; cases h
      have : (asg l).R (r.getD 4 0) = [0, 0, 0, 0, r.getD 4 0] := by unfold asg; dsimp only; rw [hf]
      rw [this]; exact adR_z hr
    | some s =>
      rw [hf] at h
      dsimp only at h
      split at h
      · cases h
        have : (asg l).R (r.getD 4 0) = s := by unfold asg; dsimp only; rw [hf]
        have hs := hl _ (findR_some hf)
        rw [this, sumR_ad hr hrm hs.1 hs.2]
      · cases h
theorem sub_asg {l : List Bt} (hl : ∀ b ∈ l, b.ok) : ∀ {t u : Tm}, t.ok → sub l t = some u → (asg l).tm t = u
  | .bas k, u, _, h => by cases h; rfl
  | .var w, u, ht, h => by
    simp only [sub] at h
    show (match findT l w with | some u => u | none => Tm.var w) = u
    cases hf : findT l w with
    | none => rw [hf] at h; cases h; rfl
    | some x => rw [hf] at h; cases h; rfl
  | .fn a r b, u, ht, h => by
    obtain ⟨a', r', b', h1, h2, h3, rfl⟩ := sub_fn h
    simp only [Asg.tm]
    rw [sub_asg hl ht.1 h1, rw_asg hl ht.2.1 ht.2.2.1 h2, sub_asg hl ht.2.2.2 h3]

end Go.Proofs.YtlfillhffpiffaaDoor

namespace Go.Proofs.YtlfillhffpiffaaDoor
set_option linter.unusedSimpArgs false
set_option linter.unusedVariables false
set_option maxRecDepth 8000
set_option maxHeartbeats 4000000
open Go Go.Fx Go.Proofs
namespace FactsUniY

end FactsUniY
open FactsUniY

def Tm.lst : Tm → List Int
  | .bas k => bNode k
  | .var v => vNode v
  | .fn a r b => fNode ((a.sz : Int) - 1) ((a.sz : Int) + b.sz - 1) r
theorem lst_el : ∀ t : Tm, el (t.enc 0) (((t.enc 0).length : Int) - 1) = t.lst
  | .bas k => rfl
  | .var v => rfl
  | .fn a r b => (enc_parts a r b).1
theorem lst_var {t : Tm} (h : t.lst.getD 0 0 = 2) : ∃ v, t = .var v := by
  cases t with
  | bas k => cases k <;> simp [Tm.lst] at h
  | var v => exact ⟨v, rfl⟩
  | fn a r b => simp [Tm.lst] at h
theorem lst_fn {t : Tm} (h : t.lst.getD 0 0 = 3) : ∃ a r b, t = .fn a r b := by
  cases t with
  | bas k => cases k <;> simp [Tm.lst] at h
  | var v => simp [Tm.lst] at h
  | fn a r b => exact ⟨a, r, b, rfl⟩
theorem nod_row {c : List Value} {o : Nat} {a b : Int} {r : List Int} (h : (c.drop o).take 9 = Is (fNode a b r)) (hr : r.length = 5) : (c.drop (o + 4)).take 5 = Is r := by
  rw [← List.drop_drop, take_mid h (by decide)]
  simp [Is]
  rw [List.take_of_length_le (by simp [hr])]
end Go.Proofs.YtlfillhffpiffaaDoor

namespace Go.Proofs.YtlfillhffpiffaaDoor
set_option linter.unusedSimpArgs false
set_option linter.unusedVariables false
set_option maxRecDepth 8000
open Go Go.Fx Go.Proofs
namespace FactsUniD
theorem ag55 : ag Tryd.prog 55 = some 1 := by kernel_rfl
theorem ag65 : ag Tryd.prog 65 = some 9 := by kernel_rfl
theorem apt53 : appT Tryd.prog 53 = some (65, 9, 72) := by kernel_rfl
theorem es53 : esz Tryd.prog 53 = some 9 := by kernel_rfl
theorem fo55_0 : foff Tryd.prog 55 0 = some 0 := by kernel_rfl
theorem fo65_0 : foff Tryd.prog 65 0 = some 0 := by kernel_rfl
theorem fo65_2 : foff Tryd.prog 65 2 = some 2 := by kernel_rfl
theorem fo65_3 : foff Tryd.prog 65 3 = some 3 := by kernel_rfl
theorem pl55 : places Tryd.prog 55 = some [(0, 1)] := by kernel_rfl
theorem sc3 : sc Tryd.prog 3 = true := by kernel_rfl
theorem sc53 : sc Tryd.prog 53 = true := by kernel_rfl
theorem slA53 : slA Tryd.prog 53 = some (65, 9) := by kernel_rfl
theorem zc55 : zc Tryd.prog 55 = some [.slice none 0 0] := by kernel_rfl
theorem zc65 : zc Tryd.prog 65 = some [.int .i64 0, .int .i64 0, .int .i64 0, .int .i64 0, .int .i64 0, .int .i64 0, .int .i64 0, .int .i64 0, .int .i64 0] := by kernel_rfl
end FactsUniD
open FactsUniD

end Go.Proofs.YtlfillhffpiffaaDoor

namespace Go.Proofs.YtlfillhffpiffaaDoor
set_option linter.unusedSimpArgs false
set_option linter.unusedVariables false
set_option maxRecDepth 8000
open Go Go.Fx Go.Proofs

structure Asg.Ok (θ : Asg) : Prop where
  len : ∀ v, 0 ≤ v → (θ.R v).length = 5
  pos : ∀ v, 0 ≤ v → ∀ i, i < 4 → 0 ≤ (θ.R v).getD i 0
  tl : ∀ v, 0 ≤ v → -1 ≤ (θ.R v).getD 4 0
end Go.Proofs.YtlfillhffpiffaaDoor

namespace Go.Proofs.YtlfillhffpiffaaDoor
set_option linter.unusedSimpArgs false
set_option linter.unusedVariables false
set_option maxRecDepth 8000
open Go Go.Fx Go.Proofs

theorem asg_ok {l : List Bt} (h : ∀ b ∈ l, b.ok) : (asg l).Ok := by
  have key : ∀ v, 0 ≤ v → ((asg l).R v).length = 5 ∧ (∀ i, i < 4 → 0 ≤ ((asg l).R v).getD i 0) ∧ -1 ≤ ((asg l).R v).getD 4 0 := by
    intro v hv
    unfold asg
    dsimp only
    cases hf : findR l v with
    | none =>
      refine ⟨rfl, fun i hi => ?_, by show -1 ≤ v; omega⟩
      match i, hi with
      | 0, _ => exact Int.le_refl _
      | 1, _ => exact Int.le_refl _
      | 2, _ => exact Int.le_refl _
      | 3, _ => exact Int.le_refl _
    | some s =>
      have hs := h _ (findR_some hf)
      exact ⟨hs.1, fun i hi => (rowM_all hs.2 hi hs.1).1, (rowM_t hs.2).1⟩
  exact ⟨fun v hv => (key v hv).1, fun v hv => (key v hv).2.1, fun v hv => (key v hv).2.2⟩
def dfR (g s : List Int) : List Int := [s.getD 0 0 - g.getD 0 0, s.getD 1 0 - g.getD 1 0, s.getD 2 0 - g.getD 2 0, s.getD 3 0 - g.getD 3 0, s.getD 4 0]
def posR (d : List Int) : Bool := decide (0 ≤ d.getD 0 0 ∧ 0 ≤ d.getD 1 0 ∧ 0 ≤ d.getD 2 0 ∧ 0 ≤ d.getD 3 0)
def instR (M : List Bt) (g s : List Int) : Option (List Bt) :=
  if posR (dfR g s) = false then none else if g.getD 4 0 < 0 then (if g = s then some M else none)
  else match findR M (g.getD 4 0) with
    | none => some (M ++ [.r (g.getD 4 0) (dfR g s)])
    | some d => if d = dfR g s then some M else none
def inst (M : List Bt) : Tm → Tm → Option (List Bt)
  | .var v, s => match findT M v with
    | none => some (M ++ [.t v s])
    | some t => if t = s then some M else none
  | .bas k, .bas l => if k = l then some M else none
  | .fn a r b, .fn a' r' b' => match inst M a a' with
    | none => none
    | some M1 => match instR M1 r r' with
      | none => none
      | some M2 => inst M2 b b'
  | _, _ => none
def Has (θ : Asg) (M : List Bt) : Prop := (∀ v u, findT M v = some u → θ.T v = u) ∧ ∀ v d, findR M v = some d → θ.R v = d
theorem has_nil (θ : Asg) : Has θ [] := ⟨fun v u h => (by cases h), fun v u h => (by cases h)⟩
theorem findT_app {v : Int} : ∀ {l m : List Bt}, findT (l ++ m) v = match findT l v with | some u => some u | none => findT m v
  | [], m => rfl
  | .t w u :: l, m => by
    simp only [List.cons_append, findT]
    by_cases h : w = v
    · rw [if_pos h, if_pos h]
    · rw [if_neg h, if_neg h]; exact findT_app
  | .r w u :: l, m => by
    simp only [List.cons_append, findT]; exact findT_app
theorem findR_app {v : Int} : ∀ {l m : List Bt}, findR (l ++ m) v = match findR l v with | some u => some u | none => findR m v
  | [], m => rfl
  | .r w u :: l, m => by
    simp only [List.cons_append, findR]
    by_cases h : w = v
    · rw [if_pos h, if_pos h]
    · rw [if_neg h, if_neg h]; exact findR_app
  | .t w u :: l, m => by
    simp only [List.cons_append, findR]; exact findR_app
theorem has_T {θ : Asg} {M : List Bt} {v : Int} {u : Tm} (hn : findT M v = none) : Has θ (M ++ [.t v u]) ↔ Has θ M ∧ θ.T v = u := by
  constructor
  · rintro ⟨h1, h2⟩
    refine ⟨⟨fun w x hx => h1 w x (by rw [findT_app, hx]), fun w x hx => h2 w x (by rw [findR_app, hx])⟩, h1 v u ?_⟩
    rw [findT_app, hn]; simp [findT]
  · rintro ⟨⟨h1, h2⟩, h3⟩
    refine ⟨fun w x hx => ?_, fun w x hx => ?_⟩
    · rw [findT_app] at hx
      cases hf : findT M w with
      | some y => rw [hf] at hx; cases hx; exact h1 w _ hf
      | none =>
        rw [hf] at hx
        simp only [findT] at hx
        split at hx
        · rename_i hvw; cases hx; subst hvw; exact h3
        · cases hx
    · rw [findR_app] at hx
      cases hf : findR M w with
      | some y => rw [hf] at hx; cases hx; exact h2 w _ hf
      | none => rw [hf] at hx; cases hx
theorem has_R {θ : Asg} {M : List Bt} {v : Int} {u : List Int} (hn : findR M v = none) : Has θ (M ++ [.r v u]) ↔ Has θ M ∧ θ.R v = u := by
  constructor
  · rintro ⟨h1, h2⟩
    refine ⟨⟨fun w x hx => h1 w x (by rw [findT_app, hx]), fun w x hx => h2 w x (by rw [findR_app, hx])⟩, h2 v u ?_⟩
    rw [findR_app, hn]; simp [findR]
  · rintro ⟨⟨h1, h2⟩, h3⟩
    refine ⟨fun w x hx => ?_, fun w x hx => ?_⟩
    · rw [findT_app] at hx
      cases hf : findT M w with
      | some y => rw [hf] at hx; cases hx; exact h1 w _ hf
      | none => rw [hf] at hx; cases hx
    · rw [findR_app] at hx
      cases hf : findR M w with
      | some y => rw [hf] at hx; cases hx; exact h2 w _ hf
      | none =>
        rw [hf] at hx
        simp only [findR] at hx
        split at hx
        · rename_i hvw; cases hx; subst hvw; exact h3
        · cases hx
theorem df_eq {g s X : List Int} (hX : X.length = 5) (h : adR g X = s) : dfR g s = X := by
  subst h
  obtain ⟨a, b, c, d, e, rfl⟩ := row_five hX
  unfold dfR adR
  simp only [List.getD_cons_zero, List.getD_cons_succ]
  simp only [List.cons.injEq, and_true]
  omega
theorem instR_iff {θ : Asg} (hθ : θ.Ok) {M : List Bt} {g s : List Int} (hg : g.length = 5) (hs : s.length = 5) (h : Has θ M) (he : θ.row g = s) : ∃ M', instR M g s = some M' ∧ Has θ M' := by
  unfold instR
  by_cases h0 : g.getD 4 0 < 0
  · rw [Asg.row_no h0] at he
    subst he
    rw [if_neg (by unfold posR dfR; simp), if_pos h0, if_pos rfl]
    exact ⟨M, rfl, h⟩
  · rw [Asg.row_yes h0] at he
    have hd := df_eq (hθ.len _ (by omega)) he
    have hp := hθ.pos (g.getD 4 0) (by omega)
    rw [if_neg (by
      rw [hd]
      unfold posR
      simp only [decide_eq_false_iff_not, Decidable.not_not]
      exact ⟨hp 0 (by decide), hp 1 (by decide), hp 2 (by decide), hp 3 (by decide)⟩), if_neg h0]
    cases hf : findR M (g.getD 4 0) with
    | none => exact ⟨_, rfl, (has_R hf).2 ⟨h, hd.symm⟩⟩
    | some d =>
      have := h.2 _ _ hf
      dsimp only
      rw [if_pos (by rw [hd]; exact this.symm)]
      exact ⟨M, rfl, h⟩
theorem inst_of {θ : Asg} (hθ : θ.Ok) : ∀ {g s : Tm} {M : List Bt}, g.ok → s.ok → Has θ M → θ.tm g = s → ∃ M', inst M g s = some M' ∧ Has θ M'
  | .bas k, s, M, _, _, h, he => by
    obtain rfl : s = .bas k := he.symm
    exact ⟨M, by simp [inst], h⟩
  | .var v, s, M, _, _, h, he => by
    simp only [inst]
    cases hf : findT M v with
    | none => exact ⟨_, rfl, (has_T hf).2 ⟨h, he⟩⟩
    | some t =>
      dsimp only
      rw [if_pos ((h.1 _ _ hf).symm.trans he)]
      exact ⟨M, rfl, h⟩
  | .fn a r b, .fn a' r' b', M, hg, hs, h, he => by
    simp only [Asg.tm, Tm.fn.injEq] at he
    obtain ⟨M1, e1, h1⟩ := inst_of hθ hg.1 hs.1 h he.1
    obtain ⟨M2, e2, h2⟩ := instR_iff hθ hg.2.1 hs.2.1 h1 he.2.1
    obtain ⟨M3, e3, h3⟩ := inst_of hθ hg.2.2.2 hs.2.2.2 h2 he.2.2
    refine ⟨M3, ?_, h3⟩
    simp only [inst, e1, e2, e3]
  | .fn a r b, .bas k, M, _, _, _, he => by cases he
  | .fn a r b, .var k, M, _, _, _, he => by cases he
end Go.Proofs.YtlfillhffpiffaaDoor

namespace Go.Proofs.YtlfillhffpiffaaDoor
set_option linter.unusedSimpArgs false
set_option linter.unusedVariables false
set_option maxRecDepth 8000
set_option maxHeartbeats 1000000
open Go Go.Fx Go.Proofs
namespace FactsUniMA
theorem ag22 : ag Tryd.prog 22 = some 4 := by kernel_rfl
theorem ag24 : ag Tryd.prog 24 = some 5 := by kernel_rfl
theorem ag57 : ag Tryd.prog 57 = some 8 := by kernel_rfl
theorem ag65 : ag Tryd.prog 65 = some 9 := by kernel_rfl
theorem arr22 : arr Tryd.prog 22 = some (4, 1) := by kernel_rfl
theorem eqt24 : eqT Tryd.prog 24 = some [.int .i64, .int .i64, .int .i64, .int .i64, .int .i64] := by kernel_rfl
theorem eqt65 : eqT Tryd.prog 65 = some [.int .i64, .int .i64, .int .i64, .int .i64, .int .i64, .int .i64, .int .i64, .int .i64, .int .i64] := by kernel_rfl
theorem es25 : esz Tryd.prog 25 = some 8 := by kernel_rfl
theorem es53 : esz Tryd.prog 53 = some 9 := by kernel_rfl
theorem fo24_0 : foff Tryd.prog 24 0 = some 0 := by kernel_rfl
theorem fo24_1 : foff Tryd.prog 24 1 = some 4 := by kernel_rfl
theorem fo55_0 : foff Tryd.prog 55 0 = some 0 := by kernel_rfl
theorem fo57_0 : foff Tryd.prog 57 0 = some 0 := by kernel_rfl
theorem fo57_1 : foff Tryd.prog 57 1 = some 1 := by kernel_rfl
theorem fo57_3 : foff Tryd.prog 57 3 = some 3 := by kernel_rfl
theorem isl25 : isSl Tryd.prog 25 = true := by kernel_rfl
theorem isl53 : isSl Tryd.prog 53 = true := by kernel_rfl
theorem mixed : Tryd.prog.follows .mixedOrders = true := by kernel_rfl
theorem sc3 : sc Tryd.prog 3 = true := by kernel_rfl
theorem sc4 : sc Tryd.prog 4 = true := by kernel_rfl
theorem sc53 : sc Tryd.prog 53 = true := by kernel_rfl
end FactsUniMA
open FactsUniMA

def dfS (g s : List Int) (k : Nat) : List Int := (List.range 4).map fun j => if j < k then s.getD j 0 - g.getD j 0 else 0
def posTo (g s : List Int) (k : Nat) : Bool := (List.range k).all fun j => decide (0 ≤ s.getD j 0 - g.getD j 0)
theorem dfS_len (g s : List Int) (k : Nat) : (dfS g s k).length = 4 := rfl
theorem dfS_set (g s : List Int) {k : Nat} (h : k < 4) : (dfS g s k).set k (s.getD k 0 - g.getD k 0) = dfS g s (k + 1) := by
  apply List.ext_getElem (by simp [dfS])
  intro j h1 h2
  rw [List.getElem_set]
  simp only [dfS, List.getElem_map, List.getElem_range]
  split
  · rename_i e; subst e; rw [if_pos (by omega)]
  · rename_i e
    by_cases h3 : j < k
    · rw [if_pos h3, if_pos (by omega)]
    · rw [if_neg h3, if_neg (by omega)]
theorem dfS_at (g s : List Int) {k : Nat} (h : k < 4) : (dfS g s (k + 1)).getD k 0 = s.getD k 0 - g.getD k 0 := by simp [dfS, h]
theorem posTo_succ (g s : List Int) (k : Nat) : posTo g s (k + 1) = (posTo g s k && decide (0 ≤ s.getD k 0 - g.getD k 0)) := by simp [posTo, List.range_succ]
theorem posTo_all (g s : List Int) : posTo g s 4 = posR (dfR g s) := by
  unfold posTo posR dfR
  simp only [List.getD_cons_zero, List.getD_cons_succ]
  simp [List.range, List.range.loop, Bool.decide_and]
end Go.Proofs.YtlfillhffpiffaaDoor

