/-
  Parts of the proof, 2.
-/
import Derived.Test.YtlfillhffpiffaaDoorProg
import Derived.Laws.BytesString
import Derived.Shelf.Strings.Builder1
import Derived.Shelf.Strings.Builder2
import Derived.Shelf.Strings.OnBuilder
import Derived.Shelf.Strconv.Itoa0
import Derived.Shelf.Strconv.Itoa1
import Derived.Shelf.LaysM
import Derived.Shelf.Strconv.Itoa2
import Derived.Shelf.Strconv.Itoa3
import Derived.Lib.LaidU8
import Derived.Test.YtlfillhffpiffaaDoorY1
namespace Go.Proofs.YtlfillhffpiffaaDoor
set_option linter.unusedSimpArgs false
set_option linter.unusedVariables false
set_option maxRecDepth 8000
open Go Go.Fx Go.Proofs
namespace FactsSchA
theorem es50 : esz Tryd.prog 50 = some 1 := by kernel_rfl
theorem isl50 : isSl Tryd.prog 50 = true := by kernel_rfl
theorem sc3 : sc Tryd.prog 3 = true := by kernel_rfl
end FactsSchA
open FactsSchA

def ixL : List Int → Int → Nat
  | [], _ => 0
  | x :: l, v => if x = v then 0 else ixL l v + 1
def inL (l : List Int) (v : Int) : Bool := decide (ixL l v < l.length)
theorem ixL_le : ∀ (l : List Int) (v : Int), ixL l v ≤ l.length
  | [], _ => Nat.le_refl _
  | x :: l, v => by
    simp only [ixL]; split
    · simp
    · simp only [List.length_cons]; have := ixL_le l v; omega
theorem ix_drop {l : List Int} {i : Nat} {v : Int} (hi : i < l.length) : ixL (l.drop i) v = if l[i] = v then 0 else ixL (l.drop (i + 1)) v + 1 := by
  rw [dropL hi, ixL]
theorem ix_end {l : List Int} {i : Nat} {v : Int} (hi : l.length ≤ i) : ixL (l.drop i) v = 0 := by rw [List.drop_of_length_le hi]; rfl
theorem int_at {l : List Int} {H : Heap} {A : Option Addr} {cap : Nat} (hS : SlT H e1 1 (.slice A l.length cap) l) {i : Nat} (hi : i < l.length) :
    ∃ b o c, A = some ⟨b, o, none⟩ ∧ Blk H b c ∧ c[o + i * 1]? = some (I l[i]) := by
  obtain ⟨b, o, c, h1, h2, h3, _⟩ := sl_at (wide1 l) hS hi
  exact ⟨b, o, c, h1, h2, by have := at_tk (j := 0) h3 (by omega) (v := I l[i]) rfl; simpa using this⟩

theorem index_ok {A : Option Addr} {cap : Nat} (l : List Int) {H : Heap} (hS : SlT H e1 1 (.slice A l.length cap) l) (hm : l.length ≤ 9223372036854775807) (v : Int) :
    Ret Tryd.prog 111 [.slice A l.length cap, I v] H (fun r H' => r = I (if inL l v then ixL l v else -1) ∧ H' = H) := by
  refine Ret.of_at (N := 19) Tryd.call111 Tryd.func111 rfl rfl rfl ?_
  have hE := Ext.refl H
  refine At.region rfl rfl ?_
  refine Reg.pur rfl rfl rfl rfl (Pur.asg rfl) ?_
  refine Reg.nil ?_
  refine At.region rfl rfl ?_
  refine Reg.pur rfl rfl rfl rfl (Pur.mv rfl) ?_
  refine Reg.pur rfl rfl rfl rfl (Pur.lenS isl50 rfl) ?_
  refine Reg.pur rfl rfl rfl rfl (Pur.mv rfl) ?_
  refine Reg.nil ?_
  refine At.loop (σ := Nat) (fun i => [(8, I i), (7, I l.length), (0, .slice A l.length cap), (1, I v)]) (fun i H' => i ≤ l.length ∧ H' = H ∧ ixL l v = i + ixL (l.drop i) v) (fun i => l.length - i) 0 rfl ⟨rfl, rfl, rfl, rfl, trivial⟩ ⟨by omega, rfl, by simp⟩ ?_
  rintro i H ⟨hi, rfl, hgo⟩ ih
  refine At.region rfl rfl ?_
  refine Reg.pur rfl rfl rfl rfl (Pur.lss rfl rfl) ?_
  refine Reg.nil ?_
  refine At.cond rfl rfl (fun q9 => ?_) (fun q9 => ?_)
  · first | (simp only [decide_eq_true_eq, decide_eq_false_iff_not, Bool.not_eq_true', Bool.not_eq_false', ne_eq, Decidable.not_not, Bool.not_eq_true, Bool.not_eq_false] at q9) | (dsimp only at q9) | skip
    have hlt : i < l.length := by omega
    obtain ⟨b, o, c, rfl, hB, hc⟩ := int_at hS hlt
    rw [ix_drop hlt] at hgo
    refine At.region rfl rfl ?_
    refine Reg.pur rfl rfl rfl rfl (Pur.mv rfl) ?_
    refine Reg.pur rfl rfl rfl rfl (Pur.asg rfl) ?_
    refine Reg.nil ?_
    refine At.region rfl rfl ?_
    refine Reg.pur rfl rfl rfl rfl (Pur.mv rfl) ?_
    refine Reg.pur rfl rfl rfl rfl (Pur.mv rfl) ?_
    refine Reg.pur rfl rfl rfl rfl (Pur.mv rfl) ?_
    refine Reg.pur rfl rfl rfl rfl (Pur.idx _ es50 rfl rfl (by omega) (by omega)) ?_
    refine Reg.lod rfl rfl rfl rfl (Lod.ld sc3 rfl hB hc) ?_
    refine Reg.pur rfl rfl rfl rfl (Pur.eql rfl rfl) ?_
    refine Reg.nil ?_
    refine At.cond rfl rfl (fun q16 => ?_) (fun q16 => ?_)
    · first | (simp only [decide_eq_true_eq, decide_eq_false_iff_not, Bool.not_eq_true', Bool.not_eq_false', ne_eq, Decidable.not_not, Bool.not_eq_true, Bool.not_eq_false] at q16) | (dsimp only at q16) | skip
      refine At.region rfl rfl ?_
      refine Reg.pur rfl rfl rfl rfl (Pur.mv rfl) ?_
      refine Reg.pur rfl rfl rfl rfl (Pur.asg rfl) ?_
      refine Reg.nil ?_
      refine At.ret rfl Tryd.func111 rfl ?_
      rw [if_pos q16.symm] at hgo
      exact ⟨by rw [if_pos (by simp [inL]; omega)]; congr 1; omega, rfl⟩
    first | (simp only [decide_eq_true_eq, decide_eq_false_iff_not, Bool.not_eq_true', Bool.not_eq_false', ne_eq, Decidable.not_not, Bool.not_eq_true, Bool.not_eq_false] at q16) | (dsimp only at q16) | skip
    refine At.region rfl rfl ?_
    first | refine Reg.pur rfl rfl rfl rfl (Pur.add64 rfl rfl (by omega)) ?_ | refine Reg.pur rfl rfl rfl rfl (Pur.add64 rfl rfl (by assumption)) ?_ | refine Reg.pur rfl rfl rfl rfl (Pur.add rfl rfl) ?_
    refine Reg.pur rfl rfl rfl rfl (Pur.mv rfl) ?_
    refine Reg.nil ?_
    rw [if_neg (fun h => q16 h.symm)] at hgo
    exact At.via (ih (i + 1) _ ⟨by omega, rfl, by omega⟩ (by omega)) ⟨rfl, rfl, rfl, rfl, trivial⟩
  first | (simp only [decide_eq_true_eq, decide_eq_false_iff_not, Bool.not_eq_true', Bool.not_eq_false', ne_eq, Decidable.not_not, Bool.not_eq_true, Bool.not_eq_false] at q9) | (dsimp only at q9) | skip
  refine At.region rfl rfl ?_
  refine Reg.pur rfl rfl rfl rfl (Pur.asg rfl) ?_
  refine Reg.nil ?_
  refine At.ret rfl Tryd.func111 rfl ?_
  rw [ix_end (by omega)] at hgo
  exact ⟨by rw [if_neg (by simp [inL]; omega)], rfl⟩

end Go.Proofs.YtlfillhffpiffaaDoor

namespace Go.Proofs.YtlfillhffpiffaaDoor
set_option linter.unusedSimpArgs false
set_option linter.unusedVariables false
open Go Go.Fx Go.Proofs
namespace FactsTypA
theorem ag22 : ag Tryd.prog 22 = some 4 := by kernel_rfl
theorem arr1_22 : arr1 Tryd.prog 22 = some 4 := by kernel_rfl
theorem arr22 : arr Tryd.prog 22 = some (4, 1) := by kernel_rfl
theorem fo24_0 : foff Tryd.prog 24 0 = some 0 := by kernel_rfl
theorem fo24_1 : foff Tryd.prog 24 1 = some 4 := by kernel_rfl
theorem sc3 : sc Tryd.prog 3 = true := by kernel_rfl
end FactsTypA
open FactsTypA

def okc (n : Int) : Bool := decide (0 ≤ n ∧ n ≤ 32)
def rowM (r : List Int) : Bool := (r.take 4).all okc && decide (-1 ≤ r.getD 4 0 ∧ r.getD 4 0 < 4096)
theorem take4_at {r : List Int} (h : r.length = 5) {i : Nat} (hi : i < 4) : (r.take 4)[i]'(by simp; omega) = r.getD i 0 := by
  simp [List.getD_eq_getElem?_getD, List.getElem?_eq_getElem (by omega : i < r.length)]

theorem hat4 (r : List Int) (h : r.length = 5) : (Is r)[0 + 4]? = some (I (r.getD 4 0)) := at_Is (by omega)
theorem rowMay_ok (r : List Int) (h : r.length = 5) (H : Heap) : Ret Tryd.prog 26 [.agg (Is r).toArray] H (fun v H' => v = .bool (rowM r) ∧ Ext H H') := by
  have h4 : (r.take 4).length = 4 := by simp; omega
  refine Ret.of_at (N := 25) Tryd.call26 Tryd.func26 rfl rfl rfl ?_
  refine At.region rfl rfl ?_
  refine Reg.op rfl rfl rfl rfl (Does.box rfl rfl) ?_
  rintro _ H1 ⟨rfl, hn1⟩
  refine Reg.pur rfl rfl rfl rfl (Pur.asg rfl) ?_
  refine Reg.nil ?_
  refine At.region rfl rfl ?_
  refine Reg.pur rfl rfl rfl rfl (Pur.fld _ fo24_0 rfl) ?_
  refine Reg.lod rfl rfl rfl rfl (Lod.ldn ag22 rfl hn1.own.blk (show _ = Is (r.take 4) by simp [Is, List.map_take]) (by simp [Is]; omega)) ?_
  refine Reg.pur rfl rfl rfl rfl (Pur.mv rfl) ?_
  refine Reg.nil ?_
  refine At.loop (σ := Nat) (fun i => [(7, I i), (6, .agg (Is (r.take 4)).toArray), (1, ptr H.size 0)]) (fun i H' => i ≤ 4 ∧ H' = H1 ∧ ((r.take 4).take i).all okc = true) (fun i => 4 - i) 0 rfl ⟨rfl, rfl, rfl, trivial⟩ ⟨by omega, rfl, rfl⟩ ?_
  rintro i H2 ⟨hi, rfl, hgo⟩ ih
  refine At.region rfl rfl ?_
  refine Reg.pur rfl rfl rfl rfl (Pur.lss rfl rfl) ?_
  refine Reg.nil ?_
  refine At.cond rfl rfl (fun hb1 => ?_) (fun hb1 => ?_)
  · simp only [decide_eq_true_eq] at hb1
    have hlt : i < (r.take 4).length := by omega
    have hat := take4_at h (i := i) (by omega)
    have hai : (Is (r.take 4))[(i : Int).toNat]? = some (I (r.getD i 0)) := by
      have : (Is (r.take 4))[i]? = some (I (r.take 4)[i]) := by simp only [Is, List.getElem?_map, List.getElem?_eq_getElem hlt, Option.map_some]
      rw [hat] at this
      exact this
    refine At.region rfl rfl ?_
    refine Reg.pur rfl rfl rfl rfl (Pur.ixA arr1_22 rfl rfl (by omega) (by omega) hai) ?_
    refine Reg.pur rfl rfl rfl rfl (Pur.asg rfl) ?_
    refine Reg.nil ?_
    refine At.region rfl rfl ?_
    refine Reg.pur rfl rfl rfl rfl (Pur.mv rfl) ?_
    refine Reg.pur rfl rfl rfl rfl (Pur.lss rfl rfl) ?_
    refine Reg.pur rfl rfl rfl rfl (Pur.mv rfl) ?_
    refine Reg.case 12 rfl (fun hc2 => ?_) (fun hc2 => ?_)
    · refine Reg.skip rfl rfl rfl rfl rfl rfl rfl ?_
      refine Reg.skip rfl rfl rfl rfl rfl rfl rfl ?_
      refine Reg.pur rfl rfl rfl rfl (Pur.pickT rfl rfl) ?_
      refine Reg.nil ?_
      refine At.condT rfl rfl rfl ?_
      refine At.region rfl rfl ?_
      refine Reg.pur rfl rfl rfl rfl (Pur.asg rfl) ?_
      refine Reg.nil ?_
      refine At.ret rfl Tryd.func26 rfl ?_
      refine ⟨congrArg Value.bool ?_, hn1.ext⟩
      simp only [decide_eq_false_iff_not, decide_eq_true_eq] at *
      unfold rowM
      first | (rw [all_of_take hlt (by rw [hat, okc, decide_eq_false_iff_not]; omega)]; rfl) | (rw [List.take_of_length_le (by omega)] at hgo; rw [hgo]; generalize r.getD 4 0 = t at *; simp [*])
    refine Reg.gpur rfl rfl rfl rfl rfl rfl (Pur.mv rfl) ?_
    refine Reg.gpur rfl rfl rfl rfl rfl rfl (Pur.gtr rfl rfl) ?_
    refine Reg.pur rfl rfl rfl rfl (Pur.pickF rfl rfl) ?_
    refine Reg.nil ?_
    refine At.cond rfl rfl (fun hb3 => ?_) (fun hb3 => ?_)
    · refine At.region rfl rfl ?_
      refine Reg.pur rfl rfl rfl rfl (Pur.asg rfl) ?_
      refine Reg.nil ?_
      refine At.ret rfl Tryd.func26 rfl ?_
      refine ⟨congrArg Value.bool ?_, hn1.ext⟩
      simp only [decide_eq_false_iff_not, decide_eq_true_eq] at *
      unfold rowM
      first | (rw [all_of_take hlt (by rw [hat, okc, decide_eq_false_iff_not]; omega)]; rfl) | (rw [List.take_of_length_le (by omega)] at hgo; rw [hgo]; generalize r.getD 4 0 = t at *; simp [*])
    refine At.region rfl rfl ?_
    first | refine Reg.pur rfl rfl rfl rfl (Pur.add64 rfl rfl (by omega)) ?_ | refine Reg.pur rfl rfl rfl rfl (Pur.add64 rfl rfl (by assumption)) ?_ | refine Reg.pur rfl rfl rfl rfl (Pur.add rfl rfl) ?_
    refine Reg.pur rfl rfl rfl rfl (Pur.mv rfl) ?_
    refine Reg.nil ?_
    refine At.via (ih (i + 1) _ ⟨by omega, rfl, ?_⟩ (by omega)) ⟨rfl, rfl, rfl, trivial⟩
    simp only [decide_eq_false_iff_not, decide_eq_true_eq] at *
    rw [all_take hlt, hgo, hat, okc, decide_eq_true (by omega)]; rfl
  refine At.region rfl rfl ?_
  refine Reg.pur rfl rfl rfl rfl (Pur.fld _ fo24_1 rfl) ?_
  refine Reg.lod rfl rfl rfl rfl (Lod.ld sc3 rfl hn1.own.blk (hat4 r h)) ?_
  refine Reg.pur rfl rfl rfl rfl (Pur.geq rfl rfl) ?_
  refine Reg.pur rfl rfl rfl rfl (Pur.mv rfl) ?_
  refine Reg.case 20 rfl (fun hc4 => ?_) (fun hc4 => ?_)
  · refine Reg.gpur rfl rfl rfl rfl rfl rfl (Pur.fld _ fo24_1 rfl) ?_
    refine Reg.glod rfl rfl rfl rfl rfl rfl (Lod.ld sc3 rfl hn1.own.blk (hat4 r h)) ?_
    refine Reg.gpur rfl rfl rfl rfl rfl rfl (Pur.lss rfl rfl) ?_
    refine Reg.pur rfl rfl rfl rfl (Pur.pickT rfl rfl) ?_
    refine Reg.pur rfl rfl rfl rfl (Pur.asg rfl) ?_
    refine Reg.nil ?_
    refine At.ret rfl Tryd.func26 rfl ?_
    refine ⟨congrArg Value.bool ?_, hn1.ext⟩
    simp only [decide_eq_false_iff_not, decide_eq_true_eq] at *
    unfold rowM
    first | (rw [all_of_take hlt (by rw [hat, okc, decide_eq_false_iff_not]; omega)]; rfl) | (rw [List.take_of_length_le (by omega)] at hgo; rw [hgo]; generalize r.getD 4 0 = t at *; simp [*])
  refine Reg.skip rfl rfl rfl rfl rfl rfl rfl ?_
  refine Reg.skip rfl rfl rfl rfl rfl rfl rfl ?_
  refine Reg.skip rfl rfl rfl rfl rfl rfl rfl ?_
  refine Reg.pur rfl rfl rfl rfl (Pur.pickF rfl rfl) ?_
  refine Reg.pur rfl rfl rfl rfl (Pur.asg rfl) ?_
  refine Reg.nil ?_
  refine At.ret rfl Tryd.func26 rfl ?_
  refine ⟨congrArg Value.bool ?_, hn1.ext⟩
  simp only [decide_eq_false_iff_not, decide_eq_true_eq] at *
  unfold rowM
  first | (rw [all_of_take hlt (by rw [hat, okc, decide_eq_false_iff_not]; omega)]; rfl) | (rw [List.take_of_length_le (by omega)] at hgo; rw [hgo]; generalize r.getD 4 0 = t at *; simp [*])

def nodM (x : List Int) : Bool :=
  if x.getD 0 0 = 3 then rowM (x.drop 4) && decide (x.getD 1 0 = 0)
  else if x.getD 0 0 = 2 then decide (0 ≤ x.getD 1 0 ∧ x.getD 1 0 < 4096) && decide (x = [2, x.getD 1 0, 0, 0, 0, 0, 0, 0, 0])
  else if x.getD 0 0 = 0 ∨ x.getD 0 0 = 1 then decide (x = [x.getD 0 0, 0, 0, 0, 0, 0, 0, 0, 0]) else false
end Go.Proofs.YtlfillhffpiffaaDoor

namespace Go.Proofs.YtlfillhffpiffaaDoor
set_option linter.unusedSimpArgs false
set_option linter.unusedVariables false
set_option maxRecDepth 8000
open Go Go.Fx Go.Proofs
namespace FactsTypB
theorem ag24 : ag Tryd.prog 24 = some 5 := by kernel_rfl
theorem ag65 : ag Tryd.prog 65 = some 9 := by kernel_rfl
theorem eqt65 : eqT Tryd.prog 65 = some [.int .i64, .int .i64, .int .i64, .int .i64, .int .i64, .int .i64, .int .i64, .int .i64, .int .i64] := by kernel_rfl
theorem fo65_0 : foff Tryd.prog 65 0 = some 0 := by kernel_rfl
theorem fo65_1 : foff Tryd.prog 65 1 = some 1 := by kernel_rfl
theorem fo65_2 : foff Tryd.prog 65 2 = some 2 := by kernel_rfl
theorem fo65_3 : foff Tryd.prog 65 3 = some 3 := by kernel_rfl
theorem fo65_4 : foff Tryd.prog 65 4 = some 4 := by kernel_rfl
theorem pl24 : places Tryd.prog 24 = some [(0, 4), (4, 1)] := by kernel_rfl
theorem pl65 : places Tryd.prog 65 = some [(0, 1), (1, 1), (2, 1), (3, 1), (4, 5)] := by kernel_rfl
theorem sc3 : sc Tryd.prog 3 = true := by kernel_rfl
theorem zc24 : zc Tryd.prog 24 = some [.int .i64 0, .int .i64 0, .int .i64 0, .int .i64 0, .int .i64 0] := by kernel_rfl
theorem zc65 : zc Tryd.prog 65 = some [.int .i64 0, .int .i64 0, .int .i64 0, .int .i64 0, .int .i64 0, .int .i64 0, .int .i64 0, .int .i64 0, .int .i64 0] := by kernel_rfl
end FactsTypB
open FactsTypB

theorem nodMay_ok (k v a b c d e f t : Int) (H : Heap) : Ret Tryd.prog 68 [.agg (Is [k, v, a, b, c, d, e, f, t]).toArray] H (fun r H' => r = .bool (nodM [k, v, a, b, c, d, e, f, t]) ∧ Ext H H') := by
  refine Ret.of_at (N := 37) Tryd.call68 Tryd.func68 rfl rfl rfl ?_
  refine At.region rfl rfl ?_
  refine Reg.op rfl rfl rfl rfl (Does.box rfl rfl) ?_
  rintro _ H1 ⟨rfl, hn1⟩
  refine Reg.pur rfl rfl rfl rfl (Pur.asg rfl) ?_
  refine Reg.nil ?_
  have hX := hn1.own
  refine At.region rfl rfl ?_
  refine Reg.pur rfl rfl rfl rfl (Pur.fld _ fo65_0 rfl) ?_
  refine Reg.lod rfl rfl rfl rfl (Lod.ld sc3 rfl hX.blk rfl) ?_
  refine Reg.nil ?_
  refine At.region rfl rfl ?_
  refine Reg.pur rfl rfl rfl rfl (Pur.eql rfl rfl) ?_
  refine Reg.pur rfl rfl rfl rfl (Pur.asg rfl) ?_
  refine Reg.nil ?_
  refine At.cond rfl rfl (fun hb1 => ?_) (fun hb1 => ?_)
  · have hr := rowMay_ok [c, d, e, f, t] rfl H1
    refine At.region rfl rfl ?_
    refine Reg.pur rfl rfl rfl rfl (Pur.fld _ fo65_4 rfl) ?_
    refine Reg.lod rfl rfl rfl rfl (Lod.ldn ag24 rfl hX.blk (show _ = Is [c, d, e, f, t] from rfl) rfl) ?_
    refine Reg.op rfl rfl rfl rfl (Does.call rfl (hr)) ?_
    rintro _ H2 ⟨rfl, hE2⟩
    refine Reg.pur rfl rfl rfl rfl (Pur.not rfl) ?_
    refine Reg.nil ?_
    have hX := hX.ext hE2
    refine At.cond rfl rfl (fun hb2 => ?_) (fun hb2 => ?_)
    · refine At.region rfl rfl ?_
      refine Reg.pur rfl rfl rfl rfl (Pur.asg rfl) ?_
      refine Reg.nil ?_
      refine At.ret rfl Tryd.func68 rfl ?_
      refine ⟨congrArg Value.bool ?_, by first | exact hE5 | exact hn1.ext.trans hE2 | exact hn1.ext.upd hu3 (Nat.le_refl _) | exact hn1.ext⟩
      try rw [eqs_ints]
      rw [Bool.eq_iff_iff]
      simp only [decide_eq_true_eq, decide_eq_false_iff_not, Bool.not_eq_true', Bool.not_eq_eq_eq_not, Bool.not_true, Bool.not_false] at *
      simp [nodM, eqs, eqv, *]
      try omega
    refine At.region rfl rfl ?_
    refine Reg.pur rfl rfl rfl rfl (Pur.bld (cs := [_, _, _, _, _]) pl24 zc24 rfl rfl ⟨rfl, rfl, rfl, rfl, rfl, rfl⟩) ?_
    refine Reg.pur rfl rfl rfl rfl (Pur.fld _ fo65_4 rfl) ?_
    refine Reg.op0 rfl rfl rfl (Does.stn ag24 rfl rfl rfl rfl hX (by simp)) ?_
    rintro _ H3 hu3
    refine Reg.pur rfl rfl rfl rfl (Pur.fld _ fo65_2 rfl) ?_
    refine Reg.op0 rfl rfl rfl (Does.st sc3 rfl rfl rfl hu3.own (by simp)) ?_
    rintro _ H4 hu4
    refine Reg.pur rfl rfl rfl rfl (Pur.fld _ fo65_3 rfl) ?_
    refine Reg.op0 rfl rfl rfl (Does.st sc3 rfl rfl rfl hu4.own (by simp)) ?_
    rintro _ H5 hu5
    refine Reg.nil ?_
    have hY : Own H5 H.size (Is [k, v, 0, 0, 0, 0, 0, 0, 0]) := hu5.own
    have hE5 := (((hn1.ext.trans hE2).upd hu3 (Nat.le_refl _)).upd hu4 (Nat.le_refl _)).upd hu5 (Nat.le_refl _)
    refine At.region rfl rfl ?_
    refine Reg.lod rfl rfl rfl rfl (Lod.ldn ag65 rfl hY.blk (whole rfl) rfl) ?_
    refine Reg.pur rfl rfl rfl rfl (Pur.bld (cs := [_, _, _, _, _, _, _, _, _]) pl65 zc65 rfl rfl ⟨rfl, rfl, rfl, rfl, rfl, rfl, rfl, rfl, rfl, rfl⟩) ?_
    refine Reg.pur rfl rfl rfl rfl (Pur.eqA eqt65 rfl rfl (fks_ints .i64 [k, v, 0, 0, 0, 0, 0, 0, 0]) (fks_ints .i64 [3, 0, 0, 0, 0, 0, 0, 0, 0])) ?_
    refine Reg.pur rfl rfl rfl rfl (Pur.asg rfl) ?_
    refine Reg.nil ?_
    refine At.ret rfl Tryd.func68 rfl ?_
    refine ⟨congrArg Value.bool ?_, by first | exact hE5 | exact hn1.ext.trans hE2 | exact hn1.ext.upd hu3 (Nat.le_refl _) | exact hn1.ext⟩
    try rw [eqs_ints]
    rw [Bool.eq_iff_iff]
    simp only [decide_eq_true_eq, decide_eq_false_iff_not, Bool.not_eq_true', Bool.not_eq_eq_eq_not, Bool.not_true, Bool.not_false] at *
    simp [nodM, eqs, eqv, *]
    try omega
  refine At.region rfl rfl ?_
  refine Reg.pur rfl rfl rfl rfl (Pur.eql rfl rfl) ?_
  refine Reg.pur rfl rfl rfl rfl (Pur.asg rfl) ?_
  refine Reg.nil ?_
  refine At.cond rfl rfl (fun hb3 => ?_) (fun hb3 => ?_)
  · refine At.region rfl rfl ?_
    refine Reg.pur rfl rfl rfl rfl (Pur.fld _ fo65_1 rfl) ?_
    refine Reg.lod rfl rfl rfl rfl (Lod.ld sc3 rfl hX.blk rfl) ?_
    refine Reg.pur rfl rfl rfl rfl (Pur.lss rfl rfl) ?_
    refine Reg.pur rfl rfl rfl rfl (Pur.mv rfl) ?_
    refine Reg.case 26 rfl (fun hc4 => ?_) (fun hc4 => ?_)
    · refine Reg.skip rfl rfl rfl rfl rfl rfl rfl ?_
      refine Reg.skip rfl rfl rfl rfl rfl rfl rfl ?_
      refine Reg.skip rfl rfl rfl rfl rfl rfl rfl ?_
      refine Reg.pur rfl rfl rfl rfl (Pur.pickT rfl rfl) ?_
      refine Reg.nil ?_
      refine At.condT rfl rfl rfl ?_
      refine At.region rfl rfl ?_
      refine Reg.pur rfl rfl rfl rfl (Pur.asg rfl) ?_
      refine Reg.nil ?_
      refine At.ret rfl Tryd.func68 rfl ?_
      refine ⟨congrArg Value.bool ?_, by first | exact hE5 | exact hn1.ext.trans hE2 | exact hn1.ext.upd hu3 (Nat.le_refl _) | exact hn1.ext⟩
      try rw [eqs_ints]
      rw [Bool.eq_iff_iff]
      simp only [decide_eq_true_eq, decide_eq_false_iff_not, Bool.not_eq_true', Bool.not_eq_eq_eq_not, Bool.not_true, Bool.not_false] at *
      simp [nodM, eqs, eqv, *]
      try omega
    refine Reg.gpur rfl rfl rfl rfl rfl rfl (Pur.fld _ fo65_1 rfl) ?_
    refine Reg.glod rfl rfl rfl rfl rfl rfl (Lod.ld sc3 rfl hX.blk rfl) ?_
    refine Reg.gpur rfl rfl rfl rfl rfl rfl (Pur.geq rfl rfl) ?_
    refine Reg.pur rfl rfl rfl rfl (Pur.pickF rfl rfl) ?_
    refine Reg.nil ?_
    refine At.cond rfl rfl (fun hb5 => ?_) (fun hb5 => ?_)
    · refine At.region rfl rfl ?_
      refine Reg.pur rfl rfl rfl rfl (Pur.asg rfl) ?_
      refine Reg.nil ?_
      refine At.ret rfl Tryd.func68 rfl ?_
      refine ⟨congrArg Value.bool ?_, by first | exact hE5 | exact hn1.ext.trans hE2 | exact hn1.ext.upd hu3 (Nat.le_refl _) | exact hn1.ext⟩
      try rw [eqs_ints]
      rw [Bool.eq_iff_iff]
      simp only [decide_eq_true_eq, decide_eq_false_iff_not, Bool.not_eq_true', Bool.not_eq_eq_eq_not, Bool.not_true, Bool.not_false] at *
      simp [nodM, eqs, eqv, *]
      try omega
    refine At.region rfl rfl ?_
    refine Reg.pur rfl rfl rfl rfl (Pur.fld _ fo65_1 rfl) ?_
    refine Reg.op0 rfl rfl rfl (Does.st sc3 rfl rfl rfl hX (by simp)) ?_
    rintro _ H3 hu3
    refine Reg.nil ?_
    have hX : Own H3 H.size (Is [k, 0, a, b, c, d, e, f, t]) := hu3.own
    refine At.region rfl rfl ?_
    refine Reg.lod rfl rfl rfl rfl (Lod.ldn ag65 rfl hX.blk (whole rfl) rfl) ?_
    refine Reg.pur rfl rfl rfl rfl (Pur.fld _ fo65_0 rfl) ?_
    refine Reg.lod rfl rfl rfl rfl (Lod.ld sc3 rfl hX.blk rfl) ?_
    refine Reg.pur rfl rfl rfl rfl (Pur.bld (cs := [_, _, _, _, _, _, _, _, _]) pl65 zc65 rfl rfl ⟨rfl, rfl, rfl, rfl, rfl, rfl, rfl, rfl, rfl, rfl⟩) ?_
    refine Reg.pur rfl rfl rfl rfl (Pur.eqA eqt65 rfl rfl (fks_ints .i64 [_, _, _, _, _, _, _, _, _]) (fks_ints .i64 [_, 0, 0, 0, 0, 0, 0, 0, 0])) ?_
    refine Reg.pur rfl rfl rfl rfl (Pur.asg rfl) ?_
    refine Reg.nil ?_
    refine At.ret rfl Tryd.func68 rfl ?_
    refine ⟨congrArg Value.bool ?_, by first | exact hE5 | exact hn1.ext.trans hE2 | exact hn1.ext.upd hu3 (Nat.le_refl _) | exact hn1.ext⟩
    try rw [eqs_ints]
    rw [Bool.eq_iff_iff]
    simp only [decide_eq_true_eq, decide_eq_false_iff_not, Bool.not_eq_true', Bool.not_eq_eq_eq_not, Bool.not_true, Bool.not_false] at *
    simp [nodM, eqs, eqv, *]
    try omega
  refine At.region rfl rfl ?_
  refine Reg.pur rfl rfl rfl rfl (Pur.eql rfl rfl) ?_
  refine Reg.pur rfl rfl rfl rfl (Pur.asg rfl) ?_
  refine Reg.nil ?_
  refine At.cond rfl rfl (fun hb6 => ?_) (fun hb6 => ?_)
  · refine At.condT rfl rfl (by first | exact hb6 | exact decide_eq_true hb6 | exact decide_eq_false hb6 | simpa using hb6) ?_
    refine At.region rfl rfl ?_
    refine Reg.lod rfl rfl rfl rfl (Lod.ldn ag65 rfl hX.blk (whole rfl) rfl) ?_
    refine Reg.pur rfl rfl rfl rfl (Pur.fld _ fo65_0 rfl) ?_
    refine Reg.lod rfl rfl rfl rfl (Lod.ld sc3 rfl hX.blk rfl) ?_
    refine Reg.pur rfl rfl rfl rfl (Pur.bld (cs := [_, _, _, _, _, _, _, _, _]) pl65 zc65 rfl rfl ⟨rfl, rfl, rfl, rfl, rfl, rfl, rfl, rfl, rfl, rfl⟩) ?_
    refine Reg.pur rfl rfl rfl rfl (Pur.eqA eqt65 rfl rfl (fks_ints .i64 [_, _, _, _, _, _, _, _, _]) (fks_ints .i64 [_, 0, 0, 0, 0, 0, 0, 0, 0])) ?_
    refine Reg.pur rfl rfl rfl rfl (Pur.asg rfl) ?_
    refine Reg.nil ?_
    refine At.ret rfl Tryd.func68 rfl ?_
    refine ⟨congrArg Value.bool ?_, by first | exact hE5 | exact hn1.ext.trans hE2 | exact hn1.ext.upd hu3 (Nat.le_refl _) | exact hn1.ext⟩
    try rw [eqs_ints]
    rw [Bool.eq_iff_iff]
    simp only [decide_eq_true_eq, decide_eq_false_iff_not, Bool.not_eq_true', Bool.not_eq_eq_eq_not, Bool.not_true, Bool.not_false] at *
    simp [nodM, eqs, eqv, *]
    try omega
  refine At.region rfl rfl ?_
  refine Reg.pur rfl rfl rfl rfl (Pur.eql rfl rfl) ?_
  refine Reg.pur rfl rfl rfl rfl (Pur.asg rfl) ?_
  refine Reg.nil ?_
  refine At.cond rfl rfl (fun hb7 => ?_) (fun hb7 => ?_)
  · refine At.region rfl rfl ?_
    refine Reg.lod rfl rfl rfl rfl (Lod.ldn ag65 rfl hX.blk (whole rfl) rfl) ?_
    refine Reg.pur rfl rfl rfl rfl (Pur.fld _ fo65_0 rfl) ?_
    refine Reg.lod rfl rfl rfl rfl (Lod.ld sc3 rfl hX.blk rfl) ?_
    refine Reg.pur rfl rfl rfl rfl (Pur.bld (cs := [_, _, _, _, _, _, _, _, _]) pl65 zc65 rfl rfl ⟨rfl, rfl, rfl, rfl, rfl, rfl, rfl, rfl, rfl, rfl⟩) ?_
    refine Reg.pur rfl rfl rfl rfl (Pur.eqA eqt65 rfl rfl (fks_ints .i64 [_, _, _, _, _, _, _, _, _]) (fks_ints .i64 [_, 0, 0, 0, 0, 0, 0, 0, 0])) ?_
    refine Reg.pur rfl rfl rfl rfl (Pur.asg rfl) ?_
    refine Reg.nil ?_
    refine At.ret rfl Tryd.func68 rfl ?_
    refine ⟨congrArg Value.bool ?_, by first | exact hE5 | exact hn1.ext.trans hE2 | exact hn1.ext.upd hu3 (Nat.le_refl _) | exact hn1.ext⟩
    try rw [eqs_ints]
    rw [Bool.eq_iff_iff]
    simp only [decide_eq_true_eq, decide_eq_false_iff_not, Bool.not_eq_true', Bool.not_eq_eq_eq_not, Bool.not_true, Bool.not_false] at *
    simp [nodM, eqs, eqv, *]
    try omega
  refine At.region rfl rfl ?_
  refine Reg.pur rfl rfl rfl rfl (Pur.asg rfl) ?_
  refine Reg.nil ?_
  refine At.ret rfl Tryd.func68 rfl ?_
  refine ⟨congrArg Value.bool ?_, by first | exact hE5 | exact hn1.ext.trans hE2 | exact hn1.ext.upd hu3 (Nat.le_refl _) | exact hn1.ext⟩
  try rw [eqs_ints]
  rw [Bool.eq_iff_iff]
  simp only [decide_eq_true_eq, decide_eq_false_iff_not, Bool.not_eq_true', Bool.not_eq_eq_eq_not, Bool.not_true, Bool.not_false] at *
  simp [nodM, eqs, eqv, *]
  try omega
end Go.Proofs.YtlfillhffpiffaaDoor

namespace Go.Proofs.YtlfillhffpiffaaDoor
set_option linter.unusedSimpArgs false
set_option linter.unusedVariables false
set_option maxRecDepth 8000
open Go Go.Fx Go.Proofs
namespace FactsTypC
theorem es53 : esz Tryd.prog 53 = some 9 := by kernel_rfl
theorem fo65_0 : foff Tryd.prog 65 0 = some 0 := by kernel_rfl
theorem fo65_2 : foff Tryd.prog 65 2 = some 2 := by kernel_rfl
theorem fo65_3 : foff Tryd.prog 65 3 = some 3 := by kernel_rfl
theorem sc3 : sc Tryd.prog 3 = true := by kernel_rfl
end FactsTypC
open FactsTypC

abbrev el (L : List (List Int)) (i : Int) : List Int := L.getD i.toNat []
abbrev Nine (L : List (List Int)) : Prop := ∀ x ∈ L, x.length = 9
theorem wide9 {L : List (List Int)} (h : Nine L) : Wide Is 9 L := fun x hx => by simp [Is, h x hx]
def bgn (L : List (List Int)) : Nat → Int → Int
  | 0, _ => -1
  | f + 1, z => if (el L z).getD 0 0 ≠ 3 then z else if z = 0 ∨ (el L z).getD 3 0 ≠ z - 1 then -1 else
    if bgn L f ((el L z).getD 3 0) < 1 ∨ (el L z).getD 2 0 ≠ bgn L f ((el L z).getD 3 0) - 1 then -1 else bgn L f ((el L z).getD 2 0)
theorem bgn_succ (L : List (List Int)) (f : Nat) (z : Int) : bgn L (f + 1) z = if (el L z).getD 0 0 ≠ 3 then z else if z = 0 ∨ (el L z).getD 3 0 ≠ z - 1 then -1 else
    if bgn L f ((el L z).getD 3 0) < 1 ∨ (el L z).getD 2 0 ≠ bgn L f ((el L z).getD 3 0) - 1 then -1 else bgn L f ((el L z).getD 2 0) := rfl
theorem bgn_le (L : List (List Int)) : ∀ (f : Nat) (z : Int), 0 ≤ z → bgn L f z ≤ z
  | 0, z, h => by simp only [bgn]; omega
  | f + 1, z, h => by
    rw [bgn_succ]
    split
    · omega
    · split
      · omega
      · split
        · omega
        · rename_i h1 h2 h3
          have e1 := bgn_le L f ((el L z).getD 3 0) (by omega)
          have e2 := bgn_le L f ((el L z).getD 2 0) (by omega)
          omega

theorem el_cells {L : List (List Int)} (hL : Nine L) {H : Heap} {A : Option Addr} {cap : Nat} (hS : SlT H Is 9 (.slice A L.length cap) L) {z : Int} (h0 : 0 ≤ z) (h1 : z < L.length) :
    ∃ b o c, A = some ⟨b, o, none⟩ ∧ Blk H b c ∧ (c.drop (o + z.toNat * 9)).take 9 = Is (el L z) ∧ (el L z).length = 9 ∧ ∀ j, j < 9 → c[o + z.toNat * 9 + j]? = some (I ((el L z).getD j 0)) := by
  have hzn : z.toNat < L.length := by omega
  obtain ⟨b, o, c, h2, h3, h4, h5⟩ := sl_at (wide9 hL) hS hzn
  have hel : el L z = L[z.toNat] := by simp [el, List.getD_eq_getElem?_getD, List.getElem?_eq_getElem hzn]
  have h9 : (el L z).length = 9 := by rw [hel]; exact hL _ (List.getElem_mem hzn)
  rw [← hel] at h4
  exact ⟨b, o, c, h2, h3, h4, h9, fun j hj => at_tk h4 hj (at_Is (by omega))⟩

theorem begin_ok {A : Option Addr} {cap : Nat} (L : List (List Int)) (hL : Nine L) {H : Heap} (hS : SlT H Is 9 (.slice A L.length cap) L) (hm : L.length ≤ 9223372036854775807) : ∀ (f : Nat) (z : Int), 0 ≤ z → z < L.length → z.toNat < f →
    Ret Tryd.prog 69 [.slice A L.length cap, I z] H (fun v H' => v = I (bgn L f z) ∧ H' = H) := by
  intro f
  induction f with
  | zero => intro z _ _ h; omega
  | succ f ihf =>
  intro z hz0 hzl hzf
  obtain ⟨b0, o0, c0, rfl, hb0, hbd, hx9, hat⟩ := el_cells hL hS hz0 hzl
  have hfin := bgn_succ L f z
  generalize el L z = x at hfin hbd hx9 hat
  refine Ret.of_at (N := 50) Tryd.call69 Tryd.func69 rfl rfl rfl ?_
  refine At.region rfl rfl ?_
  refine Reg.pur rfl rfl rfl rfl (Pur.asg rfl) ?_
  refine Reg.nil ?_
  refine At.region rfl rfl ?_
  refine Reg.pur rfl rfl rfl rfl (Pur.mv rfl) ?_
  refine Reg.pur rfl rfl rfl rfl (Pur.mv rfl) ?_
  refine Reg.pur rfl rfl rfl rfl (Pur.idx _ es53 rfl rfl (by omega) (by omega)) ?_
  refine Reg.pur rfl rfl rfl rfl (Pur.asg rfl) ?_
  refine Reg.nil ?_
  refine At.region rfl rfl ?_
  refine Reg.pur rfl rfl rfl rfl (Pur.mv rfl) ?_
  refine Reg.pur rfl rfl rfl rfl (Pur.nilc rfl) ?_
  refine Reg.pur rfl rfl rfl rfl (Pur.fld _ fo65_0 rfl) ?_
  refine Reg.lod rfl rfl rfl rfl (Lod.ld sc3 rfl hb0 (hat 0 (by omega))) ?_
  refine Reg.pur rfl rfl rfl rfl (Pur.neq rfl rfl) ?_
  refine Reg.nil ?_
  refine At.cond rfl rfl (fun hb1 => ?_) (fun hb1 => ?_)
  · refine At.region rfl rfl ?_
    refine Reg.pur rfl rfl rfl rfl (Pur.mv rfl) ?_
    refine Reg.pur rfl rfl rfl rfl (Pur.asg rfl) ?_
    refine Reg.nil ?_
    refine At.ret rfl Tryd.func69 rfl ?_
    refine ⟨congrArg I ?_, rfl⟩
    try simp only [decide_eq_true_eq, decide_eq_false_iff_not] at *
    rw [hfin]
    first | (rw [if_pos (by omega)]; done) | (rw [if_neg (by omega), if_pos (by omega)]; done) | (rw [if_neg (by omega), if_neg (by omega), if_pos (by omega)]; done) | (rw [if_neg (by omega), if_neg (by omega), if_neg (by omega)]; done)
  refine At.region rfl rfl ?_
  refine Reg.pur rfl rfl rfl rfl (Pur.mv rfl) ?_
  refine Reg.pur rfl rfl rfl rfl (Pur.eql rfl rfl) ?_
  refine Reg.pur rfl rfl rfl rfl (Pur.mv rfl) ?_
  refine Reg.case 18 rfl (fun hc2 => ?_) (fun hc2 => ?_)
  · refine Reg.skip rfl rfl rfl rfl rfl rfl rfl ?_
    refine Reg.skip rfl rfl rfl rfl rfl rfl rfl ?_
    refine Reg.skip rfl rfl rfl rfl rfl rfl rfl ?_
    refine Reg.skip rfl rfl rfl rfl rfl rfl rfl ?_
    refine Reg.skip rfl rfl rfl rfl rfl rfl rfl ?_
    refine Reg.skip rfl rfl rfl rfl rfl rfl rfl ?_
    refine Reg.skip rfl rfl rfl rfl rfl rfl rfl ?_
    refine Reg.pur rfl rfl rfl rfl (Pur.pickT rfl rfl) ?_
    refine Reg.nil ?_
    refine At.condT rfl rfl rfl ?_
    refine At.region rfl rfl ?_
    refine Reg.pur rfl rfl rfl rfl (Pur.asg rfl) ?_
    refine Reg.nil ?_
    refine At.ret rfl Tryd.func69 rfl ?_
    refine ⟨congrArg I ?_, rfl⟩
    try simp only [decide_eq_true_eq, decide_eq_false_iff_not] at *
    rw [hfin]
    first | (rw [if_pos (by omega)]; done) | (rw [if_neg (by omega), if_pos (by omega)]; done) | (rw [if_neg (by omega), if_neg (by omega), if_pos (by omega)]; done) | (rw [if_neg (by omega), if_neg (by omega), if_neg (by omega)]; done)
  refine Reg.gpur rfl rfl rfl rfl rfl rfl (Pur.mv rfl) ?_
  refine Reg.gpur rfl rfl rfl rfl rfl rfl (Pur.nilc rfl) ?_
  refine Reg.gpur rfl rfl rfl rfl rfl rfl (Pur.fld _ fo65_3 rfl) ?_
  refine Reg.glod rfl rfl rfl rfl rfl rfl (Lod.ld sc3 rfl hb0 (hat 3 (by omega))) ?_
  refine Reg.gpur rfl rfl rfl rfl rfl rfl (Pur.mv rfl) ?_
  first | refine Reg.gpur rfl rfl rfl rfl rfl rfl (Pur.sub64 rfl rfl (by omega)) ?_ | refine Reg.gpur rfl rfl rfl rfl rfl rfl (Pur.sub64 rfl rfl (by assumption)) ?_ | refine Reg.gpur rfl rfl rfl rfl rfl rfl (Pur.sub rfl rfl) ?_
  refine Reg.gpur rfl rfl rfl rfl rfl rfl (Pur.neq rfl rfl) ?_
  refine Reg.pur rfl rfl rfl rfl (Pur.pickF rfl rfl) ?_
  refine Reg.nil ?_
  refine At.cond rfl rfl (fun hb3 => ?_) (fun hb3 => ?_)
  · refine At.region rfl rfl ?_
    refine Reg.pur rfl rfl rfl rfl (Pur.asg rfl) ?_
    refine Reg.nil ?_
    refine At.ret rfl Tryd.func69 rfl ?_
    refine ⟨congrArg I ?_, rfl⟩
    try simp only [decide_eq_true_eq, decide_eq_false_iff_not] at *
    rw [hfin]
    first | (rw [if_pos (by omega)]; done) | (rw [if_neg (by omega), if_pos (by omega)]; done) | (rw [if_neg (by omega), if_neg (by omega), if_pos (by omega)]; done) | (rw [if_neg (by omega), if_neg (by omega), if_neg (by omega)]; done)
  simp only [decide_eq_true_eq, decide_eq_false_iff_not] at *
  have hle := bgn_le L f (x.getD 3 0) (by omega)
  refine At.region rfl rfl ?_
  refine Reg.pur rfl rfl rfl rfl (Pur.mv rfl) ?_
  refine Reg.pur rfl rfl rfl rfl (Pur.mv rfl) ?_
  refine Reg.pur rfl rfl rfl rfl (Pur.nilc rfl) ?_
  refine Reg.pur rfl rfl rfl rfl (Pur.fld _ fo65_3 rfl) ?_
  refine Reg.lod rfl rfl rfl rfl (Lod.ld sc3 rfl hb0 (hat 3 (by omega))) ?_
  refine Reg.op rfl rfl rfl rfl (Does.call rfl (ihf (x.getD 3 0) (by omega) (by omega) (by omega))) ?_
  rintro _ H ⟨rfl, rfl⟩
  refine Reg.pur rfl rfl rfl rfl (Pur.asg rfl) ?_
  refine Reg.nil ?_
  refine At.region rfl rfl ?_
  refine Reg.pur rfl rfl rfl rfl (Pur.mv rfl) ?_
  refine Reg.pur rfl rfl rfl rfl (Pur.lss rfl rfl) ?_
  refine Reg.pur rfl rfl rfl rfl (Pur.mv rfl) ?_
  refine Reg.case 35 rfl (fun hc4 => ?_) (fun hc4 => ?_)
  · refine Reg.skip rfl rfl rfl rfl rfl rfl rfl ?_
    refine Reg.skip rfl rfl rfl rfl rfl rfl rfl ?_
    refine Reg.skip rfl rfl rfl rfl rfl rfl rfl ?_
    refine Reg.skip rfl rfl rfl rfl rfl rfl rfl ?_
    refine Reg.skip rfl rfl rfl rfl rfl rfl rfl ?_
    try simp only [decide_eq_false_iff_not] at hc4
    refine Reg.skip rfl rfl rfl rfl rfl rfl rfl ?_
    refine Reg.skip rfl rfl rfl rfl rfl rfl rfl ?_
    refine Reg.pur rfl rfl rfl rfl (Pur.pickT rfl rfl) ?_
    refine Reg.nil ?_
    refine At.condT rfl rfl rfl ?_
    refine At.region rfl rfl ?_
    refine Reg.pur rfl rfl rfl rfl (Pur.asg rfl) ?_
    refine Reg.nil ?_
    refine At.ret rfl Tryd.func69 rfl ?_
    refine ⟨congrArg I ?_, rfl⟩
    try simp only [decide_eq_true_eq, decide_eq_false_iff_not] at *
    rw [hfin]
    first | (rw [if_pos (by omega)]; done) | (rw [if_neg (by omega), if_pos (by omega)]; done) | (rw [if_neg (by omega), if_neg (by omega), if_pos (by omega)]; done) | (rw [if_neg (by omega), if_neg (by omega), if_neg (by omega)]; done)
  refine Reg.gpur rfl rfl rfl rfl rfl rfl (Pur.mv rfl) ?_
  refine Reg.gpur rfl rfl rfl rfl rfl rfl (Pur.nilc rfl) ?_
  refine Reg.gpur rfl rfl rfl rfl rfl rfl (Pur.fld _ fo65_2 rfl) ?_
  refine Reg.glod rfl rfl rfl rfl rfl rfl (Lod.ld sc3 rfl hb0 (hat 2 (by omega))) ?_
  refine Reg.gpur rfl rfl rfl rfl rfl rfl (Pur.mv rfl) ?_
  try simp only [decide_eq_false_iff_not] at hc4
  first | refine Reg.gpur rfl rfl rfl rfl rfl rfl (Pur.sub64 rfl rfl (by omega)) ?_ | refine Reg.gpur rfl rfl rfl rfl rfl rfl (Pur.sub64 rfl rfl (by assumption)) ?_ | refine Reg.gpur rfl rfl rfl rfl rfl rfl (Pur.sub rfl rfl) ?_
  refine Reg.gpur rfl rfl rfl rfl rfl rfl (Pur.neq rfl rfl) ?_
  refine Reg.pur rfl rfl rfl rfl (Pur.pickF rfl rfl) ?_
  refine Reg.nil ?_
  refine At.cond rfl rfl (fun hb5 => ?_) (fun hb5 => ?_)
  · refine At.region rfl rfl ?_
    refine Reg.pur rfl rfl rfl rfl (Pur.asg rfl) ?_
    refine Reg.nil ?_
    refine At.ret rfl Tryd.func69 rfl ?_
    refine ⟨congrArg I ?_, rfl⟩
    try simp only [decide_eq_true_eq, decide_eq_false_iff_not] at *
    rw [hfin]
    first | (rw [if_pos (by omega)]; done) | (rw [if_neg (by omega), if_pos (by omega)]; done) | (rw [if_neg (by omega), if_neg (by omega), if_pos (by omega)]; done) | (rw [if_neg (by omega), if_neg (by omega), if_neg (by omega)]; done)
  try simp only [decide_eq_true_eq, decide_eq_false_iff_not] at *
  refine At.region rfl rfl ?_
  refine Reg.pur rfl rfl rfl rfl (Pur.mv rfl) ?_
  refine Reg.pur rfl rfl rfl rfl (Pur.mv rfl) ?_
  refine Reg.pur rfl rfl rfl rfl (Pur.nilc rfl) ?_
  refine Reg.pur rfl rfl rfl rfl (Pur.fld _ fo65_2 rfl) ?_
  refine Reg.lod rfl rfl rfl rfl (Lod.ld sc3 rfl hb0 (hat 2 (by omega))) ?_
  refine Reg.op rfl rfl rfl rfl (Does.call rfl (ihf (x.getD 2 0) (by omega) (by omega) (by omega))) ?_
  rintro _ H ⟨rfl, rfl⟩
  refine Reg.pur rfl rfl rfl rfl (Pur.asg rfl) ?_
  refine Reg.nil ?_
  refine At.ret rfl Tryd.func69 rfl ?_
  refine ⟨congrArg I ?_, rfl⟩
  try simp only [decide_eq_true_eq, decide_eq_false_iff_not] at *
  rw [hfin]
  first | (rw [if_pos (by omega)]; done) | (rw [if_neg (by omega), if_pos (by omega)]; done) | (rw [if_neg (by omega), if_neg (by omega), if_pos (by omega)]; done) | (rw [if_neg (by omega), if_neg (by omega), if_neg (by omega)]; done)

end Go.Proofs.YtlfillhffpiffaaDoor

namespace Go.Proofs.YtlfillhffpiffaaDoor
set_option linter.unusedSimpArgs false
set_option linter.unusedVariables false
set_option maxRecDepth 8000
open Go Go.Fx Go.Proofs
namespace FactsTypD
theorem ag24 : ag Tryd.prog 24 = some 5 := by kernel_rfl
theorem ag65 : ag Tryd.prog 65 = some 9 := by kernel_rfl
theorem eqt65 : eqT Tryd.prog 65 = some [.int .i64, .int .i64, .int .i64, .int .i64, .int .i64, .int .i64, .int .i64, .int .i64, .int .i64] := by kernel_rfl
theorem es53 : esz Tryd.prog 53 = some 9 := by kernel_rfl
theorem fo55_0 : foff Tryd.prog 55 0 = some 0 := by kernel_rfl
theorem fo65_0 : foff Tryd.prog 65 0 = some 0 := by kernel_rfl
theorem fo65_1 : foff Tryd.prog 65 1 = some 1 := by kernel_rfl
theorem fo65_2 : foff Tryd.prog 65 2 = some 2 := by kernel_rfl
theorem fo65_3 : foff Tryd.prog 65 3 = some 3 := by kernel_rfl
theorem fo65_4 : foff Tryd.prog 65 4 = some 4 := by kernel_rfl
theorem isl53 : isSl Tryd.prog 53 = true := by kernel_rfl
theorem pl65 : places Tryd.prog 65 = some [(0, 1), (1, 1), (2, 1), (3, 1), (4, 5)] := by kernel_rfl
theorem sc3 : sc Tryd.prog 3 = true := by kernel_rfl
theorem sc53 : sc Tryd.prog 53 = true := by kernel_rfl
theorem zc65 : zc Tryd.prog 65 = some [.int .i64 0, .int .i64 0, .int .i64 0, .int .i64 0, .int .i64 0, .int .i64 0, .int .i64 0, .int .i64 0, .int .i64 0] := by kernel_rfl
end FactsTypD
open FactsTypD

theorem nodMay_ok9 {x : List Int} (hx : x.length = 9) (H : Heap) : Ret Tryd.prog 68 [.agg (Is x).toArray] H (fun r H' => r = .bool (nodM x) ∧ Ext H H') := by
  match x, hx with
  | [k, v, a, b, c, d, e, f, t], _ => exact nodMay_ok k v a b c d e f t H
def typM (L : List (List Int)) : Bool := decide (1 ≤ L.length ∧ L.length ≤ 256) && L.all nodM && decide (bgn L L.length ((L.length : Int) - 1) = 0)
abbrev Ty (A : Option Addr) (len cap : Nat) : Value := .agg #[.slice A len cap]

theorem typMay_ok {A : Option Addr} {cap : Nat} (L : List (List Int)) (hL : Nine L) {H : Heap} (hS : SlT H Is 9 (.slice A L.length cap) L) (hm : L.length ≤ 9223372036854775807) :
    Ret Tryd.prog 46 [Ty A L.length cap] H (fun v H' => v = .bool (typM L) ∧ Ext H H') := by
  refine Ret.of_at (N := 32) Tryd.call46 Tryd.func46 rfl rfl rfl ?_
  refine At.region rfl rfl ?_
  refine Reg.op rfl rfl rfl rfl (Does.box rfl rfl) ?_
  rintro _ H1 ⟨rfl, hn1⟩
  refine Reg.pur rfl rfl rfl rfl (Pur.asg rfl) ?_
  refine Reg.nil ?_
  have hB := hn1.own.blk
  have hS1 := hS.ext hn1.ext
  refine At.region rfl rfl ?_
  refine Reg.pur rfl rfl rfl rfl (Pur.fld _ fo55_0 rfl) ?_
  refine Reg.lod rfl rfl rfl rfl (Lod.ld sc53 rfl hB rfl) ?_
  refine Reg.pur rfl rfl rfl rfl (Pur.lenS isl53 rfl) ?_
  refine Reg.pur rfl rfl rfl rfl (Pur.asg rfl) ?_
  refine Reg.nil ?_
  refine At.region rfl rfl ?_
  refine Reg.pur rfl rfl rfl rfl (Pur.mv rfl) ?_
  refine Reg.pur rfl rfl rfl rfl (Pur.lss rfl rfl) ?_
  refine Reg.pur rfl rfl rfl rfl (Pur.mv rfl) ?_
  refine Reg.case 11 rfl (fun hc1 => ?_) (fun hc1 => ?_)
  · refine Reg.skip rfl rfl rfl rfl rfl rfl rfl ?_
    refine Reg.skip rfl rfl rfl rfl rfl rfl rfl ?_
    refine Reg.pur rfl rfl rfl rfl (Pur.pickT rfl rfl) ?_
    refine Reg.nil ?_
    refine At.condT rfl rfl rfl ?_
    refine At.region rfl rfl ?_
    refine Reg.pur rfl rfl rfl rfl (Pur.asg rfl) ?_
    refine Reg.nil ?_
    refine At.ret rfl Tryd.func46 rfl ?_
    first | exact ⟨congrArg Value.bool (by unfold typM; simp only [decide_eq_true_eq] at *; rw [decide_eq_false (by omega)]; rfl), hn1.ext⟩ | exact ⟨congrArg Value.bool (by unfold typM; rw [all_of_take hlt (by simpa using hb4)]; simp), hn1.ext.trans (hE.trans (hE4.trans hE5))⟩ | exact ⟨congrArg Value.bool (by simp only [decide_eq_false_iff_not] at *; rw [List.take_of_length_le (by omega)] at hgo; unfold typM; rw [hgo, decide_eq_true (p := 1 ≤ L.length ∧ L.length ≤ 256) (by omega)]; rfl), hn1.ext.trans hE⟩
  refine Reg.gpur rfl rfl rfl rfl rfl rfl (Pur.mv rfl) ?_
  refine Reg.gpur rfl rfl rfl rfl rfl rfl (Pur.gtr rfl rfl) ?_
  refine Reg.pur rfl rfl rfl rfl (Pur.pickF rfl rfl) ?_
  refine Reg.nil ?_
  refine At.cond rfl rfl (fun hb2 => ?_) (fun hb2 => ?_)
  · refine At.region rfl rfl ?_
    refine Reg.pur rfl rfl rfl rfl (Pur.asg rfl) ?_
    refine Reg.nil ?_
    refine At.ret rfl Tryd.func46 rfl ?_
    first | exact ⟨congrArg Value.bool (by unfold typM; simp only [decide_eq_true_eq] at *; rw [decide_eq_false (by omega)]; rfl), hn1.ext⟩ | exact ⟨congrArg Value.bool (by unfold typM; rw [all_of_take hlt (by simpa using hb4)]; simp), hn1.ext.trans (hE.trans (hE4.trans hE5))⟩ | exact ⟨congrArg Value.bool (by simp only [decide_eq_false_iff_not] at *; rw [List.take_of_length_le (by omega)] at hgo; unfold typM; rw [hgo, decide_eq_true (p := 1 ≤ L.length ∧ L.length ≤ 256) (by omega)]; rfl), hn1.ext.trans hE⟩
  refine At.region rfl rfl ?_
  refine Reg.pur rfl rfl rfl rfl (Pur.fld _ fo55_0 rfl) ?_
  refine Reg.lod rfl rfl rfl rfl (Lod.ld sc53 rfl hB rfl) ?_
  refine Reg.pur rfl rfl rfl rfl (Pur.lenS isl53 rfl) ?_
  refine Reg.pur rfl rfl rfl rfl (Pur.mv rfl) ?_
  refine Reg.nil ?_
  refine At.loop (σ := Nat) (fun i => [(18, I i), (17, I L.length), (16, .slice A L.length cap), (1, ptr H.size 0), (3, I L.length)]) (fun i H' => i ≤ L.length ∧ Ext H1 H' ∧ (L.take i).all nodM = true) (fun i => L.length - i) 0 rfl ⟨rfl, rfl, rfl, rfl, rfl, trivial⟩ ⟨by omega, Ext.refl _, rfl⟩ ?_
  rintro i H2 ⟨hi, hE, hgo⟩ ih
  refine At.region rfl rfl ?_
  refine Reg.pur rfl rfl rfl rfl (Pur.lss rfl rfl) ?_
  refine Reg.nil ?_
  refine At.cond rfl rfl (fun hb3 => ?_) (fun hb3 => ?_)
  · simp only [decide_eq_true_eq] at hb3
    have hlt : i < L.length := by omega
    obtain ⟨b, o, c, rfl, hB2, hd, h9⟩ := sl_at (wide9 hL) (hS1.ext hE) hlt
    have h9' := hL _ (List.getElem_mem hlt)
    refine At.region rfl rfl ?_
    refine Reg.pur rfl rfl rfl rfl (Pur.idx _ es53 rfl rfl (by omega) hb3) ?_
    refine Reg.lod rfl rfl rfl rfl (Lod.ldn ag65 rfl hB2 hd h9) ?_
    refine Reg.op rfl rfl rfl rfl (Does.alloc zc65) ?_
    rintro _ H3 ⟨rfl, hn3⟩
    refine Reg.op0 rfl rfl rfl (Does.stn ag65 rfl rfl (ones_Is _) h9 hn3.own (by decide)) ?_
    rintro _ H4 hu4
    refine Reg.nil ?_
    have hX : Own H4 H2.size (Is L[i]) := by have := hu4.own; rwa [over (by rfl)] at this
    have hE4 : Ext H2 H4 := hn3.ext.upd hu4 (Nat.le_refl _)
    refine At.region rfl rfl ?_
    refine Reg.lod rfl rfl rfl rfl (Lod.ldn ag65 rfl hX.blk (whole h9) h9) ?_
    refine Reg.op rfl rfl rfl rfl (Does.call rfl (nodMay_ok9 h9' _)) ?_
    rintro _ H5 ⟨rfl, hE5⟩
    refine Reg.pur rfl rfl rfl rfl (Pur.not rfl) ?_
    refine Reg.nil ?_
    refine At.cond rfl rfl (fun hb4 => ?_) (fun hb4 => ?_)
    · refine At.region rfl rfl ?_
      refine Reg.pur rfl rfl rfl rfl (Pur.asg rfl) ?_
      refine Reg.nil ?_
      refine At.ret rfl Tryd.func46 rfl ?_
      first | exact ⟨congrArg Value.bool (by unfold typM; simp only [decide_eq_true_eq] at *; rw [decide_eq_false (by omega)]; rfl), hn1.ext⟩ | exact ⟨congrArg Value.bool (by unfold typM; rw [all_of_take hlt (by simpa using hb4)]; simp), hn1.ext.trans (hE.trans (hE4.trans hE5))⟩ | exact ⟨congrArg Value.bool (by simp only [decide_eq_false_iff_not] at *; rw [List.take_of_length_le (by omega)] at hgo; unfold typM; rw [hgo, decide_eq_true (p := 1 ≤ L.length ∧ L.length ≤ 256) (by omega)]; rfl), hn1.ext.trans hE⟩
    refine At.region rfl rfl ?_
    first | refine Reg.pur rfl rfl rfl rfl (Pur.add64 rfl rfl (by omega)) ?_ | refine Reg.pur rfl rfl rfl rfl (Pur.add64 rfl rfl (by assumption)) ?_ | refine Reg.pur rfl rfl rfl rfl (Pur.add rfl rfl) ?_
    refine Reg.pur rfl rfl rfl rfl (Pur.mv rfl) ?_
    refine Reg.nil ?_
    refine At.via (ih (i + 1) H5 ⟨by omega, hE.trans (hE4.trans hE5), ?_⟩ (by omega)) ⟨rfl, rfl, rfl, rfl, rfl, trivial⟩
    rw [all_take hlt, hgo]; simpa using hb4
  have hlen : 1 ≤ L.length ∧ L.length ≤ 256 := by simp only [decide_eq_false_iff_not] at *; omega
  refine At.region rfl rfl ?_
  refine Reg.pur rfl rfl rfl rfl (Pur.fld _ fo55_0 rfl) ?_
  refine Reg.lod rfl rfl rfl rfl (Lod.ld sc53 rfl (hB.ext hE) rfl) ?_
  refine Reg.pur rfl rfl rfl rfl (Pur.mv rfl) ?_
  first | refine Reg.pur rfl rfl rfl rfl (Pur.sub64 rfl rfl (by omega)) ?_ | refine Reg.pur rfl rfl rfl rfl (Pur.sub64 rfl rfl (by assumption)) ?_ | refine Reg.pur rfl rfl rfl rfl (Pur.sub rfl rfl) ?_
  refine Reg.op rfl rfl rfl rfl (Does.call rfl (begin_ok L hL (hS1.ext hE) hm L.length _ (by omega) (by omega) (by omega))) ?_
  rintro _ H2 ⟨rfl, rfl⟩
  refine Reg.pur rfl rfl rfl rfl (Pur.eql rfl rfl) ?_
  refine Reg.pur rfl rfl rfl rfl (Pur.asg rfl) ?_
  refine Reg.nil ?_
  refine At.ret rfl Tryd.func46 rfl ?_
  first | exact ⟨congrArg Value.bool (by unfold typM; simp only [decide_eq_true_eq] at *; rw [decide_eq_false (by omega)]; rfl), hn1.ext⟩ | exact ⟨congrArg Value.bool (by unfold typM; rw [all_of_take hlt (by simpa using hb4)]; simp), hn1.ext.trans (hE.trans (hE4.trans hE5))⟩ | exact ⟨congrArg Value.bool (by simp only [decide_eq_false_iff_not] at *; rw [List.take_of_length_le (by omega)] at hgo; unfold typM; rw [hgo, decide_eq_true (p := 1 ≤ L.length ∧ L.length ≤ 256) (by omega)]; rfl), hn1.ext.trans hE⟩

end Go.Proofs.YtlfillhffpiffaaDoor

namespace Go.Proofs.YtlfillhffpiffaaDoor
set_option linter.unusedSimpArgs false
set_option linter.unusedVariables false
set_option maxRecDepth 8000
open Go Go.Fx Go.Proofs
namespace FactsSubA
theorem ag24 : ag Tryd.prog 24 = some 5 := by kernel_rfl
theorem ag55 : ag Tryd.prog 55 = some 1 := by kernel_rfl
theorem eqt24 : eqT Tryd.prog 24 = some [.int .i64, .int .i64, .int .i64, .int .i64, .int .i64] := by kernel_rfl
theorem fo55_0 : foff Tryd.prog 55 0 = some 0 := by kernel_rfl
theorem isl53 : isSl Tryd.prog 53 = true := by kernel_rfl
theorem pl24 : places Tryd.prog 24 = some [(0, 4), (4, 1)] := by kernel_rfl
theorem sc3 : sc Tryd.prog 3 = true := by kernel_rfl
theorem sc53 : sc Tryd.prog 53 = true := by kernel_rfl
theorem zc24 : zc Tryd.prog 24 = some [.int .i64 0, .int .i64 0, .int .i64 0, .int .i64 0, .int .i64 0] := by kernel_rfl
end FactsSubA
open FactsSubA

structure Bd where
  var : Int
  isRow : Bool
  A : Option Addr
  cap : Nat
  nodes : List (List Int)
  row : List Int
abbrev Bd.sl (b : Bd) : Value := .slice b.A b.nodes.length b.cap
abbrev encB (b : Bd) : List Value := I b.var :: .bool b.isRow :: b.sl :: Is b.row
structure Bd.Ok (H : Heap) (b : Bd) : Prop where
  sl : SlT H Is 9 b.sl b.nodes
  nine : Nine b.nodes
  row : b.row.length = 5
  fits : b.nodes.length * 72 ≤ 140737488351232
abbrev noRow : List Int := [0, 0, 0, 0, 0]
end Go.Proofs.YtlfillhffpiffaaDoor

namespace Go.Proofs.YtlfillhffpiffaaDoor
set_option linter.unusedSimpArgs false
set_option linter.unusedVariables false
set_option maxRecDepth 8000
open Go Go.Fx Go.Proofs
namespace FactsSubB
theorem sc3 : sc Tryd.prog 3 = true := by kernel_rfl
end FactsSubB
open FactsSubB

structure Bds (H : Heap) (v : Value) (L : List Bd) : Prop where
  sl : SlT H encB 8 v L
  ok : ∀ b ∈ L, b.Ok H
  fits : L.length * 80 ≤ 140737488351232
def mt (r : Bool) (v : Int) (b : Bd) : Bool := b.isRow == r && decide (b.var = v)
end Go.Proofs.YtlfillhffpiffaaDoor

namespace Go.Proofs.YtlfillhffpiffaaDoor
set_option linter.unusedSimpArgs false
set_option linter.unusedVariables false
set_option maxRecDepth 8000
open Go Go.Fx Go.Proofs
namespace FactsSubC
theorem ag22 : ag Tryd.prog 22 = some 4 := by kernel_rfl
theorem ag24 : ag Tryd.prog 24 = some 5 := by kernel_rfl
theorem arr1_22 : arr1 Tryd.prog 22 = some 4 := by kernel_rfl
theorem arr22 : arr Tryd.prog 22 = some (4, 1) := by kernel_rfl
theorem fo24_0 : foff Tryd.prog 24 0 = some 0 := by kernel_rfl
theorem fo24_1 : foff Tryd.prog 24 1 = some 4 := by kernel_rfl
theorem pl24 : places Tryd.prog 24 = some [(0, 4), (4, 1)] := by kernel_rfl
theorem sc3 : sc Tryd.prog 3 = true := by kernel_rfl
theorem zc24 : zc Tryd.prog 24 = some [.int .i64 0, .int .i64 0, .int .i64 0, .int .i64 0, .int .i64 0] := by kernel_rfl
end FactsSubC
open FactsSubC

end Go.Proofs.YtlfillhffpiffaaDoor

namespace Go.Proofs.YtlfillhffpiffaaDoor
set_option linter.unusedSimpArgs false
set_option linter.unusedVariables false
set_option maxRecDepth 8000
open Go Go.Fx Go.Proofs
namespace FactsSubE
theorem apt53 : appT Tryd.prog 53 = some (65, 9, 72) := by kernel_rfl
theorem isSlN53 : isSl' Tryd.prog 53 = true := by kernel_rfl
theorem slA53 : slA Tryd.prog 53 = some (65, 9) := by kernel_rfl
end FactsSubE
open FactsSubE

theorem flat_set : ∀ {M : List (List Int)} (hM : Nine M) {i j : Nat} (hi : i < M.length) (hj : j < 9) (v : Int), (M.flatMap Is).set (i * 9 + j) (I v) = (M.set i ((M.getD i []).set j v)).flatMap Is
  | [], _, _, _, hi, _, _ => by simp at hi
  | x :: M, hM, 0, j, _, hj, v => by
    have h9 : x.length = 9 := hM x List.mem_cons_self
    rw [List.flatMap_cons, List.set_cons_zero, List.flatMap_cons, Nat.zero_mul, Nat.zero_add, List.set_append_left _ _ (by simp [h9]; omega), Is_set]
    rfl
  | x :: M, hM, i + 1, j, hi, hj, v => by
    have h9 : x.length = 9 := hM x List.mem_cons_self
    have ih := flat_set (M := M) (fun y hy => hM y (List.mem_cons_of_mem _ hy)) (i := i) (by simpa using hi) hj v
    rw [List.flatMap_cons, List.set_cons_succ, List.flatMap_cons, List.set_append_right _ _ (by simp [h9]; omega), show (i + 1) * 9 + j - (Is x).length = i * 9 + j by simp [h9]; omega, ih]
    rfl

theorem cloneT_ok {A : Option Addr} {cap : Nat} {L : List (List Int)} (hL : Nine L) {H : Heap} (hS : SlT H Is 9 (.slice A L.length cap) L) (hb : L.length * 72 ≤ 140737488351232) :
    Ret Tryd.prog 106 [.slice A L.length cap] H (fun v H' => OwnS H' H.size 65 9 v L.length (L.flatMap Is) ∧ Ext H H') := by
  refine Ret.of_at (N := 8) Tryd.call106 Tryd.func106 rfl rfl rfl ?_
  refine At.region rfl rfl ?_
  refine Reg.pur rfl rfl rfl rfl (Pur.asg rfl) ?_
  refine Reg.nil ?_
  refine At.region rfl rfl ?_
  refine Reg.pur rfl rfl rfl rfl (Pur.mv rfl) ?_
  refine Reg.pur rfl rfl rfl rfl (Pur.eqSN isSlN53 rfl rfl) ?_
  refine Reg.nil ?_
  refine At.cond rfl rfl (fun hb1 => ?_) (fun hb1 => ?_)
  · refine At.region rfl rfl ?_
    refine Reg.pur rfl rfl rfl rfl (Pur.asg rfl) ?_
    refine Reg.nil ?_
    refine At.ret rfl Tryd.func106 rfl ?_
    first | (refine ⟨by simpa using ho, ?_⟩; exact (New.of_push (xs := []).ext).trBut hbut (fun b hb h => by simp only [Value.ownBlock, Option.some.injEq] at h; omega)) | (obtain ⟨A', cap', e, h1, _, h0, _⟩ := hS; cases e; have hA : A = none := by { cases A with | none => rfl | some _ => cases hb1 }; have hc := h0 hA; have hl : L = [] := List.length_eq_zero_iff.1 (by omega); subst hl; exact ⟨OwnS.nil _ _ _ _, Ext.refl _⟩)
  refine At.region rfl rfl ?_
  refine Reg.op rfl rfl rfl rfl (Does.bslA ([]) slA53 rfl rfl rfl rfl rfl rfl) ?_
  rintro _ H1 ⟨rfl, rfl⟩
  refine Reg.pur rfl rfl rfl rfl (Pur.mv rfl) ?_
  refine Reg.op rfl rfl rfl rfl (Does.app apt53 rfl rfl (OwnS.new (xs := []) (n := 0) (H := H) (B := H.size) rfl (by decide) (Nat.le_refl _)) (sl_src (wide9 hL) (hS.ext New.of_push.ext)) (ones_flat L) (by rw [show maxLen = 9223372036854775807 from rfl]; omega) (by omega) (by simp)) ?_
  rintro v H2 ⟨ho, hbut, _, _⟩
  refine Reg.pur rfl rfl rfl rfl (Pur.asg rfl) ?_
  refine Reg.nil ?_
  refine At.ret rfl Tryd.func106 rfl ?_
  first | (refine ⟨by simpa using ho, ?_⟩; exact (New.of_push (xs := []).ext).trBut hbut (fun b hb h => by simp only [Value.ownBlock, Option.some.injEq] at h; omega)) | (obtain ⟨A', cap', e, h1, _, h0, _⟩ := hS; cases e; have hA : A = none := by { cases A with | none => rfl | some _ => cases hb1 }; have hc := h0 hA; have hl : L = [] := List.length_eq_zero_iff.1 (by omega); subst hl; exact ⟨OwnS.nil _ _ _ _, Ext.refl _⟩)
end Go.Proofs.YtlfillhffpiffaaDoor

namespace Go.Proofs.YtlfillhffpiffaaDoor
set_option linter.unusedSimpArgs false
set_option linter.unusedVariables false
set_option maxRecDepth 8000
open Go Go.Fx Go.Proofs
namespace FactsSubF
theorem es53 : esz Tryd.prog 53 = some 9 := by kernel_rfl
theorem fo65_0 : foff Tryd.prog 65 0 = some 0 := by kernel_rfl
theorem fo65_2 : foff Tryd.prog 65 2 = some 2 := by kernel_rfl
theorem fo65_3 : foff Tryd.prog 65 3 = some 3 := by kernel_rfl
theorem isl53 : isSl Tryd.prog 53 = true := by kernel_rfl
theorem sc3 : sc Tryd.prog 3 = true := by kernel_rfl
end FactsSubF
open FactsSubF

def movS (by' : Int) (x : List Int) : List Int := if x.getD 0 0 = 3 then (x.set 2 (IntKind.i64.wrap (x.getD 2 0 + by'))).set 3 (IntKind.i64.wrap (x.getD 3 0 + by')) else x
theorem movS_len (by' : Int) (x : List Int) : (movS by' x).length = x.length := by unfold movS; split <;> simp
theorem nine_mov {by' : Int} {L : List (List Int)} (h : Nine L) : Nine (L.map (movS by')) := by
  intro x hx
  obtain ⟨y, hy, rfl⟩ := List.mem_map.1 hx
  rw [movS_len]; exact h y hy
def mid (by' : Int) (L : List (List Int)) (i : Nat) : List (List Int) := (L.take i).map (movS by') ++ L.drop i
theorem mid_len (by' : Int) (L : List (List Int)) (i : Nat) : (mid by' L i).length = L.length := by
  unfold mid; simp; omega
theorem mid_nine {by' : Int} {L : List (List Int)} (h : Nine L) (i : Nat) : Nine (mid by' L i) := by
  intro x hx
  unfold mid at hx
  rcases List.mem_append.1 hx with hx | hx
  · exact nine_mov (fun y hy => h y (List.mem_of_mem_take hy)) x hx
  · exact h x (List.mem_of_mem_drop hx)
theorem mid_get (by' : Int) {L : List (List Int)} {i : Nat} (h : i < L.length) : (mid by' L i).getD i [] = L[i] := by
  unfold mid
  rw [List.getD_eq_getElem?_getD, List.getElem?_append_right (by simp; omega)]
  simp [Nat.min_eq_left (Nat.le_of_lt h), List.getElem?_eq_getElem h]
theorem mid_set (by' : Int) {L : List (List Int)} {i : Nat} (h : i < L.length) : (mid by' L i).set i (movS by' L[i]) = mid by' L (i + 1) := by
  unfold mid
  rw [List.set_append_right _ _ (by simp; omega), List.take_succ_eq_append_getElem h, List.map_append, List.append_assoc]
  congr 1
  simp only [List.length_map, List.length_take, Nat.min_eq_left (Nat.le_of_lt h), Nat.sub_self]
  rw [dropL h]; rfl
theorem mid_same (by' : Int) {L : List (List Int)} {i : Nat} (h : i < L.length) (hm : movS by' L[i] = L[i]) : mid by' L (i + 1) = mid by' L i := by
  unfold mid
  rw [List.take_succ_eq_append_getElem h, List.map_append, List.append_assoc, dropL h]
  simp only [List.map_cons, List.map_nil, hm, List.singleton_append]
theorem mid_all (by' : Int) (L : List (List Int)) {i : Nat} (h : L.length ≤ i) : mid by' L i = L.map (movS by') := by
  unfold mid; rw [List.take_of_length_le h, List.drop_of_length_le h, List.append_nil]
theorem rd {c : List Value} {M : List (List Int)} {n i j : Nat} (h : c.take (n * 9) = M.flatMap Is) (hM : Nine M) (hl : M.length = n) (hi : i < n) (hj : j < 9) : c[0 + (i : Int).toNat * 9 + j]? = some (I ((M.getD i []).getD j 0)) := by
  subst hl
  have h1 : (c.drop (i * 9)).take 9 = Is M[i] := by rw [take_mid h (by omega)]; exact flat_at M i (wide9 hM) hi
  have h2 : M.getD i [] = M[i] := by simp [List.getD_eq_getElem?_getD, List.getElem?_eq_getElem hi]
  rw [h2, Nat.zero_add]
  exact at_tk h1 hj (at_Is (by rw [hM _ (List.getElem_mem hi)]; exact hj))
theorem wr {c : List Value} {M : List (List Int)} {n i j : Nat} (h : c.take (n * 9) = M.flatMap Is) (hM : Nine M) (hl : M.length = n) (hi : i < n) (hj : j < 9) (v : Int) : (c.set (0 + (i : Int).toNat * 9 + j) (I v)).take (n * 9) = (M.set i ((M.getD i []).set j v)).flatMap Is := by
  subst hl
  rw [Nat.zero_add, List.take_set, h]
  exact flat_set hM hi hj v
theorem len_of {c : List Value} {M : List (List Int)} {n : Nat} (h : c.take (n * 9) = M.flatMap Is) (hM : Nine M) (hl : M.length = n) : n * 9 ≤ c.length := by
  have := congrArg List.length h
  rw [List.length_take, flat_len (wide9 hM), hl] at this; omega
theorem nine_set {M : List (List Int)} (hM : Nine M) (i j : Nat) (v : Int) : Nine (M.set i ((M.getD i []).set j v)) := by
  intro x hx
  by_cases hi : i < M.length
  · rcases List.mem_or_eq_of_mem_set hx with h | h
    · exact hM x h
    · subst h
      rw [List.length_set, List.getD_eq_getElem?_getD, List.getElem?_eq_getElem hi]; exact hM _ (List.getElem_mem hi)
  · rw [List.set_eq_of_length_le (by omega)] at hx; exact hM x hx

theorem moved_ok {A : Option Addr} {cap : Nat} {L : List (List Int)} (hL : Nine L) {H : Heap} (hS : SlT H Is 9 (.slice A L.length cap) L) (hb : L.length * 72 ≤ 140737488351232) (by' : Int) :
    Ret Tryd.prog 92 [.slice A L.length cap, I by'] H (fun v H' => (∃ A' cap', v = .slice A' L.length cap' ∧ (L.length = 0 ∨ ∃ g, H.size ≤ g ∧ A' = some ⟨g, 0, none⟩)) ∧ SlT H' Is 9 v (L.map (movS by')) ∧ Ext H H') := by
  refine Ret.of_at (N := 40) Tryd.call92 Tryd.func92 rfl rfl rfl ?_
  refine At.region rfl rfl ?_
  refine Reg.pur rfl rfl rfl rfl (Pur.asg rfl) ?_
  refine Reg.nil ?_
  refine At.region rfl rfl ?_
  refine Reg.pur rfl rfl rfl rfl (Pur.mv rfl) ?_
  refine Reg.op rfl rfl rfl rfl (Does.call rfl (cloneT_ok hL hS hb)) ?_
  rintro v H1 ⟨ho, hE1⟩
  refine Reg.pur rfl rfl rfl rfl (Pur.asg rfl) ?_
  refine Reg.nil ?_
  obtain ⟨A', cap', rfl, hc1, hc2, hc3, g, c0, hg⟩ : ∃ A' cap', v = .slice A' L.length cap' ∧ L.length ≤ cap' ∧ cap' ≤ maxLen ∧ (A' = none → cap' = 0) ∧ ∃ g c, L.length = 0 ∨ (H.size ≤ g ∧ A' = some ⟨g, 0, none⟩ ∧ Own H1 g c ∧ c.take (L.length * 9) = (mid by' L 0).flatMap Is) := by
    obtain ⟨_, ⟨rfl, h0⟩ | ⟨g, cap, cur, rfl, h2, h3, h4, h5, h6, h7⟩⟩ := ho
    · exact ⟨none, 0, by rw [h0], by omega, by decide, fun _ => rfl, 0, [], .inl h0⟩
    · exact ⟨_, cap, rfl, h4, h5, (fun h => by cases h), g, cur.toList, .inr ⟨h2, rfl, ⟨_, by simpa using h3⟩, h7⟩⟩
  refine At.region rfl rfl ?_
  refine Reg.pur rfl rfl rfl rfl (Pur.mv rfl) ?_
  refine Reg.pur rfl rfl rfl rfl (Pur.lenS isl53 rfl) ?_
  refine Reg.pur rfl rfl rfl rfl (Pur.mv rfl) ?_
  refine Reg.nil ?_
  refine At.loop (σ := Nat × List Value) (fun s => [(11, I s.1), (10, I L.length), (5, .slice A' L.length cap'), (1, I by')]) (fun s H' => s.1 ≤ L.length ∧ Ext H H' ∧ (L.length = 0 ∨ (H.size ≤ g ∧ A' = some ⟨g, 0, none⟩ ∧ Own H' g s.2 ∧ s.2.take (L.length * 9) = (mid by' L s.1).flatMap Is))) (fun s => L.length - s.1) (0, c0) rfl ⟨rfl, rfl, rfl, rfl, trivial⟩ ⟨by omega, hE1, hg⟩ ?_
  clear hg ho
  rintro ⟨i, c⟩ H2 ⟨hi, hE, hI⟩ ih
  dsimp only at hi hE hI ⊢
  refine At.region rfl rfl ?_
  refine Reg.pur rfl rfl rfl rfl (Pur.lss rfl rfl) ?_
  refine Reg.nil ?_
  refine At.cond rfl rfl (fun hb1 => ?_) (fun hb1 => ?_)
  · refine At.region rfl rfl ?_
    refine Reg.pur rfl rfl rfl rfl (Pur.mv rfl) ?_
    refine Reg.pur rfl rfl rfl rfl (Pur.asg rfl) ?_
    refine Reg.nil ?_
    simp only [decide_eq_true_eq] at hb1
    have hlt : i < L.length := by omega
    obtain ⟨hgH, rfl, hO, htk⟩ := hI.resolve_left (by omega)
    have hN := mid_nine (by' := by') hL i
    have hln := mid_len by' L i
    have hcl := len_of htk hN hln
    have r0 := rd htk hN hln hlt (j := 0) (by omega)
    have r2 := rd htk hN hln hlt (j := 2) (by omega)
    have hx9 := hL _ (List.getElem_mem hlt)
    have hms := mid_set by' hlt
    rw [mid_get by' hlt] at r0 r2
    refine At.region rfl rfl ?_
    refine Reg.pur rfl rfl rfl rfl (Pur.mv rfl) ?_
    refine Reg.pur rfl rfl rfl rfl (Pur.mv rfl) ?_
    refine Reg.pur rfl rfl rfl rfl (Pur.idx _ es53 rfl rfl (by omega) hb1) ?_
    refine Reg.pur rfl rfl rfl rfl (Pur.fld _ fo65_0 rfl) ?_
    refine Reg.lod rfl rfl rfl rfl (Lod.ld sc3 rfl hO.blk r0) ?_
    refine Reg.pur rfl rfl rfl rfl (Pur.eql rfl rfl) ?_
    refine Reg.nil ?_
    refine At.cond rfl rfl (fun hb2 => ?_) (fun hb2 => ?_)
    · refine At.region rfl rfl ?_
      refine Reg.pur rfl rfl rfl rfl (Pur.mv rfl) ?_
      refine Reg.pur rfl rfl rfl rfl (Pur.mv rfl) ?_
      refine Reg.pur rfl rfl rfl rfl (Pur.idx _ es53 rfl rfl (by omega) (by omega)) ?_
      refine Reg.pur rfl rfl rfl rfl (Pur.fld _ fo65_2 rfl) ?_
      refine Reg.lod rfl rfl rfl rfl (Lod.ld sc3 rfl hO.blk r2) ?_
      refine Reg.pur rfl rfl rfl rfl (Pur.mv rfl) ?_
      first | refine Reg.pur rfl rfl rfl rfl (Pur.add64 rfl rfl (by omega)) ?_ | refine Reg.pur rfl rfl rfl rfl (Pur.add64 rfl rfl (by assumption)) ?_ | refine Reg.pur rfl rfl rfl rfl (Pur.add rfl rfl) ?_
      refine Reg.pur rfl rfl rfl rfl (Pur.idx _ es53 rfl rfl (by omega) (by omega)) ?_
      refine Reg.pur rfl rfl rfl rfl (Pur.fld _ fo65_2 rfl) ?_
      refine Reg.op0 rfl rfl rfl (Does.st sc3 rfl rfl rfl hO (by omega)) ?_
      rintro _ H3 hu3
      refine Reg.nil ?_
      have t3 := wr htk hN hln hlt (j := 2) (by omega) (IntKind.i64.wrap (L[i].getD 2 0 + by'))
      have N3 := nine_set hN i 2 (IntKind.i64.wrap (L[i].getD 2 0 + by'))
      have l3 : ((mid by' L i).set i (((mid by' L i).getD i []).set 2 (IntKind.i64.wrap (L[i].getD 2 0 + by')))).length = L.length := by rw [List.length_set]; exact hln
      have g3 : ((mid by' L i).set i (((mid by' L i).getD i []).set 2 (IntKind.i64.wrap (L[i].getD 2 0 + by')))).getD i [] = L[i].set 2 (IntKind.i64.wrap (L[i].getD 2 0 + by')) := by rw [mid_get by' hlt, List.getD_eq_getElem?_getD, List.getElem?_set]; simp [hln, hlt]
      have r3 := rd t3 N3 l3 hlt (j := 3) (by omega)
      rw [g3, show (L[i].set 2 (IntKind.i64.wrap (L[i].getD 2 0 + by'))).getD 3 0 = L[i].getD 3 0 by simp [List.getD_eq_getElem?_getD, List.getElem?_set]] at r3
      refine At.region rfl rfl ?_
      refine Reg.pur rfl rfl rfl rfl (Pur.mv rfl) ?_
      refine Reg.pur rfl rfl rfl rfl (Pur.mv rfl) ?_
      refine Reg.pur rfl rfl rfl rfl (Pur.idx _ es53 rfl rfl (by omega) (by omega)) ?_
      refine Reg.pur rfl rfl rfl rfl (Pur.fld _ fo65_3 rfl) ?_
      refine Reg.lod rfl rfl rfl rfl (Lod.ld sc3 rfl hu3.own.blk r3) ?_
      refine Reg.pur rfl rfl rfl rfl (Pur.mv rfl) ?_
      first | refine Reg.pur rfl rfl rfl rfl (Pur.add64 rfl rfl (by omega)) ?_ | refine Reg.pur rfl rfl rfl rfl (Pur.add64 rfl rfl (by assumption)) ?_ | refine Reg.pur rfl rfl rfl rfl (Pur.add rfl rfl) ?_
      refine Reg.pur rfl rfl rfl rfl (Pur.idx _ es53 rfl rfl (by omega) (by omega)) ?_
      refine Reg.pur rfl rfl rfl rfl (Pur.fld _ fo65_3 rfl) ?_
      refine Reg.op0 rfl rfl rfl (Does.st sc3 rfl rfl rfl hu3.own (by rw [List.length_set]; omega)) ?_
      rintro _ H4 hu4
      refine Reg.nil ?_
      have t4 := wr t3 N3 l3 hlt (j := 3) (by omega) (IntKind.i64.wrap (L[i].getD 3 0 + by'))
      refine At.region rfl rfl ?_
      first | refine Reg.pur rfl rfl rfl rfl (Pur.add64 rfl rfl (by omega)) ?_ | refine Reg.pur rfl rfl rfl rfl (Pur.add64 rfl rfl (by assumption)) ?_ | refine Reg.pur rfl rfl rfl rfl (Pur.add rfl rfl) ?_
      refine Reg.pur rfl rfl rfl rfl (Pur.mv rfl) ?_
      refine Reg.nil ?_
      first | (rw [g3, List.set_set, show (L[i].set 2 (IntKind.i64.wrap (L[i].getD 2 0 + by'))).set 3 (IntKind.i64.wrap (L[i].getD 3 0 + by')) = movS by' L[i] by unfold movS; rw [if_pos (of_decide_eq_true hb2)], hms] at t4; exact At.via (ih (i + 1, _) H4 ⟨by omega, (hE.upd hu3 hgH).upd hu4 hgH, .inr ⟨hgH, rfl, hu4.own, t4⟩⟩ (by simp only; omega)) ⟨rfl, rfl, rfl, rfl, trivial⟩) | (rw [← mid_same by' hlt (by unfold movS; rw [if_neg (of_decide_eq_false hb2)])] at htk; exact At.via (ih (i + 1, c) _ ⟨by omega, hE, .inr ⟨hgH, rfl, hO, htk⟩⟩ (by simp only; omega)) ⟨rfl, rfl, rfl, rfl, trivial⟩)
    refine At.region rfl rfl ?_
    first | refine Reg.pur rfl rfl rfl rfl (Pur.add64 rfl rfl (by omega)) ?_ | refine Reg.pur rfl rfl rfl rfl (Pur.add64 rfl rfl (by assumption)) ?_ | refine Reg.pur rfl rfl rfl rfl (Pur.add rfl rfl) ?_
    refine Reg.pur rfl rfl rfl rfl (Pur.mv rfl) ?_
    refine Reg.nil ?_
    first | (rw [g3, List.set_set, show (L[i].set 2 (IntKind.i64.wrap (L[i].getD 2 0 + by'))).set 3 (IntKind.i64.wrap (L[i].getD 3 0 + by')) = movS by' L[i] by unfold movS; rw [if_pos (of_decide_eq_true hb2)], hms] at t4; exact At.via (ih (i + 1, _) H4 ⟨by omega, (hE.upd hu3 hgH).upd hu4 hgH, .inr ⟨hgH, rfl, hu4.own, t4⟩⟩ (by simp only; omega)) ⟨rfl, rfl, rfl, rfl, trivial⟩) | (rw [← mid_same by' hlt (by unfold movS; rw [if_neg (of_decide_eq_false hb2)])] at htk; exact At.via (ih (i + 1, c) _ ⟨by omega, hE, .inr ⟨hgH, rfl, hO, htk⟩⟩ (by simp only; omega)) ⟨rfl, rfl, rfl, rfl, trivial⟩)
  refine At.region rfl rfl ?_
  refine Reg.pur rfl rfl rfl rfl (Pur.mv rfl) ?_
  refine Reg.pur rfl rfl rfl rfl (Pur.asg rfl) ?_
  refine Reg.nil ?_
  refine At.ret rfl Tryd.func92 rfl ?_
  simp only [decide_eq_false_iff_not] at hb1
  refine ⟨⟨A', cap', rfl, hI.imp id (fun ⟨h1, h2, _⟩ => ⟨g, h1, h2⟩)⟩, ?_, hE⟩
  rcases hI with h0 | ⟨h1, rfl, hO, htk⟩
  · obtain rfl : L = [] := List.length_eq_zero_iff.1 h0
    exact ⟨A', cap', rfl, by simp, hc2, hc3, .inl rfl⟩
  · rw [mid_all by' L (by omega)] at htk
    have := sl_of (L := L.map (movS by')) (o := 0) (wide9 (nine_mov hL)) (by decide) hO.blk (by rw [List.drop_zero, List.length_map]; exact htk) (by rw [List.length_map]; exact hc1) hc2
    rw [List.length_map] at this
    exact this
end Go.Proofs.YtlfillhffpiffaaDoor

namespace Go.Proofs.YtlfillhffpiffaaDoor
set_option linter.unusedSimpArgs false
set_option linter.unusedVariables false
set_option maxRecDepth 8000
open Go Go.Fx Go.Proofs
namespace FactsSubG
theorem ag55 : ag Tryd.prog 55 = some 1 := by kernel_rfl
theorem ag65 : ag Tryd.prog 65 = some 9 := by kernel_rfl
theorem apt53 : appT Tryd.prog 53 = some (65, 9, 72) := by kernel_rfl
theorem eqt65 : eqT Tryd.prog 65 = some [.int .i64, .int .i64, .int .i64, .int .i64, .int .i64, .int .i64, .int .i64, .int .i64, .int .i64] := by kernel_rfl
theorem es53 : esz Tryd.prog 53 = some 9 := by kernel_rfl
theorem fo55_0 : foff Tryd.prog 55 0 = some 0 := by kernel_rfl
theorem isl53 : isSl Tryd.prog 53 = true := by kernel_rfl
theorem mixed : Tryd.prog.follows .mixedOrders = true := by kernel_rfl
theorem pl55 : places Tryd.prog 55 = some [(0, 1)] := by kernel_rfl
theorem sc53 : sc Tryd.prog 53 = true := by kernel_rfl
theorem slA53 : slA Tryd.prog 53 = some (65, 9) := by kernel_rfl
theorem zc55 : zc Tryd.prog 55 = some [.slice none 0 0] := by kernel_rfl
end FactsSubG
open FactsSubG

end Go.Proofs.YtlfillhffpiffaaDoor

namespace Go.Proofs.YtlfillhffpiffaaDoor
set_option linter.unusedSimpArgs false
set_option linter.unusedVariables false
set_option maxRecDepth 8000
open Go Go.Fx Go.Proofs
namespace FactsSubH
theorem es53 : esz Tryd.prog 53 = some 9 := by kernel_rfl
theorem fo55_0 : foff Tryd.prog 55 0 = some 0 := by kernel_rfl
theorem fo65_1 : foff Tryd.prog 65 1 = some 1 := by kernel_rfl
theorem isl53 : isSl Tryd.prog 53 = true := by kernel_rfl
theorem sc3 : sc Tryd.prog 3 = true := by kernel_rfl
theorem sc53 : sc Tryd.prog 53 = true := by kernel_rfl
end FactsSubH
open FactsSubH

end Go.Proofs.YtlfillhffpiffaaDoor

namespace Go.Proofs.YtlfillhffpiffaaDoor
set_option linter.unusedSimpArgs false
set_option linter.unusedVariables false
set_option maxRecDepth 8000
open Go Go.Fx Go.Proofs
namespace FactsSchC
theorem apt50 : appT Tryd.prog 50 = some (3, 1, 8) := by kernel_rfl
theorem es50 : esz Tryd.prog 50 = some 1 := by kernel_rfl
theorem fo109_0 : foff Tryd.prog 109 0 = some 0 := by kernel_rfl
theorem fo109_1 : foff Tryd.prog 109 1 = some 1 := by kernel_rfl
theorem isl50 : isSl Tryd.prog 50 = true := by kernel_rfl
theorem sc3 : sc Tryd.prog 3 = true := by kernel_rfl
theorem sc50 : sc Tryd.prog 50 = true := by kernel_rfl
theorem sl1_50 : Go.Fx.sl1 Tryd.prog 50 = true := by kernel_rfl
end FactsSchC
open FactsSchC

def addL (T : List Int) (v : Int) : List Int := if inL T v then T else T ++ [v]
theorem addL_len (T : List Int) (v : Int) : (addL T v).length ≤ T.length + 1 := by unfold addL; split <;> simp
structure Nm (H : Heap) (nb B : Nat) (A1 : Option Addr) (c1 : Nat) (T : List Int) (A2 : Option Addr) (c2 : Nat) (R : List Int) : Prop where
  own : Own H nb [.slice A1 T.length c1, .slice A2 R.length c2]
  g1 : Gs H B 3 1 A1 c1 T.length (T.flatMap e1)
  g2 : Gs H B 3 1 A2 c2 R.length (R.flatMap e1)
  d1 : ob A1 = -1 ∨ ob A1 ≠ ob A2
  d2 : ob A1 ≠ nb
  d3 : ob A2 ≠ nb
  lo : B ≤ H.size
def Mod (nb : Nat) (A1 A2 A1' A2' : Option Addr) (H H' : Heap) : Prop :=
  But (fun g => g = nb ∨ (g : Int) = ob A1 ∨ (g : Int) = ob A2) H H' ∧ (ob A1' = ob A1 ∨ (H.size : Int) ≤ ob A1') ∧ (ob A2' = ob A2 ∨ (H.size : Int) ≤ ob A2')
theorem Mod.refl (nb : Nat) (A1 A2 : Option Addr) (H : Heap) : Mod nb A1 A2 A1 A2 H H := ⟨But.refl _ _, .inl rfl, .inl rfl⟩
theorem Mod.trans {nb : Nat} {A1 A2 B1 B2 C1 C2 : Option Addr} {H H' H'' : Heap} (h : Mod nb A1 A2 B1 B2 H H') (k : Mod nb B1 B2 C1 C2 H' H'') : Mod nb A1 A2 C1 C2 H H'' := by
  obtain ⟨h1, h2, h3⟩ := h
  obtain ⟨k1, k2, k3⟩ := k
  have hs := h1.1
  refine ⟨⟨Nat.le_trans h1.1 k1.1, fun b hb hS => ?_⟩, by omega, by omega⟩
  rw [k1.2 b (by omega) (fun hk => hS (by dsimp only at hk ⊢; omega)), h1.2 b hb hS]
theorem Mod.ext {nb : Nat} {A1 A2 B1 B2 : Option Addr} {H H' H'' : Heap} (h : Mod nb A1 A2 B1 B2 H H') (k : Ext H' H'') : Mod nb A1 A2 B1 B2 H H'' :=
  ⟨h.1.trans k.but, h.2⟩
theorem Nm.ext {H H' : Heap} {nb B : Nat} {A1 A2 : Option Addr} {c1 c2 : Nat} {T R : List Int} (h : Nm H nb B A1 c1 T A2 c2 R) (he : Ext H H') : Nm H' nb B A1 c1 T A2 c2 R :=
  ⟨h.own.ext he, h.g1.ext he, h.g2.ext he, h.d1, h.d2, h.d3, Nat.le_trans h.lo he.1⟩

theorem set_same {α : Type} {cs : List α} {o : Nat} {v : α} (hc : cs[o]? = some v) : cs.set o v = cs := by
  apply List.ext_getElem?
  intro j
  by_cases h : o = j
  · subst h
    have : o < cs.length := by
      rcases Nat.lt_or_ge o cs.length with h | h
      · exact h
      · rw [List.getElem?_eq_none h] at hc; cases hc
    rw [List.getElem?_set_self this, hc]
  · rw [List.getElem?_set_ne h]
theorem name_ok {nb o B cap : Nat} {A : Option Addr} {cs : List Value} (T : List Int) (v : Int) {H : Heap} (ho : Own H nb cs) (hc : cs[o]? = some (.slice A T.length cap)) (hg : Gs H B 3 1 A cap T.length (T.flatMap e1)) (hd : ob A ≠ nb) (hB : B ≤ H.size) (hm : T.length ≤ 1000000) :
    Ret Tryd.prog 104 [ptr nb o, I v] H (fun r H' => ∃ A' cap', r = I (ixL T v) ∧ Own H' nb (cs.set o (.slice A' (addL T v).length cap')) ∧ Gs H' B 3 1 A' cap' (addL T v).length ((addL T v).flatMap e1) ∧ But (fun g => g = nb ∨ (g : Int) = ob A) H H' ∧ (ob A' = ob A ∨ (H.size : Int) ≤ ob A')) := by
  have hol : o < cs.length := by
    rcases Nat.lt_or_ge o cs.length with h | h
    · exact h
    · rw [List.getElem?_eq_none h] at hc; cases hc
  refine Ret.of_at (N := 26) Tryd.call104 Tryd.func104 rfl rfl rfl ?_
  have hE := Ext.refl H
  have z_ho := ho.lt
  have z_hg := hg.lt
  refine At.region rfl rfl ?_
  refine Reg.pur rfl rfl rfl rfl (Pur.asg rfl) ?_
  refine Reg.nil ?_
  refine At.region rfl rfl ?_
  refine Reg.pur rfl rfl rfl rfl (Pur.mv rfl) ?_
  refine Reg.pur rfl rfl rfl rfl (Pur.nilc rfl) ?_
  refine Reg.lod rfl rfl rfl rfl (Lod.ld sc50 rfl ho.blk hc) ?_
  refine Reg.pur rfl rfl rfl rfl (Pur.mv rfl) ?_
  refine Reg.op rfl rfl rfl rfl (Does.call rfl (index_ok T (own_sl (wide1 T) (by decide) hg) (by omega) v)) ?_
  rintro _ H ⟨rfl, rfl⟩
  refine Reg.pur rfl rfl rfl rfl (Pur.asg rfl) ?_
  refine Reg.nil ?_
  refine At.region rfl rfl ?_
  refine Reg.pur rfl rfl rfl rfl (Pur.mv rfl) ?_
  refine Reg.pur rfl rfl rfl rfl (Pur.lss rfl rfl) ?_
  refine Reg.nil ?_
  refine At.cond rfl rfl (fun q12 => ?_) (fun q12 => ?_)
  · first | (simp only [decide_eq_true_eq, decide_eq_false_iff_not, Bool.not_eq_true', Bool.not_eq_false', ne_eq, Decidable.not_not, Bool.not_eq_true, Bool.not_eq_false] at q12) | (dsimp only at q12) | skip
    have hni : inL T v = false := by { cases h : inL T v with | false => rfl | true => rw [h] at q12; simp at q12; omega }
    have hix : ixL T v = T.length := by { have := ixL_le T v; simp [inL] at hni; omega }
    have had : addL T v = T ++ [v] := by unfold addL; rw [hni]; rfl
    refine At.region rfl rfl ?_
    refine Reg.pur rfl rfl rfl rfl (Pur.mv rfl) ?_
    refine Reg.pur rfl rfl rfl rfl (Pur.nilc rfl) ?_
    refine Reg.lod rfl rfl rfl rfl (Lod.ld sc50 rfl ho.blk hc) ?_
    refine Reg.pur rfl rfl rfl rfl (Pur.lenS isl50 rfl) ?_
    refine Reg.pur rfl rfl rfl rfl (Pur.asg rfl) ?_
    refine Reg.nil ?_
    refine At.region rfl rfl ?_
    refine Reg.pur rfl rfl rfl rfl (Pur.mv rfl) ?_
    refine Reg.pur rfl rfl rfl rfl (Pur.mv rfl) ?_
    refine Reg.pur rfl rfl rfl rfl (Pur.nilc rfl) ?_
    refine Reg.lod rfl rfl rfl rfl (Lod.ld sc50 rfl ho.blk hc) ?_
    refine Reg.pur rfl rfl rfl rfl (Pur.mv rfl) ?_
    refine Reg.op rfl rfl rfl rfl (Does.bsl1T sl1_50 Tryd.underlying50 rfl rfl rfl rfl rfl) ?_
    rintro _ H4_5 ⟨rfl, hp4_5⟩
    have hn4_5 := New.of_eq hp4_5
    have z4_5 := hn4_5.size
    replace ho := ho.ext hn4_5.ext
    replace hg := hg.ext hn4_5.ext
    have o4_5 := hn4_5.own
    refine Reg.op rfl rfl rfl rfl (Does.appL apt50 rfl rfl (by decide) hg (wide1 _) (sl_new (L := [v]) (wide1 _) (by decide) hn4_5 (by simp)) (ones_e1 _) (by simp; omega) (by omega)) ?_
    rintro _ H4_6 ⟨A4_6, cap4_6, rfl, g4_6, hbut4_6, ha4_6⟩
    have z4_6 := hbut4_6.lt
    replace ho := ho.via hbut4_6 (by first | omega | (intro g; omega) | (intro g hg; omega) | (intro g hg h; omega))
    replace o4_5 := o4_5.via hbut4_6 (by first | omega | (intro g; omega) | (intro g hg; omega) | (intro g hg h; omega))
    replace hg := g4_6
    have zg4_6 := g4_6.lt
    refine Reg.pur rfl rfl rfl rfl (Pur.nilc rfl) ?_
    refine Reg.op0 rfl rfl rfl (Does.st sc50 rfl rfl rfl ho hol) ?_
    rintro _ H4_8 hu4_8
    have z4_8 := hu4_8.size
    replace hg := hg.upw hu4_8 (by omega)
    replace o4_5 := o4_5.upw hu4_8 (by omega)
    replace ho := hu4_8.own
    refine Reg.nil ?_
    refine At.region rfl rfl ?_
    refine Reg.pur rfl rfl rfl rfl (Pur.mv rfl) ?_
    refine Reg.pur rfl rfl rfl rfl (Pur.asg rfl) ?_
    refine Reg.nil ?_
    refine At.ret rfl Tryd.func104 rfl ?_
    rw [← had] at hg ho
    refine ⟨A4_6, cap4_6, ?_, ho, hg, (hn4_5.ext.but (S := fun g => g = nb ∨ (g : Int) = ob A)).trans ((hbut4_6.mono (fun b hb h => Or.inr h)).trans (hu4_8.but.mono (fun b hb h => Or.inl h))), by omega⟩
    rw [hix]
  first | (simp only [decide_eq_true_eq, decide_eq_false_iff_not, Bool.not_eq_true', Bool.not_eq_false', ne_eq, Decidable.not_not, Bool.not_eq_true, Bool.not_eq_false] at q12) | (dsimp only at q12) | skip
  refine At.region rfl rfl ?_
  refine Reg.pur rfl rfl rfl rfl (Pur.mv rfl) ?_
  refine Reg.pur rfl rfl rfl rfl (Pur.asg rfl) ?_
  refine Reg.nil ?_
  refine At.ret rfl Tryd.func104 rfl ?_
  have hin : inL T v = true := by { cases h : inL T v with | true => rfl | false => exact absurd (by rw [h]; simp) q12 }
  have had : addL T v = T := by unfold addL; rw [hin]; rfl
  rw [had]
  exact ⟨A, cap, by rw [hin]; rfl, ho.of (set_same hc).symm, hg, But.refl _ _, .inl rfl⟩

theorem nm_Type {nb B c1 c2 : Nat} {A1 A2 : Option Addr} {T R : List Int} (v : Int) {H : Heap} (h : Nm H nb B A1 c1 T A2 c2 R) (hm : T.length ≤ 1000000) :
    Ret Tryd.prog 84 [ptr nb 0, I v] H (fun r H' => r = I (ixL T v) ∧ ∃ A1' c1', Nm H' nb B A1' c1' (addL T v) A2 c2 R ∧ Mod nb A1 A2 A1' A2 H H') := by
  obtain ⟨ho, hg1, hg2, hd1, hd2, hd3, hlo⟩ := h
  have z1 := hg1.lt
  have z2 := hg2.lt
  have hnb := ho.lt
  refine Ret.of_at (N := 10) Tryd.call84 Tryd.func84 rfl rfl rfl ?_
  have hE := Ext.refl H

  refine At.region rfl rfl ?_
  refine Reg.pur rfl rfl rfl rfl (Pur.asg rfl) ?_
  refine Reg.nil ?_
  refine At.region rfl rfl ?_
  refine Reg.pur rfl rfl rfl rfl (Pur.mv rfl) ?_
  refine Reg.pur rfl rfl rfl rfl (Pur.nilc rfl) ?_
  refine Reg.pur rfl rfl rfl rfl (Pur.fld _ fo109_0 rfl) ?_
  refine Reg.pur rfl rfl rfl rfl (Pur.mv rfl) ?_
  refine Reg.op rfl rfl rfl rfl (Does.call rfl (name_ok T v ho rfl hg1 hd2 hlo hm)) ?_
  rintro _ H1_4 ⟨A', cap', rfl, ho1_4, hg1_4, hbut1_4, ha1_4⟩
  have z1_4 := hbut1_4.lt
  refine Reg.pur rfl rfl rfl rfl (Pur.asg rfl) ?_
  refine Reg.nil ?_
  refine At.ret rfl Tryd.func84 rfl ?_
  refine ⟨rfl, A', cap', ⟨ho1_4, hg1_4, hg2.via hbut1_4 (fun g hg h => by omega), by omega, by omega, hd3, by have := hbut1_4.lt; omega⟩, ⟨hbut1_4.mono (fun b hb h => by omega), ha1_4, .inl rfl⟩⟩
theorem nm_Row {nb B c1 c2 : Nat} {A1 A2 : Option Addr} {T R : List Int} (v : Int) {H : Heap} (h : Nm H nb B A1 c1 T A2 c2 R) (hm : R.length ≤ 1000000) :
    Ret Tryd.prog 86 [ptr nb 0, I v] H (fun r H' => r = I (ixL R v) ∧ ∃ A2' c2', Nm H' nb B A1 c1 T A2' c2' (addL R v) ∧ Mod nb A1 A2 A1 A2' H H') := by
  obtain ⟨ho, hg1, hg2, hd1, hd2, hd3, hlo⟩ := h
  have z1 := hg1.lt
  have z2 := hg2.lt
  have hnb := ho.lt
  refine Ret.of_at (N := 10) Tryd.call86 Tryd.func86 rfl rfl rfl ?_
  have hE := Ext.refl H

  refine At.region rfl rfl ?_
  refine Reg.pur rfl rfl rfl rfl (Pur.asg rfl) ?_
  refine Reg.nil ?_
  refine At.region rfl rfl ?_
  refine Reg.pur rfl rfl rfl rfl (Pur.mv rfl) ?_
  refine Reg.pur rfl rfl rfl rfl (Pur.nilc rfl) ?_
  refine Reg.pur rfl rfl rfl rfl (Pur.fld _ fo109_1 rfl) ?_
  refine Reg.pur rfl rfl rfl rfl (Pur.mv rfl) ?_
  refine Reg.op rfl rfl rfl rfl (Does.call rfl (name_ok R v ho rfl hg2 hd3 hlo hm)) ?_
  rintro _ H1_4 ⟨A', cap', rfl, ho1_4, hg1_4, hbut1_4, ha1_4⟩
  have z1_4 := hbut1_4.lt
  refine Reg.pur rfl rfl rfl rfl (Pur.asg rfl) ?_
  refine Reg.nil ?_
  refine At.ret rfl Tryd.func86 rfl ?_
  refine ⟨rfl, A', cap', ⟨ho1_4, hg1.via hbut1_4 (fun g hg h => by omega), hg1_4, by omega, hd2, by omega, by have := hbut1_4.lt; omega⟩, ⟨hbut1_4.mono (fun b hb h => by omega), .inl rfl, ha1_4⟩⟩

end Go.Proofs.YtlfillhffpiffaaDoor

namespace Go.Proofs.YtlfillhffpiffaaDoor
set_option linter.unusedSimpArgs false
set_option linter.unusedVariables false
set_option maxRecDepth 8000
open Go Go.Fx Go.Proofs
namespace FactsSchD
theorem fo24_1 : foff Tryd.prog 24 1 = some 4 := by kernel_rfl
theorem fo65_0 : foff Tryd.prog 65 0 = some 0 := by kernel_rfl
theorem fo65_1 : foff Tryd.prog 65 1 = some 1 := by kernel_rfl
theorem fo65_4 : foff Tryd.prog 65 4 = some 4 := by kernel_rfl
theorem mixed : Tryd.prog.follows .mixedOrders = true := by kernel_rfl
theorem sc108 : sc Tryd.prog 108 = true := by kernel_rfl
theorem sc3 : sc Tryd.prog 3 = true := by kernel_rfl
end FactsSchD
open FactsSchD

abbrev Nms := List Int × List Int
theorem bgn_fun {L : List (List Int)} {f : Nat} {z : Int} (h : 0 ≤ bgn L (f + 1) z) (hk : (el L z).getD 0 0 = 3) :
    z ≠ 0 ∧ (el L z).getD 3 0 = z - 1 ∧ 1 ≤ bgn L f ((el L z).getD 3 0) ∧ (el L z).getD 2 0 = bgn L f ((el L z).getD 3 0) - 1 ∧ 0 ≤ bgn L f ((el L z).getD 2 0) := by
  rw [bgn_succ, if_neg (by omega)] at h
  by_cases hb : z = 0 ∨ (el L z).getD 3 0 ≠ z - 1
  · rw [if_pos hb] at h; omega
  · rw [if_neg hb] at h
    by_cases hc : bgn L f ((el L z).getD 3 0) < 1 ∨ (el L z).getD 2 0 ≠ bgn L f ((el L z).getD 3 0) - 1
    · rw [if_pos hc] at h; omega
    · rw [if_neg hc] at h; omega

end Go.Proofs.YtlfillhffpiffaaDoor

namespace Go.Proofs.YtlfillhffpiffaaDoor
set_option linter.unusedSimpArgs false
set_option linter.unusedVariables false
set_option maxRecDepth 8000
open Go Go.Fx Go.Proofs
namespace FactsSchE
theorem es53 : esz Tryd.prog 53 = some 9 := by kernel_rfl
theorem fo55_0 : foff Tryd.prog 55 0 = some 0 := by kernel_rfl
theorem fo65_0 : foff Tryd.prog 65 0 = some 0 := by kernel_rfl
theorem fo65_2 : foff Tryd.prog 65 2 = some 2 := by kernel_rfl
theorem fo65_3 : foff Tryd.prog 65 3 = some 3 := by kernel_rfl
theorem isl53 : isSl Tryd.prog 53 = true := by kernel_rfl
theorem sc3 : sc Tryd.prog 3 = true := by kernel_rfl
theorem sc53 : sc Tryd.prog 53 = true := by kernel_rfl
end FactsSchE
open FactsSchE

structure Off (nb : Nat) (A1 A2 : Option Addr) (b : Int) : Prop where
  h1 : b ≠ nb
  h2 : b ≠ ob A1
  h3 : b ≠ ob A2
theorem Off.not {nb : Nat} {A1 A2 : Option Addr} {b : Nat} (h : Off nb A1 A2 b) : ¬ (b = nb ∨ (b : Int) = ob A1 ∨ (b : Int) = ob A2) := by
  rintro (e | e | e)
  · exact h.h1 (by rw [e])
  · exact h.h2 e
  · exact h.h3 e
theorem Off.mod {nb : Nat} {A1 A2 A1' A2' : Option Addr} {b : Int} {H H' : Heap} (h : Off nb A1 A2 b) (hb : b < H.size) (hM : Mod nb A1 A2 A1' A2' H H') : Off nb A1' A2' b := by
  obtain ⟨_, h1, h2⟩ := hM
  obtain ⟨k1, k2, k3⟩ := h
  exact ⟨k1, by omega, by omega⟩
theorem typM_bgn {L : List (List Int)} (h : typM L = true) : (1 ≤ L.length ∧ L.length ≤ 256) ∧ bgn L L.length ((L.length : Int) - 1) = 0 := by
  unfold typM at h
  simp only [Bool.and_eq_true, decide_eq_true_eq] at h
  exact ⟨h.1.1, h.2⟩
end Go.Proofs.YtlfillhffpiffaaDoor

namespace Go.Proofs.YtlfillhffpiffaaDoor
set_option linter.unusedSimpArgs false
set_option linter.unusedVariables false
set_option maxRecDepth 8000
open Go Go.Fx Go.Proofs
namespace FactsSchF
theorem ag55 : ag Tryd.prog 55 = some 1 := by kernel_rfl
theorem ag65 : ag Tryd.prog 65 = some 9 := by kernel_rfl
theorem es53 : esz Tryd.prog 53 = some 9 := by kernel_rfl
theorem fo109_0 : foff Tryd.prog 109 0 = some 0 := by kernel_rfl
theorem fo109_1 : foff Tryd.prog 109 1 = some 1 := by kernel_rfl
theorem fo24_1 : foff Tryd.prog 24 1 = some 4 := by kernel_rfl
theorem fo55_0 : foff Tryd.prog 55 0 = some 0 := by kernel_rfl
theorem fo65_0 : foff Tryd.prog 65 0 = some 0 := by kernel_rfl
theorem fo65_1 : foff Tryd.prog 65 1 = some 1 := by kernel_rfl
theorem fo65_2 : foff Tryd.prog 65 2 = some 2 := by kernel_rfl
theorem fo65_3 : foff Tryd.prog 65 3 = some 3 := by kernel_rfl
theorem fo65_4 : foff Tryd.prog 65 4 = some 4 := by kernel_rfl
theorem isl53 : isSl Tryd.prog 53 = true := by kernel_rfl
theorem mixed : Tryd.prog.follows .mixedOrders = true := by kernel_rfl
theorem pl109 : places Tryd.prog 109 = some [(0, 1), (1, 1)] := by kernel_rfl
theorem sc3 : sc Tryd.prog 3 = true := by kernel_rfl
theorem sc50 : sc Tryd.prog 50 = true := by kernel_rfl
theorem sc53 : sc Tryd.prog 53 = true := by kernel_rfl
theorem zc109 : zc Tryd.prog 109 = some [.slice none 0 0, .slice none 0 0] := by kernel_rfl
theorem zc65 : zc Tryd.prog 65 = some [.int .i64 0, .int .i64 0, .int .i64 0, .int .i64 0, .int .i64 0, .int .i64 0, .int .i64 0, .int .i64 0, .int .i64 0] := by kernel_rfl
end FactsSchF
open FactsSchF

theorem nm_new {H H' : Heap} {B : Nat} (h : Own H' H.size [.slice none 0 0, .slice none 0 0]) (hB : B ≤ H'.size) : Nm H' H.size B none 0 [] none 0 [] :=
  ⟨h, OwnS.nilG, OwnS.nilG, .inl rfl, by rw [ob_none]; omega, by rw [ob_none]; omega, hB⟩
theorem off_none {nb : Nat} {b : Int} (h : b ≠ nb) (h0 : 0 ≤ b) : Off nb none none b := ⟨h, by rw [ob_none]; omega, by rw [ob_none]; omega⟩
theorem mod_ext {nb : Nat} {A1' A2' : Option Addr} {H0 H H' : Heap} (h : Mod nb none none A1' A2' H H') (hE : Ext H0 H) (hn : H0.size ≤ nb) : Ext H0 H' :=
  hE.via h.1 (fun g hg hS => by rw [ob_none] at hS; omega)
end Go.Proofs.YtlfillhffpiffaaDoor

namespace Go.Proofs.YtlfillhffpiffaaDoor
set_option linter.unusedSimpArgs false
set_option linter.unusedVariables false
set_option maxRecDepth 8000
open Go Go.Fx Go.Proofs
namespace FactsSchG

end FactsSchG
open FactsSchG

def cs (b : Bool) : Int := if b then 0 else 1200
end Go.Proofs.YtlfillhffpiffaaDoor

namespace Go.Proofs.YtlfillhffpiffaaDoor
set_option linter.unusedSimpArgs false
set_option linter.unusedVariables false
set_option maxRecDepth 8000
open Go Go.Fx Go.Proofs
namespace FactsSubK
theorem ag24 : ag Tryd.prog 24 = some 5 := by kernel_rfl
theorem ag55 : ag Tryd.prog 55 = some 1 := by kernel_rfl
theorem ag65 : ag Tryd.prog 65 = some 9 := by kernel_rfl
theorem apt53 : appT Tryd.prog 53 = some (65, 9, 72) := by kernel_rfl
theorem es50 : esz Tryd.prog 50 = some 1 := by kernel_rfl
theorem es53 : esz Tryd.prog 53 = some 9 := by kernel_rfl
theorem fo55_0 : foff Tryd.prog 55 0 = some 0 := by kernel_rfl
theorem fo65_0 : foff Tryd.prog 65 0 = some 0 := by kernel_rfl
theorem fo65_1 : foff Tryd.prog 65 1 = some 1 := by kernel_rfl
theorem fo65_2 : foff Tryd.prog 65 2 = some 2 := by kernel_rfl
theorem fo65_3 : foff Tryd.prog 65 3 = some 3 := by kernel_rfl
theorem fo65_4 : foff Tryd.prog 65 4 = some 4 := by kernel_rfl
theorem isl53 : isSl Tryd.prog 53 = true := by kernel_rfl
theorem mixed : Tryd.prog.follows .mixedOrders = true := by kernel_rfl
theorem pl55 : places Tryd.prog 55 = some [(0, 1)] := by kernel_rfl
theorem sc3 : sc Tryd.prog 3 = true := by kernel_rfl
theorem sc53 : sc Tryd.prog 53 = true := by kernel_rfl
theorem slA53 : slA Tryd.prog 53 = some (65, 9) := by kernel_rfl
theorem zc24 : zc Tryd.prog 24 = some [.int .i64 0, .int .i64 0, .int .i64 0, .int .i64 0, .int .i64 0] := by kernel_rfl
theorem zc55 : zc Tryd.prog 55 = some [.slice none 0 0] := by kernel_rfl
theorem zc65 : zc Tryd.prog 65 = some [.int .i64 0, .int .i64 0, .int .i64 0, .int .i64 0, .int .i64 0, .int .i64 0, .int .i64 0, .int .i64 0, .int .i64 0] := by kernel_rfl
end FactsSubK
open FactsSubK

theorem nine1 {x : List Int} (h : x.length = 9) : Nine [x] := by intro y hy; simp at hy; subst hy; exact h
end Go.Proofs.YtlfillhffpiffaaDoor

namespace Go.Proofs.YtlfillhffpiffaaDoor
set_option linter.unusedSimpArgs false
set_option linter.unusedVariables false
set_option maxRecDepth 8000
open Go Go.Fx Go.Proofs
namespace FactsSubL

end FactsSubL
open FactsSubL

theorem nine_app {L M : List (List Int)} (h : Nine L) (h' : Nine M) : Nine (L ++ M) := fun x hx => (List.mem_append.1 hx).elim (h x) (h' x)

end Go.Proofs.YtlfillhffpiffaaDoor

namespace Go.Proofs.YtlfillhffpiffaaDoor
set_option linter.unusedSimpArgs false
set_option linter.unusedVariables false
set_option maxRecDepth 8000
open Go Go.Fx Go.Proofs
namespace FactsSubM
theorem ag55 : ag Tryd.prog 55 = some 1 := by kernel_rfl
theorem pl55 : places Tryd.prog 55 = some [(0, 1)] := by kernel_rfl
theorem zc55 : zc Tryd.prog 55 = some [.slice none 0 0] := by kernel_rfl
end FactsSubM
open FactsSubM

end Go.Proofs.YtlfillhffpiffaaDoor

namespace Go.Proofs.YtlfillhffpiffaaDoor
set_option linter.unusedSimpArgs false
set_option linter.unusedVariables false
set_option maxRecDepth 8000
open Go Go.Fx Go.Proofs
namespace FactsSubN
theorem ag24 : ag Tryd.prog 24 = some 5 := by kernel_rfl
theorem ag55 : ag Tryd.prog 55 = some 1 := by kernel_rfl
theorem eqt24 : eqT Tryd.prog 24 = some [.int .i64, .int .i64, .int .i64, .int .i64, .int .i64] := by kernel_rfl
theorem mixed : Tryd.prog.follows .mixedOrders = true := by kernel_rfl
theorem sc3 : sc Tryd.prog 3 = true := by kernel_rfl
end FactsSubN
open FactsSubN

def pl (b : Bd) : Int × Bool × List (List Int) × List Int := (b.var, b.isRow, b.nodes, b.row)
end Go.Proofs.YtlfillhffpiffaaDoor

namespace Go.Proofs.YtlfillhffpiffaaDoor
set_option linter.unusedSimpArgs false
set_option linter.unusedVariables false
set_option maxRecDepth 8000
open Go Go.Fx Go.Proofs
namespace FactsSchI
theorem es50 : esz Tryd.prog 50 = some 1 := by kernel_rfl
theorem isl50 : isSl Tryd.prog 50 = true := by kernel_rfl
theorem mixed : Tryd.prog.follows .mixedOrders = true := by kernel_rfl
theorem sc3 : sc Tryd.prog 3 = true := by kernel_rfl
end FactsSchI
open FactsSchI

end Go.Proofs.YtlfillhffpiffaaDoor

namespace Go.Proofs.YtlfillhffpiffaaDoor
set_option linter.unusedSimpArgs false
set_option linter.unusedVariables false
set_option maxRecDepth 8000
open Go Go.Fx Go.Proofs
namespace FactsSchL

end FactsSchL
open FactsSchL

structure Td where
  A : Option Addr
  cap : Nat
  nodes : List (List Int)
abbrev encT (t : Td) : List Value := [.slice t.A t.nodes.length t.cap]
structure Td.Ok (H : Heap) (t : Td) : Prop where
  sl : SlT H Is 9 (.slice t.A t.nodes.length t.cap) t.nodes
  nine : Nine t.nodes
  fits : t.nodes.length * 72 ≤ 140737488351232
structure Tds (H : Heap) (v : Value) (L : List Td) : Prop where
  sl : SlT H encT 1 v L
  ok : ∀ t ∈ L, t.Ok H
  fits : L.length ≤ 9223372036854775807
abbrev Five (L : List (List Int)) : Prop := ∀ x ∈ L, x.length = 5
end Go.Proofs.YtlfillhffpiffaaDoor

namespace Go.Proofs.YtlfillhffpiffaaDoor
set_option linter.unusedSimpArgs false
set_option linter.unusedVariables false
set_option maxRecDepth 8000
open Go Go.Fx Go.Proofs
namespace FactsSubO

end FactsSubO
open FactsSubO

theorem numE_ok (n : Int) (H : Heap) : Ret Tryd.prog 25 [I n] H (fun v H' => v = I n ∧ H' = H) := by
  refine Ret.of_at (N := 4) Tryd.call25 Tryd.func25 rfl rfl rfl ?_
  refine At.region rfl rfl ?_
  refine Reg.pur rfl rfl rfl rfl (Pur.asg rfl) ?_
  refine Reg.nil ?_
  refine At.region rfl rfl ?_
  refine Reg.pur rfl rfl rfl rfl (Pur.mv rfl) ?_
  refine Reg.pur rfl rfl rfl rfl (Pur.asg rfl) ?_
  refine Reg.nil ?_
  refine At.ret rfl Tryd.func25 rfl ?_
  exact ⟨rfl, rfl⟩
end Go.Proofs.YtlfillhffpiffaaDoor

namespace Go.Proofs.YtlfillhffpiffaaDoor
set_option linter.unusedSimpArgs false
set_option linter.unusedVariables false
set_option maxRecDepth 8000
open Go Go.Fx Go.Proofs
namespace FactsSubP

end FactsSubP
open FactsSubP

theorem nine_lit {L : List (List Int)} (h : (L.all fun x => x.length == 9) = true) : Nine L := by
  intro x hx
  have := List.all_eq_true.1 h x hx
  simpa using this
end Go.Proofs.YtlfillhffpiffaaDoor

namespace Go.Proofs.YtlfillhffpiffaaDoor
set_option linter.unusedSimpArgs false
set_option linter.unusedVariables false
set_option maxRecDepth 8000
set_option maxHeartbeats 2000000
open Go Go.Fx Go.Proofs
namespace FactsSchR

end FactsSchR
open FactsSchR

theorem sl_own {α : Type} {enc : α → List Value} {n b : Nat} {L : List α} {H : Heap} (hL : Wide enc n L) (hn : 0 < n) (h : Own H b (L.flatMap enc)) (hl : L.length ≤ 1000) : SlT H enc n (.slice (some ⟨b, 0, none⟩) L.length L.length) L :=
  sl_of hL hn h.blk (by rw [List.drop_zero, List.take_of_length_le (by rw [flat_len hL]; exact Nat.le_refl _)]) (Nat.le_refl _) (by omega)
end Go.Proofs.YtlfillhffpiffaaDoor

namespace Go.Proofs.YtlfillhffpiffaaDoor
set_option linter.unusedSimpArgs false
set_option linter.unusedVariables false
set_option maxRecDepth 8000
open Go Go.Fx Go.Proofs
namespace FactsSubQ

end FactsSubQ
open FactsSubQ

theorem type_of_fits {H : Heap} {v : Value} (h : fitc H (.sl 72 (List.replicate 9 (.int .i64))) v) : ∃ (A : Option Addr) (cap : Nat) (L : List (List Int)), v = .slice A L.length cap ∧ Nine L ∧ SlT H Is 9 (.slice A L.length cap) L ∧ L.length * 72 ≤ 140737488351232 := by
  obtain ⟨L, hL, hS, hb⟩ := SlT.of_fits (p := fun x : List Int => x.length = 9) (enc := Is) h (fun cs h => by obtain ⟨xs, rfl, hl, _⟩ := fit_ints h; exact ⟨xs, hl, rfl⟩)
  have hS' := hS
  obtain ⟨A, cap, rfl, _⟩ := hS'
  exact ⟨A, cap, L, rfl, hL, hS, by rw [show reachBytes = 140737488351232 from rfl] at hb; omega⟩
theorem bd_of_fits {H : Heap} {cs : List Value} (h : fits H (.int .i64 :: .bool :: .sl 72 (List.replicate 9 (.int .i64)) :: List.replicate 5 (.int .i64)) cs) : ∃ b : Bd, b.Ok H ∧ cs = encB b := by
  simp only [fits] at h
  obtain ⟨v1, r1, rfl, h1, v2, r2, rfl, h2, v3, r3, rfl, h3, h4⟩ := h
  simp only [fitc] at h1 h2
  obtain ⟨n, rfl, _⟩ := h1
  obtain ⟨b, rfl⟩ := h2
  obtain ⟨A, cap, L, rfl, hL, hS, hb⟩ := type_of_fits h3
  obtain ⟨xs, rfl, hl, _⟩ := fit_ints h4
  exact ⟨⟨n, b, A, cap, L, xs⟩, ⟨hS, hL, hl, hb⟩, rfl⟩
theorem binds_of_fits {H : Heap} {v : Value} (h : fitc H (.sl 80 (.int .i64 :: .bool :: .sl 72 (List.replicate 9 (.int .i64)) :: List.replicate 5 (.int .i64))) v) : ∃ (A : Option Addr) (cap : Nat) (Bs : List Bd), v = .slice A Bs.length cap ∧ Bds H (.slice A Bs.length cap) Bs := by
  obtain ⟨L, hL, hS, hb⟩ := SlT.of_fits (p := fun b : Bd => b.Ok H) (enc := encB) h (fun cs h => bd_of_fits h)
  have hS' := hS
  obtain ⟨A, cap, rfl, _⟩ := hS'
  exact ⟨A, cap, L, rfl, ⟨hS, hL, by rw [show reachBytes = 140737488351232 from rfl] at hb; omega⟩⟩

end Go.Proofs.YtlfillhffpiffaaDoor

namespace Go.Proofs.YtlfillhffpiffaaDoor
set_option linter.unusedSimpArgs false
set_option linter.unusedVariables false
set_option maxRecDepth 8000
set_option maxHeartbeats 1000000
open Go Go.Fx Go.Proofs
namespace FactsSchS
theorem ag24 : ag Tryd.prog 24 = some 5 := by kernel_rfl
theorem ag55 : ag Tryd.prog 55 = some 1 := by kernel_rfl
theorem ag65 : ag Tryd.prog 65 = some 9 := by kernel_rfl
theorem apt53 : appT Tryd.prog 53 = some (65, 9, 72) := by kernel_rfl
theorem es53 : esz Tryd.prog 53 = some 9 := by kernel_rfl
theorem fo55_0 : foff Tryd.prog 55 0 = some 0 := by kernel_rfl
theorem fo65_0 : foff Tryd.prog 65 0 = some 0 := by kernel_rfl
theorem fo65_2 : foff Tryd.prog 65 2 = some 2 := by kernel_rfl
theorem fo65_3 : foff Tryd.prog 65 3 = some 3 := by kernel_rfl
theorem isl53 : isSl Tryd.prog 53 = true := by kernel_rfl
theorem pl55 : places Tryd.prog 55 = some [(0, 1)] := by kernel_rfl
theorem pl65 : places Tryd.prog 65 = some [(0, 1), (1, 1), (2, 1), (3, 1), (4, 5)] := by kernel_rfl
theorem sc3 : sc Tryd.prog 3 = true := by kernel_rfl
theorem sc53 : sc Tryd.prog 53 = true := by kernel_rfl
theorem slA53 : slA Tryd.prog 53 = some (65, 9) := by kernel_rfl
theorem zc55 : zc Tryd.prog 55 = some [.slice none 0 0] := by kernel_rfl
theorem zc65 : zc Tryd.prog 65 = some [.int .i64 0, .int .i64 0, .int .i64 0, .int .i64 0, .int .i64 0, .int .i64 0, .int .i64 0, .int .i64 0, .int .i64 0] := by kernel_rfl
end FactsSchS
open FactsSchS

end Go.Proofs.YtlfillhffpiffaaDoor

namespace Go.Proofs.YtlfillhffpiffaaDoor
set_option linter.unusedSimpArgs false
set_option linter.unusedVariables false
set_option maxRecDepth 8000
open Go Go.Fx Go.Proofs

inductive Tm where
  | bas (k : Bool)
  | var (v : Int)
  | fn (a : Tm) (r : List Int) (b : Tm)
deriving DecidableEq
def Tm.sz : Tm → Nat
  | .bas _ => 1
  | .var _ => 1
  | .fn a _ b => a.sz + b.sz + 1
theorem Tm.sz_pos : ∀ t : Tm, 1 ≤ t.sz
  | .bas _ => Nat.le_refl 1
  | .var _ => Nat.le_refl 1
  | .fn a _ b => by simp only [Tm.sz]; omega
def Tm.ok : Tm → Prop
  | .bas _ => True
  | .var v => 0 ≤ v ∧ v < 4096
  | .fn a r b => a.ok ∧ r.length = 5 ∧ rowM r = true ∧ b.ok
abbrev bNode (k : Bool) : List Int := [if k then 1 else 0, 0, 0, 0, 0, 0, 0, 0, 0]
abbrev vNode (v : Int) : List Int := [2, v, 0, 0, 0, 0, 0, 0, 0]
abbrev fNode (a b : Int) (r : List Int) : List Int := [3, 0, a, b] ++ r
def Tm.enc (k : Int) : Tm → List (List Int)
  | .bas b => [bNode b]
  | .var v => [vNode v]
  | .fn a r b => a.enc k ++ b.enc (k + a.sz) ++ [fNode (k + a.sz - 1) (k + a.sz + b.sz - 1) r]
theorem Tm.enc_len : ∀ (t : Tm) (k : Int), (t.enc k).length = t.sz
  | .bas _, _ => rfl
  | .var _, _ => rfl
  | .fn a r b, k => by simp only [Tm.enc, List.length_append, Tm.enc_len a, Tm.enc_len b, Tm.sz, List.length_singleton]
theorem Tm.enc_nine : ∀ (t : Tm) (k : Int), t.ok → Nine (t.enc k)
  | .bas _, _, _ => nine1 rfl
  | .var _, _, _ => nine1 rfl
  | .fn a r b, k, h => nine_app (nine_app (a.enc_nine k h.1) (b.enc_nine _ h.2.2.2)) (nine1 (by simp [h.2.1]))
theorem mov_fn {j a b : Int} {r : List Int} (h1 : -9223372036854775808 ≤ a + j ∧ a + j ≤ 9223372036854775807) (h2 : -9223372036854775808 ≤ b + j ∧ b + j ≤ 9223372036854775807) : movS j (fNode a b r) = fNode (a + j) (b + j) r := by
  unfold movS
  rw [if_pos (by rfl)]
  show [3, 0, IntKind.i64.wrap (a + j), IntKind.i64.wrap (b + j)] ++ r = _
  rw [wrap_in h1, wrap_in h2]
theorem Tm.enc_mov : ∀ (t : Tm) (k j : Int), -1000000 ≤ k → -1000000 ≤ k + j → k ≤ 1000000 → k + j ≤ 1000000 → k + t.sz ≤ 1000000 → k + j + t.sz ≤ 1000000 → (t.enc k).map (movS j) = t.enc (k + j)
  | .bas b, _, _, _, _, _, _, _, _ => by cases b <;> rfl
  | .var _, _, _, _, _, _, _, _, _ => rfl
  | .fn a r b, k, j, h1, h2, h3, h4, h5, h6 => by
    have ha := a.sz_pos
    have hb := b.sz_pos
    simp only [Tm.sz, Int.natCast_add] at h5 h6
    simp only [Tm.enc, List.map_append, List.map_cons, List.map_nil]
    rw [Tm.enc_mov a k j h1 h2 h3 h4 (by omega) (by omega), Tm.enc_mov b (k + a.sz) j (by omega) (by omega) (by omega) (by omega) (by omega) (by omega), mov_fn (by omega) (by omega)]
    rw [show k + (a.sz : Int) + j = k + j + a.sz by omega, show k + (a.sz : Int) - 1 + j = k + j + a.sz - 1 by omega, show k + (a.sz : Int) + b.sz - 1 + j = k + j + a.sz + b.sz - 1 by omega]

theorem nod_fn {x : List Int} (h9 : x.length = 9) (hn : nodM x = true) (hk : x.getD 0 0 = 3) : ∃ r, r.length = 5 ∧ rowM r = true ∧ x = fNode (x.getD 2 0) (x.getD 3 0) r := by
  match x, h9 with
  | [k, v, p, q, c0, c1, c2, c3, t], _ =>
    unfold nodM at hn
    rw [if_pos hk] at hn
    simp only [Bool.and_eq_true, decide_eq_true_eq] at hn
    obtain ⟨h1, h2⟩ := hn
    change k = 3 at hk
    change v = 0 at h2
    subst hk h2
    exact ⟨[c0, c1, c2, c3, t], rfl, h1, rfl⟩
theorem nod_else {x : List Int} (hn : nodM x = true) (hk : x.getD 0 0 ≠ 3) : (∃ b, x = bNode b) ∨ ∃ v, 0 ≤ v ∧ v < 4096 ∧ x = vNode v := by
  unfold nodM at hn
  rw [if_neg hk] at hn
  split at hn
  · simp only [Bool.and_eq_true, decide_eq_true_eq] at hn
    exact .inr ⟨_, hn.1.1, hn.1.2, hn.2⟩
  · split at hn
    · rename_i h
      rw [decide_eq_true_eq] at hn
      rcases h with h | h
      · rw [h] at hn; exact .inl ⟨false, hn⟩
      · rw [h] at hn; exact .inl ⟨true, hn⟩
    · cases hn
theorem el_nat {L : List (List Int)} {n : Nat} (h : n < L.length) : el L (n : Int) = L[n] := by
  simp [el, List.getD_eq_getElem?_getD, List.getElem?_eq_getElem h]
abbrev seg (L : List (List Int)) (p z : Int) : List (List Int) := (L.drop p.toNat).take (z + 1 - p).toNat
theorem seg_app {L : List (List Int)} {p q z : Int} (h0 : 0 ≤ p) (h1 : p ≤ q) (h2 : q ≤ z + 1) : seg L p (q - 1) ++ seg L q z = seg L p z := by
  have h : (z + 1 - p).toNat = (q - 1 + 1 - p).toNat + (z + 1 - q).toNat := by omega
  unfold seg
  rw [h, List.take_add, List.drop_drop, show p.toNat + (q - 1 + 1 - p).toNat = q.toNat by omega]
theorem seg_one {L : List (List Int)} {z : Int} (h0 : 0 ≤ z) (h1 : z < L.length) : seg L z z = [el L z] := by
  obtain ⟨n, rfl⟩ := Int.eq_ofNat_of_zero_le h0
  unfold seg
  rw [show ((n : Int) + 1 - n).toNat = 1 by omega, el_nat (by omega), Int.toNat_natCast, List.drop_eq_getElem_cons (by omega)]
  rfl
theorem dec_at {L : List (List Int)} (h9 : Nine L) (hn : L.all nodM = true) : ∀ (f : Nat) (z : Int), 0 ≤ z → z < L.length → 0 ≤ bgn L f z → ∃ t : Tm, t.ok ∧ seg L (bgn L f z) z = t.enc (bgn L f z) ∧ (t.sz : Int) = z + 1 - bgn L f z
  | 0, z, _, _, h => by simp only [bgn] at h; omega
  | f + 1, z, h0, h1, h => by
    have hx : el L z ∈ L := by
      obtain ⟨n, rfl⟩ := Int.eq_ofNat_of_zero_le h0
      rw [el_nat (by omega)]; exact List.getElem_mem _
    have hx9 := h9 _ hx
    have hxn := List.all_eq_true.1 hn _ hx
    by_cases hk : (el L z).getD 0 0 = 3
    · obtain ⟨hz, hB, hb, hA, hbA⟩ := bgn_fun h hk
      have hle := bgn_le L f ((el L z).getD 3 0) (by omega)
      have hle2 := bgn_le L f ((el L z).getD 2 0) (by omega)
      have hq : bgn L (f + 1) z = bgn L f ((el L z).getD 2 0) := by
        rw [bgn_succ, if_neg (by omega), if_neg (by omega), if_neg (by omega)]
      obtain ⟨a, ha, hsa, hza⟩ := dec_at h9 hn f ((el L z).getD 2 0) (by omega) (by omega) hbA
      obtain ⟨b, hb', hsb, hzb⟩ := dec_at h9 hn f ((el L z).getD 3 0) (by omega) (by omega) (by omega)
      obtain ⟨r, hr5, hrm, hx⟩ := nod_fn hx9 hxn hk
      have e0 := seg_one h0 h1
      rw [hx] at e0
      rw [hq]
      clear h hq hxn hx9 hx hk hn h9
      generalize (el L z).getD 2 0 = A at *
      generalize (el L z).getD 3 0 = B at *
      generalize bgn L f A = p at *
      generalize bgn L f B = q at *
      subst hA hB
      refine ⟨.fn a r b, ⟨ha, hr5, hrm, hb'⟩, ?_, by simp only [Tm.sz]; omega⟩
      rw [← seg_app (L := L) (p := p) (q := z) (z := z) (by omega) (by omega) (by omega), ← seg_app (L := L) (p := p) (q := q) (z := z - 1) (by omega) (by omega) (by omega), hsa, hsb, e0]
      simp only [Tm.enc]
      rw [show p + (a.sz : Int) = q by omega, show q + (b.sz : Int) - 1 = z - 1 by omega]
    · have hq : bgn L (f + 1) z = z := by rw [bgn_succ, if_pos hk]
      rw [hq, seg_one h0 h1]
      rcases nod_else hxn hk with ⟨b, hb⟩ | ⟨v, hv1, hv2, hv⟩
      · exact ⟨.bas b, trivial, by rw [hb]; rfl, by simp only [Tm.sz]; omega⟩
      · exact ⟨.var v, ⟨hv1, hv2⟩, by rw [hv]; rfl, by simp only [Tm.sz]; omega⟩

theorem el_mid {pre post : List (List Int)} {x : List Int} : el (pre ++ x :: post) (pre.length : Int) = x := by
  simp [el, List.getD_eq_getElem?_getD]
theorem enc_bgn : ∀ (t : Tm) (f : Nat) (pre post : List (List Int)), t.sz ≤ f → bgn (pre ++ t.enc pre.length ++ post) f ((pre.length : Int) + t.sz - 1) = pre.length
  | t, 0, _, _, h => by have := t.sz_pos; omega
  | .bas b, f + 1, pre, post, h => by
    rw [bgn_succ, if_pos]
    · simp only [Tm.sz]; omega
    · rw [show (pre.length : Int) + (Tm.bas b).sz - 1 = pre.length by simp only [Tm.sz]; omega]
      simp only [Tm.enc, List.append_assoc, List.singleton_append]
      rw [el_mid]
      cases b <;> decide
  | .var v, f + 1, pre, post, h => by
    rw [bgn_succ, if_pos]
    · simp only [Tm.sz]; omega
    · rw [show (pre.length : Int) + (Tm.var v).sz - 1 = pre.length by simp only [Tm.sz]; omega]
      simp only [Tm.enc, List.append_assoc, List.singleton_append]
      rw [el_mid]
      show (2 : Int) ≠ 3
      decide
  | .fn a r b, f + 1, pre, post, h => by
    have ha := a.sz_pos
    have hb := b.sz_pos
    simp only [Tm.sz] at h ⊢
    have hp : ((pre ++ a.enc pre.length).length : Int) = (pre.length : Int) + a.sz := by rw [List.length_append, Tm.enc_len]; omega
    have hp2 : ((pre ++ a.enc pre.length ++ b.enc ((pre.length : Int) + a.sz)).length : Int) = (pre.length : Int) + a.sz + b.sz := by rw [List.length_append, List.length_append, Tm.enc_len, Tm.enc_len]; omega
    have hL1 : pre ++ (Tm.fn a r b).enc pre.length ++ post = (pre ++ a.enc pre.length ++ b.enc ((pre.length : Int) + a.sz)) ++ fNode ((pre.length : Int) + a.sz - 1) ((pre.length : Int) + a.sz + b.sz - 1) r :: post := by
      simp only [Tm.enc, List.append_assoc, List.singleton_append]
    have hL2 : pre ++ (Tm.fn a r b).enc pre.length ++ post = (pre ++ a.enc pre.length) ++ b.enc ((pre ++ a.enc pre.length).length : Int) ++ (fNode ((pre.length : Int) + a.sz - 1) ((pre.length : Int) + a.sz + b.sz - 1) r :: post) := by
      rw [hp]; simp only [Tm.enc, List.append_assoc, List.singleton_append]
    have hL3 : pre ++ (Tm.fn a r b).enc pre.length ++ post = pre ++ a.enc pre.length ++ (b.enc ((pre.length : Int) + a.sz) ++ fNode ((pre.length : Int) + a.sz - 1) ((pre.length : Int) + a.sz + b.sz - 1) r :: post) := by
      simp only [Tm.enc, List.append_assoc, List.singleton_append]
    have hel : el (pre ++ (Tm.fn a r b).enc pre.length ++ post) ((pre.length : Int) + (a.sz + b.sz + 1 : Nat) - 1) = fNode ((pre.length : Int) + a.sz - 1) ((pre.length : Int) + a.sz + b.sz - 1) r := by
      rw [hL1, show (pre.length : Int) + (a.sz + b.sz + 1 : Nat) - 1 = ((pre ++ a.enc pre.length ++ b.enc ((pre.length : Int) + a.sz)).length : Int) by rw [hp2]; omega, el_mid]
    have hb1 : bgn (pre ++ (Tm.fn a r b).enc pre.length ++ post) f ((pre.length : Int) + a.sz + b.sz - 1) = (pre.length : Int) + a.sz := by
      rw [hL2, ← hp, enc_bgn b f _ _ (by omega)]
    have hb2 : bgn (pre ++ (Tm.fn a r b).enc pre.length ++ post) f ((pre.length : Int) + a.sz - 1) = pre.length := by
      rw [hL3, enc_bgn a f _ _ (by omega)]
    have e2 : (fNode ((pre.length : Int) + a.sz - 1) ((pre.length : Int) + a.sz + b.sz - 1) r).getD 2 0 = (pre.length : Int) + a.sz - 1 := rfl
    have e3 : (fNode ((pre.length : Int) + a.sz - 1) ((pre.length : Int) + a.sz + b.sz - 1) r).getD 3 0 = (pre.length : Int) + a.sz + b.sz - 1 := rfl
    have e0 : (fNode ((pre.length : Int) + a.sz - 1) ((pre.length : Int) + a.sz + b.sz - 1) r).getD 0 0 = 3 := rfl
    rw [bgn_succ, hel, e0, e2, e3, hb1, hb2, if_neg (by decide), if_neg (by omega), if_neg (by omega)]
theorem enc_nod : ∀ (t : Tm) (k : Int), t.ok → ∀ x ∈ t.enc k, nodM x = true
  | .bas b, _, _, x, h => by rw [List.mem_singleton.1 h]; cases b <;> decide
  | .var v, _, hk, x, h => by
    rw [List.mem_singleton.1 h]
    unfold nodM
    rw [if_neg (by show ¬ (2 : Int) = 3; decide), if_pos (by rfl)]
    simp only [Bool.and_eq_true, decide_eq_true_eq]
    exact ⟨hk, rfl⟩
  | .fn a r b, k, hk, x, h => by
    simp only [Tm.enc, List.mem_append, List.mem_singleton] at h
    rcases h with (h | h) | h
    · exact enc_nod a _ hk.1 x h
    · exact enc_nod b _ hk.2.2.2 x h
    · subst h
      unfold nodM
      rw [if_pos (by rfl)]
      simp only [Bool.and_eq_true, decide_eq_true_eq]
      exact ⟨hk.2.2.1, rfl⟩
theorem enc_typ {t : Tm} (h : t.ok) (hs : t.sz ≤ 256) : typM (t.enc 0) = true := by
  have := t.sz_pos
  unfold typM
  rw [Tm.enc_len]
  simp only [Bool.and_eq_true, decide_eq_true_eq, List.all_eq_true]
  have hb := enc_bgn t t.sz [] [] (Nat.le_refl _)
  simp only [List.nil_append, List.append_nil, List.length_nil, Int.natCast_zero, Int.zero_add] at hb
  exact ⟨⟨⟨by omega, hs⟩, enc_nod t 0 h⟩, hb⟩
theorem typ_dec {L : List (List Int)} (h9 : Nine L) (h : typM L = true) : ∃ t : Tm, t.ok ∧ L = t.enc 0 ∧ t.sz ≤ 256 := by
  obtain ⟨⟨h1, h2⟩, hb⟩ := typM_bgn h
  unfold typM at h
  simp only [Bool.and_eq_true] at h
  obtain ⟨t, ht, hs, hz⟩ := dec_at h9 h.1.2 L.length ((L.length : Int) - 1) (by omega) (by omega) (by omega)
  rw [hb] at hs hz
  refine ⟨t, ht, ?_, by omega⟩
  rw [← hs]
  unfold seg
  rw [List.take_of_length_le (by simp)]
  rfl
theorem enc_parts (a : Tm) (r : List Int) (b : Tm) : el ((Tm.fn a r b).enc 0) (((Tm.fn a r b).enc 0).length - 1 : Int) = fNode ((a.sz : Int) - 1) ((a.sz : Int) + b.sz - 1) r ∧
    bgn ((Tm.fn a r b).enc 0) ((Tm.fn a r b).enc 0).length ((a.sz : Int) - 1) = 0 ∧ bgn ((Tm.fn a r b).enc 0) ((Tm.fn a r b).enc 0).length ((a.sz : Int) + b.sz - 1) = a.sz ∧
    seg ((Tm.fn a r b).enc 0) 0 ((a.sz : Int) - 1) = a.enc 0 ∧ seg ((Tm.fn a r b).enc 0) a.sz ((a.sz : Int) + b.sz - 1) = b.enc a.sz := by
  have ha := a.sz_pos
  have hb := b.sz_pos
  have hl : ((Tm.fn a r b).enc 0).length = a.sz + b.sz + 1 := Tm.enc_len _ _
  have hL : (Tm.fn a r b).enc 0 = a.enc 0 ++ b.enc a.sz ++ [fNode ((a.sz : Int) - 1) ((a.sz : Int) + b.sz - 1) r] := by simp only [Tm.enc, Int.zero_add]
  have l1 : (a.enc 0).length = a.sz := Tm.enc_len _ _
  have l2 : (b.enc a.sz).length = b.sz := Tm.enc_len _ _
  refine ⟨?_, ?_, ?_, ?_, ?_⟩
  · rw [hl, hL, show ((a.sz + b.sz + 1 : Nat) : Int) - 1 = ((a.enc 0 ++ b.enc a.sz).length : Int) by rw [List.length_append, l1, l2]; omega, el_mid]
  · have := enc_bgn a (a.sz + b.sz + 1) [] (b.enc a.sz ++ [fNode ((a.sz : Int) - 1) ((a.sz : Int) + b.sz - 1) r]) (by omega)
    rw [hl, hL, List.append_assoc]
    simpa using this
  · have := enc_bgn b (a.sz + b.sz + 1) (a.enc 0) [fNode ((a.sz : Int) - 1) ((a.sz : Int) + b.sz - 1) r] (by omega)
    rw [l1] at this
    rw [hl, hL]
    exact this
  · unfold seg
    rw [hL, List.append_assoc, show ((a.sz : Int) - 1 + 1 - 0).toNat = (a.enc 0).length by rw [l1]; omega]
    show List.take _ (_ ++ _) = _
    rw [List.take_left]
  · unfold seg
    rw [hL, List.append_assoc, show ((a.sz : Int)).toNat = (a.enc 0).length by rw [l1]; omega, List.drop_left, show ((a.sz : Int) + b.sz - 1 + 1 - a.sz).toNat = (b.enc a.sz).length by rw [l2]; omega, List.take_left]
end Go.Proofs.YtlfillhffpiffaaDoor

namespace Go.Fx
open Go
set_option linter.unusedSimpArgs false
set_option linter.unusedVariables false
theorem Pur.cutB {P : Program} {dst : Option Tmp} {ty : TypeId} {pos : String} {aft : Array Edge} {gd : Option (Nat × Bool)} {e : Env} {t : TypeId} {x y z : Operand} {b o : Nat} {n c s : Nat} {k k' : IntKind} {l h : Int} (hs : esz P t = some s) (hx : ev e x = some (.slice (some ⟨b, o, none⟩) n c)) (hy : ev e y = some (.int k l)) (hz : ev e z = some (.int k' h)) (h0 : 0 ≤ l) (h1 : l ≤ h) (h2 : h ≤ c) (h3 : l < c) :
    Pur P ⟨dst, .slice t x (some y) (some z) none, ty, pos, aft, gd⟩ e (.slice (some ⟨b, o + l.toNat * s, none⟩) (h.toNat - l.toNat) (c - l.toNat)) := by
  intro a w hA
  have e1 := hA.ev hx
  have e2 := hA.ev hy
  have e3 := hA.ev hz
  unfold esz at hs
  split at hs
  case h_2 => cases hs
  rename_i el hu
  simp only [Option.map_eq_some_iff] at hs
  obtain ⟨i, hi, rfl⟩ := hs
  have g1 : 0 ≤ h ∧ h ≤ (c : Int) := by omega
  have g2 : 0 ≤ l ∧ l ≤ ((h.toNat : Nat) : Int) := by omega
  have hne : c ≠ l.toNat := by omega
  simp only [execOp, e1, e2, e3, Option.map_some, Option.map_none, Instr.sliceAt, Sem.run_bind, run_underlying hu, Result.andThen_ok, Instr.slice, Instr.sliceBounds, Sem.run_pure, Instr.sliceBound, asIntOf, run_sizeOf' hi, if_pos g1, if_pos g2]
  simp [g1, g2, Addr.add, hne]
end Go.Fx
namespace Go.Proofs.YtlfillhffpiffaaDoor
set_option linter.unusedSimpArgs false
set_option linter.unusedVariables false
set_option maxRecDepth 8000
open Go Go.Fx Go.Proofs
namespace FactsUniC
theorem ag55 : ag Tryd.prog 55 = some 1 := by kernel_rfl
theorem es53 : esz Tryd.prog 53 = some 9 := by kernel_rfl
theorem fo55_0 : foff Tryd.prog 55 0 = some 0 := by kernel_rfl
theorem fo65_2 : foff Tryd.prog 65 2 = some 2 := by kernel_rfl
theorem fo65_3 : foff Tryd.prog 65 3 = some 3 := by kernel_rfl
theorem isl53 : isSl Tryd.prog 53 = true := by kernel_rfl
theorem mixed : Tryd.prog.follows .mixedOrders = true := by kernel_rfl
theorem pl55 : places Tryd.prog 55 = some [(0, 1)] := by kernel_rfl
theorem sc3 : sc Tryd.prog 3 = true := by kernel_rfl
theorem sc53 : sc Tryd.prog 53 = true := by kernel_rfl
theorem zc55 : zc Tryd.prog 55 = some [.slice none 0 0] := by kernel_rfl
end FactsUniC
open FactsUniC

def TyF (B : Nat) (H : Heap) (v : Value) (M : List (List Int)) : Prop := ∃ A cap, v = Ty A M.length cap ∧ SlT H Is 9 (.slice A M.length cap) M ∧ (M.length = 0 ∨ (B : Int) ≤ ob A)
theorem TyF.ext {B : Nat} {H H' : Heap} {v : Value} {M : List (List Int)} (h : TyF B H v M) (he : Ext H H') : TyF B H' v M := by
  obtain ⟨A, cap, h1, h2, h3⟩ := h
  exact ⟨A, cap, h1, h2.ext he, h3⟩
theorem TyF.via {B : Nat} {H H' : Heap} {S : Nat → Prop} {v : Value} {M : List (List Int)} (h : TyF B H v M) (he : But S H H') (hs : ∀ g, B ≤ g → ¬ S g) : TyF B H' v M := by
  obtain ⟨A, cap, h1, h2, h3⟩ := h
  exact ⟨A, cap, h1, h2.via he (fun h0 g hg => hs g (by omega)), h3⟩
theorem TyF.upw {B b : Nat} {H H' : Heap} {c : List Value} {v : Value} {M : List (List Int)} (h : TyF B H v M) (u : Upd H H' b c) (hb : b < B) : TyF B H' v M :=
  h.via u.but (fun g hg e => by omega)
theorem TyF.mono {B B' : Nat} {H : Heap} {v : Value} {M : List (List Int)} (h : TyF B H v M) (hb : B' ≤ B) : TyF B' H v M := by
  obtain ⟨A, cap, h1, h2, h3⟩ := h
  exact ⟨A, cap, h1, h2, by omega⟩
theorem TyF.lt {B : Nat} {H : Heap} {v : Value} {M : List (List Int)} (h : TyF B H v M) : True := trivial
theorem TyF.one {B : Nat} {H : Heap} {v : Value} {M : List (List Int)} (h : TyF B H v M) : ∃ A n c, v = .agg #[.slice A n c] := by
  obtain ⟨A, cap, h1, _⟩ := h
  exact ⟨A, _, cap, h1⟩
theorem sl_seg {H : Heap} {b o cap lo hi : Nat} {L : List (List Int)} (hS : SlT H Is 9 (.slice (some ⟨b, o, none⟩) L.length cap) L) (h1 : lo ≤ hi) (h2 : hi ≤ L.length) (h3 : lo < L.length) :
    SlT H Is 9 (.slice (some ⟨b, o + lo * 9, none⟩) (hi - lo) (cap - lo)) ((L.drop lo).take (hi - lo)) ∧ hi ≤ cap := by
  obtain ⟨A, cap', he, k1, k2, _, k4⟩ := hS
  cases he
  obtain ⟨b', o', c, hA, hB, hc⟩ := k4.resolve_left (by omega)
  cases hA
  have hl : ((L.drop lo).take (hi - lo)).length = hi - lo := by rw [List.length_take, List.length_drop]; omega
  refine ⟨⟨_, cap - lo, by rw [hl], by rw [hl]; omega, by omega, (fun h => by cases h), .inr ⟨b, o + lo * 9, c, rfl, hB, fun i hi' => ?_⟩⟩, by omega⟩
  rw [hl] at hi'
  have := hc (lo + i) (by omega)
  rw [show o + lo * 9 + i * 9 = o + (lo + i) * 9 by omega]
  refine ⟨this.1, ?_⟩
  rw [this.2]
  congr 1
  rw [List.getElem_take, List.getElem_drop]
theorem nine_seg {L : List (List Int)} (h : Nine L) (p q : Nat) : Nine ((L.drop p).take q) := fun x hx => h x (List.mem_of_mem_drop (List.mem_of_mem_take hx))
theorem part_ok {L : List (List Int)} (hL : Nine L) {A : Option Addr} {cap yb yo : Nat} {cy : List Value} (hcy : cy[yo]? = some (.slice A L.length cap)) {H : Heap} (hS : SlT H Is 9 (.slice A L.length cap) L) (hY : Blk H yb cy) (h256 : L.length ≤ 256) {z p : Int} (h0 : 0 ≤ z) (h1 : z < L.length) (hp : bgn L L.length z = p) (hp0 : 0 ≤ p) :
    Ret Tryd.prog 103 [ptr yb yo, I z] H (fun v H' => TyF H.size H' v ((seg L p z).map (movS (-p))) ∧ Ext H H') := by
  obtain ⟨b, o, c, rfl, _⟩ := el_cells hL hS h0 h1
  have hle := bgn_le L L.length z h0
  rw [hp] at hle
  have hsg := sl_seg (lo := p.toNat) (hi := (z + 1).toNat) hS (by omega) (by omega) (by omega)
  have hsl : ((L.drop p.toNat).take ((z + 1).toNat - p.toNat)).length = (z + 1).toNat - p.toNat := by rw [List.length_take, List.length_drop]; omega
  have hsd : seg L p z = (L.drop p.toNat).take ((z + 1).toNat - p.toNat) := by unfold seg; congr 1; omega
  have h9 := nine_seg hL p.toNat ((z + 1).toNat - p.toNat)
  rw [hsd]
  generalize (L.drop p.toNat).take ((z + 1).toNat - p.toNat) = M at hsg hsl h9
  rw [← hsl] at hsg
  refine Ret.of_at (N := 24) Tryd.call103 Tryd.func103 rfl rfl rfl ?_
  have hE := Ext.refl H
  have z_hE := hE.lt
  have z_hY := hY.lt
  refine At.region rfl rfl ?_
  refine Reg.op rfl rfl rfl rfl (Does.alloc zc55) ?_
  rintro _ H0_0 ⟨rfl, hn0_0⟩
  have z0_0 := hn0_0.size
  replace hE := hE.ext hn0_0.ext
  replace hY := hY.ext hn0_0.ext
  have o0_0 := hn0_0.own
  refine Reg.nil ?_
  refine At.region rfl rfl ?_
  refine Reg.pur rfl rfl rfl rfl (Pur.mv rfl) ?_
  refine Reg.pur rfl rfl rfl rfl (Pur.nilc rfl) ?_
  refine Reg.pur rfl rfl rfl rfl (Pur.fld _ fo55_0 rfl) ?_
  refine Reg.lod rfl rfl rfl rfl (Lod.ld sc53 rfl hY hcy) ?_
  refine Reg.pur rfl rfl rfl rfl (Pur.mv rfl) ?_
  refine Reg.op rfl rfl rfl rfl (Does.call rfl (begin_ok L hL (hS.ext hE) (by omega) L.length z h0 h1 (by omega))) ?_
  rintro _ H0_0 ⟨rfl, rfl⟩
  refine Reg.pur rfl rfl rfl rfl (Pur.asg rfl) ?_
  refine Reg.nil ?_
  refine At.region rfl rfl ?_
  rw [hp]
  refine Reg.pur rfl rfl rfl rfl (Pur.mv rfl) ?_
  refine Reg.pur rfl rfl rfl rfl (Pur.nilc rfl) ?_
  refine Reg.pur rfl rfl rfl rfl (Pur.fld _ fo55_0 rfl) ?_
  refine Reg.lod rfl rfl rfl rfl (Lod.ld sc53 rfl hY hcy) ?_
  refine Reg.pur rfl rfl rfl rfl (Pur.mv rfl) ?_
  refine Reg.pur rfl rfl rfl rfl (Pur.mv rfl) ?_
  first | refine Reg.pur rfl rfl rfl rfl (Pur.add64 rfl rfl (by omega)) ?_ | refine Reg.pur rfl rfl rfl rfl (Pur.add64 rfl rfl (by assumption)) ?_ | refine Reg.pur rfl rfl rfl rfl (Pur.add rfl rfl) ?_
  refine Reg.pur rfl rfl rfl rfl (Pur.cutB es53 rfl rfl rfl (by omega) (by omega) (by omega) (by omega)) ?_
  rw [← hsl]
  refine Reg.pur rfl rfl rfl rfl (Pur.mv rfl) ?_
  refine Reg.pur rfl rfl rfl rfl (Pur.neg64 rfl (by omega)) ?_
  refine Reg.op rfl rfl rfl rfl (Does.call rfl (moved_ok h9 (hsg.1.ext hE) (by omega) (-p))) ?_
  rintro v2_10 H2_10 ⟨⟨A', cap', rfl, hA'⟩, hS', hE2_10⟩
  have z2_10 := hE2_10.lt
  replace hE := hE.ext hE2_10
  replace hY := hY.ext hE2_10
  replace o0_0 := o0_0.ext hE2_10
  have hA2 : M.length = 0 ∨ (H0_0.size : Int) ≤ ob A' := hA'.imp id (by rintro ⟨g, hg, rfl⟩; exact Int.ofNat_le.2 hg)
  refine Reg.pur rfl rfl rfl rfl (Pur.bld (cs := [_]) pl55 zc55 rfl rfl ⟨rfl, rfl⟩) ?_
  refine Reg.op0 rfl rfl rfl (Does.stn ag55 rfl rfl (by first | rfl | exact ones_Is _) (by first | rfl | (simp [*]; done)) o0_0 (by first | decide | (simp; done) | (simp; omega) | omega)) ?_
  rintro _ H2_12 hu2_12
  have z2_12 := hu2_12.size
  replace hE := hE.upw hu2_12 (by omega)
  replace hY := hY.upw hu2_12 (by omega)
  replace o0_0 := hu2_12.own
  first | rw [over (by first | rfl | (simp; done))] at o0_0 | skip
  refine Reg.nil ?_
  refine At.retC rfl Tryd.func103 ⟨_, _, _, _, rfl, rfl, ⟨_, o0_0.blk, .inr ⟨_, _, ag55, (by first | exact whole rfl | exact whole (by simp [*])), (by first | rfl | simp [*]), rfl⟩⟩, rfl⟩ ?_
  refine ⟨⟨A', cap', by rw [List.length_map]; rfl, ?_, by rw [List.length_map]; omega⟩, hE⟩
  rw [List.length_map]
  exact hS'.upw hu2_12 (by omega)
theorem root_ok {L : List (List Int)} {A : Option Addr} {b o cap yb yo : Nat} {cy : List Value} (hcy : cy[yo]? = some (.slice A L.length cap)) {H : Heap} (hA : A = some ⟨b, o, none⟩) (hY : Blk H yb cy) (h256 : L.length ≤ 256) (h1 : 1 ≤ L.length) :
    Ret Tryd.prog 77 [ptr yb yo] H (fun v H' => v = ptr b (o + (L.length - 1) * 9) ∧ H' = H) := by
  subst hA
  refine Ret.of_at (N := 14) Tryd.call77 Tryd.func77 rfl rfl rfl ?_
  have hE := Ext.refl H

  refine At.region rfl rfl ?_
  refine Reg.pur rfl rfl rfl rfl (Pur.asg rfl) ?_
  refine Reg.nil ?_
  refine At.drawE ((Bks.cons hY.blk Bks.nil)) [] mixed rfl rfl ?_
  refine RegD.tpur (i := 0) rfl rfl rfl rfl (by kernel_rfl) (Pur.mv rfl) ?_
  refine RegD.tpur (i := 1) rfl rfl rfl rfl (by kernel_rfl) (Pur.nilc rfl) ?_
  refine RegD.tpur (i := 2) rfl rfl rfl rfl (by kernel_rfl) (Pur.fld _ fo55_0 rfl) ?_
  refine RegD.take (i := 3) rfl rfl rfl rfl (by kernel_rfl) (Bks.cons hY.blk Bks.nil) (fun H hS => Lod.ld sc53 rfl hS.hd hcy) ?_
  refine RegD.tpur (i := 4) rfl rfl rfl rfl (by kernel_rfl) (Pur.mv rfl) ?_
  refine RegD.tpur (i := 5) rfl rfl rfl rfl (by kernel_rfl) (Pur.nilc rfl) ?_
  refine RegD.tpur (i := 6) rfl rfl rfl rfl (by kernel_rfl) (Pur.fld _ fo55_0 rfl) ?_
  refine RegD.take (i := 7) rfl rfl rfl rfl (by kernel_rfl) (Bks.cons hY.blk Bks.nil) (fun H hS => Lod.ld sc53 rfl hS.hd hcy) ?_
  refine RegD.tpur (i := 8) rfl rfl rfl rfl (by kernel_rfl) (Pur.lenS isl53 rfl) ?_
  first | refine RegD.tpur (i := 9) rfl rfl rfl rfl (by kernel_rfl) (Pur.sub64 rfl rfl (by omega)) ?_ | refine RegD.tpur (i := 9) rfl rfl rfl rfl (by kernel_rfl) (Pur.sub64 rfl rfl (by assumption)) ?_ | refine RegD.tpur (i := 9) rfl rfl rfl rfl (by kernel_rfl) (Pur.sub rfl rfl) ?_
  refine RegD.tpur (i := 10) rfl rfl rfl rfl (by kernel_rfl) (Pur.idx _ es53 rfl rfl (by omega) (by omega)) ?_
  refine RegD.tpur (i := 11) rfl rfl rfl rfl (by kernel_rfl) (Pur.asg rfl) ?_
  refine RegD.done (by kernel_rfl) ?_
  refine At.ret rfl Tryd.func77 rfl ?_
  refine ⟨?_, rfl⟩
  rw [show ((L.length : Int) - 1).toNat = L.length - 1 by omega]
theorem sides_ok {a b : Tm} {r : List Int} (hok : (Tm.fn a r b).ok) (hsz : (Tm.fn a r b).sz ≤ 256) {A : Option Addr} {cap yb yo : Nat} {cy : List Value} (hcy : cy[yo]? = some (.slice A ((Tm.fn a r b).enc 0).length cap)) {H : Heap} (hS : SlT H Is 9 (.slice A ((Tm.fn a r b).enc 0).length cap) ((Tm.fn a r b).enc 0)) (hY : Blk H yb cy) :
    Ret Tryd.prog 79 [ptr yb yo] H (fun v H' => (∃ v1 v2, v = .tuple #[v1, v2] ∧ TyF H.size H' v1 (a.enc 0) ∧ TyF H.size H' v2 (b.enc 0)) ∧ Ext H H') := by
  have hL := (Tm.fn a r b).enc_nine 0 hok
  have hlen : ((Tm.fn a r b).enc 0).length = a.sz + b.sz + 1 := Tm.enc_len _ _
  have haz := a.sz_pos
  have hbz := b.sz_pos
  simp only [Tm.sz] at hsz
  obtain ⟨e1, e2, e3, e4, e5⟩ := enc_parts a r b
  have ha' := Tm.enc_mov a 0 (-0) (by omega) (by omega) (by omega) (by omega) (by omega) (by omega)
  have hb' := Tm.enc_mov b a.sz (-a.sz) (by omega) (by omega) (by omega) (by omega) (by omega) (by omega)
  rw [show (a.sz : Int) + -a.sz = 0 by omega] at hb'
  obtain ⟨b0, o0, c0, rfl, hB, hd, hx9, hat⟩ := el_cells hL hS (z := (((Tm.fn a r b).enc 0).length : Int) - 1) (by omega) (by omega)
  rw [e1] at hat
  rw [show ((((Tm.fn a r b).enc 0).length : Int) - 1).toNat = ((Tm.fn a r b).enc 0).length - 1 by omega] at hat
  generalize hLg : (Tm.fn a r b).enc 0 = L at *
  refine Ret.of_at (N := 19) Tryd.call79 Tryd.func79 rfl rfl rfl ?_
  have hE := Ext.refl H
  have z_hE := hE.lt
  have z_hY := hY.lt
  have z_hB := hB.lt
  refine At.region rfl rfl ?_
  refine Reg.op rfl rfl rfl rfl (Does.alloc zc55) ?_
  rintro _ H0_0 ⟨rfl, hn0_0⟩
  have z0_0 := hn0_0.size
  replace hE := hE.ext hn0_0.ext
  replace hY := hY.ext hn0_0.ext
  replace hB := hB.ext hn0_0.ext
  have o0_0 := hn0_0.own
  refine Reg.op rfl rfl rfl rfl (Does.alloc zc55) ?_
  rintro _ H0_1 ⟨rfl, hn0_1⟩
  have z0_1 := hn0_1.size
  replace hE := hE.ext hn0_1.ext
  replace hY := hY.ext hn0_1.ext
  replace hB := hB.ext hn0_1.ext
  replace o0_0 := o0_0.ext hn0_1.ext
  have o0_1 := hn0_1.own
  refine Reg.nil ?_
  refine At.region rfl rfl ?_
  refine Reg.pur rfl rfl rfl rfl (Pur.mv rfl) ?_
  refine Reg.op rfl rfl rfl rfl (Does.call rfl (root_ok hcy rfl hY (by omega) (by omega))) ?_
  rintro _ H0_1 ⟨rfl, rfl⟩
  refine Reg.pur rfl rfl rfl rfl (Pur.asg rfl) ?_
  refine Reg.nil ?_
  refine At.drawE ((Bks.cons hB.blk (Bks.cons hY.blk Bks.nil))) [13] mixed rfl rfl ?_
  refine RegD.tpur (i := 0) rfl rfl rfl rfl (by kernel_rfl) (Pur.mv rfl) ?_
  refine RegD.tpur (i := 1) rfl rfl rfl rfl (by kernel_rfl) (Pur.mv rfl) ?_
  refine RegD.tpur (i := 2) rfl rfl rfl rfl (by kernel_rfl) (Pur.nilc rfl) ?_
  refine RegD.tpur (i := 3) rfl rfl rfl rfl (by kernel_rfl) (Pur.fld _ fo65_2 rfl) ?_
  refine RegD.take (i := 4) rfl rfl rfl rfl (by kernel_rfl) (Bks.cons hB.blk (Bks.cons hY.blk Bks.nil)) (fun H hS => Lod.ld sc3 rfl hS.hd (hat 2 (by omega))) ?_
  refine RegD.tpur (i := 6) rfl rfl rfl rfl (by kernel_rfl) (Pur.mv rfl) ?_
  refine RegD.tpur (i := 7) rfl rfl rfl rfl (by kernel_rfl) (Pur.mv rfl) ?_
  refine RegD.tpur (i := 8) rfl rfl rfl rfl (by kernel_rfl) (Pur.nilc rfl) ?_
  refine RegD.tpur (i := 9) rfl rfl rfl rfl (by kernel_rfl) (Pur.fld _ fo65_3 rfl) ?_
  refine RegD.take (i := 10) rfl rfl rfl rfl (by kernel_rfl) (Bks.cons hB.blk (Bks.cons hY.blk Bks.nil)) (fun H hS => Lod.ld sc3 rfl hS.hd (hat 3 (by omega))) ?_
  refine RegD.one (i := 5) (by kernel_rfl) rfl rfl rfl rfl (Does.call rfl (part_ok hL hcy (hS.ext hE) hY (by omega) (z := (a.sz : Int) - 1) (p := 0) (by omega) (by omega) e2 (by omega))) ?_
  rintro v1 H2_5 ⟨hT1, hE2_5⟩
  have z2_5 := hE2_5.lt
  replace hE := hE.ext hE2_5
  replace hY := hY.ext hE2_5
  replace hB := hB.ext hE2_5
  replace o0_0 := o0_0.ext hE2_5
  replace o0_1 := o0_1.ext hE2_5
  rw [e4, ha'] at hT1
  have z_hT1 := hT1.lt
  obtain ⟨B1, n1, k1, rfl⟩ := hT1.one
  refine ⟨fun _ _ => (Bks.cons hB.blk (Bks.cons hY.blk Bks.nil)), ?_⟩
  refine RegD.one (i := 11) (by kernel_rfl) rfl rfl rfl rfl (Does.call rfl (part_ok hL hcy (hS.ext hE) hY (by omega) (z := (a.sz : Int) + b.sz - 1) (p := a.sz) (by omega) (by omega) e3 (by omega))) ?_
  rintro v2 H2_11 ⟨hT2, hE2_11⟩
  have z2_11 := hE2_11.lt
  replace hE := hE.ext hE2_11
  replace hY := hY.ext hE2_11
  replace hB := hB.ext hE2_11
  replace o0_0 := o0_0.ext hE2_11
  replace o0_1 := o0_1.ext hE2_11
  replace hT1 := hT1.ext hE2_11
  rw [e5, hb'] at hT2
  have z_hT2 := hT2.lt
  obtain ⟨B2, n2, k2, rfl⟩ := hT2.one
  refine ⟨fun _ _ => (Bks.cons hB.blk (Bks.cons hY.blk Bks.nil)), ?_⟩
  refine RegD.one0 (i := 12) (by kernel_rfl) rfl rfl rfl (Does.stn ag55 rfl rfl (by first | rfl | exact ones_Is _) (by first | rfl | (simp [*]; done)) o0_0 (by first | decide | (simp; done) | (simp; omega) | omega)) ?_
  rintro _ H2_12 hu2_12
  have z2_12 := hu2_12.size
  replace hE := hE.upw hu2_12 (by omega)
  replace hY := hY.upw hu2_12 (by omega)
  replace hB := hB.upw hu2_12 (by omega)
  replace o0_1 := o0_1.upw hu2_12 (by omega)
  replace hT1 := hT1.upw hu2_12 (by omega)
  replace hT2 := hT2.upw hu2_12 (by omega)
  replace o0_0 := hu2_12.own
  first | rw [over (by first | rfl | (simp; done))] at o0_0 | skip
  refine ⟨fun _ _ => (Bks.cons hB.blk (Bks.cons hY.blk Bks.nil)), ?_⟩
  refine RegD.one0 (i := 13) (by kernel_rfl) rfl rfl rfl (Does.stn ag55 rfl rfl (by first | rfl | exact ones_Is _) (by first | rfl | (simp [*]; done)) o0_1 (by first | decide | (simp; done) | (simp; omega) | omega)) ?_
  rintro _ H2_13 hu2_13
  have z2_13 := hu2_13.size
  replace hE := hE.upw hu2_13 (by omega)
  replace hY := hY.upw hu2_13 (by omega)
  replace hB := hB.upw hu2_13 (by omega)
  replace o0_0 := o0_0.upw hu2_13 (by omega)
  replace hT1 := hT1.upw hu2_13 (by omega)
  replace hT2 := hT2.upw hu2_13 (by omega)
  replace o0_1 := hu2_13.own
  first | rw [over (by first | rfl | (simp; done))] at o0_1 | skip
  refine ⟨fun h => (by cases h), ?_⟩
  refine RegD.done (by kernel_rfl) ?_
  refine At.retC rfl Tryd.func79 ⟨_, _, _, _, rfl, rfl, ⟨_, o0_0.blk, .inr ⟨_, _, ag55, (by first | exact whole rfl | exact whole (by simp [*])), (by first | rfl | simp [*]), rfl⟩⟩, ⟨_, _, _, _, rfl, rfl, ⟨_, o0_1.blk, .inr ⟨_, _, ag55, (by first | exact whole rfl | exact whole (by simp [*])), (by first | rfl | simp [*]), rfl⟩⟩, rfl⟩⟩ ?_
  exact ⟨⟨_, _, rfl, hT1.mono (by omega), hT2.mono (by omega)⟩, hE⟩
end Go.Proofs.YtlfillhffpiffaaDoor

namespace Go.Proofs.YtlfillhffpiffaaDoor
set_option linter.unusedSimpArgs false
set_option linter.unusedVariables false
set_option maxRecDepth 8000
open Go Go.Fx Go.Proofs

def lkE (k : Int) : List MapEntry → Option Value
  | [] => none
  | e :: es => match e.key with
    | .int .i64 a => if k = a then some e.val else lkE k es
    | _ => none
def AllI (es : List MapEntry) : Prop := ∀ e ∈ es, ∃ a, e.key = I a
theorem lk_cons {k a : Int} {v : Value} {n : Nat} {es : List MapEntry} : lkE k (⟨I a, v, n⟩ :: es) = if k = a then some v else lkE k es := rfl
theorem mfind_ok (k : Int) : ∀ (es : List MapEntry) (i : Nat), AllI es → (lkE k es = none ∧ Instr.findNow (.int .i64) (I k) es i = some none) ∨
    ∃ j v, lkE k es = some v ∧ Instr.findNow (.int .i64) (I k) es i = some (some (i + j, v)) ∧ (es[j]?).map (·.key) = some (I k) ∧ ∀ w, AllI (es.modify j fun e => { e with key := I k, val := w }) ∧ ∀ k', lkE k' (es.modify j fun e => { e with key := I k, val := w }) = if k' = k then some w else lkE k' es
  | [], i, _ => .inl ⟨rfl, rfl⟩
  | ⟨ky, v, n⟩ :: es, i, h => by
    obtain ⟨a, ha⟩ := h _ List.mem_cons_self
    dsimp only at ha
    subst ha
    have hr : AllI es := fun e he => h e (List.mem_cons_of_mem _ he)
    by_cases hk : k = a
    · subst hk
      refine .inr ⟨0, v, by rw [lk_cons, if_pos rfl], by simp [Instr.findNow, Instr.sameNow], rfl, fun w => ⟨?_, fun k' => ?_⟩⟩
      · intro e he
        simp only [List.modify_zero_cons, List.mem_cons] at he
        rcases he with rfl | he
        · exact ⟨k, rfl⟩
        · exact hr e he
      · simp only [List.modify_zero_cons]
        rw [lk_cons, lk_cons]
        by_cases h' : k' = k <;> simp [h']
    · have hne : Instr.findNow (.int .i64) (I k) (⟨I a, v, n⟩ :: es) i = Instr.findNow (.int .i64) (I k) es (i + 1) := by simp [Instr.findNow, Instr.sameNow, show (k == a) = false from by simpa using hk]
      rw [lk_cons, if_neg hk, hne]
      rcases mfind_ok k es (i + 1) hr with ⟨h1, h2⟩ | ⟨j, v', h1, h2, h3, h4⟩
      · exact .inl ⟨h1, h2⟩
      · refine .inr ⟨j + 1, v', h1, by rw [h2]; congr 3; omega, by simpa using h3, fun w => ⟨?_, fun k' => ?_⟩⟩
        · intro e he
          simp only [List.modify_succ_cons, List.mem_cons] at he
          rcases he with rfl | he
          · exact ⟨a, rfl⟩
          · exact (h4 w).1 e he
        · simp only [List.modify_succ_cons]
          rw [lk_cons, lk_cons, (h4 w).2 k']
          by_cases h1 : k' = a
          · rw [if_pos h1, if_pos h1, if_neg (by omega)]
          · rw [if_neg h1, if_neg h1]
theorem lk_push {k : Int} {w : Value} {n : Nat} : ∀ {es : List MapEntry}, AllI es → lkE k es = none → ∀ k', lkE k' (es ++ [⟨I k, w, n⟩]) = if k' = k then some w else lkE k' es
  | [], _, _, k' => by rw [List.nil_append, lk_cons]
  | ⟨ky, v, m⟩ :: es, h, h0, k' => by
    obtain ⟨a, ha⟩ := h _ List.mem_cons_self
    dsimp only at ha
    subst ha
    rw [lk_cons] at h0
    rw [List.cons_append, lk_cons, lk_cons]
    have hka : k ≠ a := by intro e; rw [if_pos e] at h0; cases h0
    rw [if_neg hka] at h0
    rw [lk_push (fun e he => h e (List.mem_cons_of_mem _ he)) h0 k']
    by_cases h1 : k' = a
    · rw [if_pos h1, if_pos h1, if_neg (by omega)]
    · rw [if_neg h1, if_neg h1]
def Mp (H : Heap) (b : Nat) (f : Int → Option Value) : Prop := ∃ E c, H[b]? = some (.map E c) ∧ AllI E.toList ∧ ∀ k, lkE k E.toList = f k
theorem Mp.lt {H : Heap} {b : Nat} {f : Int → Option Value} (h : Mp H b f) : b < H.size := by
  obtain ⟨E, c, h, _⟩ := h
  rcases Nat.lt_or_ge b H.size with h' | h'
  · exact h'
  · simp [Array.getElem?_eq_none h'] at h
theorem Mp.via {H H' : Heap} {S : Nat → Prop} {b : Nat} {f : Int → Option Value} (h : Mp H b f) (he : But S H H') (hb : ¬ S b) : Mp H' b f := by
  have hl := h.lt
  obtain ⟨E, c, h, k⟩ := h
  exact ⟨E, c, by rw [he.2 b hl hb]; exact h, k⟩
theorem Mp.ext {H H' : Heap} {b : Nat} {f : Int → Option Value} (h : Mp H b f) (he : Ext H H') : Mp H' b f := h.via (S := fun _ => False) he.but id
theorem Mp.upw {H H' : Heap} {b b' : Nat} {c : List Value} {f : Int → Option Value} (h : Mp H b f) (u : Upd H H' b' c) (hb : b ≠ b') : Mp H' b f := h.via u.but hb
theorem Mp.ne {H : Heap} {b b' : Nat} {c : List Value} {f : Int → Option Value} (h : Mp H b f) (k : Blk H b' c) : b' ≠ b := by
  rintro rfl
  obtain ⟨E, c, h, _⟩ := h
  obtain ⟨T, fr, k⟩ := k
  rw [h] at k; cases k
theorem sl_but {α : Type} {H H' : Heap} {enc : α → List Value} {n b1 b2 len cap : Nat} {f1 f2 : Int → Option Value} {A : Option Addr} {L : List α} (h : SlT H enc n (.slice A len cap) L) (h1 : Mp H b1 f1) (h2 : Mp H b2 f2) (he : But (fun g => g = b1 ∨ g = b2) H H') : SlT H' enc n (.slice A len cap) L := by
  obtain ⟨A', cap', e, k1, k2, k0, k3⟩ := h
  refine ⟨A', cap', e, k1, k2, k0, k3.imp id ?_⟩
  rintro ⟨b, o, c, rfl, hb, k4⟩
  exact ⟨b, o, c, rfl, hb.but he (fun hs => hs.elim (h1.ne hb) (h2.ne hb)), k4⟩
def zv (P : Program) (t : TypeId) : Option Value := (P.info? t).bind (·.zero)
section rules
variable {P : Program} {dst : Option Tmp} {ty : TypeId} {pos : String} {aft : Array Edge} {gd : Option (Nat × Bool)} {e : Env} {H : Heap}
theorem key_run {kt : TypeId} (hk : P.underlying kt = some (.int .i64)) (em : Bool) (n : Nat) (k : Int) (w : World) : (Instr.checkKey em (n + 1) kt (I k)).run P w = .ok () w := by
  unfold Instr.checkKey
  simp only [Sem.run_bind, run_underlying hk, Result.andThen_ok]
  rfl
theorem fk_run {kt : TypeId} (hk : P.underlying kt = some (.int .i64)) {k : Int} {es : List MapEntry} {r : Option (Nat × Value)} (h : Instr.findNow (.int .i64) (I k) es 0 = some r) (w : World) : (Instr.findKey kt (I k) es).run P w = .ok r w := by
  unfold Instr.findKey
  simp only [Sem.run_bind, run_underlying hk, Result.andThen_ok, h, Sem.run_pure]
theorem go_run {w : World} {r : Nat} {es : Array MapEntry} {c : Nat} (hb : w.heap[r]? = some (.map es c)) : (getObj r).run P w = .ok (.map es c) w := by
  simp [getObj, Sem.run, hb]
theorem so_run {w : World} {r : Nat} {es : Array MapEntry} {c : Nat} (o : Obj) (hb : w.heap[r]? = some (.map es c)) : (setObj r o).run P w = .ok () { w with heap := w.heap.setIfInBounds r o } := by
  simp [setObj, Sem.run, hb]
theorem Lod.mlk {mt kt et : TypeId} {x y : Operand} {b : Nat} {f : Int → Option Value} {k : Int} {z : Value} (hm : P.underlying mt = some (.map kt et)) (hk : P.underlying kt = some (.int .i64)) (hz : zv P et = some z)
    (hx : ev e x = some (.map (some b))) (hy : ev e y = some (I k)) (hM : Mp H b f) : Lod P ⟨dst, .lookup mt x y true, ty, pos, aft, gd⟩ e H (.tuple #[(f k).getD z, .bool (f k).isSome]) := by
  intro A w hw hA
  obtain ⟨E, c, h1, h2, h3⟩ := hM
  have hb : w.heap[b]? = some (.map E c) := by rw [hw]; exact h1
  have hzr : (zeroValue et).run P w = .ok z w := by
    simp only [zv, Option.bind_eq_some_iff] at hz
    obtain ⟨i, hi, hv⟩ := hz
    simp [zeroValue, typeInfo, hi, hv]
  simp only [execOp, hA.ev hx, hA.ev hy, Instr.lookup, Sem.run_bind, run_underlying hm, Result.andThen_ok, go_run hb, Sem.run_pure, key_run hk]
  rcases mfind_ok k E.toList 0 h2 with ⟨k1, k2⟩ | ⟨j, v, k1, k2, _⟩
  · rw [fk_run hk k2]
    rw [h3] at k1
    simp [hzr, k1]
  · rw [fk_run hk k2]
    rw [h3] at k1
    simp [k1]
theorem Does.mup {mt kt et : TypeId} {x y u : Operand} {b : Nat} {f : Int → Option Value} {k : Int} {v : Value} (hm : P.underlying mt = some (.map kt et)) (hk : P.underlying kt = some (.int .i64))
    (hx : ev e x = some (.map (some b))) (hy : ev e y = some (I k)) (hu : ev e u = some v) (hM : Mp H b f) :
    Does P ⟨dst, .mapUpdate mt x y u, ty, pos, aft, gd⟩ e H (fun _ H' => Mp H' b (fun j => if j = k then some v else f j) ∧ But (· = b) H H' ∧ H'.size = H.size) := by
  intro w0 n a hA K Q hK
  obtain ⟨E, c, h1, h2, h3⟩ := hM
  have hl : b < H.size := (show Mp H b f from ⟨E, c, h1, h2, h3⟩).lt
  have hb : (mk w0 H n).heap[b]? = some (.map E c) := h1
  have key : ∃ o : Obj, (∃ E' c', o = .map E' c' ∧ AllI E'.toList ∧ ∀ j, lkE j E'.toList = if j = k then some v else f j) ∧ (execOp a.eval ⟨dst, .mapUpdate mt x y u, ty, pos, aft, gd⟩).run P (mk w0 H n) = .ok .skip (mk w0 (H.setIfInBounds b o) n) := by
    simp only [execOp, hA.ev hx, hA.ev hy, hA.ev hu, Instr.mapUpdate, Sem.run_bind, run_underlying hm, Result.andThen_ok, go_run hb, key_run hk]
    rcases mfind_ok k E.toList 0 h2 with ⟨k1, k2⟩ | ⟨j, v', k1, k2, k3, k4⟩
    · rw [fk_run hk k2]
      refine ⟨.map (E.push ⟨I k, v, c⟩) (c + 1), ⟨_, _, rfl, ?_, ?_⟩, ?_⟩
      · rw [Array.toList_push]
        intro e he
        rcases List.mem_append.1 he with he | he
        · exact h2 e he
        · rw [List.mem_singleton] at he; subst he; exact ⟨k, rfl⟩
      · intro j
        rw [Array.toList_push, lk_push h2 k1 j, h3]
      · simp only [Result.andThen_ok, so_run _ hb]
        simp [mk]
    · rw [fk_run hk k2]
      refine ⟨.map (E.modify (0 + j) fun e => { e with key := I k, val := v }) c, ⟨_, _, rfl, ?_, ?_⟩, ?_⟩
      · rw [Array.toList_modify, Nat.zero_add]; exact (k4 v).1
      · intro i
        rw [Array.toList_modify, Nat.zero_add, (k4 v).2 i, h3]
      · have hky : (((E[0 + j]?).map (·.key)).getD (I k)) = I k := by
          have : (E.toList[j]?).map (·.key) = some (I k) := k3
          rw [Nat.zero_add, ← Array.getElem?_toList, this]; rfl
        have hst : (Instr.keyThatStays (I k) (I k)).run P (mk w0 H n) = .ok (I k) (mk w0 H n) := by
          unfold Instr.keyThatStays
          rw [if_pos (by simp [Instr.sameBits])]
          simp
        simp only [Result.andThen_ok, Sem.run_bind, hky, hst, so_run _ hb]
        simp [mk]
  obtain ⟨o, ⟨E', c', rfl, g1, g2⟩, hrun⟩ := key
  unfold Oper.wp
  rw [hrun]
  refine hK _ _ n ⟨⟨E', c', by simp [hl], g1, g2⟩, ⟨by simp, fun b' hb' hne => ?_⟩, by simp⟩
  rw [Array.getElem?_setIfInBounds_ne (fun h => hne h.symm)]
theorem Does.mkm {t : TypeId} : Does P ⟨dst, .makeMap t none, ty, pos, aft, gd⟩ e H (fun u H' => u = .map (some H.size) ∧ Mp H' H.size (fun _ => none) ∧ Ext H H' ∧ H'.size = H.size + 1) := by
  intro w0 n a hA K Q hK
  have hrun : (execOp a.eval ⟨dst, .makeMap t none, ty, pos, aft, gd⟩).run P (mk w0 H n) = .ok (.value (.map (some H.size))) (mk w0 (H.push (.map #[] 0)) n) := by
    simp only [execOp, Instr.makeMap, Sem.run_bind, run_newObj, Result.andThen_ok, Sem.run_pure]; rfl
  unfold Oper.wp
  rw [hrun]
  refine hK _ _ n ⟨rfl, ⟨#[], 0, by simp, fun e he => by simp at he, fun k => rfl⟩, ⟨by simp, fun b hb => ?_⟩, by simp⟩
  rw [Array.getElem?_push, if_neg (by omega)]
theorem Lod.mlk' {mt kt et : TypeId} {x y : Operand} {b : Nat} {f : Int → Option Value} {k : Int} {z v : Value} {ok : Bool} (hm : P.underlying mt = some (.map kt et)) (hk : P.underlying kt = some (.int .i64)) (hz : zv P et = some z)
    (hv : (f k).getD z = v) (hok : (f k).isSome = ok) (hx : ev e x = some (.map (some b))) (hy : ev e y = some (I k)) (hM : Mp H b f) : Lod P ⟨dst, .lookup mt x y true, ty, pos, aft, gd⟩ e H (.tuple #[v, .bool ok]) := by
  subst hv hok; exact Lod.mlk hm hk hz hx hy hM
theorem At.drawM {f : FuncId} {N : Nat} {R : Value → Heap → Prop} {k : List Item} {ops : Array Oper} {k' : List Item} {m b : Nat} {l : List (Nat × List Value)} {F : Int → Option Value} (h0 : Bks l H ∧ Mp H b F) (fs : List Nat) (hm : P.follows .mixedOrders = true) (hh : hd 60 k = .region ops true k') (hi : ops.size = m)
    (h : RegD P ops N (fun H' => Bks l H' ∧ Mp H' b F) fs m (Array.replicate m false) (fun e' H' => At P f N R (k := k') e' H') e H) : At P f N R (k := k) e H := At.draw (fun H' => Bks l H' ∧ Mp H' b F) fs hm hh hi h
end rules
def Chg (b1 b2 : Nat) (H H' : Heap) : Prop := But (fun g => g = b1 ∨ g = b2) H H'
section chg
variable {b1 b2 : Nat} {A B C : Heap}
theorem Chg.refl : Chg b1 b2 A A := But.refl _ _
theorem Chg.trans (h : Chg b1 b2 A B) (k : Chg b1 b2 B C) : Chg b1 b2 A C := But.trans h k
theorem Chg.ext (h : Chg b1 b2 A B) (k : Ext B C) : Chg b1 b2 A C := But.trans h k.but
theorem Chg.lt (h : Chg b1 b2 A B) : A.size ≤ B.size := h.1
theorem Chg.via {S : Nat → Prop} (h : Chg b1 b2 A B) (k : But S B C) (hs : ∀ g, g < A.size → S g → g = b1 ∨ g = b2) : Chg b1 b2 A C :=
  ⟨Nat.le_trans h.1 k.1, fun b hb hS => (k.2 b (Nat.lt_of_lt_of_le hb h.1) (fun hk => hS (hs b hb hk))).trans (h.2 b hb hS)⟩
theorem Chg.upw {b' : Nat} {c' : List Value} (h : Chg b1 b2 A B) (u : Upd B C b' c') (hb : A.size ≤ b') : Chg b1 b2 A C :=
  h.via u.but (fun g hg e => by omega)
end chg
end Go.Proofs.YtlfillhffpiffaaDoor

namespace Go.Proofs.YtlfillhffpiffaaDoor
set_option linter.unusedSimpArgs false
set_option linter.unusedVariables false
set_option maxRecDepth 8000
open Go Go.Fx Go.Proofs

inductive Bt where
  | t (v : Int) (u : Tm)
  | r (v : Int) (s : List Int)
def Bt.pl : Bt → Int × Bool × List (List Int) × List Int
  | .t v u => (v, false, u.enc 0, noRow)
  | .r v s => (v, true, [], s)
def Bt.ok : Bt → Prop
  | .t v u => u.ok ∧ u.sz ≤ 256
  | .r v s => s.length = 5 ∧ rowM s = true
def findT : List Bt → Int → Option Tm
  | [], _ => none
  | .t w u :: l, v => if w = v then some u else findT l v
  | .r _ _ :: l, v => findT l v
def findR : List Bt → Int → Option (List Int)
  | [], _ => none
  | .r w s :: l, v => if w = v then some s else findR l v
  | .t _ _ :: l, v => findR l v
end Go.Proofs.YtlfillhffpiffaaDoor

namespace Go.Proofs.YtlfillhffpiffaaDoor
set_option linter.unusedSimpArgs false
set_option linter.unusedVariables false
set_option maxRecDepth 8000
open Go Go.Fx Go.Proofs
namespace FactsUniA
theorem ag22 : ag Tryd.prog 22 = some 4 := by kernel_rfl
theorem arr22 : arr Tryd.prog 22 = some (4, 1) := by kernel_rfl
theorem fo24_0 : foff Tryd.prog 24 0 = some 0 := by kernel_rfl
theorem pl24 : places Tryd.prog 24 = some [(0, 4), (4, 1)] := by kernel_rfl
theorem sc3 : sc Tryd.prog 3 = true := by kernel_rfl
theorem zc24 : zc Tryd.prog 24 = some [.int .i64 0, .int .i64 0, .int .i64 0, .int .i64 0, .int .i64 0] := by kernel_rfl
end FactsUniA
open FactsUniA

theorem rowM_all {r : List Int} (h : rowM r = true) {i : Nat} (hi : i < 4) (hl : r.length = 5) : 0 ≤ r.getD i 0 ∧ r.getD i 0 ≤ 32 := by
  unfold rowM at h
  simp only [Bool.and_eq_true] at h
  have := List.all_eq_true.1 h.1 (r.getD i 0) (by
    rw [← take4_at hl hi]; exact List.getElem_mem _)
  simpa [okc] using this
theorem rowM_t {r : List Int} (h : rowM r = true) : -1 ≤ r.getD 4 0 ∧ r.getD 4 0 < 4096 := by
  unfold rowM at h
  simp only [Bool.and_eq_true, decide_eq_true_eq] at h
  exact h.2

end Go.Proofs.YtlfillhffpiffaaDoor

namespace Go.Proofs.YtlfillhffpiffaaDoor
set_option linter.unusedSimpArgs false
set_option linter.unusedVariables false
set_option maxRecDepth 8000
open Go Go.Fx Go.Proofs
namespace FactsUniB
theorem ag22 : ag Tryd.prog 22 = some 4 := by kernel_rfl
theorem ag24 : ag Tryd.prog 24 = some 5 := by kernel_rfl
theorem arr22 : arr Tryd.prog 22 = some (4, 1) := by kernel_rfl
theorem fo24_0 : foff Tryd.prog 24 0 = some 0 := by kernel_rfl
theorem fo24_1 : foff Tryd.prog 24 1 = some 4 := by kernel_rfl
theorem mixed : Tryd.prog.follows .mixedOrders = true := by kernel_rfl
theorem sc3 : sc Tryd.prog 3 = true := by kernel_rfl
end FactsUniB
open FactsUniB

end Go.Proofs.YtlfillhffpiffaaDoor

namespace Go.Proofs.YtlfillhffpiffaaDoor
set_option linter.unusedSimpArgs false
set_option linter.unusedVariables false
set_option maxRecDepth 8000
open Go Go.Fx Go.Proofs

def occ (v : Int) : Tm → Bool
  | .bas _ => false
  | .var w => decide (w = v)
  | .fn a _ b => occ v a || occ v b
theorem findR_some {v : Int} {u : List Int} : ∀ {l : List Bt}, findR l v = some u → Bt.r v u ∈ l
  | [], h => by cases h
  | .r w x :: l, h => by
    simp only [findR] at h
    split at h
    · rename_i hw; cases h; subst hw; exact List.mem_cons_self
    · exact List.mem_cons_of_mem _ (findR_some h)
  | .t w s :: l, h => List.mem_cons_of_mem _ (findR_some (l := l) h)
theorem row_five {r : List Int} (h : r.length = 5) : ∃ a b c d e, r = [a, b, c, d, e] := by
  match r, h with
  | [a, b, c, d, e], _ => exact ⟨a, b, c, d, e, rfl⟩
end Go.Proofs.YtlfillhffpiffaaDoor

namespace Go.Fx
open Go
set_option linter.unusedSimpArgs false
set_option linter.unusedVariables false
section
variable {P : Program} {dst : Option Tmp} {ty : TypeId} {pos : String} {aft : Array Edge} {gd : Option (Nat × Bool)} {e : Env} {H H' : Heap}
end
end Go.Fx
namespace Go.Proofs.YtlfillhffpiffaaDoor
set_option linter.unusedSimpArgs false
set_option linter.unusedVariables false
set_option maxRecDepth 8000
open Go Go.Fx Go.Proofs

theorem flat_at {α : Type} {enc : α → List Value} {n : Nat} {L : List α} (hL : Wide enc n L) {i : Nat} (hi : i < L.length) :
    ∃ p q, L.flatMap enc = p ++ enc L[i] ++ q ∧ p.length = i * n ∧ ∀ x, (L.set i x).flatMap enc = p ++ enc x ++ q := by
  refine ⟨(L.take i).flatMap enc, (L.drop (i + 1)).flatMap enc, ?_, ?_, fun x => ?_⟩
  · have h : L = L.take i ++ L[i] :: L.drop (i + 1) := by rw [← List.drop_eq_getElem_cons hi, List.take_append_drop]
    have h2 : L.flatMap enc = (L.take i ++ L[i] :: L.drop (i + 1)).flatMap enc := congrArg (·.flatMap enc) h
    rw [h2]
    simp only [List.flatMap_append, List.flatMap_cons, List.append_assoc]
  · rw [flat_len (fun x hx => hL x (List.mem_of_mem_take hx)), List.length_take]; congr 1; omega
  · rw [List.set_eq_take_append_cons_drop, if_pos hi]
    simp [List.flatMap_append, List.flatMap_cons]
end Go.Proofs.YtlfillhffpiffaaDoor

namespace Go.Proofs.YtlfillhffpiffaaDoor
set_option linter.unusedSimpArgs false
set_option linter.unusedVariables false
set_option maxRecDepth 8000
open Go Go.Fx Go.Proofs

def adR (r s : List Int) : List Int := [r.getD 0 0 + s.getD 0 0, r.getD 1 0 + s.getD 1 0, r.getD 2 0 + s.getD 2 0, r.getD 3 0 + s.getD 3 0, s.getD 4 0]
theorem adR_five (a b c d e a' b' c' d' e' : Int) : adR [a, b, c, d, e] [a', b', c', d', e'] = [a + a', b + b', c + c', d + d', e'] := rfl
theorem adR_tail (r s : List Int) : (adR r s).getD 4 0 = s.getD 4 0 := rfl
theorem adR_assoc (r s u : List Int) : adR (adR r s) u = adR r (adR s u) := by
  unfold adR
  simp only [List.getD_cons_zero, List.getD_cons_succ, Int.add_assoc]
structure Asg where
  T : Int → Tm
  R : Int → List Int
def Asg.row (θ : Asg) (r : List Int) : List Int := if r.getD 4 0 < 0 then r else adR r (θ.R (r.getD 4 0))
def Asg.tm (θ : Asg) : Tm → Tm
  | .bas k => .bas k
  | .var v => θ.T v
  | .fn a r b => .fn (θ.tm a) (θ.row r) (θ.tm b)
theorem Asg.row_no {θ : Asg} {r : List Int} (h : r.getD 4 0 < 0) : θ.row r = r := if_pos h
theorem Asg.row_yes {θ : Asg} {r : List Int} (h : ¬ r.getD 4 0 < 0) : θ.row r = adR r (θ.R (r.getD 4 0)) := if_neg h
theorem Asg.row_ad (θ : Asg) (r s : List Int) : θ.row (adR r s) = adR r (θ.row s) := by
  by_cases h : s.getD 4 0 < 0
  · rw [Asg.row_no (r := s) h, Asg.row_no (by rw [adR_tail]; exact h)]
  · rw [Asg.row_yes (r := s) h, Asg.row_yes (by rw [adR_tail]; exact h), adR_tail, adR_assoc]
def asg (l : List Bt) : Asg := ⟨fun v => match findT l v with | some u => u | none => .var v, fun v => match findR l v with | some s => s | none => [0, 0, 0, 0, v]⟩
end Go.Proofs.YtlfillhffpiffaaDoor

namespace Go.Proofs.YtlfillhffpiffaaDoor
set_option linter.unusedSimpArgs false
set_option linter.unusedVariables false
set_option maxRecDepth 8000
set_option maxHeartbeats 4000000
open Go Go.Fx Go.Proofs
namespace FactsUniY

end FactsUniY
open FactsUniY

def Tm.lst : Tm → List Int
  | .bas k => bNode k
  | .var v => vNode v
  | .fn a r b => fNode ((a.sz : Int) - 1) ((a.sz : Int) + b.sz - 1) r
theorem lst_el : ∀ t : Tm, el (t.enc 0) (((t.enc 0).length : Int) - 1) = t.lst
  | .bas k => rfl
  | .var v => rfl
  | .fn a r b => (enc_parts a r b).1
theorem lst_var {t : Tm} (h : t.lst.getD 0 0 = 2) : ∃ v, t = .var v := by
  cases t with
  | bas k => cases k <;> simp [Tm.lst] at h
  | var v => exact ⟨v, rfl⟩
  | fn a r b => simp [Tm.lst] at h
theorem lst_fn {t : Tm} (h : t.lst.getD 0 0 = 3) : ∃ a r b, t = .fn a r b := by
  cases t with
  | bas k => cases k <;> simp [Tm.lst] at h
  | var v => simp [Tm.lst] at h
  | fn a r b => exact ⟨a, r, b, rfl⟩
theorem nod_row {c : List Value} {o : Nat} {a b : Int} {r : List Int} (h : (c.drop o).take 9 = Is (fNode a b r)) (hr : r.length = 5) : (c.drop (o + 4)).take 5 = Is r := by
  rw [← List.drop_drop, take_mid h (by decide)]
  simp [Is]
  rw [List.take_of_length_le (by simp [hr])]
end Go.Proofs.YtlfillhffpiffaaDoor

namespace Go.Proofs.YtlfillhffpiffaaDoor
set_option linter.unusedSimpArgs false
set_option linter.unusedVariables false
set_option maxRecDepth 8000
open Go Go.Fx Go.Proofs
namespace FactsUniD
theorem ag55 : ag Tryd.prog 55 = some 1 := by kernel_rfl
theorem ag65 : ag Tryd.prog 65 = some 9 := by kernel_rfl
theorem apt53 : appT Tryd.prog 53 = some (65, 9, 72) := by kernel_rfl
theorem es53 : esz Tryd.prog 53 = some 9 := by kernel_rfl
theorem fo55_0 : foff Tryd.prog 55 0 = some 0 := by kernel_rfl
theorem fo65_0 : foff Tryd.prog 65 0 = some 0 := by kernel_rfl
theorem fo65_2 : foff Tryd.prog 65 2 = some 2 := by kernel_rfl
theorem fo65_3 : foff Tryd.prog 65 3 = some 3 := by kernel_rfl
theorem pl55 : places Tryd.prog 55 = some [(0, 1)] := by kernel_rfl
theorem sc3 : sc Tryd.prog 3 = true := by kernel_rfl
theorem sc53 : sc Tryd.prog 53 = true := by kernel_rfl
theorem slA53 : slA Tryd.prog 53 = some (65, 9) := by kernel_rfl
theorem zc55 : zc Tryd.prog 55 = some [.slice none 0 0] := by kernel_rfl
theorem zc65 : zc Tryd.prog 65 = some [.int .i64 0, .int .i64 0, .int .i64 0, .int .i64 0, .int .i64 0, .int .i64 0, .int .i64 0, .int .i64 0, .int .i64 0] := by kernel_rfl
end FactsUniD
open FactsUniD

end Go.Proofs.YtlfillhffpiffaaDoor

namespace Go.Proofs.YtlfillhffpiffaaDoor
set_option linter.unusedSimpArgs false
set_option linter.unusedVariables false
set_option maxRecDepth 8000
open Go Go.Fx Go.Proofs

structure Asg.Ok (θ : Asg) : Prop where
  len : ∀ v, 0 ≤ v → (θ.R v).length = 5
  pos : ∀ v, 0 ≤ v → ∀ i, i < 4 → 0 ≤ (θ.R v).getD i 0
  tl : ∀ v, 0 ≤ v → -1 ≤ (θ.R v).getD 4 0
theorem adR_at (r s : List Int) : ∀ i, i < 4 → (adR r s).getD i 0 = r.getD i 0 + s.getD i 0
  | 0, _ => rfl
  | 1, _ => rfl
  | 2, _ => rfl
  | 3, _ => rfl
end Go.Proofs.YtlfillhffpiffaaDoor

namespace Go.Proofs.YtlfillhffpiffaaDoor
set_option linter.unusedSimpArgs false
set_option linter.unusedVariables false
set_option maxRecDepth 8000
open Go Go.Fx Go.Proofs

theorem asg_ok {l : List Bt} (h : ∀ b ∈ l, b.ok) : (asg l).Ok := by
  have key : ∀ v, 0 ≤ v → ((asg l).R v).length = 5 ∧ (∀ i, i < 4 → 0 ≤ ((asg l).R v).getD i 0) ∧ -1 ≤ ((asg l).R v).getD 4 0 := by
    intro v hv
    unfold asg
    dsimp only
    cases hf : findR l v with
    | none =>
      refine ⟨rfl, fun i hi => ?_, by show -1 ≤ v; omega⟩
      match i, hi with
      | 0, _ => exact Int.le_refl _
      | 1, _ => exact Int.le_refl _
      | 2, _ => exact Int.le_refl _
      | 3, _ => exact Int.le_refl _
    | some s =>
      have hs := h _ (findR_some hf)
      exact ⟨hs.1, fun i hi => (rowM_all hs.2 hi hs.1).1, (rowM_t hs.2).1⟩
  exact ⟨fun v hv => (key v hv).1, fun v hv => (key v hv).2.1, fun v hv => (key v hv).2.2⟩
def dfR (g s : List Int) : List Int := [s.getD 0 0 - g.getD 0 0, s.getD 1 0 - g.getD 1 0, s.getD 2 0 - g.getD 2 0, s.getD 3 0 - g.getD 3 0, s.getD 4 0]
def posR (d : List Int) : Bool := decide (0 ≤ d.getD 0 0 ∧ 0 ≤ d.getD 1 0 ∧ 0 ≤ d.getD 2 0 ∧ 0 ≤ d.getD 3 0)
def instR (M : List Bt) (g s : List Int) : Option (List Bt) :=
  if posR (dfR g s) = false then none else if g.getD 4 0 < 0 then (if g = s then some M else none)
  else match findR M (g.getD 4 0) with
    | none => some (M ++ [.r (g.getD 4 0) (dfR g s)])
    | some d => if d = dfR g s then some M else none
def inst (M : List Bt) : Tm → Tm → Option (List Bt)
  | .var v, s => match findT M v with
    | none => some (M ++ [.t v s])
    | some t => if t = s then some M else none
  | .bas k, .bas l => if k = l then some M else none
  | .fn a r b, .fn a' r' b' => match inst M a a' with
    | none => none
    | some M1 => match instR M1 r r' with
      | none => none
      | some M2 => inst M2 b b'
  | _, _ => none
def Has (θ : Asg) (M : List Bt) : Prop := (∀ v u, findT M v = some u → θ.T v = u) ∧ ∀ v d, findR M v = some d → θ.R v = d
theorem has_nil (θ : Asg) : Has θ [] := ⟨fun v u h => (by cases h), fun v u h => (by cases h)⟩
theorem findT_app {v : Int} : ∀ {l m : List Bt}, findT (l ++ m) v = match findT l v with | some u => some u | none => findT m v
  | [], m => rfl
  | .t w u :: l, m => by
    simp only [List.cons_append, findT]
    by_cases h : w = v
    · rw [if_pos h, if_pos h]
    · rw [if_neg h, if_neg h]; exact findT_app
  | .r w u :: l, m => by
    simp only [List.cons_append, findT]; exact findT_app
theorem findR_app {v : Int} : ∀ {l m : List Bt}, findR (l ++ m) v = match findR l v with | some u => some u | none => findR m v
  | [], m => rfl
  | .r w u :: l, m => by
    simp only [List.cons_append, findR]
    by_cases h : w = v
    · rw [if_pos h, if_pos h]
    · rw [if_neg h, if_neg h]; exact findR_app
  | .t w u :: l, m => by
    simp only [List.cons_append, findR]; exact findR_app
theorem has_T {θ : Asg} {M : List Bt} {v : Int} {u : Tm} (hn : findT M v = none) : Has θ (M ++ [.t v u]) ↔ Has θ M ∧ θ.T v = u := by
  constructor
  · rintro ⟨h1, h2⟩
    refine ⟨⟨fun w x hx => h1 w x (by rw [findT_app, hx]), fun w x hx => h2 w x (by rw [findR_app, hx])⟩, h1 v u ?_⟩
    rw [findT_app, hn]; simp [findT]
  · rintro ⟨⟨h1, h2⟩, h3⟩
    refine ⟨fun w x hx => ?_, fun w x hx => ?_⟩
    · rw [findT_app] at hx
      cases hf : findT M w with
      | some y => rw [hf] at hx; cases hx; exact h1 w _ hf
      | none =>
        rw [hf] at hx
        simp only [findT] at hx
        split at hx
        · rename_i hvw; cases hx; subst hvw; exact h3
        · cases hx
    · rw [findR_app] at hx
      cases hf : findR M w with
      | some y => rw [hf] at hx; cases hx; exact h2 w _ hf
      | none => rw [hf] at hx; cases hx
theorem has_R {θ : Asg} {M : List Bt} {v : Int} {u : List Int} (hn : findR M v = none) : Has θ (M ++ [.r v u]) ↔ Has θ M ∧ θ.R v = u := by
  constructor
  · rintro ⟨h1, h2⟩
    refine ⟨⟨fun w x hx => h1 w x (by rw [findT_app, hx]), fun w x hx => h2 w x (by rw [findR_app, hx])⟩, h2 v u ?_⟩
    rw [findR_app, hn]; simp [findR]
  · rintro ⟨⟨h1, h2⟩, h3⟩
    refine ⟨fun w x hx => ?_, fun w x hx => ?_⟩
    · rw [findT_app] at hx
      cases hf : findT M w with
      | some y => rw [hf] at hx; cases hx; exact h1 w _ hf
      | none => rw [hf] at hx; cases hx
    · rw [findR_app] at hx
      cases hf : findR M w with
      | some y => rw [hf] at hx; cases hx; exact h2 w _ hf
      | none =>
        rw [hf] at hx
        simp only [findR] at hx
        split at hx
        · rename_i hvw; cases hx; subst hvw; exact h3
        · cases hx
theorem df_eq {g s X : List Int} (hX : X.length = 5) (h : adR g X = s) : dfR g s = X := by
  subst h
  obtain ⟨a, b, c, d, e, rfl⟩ := row_five hX
  unfold dfR adR
  simp only [List.getD_cons_zero, List.getD_cons_succ]
  simp only [List.cons.injEq, and_true]
  omega
theorem instR_iff {θ : Asg} (hθ : θ.Ok) {M : List Bt} {g s : List Int} (hg : g.length = 5) (hs : s.length = 5) (h : Has θ M) (he : θ.row g = s) : ∃ M', instR M g s = some M' ∧ Has θ M' := by
  unfold instR
  by_cases h0 : g.getD 4 0 < 0
  · rw [Asg.row_no h0] at he
    subst he
    rw [if_neg (by unfold posR dfR; simp), if_pos h0, if_pos rfl]
    exact ⟨M, rfl, h⟩
  · rw [Asg.row_yes h0] at he
    have hd := df_eq (hθ.len _ (by omega)) he
    have hp := hθ.pos (g.getD 4 0) (by omega)
    rw [if_neg (by
      rw [hd]
      unfold posR
      simp only [decide_eq_false_iff_not, Decidable.not_not]
      exact ⟨hp 0 (by decide), hp 1 (by decide), hp 2 (by decide), hp 3 (by decide)⟩), if_neg h0]
    cases hf : findR M (g.getD 4 0) with
    | none => exact ⟨_, rfl, (has_R hf).2 ⟨h, hd.symm⟩⟩
    | some d =>
      have := h.2 _ _ hf
      dsimp only
      rw [if_pos (by rw [hd]; exact this.symm)]
      exact ⟨M, rfl, h⟩
theorem inst_of {θ : Asg} (hθ : θ.Ok) : ∀ {g s : Tm} {M : List Bt}, g.ok → s.ok → Has θ M → θ.tm g = s → ∃ M', inst M g s = some M' ∧ Has θ M'
  | .bas k, s, M, _, _, h, he => by
    obtain rfl : s = .bas k := he.symm
    exact ⟨M, by simp [inst], h⟩
  | .var v, s, M, _, _, h, he => by
    simp only [inst]
    cases hf : findT M v with
    | none => exact ⟨_, rfl, (has_T hf).2 ⟨h, he⟩⟩
    | some t =>
      dsimp only
      rw [if_pos ((h.1 _ _ hf).symm.trans he)]
      exact ⟨M, rfl, h⟩
  | .fn a r b, .fn a' r' b', M, hg, hs, h, he => by
    simp only [Asg.tm, Tm.fn.injEq] at he
    obtain ⟨M1, e1, h1⟩ := inst_of hθ hg.1 hs.1 h he.1
    obtain ⟨M2, e2, h2⟩ := instR_iff hθ hg.2.1 hs.2.1 h1 he.2.1
    obtain ⟨M3, e3, h3⟩ := inst_of hθ hg.2.2.2 hs.2.2.2 h2 he.2.2
    refine ⟨M3, ?_, h3⟩
    simp only [inst, e1, e2, e3]
  | .fn a r b, .bas k, M, _, _, _, he => by cases he
  | .fn a r b, .var k, M, _, _, _, he => by cases he
end Go.Proofs.YtlfillhffpiffaaDoor

namespace Go.Proofs.YtlfillhffpiffaaDoor
set_option linter.unusedSimpArgs false
set_option linter.unusedVariables false
set_option maxRecDepth 8000
set_option maxHeartbeats 1000000
open Go Go.Fx Go.Proofs
namespace FactsUniMA
theorem ag22 : ag Tryd.prog 22 = some 4 := by kernel_rfl
theorem ag24 : ag Tryd.prog 24 = some 5 := by kernel_rfl
theorem ag65 : ag Tryd.prog 65 = some 9 := by kernel_rfl
theorem arr22 : arr Tryd.prog 22 = some (4, 1) := by kernel_rfl
theorem eqt24 : eqT Tryd.prog 24 = some [.int .i64, .int .i64, .int .i64, .int .i64, .int .i64] := by kernel_rfl
theorem eqt65 : eqT Tryd.prog 65 = some [.int .i64, .int .i64, .int .i64, .int .i64, .int .i64, .int .i64, .int .i64, .int .i64, .int .i64] := by kernel_rfl
theorem es53 : esz Tryd.prog 53 = some 9 := by kernel_rfl
theorem fo24_0 : foff Tryd.prog 24 0 = some 0 := by kernel_rfl
theorem fo24_1 : foff Tryd.prog 24 1 = some 4 := by kernel_rfl
theorem fo55_0 : foff Tryd.prog 55 0 = some 0 := by kernel_rfl
theorem isl53 : isSl Tryd.prog 53 = true := by kernel_rfl
theorem mixed : Tryd.prog.follows .mixedOrders = true := by kernel_rfl
theorem sc3 : sc Tryd.prog 3 = true := by kernel_rfl
theorem sc53 : sc Tryd.prog 53 = true := by kernel_rfl
end FactsUniMA
open FactsUniMA

def dfS (g s : List Int) (k : Nat) : List Int := (List.range 4).map fun j => if j < k then s.getD j 0 - g.getD j 0 else 0
def posTo (g s : List Int) (k : Nat) : Bool := (List.range k).all fun j => decide (0 ≤ s.getD j 0 - g.getD j 0)
theorem dfS_len (g s : List Int) (k : Nat) : (dfS g s k).length = 4 := rfl
theorem dfS_set (g s : List Int) {k : Nat} (h : k < 4) : (dfS g s k).set k (s.getD k 0 - g.getD k 0) = dfS g s (k + 1) := by
  apply List.ext_getElem (by simp [dfS])
  intro j h1 h2
  rw [List.getElem_set]
  simp only [dfS, List.getElem_map, List.getElem_range]
  split
  · rename_i e; subst e; rw [if_pos (by omega)]
  · rename_i e
    by_cases h3 : j < k
    · rw [if_pos h3, if_pos (by omega)]
    · rw [if_neg h3, if_neg (by omega)]
theorem dfS_at (g s : List Int) {k : Nat} (h : k < 4) : (dfS g s (k + 1)).getD k 0 = s.getD k 0 - g.getD k 0 := by simp [dfS, h]
theorem posTo_succ (g s : List Int) (k : Nat) : posTo g s (k + 1) = (posTo g s k && decide (0 ≤ s.getD k 0 - g.getD k 0)) := by simp [posTo, List.range_succ]
theorem posTo_all (g s : List Int) : posTo g s 4 = posR (dfR g s) := by
  unfold posTo posR dfR
  simp only [List.getD_cons_zero, List.getD_cons_succ]
  simp [List.range, List.range.loop, Bool.decide_and]
end Go.Proofs.YtlfillhffpiffaaDoor

namespace Go.Proofs.YtlfillhffpiffaaDoor
set_option linter.unusedSimpArgs false
set_option linter.unusedVariables false
set_option maxRecDepth 8000
set_option maxHeartbeats 1000000
open Go Go.Fx Go.Proofs
namespace FactsUniNB
theorem ag65 : ag Tryd.prog 65 = some 9 := by kernel_rfl
theorem eqt65 : eqT Tryd.prog 65 = some [.int .i64, .int .i64, .int .i64, .int .i64, .int .i64, .int .i64, .int .i64, .int .i64, .int .i64] := by kernel_rfl
theorem es53 : esz Tryd.prog 53 = some 9 := by kernel_rfl
theorem fo55_0 : foff Tryd.prog 55 0 = some 0 := by kernel_rfl
theorem isl53 : isSl Tryd.prog 53 = true := by kernel_rfl
theorem mixed : Tryd.prog.follows .mixedOrders = true := by kernel_rfl
theorem sc53 : sc Tryd.prog 53 = true := by kernel_rfl
end FactsUniNB
open FactsUniNB

theorem eqN_ok {A A' : Option Addr} {cap cap' : Nat} {L L' : List (List Int)} (hL : Nine L) (hL' : Nine L') {H : Heap} (hS : SlT H Is 9 (.slice A L.length cap) L) (hS' : SlT H Is 9 (.slice A' L'.length cap') L') (hm : L.length ≤ 9223372036854775807) :
    Ret Tryd.prog 102 [.slice A L.length cap, .slice A' L'.length cap'] H (fun v H' => v = .bool (decide (L = L')) ∧ H' = H) := by
  refine Ret.of_at (N := 26) Tryd.call102 Tryd.func102 rfl rfl rfl ?_
  have hE := Ext.refl H

  refine At.region rfl rfl ?_
  refine Reg.pur rfl rfl rfl rfl (Pur.asg rfl) ?_
  refine Reg.nil ?_
  refine At.region rfl rfl ?_
  refine Reg.pur rfl rfl rfl rfl (Pur.mv rfl) ?_
  refine Reg.pur rfl rfl rfl rfl (Pur.lenS isl53 rfl) ?_
  refine Reg.pur rfl rfl rfl rfl (Pur.mv rfl) ?_
  refine Reg.pur rfl rfl rfl rfl (Pur.lenS isl53 rfl) ?_
  refine Reg.pur rfl rfl rfl rfl (Pur.neq rfl rfl) ?_
  refine Reg.nil ?_
  refine At.cond rfl rfl (fun q10 => ?_) (fun q10 => ?_)
  · first | (simp only [decide_eq_true_eq, decide_eq_false_iff_not, Bool.not_eq_true', Bool.not_eq_false', ne_eq, Decidable.not_not, Bool.not_eq_true, Bool.not_eq_false] at q10) | (dsimp only at q10) | skip
    refine At.region rfl rfl ?_
    refine Reg.pur rfl rfl rfl rfl (Pur.asg rfl) ?_
    refine Reg.nil ?_
    refine At.ret rfl Tryd.func102 rfl ?_
    exact ⟨congrArg Value.bool (decide_eq_false (fun h => by subst h; exact q10 rfl)).symm, rfl⟩
  first | (simp only [decide_eq_true_eq, decide_eq_false_iff_not, Bool.not_eq_true', Bool.not_eq_false', ne_eq, Decidable.not_not, Bool.not_eq_true, Bool.not_eq_false] at q10) | (dsimp only at q10) | skip
  have hll : L.length = L'.length := by omega
  refine At.region rfl rfl ?_
  refine Reg.pur rfl rfl rfl rfl (Pur.mv rfl) ?_
  refine Reg.pur rfl rfl rfl rfl (Pur.lenS isl53 rfl) ?_
  refine Reg.pur rfl rfl rfl rfl (Pur.mv rfl) ?_
  refine Reg.nil ?_
  refine At.loop (σ := Nat) (fun i => [(13, I i), (12, I L.length), (0, .slice A L.length cap), (1, .slice A' L'.length cap')]) (fun i H' => i ≤ L.length ∧ L.take i = L'.take i ∧ H' = H) (fun i => L.length - i) 0 rfl ⟨rfl, rfl, rfl, rfl, trivial⟩ ⟨by omega, rfl, rfl⟩ ?_
  rintro i H ⟨hi, hgo, rfl⟩ ih
  refine At.region rfl rfl ?_
  refine Reg.pur rfl rfl rfl rfl (Pur.lss rfl rfl) ?_
  refine Reg.nil ?_
  refine At.cond rfl rfl (fun q14 => ?_) (fun q14 => ?_)
  · first | (simp only [decide_eq_true_eq, decide_eq_false_iff_not, Bool.not_eq_true', Bool.not_eq_false', ne_eq, Decidable.not_not, Bool.not_eq_true, Bool.not_eq_false] at q14) | (dsimp only at q14) | skip
    refine At.region rfl rfl ?_
    refine Reg.pur rfl rfl rfl rfl (Pur.mv rfl) ?_
    refine Reg.pur rfl rfl rfl rfl (Pur.asg rfl) ?_
    refine Reg.nil ?_
    have hlt : i < L.length := by omega
    have hlt' : i < L'.length := by omega
    obtain ⟨b, o, c, rfl, hB, hd, h9⟩ := sl_at (wide9 hL) hS hlt
    obtain ⟨b', o', c', rfl, hB', hd', h9'⟩ := sl_at (wide9 hL') hS' hlt'
    have hf := fks_ints .i64 L[i]
    have hf' := fks_ints .i64 L'[i]
    rw [hL _ (List.getElem_mem hlt)] at hf
    rw [hL' _ (List.getElem_mem hlt')] at hf'
    have hq := eqs_ints .i64 L[i] L'[i]
    refine At.drawE ((Bks.cons hB.blk (Bks.cons hB'.blk Bks.nil))) [] mixed rfl rfl ?_
    refine RegD.tpur (i := 0) rfl rfl rfl rfl (by kernel_rfl) (Pur.mv rfl) ?_
    refine RegD.tpur (i := 1) rfl rfl rfl rfl (by kernel_rfl) (Pur.mv rfl) ?_
    refine RegD.tpur (i := 2) rfl rfl rfl rfl (by kernel_rfl) (Pur.idx _ es53 rfl rfl (by omega) (by omega)) ?_
    refine RegD.take (i := 3) rfl rfl rfl rfl (by kernel_rfl) (Bks.cons hB.blk (Bks.cons hB'.blk Bks.nil)) (fun H hS => Lod.ldn ag65 rfl hS.hd hd h9) ?_
    refine RegD.tpur (i := 4) rfl rfl rfl rfl (by kernel_rfl) (Pur.mv rfl) ?_
    refine RegD.tpur (i := 5) rfl rfl rfl rfl (by kernel_rfl) (Pur.mv rfl) ?_
    refine RegD.tpur (i := 6) rfl rfl rfl rfl (by kernel_rfl) (Pur.idx _ es53 rfl rfl (by omega) (by omega)) ?_
    refine RegD.take (i := 7) rfl rfl rfl rfl (by kernel_rfl) (Bks.cons hB.blk (Bks.cons hB'.blk Bks.nil)) (fun H hS => Lod.ldn ag65 rfl hS.tl.hd hd' h9') ?_
    refine RegD.tpur (i := 8) rfl rfl rfl rfl (by kernel_rfl) (Pur.neA eqt65 rfl rfl hf hf') ?_
    refine RegD.done (by kernel_rfl) ?_
    refine At.cond rfl rfl (fun q24 => ?_) (fun q24 => ?_)
    · first | (simp only [decide_eq_true_eq, decide_eq_false_iff_not, Bool.not_eq_true', Bool.not_eq_false', ne_eq, Decidable.not_not, Bool.not_eq_true, Bool.not_eq_false] at q24) | (dsimp only at q24) | skip
      refine At.region rfl rfl ?_
      refine Reg.pur rfl rfl rfl rfl (Pur.asg rfl) ?_
      refine Reg.nil ?_
      refine At.ret rfl Tryd.func102 rfl ?_
      refine ⟨congrArg Value.bool (decide_eq_false (fun h => ?_)).symm, rfl⟩
      subst h
      rw [hq] at q24
      simp at q24
    first | (simp only [decide_eq_true_eq, decide_eq_false_iff_not, Bool.not_eq_true', Bool.not_eq_false', ne_eq, Decidable.not_not, Bool.not_eq_true, Bool.not_eq_false] at q24) | (dsimp only at q24) | skip
    refine At.region rfl rfl ?_
    first | refine Reg.pur rfl rfl rfl rfl (Pur.add64 rfl rfl (by omega)) ?_ | refine Reg.pur rfl rfl rfl rfl (Pur.add64 rfl rfl (by assumption)) ?_ | refine Reg.pur rfl rfl rfl rfl (Pur.add rfl rfl) ?_
    refine Reg.pur rfl rfl rfl rfl (Pur.mv rfl) ?_
    refine Reg.nil ?_
    rw [hq] at q24
    have hq1 : L[i] = L'[i] := by simpa using q24
    exact At.meets rfl (ih (i + 1) _ ⟨by omega, by rw [List.take_succ_eq_append_getElem hlt, List.take_succ_eq_append_getElem hlt', hgo, hq1], rfl⟩ (by omega)) ⟨rfl, rfl, rfl, rfl, trivial⟩
  first | (simp only [decide_eq_true_eq, decide_eq_false_iff_not, Bool.not_eq_true', Bool.not_eq_false', ne_eq, Decidable.not_not, Bool.not_eq_true, Bool.not_eq_false] at q14) | (dsimp only at q14) | skip
  refine At.region rfl rfl ?_
  refine Reg.pur rfl rfl rfl rfl (Pur.asg rfl) ?_
  refine Reg.nil ?_
  refine At.ret rfl Tryd.func102 rfl ?_
  rw [List.take_of_length_le (by omega), List.take_of_length_le (by omega)] at hgo
  exact ⟨congrArg Value.bool (decide_eq_true hgo).symm, rfl⟩
theorem same_ok {A A' : Option Addr} {cap cap' yb yo zb zo : Nat} {cy cz : List Value} {L L' : List (List Int)} (hL : Nine L) (hL' : Nine L') (hcy : cy[yo]? = some (.slice A L.length cap)) (hcz : cz[zo]? = some (.slice A' L'.length cap')) {H : Heap} (hY : Blk H yb cy) (hZ : Blk H zb cz)
    (hS : SlT H Is 9 (.slice A L.length cap) L) (hS' : SlT H Is 9 (.slice A' L'.length cap') L') (hm : L.length ≤ 9223372036854775807) :
    Ret Tryd.prog 78 [ptr yb yo, ptr zb zo] H (fun v H' => v = .bool (decide (L = L')) ∧ H' = H) := by
  refine Ret.of_at (N := 14) Tryd.call78 Tryd.func78 rfl rfl rfl ?_
  have hE := Ext.refl H

  refine At.region rfl rfl ?_
  refine Reg.pur rfl rfl rfl rfl (Pur.asg rfl) ?_
  refine Reg.nil ?_
  refine At.drawE ((Bks.cons hY.blk (Bks.cons hZ.blk Bks.nil))) [8] mixed rfl rfl ?_
  refine RegD.tpur (i := 0) rfl rfl rfl rfl (by kernel_rfl) (Pur.mv rfl) ?_
  refine RegD.tpur (i := 1) rfl rfl rfl rfl (by kernel_rfl) (Pur.nilc rfl) ?_
  refine RegD.tpur (i := 2) rfl rfl rfl rfl (by kernel_rfl) (Pur.fld _ fo55_0 rfl) ?_
  refine RegD.take (i := 3) rfl rfl rfl rfl (by kernel_rfl) (Bks.cons hY.blk (Bks.cons hZ.blk Bks.nil)) (fun H hS => Lod.ld sc53 rfl hS.hd hcy) ?_
  refine RegD.tpur (i := 4) rfl rfl rfl rfl (by kernel_rfl) (Pur.mv rfl) ?_
  refine RegD.tpur (i := 5) rfl rfl rfl rfl (by kernel_rfl) (Pur.nilc rfl) ?_
  refine RegD.tpur (i := 6) rfl rfl rfl rfl (by kernel_rfl) (Pur.fld _ fo55_0 rfl) ?_
  refine RegD.take (i := 7) rfl rfl rfl rfl (by kernel_rfl) (Bks.cons hY.blk (Bks.cons hZ.blk Bks.nil)) (fun H hS => Lod.ld sc53 rfl hS.tl.hd hcz) ?_
  refine RegD.one (i := 8) (by kernel_rfl) rfl rfl rfl rfl (Does.call rfl (eqN_ok hL hL' hS hS' hm)) ?_
  rintro _ H ⟨rfl, rfl⟩
  refine ⟨fun h => (by cases h), ?_⟩
  refine RegD.tpur (i := 9) rfl rfl rfl rfl (by kernel_rfl) (Pur.asg rfl) ?_
  refine RegD.done (by kernel_rfl) ?_
  refine At.ret rfl Tryd.func78 rfl ?_
  exact ⟨rfl, rfl⟩
end Go.Proofs.YtlfillhffpiffaaDoor

namespace Go.Proofs.YtlfillhffpiffaaDoor
set_option linter.unusedSimpArgs false
set_option linter.unusedVariables false
set_option maxRecDepth 8000
set_option maxHeartbeats 1000000
open Go Go.Fx Go.Proofs
namespace FactsUniNC
theorem ag22 : ag Tryd.prog 22 = some 4 := by kernel_rfl
theorem ag24 : ag Tryd.prog 24 = some 5 := by kernel_rfl
theorem arr1_22 : arr1 Tryd.prog 22 = some 4 := by kernel_rfl
theorem arr22 : arr Tryd.prog 22 = some (4, 1) := by kernel_rfl
theorem eqt24 : eqT Tryd.prog 24 = some [.int .i64, .int .i64, .int .i64, .int .i64, .int .i64] := by kernel_rfl
theorem fo100_1 : foff Tryd.prog 100 1 = some 1 := by kernel_rfl
theorem fo24_0 : foff Tryd.prog 24 0 = some 0 := by kernel_rfl
theorem fo24_1 : foff Tryd.prog 24 1 = some 4 := by kernel_rfl
theorem mixed : Tryd.prog.follows .mixedOrders = true := by kernel_rfl
theorem pl24 : places Tryd.prog 24 = some [(0, 4), (4, 1)] := by kernel_rfl
theorem sc3 : sc Tryd.prog 3 = true := by kernel_rfl
theorem sc98 : sc Tryd.prog 98 = true := by kernel_rfl
theorem zc24 : zc Tryd.prog 24 = some [.int .i64 0, .int .i64 0, .int .i64 0, .int .i64 0, .int .i64 0] := by kernel_rfl
end FactsUniNC
open FactsUniNC

theorem zv_row : zv Tryd.prog 24 = some (.agg (Is [0, 0, 0, 0, 0]).toArray) := by kernel_rfl
def rst (g s : List Int) (k : Nat) : List Int := dfS g s k ++ [s.getD 4 0]
theorem rst_len (g s : List Int) (k : Nat) : (rst g s k).length = 5 := rfl
theorem rst_all (g s : List Int) : rst g s 4 = dfR g s := rfl
theorem rst_set (g s : List Int) {k : Nat} (h : k < 4) : (rst g s k).set k (s.getD k 0 - g.getD k 0) = rst g s (k + 1) := by
  unfold rst
  rw [List.set_append_left _ _ (by rw [dfS_len]; exact h), dfS_set g s h]
theorem rst_at (g s : List Int) {k : Nat} (h : k < 4) : (rst g s (k + 1)).getD k 0 = s.getD k 0 - g.getD k 0 := by
  have h1 := dfS_at g s h
  unfold rst
  rw [List.getD_eq_getElem?_getD, List.getElem?_append_left (by rw [dfS_len]; exact h), ← List.getD_eq_getElem?_getD, h1]
theorem neg_of {g s : List Int} {i : Nat} (hi : i < 4) (h : s.getD i 0 - g.getD i 0 < 0) : posR (dfR g s) = false := by
  unfold posR dfR
  rw [decide_eq_false_iff_not]
  simp only [List.getD_cons_zero, List.getD_cons_succ]
  match i, hi with
  | 0, _ => omega
  | 1, _ => omega
  | 2, _ => omega
  | 3, _ => omega
theorem df_none {g s : List Int} (hg5 : g.length = 5) (hs5 : s.length = 5) (h4 : g.getD 4 0 = -1) : dfR g s = [0, 0, 0, 0, -1] ↔ g = s := by
  obtain ⟨a, b, c, d, e, rfl⟩ := row_five hg5
  obtain ⟨a', b', c', d', e', rfl⟩ := row_five hs5
  have h4' : e = -1 := h4
  subst h4'
  simp only [dfR, List.getD_cons_zero, List.getD_cons_succ, List.cons.injEq, and_true]
  omega
def RwM (f : Int → Option Value) (M : List Bt) : Prop := (∀ v, f v = (findR M v).map (fun d => Value.agg (Is d).toArray)) ∧ ∀ v d, findR M v = some d → d.length = 5
theorem rw_upd {f : Int → Option Value} {M M' : List Bt} {g s : List Int} (h : RwM f M) (hp : ¬ posR (dfR g s) = false) (ht : ¬ g.getD 4 0 < 0) (e : instR M g s = some M') :
    RwM (fun j => if j = g.getD 4 0 then some (.agg (Is (rst g s 4)).toArray) else f j) M' := by
  unfold instR at e
  rw [if_neg hp, if_neg ht] at e
  cases hf : findR M (g.getD 4 0) with
  | none =>
    rw [hf] at e
    cases e
    have key : ∀ v, findR (M ++ [.r (g.getD 4 0) (dfR g s)]) v = if v = g.getD 4 0 then some (dfR g s) else findR M v := by
      intro v
      rw [findR_app]
      by_cases hv : v = g.getD 4 0
      · rw [if_pos hv, hv, hf]
        simp [findR]
      · rw [if_neg hv]
        cases findR M v with
        | some u => rfl
        | none => simp only [findR]; rw [if_neg (fun e => hv e.symm)]
    refine ⟨fun v => ?_, fun v d hd => ?_⟩
    · rw [key v, rst_all]
      show (if v = g.getD 4 0 then _ else _) = _
      by_cases hv : v = g.getD 4 0
      · rw [if_pos hv, if_pos hv]; rfl
      · rw [if_neg hv, if_neg hv]; exact h.1 v
    · rw [key v] at hd
      split at hd
      · cases hd; rfl
      · exact h.2 v d hd
  | some d =>
    rw [hf] at e
    dsimp only at e
    split at e
    · rename_i hd
      cases e
      refine ⟨fun v => ?_, h.2⟩
      show (if v = g.getD 4 0 then _ else _) = _
      by_cases hv : v = g.getD 4 0
      · rw [if_pos hv, hv, hf, rst_all, hd]; rfl
      · rw [if_neg hv]; exact h.1 v
    · cases e
theorem mrowG_ok {H : Heap} {mb b1 b2 gb go sb so : Nat} {cg cs : List Value} {f1 f2 : Int → Option Value} {M : List Bt} {g s : List Int} (hg5 : g.length = 5) (hg : rowM g = true) (hs5 : s.length = 5) (hs : rowM s = true)
    (om : Own H mb [.map (some b1), .map (some b2)]) (hM1 : Mp H b1 f1) (hM2 : Mp H b2 f2) (h12 : b1 ≠ b2) (hR : RwM f2 M) (hG : Blk H gb cg) (hcg : (cg.drop go).take 5 = Is g) (hZ : Blk H sb cs) (hcs : (cs.drop so).take 5 = Is s) :
    Ret Tryd.prog 80 [ptr mb 0, ptr gb go, ptr sb so] H (fun v H' => v = .bool (instR M g s).isSome ∧ ∃ f2', (∀ M', instR M g s = some M' → RwM f2' M') ∧ Mp H' b1 f1 ∧ Mp H' b2 f2' ∧ Chg b1 b2 H H') := by
  have zG := hG.lt
  have zZ := hZ.lt
  have zM := om.lt
  have z1 := hM1.lt
  have z2 := hM2.lt
  have n1 := hM1.ne hG
  have n2 := hM2.ne hG
  have n3 := hM1.ne hZ
  have n4 := hM2.ne hZ
  have n5 := hM1.ne om.blk
  have n6 := hM2.ne om.blk
  have hC : Chg b1 b2 H H := Chg.refl
  have ag := fun i (hi : i < 4) => rowM_all hg hi hg5
  have aS' := fun i (hi : i < 4) => rowM_all hs hi hs5
  have at4 := rowM_t hg
  have hgt : ∀ {j : Nat}, j < 5 → cg[go + j]? = some (I (g.getD j 0)) := fun hj => at_tk hcg hj (at_Is (by omega))
  have hst : ∀ {j : Nat}, j < 5 → cs[so + j]? = some (I (s.getD j 0)) := fun hj => at_tk hcs hj (at_Is (by omega))
  refine Ret.of_at (N := 78) Tryd.call80 Tryd.func80 rfl rfl rfl ?_
  have hE := Ext.refl H
  have z_hC := hC.lt
  have z_om := om.lt
  have z_hM1 := hM1.lt
  have z_hM2 := hM2.lt
  have z_hG := hG.lt
  have z_hZ := hZ.lt
  refine At.region rfl rfl ?_
  refine Reg.pur rfl rfl rfl rfl (Pur.asg rfl) ?_
  refine Reg.nil ?_
  refine At.region rfl rfl ?_
  refine Reg.pur rfl rfl rfl rfl (Pur.mv rfl) ?_
  refine Reg.pur rfl rfl rfl rfl (Pur.nilc rfl) ?_
  refine Reg.pur rfl rfl rfl rfl (Pur.fld _ fo24_1 rfl) ?_
  refine Reg.lod rfl rfl rfl rfl (Lod.ld sc3 rfl hZ (hst (j := 4) (by omega))) ?_
  refine Reg.pur rfl rfl rfl rfl (Pur.bld (cs := [_, _, _, _, _]) pl24 zc24 rfl rfl ⟨rfl, rfl, rfl, rfl, rfl, rfl⟩) ?_
  refine Reg.op rfl rfl rfl rfl (Does.alloc zc24) ?_
  rintro _ H1_5 ⟨rfl, hn1_5⟩
  have z1_5 := hn1_5.size
  replace hC := hC.ext hn1_5.ext
  replace om := om.ext hn1_5.ext
  replace hM1 := hM1.ext hn1_5.ext
  replace hM2 := hM2.ext hn1_5.ext
  replace hG := hG.ext hn1_5.ext
  replace hZ := hZ.ext hn1_5.ext
  have o1_5 := hn1_5.own
  refine Reg.op0 rfl rfl rfl (Does.stn ag24 rfl rfl (by first | rfl | exact ones_Is _) (by first | rfl | (simp [*]; done)) o1_5 (by first | decide | (simp; done) | (simp; omega) | omega)) ?_
  rintro _ H1_6 hu1_6
  have z1_6 := hu1_6.size
  replace hC := hC.upw hu1_6 (by omega)
  replace om := om.upw hu1_6 (by omega)
  replace hM1 := hM1.upw hu1_6 (by omega)
  replace hM2 := hM2.upw hu1_6 (by omega)
  replace hG := hG.upw hu1_6 (by omega)
  replace hZ := hZ.upw hu1_6 (by omega)
  replace o1_5 := hu1_6.own
  first | rw [over (by first | rfl | (simp; done))] at o1_5 | skip
  refine Reg.nil ?_

  have od : Own H1_6 H.size (Is (rst g s 0)) := o1_5
  have z_od := od.lt
  refine At.region rfl rfl ?_
  refine Reg.pur rfl rfl rfl rfl (Pur.mv rfl) ?_
  refine Reg.pur rfl rfl rfl rfl (Pur.nilc rfl) ?_
  refine Reg.pur rfl rfl rfl rfl (Pur.fld _ fo24_0 rfl) ?_
  refine Reg.lod rfl rfl rfl rfl (Lod.ldn ag22 rfl hG (show _ = Is (g.take 4) by rw [Nat.add_zero]; have h9 := congrArg (List.take 4) hcg; rw [List.take_take] at h9; rw [show min 4 5 = 4 from rfl] at h9; rw [h9]; simp [Is, List.map_take]) (by simp [Is]; omega)) ?_
  refine Reg.pur rfl rfl rfl rfl (Pur.mv rfl) ?_
  refine Reg.nil ?_
  have h4 : (g.take 4).length = 4 := by simp; omega
  refine At.loop (σ := Nat) (fun i => [(21, I i), (20, .agg (Is (g.take 4)).toArray), (7, ptr H.size 0), (0, ptr mb 0), (1, ptr gb go), (2, ptr sb so)]) (fun i H' => i ≤ 4 ∧ Chg b1 b2 H H' ∧ Own H' mb [.map (some b1), .map (some b2)] ∧ Mp H' b1 f1 ∧ Mp H' b2 f2 ∧ Blk H' gb cg ∧ Blk H' sb cs ∧ Own H' H.size (Is (rst g s i)) ∧ posTo g s i = true) (fun i => 4 - i) 0 rfl ⟨rfl, rfl, rfl, rfl, rfl, rfl, trivial⟩ ⟨by omega, hC, om, hM1, hM2, hG, hZ, od, rfl⟩ ?_
  clear hC om hM1 hM2 hG hZ od
  rintro i H2 ⟨hi, hC, om, hM1, hM2, hG, hZ, od, hpo⟩ ih
  have z_hC := hC.lt
  have z_om := om.lt
  have z_hM1 := hM1.lt
  have z_hM2 := hM2.lt
  have z_hG := hG.lt
  have z_hZ := hZ.lt
  have z_od := od.lt
  refine At.region rfl rfl ?_
  refine Reg.pur rfl rfl rfl rfl (Pur.lss rfl rfl) ?_
  refine Reg.nil ?_
  refine At.cond rfl rfl (fun q22 => ?_) (fun q22 => ?_)
  · first | (simp only [decide_eq_true_eq, decide_eq_false_iff_not, Bool.not_eq_true', Bool.not_eq_false', ne_eq, Decidable.not_not, Bool.not_eq_true, Bool.not_eq_false] at q22) | (dsimp only at q22) | skip
    have hlt : i < (g.take 4).length := by omega
    have hat := take4_at hg5 (i := i) (by omega)
    have hai : (Is (g.take 4))[(i : Int).toNat]? = some (I (g.getD i 0)) := by
      have : (Is (g.take 4))[i]? = some (I (g.take 4)[i]) := by simp only [Is, List.getElem?_map, List.getElem?_eq_getElem hlt, Option.map_some]
      rw [hat] at this
      exact this
    have hi4 : i < 4 := by omega
    have hg1 := ag i hi4
    have hs1 := aS' i hi4
    refine At.region rfl rfl ?_
    refine Reg.pur rfl rfl rfl rfl (Pur.mv rfl) ?_
    refine Reg.pur rfl rfl rfl rfl (Pur.ixA arr1_22 rfl rfl (by omega) (by omega) hai) ?_
    refine Reg.pur rfl rfl rfl rfl (Pur.asg rfl) ?_
    refine Reg.pur rfl rfl rfl rfl (Pur.asg rfl) ?_
    refine Reg.nil ?_
    refine At.region rfl rfl ?_
    refine Reg.pur rfl rfl rfl rfl (Pur.mv rfl) ?_
    refine Reg.pur rfl rfl rfl rfl (Pur.mv rfl) ?_
    refine Reg.pur rfl rfl rfl rfl (Pur.mv rfl) ?_
    refine Reg.pur rfl rfl rfl rfl (Pur.nilc rfl) ?_
    refine Reg.pur rfl rfl rfl rfl (Pur.fld _ fo24_0 rfl) ?_
    refine Reg.pur rfl rfl rfl rfl (Pur.idxP arr22 rfl rfl (by omega) (by omega)) ?_
    refine Reg.lod rfl rfl rfl rfl (Lod.ld sc3 rfl hZ (show _ = some (I (s.getD i 0)) by rw [show so + 0 + (i : Int).toNat * 1 = so + i by omega]; exact hst (by omega))) ?_
    refine Reg.pur rfl rfl rfl rfl (Pur.mv rfl) ?_
    first | refine Reg.pur rfl rfl rfl rfl (Pur.sub64 rfl rfl (by omega)) ?_ | refine Reg.pur rfl rfl rfl rfl (Pur.sub64 rfl rfl (by assumption)) ?_ | refine Reg.pur rfl rfl rfl rfl (Pur.sub rfl rfl) ?_
    refine Reg.pur rfl rfl rfl rfl (Pur.fld _ fo24_0 rfl) ?_
    refine Reg.pur rfl rfl rfl rfl (Pur.idxP arr22 rfl rfl (by omega) (by omega)) ?_
    refine Reg.op0 rfl rfl rfl (Does.st sc3 rfl rfl rfl od (by simp [rst_len]; omega)) ?_
    rintro _ H5_11 hu5_11
    have z5_11 := hu5_11.size
    replace hC := hC.upw hu5_11 (by omega)
    replace om := om.upw hu5_11 (by omega)
    replace hM1 := hM1.upw hu5_11 (by omega)
    replace hM2 := hM2.upw hu5_11 (by omega)
    replace hG := hG.upw hu5_11 (by omega)
    replace hZ := hZ.upw hu5_11 (by omega)
    replace od := hu5_11.own
    replace od := od.of (c' := Is (rst g s (i + 1))) (by rw [← rst_set g s hi4, show 0 + 0 + (i : Int).toNat * 1 = i by omega]; simp [Is, List.map_set])
    refine Reg.nil ?_
    refine At.region rfl rfl ?_
    refine Reg.pur rfl rfl rfl rfl (Pur.mv rfl) ?_
    refine Reg.pur rfl rfl rfl rfl (Pur.fld _ fo24_0 rfl) ?_
    refine Reg.pur rfl rfl rfl rfl (Pur.idxP arr22 rfl rfl (by omega) (by omega)) ?_
    refine Reg.lod rfl rfl rfl rfl (Lod.ld sc3 rfl od.blk (show _ = some (I ((rst g s (i + 1)).getD i 0)) by rw [show 0 + 0 + (i : Int).toNat * 1 = i by omega]; exact at_Is (by rw [rst_len]; omega))) ?_
    refine Reg.pur rfl rfl rfl rfl (Pur.lss rfl rfl) ?_
    refine Reg.nil ?_
    refine At.cond rfl rfl (fun q40 => ?_) (fun q40 => ?_)
    · first | (simp only [decide_eq_true_eq, decide_eq_false_iff_not, Bool.not_eq_true', Bool.not_eq_false', ne_eq, Decidable.not_not, Bool.not_eq_true, Bool.not_eq_false] at q40) | (dsimp only at q40) | skip
      refine At.region rfl rfl ?_
      refine Reg.pur rfl rfl rfl rfl (Pur.asg rfl) ?_
      refine Reg.nil ?_
      refine At.ret rfl Tryd.func80 rfl ?_
      have hne : instR M g s = none := by unfold instR; rw [if_pos (neg_of hi4 (by rw [rst_at g s hi4] at q40; exact q40))]
      exact ⟨by rw [hne]; rfl, f2, (fun M' h => by rw [hne] at h; cases h), hM1, hM2, hC⟩
    first | (simp only [decide_eq_true_eq, decide_eq_false_iff_not, Bool.not_eq_true', Bool.not_eq_false', ne_eq, Decidable.not_not, Bool.not_eq_true, Bool.not_eq_false] at q40) | (dsimp only at q40) | skip
    refine At.region rfl rfl ?_
    first | refine Reg.pur rfl rfl rfl rfl (Pur.add64 rfl rfl (by omega)) ?_ | refine Reg.pur rfl rfl rfl rfl (Pur.add64 rfl rfl (by assumption)) ?_ | refine Reg.pur rfl rfl rfl rfl (Pur.add rfl rfl) ?_
    refine Reg.pur rfl rfl rfl rfl (Pur.mv rfl) ?_
    refine Reg.nil ?_
    have hps := posTo_succ g s i
    rw [rst_at g s hi4] at q40
    exact At.meets rfl (ih (i + 1) _ ⟨by omega, hC, om, hM1, hM2, hG, hZ, od, by rw [hps, hpo, decide_eq_true (by omega)]; rfl⟩ (by omega)) ⟨rfl, rfl, rfl, rfl, rfl, rfl, trivial⟩
  first | (simp only [decide_eq_true_eq, decide_eq_false_iff_not, Bool.not_eq_true', Bool.not_eq_false', ne_eq, Decidable.not_not, Bool.not_eq_true, Bool.not_eq_false] at q22) | (dsimp only at q22) | skip
  obtain rfl : i = 4 := by omega
  rw [posTo_all] at hpo
  have hpn : ¬ posR (dfR g s) = false := by rw [hpo]; decide
  clear ih
  refine At.region rfl rfl ?_
  refine Reg.pur rfl rfl rfl rfl (Pur.mv rfl) ?_
  refine Reg.pur rfl rfl rfl rfl (Pur.nilc rfl) ?_
  refine Reg.pur rfl rfl rfl rfl (Pur.fld _ fo24_1 rfl) ?_
  refine Reg.lod rfl rfl rfl rfl (Lod.ld sc3 rfl hG (hgt (j := 4) (by omega))) ?_
  refine Reg.pur rfl rfl rfl rfl (Pur.eql rfl rfl) ?_
  refine Reg.nil ?_
  refine At.cond rfl rfl (fun q46 => ?_) (fun q46 => ?_)
  · first | (simp only [decide_eq_true_eq, decide_eq_false_iff_not, Bool.not_eq_true', Bool.not_eq_false', ne_eq, Decidable.not_not, Bool.not_eq_true, Bool.not_eq_false] at q46) | (dsimp only at q46) | skip
    have hfr := fks_ints .i64 (rst g s 4)
    have hfn := fks_ints .i64 [0, 0, 0, 0, -1]
    have hei := eqs_ints .i64 (rst g s 4) [0, 0, 0, 0, -1]
    refine At.region rfl rfl ?_
    refine Reg.lod rfl rfl rfl rfl (Lod.ldn ag24 rfl od.blk (whole rfl) rfl) ?_
    refine Reg.pur rfl rfl rfl rfl (Pur.bld (cs := [_, _, _, _, _]) pl24 zc24 rfl rfl ⟨rfl, rfl, rfl, rfl, rfl, rfl⟩) ?_
    refine Reg.pur rfl rfl rfl rfl (Pur.eqA eqt24 rfl rfl hfr hfn) ?_
    refine Reg.pur rfl rfl rfl rfl (Pur.asg rfl) ?_
    refine Reg.nil ?_
    refine At.ret rfl Tryd.func80 rfl ?_
    have hio : instR M g s = if g = s then some M else none := by unfold instR; rw [if_neg hpn, if_pos (by omega)]
    have hdn := df_none hg5 hs5 q46
    refine ⟨?_, f2, fun M' hM' => ?_, hM1, hM2, hC⟩
    · refine (congrArg Value.bool hei).trans ?_
      rw [hio, rst_all]
      by_cases h : g = s
      · rw [if_pos h, decide_eq_true (hdn.2 h)]; rfl
      · rw [if_neg h, decide_eq_false (fun e => h (hdn.1 e))]; rfl
    · rw [hio] at hM'; split at hM' <;> cases hM'; exact hR
  first | (simp only [decide_eq_true_eq, decide_eq_false_iff_not, Bool.not_eq_true', Bool.not_eq_false', ne_eq, Decidable.not_not, Bool.not_eq_true, Bool.not_eq_false] at q46) | (dsimp only at q46) | skip
  have hk0 : ¬ g.getD 4 0 < 0 := by omega
  have hd5 : ((findR M (g.getD 4 0)).getD [0, 0, 0, 0, 0]).length = 5 := by cases hf : findR M (g.getD 4 0) with | none => rfl | some d => exact hR.2 _ d hf
  have hv1 : (f2 (g.getD 4 0)).getD (.agg (Is [0, 0, 0, 0, 0]).toArray) = .agg (Is ((findR M (g.getD 4 0)).getD [0, 0, 0, 0, 0])).toArray := by rw [hR.1]; cases findR M (g.getD 4 0) <;> rfl
  have hv2 : (f2 (g.getD 4 0)).isSome = (findR M (g.getD 4 0)).isSome := by rw [hR.1]; cases findR M (g.getD 4 0) <;> rfl
  refine At.drawM ((And.intro (Bks.cons om.blk (Bks.cons hG.blk Bks.nil)) hM2)) [13] mixed rfl rfl ?_
  refine RegD.tpur (i := 0) rfl rfl rfl rfl (by kernel_rfl) (Pur.mv rfl) ?_
  refine RegD.tpur (i := 1) rfl rfl rfl rfl (by kernel_rfl) (Pur.nilc rfl) ?_
  refine RegD.tpur (i := 2) rfl rfl rfl rfl (by kernel_rfl) (Pur.fld _ fo100_1 rfl) ?_
  refine RegD.take (i := 3) rfl rfl rfl rfl (by kernel_rfl) (And.intro (Bks.cons om.blk (Bks.cons hG.blk Bks.nil)) hM2) (fun H hS => Lod.ld sc98 rfl hS.1.hd rfl) ?_
  refine RegD.tpur (i := 4) rfl rfl rfl rfl (by kernel_rfl) (Pur.mv rfl) ?_
  refine RegD.tpur (i := 5) rfl rfl rfl rfl (by kernel_rfl) (Pur.nilc rfl) ?_
  refine RegD.tpur (i := 6) rfl rfl rfl rfl (by kernel_rfl) (Pur.fld _ fo24_1 rfl) ?_
  refine RegD.take (i := 7) rfl rfl rfl rfl (by kernel_rfl) (And.intro (Bks.cons om.blk (Bks.cons hG.blk Bks.nil)) hM2) (fun H hS => Lod.ld sc3 rfl hS.1.tl.hd (hgt (j := 4) (by omega))) ?_
  refine RegD.take (i := 8) rfl rfl rfl rfl (by kernel_rfl) (And.intro (Bks.cons om.blk (Bks.cons hG.blk Bks.nil)) hM2) (fun H hS => Lod.mlk' Tryd.underlying98 Tryd.underlying3 zv_row hv1 hv2 rfl rfl hS.2) ?_
  refine RegD.tpur (i := 9) rfl rfl rfl rfl (by kernel_rfl) (Pur.mv rfl) ?_
  refine RegD.tpur (i := 10) rfl rfl rfl rfl (by kernel_rfl) (Pur.ext rfl rfl) ?_
  refine RegD.tpur (i := 11) rfl rfl rfl rfl (by kernel_rfl) (Pur.ext rfl rfl) ?_
  refine RegD.one (i := 12) (by kernel_rfl) rfl rfl rfl rfl (Does.alloc zc24) ?_
  rintro _ H11_12 ⟨rfl, hn11_12⟩
  have z11_12 := hn11_12.size
  replace hC := hC.ext hn11_12.ext
  replace om := om.ext hn11_12.ext
  replace hM1 := hM1.ext hn11_12.ext
  replace hM2 := hM2.ext hn11_12.ext
  replace hG := hG.ext hn11_12.ext
  replace hZ := hZ.ext hn11_12.ext
  replace od := od.ext hn11_12.ext
  have o11_12 := hn11_12.own
  refine ⟨fun _ _ => (And.intro (Bks.cons om.blk (Bks.cons hG.blk Bks.nil)) hM2), ?_⟩
  refine RegD.one0 (i := 13) (by kernel_rfl) rfl rfl rfl (Does.stn ag24 rfl rfl (ones_Is _) (by rw [List.length_map]; exact hd5) o11_12 (by decide)) ?_
  rintro _ H11_13 hu11_13
  have z11_13 := hu11_13.size
  replace hC := hC.upw hu11_13 (by omega)
  replace om := om.upw hu11_13 (by omega)
  replace hM1 := hM1.upw hu11_13 (by omega)
  replace hM2 := hM2.upw hu11_13 (by omega)
  replace hG := hG.upw hu11_13 (by omega)
  replace hZ := hZ.upw hu11_13 (by omega)
  replace od := od.upw hu11_13 (by omega)
  replace o11_12 := hu11_13.own
  first | rw [over (by first | rfl | (simp; done))] at o11_12 | skip
  refine ⟨fun h => (by cases h), ?_⟩
  refine RegD.tpur (i := 14) rfl rfl rfl rfl (by kernel_rfl) (Pur.asg rfl) ?_
  refine RegD.done (by kernel_rfl) ?_
  refine At.drawE ((Bks.cons om.blk (Bks.cons hG.blk (Bks.cons od.blk Bks.nil)))) [9] mixed rfl rfl ?_
  refine RegD.tpur (i := 0) rfl rfl rfl rfl (by kernel_rfl) (Pur.mv rfl) ?_
  refine RegD.tpur (i := 1) rfl rfl rfl rfl (by kernel_rfl) (Pur.nilc rfl) ?_
  refine RegD.tpur (i := 2) rfl rfl rfl rfl (by kernel_rfl) (Pur.fld _ fo100_1 rfl) ?_
  refine RegD.take (i := 3) rfl rfl rfl rfl (by kernel_rfl) (Bks.cons om.blk (Bks.cons hG.blk (Bks.cons od.blk Bks.nil))) (fun H hS => Lod.ld sc98 rfl hS.hd rfl) ?_
  refine RegD.tpur (i := 4) rfl rfl rfl rfl (by kernel_rfl) (Pur.mv rfl) ?_
  refine RegD.tpur (i := 5) rfl rfl rfl rfl (by kernel_rfl) (Pur.nilc rfl) ?_
  refine RegD.tpur (i := 6) rfl rfl rfl rfl (by kernel_rfl) (Pur.fld _ fo24_1 rfl) ?_
  refine RegD.take (i := 7) rfl rfl rfl rfl (by kernel_rfl) (Bks.cons om.blk (Bks.cons hG.blk (Bks.cons od.blk Bks.nil))) (fun H hS => Lod.ld sc3 rfl hS.tl.hd (hgt (j := 4) (by omega))) ?_
  refine RegD.take (i := 8) rfl rfl rfl rfl (by kernel_rfl) (Bks.cons om.blk (Bks.cons hG.blk (Bks.cons od.blk Bks.nil))) (fun H hS => Lod.ldn ag24 rfl hS.tl.tl.hd (whole rfl) rfl) ?_

  refine RegD.one0 (i := 9) (by kernel_rfl) rfl rfl rfl (Does.mup Tryd.underlying98 Tryd.underlying3 rfl rfl rfl hM2) ?_
  rintro _ H12_9 ⟨hm12_9, hbut12_9, hsz12_9⟩
  have z12_9 := hbut12_9.lt
  replace hC := hC.via hbut12_9 (by first | omega | (intro g; omega) | (intro g hg; omega) | (intro g hg h; omega))
  replace om := om.via hbut12_9 (by first | omega | (intro g; omega) | (intro g hg; omega) | (intro g hg h; omega))
  replace hM1 := hM1.via hbut12_9 (by first | omega | (intro g; omega) | (intro g hg; omega) | (intro g hg h; omega))
  replace hG := hG.via hbut12_9 (by first | omega | (intro g; omega) | (intro g hg; omega) | (intro g hg h; omega))
  replace hZ := hZ.via hbut12_9 (by first | omega | (intro g; omega) | (intro g hg; omega) | (intro g hg h; omega))
  replace od := od.via hbut12_9 (by first | omega | (intro g; omega) | (intro g hg; omega) | (intro g hg h; omega))
  replace o11_12 := o11_12.via hbut12_9 (by first | omega | (intro g; omega) | (intro g hg; omega) | (intro g hg h; omega))
  refine ⟨fun h => (by cases h), ?_⟩
  refine RegD.done (by kernel_rfl) ?_
  have hfd := fks_ints .i64 ((findR M (g.getD 4 0)).getD [0, 0, 0, 0, 0])
  rw [hd5] at hfd
  have hfr := fks_ints .i64 (rst g s 4)
  have hei := eqs_ints .i64 ((findR M (g.getD 4 0)).getD [0, 0, 0, 0, 0]) (rst g s 4)
  refine At.region rfl rfl ?_
  refine Reg.pur rfl rfl rfl rfl (Pur.mv rfl) ?_
  refine Reg.pur rfl rfl rfl rfl (Pur.not rfl) ?_
  refine Reg.pur rfl rfl rfl rfl (Pur.mv rfl) ?_
  refine Reg.case 73 rfl (fun q73 => ?_) (fun q73 => ?_)
  · first | (simp only [decide_eq_true_eq, decide_eq_false_iff_not, Bool.not_eq_true', Bool.not_eq_false', ne_eq, Decidable.not_not, Bool.not_eq_true, Bool.not_eq_false] at q73) | (dsimp only at q73) | skip
    refine Reg.skip rfl rfl rfl rfl rfl rfl rfl ?_
    refine Reg.skip rfl rfl rfl rfl rfl rfl rfl ?_
    refine Reg.skip rfl rfl rfl rfl rfl rfl rfl ?_
    refine Reg.pur rfl rfl rfl rfl (Pur.pickT rfl rfl) ?_
    refine Reg.pur rfl rfl rfl rfl (Pur.asg rfl) ?_
    refine Reg.nil ?_
    refine At.ret rfl Tryd.func80 rfl ?_
    have hio : instR M g s = match findR M (g.getD 4 0) with | none => some (M ++ [.r (g.getD 4 0) (dfR g s)]) | some d => if d = dfR g s then some M else none := by unfold instR; rw [if_neg hpn, if_neg hk0]; try (cases findR M (g.getD 4 0) <;> rfl)
    refine ⟨?_, _, fun M' hM' => rw_upd hR hpn hk0 hM', hM1, hm12_9, hC⟩
    cases hf : findR M (g.getD 4 0) with
    | none => first | (rw [hf] at q73; cases q73; done) | (rw [hio, hf]; rfl)
    | some d =>
      first
      | (rw [hf] at q73; cases q73; done)
      | (rw [hf] at hei
         refine (congrArg Value.bool hei).trans ?_
         rw [hio, hf, rst_all]
         show Value.bool (decide (d = dfR g s)) = Value.bool (if d = dfR g s then some M else none).isSome
         by_cases h : d = dfR g s
         · rw [if_pos h, decide_eq_true h]; rfl
         · rw [if_neg h, decide_eq_false h]; rfl)
  first | (simp only [decide_eq_true_eq, decide_eq_false_iff_not, Bool.not_eq_true', Bool.not_eq_false', ne_eq, Decidable.not_not, Bool.not_eq_true, Bool.not_eq_false] at q73) | (dsimp only at q73) | skip
  refine Reg.glod rfl rfl rfl rfl rfl rfl (Lod.ldn ag24 rfl o11_12.blk (whole (by rw [List.length_map]; exact hd5)) (by rw [List.length_map]; exact hd5)) ?_
  refine Reg.glod rfl rfl rfl rfl rfl rfl (Lod.ldn ag24 rfl od.blk (whole rfl) rfl) ?_
  refine Reg.gpur rfl rfl rfl rfl rfl rfl (Pur.eqA eqt24 rfl rfl hfd hfr) ?_
  refine Reg.pur rfl rfl rfl rfl (Pur.pickF rfl rfl) ?_
  refine Reg.pur rfl rfl rfl rfl (Pur.asg rfl) ?_
  refine Reg.nil ?_
  refine At.ret rfl Tryd.func80 rfl ?_
  have hio : instR M g s = match findR M (g.getD 4 0) with | none => some (M ++ [.r (g.getD 4 0) (dfR g s)]) | some d => if d = dfR g s then some M else none := by unfold instR; rw [if_neg hpn, if_neg hk0]; try (cases findR M (g.getD 4 0) <;> rfl)
  refine ⟨?_, _, fun M' hM' => rw_upd hR hpn hk0 hM', hM1, hm12_9, hC⟩
  cases hf : findR M (g.getD 4 0) with
  | none => first | (rw [hf] at q73; cases q73; done) | (rw [hio, hf]; rfl)
  | some d =>
    first
    | (rw [hf] at q73; cases q73; done)
    | (rw [hf] at hei
       refine (congrArg Value.bool hei).trans ?_
       rw [hio, hf, rst_all]
       show Value.bool (decide (d = dfR g s)) = Value.bool (if d = dfR g s then some M else none).isSome
       by_cases h : d = dfR g s
       · rw [if_pos h, decide_eq_true h]; rfl
       · rw [if_neg h, decide_eq_false h]; rfl)
end Go.Proofs.YtlfillhffpiffaaDoor

namespace Go.Proofs.YtlfillhffpiffaaDoor
set_option linter.unusedSimpArgs false
set_option linter.unusedVariables false
set_option maxRecDepth 8000
set_option maxHeartbeats 1000000
open Go Go.Fx Go.Proofs
namespace FactsUniZ

end FactsUniZ
open FactsUniZ

theorem enc_inj {t u : Tm} (ht : t.ok) (hu : u.ok) (htz : t.sz ≤ 256) (h : t.enc 0 = u.enc 0) : t = u := by
  suffices key : ∀ (t u : Tm) (k : Int), t.ok → u.ok → t.enc k = u.enc k → t = u from key t u 0 ht hu h
  intro t
  induction t with
  | bas k =>
    intro u j _ _ h
    cases u with
    | bas l => cases k <;> cases l <;> first | rfl | (simp [Tm.enc] at h)
    | var v => cases k <;> simp [Tm.enc] at h
    | fn a r b =>
      have := congrArg List.length h
      rw [Tm.enc_len, Tm.enc_len] at this
      have := a.sz_pos; have := b.sz_pos
      simp only [Tm.sz] at *; omega
  | var v =>
    intro u j _ _ h
    cases u with
    | bas l => cases l <;> simp [Tm.enc] at h
    | var w => simp [Tm.enc] at h; rw [h]
    | fn a r b =>
      have := congrArg List.length h
      rw [Tm.enc_len, Tm.enc_len] at this
      have := a.sz_pos; have := b.sz_pos
      simp only [Tm.sz] at *; omega
  | fn a r b iha ihb =>
    intro u j ht hu h
    cases u with
    | bas l =>
      have := congrArg List.length h
      rw [Tm.enc_len, Tm.enc_len] at this
      have := a.sz_pos; have := b.sz_pos
      simp only [Tm.sz] at *; omega
    | var w =>
      have := congrArg List.length h
      rw [Tm.enc_len, Tm.enc_len] at this
      have := a.sz_pos; have := b.sz_pos
      simp only [Tm.sz] at *; omega
    | fn a' r' b' =>
      simp only [Tm.enc] at h
      have hlen := congrArg List.length h
      simp only [List.length_append, Tm.enc_len, List.length_singleton] at hlen
      have h2 := List.append_inj_right' h rfl
      have h1 := List.append_inj_left' h rfl
      simp only [List.cons.injEq, and_true, List.cons_append, List.nil_append] at h2
      have hsz : a.sz = a'.sz := by have := h2.2.2.1; omega
      have e1 := List.append_inj_left h1 (by rw [Tm.enc_len, Tm.enc_len, hsz])
      have e2 := List.append_inj_right h1 (by rw [Tm.enc_len, Tm.enc_len, hsz])
      rw [← hsz] at e2
      rw [iha a' j ht.1 hu.1 e1, ihb b' _ ht.2.2.2 hu.2.2.2 e2, h2.2.2.2.2]
end Go.Proofs.YtlfillhffpiffaaDoor

namespace Go.Proofs.YtlfillhffpiffaaDoor
set_option linter.unusedSimpArgs false
set_option linter.unusedVariables false
set_option maxRecDepth 8000
set_option maxHeartbeats 600000
open Go Go.Fx Go.Proofs
namespace FactsUniND
theorem ag55 : ag Tryd.prog 55 = some 1 := by kernel_rfl
theorem fo100_0 : foff Tryd.prog 100 0 = some 0 := by kernel_rfl
theorem fo65_0 : foff Tryd.prog 65 0 = some 0 := by kernel_rfl
theorem fo65_1 : foff Tryd.prog 65 1 = some 1 := by kernel_rfl
theorem fo65_4 : foff Tryd.prog 65 4 = some 4 := by kernel_rfl
theorem mixed : Tryd.prog.follows .mixedOrders = true := by kernel_rfl
theorem sc3 : sc Tryd.prog 3 = true := by kernel_rfl
theorem sc97 : sc Tryd.prog 97 = true := by kernel_rfl
theorem zc55 : zc Tryd.prog 55 = some [.slice none 0 0] := by kernel_rfl
end FactsUniND
open FactsUniND

theorem zv_type : zv Tryd.prog 55 = some (.agg #[.slice none 0 0]) := by kernel_rfl
theorem at0 (v : Value) : ([v] : List Value)[0]? = some v := rfl
theorem one_at {c : List Value} {o : Nat} {v : Value} (h : c[o]? = some v) : (c.drop o).take 1 = [v] := by
  have hl : o < c.length := by
    rcases Nat.lt_or_ge o c.length with h' | h'
    · exact h'
    · rw [List.getElem?_eq_none h'] at h; cases h
  rw [List.drop_eq_getElem_cons hl]
  rw [List.getElem?_eq_getElem hl] at h
  simp at h
  simp [h]
def TyM (H : Heap) (f : Int → Option Value) (M : List Bt) : Prop := ∀ v, (findT M v = none → f v = none) ∧ ∀ t, findT M v = some t → t.ok ∧ t.sz ≤ 256 ∧ ∃ A cap, f v = some (.agg #[.slice A (t.enc 0).length cap]) ∧ SlT H Is 9 (.slice A (t.enc 0).length cap) (t.enc 0)
theorem TyM.chg {b1 b2 : Nat} {H H' : Heap} {f g1 g2 : Int → Option Value} {M : List Bt} (h : TyM H f M) (h1 : Mp H b1 g1) (h2 : Mp H b2 g2) (hC : Chg b1 b2 H H') : TyM H' f M := fun v =>
  ⟨(h v).1, fun t ht => by
    obtain ⟨k1, k2, A, cap, k3, k4⟩ := (h v).2 t ht
    exact ⟨k1, k2, A, cap, k3, sl_but k4 h1 h2 hC⟩⟩
theorem ty_upd {H : Heap} {f : Int → Option Value} {M M' : List Bt} {v : Int} {s : Tm} {A : Option Addr} {cap : Nat} (h : TyM H f M) (hs : SlT H Is 9 (.slice A (s.enc 0).length cap) (s.enc 0)) (ho : s.ok) (hz : s.sz ≤ 256) (e : inst M (.var v) s = some M') :
    TyM H (fun j => if j = v then some (.agg #[.slice A (s.enc 0).length cap]) else f j) M' := by
  have key : ∀ w, findT M' w = if w = v then some s else findT M w := by
    intro w
    cases hf : findT M v with
    | none =>
      simp only [inst, hf] at e
      cases e
      rw [findT_app]
      by_cases hw : w = v
      · rw [if_pos hw, hw, hf]; simp [findT]
      · rw [if_neg hw]
        cases findT M w with
        | some u => rfl
        | none => simp only [findT]; rw [if_neg (fun e => hw e.symm)]
    | some t =>
      simp only [inst, hf] at e
      split at e
      · rename_i ht
        cases e
        by_cases hw : w = v
        · rw [if_pos hw, hw, hf, ht]
        · rw [if_neg hw]
      · cases e
  intro w
  rw [key w]
  by_cases hw : w = v
  · refine ⟨fun h0 => (by rw [if_pos hw] at h0; cases h0), fun t ht => ?_⟩
    rw [if_pos hw] at ht
    cases ht
    exact ⟨ho, hz, A, cap, if_pos hw, hs⟩
  · refine ⟨fun h0 => ?_, fun t ht => ?_⟩
    · rw [if_neg hw] at h0
      exact (if_neg hw).trans ((h w).1 h0)
    · rw [if_neg hw] at ht
      obtain ⟨k1, k2, A', cap', k3, k4⟩ := (h w).2 t ht
      exact ⟨k1, k2, A', cap', (if_neg hw).trans k3, k4⟩
theorem rw_t {f : Int → Option Value} {M M' : List Bt} {v : Int} {s : Tm} (h : RwM f M) (e : inst M (.var v) s = some M') : RwM f M' := by
  have key : ∀ w, findR M' w = findR M w := by
    intro w
    cases hf : findT M v with
    | none =>
      simp only [inst, hf] at e
      cases e
      rw [findR_app]
      cases findR M w with
      | some u => rfl
      | none => rfl
    | some t =>
      simp only [inst, hf] at e
      split at e
      · cases e; rfl
      · cases e
  exact ⟨fun w => by rw [key w]; exact h.1 w, fun w d hd => h.2 w d (by rw [← key w]; exact hd)⟩
theorem ty_r {H : Heap} {f : Int → Option Value} {M M' : List Bt} {g s : List Int} (h : TyM H f M) (e : instR M g s = some M') : TyM H f M' := by
  have key : ∀ w, findT M' w = findT M w := by
    intro w
    unfold instR at e
    split at e
    · cases e
    · split at e
      · split at e
        · cases e; rfl
        · cases e
      · split at e
        · cases e
          rw [findT_app]
          cases findT M w with
          | some u => rfl
          | none => rfl
        · split at e
          · cases e; rfl
          · cases e
  exact fun w => ⟨fun h0 => (h w).1 (by rw [← key w]; exact h0), fun t ht => (h w).2 t (by rw [← key w]; exact ht)⟩
def TyR (b1 b2 : Nat) (H : Heap) (r : Option (List Bt)) (v : Value) (H' : Heap) : Prop := v = .bool r.isSome ∧ ∃ f1' f2', (∀ M', r = some M' → TyM H' f1' M' ∧ RwM f2' M') ∧ Mp H' b1 f1' ∧ Mp H' b2 f2' ∧ Chg b1 b2 H H'
theorem inst_leaf {M : List Bt} {p q : Tm} (h2 : p.lst.getD 0 0 ≠ 2) (h : p.lst.getD 0 0 ≠ q.lst.getD 0 0 ∨ p.lst.getD 0 0 ≠ 3) : inst M p q = if p.lst.getD 0 0 = q.lst.getD 0 0 then some M else none := by
  cases p with
  | var v => exact absurd rfl h2
  | bas k =>
    cases q with
    | bas l => cases k <;> cases l <;> rfl
    | var v => cases k <;> rfl
    | fn a r b => cases k <;> rfl
  | fn a r b =>
    cases q with
    | bas l => cases l <;> rfl
    | var v => rfl
    | fn a' r' b' => exact (h.elim (fun h => absurd rfl h) (fun h => absurd rfl h))
theorem typedG_ok {mb b1 b2 : Nat} (h12 : b1 ≠ b2) : ∀ (n : Nat) (p q : Tm), p.sz ≤ n → p.ok → p.sz ≤ 256 → q.ok → q.sz ≤ 256 → ∀ {H : Heap} {yb yo zb zo cp cq : Nat} {Ap Aq : Option Addr} {cy cz : List Value} {f1 f2 : Int → Option Value} {M : List Bt},
    Own H mb [.map (some b1), .map (some b2)] → Mp H b1 f1 → Mp H b2 f2 → TyM H f1 M → RwM f2 M → Blk H yb cy → cy[yo]? = some (.slice Ap (p.enc 0).length cp) → SlT H Is 9 (.slice Ap (p.enc 0).length cp) (p.enc 0) → Blk H zb cz → cz[zo]? = some (.slice Aq (q.enc 0).length cq) → SlT H Is 9 (.slice Aq (q.enc 0).length cq) (q.enc 0) →
    Ret Tryd.prog 59 [ptr mb 0, ptr yb yo, ptr zb zo] H (TyR b1 b2 H (inst M p q)) := by
  intro n
  induction n with
  | zero => intro p _ h; have := p.sz_pos; omega
  | succ n ihn =>
  intro p q hn hpo hpz hqo hqz H yb yo zb zo cp cq Ap Aq cy cz f1 f2 M om hM1 hM2 hTy hRw hY hcy hS1 hZ hcz hS2
  have hM10 := hM1
  have hM20 := hM2
  have hC : Chg b1 b2 H H := Chg.refl
  have hpn := p.enc_len 0
  have hqn := q.enc_len 0
  have hp1 := p.sz_pos
  have hq1 := q.sz_pos
  obtain ⟨bp, op, kp, rfl, hBp, hdp, hxp, hatp⟩ := el_cells (p.enc_nine 0 hpo) hS1 (z := ((p.enc 0).length : Int) - 1) (by omega) (by omega)
  obtain ⟨bq, oq, kq, rfl, hBq, hdq, hxq, hatq⟩ := el_cells (q.enc_nine 0 hqo) hS2 (z := ((q.enc 0).length : Int) - 1) (by omega) (by omega)
  rw [lst_el, show (((p.enc 0).length : Int) - 1).toNat = (p.enc 0).length - 1 by omega] at hdp hatp
  rw [lst_el, show (((q.enc 0).length : Int) - 1).toNat = (q.enc 0).length - 1 by omega] at hdq hatq
  rw [lst_el] at hxp hxq
  have n1 := hM1.ne hBp
  have n2 := hM2.ne hBp
  have n3 := hM1.ne hBq
  have n4 := hM2.ne hBq
  have n5 := hM1.ne om.blk
  have n6 := hM2.ne om.blk
  have n7 := hM1.ne hZ
  have n8 := hM2.ne hZ
  have n9 := hM1.ne hY
  have n10 := hM2.ne hY
  have z1 := hM1.lt
  have z2 := hM2.lt
  refine Ret.of_at (N := 104) Tryd.call59 Tryd.func59 rfl rfl rfl ?_
  have hE := Ext.refl H
  have z_hC := hC.lt
  have z_om := om.lt
  have z_hM1 := hM1.lt
  have z_hM2 := hM2.lt
  have z_hBp := hBp.lt
  have z_hBq := hBq.lt
  have z_hY := hY.lt
  have z_hZ := hZ.lt
  refine At.region rfl rfl ?_
  refine Reg.pur rfl rfl rfl rfl (Pur.asg rfl) ?_
  refine Reg.nil ?_
  refine At.region rfl rfl ?_
  refine Reg.pur rfl rfl rfl rfl (Pur.mv rfl) ?_
  refine Reg.op rfl rfl rfl rfl (Does.call rfl (root_ok hcy rfl hY (by omega) (by omega))) ?_
  rintro _ H ⟨rfl, rfl⟩
  refine Reg.pur rfl rfl rfl rfl (Pur.mv rfl) ?_
  refine Reg.op rfl rfl rfl rfl (Does.call rfl (root_ok hcz rfl hZ (by omega) (by omega))) ?_
  rintro _ H ⟨rfl, rfl⟩
  refine Reg.pur rfl rfl rfl rfl (Pur.asg rfl) ?_
  refine Reg.pur rfl rfl rfl rfl (Pur.asg rfl) ?_
  refine Reg.nil ?_
  refine At.region rfl rfl ?_
  refine Reg.pur rfl rfl rfl rfl (Pur.mv rfl) ?_
  refine Reg.pur rfl rfl rfl rfl (Pur.nilc rfl) ?_
  refine Reg.pur rfl rfl rfl rfl (Pur.fld _ fo65_0 rfl) ?_
  refine Reg.lod rfl rfl rfl rfl (Lod.ld sc3 rfl hBp (hatp 0 (by decide))) ?_
  refine Reg.pur rfl rfl rfl rfl (Pur.eql rfl rfl) ?_
  refine Reg.nil ?_
  refine At.cond rfl rfl (fun q23 => ?_) (fun q23 => ?_)
  · first | (simp only [decide_eq_true_eq, decide_eq_false_iff_not, Bool.not_eq_true', Bool.not_eq_false', ne_eq, Decidable.not_not, Bool.not_eq_true, Bool.not_eq_false] at q23) | (dsimp only at q23) | skip
    obtain ⟨v, rfl⟩ := lst_var q23
    obtain ⟨Av, lv, cv, hv1, hv2, hv3⟩ : ∃ Av lv cv, (f1 v).getD (.agg #[.slice none 0 0]) = .agg #[.slice Av lv cv] ∧ (f1 v).isSome = (findT M v).isSome ∧ ∀ t, findT M v = some t → t.ok ∧ t.sz ≤ 256 ∧ lv = (t.enc 0).length ∧ SlT H Is 9 (.slice Av lv cv) (t.enc 0) := by
      cases hf : findT M v with
      | none => exact ⟨none, 0, 0, by rw [(hTy v).1 hf]; rfl, by rw [(hTy v).1 hf]; rfl, fun t ht => by cases ht⟩
      | some t =>
        obtain ⟨k1, k2, A, cap, k3, k4⟩ := (hTy v).2 t hf
        exact ⟨A, _, cap, by rw [k3]; rfl, by rw [k3]; rfl, fun t' ht => by cases ht; exact ⟨k1, k2, rfl, k4⟩⟩
    refine At.drawM ((And.intro (Bks.cons om.blk (Bks.cons hBp.blk Bks.nil)) hM1)) [13] mixed rfl rfl ?_
    refine RegD.tpur (i := 0) rfl rfl rfl rfl (by kernel_rfl) (Pur.mv rfl) ?_
    refine RegD.tpur (i := 1) rfl rfl rfl rfl (by kernel_rfl) (Pur.nilc rfl) ?_
    refine RegD.tpur (i := 2) rfl rfl rfl rfl (by kernel_rfl) (Pur.fld _ fo100_0 rfl) ?_
    refine RegD.take (i := 3) rfl rfl rfl rfl (by kernel_rfl) (And.intro (Bks.cons om.blk (Bks.cons hBp.blk Bks.nil)) hM1) (fun H hS => Lod.ld sc97 rfl hS.1.hd rfl) ?_
    refine RegD.tpur (i := 4) rfl rfl rfl rfl (by kernel_rfl) (Pur.mv rfl) ?_
    refine RegD.tpur (i := 5) rfl rfl rfl rfl (by kernel_rfl) (Pur.nilc rfl) ?_
    refine RegD.tpur (i := 6) rfl rfl rfl rfl (by kernel_rfl) (Pur.fld _ fo65_1 rfl) ?_
    refine RegD.take (i := 7) rfl rfl rfl rfl (by kernel_rfl) (And.intro (Bks.cons om.blk (Bks.cons hBp.blk Bks.nil)) hM1) (fun H hS => Lod.ld sc3 rfl hS.1.tl.hd (hatp 1 (by decide))) ?_
    refine RegD.take (i := 8) rfl rfl rfl rfl (by kernel_rfl) (And.intro (Bks.cons om.blk (Bks.cons hBp.blk Bks.nil)) hM1) (fun H hS => Lod.mlk' (k := v) Tryd.underlying97 Tryd.underlying3 zv_type hv1 hv2 rfl rfl hS.2) ?_
    refine RegD.tpur (i := 9) rfl rfl rfl rfl (by kernel_rfl) (Pur.mv rfl) ?_
    refine RegD.tpur (i := 10) rfl rfl rfl rfl (by kernel_rfl) (Pur.ext rfl rfl) ?_
    refine RegD.tpur (i := 11) rfl rfl rfl rfl (by kernel_rfl) (Pur.ext rfl rfl) ?_
    refine RegD.one (i := 12) (by kernel_rfl) rfl rfl rfl rfl (Does.alloc zc55) ?_
    rintro _ H3_12 ⟨rfl, hn3_12⟩
    have z3_12 := hn3_12.size
    replace hC := hC.ext hn3_12.ext
    replace om := om.ext hn3_12.ext
    replace hM1 := hM1.ext hn3_12.ext
    replace hM2 := hM2.ext hn3_12.ext
    replace hBp := hBp.ext hn3_12.ext
    replace hBq := hBq.ext hn3_12.ext
    replace hY := hY.ext hn3_12.ext
    replace hZ := hZ.ext hn3_12.ext
    have o3_12 := hn3_12.own
    refine ⟨fun _ _ => (And.intro (Bks.cons om.blk (Bks.cons hBp.blk Bks.nil)) hM1), ?_⟩
    refine RegD.one0 (i := 13) (by kernel_rfl) rfl rfl rfl (Does.stn ag55 rfl rfl (by first | rfl | exact ones_Is _) (by first | rfl | (simp [*]; done)) o3_12 (by first | decide | (simp; done) | (simp; omega) | omega)) ?_
    rintro _ H3_13 hu3_13
    have z3_13 := hu3_13.size
    replace hC := hC.upw hu3_13 (by omega)
    replace om := om.upw hu3_13 (by omega)
    replace hM1 := hM1.upw hu3_13 (by omega)
    replace hM2 := hM2.upw hu3_13 (by omega)
    replace hBp := hBp.upw hu3_13 (by omega)
    replace hBq := hBq.upw hu3_13 (by omega)
    replace hY := hY.upw hu3_13 (by omega)
    replace hZ := hZ.upw hu3_13 (by omega)
    replace o3_12 := hu3_13.own
    first | rw [over (by first | rfl | (simp; done))] at o3_12 | skip
    refine ⟨fun h => (by cases h), ?_⟩
    refine RegD.tpur (i := 14) rfl rfl rfl rfl (by kernel_rfl) (Pur.asg rfl) ?_
    refine RegD.done (by kernel_rfl) ?_
    refine At.drawE ((Bks.cons om.blk (Bks.cons hBp.blk (Bks.cons hZ.blk Bks.nil)))) [11] mixed rfl rfl ?_
    refine RegD.tpur (i := 0) rfl rfl rfl rfl (by kernel_rfl) (Pur.mv rfl) ?_
    refine RegD.tpur (i := 1) rfl rfl rfl rfl (by kernel_rfl) (Pur.nilc rfl) ?_
    refine RegD.tpur (i := 2) rfl rfl rfl rfl (by kernel_rfl) (Pur.fld _ fo100_0 rfl) ?_
    refine RegD.take (i := 3) rfl rfl rfl rfl (by kernel_rfl) (Bks.cons om.blk (Bks.cons hBp.blk (Bks.cons hZ.blk Bks.nil))) (fun H hS => Lod.ld sc97 rfl hS.hd rfl) ?_
    refine RegD.tpur (i := 4) rfl rfl rfl rfl (by kernel_rfl) (Pur.mv rfl) ?_
    refine RegD.tpur (i := 5) rfl rfl rfl rfl (by kernel_rfl) (Pur.nilc rfl) ?_
    refine RegD.tpur (i := 6) rfl rfl rfl rfl (by kernel_rfl) (Pur.fld _ fo65_1 rfl) ?_
    refine RegD.take (i := 7) rfl rfl rfl rfl (by kernel_rfl) (Bks.cons om.blk (Bks.cons hBp.blk (Bks.cons hZ.blk Bks.nil))) (fun H hS => Lod.ld sc3 rfl hS.tl.hd (hatp 1 (by decide))) ?_
    refine RegD.tpur (i := 8) rfl rfl rfl rfl (by kernel_rfl) (Pur.mv rfl) ?_
    refine RegD.tpur (i := 9) rfl rfl rfl rfl (by kernel_rfl) (Pur.nilc rfl) ?_
    refine RegD.take (i := 10) rfl rfl rfl rfl (by kernel_rfl) (Bks.cons om.blk (Bks.cons hBp.blk (Bks.cons hZ.blk Bks.nil))) (fun H hS => Lod.ldn ag55 rfl hS.tl.tl.hd (one_at hcz) rfl) ?_

    refine RegD.one0 (i := 11) (by kernel_rfl) rfl rfl rfl (Does.mup (k := v) Tryd.underlying97 Tryd.underlying3 rfl rfl rfl hM1) ?_
    rintro _ H4_11 ⟨hm4_11, hbut4_11, hsz4_11⟩
    have z4_11 := hbut4_11.lt
    replace hC := hC.via hbut4_11 (by first | omega | (intro g; omega) | (intro g hg; omega) | (intro g hg h; omega))
    replace om := om.via hbut4_11 (by first | omega | (intro g; omega) | (intro g hg; omega) | (intro g hg h; omega))
    replace hM2 := hM2.via hbut4_11 (by first | omega | (intro g; omega) | (intro g hg; omega) | (intro g hg h; omega))
    replace hBp := hBp.via hbut4_11 (by first | omega | (intro g; omega) | (intro g hg; omega) | (intro g hg h; omega))
    replace hBq := hBq.via hbut4_11 (by first | omega | (intro g; omega) | (intro g hg; omega) | (intro g hg h; omega))
    replace hY := hY.via hbut4_11 (by first | omega | (intro g; omega) | (intro g hg; omega) | (intro g hg h; omega))
    replace hZ := hZ.via hbut4_11 (by first | omega | (intro g; omega) | (intro g hg; omega) | (intro g hg h; omega))
    replace o3_12 := o3_12.via hbut4_11 (by first | omega | (intro g; omega) | (intro g hg; omega) | (intro g hg h; omega))
    refine ⟨fun h => (by cases h), ?_⟩
    refine RegD.done (by kernel_rfl) ?_
    refine At.region rfl rfl ?_
    refine Reg.pur rfl rfl rfl rfl (Pur.mv rfl) ?_
    refine Reg.pur rfl rfl rfl rfl (Pur.not rfl) ?_
    refine Reg.pur rfl rfl rfl rfl (Pur.mv rfl) ?_
    refine Reg.case 49 rfl (fun q49 => ?_) (fun q49 => ?_)
    · first | (simp only [decide_eq_true_eq, decide_eq_false_iff_not, Bool.not_eq_true', Bool.not_eq_false', ne_eq, Decidable.not_not, Bool.not_eq_true, Bool.not_eq_false] at q49) | (dsimp only at q49) | skip
      refine Reg.skip rfl rfl rfl rfl rfl rfl rfl ?_
      refine Reg.skip rfl rfl rfl rfl rfl rfl rfl ?_
      refine Reg.pur rfl rfl rfl rfl (Pur.pickT rfl rfl) ?_
      refine Reg.pur rfl rfl rfl rfl (Pur.asg rfl) ?_
      refine Reg.nil ?_
      refine At.ret rfl Tryd.func59 rfl ?_
      refine ⟨?_, _, f2, fun M' hM' => ⟨ty_upd (hTy.chg hM10 hM20 hC) (sl_but hS2 hM10 hM20 hC) hqo hqz hM', rw_t hRw hM'⟩, hm4_11, hM2, hC⟩
      first
      | (have h0 : findT M v = none := by simpa using q49
         simp only [inst, h0]; rfl)
      | (simp only [inst, hf]
         by_cases h : t = q
         · rw [if_pos h, decide_eq_true (by rw [h])]; rfl
         · rw [if_neg h, decide_eq_false (fun e => h (enc_inj t1 hqo t2 e))]; rfl)
    first | (simp only [decide_eq_true_eq, decide_eq_false_iff_not, Bool.not_eq_true', Bool.not_eq_false', ne_eq, Decidable.not_not, Bool.not_eq_true, Bool.not_eq_false] at q49) | (dsimp only at q49) | skip
    refine Reg.gpur rfl rfl rfl rfl rfl rfl (Pur.mv rfl) ?_
    obtain ⟨t, hf⟩ := Option.isSome_iff_exists.1 q49
    obtain ⟨t1, t2, rfl, t3⟩ := hv3 t hf
    refine Reg.gop rfl rfl rfl rfl rfl rfl (Does.call rfl (same_ok (t.enc_nine 0 t1) (q.enc_nine 0 hqo) rfl hcz o3_12.blk hZ (sl_but t3 hM10 hM20 hC) (sl_but hS2 hM10 hM20 hC) (by rw [Tm.enc_len]; omega))) ?_
    rintro _ H4_11 ⟨rfl, rfl⟩
    refine Reg.pur rfl rfl rfl rfl (Pur.pickF rfl rfl) ?_
    refine Reg.pur rfl rfl rfl rfl (Pur.asg rfl) ?_
    refine Reg.nil ?_
    refine At.ret rfl Tryd.func59 rfl ?_
    refine ⟨?_, _, f2, fun M' hM' => ⟨ty_upd (hTy.chg hM10 hM20 hC) (sl_but hS2 hM10 hM20 hC) hqo hqz hM', rw_t hRw hM'⟩, hm4_11, hM2, hC⟩
    first
    | (have h0 : findT M v = none := by simpa using q49
       simp only [inst, h0]; rfl)
    | (simp only [inst, hf]
       by_cases h : t = q
       · rw [if_pos h, decide_eq_true (by rw [h])]; rfl
       · rw [if_neg h, decide_eq_false (fun e => h (enc_inj t1 hqo t2 e))]; rfl)
  first | (simp only [decide_eq_true_eq, decide_eq_false_iff_not, Bool.not_eq_true', Bool.not_eq_false', ne_eq, Decidable.not_not, Bool.not_eq_true, Bool.not_eq_false] at q23) | (dsimp only at q23) | skip
  refine At.drawE ((Bks.cons hBp.blk (Bks.cons hBq.blk Bks.nil))) [] mixed rfl rfl ?_
  refine RegD.tpur (i := 0) rfl rfl rfl rfl (by kernel_rfl) (Pur.mv rfl) ?_
  refine RegD.tpur (i := 1) rfl rfl rfl rfl (by kernel_rfl) (Pur.nilc rfl) ?_
  refine RegD.tpur (i := 2) rfl rfl rfl rfl (by kernel_rfl) (Pur.fld _ fo65_0 rfl) ?_
  refine RegD.take (i := 3) rfl rfl rfl rfl (by kernel_rfl) (Bks.cons hBp.blk (Bks.cons hBq.blk Bks.nil)) (fun H hS => Lod.ld sc3 rfl hS.hd (hatp 0 (by decide))) ?_
  refine RegD.tpur (i := 4) rfl rfl rfl rfl (by kernel_rfl) (Pur.mv rfl) ?_
  refine RegD.tpur (i := 5) rfl rfl rfl rfl (by kernel_rfl) (Pur.nilc rfl) ?_
  refine RegD.tpur (i := 6) rfl rfl rfl rfl (by kernel_rfl) (Pur.fld _ fo65_0 rfl) ?_
  refine RegD.take (i := 7) rfl rfl rfl rfl (by kernel_rfl) (Bks.cons hBp.blk (Bks.cons hBq.blk Bks.nil)) (fun H hS => Lod.ld sc3 rfl hS.tl.hd (hatq 0 (by decide))) ?_
  refine RegD.tpur (i := 8) rfl rfl rfl rfl (by kernel_rfl) (Pur.neq rfl rfl) ?_
  refine RegD.tpur (i := 9) rfl rfl rfl rfl (by kernel_rfl) (Pur.mv rfl) ?_
  refine RegD.case 62 rfl (fun q62 => ?_) (fun q62 => ?_)
  · first | (simp only [decide_eq_true_eq, decide_eq_false_iff_not, Bool.not_eq_true', Bool.not_eq_false', ne_eq, Decidable.not_not, Bool.not_eq_true, Bool.not_eq_false] at q62) | (dsimp only at q62) | skip
    refine RegD.skip (i := 10) rfl rfl rfl rfl rfl rfl rfl (by kernel_rfl) ?_
    refine RegD.skip (i := 11) rfl rfl rfl rfl rfl rfl rfl (by kernel_rfl) ?_
    refine RegD.skip (i := 12) rfl rfl rfl rfl rfl rfl rfl (by kernel_rfl) ?_
    refine RegD.skip (i := 13) rfl rfl rfl rfl rfl rfl rfl (by kernel_rfl) ?_
    refine RegD.skip (i := 14) rfl rfl rfl rfl rfl rfl rfl (by kernel_rfl) ?_
    refine RegD.tpur (i := 15) rfl rfl rfl rfl (by kernel_rfl) (Pur.pickT rfl rfl) ?_
    refine RegD.done (by kernel_rfl) ?_
    refine At.condT rfl rfl rfl ?_
    refine At.drawE ((Bks.cons hBp.blk (Bks.cons hBq.blk Bks.nil))) [] mixed rfl rfl ?_
    refine RegD.tpur (i := 0) rfl rfl rfl rfl (by kernel_rfl) (Pur.mv rfl) ?_
    refine RegD.tpur (i := 1) rfl rfl rfl rfl (by kernel_rfl) (Pur.nilc rfl) ?_
    refine RegD.tpur (i := 2) rfl rfl rfl rfl (by kernel_rfl) (Pur.fld _ fo65_0 rfl) ?_
    refine RegD.take (i := 3) rfl rfl rfl rfl (by kernel_rfl) (Bks.cons hBp.blk (Bks.cons hBq.blk Bks.nil)) (fun H hS => Lod.ld sc3 rfl hS.hd (hatp 0 (by decide))) ?_
    refine RegD.tpur (i := 4) rfl rfl rfl rfl (by kernel_rfl) (Pur.mv rfl) ?_
    refine RegD.tpur (i := 5) rfl rfl rfl rfl (by kernel_rfl) (Pur.nilc rfl) ?_
    refine RegD.tpur (i := 6) rfl rfl rfl rfl (by kernel_rfl) (Pur.fld _ fo65_0 rfl) ?_
    refine RegD.take (i := 7) rfl rfl rfl rfl (by kernel_rfl) (Bks.cons hBp.blk (Bks.cons hBq.blk Bks.nil)) (fun H hS => Lod.ld sc3 rfl hS.tl.hd (hatq 0 (by decide))) ?_
    refine RegD.tpur (i := 8) rfl rfl rfl rfl (by kernel_rfl) (Pur.eql rfl rfl) ?_
    refine RegD.tpur (i := 9) rfl rfl rfl rfl (by kernel_rfl) (Pur.asg rfl) ?_
    refine RegD.done (by kernel_rfl) ?_
    refine At.ret rfl Tryd.func59 rfl ?_
    rw [inst_leaf (M := M) q23 (by first | exact .inl q62 | exact .inr q68)]
    refine ⟨?_, f1, f2, fun M' h => ?_, hM1, hM2, hC⟩
    · by_cases h : p.lst.getD 0 0 = q.lst.getD 0 0
      · rw [if_pos h, decide_eq_true h]; rfl
      · rw [if_neg h, decide_eq_false h]; rfl
    · by_cases hk : p.lst.getD 0 0 = q.lst.getD 0 0
      · rw [if_pos hk] at h; cases h; exact ⟨hTy.chg hM10 hM20 hC, hRw⟩
      · rw [if_neg hk] at h; cases h
  first | (simp only [decide_eq_true_eq, decide_eq_false_iff_not, Bool.not_eq_true', Bool.not_eq_false', ne_eq, Decidable.not_not, Bool.not_eq_true, Bool.not_eq_false] at q62) | (dsimp only at q62) | skip
  refine RegD.gtpur (i := 10) rfl rfl rfl rfl rfl rfl (by kernel_rfl) (Pur.mv rfl) ?_
  refine RegD.gtpur (i := 11) rfl rfl rfl rfl rfl rfl (by kernel_rfl) (Pur.nilc rfl) ?_
  refine RegD.gtpur (i := 12) rfl rfl rfl rfl rfl rfl (by kernel_rfl) (Pur.fld _ fo65_0 rfl) ?_
  refine RegD.gtake (i := 13) rfl rfl rfl rfl rfl rfl (by kernel_rfl) (Bks.cons hBp.blk (Bks.cons hBq.blk Bks.nil)) (fun H hS => Lod.ld sc3 rfl hS.hd (hatp 0 (by decide))) ?_
  refine RegD.gtpur (i := 14) rfl rfl rfl rfl rfl rfl (by kernel_rfl) (Pur.neq rfl rfl) ?_
  refine RegD.tpur (i := 15) rfl rfl rfl rfl (by kernel_rfl) (Pur.pickF rfl rfl) ?_
  refine RegD.done (by kernel_rfl) ?_
  refine At.cond rfl rfl (fun q68 => ?_) (fun q68 => ?_)
  · first | (simp only [decide_eq_true_eq, decide_eq_false_iff_not, Bool.not_eq_true', Bool.not_eq_false', ne_eq, Decidable.not_not, Bool.not_eq_true, Bool.not_eq_false] at q68) | (dsimp only at q68) | skip
    refine At.drawE ((Bks.cons hBp.blk (Bks.cons hBq.blk Bks.nil))) [] mixed rfl rfl ?_
    refine RegD.tpur (i := 0) rfl rfl rfl rfl (by kernel_rfl) (Pur.mv rfl) ?_
    refine RegD.tpur (i := 1) rfl rfl rfl rfl (by kernel_rfl) (Pur.nilc rfl) ?_
    refine RegD.tpur (i := 2) rfl rfl rfl rfl (by kernel_rfl) (Pur.fld _ fo65_0 rfl) ?_
    refine RegD.take (i := 3) rfl rfl rfl rfl (by kernel_rfl) (Bks.cons hBp.blk (Bks.cons hBq.blk Bks.nil)) (fun H hS => Lod.ld sc3 rfl hS.hd (hatp 0 (by decide))) ?_
    refine RegD.tpur (i := 4) rfl rfl rfl rfl (by kernel_rfl) (Pur.mv rfl) ?_
    refine RegD.tpur (i := 5) rfl rfl rfl rfl (by kernel_rfl) (Pur.nilc rfl) ?_
    refine RegD.tpur (i := 6) rfl rfl rfl rfl (by kernel_rfl) (Pur.fld _ fo65_0 rfl) ?_
    refine RegD.take (i := 7) rfl rfl rfl rfl (by kernel_rfl) (Bks.cons hBp.blk (Bks.cons hBq.blk Bks.nil)) (fun H hS => Lod.ld sc3 rfl hS.tl.hd (hatq 0 (by decide))) ?_
    refine RegD.tpur (i := 8) rfl rfl rfl rfl (by kernel_rfl) (Pur.eql rfl rfl) ?_
    refine RegD.tpur (i := 9) rfl rfl rfl rfl (by kernel_rfl) (Pur.asg rfl) ?_
    refine RegD.done (by kernel_rfl) ?_
    refine At.ret rfl Tryd.func59 rfl ?_
    rw [inst_leaf (M := M) q23 (by first | exact .inl q62 | exact .inr q68)]
    refine ⟨?_, f1, f2, fun M' h => ?_, hM1, hM2, hC⟩
    · by_cases h : p.lst.getD 0 0 = q.lst.getD 0 0
      · rw [if_pos h, decide_eq_true h]; rfl
      · rw [if_neg h, decide_eq_false h]; rfl
    · by_cases hk : p.lst.getD 0 0 = q.lst.getD 0 0
      · rw [if_pos hk] at h; cases h; exact ⟨hTy.chg hM10 hM20 hC, hRw⟩
      · rw [if_neg hk] at h; cases h
  first | (simp only [decide_eq_true_eq, decide_eq_false_iff_not, Bool.not_eq_true', Bool.not_eq_false', ne_eq, Decidable.not_not, Bool.not_eq_true, Bool.not_eq_false] at q68) | (dsimp only at q68) | skip
  obtain ⟨x1, r1, x2, rfl⟩ := lst_fn q68
  obtain ⟨y1, r2, y2, rfl⟩ := lst_fn (q62.symm.trans q68)
  have hrp := nod_row hdp hpo.2.1
  have hrq := nod_row hdq hqo.2.1
  have hS1c := sl_but hS1 hM10 hM20 hC
  have hS2c := sl_but hS2 hM10 hM20 hC
  simp only [Tm.sz] at hn hpz hqz
  have z_hS2c := hS2c.lt
  refine At.region rfl rfl ?_
  refine Reg.pur rfl rfl rfl rfl (Pur.mv rfl) ?_
  refine Reg.op rfl rfl rfl rfl (Does.call rfl (sides_ok hpo (by simp only [Tm.sz]; omega) hcy hS1c hY)) ?_
  rintro v8_1 H8_1 ⟨⟨v1, v2, rfl, hT1, hT2⟩, hE8_1⟩
  have z8_1 := hE8_1.lt
  replace hC := hC.ext hE8_1
  replace om := om.ext hE8_1
  replace hM1 := hM1.ext hE8_1
  replace hM2 := hM2.ext hE8_1
  replace hBp := hBp.ext hE8_1
  replace hBq := hBq.ext hE8_1
  replace hY := hY.ext hE8_1
  replace hZ := hZ.ext hE8_1
  replace hS2c := hS2c.ext hE8_1
  obtain ⟨B1, k1, rfl, hQ1, hb1⟩ := hT1
  obtain ⟨B2, k2, rfl, hQ2, hb2⟩ := hT2
  have z_hQ1 := hQ1.lt
  have z_hQ2 := hQ2.lt
  refine Reg.pur rfl rfl rfl rfl (Pur.mv rfl) ?_
  refine Reg.pur rfl rfl rfl rfl (Pur.ext rfl rfl) ?_
  refine Reg.pur rfl rfl rfl rfl (Pur.ext rfl rfl) ?_
  refine Reg.op rfl rfl rfl rfl (Does.alloc zc55) ?_
  rintro _ H8_5 ⟨rfl, hn8_5⟩
  have z8_5 := hn8_5.size
  replace hC := hC.ext hn8_5.ext
  replace om := om.ext hn8_5.ext
  replace hM1 := hM1.ext hn8_5.ext
  replace hM2 := hM2.ext hn8_5.ext
  replace hBp := hBp.ext hn8_5.ext
  replace hBq := hBq.ext hn8_5.ext
  replace hY := hY.ext hn8_5.ext
  replace hZ := hZ.ext hn8_5.ext
  replace hS2c := hS2c.ext hn8_5.ext
  replace hQ1 := hQ1.ext hn8_5.ext
  replace hQ2 := hQ2.ext hn8_5.ext
  have o8_5 := hn8_5.own
  refine Reg.op rfl rfl rfl rfl (Does.alloc zc55) ?_
  rintro _ H8_6 ⟨rfl, hn8_6⟩
  have z8_6 := hn8_6.size
  replace hC := hC.ext hn8_6.ext
  replace om := om.ext hn8_6.ext
  replace hM1 := hM1.ext hn8_6.ext
  replace hM2 := hM2.ext hn8_6.ext
  replace hBp := hBp.ext hn8_6.ext
  replace hBq := hBq.ext hn8_6.ext
  replace hY := hY.ext hn8_6.ext
  replace hZ := hZ.ext hn8_6.ext
  replace hS2c := hS2c.ext hn8_6.ext
  replace hQ1 := hQ1.ext hn8_6.ext
  replace hQ2 := hQ2.ext hn8_6.ext
  replace o8_5 := o8_5.ext hn8_6.ext
  have o8_6 := hn8_6.own
  refine Reg.op0 rfl rfl rfl (Does.stn ag55 rfl rfl (by first | rfl | exact ones_Is _) (by first | rfl | (simp [*]; done)) o8_5 (by first | decide | (simp; done) | (simp; omega) | omega)) ?_
  rintro _ H8_7 hu8_7
  have z8_7 := hu8_7.size
  replace hC := hC.upw hu8_7 (by omega)
  replace om := om.upw hu8_7 (by omega)
  replace hM1 := hM1.upw hu8_7 (by omega)
  replace hM2 := hM2.upw hu8_7 (by omega)
  replace hBp := hBp.upw hu8_7 (by omega)
  replace hBq := hBq.upw hu8_7 (by omega)
  replace hY := hY.upw hu8_7 (by omega)
  replace hZ := hZ.upw hu8_7 (by omega)
  replace hS2c := hS2c.upw hu8_7 (by omega)
  replace hQ1 := hQ1.upw hu8_7 (by omega)
  replace hQ2 := hQ2.upw hu8_7 (by omega)
  replace o8_6 := o8_6.upw hu8_7 (by omega)
  replace o8_5 := hu8_7.own
  first | rw [over (by first | rfl | (simp; done))] at o8_5 | skip
  refine Reg.op0 rfl rfl rfl (Does.stn ag55 rfl rfl (by first | rfl | exact ones_Is _) (by first | rfl | (simp [*]; done)) o8_6 (by first | decide | (simp; done) | (simp; omega) | omega)) ?_
  rintro _ H8_8 hu8_8
  have z8_8 := hu8_8.size
  replace hC := hC.upw hu8_8 (by omega)
  replace om := om.upw hu8_8 (by omega)
  replace hM1 := hM1.upw hu8_8 (by omega)
  replace hM2 := hM2.upw hu8_8 (by omega)
  replace hBp := hBp.upw hu8_8 (by omega)
  replace hBq := hBq.upw hu8_8 (by omega)
  replace hY := hY.upw hu8_8 (by omega)
  replace hZ := hZ.upw hu8_8 (by omega)
  replace hS2c := hS2c.upw hu8_8 (by omega)
  replace hQ1 := hQ1.upw hu8_8 (by omega)
  replace hQ2 := hQ2.upw hu8_8 (by omega)
  replace o8_5 := o8_5.upw hu8_8 (by omega)
  replace o8_6 := hu8_8.own
  first | rw [over (by first | rfl | (simp; done))] at o8_6 | skip
  refine Reg.nil ?_
  refine At.region rfl rfl ?_
  refine Reg.pur rfl rfl rfl rfl (Pur.mv rfl) ?_
  refine Reg.op rfl rfl rfl rfl (Does.call rfl (sides_ok hqo (by simp only [Tm.sz]; omega) hcz hS2c hZ)) ?_
  rintro v9_1 H9_1 ⟨⟨v1, v2, rfl, hT1, hT2⟩, hE9_1⟩
  have z9_1 := hE9_1.lt
  replace hC := hC.ext hE9_1
  replace om := om.ext hE9_1
  replace hM1 := hM1.ext hE9_1
  replace hM2 := hM2.ext hE9_1
  replace hBp := hBp.ext hE9_1
  replace hBq := hBq.ext hE9_1
  replace hY := hY.ext hE9_1
  replace hZ := hZ.ext hE9_1
  replace hS2c := hS2c.ext hE9_1
  replace hQ1 := hQ1.ext hE9_1
  replace hQ2 := hQ2.ext hE9_1
  replace o8_5 := o8_5.ext hE9_1
  replace o8_6 := o8_6.ext hE9_1
  obtain ⟨B3, k3, rfl, hQ3, hb3⟩ := hT1
  obtain ⟨B4, k4, rfl, hQ4, hb4⟩ := hT2
  have z_hQ3 := hQ3.lt
  have z_hQ4 := hQ4.lt
  refine Reg.pur rfl rfl rfl rfl (Pur.mv rfl) ?_
  refine Reg.pur rfl rfl rfl rfl (Pur.ext rfl rfl) ?_
  refine Reg.pur rfl rfl rfl rfl (Pur.ext rfl rfl) ?_
  refine Reg.op rfl rfl rfl rfl (Does.alloc zc55) ?_
  rintro _ H9_5 ⟨rfl, hn9_5⟩
  have z9_5 := hn9_5.size
  replace hC := hC.ext hn9_5.ext
  replace om := om.ext hn9_5.ext
  replace hM1 := hM1.ext hn9_5.ext
  replace hM2 := hM2.ext hn9_5.ext
  replace hBp := hBp.ext hn9_5.ext
  replace hBq := hBq.ext hn9_5.ext
  replace hY := hY.ext hn9_5.ext
  replace hZ := hZ.ext hn9_5.ext
  replace hS2c := hS2c.ext hn9_5.ext
  replace hQ1 := hQ1.ext hn9_5.ext
  replace hQ2 := hQ2.ext hn9_5.ext
  replace o8_5 := o8_5.ext hn9_5.ext
  replace o8_6 := o8_6.ext hn9_5.ext
  replace hQ3 := hQ3.ext hn9_5.ext
  replace hQ4 := hQ4.ext hn9_5.ext
  have o9_5 := hn9_5.own
  refine Reg.op rfl rfl rfl rfl (Does.alloc zc55) ?_
  rintro _ H9_6 ⟨rfl, hn9_6⟩
  have z9_6 := hn9_6.size
  replace hC := hC.ext hn9_6.ext
  replace om := om.ext hn9_6.ext
  replace hM1 := hM1.ext hn9_6.ext
  replace hM2 := hM2.ext hn9_6.ext
  replace hBp := hBp.ext hn9_6.ext
  replace hBq := hBq.ext hn9_6.ext
  replace hY := hY.ext hn9_6.ext
  replace hZ := hZ.ext hn9_6.ext
  replace hS2c := hS2c.ext hn9_6.ext
  replace hQ1 := hQ1.ext hn9_6.ext
  replace hQ2 := hQ2.ext hn9_6.ext
  replace o8_5 := o8_5.ext hn9_6.ext
  replace o8_6 := o8_6.ext hn9_6.ext
  replace hQ3 := hQ3.ext hn9_6.ext
  replace hQ4 := hQ4.ext hn9_6.ext
  replace o9_5 := o9_5.ext hn9_6.ext
  have o9_6 := hn9_6.own
  refine Reg.op0 rfl rfl rfl (Does.stn ag55 rfl rfl (by first | rfl | exact ones_Is _) (by first | rfl | (simp [*]; done)) o9_5 (by first | decide | (simp; done) | (simp; omega) | omega)) ?_
  rintro _ H9_7 hu9_7
  have z9_7 := hu9_7.size
  replace hC := hC.upw hu9_7 (by omega)
  replace om := om.upw hu9_7 (by omega)
  replace hM1 := hM1.upw hu9_7 (by omega)
  replace hM2 := hM2.upw hu9_7 (by omega)
  replace hBp := hBp.upw hu9_7 (by omega)
  replace hBq := hBq.upw hu9_7 (by omega)
  replace hY := hY.upw hu9_7 (by omega)
  replace hZ := hZ.upw hu9_7 (by omega)
  replace hS2c := hS2c.upw hu9_7 (by omega)
  replace hQ1 := hQ1.upw hu9_7 (by omega)
  replace hQ2 := hQ2.upw hu9_7 (by omega)
  replace o8_5 := o8_5.upw hu9_7 (by omega)
  replace o8_6 := o8_6.upw hu9_7 (by omega)
  replace hQ3 := hQ3.upw hu9_7 (by omega)
  replace hQ4 := hQ4.upw hu9_7 (by omega)
  replace o9_6 := o9_6.upw hu9_7 (by omega)
  replace o9_5 := hu9_7.own
  first | rw [over (by first | rfl | (simp; done))] at o9_5 | skip
  refine Reg.op0 rfl rfl rfl (Does.stn ag55 rfl rfl (by first | rfl | exact ones_Is _) (by first | rfl | (simp [*]; done)) o9_6 (by first | decide | (simp; done) | (simp; omega) | omega)) ?_
  rintro _ H9_8 hu9_8
  have z9_8 := hu9_8.size
  replace hC := hC.upw hu9_8 (by omega)
  replace om := om.upw hu9_8 (by omega)
  replace hM1 := hM1.upw hu9_8 (by omega)
  replace hM2 := hM2.upw hu9_8 (by omega)
  replace hBp := hBp.upw hu9_8 (by omega)
  replace hBq := hBq.upw hu9_8 (by omega)
  replace hY := hY.upw hu9_8 (by omega)
  replace hZ := hZ.upw hu9_8 (by omega)
  replace hS2c := hS2c.upw hu9_8 (by omega)
  replace hQ1 := hQ1.upw hu9_8 (by omega)
  replace hQ2 := hQ2.upw hu9_8 (by omega)
  replace o8_5 := o8_5.upw hu9_8 (by omega)
  replace o8_6 := o8_6.upw hu9_8 (by omega)
  replace hQ3 := hQ3.upw hu9_8 (by omega)
  replace hQ4 := hQ4.upw hu9_8 (by omega)
  replace o9_5 := o9_5.upw hu9_8 (by omega)
  replace o9_6 := hu9_8.own
  first | rw [over (by first | rfl | (simp; done))] at o9_6 | skip
  refine Reg.nil ?_
  refine At.drawE (Bks.nil) [] mixed rfl rfl ?_
  refine RegD.tpur (i := 0) rfl rfl rfl rfl (by kernel_rfl) (Pur.mv rfl) ?_
  have hMa := hM1
  have hMb := hM2
  refine RegD.one (i := 1) (by kernel_rfl) rfl rfl rfl rfl (Does.call rfl (ihn x1 y1 (by omega) hpo.1 (by omega) hqo.1 (by omega) om hM1 hM2 (hTy.chg hM10 hM20 hC) hRw o8_5.blk (at0 _) hQ1 o9_5.blk (at0 _) hQ3)) ?_
  rintro v10_1 H10_1 hP1
  obtain ⟨rfl, g1, g2, hPM, hM1, hM2, hC1⟩ := hP1
  replace hC := hC.trans hC1
  replace om := om.via hC1 (not_or.2 ⟨n5, n6⟩)
  replace hBp := hBp.via hC1 (not_or.2 ⟨n1, n2⟩)
  replace hBq := hBq.via hC1 (not_or.2 ⟨n3, n4⟩)
  replace hQ2 := sl_but hQ2 hMa hMb hC1
  replace hQ4 := sl_but hQ4 hMa hMb hC1
  replace o8_6 := o8_6.via hC1 (by clear n1 n2 n3 n4 n5 n6 n7 n8 n9 n10 h12; omega)
  replace o9_6 := o9_6.via hC1 (by clear n1 n2 n3 n4 n5 n6 n7 n8 n9 n10 h12; omega)
  refine ⟨fun _ _ => Bks.nil, ?_⟩
  refine RegD.tpur (i := 2) rfl rfl rfl rfl (by kernel_rfl) (Pur.mv rfl) ?_
  refine RegD.case 90 rfl (fun q90 => ?_) (fun q90 => ?_)
  · first | (simp only [decide_eq_true_eq, decide_eq_false_iff_not, Bool.not_eq_true', Bool.not_eq_false', ne_eq, Decidable.not_not, Bool.not_eq_true, Bool.not_eq_false] at q90) | (dsimp only at q90) | skip
    refine RegD.gtpur (i := 3) rfl rfl rfl rfl rfl rfl (by kernel_rfl) (Pur.mv rfl) ?_
    refine RegD.gtpur (i := 4) rfl rfl rfl rfl rfl rfl (by kernel_rfl) (Pur.mv rfl) ?_
    refine RegD.gtpur (i := 5) rfl rfl rfl rfl rfl rfl (by kernel_rfl) (Pur.nilc rfl) ?_
    refine RegD.gtpur (i := 6) rfl rfl rfl rfl rfl rfl (by kernel_rfl) (Pur.fld _ fo65_4 rfl) ?_
    refine RegD.gtpur (i := 7) rfl rfl rfl rfl rfl rfl (by kernel_rfl) (Pur.mv rfl) ?_
    refine RegD.gtpur (i := 8) rfl rfl rfl rfl rfl rfl (by kernel_rfl) (Pur.nilc rfl) ?_
    refine RegD.gtpur (i := 9) rfl rfl rfl rfl rfl rfl (by kernel_rfl) (Pur.fld _ fo65_4 rfl) ?_
    obtain ⟨M1, hi1⟩ := Option.isSome_iff_exists.1 q90
    obtain ⟨hT1, hR1⟩ := hPM M1 hi1
    have hMc := hM1
    have hMd := hM2
    refine RegD.gone (i := 10) (by kernel_rfl) rfl rfl rfl rfl rfl rfl (Does.call rfl (mrowG_ok hpo.2.1 hpo.2.2.1 hqo.2.1 hqo.2.2.1 om hM1 hM2 h12 hR1 hBp hrp hBq hrq)) ?_
    rintro _ H10_10 ⟨rfl, g3, hPR, hM1, hM2, hC2⟩
    replace hC := hC.trans hC2
    replace om := om.via hC2 (not_or.2 ⟨n5, n6⟩)
    replace hQ2 := sl_but hQ2 hMc hMd hC2
    replace hQ4 := sl_but hQ4 hMc hMd hC2
    replace o8_6 := o8_6.via hC2 (by clear n1 n2 n3 n4 n5 n6 n7 n8 n9 n10 h12; omega)
    replace o9_6 := o9_6.via hC2 (by clear n1 n2 n3 n4 n5 n6 n7 n8 n9 n10 h12; omega)
    refine ⟨fun _ _ => Bks.nil, ?_⟩
    refine RegD.tpur (i := 11) rfl rfl rfl rfl (by kernel_rfl) (Pur.pickT rfl rfl) ?_
    refine RegD.tpur (i := 12) rfl rfl rfl rfl (by kernel_rfl) (Pur.mv rfl) ?_
    refine RegD.case 100 rfl (fun q100 => ?_) (fun q100 => ?_)
    · first | (simp only [decide_eq_true_eq, decide_eq_false_iff_not, Bool.not_eq_true', Bool.not_eq_false', ne_eq, Decidable.not_not, Bool.not_eq_true, Bool.not_eq_false] at q100) | (dsimp only at q100) | skip
      refine RegD.gtpur (i := 13) rfl rfl rfl rfl rfl rfl (by kernel_rfl) (Pur.mv rfl) ?_
      obtain ⟨M2, hi2⟩ := Option.isSome_iff_exists.1 q100
      refine RegD.gone (i := 14) (by kernel_rfl) rfl rfl rfl rfl rfl rfl (Does.call rfl (ihn x2 y2 (by omega) hpo.2.2.2 (by omega) hqo.2.2.2 (by omega) om hM1 hM2 (ty_r (hT1.chg hMc hMd hC2) hi2) (hPR M2 hi2) o8_6.blk (at0 _) hQ2 o9_6.blk (at0 _) hQ4)) ?_
      rintro v10_14 H10_14 hP3
      obtain ⟨rfl, g4, g5, hPZ, hM1, hM2, hC3⟩ := hP3
      refine ⟨fun _ _ => Bks.nil, ?_⟩
      refine RegD.tpur (i := 15) rfl rfl rfl rfl (by kernel_rfl) (Pur.pickT rfl rfl) ?_
      refine RegD.tpur (i := 16) rfl rfl rfl rfl (by kernel_rfl) (Pur.asg rfl) ?_
      refine RegD.done (by kernel_rfl) ?_
      refine At.ret rfl Tryd.func59 rfl ?_
      first
      | (have e : inst M (.fn x1 r1 x2) (.fn y1 r2 y2) = inst M2 x2 y2 := by simp only [inst, hi1, hi2]
         rw [e]
         exact ⟨rfl, g4, g5, hPZ, hM1, hM2, hC.trans hC3⟩)
      | (have e : inst M (.fn x1 r1 x2) (.fn y1 r2 y2) = none := by simp only [inst, hi1, Option.isSome_eq_false_iff.1 q100]; first | rfl | (rw [Option.isNone_iff_eq_none.1 (Option.isSome_eq_false_iff.1 q100)])
         rw [e]
         exact ⟨rfl, g1, g3, (fun M' h => by cases h), hM1, hM2, hC⟩)
      | (have e0 : inst M x1 y1 = none := Option.isNone_iff_eq_none.1 (Option.isSome_eq_false_iff.1 q90)
         have e : inst M (.fn x1 r1 x2) (.fn y1 r2 y2) = none := by simp only [inst, e0]
         rw [e]
         exact ⟨rfl, g1, g2, (fun M' h => by cases h), hM1, hM2, hC⟩)
    first | (simp only [decide_eq_true_eq, decide_eq_false_iff_not, Bool.not_eq_true', Bool.not_eq_false', ne_eq, Decidable.not_not, Bool.not_eq_true, Bool.not_eq_false] at q100) | (dsimp only at q100) | skip
    refine RegD.skip (i := 13) rfl rfl rfl rfl rfl rfl rfl (by kernel_rfl) ?_
    refine RegD.skip (i := 14) rfl rfl rfl rfl rfl rfl rfl (by kernel_rfl) ?_
    refine RegD.tpur (i := 15) rfl rfl rfl rfl (by kernel_rfl) (Pur.pickF rfl rfl) ?_
    refine RegD.tpur (i := 16) rfl rfl rfl rfl (by kernel_rfl) (Pur.asg rfl) ?_
    refine RegD.done (by kernel_rfl) ?_
    refine At.ret rfl Tryd.func59 rfl ?_
    first
    | (have e : inst M (.fn x1 r1 x2) (.fn y1 r2 y2) = inst M2 x2 y2 := by simp only [inst, hi1, hi2]
       rw [e]
       exact ⟨rfl, g4, g5, hPZ, hM1, hM2, hC.trans hC3⟩)
    | (have e : inst M (.fn x1 r1 x2) (.fn y1 r2 y2) = none := by simp only [inst, hi1, Option.isSome_eq_false_iff.1 q100]; first | rfl | (rw [Option.isNone_iff_eq_none.1 (Option.isSome_eq_false_iff.1 q100)])
       rw [e]
       exact ⟨rfl, g1, g3, (fun M' h => by cases h), hM1, hM2, hC⟩)
    | (have e0 : inst M x1 y1 = none := Option.isNone_iff_eq_none.1 (Option.isSome_eq_false_iff.1 q90)
       have e : inst M (.fn x1 r1 x2) (.fn y1 r2 y2) = none := by simp only [inst, e0]
       rw [e]
       exact ⟨rfl, g1, g2, (fun M' h => by cases h), hM1, hM2, hC⟩)
  first | (simp only [decide_eq_true_eq, decide_eq_false_iff_not, Bool.not_eq_true', Bool.not_eq_false', ne_eq, Decidable.not_not, Bool.not_eq_true, Bool.not_eq_false] at q90) | (dsimp only at q90) | skip
  refine RegD.skip (i := 3) rfl rfl rfl rfl rfl rfl rfl (by kernel_rfl) ?_
  refine RegD.skip (i := 4) rfl rfl rfl rfl rfl rfl rfl (by kernel_rfl) ?_
  refine RegD.skip (i := 5) rfl rfl rfl rfl rfl rfl rfl (by kernel_rfl) ?_
  refine RegD.skip (i := 6) rfl rfl rfl rfl rfl rfl rfl (by kernel_rfl) ?_
  refine RegD.skip (i := 7) rfl rfl rfl rfl rfl rfl rfl (by kernel_rfl) ?_
  refine RegD.skip (i := 8) rfl rfl rfl rfl rfl rfl rfl (by kernel_rfl) ?_
  refine RegD.skip (i := 9) rfl rfl rfl rfl rfl rfl rfl (by kernel_rfl) ?_
  refine RegD.skip (i := 10) rfl rfl rfl rfl rfl rfl rfl (by kernel_rfl) ?_
  refine RegD.tpur (i := 11) rfl rfl rfl rfl (by kernel_rfl) (Pur.pickF rfl rfl) ?_
  refine RegD.tpur (i := 12) rfl rfl rfl rfl (by kernel_rfl) (Pur.mv rfl) ?_
  refine RegD.skip (i := 13) rfl rfl rfl rfl rfl rfl rfl (by kernel_rfl) ?_
  refine RegD.skip (i := 14) rfl rfl rfl rfl rfl rfl rfl (by kernel_rfl) ?_
  refine RegD.tpur (i := 15) rfl rfl rfl rfl (by kernel_rfl) (Pur.pickF rfl rfl) ?_
  refine RegD.tpur (i := 16) rfl rfl rfl rfl (by kernel_rfl) (Pur.asg rfl) ?_
  refine RegD.done (by kernel_rfl) ?_
  refine At.ret rfl Tryd.func59 rfl ?_
  first
  | (have e : inst M (.fn x1 r1 x2) (.fn y1 r2 y2) = inst M2 x2 y2 := by simp only [inst, hi1, hi2]
     rw [e]
     exact ⟨rfl, g4, g5, hPZ, hM1, hM2, hC.trans hC3⟩)
  | (have e : inst M (.fn x1 r1 x2) (.fn y1 r2 y2) = none := by simp only [inst, hi1, Option.isSome_eq_false_iff.1 q100]; first | rfl | (rw [Option.isNone_iff_eq_none.1 (Option.isSome_eq_false_iff.1 q100)])
     rw [e]
     exact ⟨rfl, g1, g3, (fun M' h => by cases h), hM1, hM2, hC⟩)
  | (have e0 : inst M x1 y1 = none := Option.isNone_iff_eq_none.1 (Option.isSome_eq_false_iff.1 q90)
     have e : inst M (.fn x1 r1 x2) (.fn y1 r2 y2) = none := by simp only [inst, e0]
     rw [e]
     exact ⟨rfl, g1, g2, (fun M' h => by cases h), hM1, hM2, hC⟩)
end Go.Proofs.YtlfillhffpiffaaDoor

namespace Go.Proofs.YtlfillhffpiffaaDoor
set_option linter.unusedSimpArgs false
set_option linter.unusedVariables false
set_option maxRecDepth 8000
set_option maxHeartbeats 600000
open Go Go.Fx Go.Proofs
namespace FactsUniNE
theorem ag55 : ag Tryd.prog 55 = some 1 := by kernel_rfl
theorem pl100 : places Tryd.prog 100 = some [(0, 1), (1, 1)] := by kernel_rfl
theorem zc100 : zc Tryd.prog 100 = some [.map none, .map none] := by kernel_rfl
end FactsUniNE
open FactsUniNE

theorem tyM_nil (H : Heap) : TyM H (fun _ => none) [] := fun v => ⟨fun _ => rfl, fun t h => by cases h⟩
theorem rwM_nil : RwM (fun _ => none) [] := ⟨fun v => rfl, fun v d h => by cases h⟩
end Go.Proofs.YtlfillhffpiffaaDoor

namespace Go.Proofs.YtlfillhffpiffaaDoor
set_option linter.unusedSimpArgs false
set_option linter.unusedVariables false
set_option maxRecDepth 8000
set_option maxHeartbeats 4000000
open Go Go.Fx Go.Proofs
namespace FactsUniMB
theorem ag24 : ag Tryd.prog 24 = some 5 := by kernel_rfl
theorem ag55 : ag Tryd.prog 55 = some 1 := by kernel_rfl
theorem ag65 : ag Tryd.prog 65 = some 9 := by kernel_rfl
theorem es53 : esz Tryd.prog 53 = some 9 := by kernel_rfl
theorem fo55_0 : foff Tryd.prog 55 0 = some 0 := by kernel_rfl
theorem fo65_0 : foff Tryd.prog 65 0 = some 0 := by kernel_rfl
theorem fo65_1 : foff Tryd.prog 65 1 = some 1 := by kernel_rfl
theorem fo65_2 : foff Tryd.prog 65 2 = some 2 := by kernel_rfl
theorem fo65_3 : foff Tryd.prog 65 3 = some 3 := by kernel_rfl
theorem fo65_4 : foff Tryd.prog 65 4 = some 4 := by kernel_rfl
theorem mixed : Tryd.prog.follows .mixedOrders = true := by kernel_rfl
theorem sc3 : sc Tryd.prog 3 = true := by kernel_rfl
theorem sc53 : sc Tryd.prog 53 = true := by kernel_rfl
theorem zc55 : zc Tryd.prog 55 = some [.slice none 0 0] := by kernel_rfl
theorem zc65 : zc Tryd.prog 65 = some [.int .i64 0, .int .i64 0, .int .i64 0, .int .i64 0, .int .i64 0, .int .i64 0, .int .i64 0, .int .i64 0, .int .i64 0] := by kernel_rfl
end FactsUniMB
open FactsUniMB

end Go.Proofs.YtlfillhffpiffaaDoor

namespace Go.Proofs.YtlfillhffpiffaaDoor
set_option linter.unusedSimpArgs false
set_option linter.unusedVariables false
set_option maxRecDepth 8000
set_option maxHeartbeats 1000000
open Go Go.Fx Go.Proofs
namespace FactsUniAA
theorem ag55 : ag Tryd.prog 55 = some 1 := by kernel_rfl
theorem sc3 : sc Tryd.prog 3 = true := by kernel_rfl
end FactsUniAA
open FactsUniAA

end Go.Proofs.YtlfillhffpiffaaDoor

namespace Go.Proofs.YtlfillhffpiffaaDoor
set_option linter.unusedSimpArgs false
set_option linter.unusedVariables false
set_option maxRecDepth 8000
set_option maxHeartbeats 1000000
open Go Go.Fx Go.Proofs
namespace FactsUniMC
theorem ag55 : ag Tryd.prog 55 = some 1 := by kernel_rfl
theorem fo55_0 : foff Tryd.prog 55 0 = some 0 := by kernel_rfl
theorem isl53 : isSl Tryd.prog 53 = true := by kernel_rfl
theorem sc53 : sc Tryd.prog 53 = true := by kernel_rfl
end FactsUniMC
open FactsUniMC

end Go.Proofs.YtlfillhffpiffaaDoor

namespace Go.Proofs.YtlfillhffpiffaaDoor
set_option linter.unusedSimpArgs false
set_option linter.unusedVariables false
set_option maxRecDepth 8000
open Go Go.Fx Go.Proofs
namespace FactsUniSA
end FactsUniSA
open FactsUniSA

def bstr (l : List Int) : ByteArray := l.foldl (fun r n => r.push (UInt8.ofNat n.toNat)) ByteArray.empty
theorem push_size : ∀ (l : List Int) (s : ByteArray), (l.foldl (fun r n => r.push (UInt8.ofNat n.toNat)) s).size = s.size + l.length
  | [], _ => rfl
  | x :: l, s => by
    rw [List.foldl_cons, push_size l, ByteArray.size_push, List.length_cons]; omega
theorem bstr_size (l : List Int) : (bstr l).size = l.length := by
  unfold bstr; rw [push_size]; simp
section rules
variable {P : Program} {dst : Option Tmp} {ty : TypeId} {pos : String} {aft : Array Edge} {gd : Option (Nat × Bool)} {e : Env} {H : Heap}
theorem Pur.addS {t t' : TypeId} {x y : Operand} {a b : ByteArray} (hx : ev e x = some (.string a)) (hy : ev e y = some (.string b)) (h : a.size + b.size ≤ 9223372036854775807) :
    Pur P ⟨dst, .binOp .add t x y t', ty, pos, aft, gd⟩ e (.string (a ++ b)) := by
  intro A w hA
  have e1 := hA.ev hx
  have e2 := hA.ev hy
  have hn : ¬ ((a.size + b.size : Nat) : Int) > IntKind.i64.max := by rw [show IntKind.i64.max = 9223372036854775807 from rfl]; omega
  simp only [execOp, e1, e2, eqGuard_at_string, Sem.run_bind, Sem.run_pure, Result.andThen_ok]
  simp only [binOp, Op.stringOp]
  rw [if_neg hn]
  simp
end rules

def decG : Nat → Nat → List Int → List Int
  | 0, _, l => l
  | f + 1, n, l => if n = 0 ∧ l.length ≠ 0 then l else decG f (n / 10) (((48 + n % 10 : Nat) : Int) :: l)
def decI (n : Nat) : List Int := decG 8 n []
theorem decG_len : ∀ (f n : Nat) (l : List Int), (decG f n l).length ≤ f + l.length
  | 0, n, l => by simp [decG]
  | f + 1, n, l => by
    unfold decG; split
    · omega
    · have := decG_len f (n / 10) (((48 + n % 10 : Nat) : Int) :: l)
      rw [List.length_cons] at this; omega
def dec (n : Nat) : ByteArray := bstr (decI n)
theorem dec_size (n : Nat) : (dec n).size ≤ 8 := by
  unfold dec; rw [bstr_size]; exact decG_len 8 n []
theorem decG_go {f n : Nat} {l : List Int} (h : 0 < n ∨ l.length = 0) : decG (f + 1) n l = decG f (n / 10) (((48 + n % 10 : Nat) : Int) :: l) := by
  show (if _ then _ else _) = _
  rw [if_neg (by omega)]
theorem decG_end {f : Nat} {l : List Int} (h : l.length ≠ 0) : decG (f + 1) 0 l = l := by
  show (if _ then _ else _) = _
  rw [if_pos ⟨rfl, h⟩]
theorem pow_step {f n : Nat} (hf : n < 10 ^ (f + 1)) : n / 10 < 10 ^ f := by
  rw [Nat.pow_succ] at hf; omega
end Go.Proofs.YtlfillhffpiffaaDoor

namespace Go.Proofs.YtlfillhffpiffaaDoor
set_option linter.unusedSimpArgs false
set_option linter.unusedVariables false
set_option maxRecDepth 8000
open Go Go.Fx Go.Proofs
namespace FactsUniSB
theorem arr22 : arr Tryd.prog 22 = some (4, 1) := by kernel_rfl
theorem fo24_0 : foff Tryd.prog 24 0 = some 0 := by kernel_rfl
theorem fo24_1 : foff Tryd.prog 24 1 = some 4 := by kernel_rfl
theorem sc3 : sc Tryd.prog 3 = true := by kernel_rfl
end FactsUniSB
open FactsUniSB

def rone (i : Nat) (s : ByteArray) : ByteArray := (if (!(s.toList == (⟨#[]⟩ : ByteArray).toList)) = true then s ++ ⟨#[44]⟩ else s) ++ ⟨#[111]⟩ ++ dec i
def rrep (i : Nat) : Nat → ByteArray → ByteArray
  | 0, s => s
  | k + 1, s => rone i (rrep i k s)
def rall (r : List Int) : Nat → ByteArray
  | 0 => ⟨#[]⟩
  | i + 1 => rrep i (r.getD i 0).toNat (rall r i)
def rtx (R : List Int) (r : List Int) : ByteArray := ⟨#[60]⟩ ++ (if 0 ≤ r.getD 4 0 then rall r 4 ++ ⟨#[124, 101]⟩ ++ dec (ixL R (r.getD 4 0)) else rall r 4) ++ ⟨#[62]⟩
def rnm (R : List Int) (r : List Int) : List Int := if 0 ≤ r.getD 4 0 then addL R (r.getD 4 0) else R
theorem sz1 (a : UInt8) : (ByteArray.mk #[a]).size = 1 := rfl
theorem sz2 (a b : UInt8) : (ByteArray.mk #[a, b]).size = 2 := rfl
theorem rone_size (i : Nat) (s : ByteArray) : (rone i s).size ≤ s.size + 10 := by
  have := dec_size i
  unfold rone
  rw [ByteArray.size_append, ByteArray.size_append]
  split
  · rw [ByteArray.size_append, sz1, sz1]; omega
  · rw [sz1]; omega
theorem rrep_size (i : Nat) : ∀ (k : Nat) (s : ByteArray), (rrep i k s).size ≤ s.size + 10 * k
  | 0, s => by simp [rrep]
  | k + 1, s => by
    have h1 := rone_size i (rrep i k s)
    have h2 := rrep_size i k s
    unfold rrep; omega
theorem row_cnt {r : List Int} (h5 : r.length = 5) (h : rowM r = true) : ∀ i, i < 4 → 0 ≤ r.getD i 0 ∧ r.getD i 0 ≤ 32 := by
  intro i hi
  unfold rowM at h
  simp only [Bool.and_eq_true, List.all_eq_true] at h
  have := h.1 (r.getD i 0) (by rw [← take4_at h5 hi]; exact List.getElem_mem _)
  simpa [okc] using this
theorem rall_size {r : List Int} (h5 : r.length = 5) (h : rowM r = true) : ∀ i, i ≤ 4 → (rall r i).size ≤ 320 * i
  | 0, _ => Nat.le_refl 0
  | i + 1, hi => by
    have h1 := rrep_size i (r.getD i 0).toNat (rall r i)
    have h2 := rall_size h5 h i (by omega)
    have h3 := row_cnt h5 h i (by omega)
    unfold rall; omega
theorem rtx_size {R r : List Int} (h5 : r.length = 5) (h : rowM r = true) : (rtx R r).size ≤ 1300 := by
  have h1 := rall_size h5 h 4 (Nat.le_refl _)
  have h2 := dec_size (ixL R (r.getD 4 0))
  unfold rtx
  rw [ByteArray.size_append, ByteArray.size_append, sz1, sz1]
  split
  · rw [ByteArray.size_append, ByteArray.size_append, sz2]; omega
  · omega
theorem sza {a b : ByteArray} {m n : Nat} (h : a.size ≤ m) (k : b.size ≤ n) : (a ++ b).size ≤ m + n := by rw [ByteArray.size_append]; omega
theorem szs {a b : ByteArray} {m n : Nat} (h : a.size ≤ m) (k : b.size ≤ n) (hn : m + n ≤ 1000000000000) : a.size + b.size ≤ 9223372036854775807 := by omega
theorem sl1 (a : UInt8) : (ByteArray.mk #[a]).size ≤ 1 := Nat.le_refl _
theorem sl2 (a b : UInt8) : (ByteArray.mk #[a, b]).size ≤ 2 := Nat.le_refl _

end Go.Proofs.YtlfillhffpiffaaDoor

namespace Go.Proofs.YtlfillhffpiffaaDoor
set_option linter.unusedSimpArgs false
set_option linter.unusedVariables false
set_option maxRecDepth 8000
open Go Go.Fx Go.Proofs
namespace FactsUniSC
theorem ag24 : ag Tryd.prog 24 = some 5 := by kernel_rfl
theorem ag55 : ag Tryd.prog 55 = some 1 := by kernel_rfl
theorem ag65 : ag Tryd.prog 65 = some 9 := by kernel_rfl
theorem es53 : esz Tryd.prog 53 = some 9 := by kernel_rfl
theorem fo55_0 : foff Tryd.prog 55 0 = some 0 := by kernel_rfl
theorem fo65_0 : foff Tryd.prog 65 0 = some 0 := by kernel_rfl
theorem fo65_1 : foff Tryd.prog 65 1 = some 1 := by kernel_rfl
theorem fo65_2 : foff Tryd.prog 65 2 = some 2 := by kernel_rfl
theorem fo65_3 : foff Tryd.prog 65 3 = some 3 := by kernel_rfl
theorem fo65_4 : foff Tryd.prog 65 4 = some 4 := by kernel_rfl
theorem isl53 : isSl Tryd.prog 53 = true := by kernel_rfl
theorem sc3 : sc Tryd.prog 3 = true := by kernel_rfl
theorem sc53 : sc Tryd.prog 53 = true := by kernel_rfl
theorem zc65 : zc Tryd.prog 65 = some [.int .i64 0, .int .i64 0, .int .i64 0, .int .i64 0, .int .i64 0, .int .i64 0, .int .i64 0, .int .i64 0, .int .i64 0] := by kernel_rfl
end FactsUniSC
open FactsUniSC

def tx : Nms → Tm → ByteArray × Nms
  | N, .bas b => (if b then ⟨#[98, 111, 111, 108]⟩ else ⟨#[105, 110, 116]⟩, N)
  | N, .var v => (⟨#[116]⟩ ++ dec (ixL N.1 v), (addL N.1 v, N.2))
  | N, .fn a r b => (⟨#[40]⟩ ++ (tx N a).1 ++ ⟨#[32, 45]⟩ ++ rtx (tx N a).2.2 r ++ ⟨#[32]⟩ ++ (tx ((tx N a).2.1, rnm (tx N a).2.2 r) b).1 ++ ⟨#[41]⟩, (tx ((tx N a).2.1, rnm (tx N a).2.2 r) b).2)
theorem tx_size : ∀ (t : Tm) (N : Nms), t.ok → (tx N t).1.size ≤ 1400 * t.sz
  | .bas b, N, _ => by cases b <;> exact Nat.le_of_ble_eq_true rfl
  | .var v, N, _ => by
    have := dec_size (ixL N.1 v)
    simp only [tx, Tm.sz]
    rw [ByteArray.size_append, sz1]; omega
  | .fn a r b, N, h => by
    have h1 := tx_size a N h.1
    have h2 := tx_size b ((tx N a).2.1, rnm (tx N a).2.2 r) h.2.2.2
    have h3 := rtx_size (R := (tx N a).2.2) h.2.1 h.2.2.1
    simp only [tx, Tm.sz]
    rw [ByteArray.size_append, ByteArray.size_append, ByteArray.size_append, ByteArray.size_append, ByteArray.size_append, ByteArray.size_append, sz1, sz2, sz1, sz1]
    omega
theorem rnm_len (R r : List Int) : (rnm R r).length ≤ R.length + 1 := by
  have := addL_len R (r.getD 4 0)
  unfold rnm; split <;> omega
theorem tx_len : ∀ (t : Tm) (N : Nms), (tx N t).2.1.length + (tx N t).2.2.length ≤ N.1.length + N.2.length + t.sz
  | .bas b, N => by simp only [tx, Tm.sz]; omega
  | .var v, N => by
    have := addL_len N.1 v
    simp only [tx, Tm.sz]; omega
  | .fn a r b, N => by
    have h1 := tx_len a N
    have h2 := tx_len b ((tx N a).2.1, rnm (tx N a).2.2 r)
    have h3 := rnm_len (tx N a).2.2 r
    simp only [tx, Tm.sz]
    dsimp only at h2
    omega
theorem nd_at (t : Tm) (pre post : List (List Int)) (x : List Int) (hx : el (pre ++ t.enc pre.length ++ post) ((pre.length : Int) + t.sz - 1) = x) :
    (x.getD 0 0 = 0 → t = .bas false) ∧ (x.getD 0 0 = 1 → t = .bas true) ∧ (x.getD 0 0 = 2 → t = .var (x.getD 1 0)) ∧
    (x.getD 0 0 ≠ 0 → x.getD 0 0 ≠ 1 → x.getD 0 0 ≠ 2 → ∃ a r b, t = .fn a r b ∧ x = fNode ((pre.length : Int) + a.sz - 1) ((pre.length : Int) + a.sz + b.sz - 1) r) := by
  cases t with
  | bas b =>
    rw [show (pre.length : Int) + (Tm.bas b).sz - 1 = pre.length by simp only [Tm.sz]; omega] at hx
    simp only [Tm.enc, List.append_assoc, List.singleton_append] at hx
    rw [el_mid] at hx; subst hx
    cases b <;> simp
  | var v =>
    rw [show (pre.length : Int) + (Tm.var v).sz - 1 = pre.length by simp only [Tm.sz]; omega] at hx
    simp only [Tm.enc, List.append_assoc, List.singleton_append] at hx
    rw [el_mid] at hx; subst hx
    simp
  | fn a r b =>
    have hp2 : ((pre ++ a.enc pre.length ++ b.enc ((pre.length : Int) + a.sz)).length : Int) = (pre.length : Int) + a.sz + b.sz := by rw [List.length_append, List.length_append, Tm.enc_len, Tm.enc_len]; omega
    have hL1 : pre ++ (Tm.fn a r b).enc pre.length ++ post = (pre ++ a.enc pre.length ++ b.enc ((pre.length : Int) + a.sz)) ++ fNode ((pre.length : Int) + a.sz - 1) ((pre.length : Int) + a.sz + b.sz - 1) r :: post := by
      simp only [Tm.enc, List.append_assoc, List.singleton_append]
    rw [hL1, show (pre.length : Int) + (Tm.fn a r b).sz - 1 = ((pre ++ a.enc pre.length ++ b.enc ((pre.length : Int) + a.sz)).length : Int) by rw [hp2]; simp only [Tm.sz]; omega, el_mid] at hx
    subst hx
    exact ⟨fun h => by (change (3 : Int) = 0 at h); omega, fun h => by (change (3 : Int) = 1 at h); omega, fun h => by (change (3 : Int) = 2 at h); omega, fun _ _ _ => ⟨a, r, b, rfl, rfl⟩⟩
theorem spl_a (a : Tm) (r : List Int) (b : Tm) (pre post : List (List Int)) : pre ++ (Tm.fn a r b).enc pre.length ++ post = pre ++ a.enc pre.length ++ (b.enc ((pre.length : Int) + a.sz) ++ fNode ((pre.length : Int) + a.sz - 1) ((pre.length : Int) + a.sz + b.sz - 1) r :: post) := by
  simp only [Tm.enc, List.append_assoc, List.singleton_append]
theorem spl_b (a : Tm) (r : List Int) (b : Tm) (pre post : List (List Int)) : pre ++ (Tm.fn a r b).enc pre.length ++ post = (pre ++ a.enc pre.length) ++ b.enc ((pre ++ a.enc pre.length).length : Int) ++ (fNode ((pre.length : Int) + a.sz - 1) ((pre.length : Int) + a.sz + b.sz - 1) r :: post) := by
  have hp : ((pre ++ a.enc pre.length).length : Int) = (pre.length : Int) + a.sz := by rw [List.length_append, Tm.enc_len]; omega
  rw [hp]; simp only [Tm.enc, List.append_assoc, List.singleton_append]
theorem spl_l (a : Tm) (pre : List (List Int)) : (pre ++ a.enc pre.length).length = pre.length + a.sz := by rw [List.length_append, Tm.enc_len]

end Go.Proofs.YtlfillhffpiffaaDoor

namespace Go.Proofs.YtlfillhffpiffaaDoor
set_option linter.unusedSimpArgs false
set_option linter.unusedVariables false
set_option maxRecDepth 8000
open Go Go.Fx Go.Proofs

def PrT (θ θ' : Asg) (σ : Int → Int) (v : Int) : Prop := θ.T v = .var (σ v) ∧ θ'.T (σ v) = .var v
def PrR (θ θ' : Asg) (ρ : Int → Int) (v : Int) : Prop := θ.R v = [0, 0, 0, 0, ρ v] ∧ 0 ≤ ρ v ∧ θ'.R (ρ v) = [0, 0, 0, 0, v]
def nmV : Tm → Int
  | .var w => w
  | _ => 0
theorem ix_map {σ : Int → Int} {v : Int} : ∀ {T : List Int}, (∀ u ∈ T, σ u = σ v → u = v) → ixL (T.map σ) (σ v) = ixL T v
  | [], _ => rfl
  | x :: T, h => by
    simp only [List.map_cons, ixL]
    by_cases hx : x = v
    · rw [if_pos hx, if_pos (by rw [hx])]
    · rw [if_neg hx, if_neg (fun e => hx (h x List.mem_cons_self e)), ix_map (fun u hu => h u (List.mem_cons_of_mem _ hu))]
theorem add_map {σ : Int → Int} {v : Int} {T : List Int} (h : ∀ u ∈ T, σ u = σ v → u = v) : addL (T.map σ) (σ v) = (addL T v).map σ := by
  unfold addL inL
  rw [ix_map h, List.length_map]
  split <;> simp
theorem mem_add {T : List Int} {v u : Int} (h : u ∈ addL T v) : u ∈ T ∨ u = v := by
  unfold addL at h
  split at h
  · exact .inl h
  · simpa using h
theorem pr_inj {θ θ' : Asg} {σ : Int → Int} {u v : Int} (hu : PrT θ θ' σ u) (hv : PrT θ θ' σ v) (e : σ u = σ v) : u = v := by
  have h1 := hu.2
  rw [e, hv.2] at h1
  injection h1 with h1; exact h1.symm
theorem prR_inj {θ θ' : Asg} {ρ : Int → Int} {u v : Int} (hu : PrR θ θ' ρ u) (hv : PrR θ θ' ρ v) (e : ρ u = ρ v) : u = v := by
  have h1 := hu.2.2
  rw [e, hv.2.2] at h1
  injection h1 with _ h1; injection h1 with _ h1; injection h1 with _ h1; injection h1 with _ h1; injection h1 with h1; exact h1.symm
theorem rall_of {r s : List Int} (h : ∀ i, i < 4 → s.getD i 0 = r.getD i 0) : ∀ i, i ≤ 4 → rall s i = rall r i
  | 0, _ => rfl
  | i + 1, hi => by
    unfold rall
    rw [rall_of h i (by omega), h i (by omega)]
theorem row_back {θ θ' : Asg} (hθ : θ.Ok) (hθ' : θ'.Ok) {r : List Int} (h5 : r.length = 5) (ht : ¬ r.getD 4 0 < 0) (h : θ'.row (θ.row r) = r) :
    PrR θ θ' (fun v => (θ.R v).getD 4 0) (r.getD 4 0) ∧ θ.row r = adR r [0, 0, 0, 0, (θ.R (r.getD 4 0)).getD 4 0] := by
  have k1 := hθ.len (r.getD 4 0) (by omega)
  have k2 := hθ.pos (r.getD 4 0) (by omega)
  rw [Asg.row_yes ht] at h ⊢
  generalize hd : θ.R (r.getD 4 0) = d at k1 k2 h ⊢
  obtain ⟨d0, d1, d2, d3, d4, rfl⟩ := row_five k1
  obtain ⟨r0, r1, r2, r3, r4, rfl⟩ := row_five h5
  have e4 : (adR [r0, r1, r2, r3, r4] [d0, d1, d2, d3, d4]).getD 4 0 = d4 := rfl
  have hr4 : ¬ r4 < 0 := ht
  by_cases h0 : d4 < 0
  · rw [Asg.row_no (by rw [e4]; exact h0), adR_five] at h
    injection h with _ h; injection h with _ h; injection h with _ h; injection h with _ h; injection h with h; omega
  · rw [Asg.row_yes (by rw [e4]; exact h0), e4] at h
    have m1 := hθ'.len d4 (by omega)
    have m2 := hθ'.pos d4 (by omega)
    generalize he : θ'.R d4 = e at m1 m2 h
    obtain ⟨f0, f1, f2, f3, f4, rfl⟩ := row_five m1
    rw [adR_five, adR_five] at h
    injection h with g0 h; injection h with g1 h; injection h with g2 h; injection h with g3 h; injection h with g4 h
    have q0 : 0 ≤ d0 := k2 0 (by omega)
    have q1 : 0 ≤ d1 := k2 1 (by omega)
    have q2 : 0 ≤ d2 := k2 2 (by omega)
    have q3 : 0 ≤ d3 := k2 3 (by omega)
    have p0 : 0 ≤ f0 := m2 0 (by omega)
    have p1 : 0 ≤ f1 := m2 1 (by omega)
    have p2 : 0 ≤ f2 := m2 2 (by omega)
    have p3 : 0 ≤ f3 := m2 3 (by omega)
    obtain rfl : d0 = 0 := by omega
    obtain rfl : d1 = 0 := by omega
    obtain rfl : d2 = 0 := by omega
    obtain rfl : d3 = 0 := by omega
    obtain rfl : f0 = 0 := by omega
    obtain rfl : f1 = 0 := by omega
    obtain rfl : f2 = 0 := by omega
    obtain rfl : f3 = 0 := by omega
    subst g4
    have hd' : θ.R f4 = [0, 0, 0, 0, d4] := hd
    have hw : (fun v => (θ.R v).getD 4 0) f4 = d4 := by show (θ.R f4).getD 4 0 = d4; rw [hd']; rfl
    exact ⟨⟨by rw [show ([r0, r1, r2, r3, f4] : List Int).getD 4 0 = f4 from rfl, hw]; exact hd', by rw [show ([r0, r1, r2, r3, f4] : List Int).getD 4 0 = f4 from rfl, hw]; omega, by rw [show ([r0, r1, r2, r3, f4] : List Int).getD 4 0 = f4 from rfl, hw]; exact he⟩, rfl⟩
def AllP (θ θ' : Asg) (N : Nms) : Prop := (∀ v ∈ N.1, PrT θ θ' (fun v => nmV (θ.T v)) v) ∧ ∀ v ∈ N.2, PrR θ θ' (fun v => (θ.R v).getD 4 0) v
def mpN (θ : Asg) (N : Nms) : Nms := (N.1.map (fun v => nmV (θ.T v)), N.2.map (fun v => (θ.R v).getD 4 0))
theorem tx_ren {θ θ' : Asg} (hθ : θ.Ok) (hθ' : θ'.Ok) : ∀ (p : Tm) (N : Nms), p.ok → θ'.tm (θ.tm p) = p → AllP θ θ' N → tx (mpN θ N) (θ.tm p) = ((tx N p).1, mpN θ (tx N p).2) ∧ AllP θ θ' (tx N p).2
  | .bas b, N, _, _, hN => ⟨rfl, hN⟩
  | .var v, N, _, h, hN => by
    simp only [Asg.tm] at h ⊢
    cases hv : θ.T v with
    | bas b => rw [hv] at h; cases h
    | fn a r b => rw [hv] at h; cases h
    | var w =>
      rw [hv] at h
      have hp : PrT θ θ' (fun v => nmV (θ.T v)) v := ⟨by (show θ.T v = Tm.var (nmV (θ.T v))); rw [hv]; rfl, by (show θ'.T (nmV (θ.T v)) = _); rw [hv]; exact h⟩
      have hinj : ∀ u ∈ N.1, (fun v => nmV (θ.T v)) u = (fun v => nmV (θ.T v)) v → u = v := fun u hu e => pr_inj (hN.1 u hu) hp e
      have hw : nmV (θ.T v) = w := by rw [hv]; rfl
      have i1 := ix_map hinj
      have i2 := add_map hinj
      rw [hw] at i1 i2
      refine ⟨?_, fun u hu => ?_, hN.2⟩
      · simp only [tx, mpN]; rw [i1, i2]
      · rcases mem_add hu with hu | rfl
        · exact hN.1 u hu
        · exact hp
  | .fn a r b, N, ho, h, hN => by
    simp only [Asg.tm] at h ⊢
    injection h with ha hr hb
    obtain ⟨A1, A2⟩ := tx_ren hθ hθ' a N ho.1 ha hN
    have hrow : rtx (mpN θ (tx N a).2).2 (θ.row r) = rtx (tx N a).2.2 r ∧ rnm (mpN θ (tx N a).2).2 (θ.row r) = (rnm (tx N a).2.2 r).map (fun v => (θ.R v).getD 4 0) ∧ ∀ v ∈ rnm (tx N a).2.2 r, PrR θ θ' (fun v => (θ.R v).getD 4 0) v := by
      by_cases ht : r.getD 4 0 < 0
      · rw [Asg.row_no ht]
        unfold rtx rnm
        rw [if_neg (by omega), if_neg (by omega), if_neg (by omega), if_neg (by omega)]
        exact ⟨rfl, rfl, A2.2⟩
      · obtain ⟨hp, he⟩ := row_back hθ hθ' ho.2.1 ht hr
        have hinj : ∀ u ∈ (tx N a).2.2, (fun v => (θ.R v).getD 4 0) u = (fun v => (θ.R v).getD 4 0) (r.getD 4 0) → u = r.getD 4 0 := fun u hu e => prR_inj (A2.2 u hu) hp e
        have i1 := ix_map hinj
        have i2 := add_map hinj
        have hpos : 0 ≤ (θ.R (r.getD 4 0)).getD 4 0 := hp.2.1
        rw [he]
        have e4 : (adR r [0, 0, 0, 0, (θ.R (r.getD 4 0)).getD 4 0]).getD 4 0 = (θ.R (r.getD 4 0)).getD 4 0 := rfl
        have hal : rall (adR r [0, 0, 0, 0, (θ.R (r.getD 4 0)).getD 4 0]) 4 = rall r 4 := rall_of (fun i hi => by
          rw [adR_at r _ i hi]
          match i, hi with
          | 0, _ => exact Int.add_zero _
          | 1, _ => exact Int.add_zero _
          | 2, _ => exact Int.add_zero _
          | 3, _ => exact Int.add_zero _) 4 (Nat.le_refl _)
        unfold rtx rnm mpN
        rw [e4, hal, if_pos hpos, if_pos hpos, if_pos (by omega), if_pos (by omega)]
        dsimp only
        rw [i1, i2]
        refine ⟨rfl, rfl, fun v hv => ?_⟩
        rcases mem_add hv with hv | rfl
        · exact A2.2 v hv
        · exact hp
    obtain ⟨R1, R2, R3⟩ := hrow
    obtain ⟨B1, B2⟩ := tx_ren hθ hθ' b ((tx N a).2.1, rnm (tx N a).2.2 r) ho.2.2.2 hb ⟨A2.1, R3⟩
    refine ⟨?_, B2⟩
    have hm : ((mpN θ (tx N a).2).1, rnm (mpN θ (tx N a).2).2 (θ.row r)) = mpN θ ((tx N a).2.1, rnm (tx N a).2.2 r) := by rw [R2]; rfl
    simp only [tx]
    rw [A1]
    dsimp only
    rw [R1, hm, B1]
theorem tx_one {θ θ' : Asg} (hθ : θ.Ok) (hθ' : θ'.Ok) {p q : Tm} (hp : p.ok) (h1 : θ.tm p = q) (h2 : θ'.tm q = p) : (tx ([], []) p).1 = (tx ([], []) q).1 := by
  subst h1
  have := (tx_ren hθ hθ' p ([], []) hp h2 ⟨(fun v hv => nomatch hv), (fun v hv => nomatch hv)⟩).1
  rw [show mpN θ ([], []) = ([], []) from rfl] at this
  rw [this]
end Go.Proofs.YtlfillhffpiffaaDoor

namespace Go.Proofs.YtlfillhffpiffaaDoor
set_option linter.unusedSimpArgs false
set_option linter.unusedVariables false
set_option maxRecDepth 8000
open Go Go.Fx Go.Proofs

theorem ints_of_fits {H : Heap} {v : Value} (h : fitc H (.sl 8 [.int .i64]) v) : ∃ (A : Option Addr) (cap : Nat) (l : List Int), v = .slice A l.length cap ∧ SlT H e1 1 (.slice A l.length cap) l ∧ l.length * 8 ≤ 140737488351232 := by
  obtain ⟨L, _, hS, hb⟩ := SlT.of_fits (p := fun _ : Int => True) (enc := e1) h (fun cs h => by obtain ⟨n, rfl, _⟩ := fit_int h; exact ⟨n, trivial, rfl⟩)
  have hS' := hS
  obtain ⟨A, cap, rfl, _⟩ := hS'
  exact ⟨A, cap, L, rfl, hS, by rw [show reachBytes = 140737488351232 from rfl] at hb; omega⟩
theorem rows_of_fits {H : Heap} {v : Value} (h : fitc H (.sl 40 (List.replicate 5 (.int .i64))) v) : ∃ (A : Option Addr) (cap : Nat) (L : List (List Int)), v = .slice A L.length cap ∧ SlT H Is 5 (.slice A L.length cap) L ∧ Five L ∧ L.length * 40 ≤ 140737488351232 := by
  obtain ⟨L, hL, hS, hb⟩ := SlT.of_fits (p := fun x : List Int => x.length = 5) (enc := Is) h (fun cs h => by obtain ⟨xs, rfl, hl, _⟩ := fit_ints h; exact ⟨xs, hl, rfl⟩)
  have hS' := hS
  obtain ⟨A, cap, rfl, _⟩ := hS'
  exact ⟨A, cap, L, rfl, hS, hL, by rw [show reachBytes = 140737488351232 from rfl] at hb; omega⟩
theorem types_of_fits {H : Heap} {v : Value} (h : fitc H (.sl 24 [.sl 72 (List.replicate 9 (.int .i64))]) v) : ∃ (A : Option Addr) (cap : Nat) (L : List Td), v = .slice A L.length cap ∧ Tds H (.slice A L.length cap) L := by
  obtain ⟨L, hL, hS, hb⟩ := SlT.of_fits (p := fun t : Td => t.Ok H) (enc := encT) h (fun cs h => by
    obtain ⟨v, rfl, hv⟩ := fit_one h
    obtain ⟨A, cap, L, rfl, h9, hS, hm⟩ := type_of_fits hv
    exact ⟨⟨A, cap, L⟩, ⟨hS, h9, hm⟩, rfl⟩)
  have hS' := hS
  obtain ⟨A, cap, rfl, _⟩ := hS'
  exact ⟨A, cap, L, rfl, hS, hL, by rw [show reachBytes = 140737488351232 from rfl] at hb; omega⟩
end Go.Proofs.YtlfillhffpiffaaDoor

namespace Go.Proofs
open Go.Shelf
def Tryd.lays156_ren : Go.Shelf.Ren := ⟨fun | 156 => 75 | 165 => 98 | 166 => 99 | 169 => 100 | 240 => 109 | 241 => 110 | 276 => 116 | 277 => 117 | n => n, fun | 31 => 123 | 9 => 9 | 3 => 3 | 4 => 4 | 0 => 0 | 20 => 20 | 72 => 146 | 76 => 150 | 70 => 144 | 37 => 94 | 75 => 149 | 127 => 161 | 164 => 168 | 5 => 5 | 80 => 152 | n => n, fun | n => n⟩
theorem Tryd.lays156 : Go.Proofs.Lays.n156 Tryd.prog Tryd.lays156_ren := {
  mixed := by kernel_rfl
  f156 := Tryd.func75.trans (congrArg some (by kernel_rfl))
  f165 := Tryd.func98.trans (congrArg some (by kernel_rfl))
  f166 := Tryd.func99.trans (congrArg some (by kernel_rfl))
  f169 := Tryd.func100.trans (congrArg some (by kernel_rfl))
  f240 := Tryd.func109.trans (congrArg some (by kernel_rfl))
  f241 := Tryd.func110.trans (congrArg some (by kernel_rfl))
  f276 := Tryd.func116.trans (congrArg some (by kernel_rfl))
  f277 := Tryd.func117.trans (congrArg some (by kernel_rfl))
  t0 := Tryd.underlying0
  a0 := Tryd.isAgg0
  z0 := Tryd.sizeOf0
  v0 := Tryd.zeroValue0
  t3 := Tryd.underlying3
  a3 := Tryd.isAgg3
  z3 := Tryd.sizeOf3
  v3 := Tryd.zeroValue3
  t4 := Tryd.underlying4
  a4 := Tryd.isAgg4
  z4 := Tryd.sizeOf4
  v4 := Tryd.zeroValue4
  t9 := Tryd.underlying9
  a9 := Tryd.isAgg9
  z9 := Tryd.sizeOf9
  v9 := Tryd.zeroValue9
  t20 := Tryd.underlying20
  a20 := Tryd.isAgg20
  z20 := Tryd.sizeOf20
  v20 := Tryd.zeroValue20
  t31 := Tryd.underlying123
  a31 := Tryd.isAgg123
  z31 := Tryd.sizeOf123
  v31 := Tryd.zeroValue123
  t37 := Tryd.underlying94
  a37 := Tryd.isAgg94
  z37 := Tryd.sizeOf94
  v37 := Tryd.zeroValue94
  t70 := Tryd.underlying144
  a70 := Tryd.isAgg144
  z70 := Tryd.sizeOf144
  v70 := Tryd.zeroValue144
  t72 := Tryd.underlying146
  a72 := Tryd.isAgg146
  z72 := Tryd.sizeOf146
  v72 := Tryd.zeroValue146
  t75 := Tryd.underlying149
  a75 := Tryd.isAgg149
  z75 := Tryd.sizeOf149
  v75 := Tryd.zeroValue149
  t76 := Tryd.underlying150
  a76 := Tryd.isAgg150
  z76 := Tryd.sizeOf150
  v76 := Tryd.zeroValue150
  t127 := Tryd.underlying161
  a127 := Tryd.isAgg161
  z127 := Tryd.sizeOf161
  v127 := Tryd.zeroValue161
  t164 := Tryd.underlying168
  a164 := Tryd.isAgg168
  z164 := Tryd.sizeOf168
  v164 := Tryd.zeroValue168 }
theorem Tryd.Builder_Extra_156 : Builder.Extra Tryd.prog Tryd.lays156_ren := {
  sizeBuilder := by kernel_rfl
  liesBuilder := by kernel_rfl
  t5 := Tryd.underlying5
  a5 := Tryd.isAgg5
  z5 := Tryd.sizeOf5
  v5 := Tryd.zeroValue5
  infoByte := by kernel_rfl
  cellsByte := by kernel_rfl
  sizeByte := by kernel_rfl
  neB5 := by decide }
open Go.RowKit in
theorem Tryd.strings_Join_none (a : Option Addr) (c : Nat) (sep : ByteArray) (w : World) :
    Calls Tryd.prog 75 #[.slice a 0 c, .string sep] w fun e w' => e = .returned (.string ⟨#[]⟩) ∧ w' = w := Any.strings_Join_none Tryd.lays156 Tryd.Builder_Extra_156 a c sep w
open Go.RowKit in
theorem Tryd.strings_Join (bk o c : Nat) (xs : List ByteArray) (sep : ByteArray) (w : World) (hcells : ∀ (j : Nat) x, xs[j]? = some x → w.cell? ⟨bk, o + j, none⟩ = some (.string x)) (hbk : bk < w.heap.size) (hN : xs.length ≤ 140737488355328) (hcap : xs.length ≤ c) (hlen : (Lib.join (xs.map (·.data.toList)) sep.data.toList).length ≤ 140737488355328) :
    Calls Tryd.prog 75 #[.slice (some ⟨bk, o, none⟩) xs.length c, .string sep] w fun e w' => e = .returned (.string ⟨(Lib.join (xs.map (·.data.toList)) sep.data.toList).toArray⟩) ∧ Below w.heap.size w w' := Any.strings_Join Tryd.lays156 Tryd.Builder_Extra_156 bk o c xs sep w hcells hbk hN hcap hlen
def Tryd.laysM171_ren : Go.Shelf.Ren := ⟨fun | 171 => 74 | 243 => 97 | 246 => 108 | 283 => 112 | 284 => 113 | 285 => 114 | 286 => 115 | 129 => 119 | 317 => 118 | 318 => 120 | 319 => 121 | 320 => 122 | 337 => 123 | 338 => 124 | n => n, fun | 3 => 3 | 9 => 9 | 2 => 2 | 4 => 4 | 171 => 163 | 0 => 0 | 53 => 93 | 37 => 94 | 5 => 5 | 173 => 166 | 212 => 172 | 51 => 173 | 20 => 20 | 213 => 174 | 46 => 47 | 232 => 178 | 233 => 179 | n => n, fun | 17 => 0 | 18 => 2 | 19 => 3 | n => n⟩
theorem Tryd.laysM171 : Go.Proofs.LaysM.n171 Tryd.prog Tryd.laysM171_ren := {
  mixed := by kernel_rfl
  f129 := Tryd.func119.trans (congrArg some (by kernel_rfl))
  f171 := Tryd.func74.trans (congrArg some (by kernel_rfl))
  f243 := Tryd.func97.trans (congrArg some (by kernel_rfl))
  f246 := Tryd.func108.trans (congrArg some (by kernel_rfl))
  f283 := Tryd.func112.trans (congrArg some (by kernel_rfl))
  f284 := Tryd.func113.trans (congrArg some (by kernel_rfl))
  f285 := Tryd.func114.trans (congrArg some (by kernel_rfl))
  f286 := Tryd.func115.trans (congrArg some (by kernel_rfl))
  f317 := Tryd.func118.trans (congrArg some (by kernel_rfl))
  f318 := Tryd.func120.trans (congrArg some (by kernel_rfl))
  f319 := Tryd.func121.trans (congrArg some (by kernel_rfl))
  f320 := Tryd.func122.trans (congrArg some (by kernel_rfl))
  f337 := Tryd.func123.trans (congrArg some (by kernel_rfl))
  f338 := Tryd.func124.trans (congrArg some (by kernel_rfl))
  t0 := Tryd.underlying0
  a0 := Tryd.isAgg0
  z0 := Tryd.sizeOf0
  v0 := Tryd.zeroValue0
  t2 := Tryd.underlying2
  a2 := Tryd.isAgg2
  z2 := Tryd.sizeOf2
  v2 := Tryd.zeroValue2
  t3 := Tryd.underlying3
  a3 := Tryd.isAgg3
  z3 := Tryd.sizeOf3
  v3 := Tryd.zeroValue3
  t4 := Tryd.underlying4
  a4 := Tryd.isAgg4
  z4 := Tryd.sizeOf4
  v4 := Tryd.zeroValue4
  t5 := Tryd.underlying5
  a5 := Tryd.isAgg5
  z5 := Tryd.sizeOf5
  v5 := Tryd.zeroValue5
  t9 := Tryd.underlying9
  a9 := Tryd.isAgg9
  z9 := Tryd.sizeOf9
  v9 := Tryd.zeroValue9
  t20 := Tryd.underlying20
  a20 := Tryd.isAgg20
  z20 := Tryd.sizeOf20
  v20 := Tryd.zeroValue20
  t37 := Tryd.underlying94
  a37 := Tryd.isAgg94
  z37 := Tryd.sizeOf94
  v37 := Tryd.zeroValue94
  t46 := Tryd.underlying47
  a46 := Tryd.isAgg47
  z46 := Tryd.sizeOf47
  v46 := Tryd.zeroValue47
  t51 := Tryd.underlying173
  a51 := Tryd.isAgg173
  z51 := Tryd.sizeOf173
  v51 := Tryd.zeroValue173
  t53 := Tryd.underlying93
  a53 := Tryd.isAgg93
  z53 := Tryd.sizeOf93
  v53 := Tryd.zeroValue93
  t171 := Tryd.underlying163
  a171 := Tryd.isAgg163
  z171 := Tryd.sizeOf163
  v171 := Tryd.zeroValue163
  t173 := Tryd.underlying166
  a173 := Tryd.isAgg166
  z173 := Tryd.sizeOf166
  v173 := Tryd.zeroValue166
  t212 := Tryd.underlying172
  a212 := Tryd.isAgg172
  z212 := Tryd.sizeOf172
  v212 := Tryd.zeroValue172
  t213 := Tryd.underlying174
  a213 := Tryd.isAgg174
  z213 := Tryd.sizeOf174
  t232 := Tryd.underlying178
  a232 := Tryd.isAgg178
  z232 := Tryd.sizeOf178
  v232 := Tryd.zeroValue178
  t233 := Tryd.underlying179
  a233 := Tryd.isAgg179
  z233 := Tryd.sizeOf179
  v233 := Tryd.zeroValue179
  g17 := by kernel_rfl
  g18 := by kernel_rfl
  g19 := by kernel_rfl
  i0 := by kernel_rfl
  i2 := by kernel_rfl
  i3 := by kernel_rfl
  i4 := by kernel_rfl
  i5 := by kernel_rfl
  i9 := by kernel_rfl
  i20 := by kernel_rfl
  i37 := by kernel_rfl
  i46 := by kernel_rfl
  i51 := by kernel_rfl
  i53 := by kernel_rfl
  i171 := by kernel_rfl
  i173 := by kernel_rfl
  i212 := by kernel_rfl
  i232 := by kernel_rfl
  i233 := by kernel_rfl
  m17 := by kernel_rfl
  m18 := by kernel_rfl
  m19 := by kernel_rfl }
end Go.Proofs

namespace Go.Proofs.YtlfillhffpiffaaDoor
set_option linter.unusedSimpArgs false
set_option linter.unusedVariables false
set_option maxRecDepth 8000
open Go Go.Fx Go.Proofs

abbrev tens : List Value := Lib.pow10Tab.map fun z => Value.int .u64 z
abbrev Tens (H : Heap) : Prop := Blk H 0 tens
theorem tab_of {name : String} {w0 : World} {H : Heap} {n g : Nat} {zs : List Int} {k : IntKind} (hg : Tryd.prog.globalNamed name = some g) (h : Blk H g (zs.map fun z => Value.int k z)) : Lib.TabIs Tryd.prog (mk w0 H n) name k zs := by
  obtain ⟨T, fr, h⟩ := h
  unfold Lib.TabIs World.var?
  rw [hg]
  simp only [Option.bind_some, mk_heap, h]
theorem bstr_data : ∀ (l : List UInt8) (s : ByteArray), ((l.map fun b => ((b.toNat : Nat) : Int)).foldl (fun r n => r.push (UInt8.ofNat n.toNat)) s).data.toList = s.data.toList ++ l
  | [], s => by simp
  | x :: l, s => by
    rw [List.map_cons, List.foldl_cons, bstr_data l]
    simp [ByteArray.push]
theorem bstr_nat (l : List UInt8) : bstr (l.map fun b => ((b.toNat : Nat) : Int)) = ⟨l.toArray⟩ := by
  apply WideShapes.bytes_inj
  unfold bstr
  rw [bstr_data]
  simp
theorem decG_dig : ∀ (f n : Nat) (l : List Int), n < 10 ^ f → 0 < f → (0 < n ∨ l.length = 0) → decG (f + 1) n l = (Lib.decDigits n).map (fun b => ((b.toNat : Nat) : Int)) ++ l
  | 0, _, _, _, h, _ => absurd h (by omega)
  | f + 1, n, l, hn, _, h => by
    rw [decG_go h]
    unfold Lib.decDigits
    split
    · rename_i h10
      rw [show n / 10 = 0 by omega, decG_end (by simp), show n % 10 = n by omega]
      have : (UInt8.ofNat (48 + n)).toNat = 48 + n := by rw [UInt8.toNat_ofNat']; omega
      simp only [List.map_append, List.map_cons, List.map_nil, this, List.append_assoc, List.singleton_append, List.nil_append]
    · rename_i h10
      have hp := pow_step hn
      have hf : 0 < f := Nat.pos_of_ne_zero fun h0 => by subst h0; simp at hp; omega
      rw [decG_dig f (n / 10) _ hp hf (.inl (by omega))]
      have : (UInt8.ofNat (48 + n % 10)).toNat = 48 + n % 10 := by rw [UInt8.toNat_ofNat']; omega
      simp only [List.map_append, List.map_cons, List.map_nil, this, List.append_assoc, List.singleton_append, List.nil_append]
theorem itoa_dec (n : Nat) (h : n < 10000000) : (⟨(Lib.itoa (n : Int)).toArray⟩ : ByteArray) = dec n := by
  rw [Lib.itoa_nonneg, ← bstr_nat]
  unfold dec decI
  rw [decG_dig 7 n [] h (by decide) (.inr rfl), List.append_nil]
theorem itoa_ok (n : Nat) (h : n < 10000000) {H : Heap} (hT : Tens H) :
    Ret Tryd.prog 74 [I n] H (fun v H' => v = .string (dec n) ∧ Ext H H') := by
  refine ⟨Tryd.call74, fun w0 k => ?_⟩
  have h1 : Calls Tryd.prog 74 #[.int .i64 n] (mk w0 H k) fun e w' => e = .returned (.string ⟨(Lib.itoa n).toArray⟩) ∧ ∃ d os, w' = Sort.grow ((mk w0 H k).drewN d) os :=
    Any.strconv_Itoa Tryd.laysM171 n (by omega) (by omega) (mk w0 H k) (tab_of (by kernel_rfl) hT)
  refine h1.mono fun e w' hx => ?_
  obtain ⟨he, d, os, hw⟩ := hx
  refine ⟨_, H ++ os, k + d, he, hw, by rw [itoa_dec n h], ?_, fun b hb => Array.getElem?_append_left hb⟩
  rw [Array.size_append]; omega

def jn (xs : List ByteArray) : ByteArray := ⟨(Lib.join (xs.map (·.data.toList)) (⟨#[44]⟩ : ByteArray).data.toList).toArray⟩
abbrev Ss (s : ByteArray) : List Value := [.string s]
theorem wideS (L : List ByteArray) : Wide Ss 1 L := fun _ _ => rfl
theorem ones_Ss (L : List ByteArray) : ones (L.flatMap Ss) = true := by
  simp only [ones, List.all_eq_true, List.mem_flatMap]
  rintro v ⟨x, _, hv⟩
  simp only [List.mem_singleton] at hv
  subst hv; rfl
theorem join_ok {A : Option Addr} {cap : Nat} {xs : List ByteArray} {H : Heap} (hS : SlT H Ss 1 (.slice A xs.length cap) xs) (hN : xs.length ≤ 1000000) (hlen : (jn xs).size ≤ 1000000000) :
    Ret Tryd.prog 75 [.slice A xs.length cap, .string ⟨#[44]⟩] H (fun v H' => v = .string (jn xs) ∧ Ext H H') := by
  refine ⟨Tryd.call75, fun w0 k => ?_⟩
  cases xs with
  | nil =>
    have h1 := Tryd.strings_Join_none A cap ⟨#[44]⟩ (mk w0 H k)
    refine h1.mono fun e w' hx => ?_
    obtain ⟨he, hw⟩ := hx
    exact ⟨_, H, k, he, hw, rfl, Ext.refl H⟩
  | cons x0 xs =>
    obtain ⟨_, cap', hv, hc1, hc2, _, h3⟩ := hS
    simp only [Value.slice.injEq, true_and] at hv
    obtain ⟨rfl, rfl⟩ := hv
    rcases h3 with h0 | ⟨b, o, c, rfl, hB, hc⟩
    · simp at h0
    have hcl : ∀ (j : Nat) x, (x0 :: xs)[j]? = some x → (mk w0 H k).cell? ⟨b, o + j, none⟩ = some (.string x) := by
      intro j x hx
      obtain ⟨hj, hx⟩ := List.getElem?_eq_some_iff.1 hx
      have h2 := (hc j hj).2
      rw [hx, Nat.mul_one] at h2
      have h4 : c[o + j + 0]? = some (Value.string x) := at_tk h2 (by decide) rfl
      obtain ⟨T, fr, hB⟩ := hB
      unfold World.cell?
      simp only [mk_heap, hB]
      simpa using h4
    have hle : (x0 :: xs).length ≤ c.length := by
      have := (hc ((x0 :: xs).length - 1) (by simp)).1
      simp only [List.length_cons] at this ⊢; omega
    have h1 := Tryd.strings_Join b o cap (x0 :: xs) ⟨#[44]⟩ (mk w0 H k) hcl hB.lt (by omega) hc1 (by
      have : (jn (x0 :: xs)).size = (Lib.join ((x0 :: xs).map (·.data.toList)) (⟨#[44]⟩ : ByteArray).data.toList).length := by simp [jn, ByteArray.size]
      omega)
    refine h1.mono fun e w' hx => ?_
    obtain ⟨he, hb⟩ := hx
    refine ⟨_, w'.heap, w'.drawn, he, ?_, rfl, hb.size, fun q hq => hb.block q hq⟩
    obtain ⟨g1, g2, g3, g4, g5⟩ := w'
    have e1 := hb.os; have e2 := hb.tape; have e3 := hb.output
    simp only at e1 e2 e3
    subst e1 e2 e3
    rfl
end Go.Proofs.YtlfillhffpiffaaDoor

