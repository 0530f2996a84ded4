/-
  Parts of the proof, 2.
-/
import Derived.Test.YtlfillhffpiffaaDoorProg
import Derived.Laws.BytesString
import Derived.Shelf.Strings.Builder1
import Derived.Shelf.Strings.Builder2
import Derived.Shelf.Strings.OnBuilder
import Derived.Shelf.Strconv.Itoa0
import Derived.Shelf.Strconv.Itoa1
import Derived.Shelf.LaysM
import Derived.Shelf.Strconv.Itoa2
import Derived.Shelf.Strconv.Itoa3
import Derived.Lib.LaidU8
import Derived.Shelf.SlGeneric
import Derived.Shelf.Spec.SlicesGrow
import Derived.Test.YtlfillhffpiffaaDoorV1
namespace Go.Proofs.YtlfillhffpiffaaDoor
set_option linter.unusedSimpArgs false
set_option linter.unusedVariables false
set_option maxRecDepth 8000
open Go Go.Fx Go.Proofs
namespace FactsSchA
theorem es50 : esz Tryd.prog 50 = some 1 := by kernel_rfl
theorem isl50 : isSl Tryd.prog 50 = true := by kernel_rfl
theorem sc3 : sc Tryd.prog 3 = true := by kernel_rfl
end FactsSchA
open FactsSchA

def ixL : List Int → Int → Nat
  | [], _ => 0
  | x :: l, v => if x = v then 0 else ixL l v + 1
def inL (l : List Int) (v : Int) : Bool := decide (ixL l v < l.length)
theorem ixL_le : ∀ (l : List Int) (v : Int), ixL l v ≤ l.length
  | [], _ => Nat.le_refl _
  | x :: l, v => by
    simp only [ixL]; split
    · simp
    · simp only [List.length_cons]; have := ixL_le l v; omega
theorem ix_drop {l : List Int} {i : Nat} {v : Int} (hi : i < l.length) : ixL (l.drop i) v = if l[i] = v then 0 else ixL (l.drop (i + 1)) v + 1 := by
  rw [dropL hi, ixL]
theorem ix_end {l : List Int} {i : Nat} {v : Int} (hi : l.length ≤ i) : ixL (l.drop i) v = 0 := by rw [List.drop_of_length_le hi]; rfl
theorem int_at {l : List Int} {H : Heap} {A : Option Addr} {cap : Nat} (hS : SlT H e1 1 (.slice A l.length cap) l) {i : Nat} (hi : i < l.length) :
    ∃ b o c, A = some ⟨b, o, none⟩ ∧ Blk H b c ∧ c[o + i * 1]? = some (I l[i]) := by
  obtain ⟨b, o, c, h1, h2, h3, _⟩ := sl_at (wide1 l) hS hi
  exact ⟨b, o, c, h1, h2, by have := at_tk (j := 0) h3 (by omega) (v := I l[i]) rfl; simpa using this⟩

theorem index_ok {A : Option Addr} {cap : Nat} (l : List Int) {H : Heap} (hS : SlT H e1 1 (.slice A l.length cap) l) (hm : l.length ≤ 9223372036854775807) (v : Int) :
    Ret Tryd.prog 111 [.slice A l.length cap, I v] H (fun r H' => r = I (if inL l v then ixL l v else -1) ∧ H' = H) := by
  refine Ret.of_at (N := 19) Tryd.call111 Tryd.func111 rfl rfl rfl ?_
  have hE := Ext.refl H
  refine At.region rfl rfl ?_
  refine Reg.pur rfl rfl rfl rfl (Pur.asg rfl) ?_
  refine Reg.nil ?_
  refine At.region rfl rfl ?_
  refine Reg.pur rfl rfl rfl rfl (Pur.mv rfl) ?_
  refine Reg.pur rfl rfl rfl rfl (Pur.lenS isl50 rfl) ?_
  refine Reg.pur rfl rfl rfl rfl (Pur.mv rfl) ?_
  refine Reg.nil ?_
  refine At.loop (σ := Nat) (fun i => [(8, I i), (7, I l.length), (0, .slice A l.length cap), (1, I v)]) (fun i H' => i ≤ l.length ∧ H' = H ∧ ixL l v = i + ixL (l.drop i) v) (fun i => l.length - i) 0 rfl ⟨rfl, rfl, rfl, rfl, trivial⟩ ⟨by omega, rfl, by simp⟩ ?_
  rintro i H ⟨hi, rfl, hgo⟩ ih
  refine At.region rfl rfl ?_
  refine Reg.pur rfl rfl rfl rfl (Pur.lss rfl rfl) ?_
  refine Reg.nil ?_
  refine At.cond rfl rfl (fun q9 => ?_) (fun q9 => ?_)
  · first | (simp only [decide_eq_true_eq, decide_eq_false_iff_not, Bool.not_eq_true', Bool.not_eq_false', ne_eq, Decidable.not_not, Bool.not_eq_true, Bool.not_eq_false] at q9) | (dsimp only at q9) | skip
    have hlt : i < l.length := by omega
    obtain ⟨b, o, c, rfl, hB, hc⟩ := int_at hS hlt
    rw [ix_drop hlt] at hgo
    refine At.region rfl rfl ?_
    refine Reg.pur rfl rfl rfl rfl (Pur.mv rfl) ?_
    refine Reg.pur rfl rfl rfl rfl (Pur.asg rfl) ?_
    refine Reg.nil ?_
    refine At.region rfl rfl ?_
    refine Reg.pur rfl rfl rfl rfl (Pur.mv rfl) ?_
    refine Reg.pur rfl rfl rfl rfl (Pur.mv rfl) ?_
    refine Reg.pur rfl rfl rfl rfl (Pur.mv rfl) ?_
    refine Reg.pur rfl rfl rfl rfl (Pur.idx _ es50 rfl rfl (by omega) (by omega)) ?_
    refine Reg.lod rfl rfl rfl rfl (Lod.ld sc3 rfl hB hc) ?_
    refine Reg.pur rfl rfl rfl rfl (Pur.eql rfl rfl) ?_
    refine Reg.nil ?_
    refine At.cond rfl rfl (fun q16 => ?_) (fun q16 => ?_)
    · first | (simp only [decide_eq_true_eq, decide_eq_false_iff_not, Bool.not_eq_true', Bool.not_eq_false', ne_eq, Decidable.not_not, Bool.not_eq_true, Bool.not_eq_false] at q16) | (dsimp only at q16) | skip
      refine At.region rfl rfl ?_
      refine Reg.pur rfl rfl rfl rfl (Pur.mv rfl) ?_
      refine Reg.pur rfl rfl rfl rfl (Pur.asg rfl) ?_
      refine Reg.nil ?_
      refine At.ret rfl Tryd.func111 rfl ?_
      rw [if_pos q16.symm] at hgo
      exact ⟨by rw [if_pos (by simp [inL]; omega)]; congr 1; omega, rfl⟩
    first | (simp only [decide_eq_true_eq, decide_eq_false_iff_not, Bool.not_eq_true', Bool.not_eq_false', ne_eq, Decidable.not_not, Bool.not_eq_true, Bool.not_eq_false] at q16) | (dsimp only at q16) | skip
    refine At.region rfl rfl ?_
    first | refine Reg.pur rfl rfl rfl rfl (Pur.add64 rfl rfl (by omega)) ?_ | refine Reg.pur rfl rfl rfl rfl (Pur.add64 rfl rfl (by assumption)) ?_ | refine Reg.pur rfl rfl rfl rfl (Pur.add rfl rfl) ?_
    refine Reg.pur rfl rfl rfl rfl (Pur.mv rfl) ?_
    refine Reg.nil ?_
    rw [if_neg (fun h => q16 h.symm)] at hgo
    exact At.via (ih (i + 1) _ ⟨by omega, rfl, by omega⟩ (by omega)) ⟨rfl, rfl, rfl, rfl, trivial⟩
  first | (simp only [decide_eq_true_eq, decide_eq_false_iff_not, Bool.not_eq_true', Bool.not_eq_false', ne_eq, Decidable.not_not, Bool.not_eq_true, Bool.not_eq_false] at q9) | (dsimp only at q9) | skip
  refine At.region rfl rfl ?_
  refine Reg.pur rfl rfl rfl rfl (Pur.asg rfl) ?_
  refine Reg.nil ?_
  refine At.ret rfl Tryd.func111 rfl ?_
  rw [ix_end (by omega)] at hgo
  exact ⟨by rw [if_neg (by simp [inL]; omega)], rfl⟩

end Go.Proofs.YtlfillhffpiffaaDoor

namespace Go.Proofs.YtlfillhffpiffaaDoor
set_option linter.unusedSimpArgs false
set_option linter.unusedVariables false
open Go Go.Fx Go.Proofs
namespace FactsTypA
theorem ag22 : ag Tryd.prog 22 = some 4 := by kernel_rfl
theorem arr1_22 : arr1 Tryd.prog 22 = some 4 := by kernel_rfl
theorem arr22 : arr Tryd.prog 22 = some (4, 1) := by kernel_rfl
theorem fo24_0 : foff Tryd.prog 24 0 = some 0 := by kernel_rfl
theorem fo24_1 : foff Tryd.prog 24 1 = some 4 := by kernel_rfl
theorem sc3 : sc Tryd.prog 3 = true := by kernel_rfl
end FactsTypA
open FactsTypA

def okc (n : Int) : Bool := decide (0 ≤ n ∧ n ≤ 32)
def rowM (r : List Int) : Bool := (r.take 4).all okc && decide (-1 ≤ r.getD 4 0 ∧ r.getD 4 0 < 4096)
theorem take4_at {r : List Int} (h : r.length = 5) {i : Nat} (hi : i < 4) : (r.take 4)[i]'(by simp; omega) = r.getD i 0 := by
  simp [List.getD_eq_getElem?_getD, List.getElem?_eq_getElem (by omega : i < r.length)]

theorem hat4 (r : List Int) (h : r.length = 5) : (Is r)[0 + 4]? = some (I (r.getD 4 0)) := at_Is (by omega)
theorem rowMay_ok (r : List Int) (h : r.length = 5) (H : Heap) : Ret Tryd.prog 26 [.agg (Is r).toArray] H (fun v H' => v = .bool (rowM r) ∧ Ext H H') := by
  have h4 : (r.take 4).length = 4 := by simp; omega
  refine Ret.of_at (N := 25) Tryd.call26 Tryd.func26 rfl rfl rfl ?_
  refine At.region rfl rfl ?_
  refine Reg.op rfl rfl rfl rfl (Does.box rfl rfl) ?_
  rintro _ H1 ⟨rfl, hn1⟩
  refine Reg.pur rfl rfl rfl rfl (Pur.asg rfl) ?_
  refine Reg.nil ?_
  refine At.region rfl rfl ?_
  refine Reg.pur rfl rfl rfl rfl (Pur.fld _ fo24_0 rfl) ?_
  refine Reg.lod rfl rfl rfl rfl (Lod.ldn ag22 rfl hn1.own.blk (show _ = Is (r.take 4) by simp [Is, List.map_take]) (by simp [Is]; omega)) ?_
  refine Reg.pur rfl rfl rfl rfl (Pur.mv rfl) ?_
  refine Reg.nil ?_
  refine At.loop (σ := Nat) (fun i => [(7, I i), (6, .agg (Is (r.take 4)).toArray), (1, ptr H.size 0)]) (fun i H' => i ≤ 4 ∧ H' = H1 ∧ ((r.take 4).take i).all okc = true) (fun i => 4 - i) 0 rfl ⟨rfl, rfl, rfl, trivial⟩ ⟨by omega, rfl, rfl⟩ ?_
  rintro i H2 ⟨hi, rfl, hgo⟩ ih
  refine At.region rfl rfl ?_
  refine Reg.pur rfl rfl rfl rfl (Pur.lss rfl rfl) ?_
  refine Reg.nil ?_
  refine At.cond rfl rfl (fun hb1 => ?_) (fun hb1 => ?_)
  · simp only [decide_eq_true_eq] at hb1
    have hlt : i < (r.take 4).length := by omega
    have hat := take4_at h (i := i) (by omega)
    have hai : (Is (r.take 4))[(i : Int).toNat]? = some (I (r.getD i 0)) := by
      have : (Is (r.take 4))[i]? = some (I (r.take 4)[i]) := by simp only [Is, List.getElem?_map, List.getElem?_eq_getElem hlt, Option.map_some]
      rw [hat] at this
      exact this
    refine At.region rfl rfl ?_
    refine Reg.pur rfl rfl rfl rfl (Pur.ixA arr1_22 rfl rfl (by omega) (by omega) hai) ?_
    refine Reg.pur rfl rfl rfl rfl (Pur.asg rfl) ?_
    refine Reg.nil ?_
    refine At.region rfl rfl ?_
    refine Reg.pur rfl rfl rfl rfl (Pur.mv rfl) ?_
    refine Reg.pur rfl rfl rfl rfl (Pur.lss rfl rfl) ?_
    refine Reg.pur rfl rfl rfl rfl (Pur.mv rfl) ?_
    refine Reg.case 12 rfl (fun hc2 => ?_) (fun hc2 => ?_)
    · refine Reg.skip rfl rfl rfl rfl rfl rfl rfl ?_
      refine Reg.skip rfl rfl rfl rfl rfl rfl rfl ?_
      refine Reg.pur rfl rfl rfl rfl (Pur.pickT rfl rfl) ?_
      refine Reg.nil ?_
      refine At.condT rfl rfl rfl ?_
      refine At.region rfl rfl ?_
      refine Reg.pur rfl rfl rfl rfl (Pur.asg rfl) ?_
      refine Reg.nil ?_
      refine At.ret rfl Tryd.func26 rfl ?_
      refine ⟨congrArg Value.bool ?_, hn1.ext⟩
      simp only [decide_eq_false_iff_not, decide_eq_true_eq] at *
      unfold rowM
      first | (rw [all_of_take hlt (by rw [hat, okc, decide_eq_false_iff_not]; omega)]; rfl) | (rw [List.take_of_length_le (by omega)] at hgo; rw [hgo]; generalize r.getD 4 0 = t at *; simp [*])
    refine Reg.gpur rfl rfl rfl rfl rfl rfl (Pur.mv rfl) ?_
    refine Reg.gpur rfl rfl rfl rfl rfl rfl (Pur.gtr rfl rfl) ?_
    refine Reg.pur rfl rfl rfl rfl (Pur.pickF rfl rfl) ?_
    refine Reg.nil ?_
    refine At.cond rfl rfl (fun hb3 => ?_) (fun hb3 => ?_)
    · refine At.region rfl rfl ?_
      refine Reg.pur rfl rfl rfl rfl (Pur.asg rfl) ?_
      refine Reg.nil ?_
      refine At.ret rfl Tryd.func26 rfl ?_
      refine ⟨congrArg Value.bool ?_, hn1.ext⟩
      simp only [decide_eq_false_iff_not, decide_eq_true_eq] at *
      unfold rowM
      first | (rw [all_of_take hlt (by rw [hat, okc, decide_eq_false_iff_not]; omega)]; rfl) | (rw [List.take_of_length_le (by omega)] at hgo; rw [hgo]; generalize r.getD 4 0 = t at *; simp [*])
    refine At.region rfl rfl ?_
    first | refine Reg.pur rfl rfl rfl rfl (Pur.add64 rfl rfl (by omega)) ?_ | refine Reg.pur rfl rfl rfl rfl (Pur.add64 rfl rfl (by assumption)) ?_ | refine Reg.pur rfl rfl rfl rfl (Pur.add rfl rfl) ?_
    refine Reg.pur rfl rfl rfl rfl (Pur.mv rfl) ?_
    refine Reg.nil ?_
    refine At.via (ih (i + 1) _ ⟨by omega, rfl, ?_⟩ (by omega)) ⟨rfl, rfl, rfl, trivial⟩
    simp only [decide_eq_false_iff_not, decide_eq_true_eq] at *
    rw [all_take hlt, hgo, hat, okc, decide_eq_true (by omega)]; rfl
  refine At.region rfl rfl ?_
  refine Reg.pur rfl rfl rfl rfl (Pur.fld _ fo24_1 rfl) ?_
  refine Reg.lod rfl rfl rfl rfl (Lod.ld sc3 rfl hn1.own.blk (hat4 r h)) ?_
  refine Reg.pur rfl rfl rfl rfl (Pur.geq rfl rfl) ?_
  refine Reg.pur rfl rfl rfl rfl (Pur.mv rfl) ?_
  refine Reg.case 20 rfl (fun hc4 => ?_) (fun hc4 => ?_)
  · refine Reg.gpur rfl rfl rfl rfl rfl rfl (Pur.fld _ fo24_1 rfl) ?_
    refine Reg.glod rfl rfl rfl rfl rfl rfl (Lod.ld sc3 rfl hn1.own.blk (hat4 r h)) ?_
    refine Reg.gpur rfl rfl rfl rfl rfl rfl (Pur.lss rfl rfl) ?_
    refine Reg.pur rfl rfl rfl rfl (Pur.pickT rfl rfl) ?_
    refine Reg.pur rfl rfl rfl rfl (Pur.asg rfl) ?_
    refine Reg.nil ?_
    refine At.ret rfl Tryd.func26 rfl ?_
    refine ⟨congrArg Value.bool ?_, hn1.ext⟩
    simp only [decide_eq_false_iff_not, decide_eq_true_eq] at *
    unfold rowM
    first | (rw [all_of_take hlt (by rw [hat, okc, decide_eq_false_iff_not]; omega)]; rfl) | (rw [List.take_of_length_le (by omega)] at hgo; rw [hgo]; generalize r.getD 4 0 = t at *; simp [*])
  refine Reg.skip rfl rfl rfl rfl rfl rfl rfl ?_
  refine Reg.skip rfl rfl rfl rfl rfl rfl rfl ?_
  refine Reg.skip rfl rfl rfl rfl rfl rfl rfl ?_
  refine Reg.pur rfl rfl rfl rfl (Pur.pickF rfl rfl) ?_
  refine Reg.pur rfl rfl rfl rfl (Pur.asg rfl) ?_
  refine Reg.nil ?_
  refine At.ret rfl Tryd.func26 rfl ?_
  refine ⟨congrArg Value.bool ?_, hn1.ext⟩
  simp only [decide_eq_false_iff_not, decide_eq_true_eq] at *
  unfold rowM
  first | (rw [all_of_take hlt (by rw [hat, okc, decide_eq_false_iff_not]; omega)]; rfl) | (rw [List.take_of_length_le (by omega)] at hgo; rw [hgo]; generalize r.getD 4 0 = t at *; simp [*])

def nodM (x : List Int) : Bool :=
  if x.getD 0 0 = 3 then rowM (x.drop 4) && decide (x.getD 1 0 = 0)
  else if x.getD 0 0 = 2 then decide (0 ≤ x.getD 1 0 ∧ x.getD 1 0 < 4096) && decide (x = [2, x.getD 1 0, 0, 0, 0, 0, 0, 0, 0])
  else if x.getD 0 0 = 0 ∨ x.getD 0 0 = 1 then decide (x = [x.getD 0 0, 0, 0, 0, 0, 0, 0, 0, 0]) else false
end Go.Proofs.YtlfillhffpiffaaDoor

namespace Go.Proofs.YtlfillhffpiffaaDoor
set_option linter.unusedSimpArgs false
set_option linter.unusedVariables false
set_option maxRecDepth 8000
open Go Go.Fx Go.Proofs
namespace FactsTypB
theorem ag24 : ag Tryd.prog 24 = some 5 := by kernel_rfl
theorem ag65 : ag Tryd.prog 65 = some 9 := by kernel_rfl
theorem eqt65 : eqT Tryd.prog 65 = some [.int .i64, .int .i64, .int .i64, .int .i64, .int .i64, .int .i64, .int .i64, .int .i64, .int .i64] := by kernel_rfl
theorem fo65_0 : foff Tryd.prog 65 0 = some 0 := by kernel_rfl
theorem fo65_1 : foff Tryd.prog 65 1 = some 1 := by kernel_rfl
theorem fo65_2 : foff Tryd.prog 65 2 = some 2 := by kernel_rfl
theorem fo65_3 : foff Tryd.prog 65 3 = some 3 := by kernel_rfl
theorem fo65_4 : foff Tryd.prog 65 4 = some 4 := by kernel_rfl
theorem pl24 : places Tryd.prog 24 = some [(0, 4), (4, 1)] := by kernel_rfl
theorem pl65 : places Tryd.prog 65 = some [(0, 1), (1, 1), (2, 1), (3, 1), (4, 5)] := by kernel_rfl
theorem sc3 : sc Tryd.prog 3 = true := by kernel_rfl
theorem zc24 : zc Tryd.prog 24 = some [.int .i64 0, .int .i64 0, .int .i64 0, .int .i64 0, .int .i64 0] := by kernel_rfl
theorem zc65 : zc Tryd.prog 65 = some [.int .i64 0, .int .i64 0, .int .i64 0, .int .i64 0, .int .i64 0, .int .i64 0, .int .i64 0, .int .i64 0, .int .i64 0] := by kernel_rfl
end FactsTypB
open FactsTypB

theorem nodMay_ok (k v a b c d e f t : Int) (H : Heap) : Ret Tryd.prog 68 [.agg (Is [k, v, a, b, c, d, e, f, t]).toArray] H (fun r H' => r = .bool (nodM [k, v, a, b, c, d, e, f, t]) ∧ Ext H H') := by
  refine Ret.of_at (N := 37) Tryd.call68 Tryd.func68 rfl rfl rfl ?_
  refine At.region rfl rfl ?_
  refine Reg.op rfl rfl rfl rfl (Does.box rfl rfl) ?_
  rintro _ H1 ⟨rfl, hn1⟩
  refine Reg.pur rfl rfl rfl rfl (Pur.asg rfl) ?_
  refine Reg.nil ?_
  have hX := hn1.own
  refine At.region rfl rfl ?_
  refine Reg.pur rfl rfl rfl rfl (Pur.fld _ fo65_0 rfl) ?_
  refine Reg.lod rfl rfl rfl rfl (Lod.ld sc3 rfl hX.blk rfl) ?_
  refine Reg.nil ?_
  refine At.region rfl rfl ?_
  refine Reg.pur rfl rfl rfl rfl (Pur.eql rfl rfl) ?_
  refine Reg.pur rfl rfl rfl rfl (Pur.asg rfl) ?_
  refine Reg.nil ?_
  refine At.cond rfl rfl (fun hb1 => ?_) (fun hb1 => ?_)
  · have hr := rowMay_ok [c, d, e, f, t] rfl H1
    refine At.region rfl rfl ?_
    refine Reg.pur rfl rfl rfl rfl (Pur.fld _ fo65_4 rfl) ?_
    refine Reg.lod rfl rfl rfl rfl (Lod.ldn ag24 rfl hX.blk (show _ = Is [c, d, e, f, t] from rfl) rfl) ?_
    refine Reg.op rfl rfl rfl rfl (Does.call rfl (hr)) ?_
    rintro _ H2 ⟨rfl, hE2⟩
    refine Reg.pur rfl rfl rfl rfl (Pur.not rfl) ?_
    refine Reg.nil ?_
    have hX := hX.ext hE2
    refine At.cond rfl rfl (fun hb2 => ?_) (fun hb2 => ?_)
    · refine At.region rfl rfl ?_
      refine Reg.pur rfl rfl rfl rfl (Pur.asg rfl) ?_
      refine Reg.nil ?_
      refine At.ret rfl Tryd.func68 rfl ?_
      refine ⟨congrArg Value.bool ?_, by first | exact hE5 | exact hn1.ext.trans hE2 | exact hn1.ext.upd hu3 (Nat.le_refl _) | exact hn1.ext⟩
      try rw [eqs_ints]
      rw [Bool.eq_iff_iff]
      simp only [decide_eq_true_eq, decide_eq_false_iff_not, Bool.not_eq_true', Bool.not_eq_eq_eq_not, Bool.not_true, Bool.not_false] at *
      simp [nodM, eqs, eqv, *]
      try omega
    refine At.region rfl rfl ?_
    refine Reg.pur rfl rfl rfl rfl (Pur.bld (cs := [_, _, _, _, _]) pl24 zc24 rfl rfl ⟨rfl, rfl, rfl, rfl, rfl, rfl⟩) ?_
    refine Reg.pur rfl rfl rfl rfl (Pur.fld _ fo65_4 rfl) ?_
    refine Reg.op0 rfl rfl rfl (Does.stn ag24 rfl rfl rfl rfl hX (by simp)) ?_
    rintro _ H3 hu3
    refine Reg.pur rfl rfl rfl rfl (Pur.fld _ fo65_2 rfl) ?_
    refine Reg.op0 rfl rfl rfl (Does.st sc3 rfl rfl rfl hu3.own (by simp)) ?_
    rintro _ H4 hu4
    refine Reg.pur rfl rfl rfl rfl (Pur.fld _ fo65_3 rfl) ?_
    refine Reg.op0 rfl rfl rfl (Does.st sc3 rfl rfl rfl hu4.own (by simp)) ?_
    rintro _ H5 hu5
    refine Reg.nil ?_
    have hY : Own H5 H.size (Is [k, v, 0, 0, 0, 0, 0, 0, 0]) := hu5.own
    have hE5 := (((hn1.ext.trans hE2).upd hu3 (Nat.le_refl _)).upd hu4 (Nat.le_refl _)).upd hu5 (Nat.le_refl _)
    refine At.region rfl rfl ?_
    refine Reg.lod rfl rfl rfl rfl (Lod.ldn ag65 rfl hY.blk (whole rfl) rfl) ?_
    refine Reg.pur rfl rfl rfl rfl (Pur.bld (cs := [_, _, _, _, _, _, _, _, _]) pl65 zc65 rfl rfl ⟨rfl, rfl, rfl, rfl, rfl, rfl, rfl, rfl, rfl, rfl⟩) ?_
    refine Reg.pur rfl rfl rfl rfl (Pur.eqA eqt65 rfl rfl (fks_ints .i64 [k, v, 0, 0, 0, 0, 0, 0, 0]) (fks_ints .i64 [3, 0, 0, 0, 0, 0, 0, 0, 0])) ?_
    refine Reg.pur rfl rfl rfl rfl (Pur.asg rfl) ?_
    refine Reg.nil ?_
    refine At.ret rfl Tryd.func68 rfl ?_
    refine ⟨congrArg Value.bool ?_, by first | exact hE5 | exact hn1.ext.trans hE2 | exact hn1.ext.upd hu3 (Nat.le_refl _) | exact hn1.ext⟩
    try rw [eqs_ints]
    rw [Bool.eq_iff_iff]
    simp only [decide_eq_true_eq, decide_eq_false_iff_not, Bool.not_eq_true', Bool.not_eq_eq_eq_not, Bool.not_true, Bool.not_false] at *
    simp [nodM, eqs, eqv, *]
    try omega
  refine At.region rfl rfl ?_
  refine Reg.pur rfl rfl rfl rfl (Pur.eql rfl rfl) ?_
  refine Reg.pur rfl rfl rfl rfl (Pur.asg rfl) ?_
  refine Reg.nil ?_
  refine At.cond rfl rfl (fun hb3 => ?_) (fun hb3 => ?_)
  · refine At.region rfl rfl ?_
    refine Reg.pur rfl rfl rfl rfl (Pur.fld _ fo65_1 rfl) ?_
    refine Reg.lod rfl rfl rfl rfl (Lod.ld sc3 rfl hX.blk rfl) ?_
    refine Reg.pur rfl rfl rfl rfl (Pur.lss rfl rfl) ?_
    refine Reg.pur rfl rfl rfl rfl (Pur.mv rfl) ?_
    refine Reg.case 26 rfl (fun hc4 => ?_) (fun hc4 => ?_)
    · refine Reg.skip rfl rfl rfl rfl rfl rfl rfl ?_
      refine Reg.skip rfl rfl rfl rfl rfl rfl rfl ?_
      refine Reg.skip rfl rfl rfl rfl rfl rfl rfl ?_
      refine Reg.pur rfl rfl rfl rfl (Pur.pickT rfl rfl) ?_
      refine Reg.nil ?_
      refine At.condT rfl rfl rfl ?_
      refine At.region rfl rfl ?_
      refine Reg.pur rfl rfl rfl rfl (Pur.asg rfl) ?_
      refine Reg.nil ?_
      refine At.ret rfl Tryd.func68 rfl ?_
      refine ⟨congrArg Value.bool ?_, by first | exact hE5 | exact hn1.ext.trans hE2 | exact hn1.ext.upd hu3 (Nat.le_refl _) | exact hn1.ext⟩
      try rw [eqs_ints]
      rw [Bool.eq_iff_iff]
      simp only [decide_eq_true_eq, decide_eq_false_iff_not, Bool.not_eq_true', Bool.not_eq_eq_eq_not, Bool.not_true, Bool.not_false] at *
      simp [nodM, eqs, eqv, *]
      try omega
    refine Reg.gpur rfl rfl rfl rfl rfl rfl (Pur.fld _ fo65_1 rfl) ?_
    refine Reg.glod rfl rfl rfl rfl rfl rfl (Lod.ld sc3 rfl hX.blk rfl) ?_
    refine Reg.gpur rfl rfl rfl rfl rfl rfl (Pur.geq rfl rfl) ?_
    refine Reg.pur rfl rfl rfl rfl (Pur.pickF rfl rfl) ?_
    refine Reg.nil ?_
    refine At.cond rfl rfl (fun hb5 => ?_) (fun hb5 => ?_)
    · refine At.region rfl rfl ?_
      refine Reg.pur rfl rfl rfl rfl (Pur.asg rfl) ?_
      refine Reg.nil ?_
      refine At.ret rfl Tryd.func68 rfl ?_
      refine ⟨congrArg Value.bool ?_, by first | exact hE5 | exact hn1.ext.trans hE2 | exact hn1.ext.upd hu3 (Nat.le_refl _) | exact hn1.ext⟩
      try rw [eqs_ints]
      rw [Bool.eq_iff_iff]
      simp only [decide_eq_true_eq, decide_eq_false_iff_not, Bool.not_eq_true', Bool.not_eq_eq_eq_not, Bool.not_true, Bool.not_false] at *
      simp [nodM, eqs, eqv, *]
      try omega
    refine At.region rfl rfl ?_
    refine Reg.pur rfl rfl rfl rfl (Pur.fld _ fo65_1 rfl) ?_
    refine Reg.op0 rfl rfl rfl (Does.st sc3 rfl rfl rfl hX (by simp)) ?_
    rintro _ H3 hu3
    refine Reg.nil ?_
    have hX : Own H3 H.size (Is [k, 0, a, b, c, d, e, f, t]) := hu3.own
    refine At.region rfl rfl ?_
    refine Reg.lod rfl rfl rfl rfl (Lod.ldn ag65 rfl hX.blk (whole rfl) rfl) ?_
    refine Reg.pur rfl rfl rfl rfl (Pur.fld _ fo65_0 rfl) ?_
    refine Reg.lod rfl rfl rfl rfl (Lod.ld sc3 rfl hX.blk rfl) ?_
    refine Reg.pur rfl rfl rfl rfl (Pur.bld (cs := [_, _, _, _, _, _, _, _, _]) pl65 zc65 rfl rfl ⟨rfl, rfl, rfl, rfl, rfl, rfl, rfl, rfl, rfl, rfl⟩) ?_
    refine Reg.pur rfl rfl rfl rfl (Pur.eqA eqt65 rfl rfl (fks_ints .i64 [_, _, _, _, _, _, _, _, _]) (fks_ints .i64 [_, 0, 0, 0, 0, 0, 0, 0, 0])) ?_
    refine Reg.pur rfl rfl rfl rfl (Pur.asg rfl) ?_
    refine Reg.nil ?_
    refine At.ret rfl Tryd.func68 rfl ?_
    refine ⟨congrArg Value.bool ?_, by first | exact hE5 | exact hn1.ext.trans hE2 | exact hn1.ext.upd hu3 (Nat.le_refl _) | exact hn1.ext⟩
    try rw [eqs_ints]
    rw [Bool.eq_iff_iff]
    simp only [decide_eq_true_eq, decide_eq_false_iff_not, Bool.not_eq_true', Bool.not_eq_eq_eq_not, Bool.not_true, Bool.not_false] at *
    simp [nodM, eqs, eqv, *]
    try omega
  refine At.region rfl rfl ?_
  refine Reg.pur rfl rfl rfl rfl (Pur.eql rfl rfl) ?_
  refine Reg.pur rfl rfl rfl rfl (Pur.asg rfl) ?_
  refine Reg.nil ?_
  refine At.cond rfl rfl (fun hb6 => ?_) (fun hb6 => ?_)
  · refine At.condT rfl rfl (by first | exact hb6 | exact decide_eq_true hb6 | exact decide_eq_false hb6 | simpa using hb6) ?_
    refine At.region rfl rfl ?_
    refine Reg.lod rfl rfl rfl rfl (Lod.ldn ag65 rfl hX.blk (whole rfl) rfl) ?_
    refine Reg.pur rfl rfl rfl rfl (Pur.fld _ fo65_0 rfl) ?_
    refine Reg.lod rfl rfl rfl rfl (Lod.ld sc3 rfl hX.blk rfl) ?_
    refine Reg.pur rfl rfl rfl rfl (Pur.bld (cs := [_, _, _, _, _, _, _, _, _]) pl65 zc65 rfl rfl ⟨rfl, rfl, rfl, rfl, rfl, rfl, rfl, rfl, rfl, rfl⟩) ?_
    refine Reg.pur rfl rfl rfl rfl (Pur.eqA eqt65 rfl rfl (fks_ints .i64 [_, _, _, _, _, _, _, _, _]) (fks_ints .i64 [_, 0, 0, 0, 0, 0, 0, 0, 0])) ?_
    refine Reg.pur rfl rfl rfl rfl (Pur.asg rfl) ?_
    refine Reg.nil ?_
    refine At.ret rfl Tryd.func68 rfl ?_
    refine ⟨congrArg Value.bool ?_, by first | exact hE5 | exact hn1.ext.trans hE2 | exact hn1.ext.upd hu3 (Nat.le_refl _) | exact hn1.ext⟩
    try rw [eqs_ints]
    rw [Bool.eq_iff_iff]
    simp only [decide_eq_true_eq, decide_eq_false_iff_not, Bool.not_eq_true', Bool.not_eq_eq_eq_not, Bool.not_true, Bool.not_false] at *
    simp [nodM, eqs, eqv, *]
    try omega
  refine At.region rfl rfl ?_
  refine Reg.pur rfl rfl rfl rfl (Pur.eql rfl rfl) ?_
  refine Reg.pur rfl rfl rfl rfl (Pur.asg rfl) ?_
  refine Reg.nil ?_
  refine At.cond rfl rfl (fun hb7 => ?_) (fun hb7 => ?_)
  · refine At.region rfl rfl ?_
    refine Reg.lod rfl rfl rfl rfl (Lod.ldn ag65 rfl hX.blk (whole rfl) rfl) ?_
    refine Reg.pur rfl rfl rfl rfl (Pur.fld _ fo65_0 rfl) ?_
    refine Reg.lod rfl rfl rfl rfl (Lod.ld sc3 rfl hX.blk rfl) ?_
    refine Reg.pur rfl rfl rfl rfl (Pur.bld (cs := [_, _, _, _, _, _, _, _, _]) pl65 zc65 rfl rfl ⟨rfl, rfl, rfl, rfl, rfl, rfl, rfl, rfl, rfl, rfl⟩) ?_
    refine Reg.pur rfl rfl rfl rfl (Pur.eqA eqt65 rfl rfl (fks_ints .i64 [_, _, _, _, _, _, _, _, _]) (fks_ints .i64 [_, 0, 0, 0, 0, 0, 0, 0, 0])) ?_
    refine Reg.pur rfl rfl rfl rfl (Pur.asg rfl) ?_
    refine Reg.nil ?_
    refine At.ret rfl Tryd.func68 rfl ?_
    refine ⟨congrArg Value.bool ?_, by first | exact hE5 | exact hn1.ext.trans hE2 | exact hn1.ext.upd hu3 (Nat.le_refl _) | exact hn1.ext⟩
    try rw [eqs_ints]
    rw [Bool.eq_iff_iff]
    simp only [decide_eq_true_eq, decide_eq_false_iff_not, Bool.not_eq_true', Bool.not_eq_eq_eq_not, Bool.not_true, Bool.not_false] at *
    simp [nodM, eqs, eqv, *]
    try omega
  refine At.region rfl rfl ?_
  refine Reg.pur rfl rfl rfl rfl (Pur.asg rfl) ?_
  refine Reg.nil ?_
  refine At.ret rfl Tryd.func68 rfl ?_
  refine ⟨congrArg Value.bool ?_, by first | exact hE5 | exact hn1.ext.trans hE2 | exact hn1.ext.upd hu3 (Nat.le_refl _) | exact hn1.ext⟩
  try rw [eqs_ints]
  rw [Bool.eq_iff_iff]
  simp only [decide_eq_true_eq, decide_eq_false_iff_not, Bool.not_eq_true', Bool.not_eq_eq_eq_not, Bool.not_true, Bool.not_false] at *
  simp [nodM, eqs, eqv, *]
  try omega
end Go.Proofs.YtlfillhffpiffaaDoor

namespace Go.Proofs.YtlfillhffpiffaaDoor
set_option linter.unusedSimpArgs false
set_option linter.unusedVariables false
set_option maxRecDepth 8000
open Go Go.Fx Go.Proofs
namespace FactsTypC
theorem es53 : esz Tryd.prog 53 = some 9 := by kernel_rfl
theorem fo65_0 : foff Tryd.prog 65 0 = some 0 := by kernel_rfl
theorem fo65_2 : foff Tryd.prog 65 2 = some 2 := by kernel_rfl
theorem fo65_3 : foff Tryd.prog 65 3 = some 3 := by kernel_rfl
theorem sc3 : sc Tryd.prog 3 = true := by kernel_rfl
end FactsTypC
open FactsTypC

abbrev el (L : List (List Int)) (i : Int) : List Int := L.getD i.toNat []
abbrev Nine (L : List (List Int)) : Prop := ∀ x ∈ L, x.length = 9
theorem wide9 {L : List (List Int)} (h : Nine L) : Wide Is 9 L := fun x hx => by simp [Is, h x hx]
def bgn (L : List (List Int)) : Nat → Int → Int
  | 0, _ => -1
  | f + 1, z => if (el L z).getD 0 0 ≠ 3 then z else if z = 0 ∨ (el L z).getD 3 0 ≠ z - 1 then -1 else
    if bgn L f ((el L z).getD 3 0) < 1 ∨ (el L z).getD 2 0 ≠ bgn L f ((el L z).getD 3 0) - 1 then -1 else bgn L f ((el L z).getD 2 0)
theorem bgn_succ (L : List (List Int)) (f : Nat) (z : Int) : bgn L (f + 1) z = if (el L z).getD 0 0 ≠ 3 then z else if z = 0 ∨ (el L z).getD 3 0 ≠ z - 1 then -1 else
    if bgn L f ((el L z).getD 3 0) < 1 ∨ (el L z).getD 2 0 ≠ bgn L f ((el L z).getD 3 0) - 1 then -1 else bgn L f ((el L z).getD 2 0) := rfl
theorem bgn_le (L : List (List Int)) : ∀ (f : Nat) (z : Int), 0 ≤ z → bgn L f z ≤ z
  | 0, z, h => by simp only [bgn]; omega
  | f + 1, z, h => by
    rw [bgn_succ]
    split
    · omega
    · split
      · omega
      · split
        · omega
        · rename_i h1 h2 h3
          have e1 := bgn_le L f ((el L z).getD 3 0) (by omega)
          have e2 := bgn_le L f ((el L z).getD 2 0) (by omega)
          omega

theorem el_cells {L : List (List Int)} (hL : Nine L) {H : Heap} {A : Option Addr} {cap : Nat} (hS : SlT H Is 9 (.slice A L.length cap) L) {z : Int} (h0 : 0 ≤ z) (h1 : z < L.length) :
    ∃ b o c, A = some ⟨b, o, none⟩ ∧ Blk H b c ∧ (c.drop (o + z.toNat * 9)).take 9 = Is (el L z) ∧ (el L z).length = 9 ∧ ∀ j, j < 9 → c[o + z.toNat * 9 + j]? = some (I ((el L z).getD j 0)) := by
  have hzn : z.toNat < L.length := by omega
  obtain ⟨b, o, c, h2, h3, h4, h5⟩ := sl_at (wide9 hL) hS hzn
  have hel : el L z = L[z.toNat] := by simp [el, List.getD_eq_getElem?_getD, List.getElem?_eq_getElem hzn]
  have h9 : (el L z).length = 9 := by rw [hel]; exact hL _ (List.getElem_mem hzn)
  rw [← hel] at h4
  exact ⟨b, o, c, h2, h3, h4, h9, fun j hj => at_tk h4 hj (at_Is (by omega))⟩

theorem begin_ok {A : Option Addr} {cap : Nat} (L : List (List Int)) (hL : Nine L) {H : Heap} (hS : SlT H Is 9 (.slice A L.length cap) L) (hm : L.length ≤ 9223372036854775807) : ∀ (f : Nat) (z : Int), 0 ≤ z → z < L.length → z.toNat < f →
    Ret Tryd.prog 69 [.slice A L.length cap, I z] H (fun v H' => v = I (bgn L f z) ∧ H' = H) := by
  intro f
  induction f with
  | zero => intro z _ _ h; omega
  | succ f ihf =>
  intro z hz0 hzl hzf
  obtain ⟨b0, o0, c0, rfl, hb0, hbd, hx9, hat⟩ := el_cells hL hS hz0 hzl
  have hfin := bgn_succ L f z
  generalize el L z = x at hfin hbd hx9 hat
  refine Ret.of_at (N := 50) Tryd.call69 Tryd.func69 rfl rfl rfl ?_
  refine At.region rfl rfl ?_
  refine Reg.pur rfl rfl rfl rfl (Pur.asg rfl) ?_
  refine Reg.nil ?_
  refine At.region rfl rfl ?_
  refine Reg.pur rfl rfl rfl rfl (Pur.mv rfl) ?_
  refine Reg.pur rfl rfl rfl rfl (Pur.mv rfl) ?_
  refine Reg.pur rfl rfl rfl rfl (Pur.idx _ es53 rfl rfl (by omega) (by omega)) ?_
  refine Reg.pur rfl rfl rfl rfl (Pur.asg rfl) ?_
  refine Reg.nil ?_
  refine At.region rfl rfl ?_
  refine Reg.pur rfl rfl rfl rfl (Pur.mv rfl) ?_
  refine Reg.pur rfl rfl rfl rfl (Pur.nilc rfl) ?_
  refine Reg.pur rfl rfl rfl rfl (Pur.fld _ fo65_0 rfl) ?_
  refine Reg.lod rfl rfl rfl rfl (Lod.ld sc3 rfl hb0 (hat 0 (by omega))) ?_
  refine Reg.pur rfl rfl rfl rfl (Pur.neq rfl rfl) ?_
  refine Reg.nil ?_
  refine At.cond rfl rfl (fun hb1 => ?_) (fun hb1 => ?_)
  · refine At.region rfl rfl ?_
    refine Reg.pur rfl rfl rfl rfl (Pur.mv rfl) ?_
    refine Reg.pur rfl rfl rfl rfl (Pur.asg rfl) ?_
    refine Reg.nil ?_
    refine At.ret rfl Tryd.func69 rfl ?_
    refine ⟨congrArg I ?_, rfl⟩
    try simp only [decide_eq_true_eq, decide_eq_false_iff_not] at *
    rw [hfin]
    first | (rw [if_pos (by omega)]; done) | (rw [if_neg (by omega), if_pos (by omega)]; done) | (rw [if_neg (by omega), if_neg (by omega), if_pos (by omega)]; done) | (rw [if_neg (by omega), if_neg (by omega), if_neg (by omega)]; done)
  refine At.region rfl rfl ?_
  refine Reg.pur rfl rfl rfl rfl (Pur.mv rfl) ?_
  refine Reg.pur rfl rfl rfl rfl (Pur.eql rfl rfl) ?_
  refine Reg.pur rfl rfl rfl rfl (Pur.mv rfl) ?_
  refine Reg.case 18 rfl (fun hc2 => ?_) (fun hc2 => ?_)
  · refine Reg.skip rfl rfl rfl rfl rfl rfl rfl ?_
    refine Reg.skip rfl rfl rfl rfl rfl rfl rfl ?_
    refine Reg.skip rfl rfl rfl rfl rfl rfl rfl ?_
    refine Reg.skip rfl rfl rfl rfl rfl rfl rfl ?_
    refine Reg.skip rfl rfl rfl rfl rfl rfl rfl ?_
    refine Reg.skip rfl rfl rfl rfl rfl rfl rfl ?_
    refine Reg.skip rfl rfl rfl rfl rfl rfl rfl ?_
    refine Reg.pur rfl rfl rfl rfl (Pur.pickT rfl rfl) ?_
    refine Reg.nil ?_
    refine At.condT rfl rfl rfl ?_
    refine At.region rfl rfl ?_
    refine Reg.pur rfl rfl rfl rfl (Pur.asg rfl) ?_
    refine Reg.nil ?_
    refine At.ret rfl Tryd.func69 rfl ?_
    refine ⟨congrArg I ?_, rfl⟩
    try simp only [decide_eq_true_eq, decide_eq_false_iff_not] at *
    rw [hfin]
    first | (rw [if_pos (by omega)]; done) | (rw [if_neg (by omega), if_pos (by omega)]; done) | (rw [if_neg (by omega), if_neg (by omega), if_pos (by omega)]; done) | (rw [if_neg (by omega), if_neg (by omega), if_neg (by omega)]; done)
  refine Reg.gpur rfl rfl rfl rfl rfl rfl (Pur.mv rfl) ?_
  refine Reg.gpur rfl rfl rfl rfl rfl rfl (Pur.nilc rfl) ?_
  refine Reg.gpur rfl rfl rfl rfl rfl rfl (Pur.fld _ fo65_3 rfl) ?_
  refine Reg.glod rfl rfl rfl rfl rfl rfl (Lod.ld sc3 rfl hb0 (hat 3 (by omega))) ?_
  refine Reg.gpur rfl rfl rfl rfl rfl rfl (Pur.mv rfl) ?_
  first | refine Reg.gpur rfl rfl rfl rfl rfl rfl (Pur.sub64 rfl rfl (by omega)) ?_ | refine Reg.gpur rfl rfl rfl rfl rfl rfl (Pur.sub64 rfl rfl (by assumption)) ?_ | refine Reg.gpur rfl rfl rfl rfl rfl rfl (Pur.sub rfl rfl) ?_
  refine Reg.gpur rfl rfl rfl rfl rfl rfl (Pur.neq rfl rfl) ?_
  refine Reg.pur rfl rfl rfl rfl (Pur.pickF rfl rfl) ?_
  refine Reg.nil ?_
  refine At.cond rfl rfl (fun hb3 => ?_) (fun hb3 => ?_)
  · refine At.region rfl rfl ?_
    refine Reg.pur rfl rfl rfl rfl (Pur.asg rfl) ?_
    refine Reg.nil ?_
    refine At.ret rfl Tryd.func69 rfl ?_
    refine ⟨congrArg I ?_, rfl⟩
    try simp only [decide_eq_true_eq, decide_eq_false_iff_not] at *
    rw [hfin]
    first | (rw [if_pos (by omega)]; done) | (rw [if_neg (by omega), if_pos (by omega)]; done) | (rw [if_neg (by omega), if_neg (by omega), if_pos (by omega)]; done) | (rw [if_neg (by omega), if_neg (by omega), if_neg (by omega)]; done)
  simp only [decide_eq_true_eq, decide_eq_false_iff_not] at *
  have hle := bgn_le L f (x.getD 3 0) (by omega)
  refine At.region rfl rfl ?_
  refine Reg.pur rfl rfl rfl rfl (Pur.mv rfl) ?_
  refine Reg.pur rfl rfl rfl rfl (Pur.mv rfl) ?_
  refine Reg.pur rfl rfl rfl rfl (Pur.nilc rfl) ?_
  refine Reg.pur rfl rfl rfl rfl (Pur.fld _ fo65_3 rfl) ?_
  refine Reg.lod rfl rfl rfl rfl (Lod.ld sc3 rfl hb0 (hat 3 (by omega))) ?_
  refine Reg.op rfl rfl rfl rfl (Does.call rfl (ihf (x.getD 3 0) (by omega) (by omega) (by omega))) ?_
  rintro _ H ⟨rfl, rfl⟩
  refine Reg.pur rfl rfl rfl rfl (Pur.asg rfl) ?_
  refine Reg.nil ?_
  refine At.region rfl rfl ?_
  refine Reg.pur rfl rfl rfl rfl (Pur.mv rfl) ?_
  refine Reg.pur rfl rfl rfl rfl (Pur.lss rfl rfl) ?_
  refine Reg.pur rfl rfl rfl rfl (Pur.mv rfl) ?_
  refine Reg.case 35 rfl (fun hc4 => ?_) (fun hc4 => ?_)
  · refine Reg.skip rfl rfl rfl rfl rfl rfl rfl ?_
    refine Reg.skip rfl rfl rfl rfl rfl rfl rfl ?_
    refine Reg.skip rfl rfl rfl rfl rfl rfl rfl ?_
    refine Reg.skip rfl rfl rfl rfl rfl rfl rfl ?_
    refine Reg.skip rfl rfl rfl rfl rfl rfl rfl ?_
    try simp only [decide_eq_false_iff_not] at hc4
    refine Reg.skip rfl rfl rfl rfl rfl rfl rfl ?_
    refine Reg.skip rfl rfl rfl rfl rfl rfl rfl ?_
    refine Reg.pur rfl rfl rfl rfl (Pur.pickT rfl rfl) ?_
    refine Reg.nil ?_
    refine At.condT rfl rfl rfl ?_
    refine At.region rfl rfl ?_
    refine Reg.pur rfl rfl rfl rfl (Pur.asg rfl) ?_
    refine Reg.nil ?_
    refine At.ret rfl Tryd.func69 rfl ?_
    refine ⟨congrArg I ?_, rfl⟩
    try simp only [decide_eq_true_eq, decide_eq_false_iff_not] at *
    rw [hfin]
    first | (rw [if_pos (by omega)]; done) | (rw [if_neg (by omega), if_pos (by omega)]; done) | (rw [if_neg (by omega), if_neg (by omega), if_pos (by omega)]; done) | (rw [if_neg (by omega), if_neg (by omega), if_neg (by omega)]; done)
  refine Reg.gpur rfl rfl rfl rfl rfl rfl (Pur.mv rfl) ?_
  refine Reg.gpur rfl rfl rfl rfl rfl rfl (Pur.nilc rfl) ?_
  refine Reg.gpur rfl rfl rfl rfl rfl rfl (Pur.fld _ fo65_2 rfl) ?_
  refine Reg.glod rfl rfl rfl rfl rfl rfl (Lod.ld sc3 rfl hb0 (hat 2 (by omega))) ?_
  refine Reg.gpur rfl rfl rfl rfl rfl rfl (Pur.mv rfl) ?_
  try simp only [decide_eq_false_iff_not] at hc4
  first | refine Reg.gpur rfl rfl rfl rfl rfl rfl (Pur.sub64 rfl rfl (by omega)) ?_ | refine Reg.gpur rfl rfl rfl rfl rfl rfl (Pur.sub64 rfl rfl (by assumption)) ?_ | refine Reg.gpur rfl rfl rfl rfl rfl rfl (Pur.sub rfl rfl) ?_
  refine Reg.gpur rfl rfl rfl rfl rfl rfl (Pur.neq rfl rfl) ?_
  refine Reg.pur rfl rfl rfl rfl (Pur.pickF rfl rfl) ?_
  refine Reg.nil ?_
  refine At.cond rfl rfl (fun hb5 => ?_) (fun hb5 => ?_)
  · refine At.region rfl rfl ?_
    refine Reg.pur rfl rfl rfl rfl (Pur.asg rfl) ?_
    refine Reg.nil ?_
    refine At.ret rfl Tryd.func69 rfl ?_
    refine ⟨congrArg I ?_, rfl⟩
    try simp only [decide_eq_true_eq, decide_eq_false_iff_not] at *
    rw [hfin]
    first | (rw [if_pos (by omega)]; done) | (rw [if_neg (by omega), if_pos (by omega)]; done) | (rw [if_neg (by omega), if_neg (by omega), if_pos (by omega)]; done) | (rw [if_neg (by omega), if_neg (by omega), if_neg (by omega)]; done)
  try simp only [decide_eq_true_eq, decide_eq_false_iff_not] at *
  refine At.region rfl rfl ?_
  refine Reg.pur rfl rfl rfl rfl (Pur.mv rfl) ?_
  refine Reg.pur rfl rfl rfl rfl (Pur.mv rfl) ?_
  refine Reg.pur rfl rfl rfl rfl (Pur.nilc rfl) ?_
  refine Reg.pur rfl rfl rfl rfl (Pur.fld _ fo65_2 rfl) ?_
  refine Reg.lod rfl rfl rfl rfl (Lod.ld sc3 rfl hb0 (hat 2 (by omega))) ?_
  refine Reg.op rfl rfl rfl rfl (Does.call rfl (ihf (x.getD 2 0) (by omega) (by omega) (by omega))) ?_
  rintro _ H ⟨rfl, rfl⟩
  refine Reg.pur rfl rfl rfl rfl (Pur.asg rfl) ?_
  refine Reg.nil ?_
  refine At.ret rfl Tryd.func69 rfl ?_
  refine ⟨congrArg I ?_, rfl⟩
  try simp only [decide_eq_true_eq, decide_eq_false_iff_not] at *
  rw [hfin]
  first | (rw [if_pos (by omega)]; done) | (rw [if_neg (by omega), if_pos (by omega)]; done) | (rw [if_neg (by omega), if_neg (by omega), if_pos (by omega)]; done) | (rw [if_neg (by omega), if_neg (by omega), if_neg (by omega)]; done)

end Go.Proofs.YtlfillhffpiffaaDoor

namespace Go.Proofs.YtlfillhffpiffaaDoor
set_option linter.unusedSimpArgs false
set_option linter.unusedVariables false
set_option maxRecDepth 8000
open Go Go.Fx Go.Proofs
namespace FactsTypD
theorem ag24 : ag Tryd.prog 24 = some 5 := by kernel_rfl
theorem ag65 : ag Tryd.prog 65 = some 9 := by kernel_rfl
theorem eqt65 : eqT Tryd.prog 65 = some [.int .i64, .int .i64, .int .i64, .int .i64, .int .i64, .int .i64, .int .i64, .int .i64, .int .i64] := by kernel_rfl
theorem es53 : esz Tryd.prog 53 = some 9 := by kernel_rfl
theorem fo55_0 : foff Tryd.prog 55 0 = some 0 := by kernel_rfl
theorem fo65_0 : foff Tryd.prog 65 0 = some 0 := by kernel_rfl
theorem fo65_1 : foff Tryd.prog 65 1 = some 1 := by kernel_rfl
theorem fo65_2 : foff Tryd.prog 65 2 = some 2 := by kernel_rfl
theorem fo65_3 : foff Tryd.prog 65 3 = some 3 := by kernel_rfl
theorem fo65_4 : foff Tryd.prog 65 4 = some 4 := by kernel_rfl
theorem isl53 : isSl Tryd.prog 53 = true := by kernel_rfl
theorem pl65 : places Tryd.prog 65 = some [(0, 1), (1, 1), (2, 1), (3, 1), (4, 5)] := by kernel_rfl
theorem sc3 : sc Tryd.prog 3 = true := by kernel_rfl
theorem sc53 : sc Tryd.prog 53 = true := by kernel_rfl
theorem zc65 : zc Tryd.prog 65 = some [.int .i64 0, .int .i64 0, .int .i64 0, .int .i64 0, .int .i64 0, .int .i64 0, .int .i64 0, .int .i64 0, .int .i64 0] := by kernel_rfl
end FactsTypD
open FactsTypD

theorem nodMay_ok9 {x : List Int} (hx : x.length = 9) (H : Heap) : Ret Tryd.prog 68 [.agg (Is x).toArray] H (fun r H' => r = .bool (nodM x) ∧ Ext H H') := by
  match x, hx with
  | [k, v, a, b, c, d, e, f, t], _ => exact nodMay_ok k v a b c d e f t H
def typM (L : List (List Int)) : Bool := decide (1 ≤ L.length ∧ L.length ≤ 256) && L.all nodM && decide (bgn L L.length ((L.length : Int) - 1) = 0)
abbrev Ty (A : Option Addr) (len cap : Nat) : Value := .agg #[.slice A len cap]

theorem typMay_ok {A : Option Addr} {cap : Nat} (L : List (List Int)) (hL : Nine L) {H : Heap} (hS : SlT H Is 9 (.slice A L.length cap) L) (hm : L.length ≤ 9223372036854775807) :
    Ret Tryd.prog 46 [Ty A L.length cap] H (fun v H' => v = .bool (typM L) ∧ Ext H H') := by
  refine Ret.of_at (N := 32) Tryd.call46 Tryd.func46 rfl rfl rfl ?_
  refine At.region rfl rfl ?_
  refine Reg.op rfl rfl rfl rfl (Does.box rfl rfl) ?_
  rintro _ H1 ⟨rfl, hn1⟩
  refine Reg.pur rfl rfl rfl rfl (Pur.asg rfl) ?_
  refine Reg.nil ?_
  have hB := hn1.own.blk
  have hS1 := hS.ext hn1.ext
  refine At.region rfl rfl ?_
  refine Reg.pur rfl rfl rfl rfl (Pur.fld _ fo55_0 rfl) ?_
  refine Reg.lod rfl rfl rfl rfl (Lod.ld sc53 rfl hB rfl) ?_
  refine Reg.pur rfl rfl rfl rfl (Pur.lenS isl53 rfl) ?_
  refine Reg.pur rfl rfl rfl rfl (Pur.asg rfl) ?_
  refine Reg.nil ?_
  refine At.region rfl rfl ?_
  refine Reg.pur rfl rfl rfl rfl (Pur.mv rfl) ?_
  refine Reg.pur rfl rfl rfl rfl (Pur.lss rfl rfl) ?_
  refine Reg.pur rfl rfl rfl rfl (Pur.mv rfl) ?_
  refine Reg.case 11 rfl (fun hc1 => ?_) (fun hc1 => ?_)
  · refine Reg.skip rfl rfl rfl rfl rfl rfl rfl ?_
    refine Reg.skip rfl rfl rfl rfl rfl rfl rfl ?_
    refine Reg.pur rfl rfl rfl rfl (Pur.pickT rfl rfl) ?_
    refine Reg.nil ?_
    refine At.condT rfl rfl rfl ?_
    refine At.region rfl rfl ?_
    refine Reg.pur rfl rfl rfl rfl (Pur.asg rfl) ?_
    refine Reg.nil ?_
    refine At.ret rfl Tryd.func46 rfl ?_
    first | exact ⟨congrArg Value.bool (by unfold typM; simp only [decide_eq_true_eq] at *; rw [decide_eq_false (by omega)]; rfl), hn1.ext⟩ | exact ⟨congrArg Value.bool (by unfold typM; rw [all_of_take hlt (by simpa using hb4)]; simp), hn1.ext.trans (hE.trans (hE4.trans hE5))⟩ | exact ⟨congrArg Value.bool (by simp only [decide_eq_false_iff_not] at *; rw [List.take_of_length_le (by omega)] at hgo; unfold typM; rw [hgo, decide_eq_true (p := 1 ≤ L.length ∧ L.length ≤ 256) (by omega)]; rfl), hn1.ext.trans hE⟩
  refine Reg.gpur rfl rfl rfl rfl rfl rfl (Pur.mv rfl) ?_
  refine Reg.gpur rfl rfl rfl rfl rfl rfl (Pur.gtr rfl rfl) ?_
  refine Reg.pur rfl rfl rfl rfl (Pur.pickF rfl rfl) ?_
  refine Reg.nil ?_
  refine At.cond rfl rfl (fun hb2 => ?_) (fun hb2 => ?_)
  · refine At.region rfl rfl ?_
    refine Reg.pur rfl rfl rfl rfl (Pur.asg rfl) ?_
    refine Reg.nil ?_
    refine At.ret rfl Tryd.func46 rfl ?_
    first | exact ⟨congrArg Value.bool (by unfold typM; simp only [decide_eq_true_eq] at *; rw [decide_eq_false (by omega)]; rfl), hn1.ext⟩ | exact ⟨congrArg Value.bool (by unfold typM; rw [all_of_take hlt (by simpa using hb4)]; simp), hn1.ext.trans (hE.trans (hE4.trans hE5))⟩ | exact ⟨congrArg Value.bool (by simp only [decide_eq_false_iff_not] at *; rw [List.take_of_length_le (by omega)] at hgo; unfold typM; rw [hgo, decide_eq_true (p := 1 ≤ L.length ∧ L.length ≤ 256) (by omega)]; rfl), hn1.ext.trans hE⟩
  refine At.region rfl rfl ?_
  refine Reg.pur rfl rfl rfl rfl (Pur.fld _ fo55_0 rfl) ?_
  refine Reg.lod rfl rfl rfl rfl (Lod.ld sc53 rfl hB rfl) ?_
  refine Reg.pur rfl rfl rfl rfl (Pur.lenS isl53 rfl) ?_
  refine Reg.pur rfl rfl rfl rfl (Pur.mv rfl) ?_
  refine Reg.nil ?_
  refine At.loop (σ := Nat) (fun i => [(18, I i), (17, I L.length), (16, .slice A L.length cap), (1, ptr H.size 0), (3, I L.length)]) (fun i H' => i ≤ L.length ∧ Ext H1 H' ∧ (L.take i).all nodM = true) (fun i => L.length - i) 0 rfl ⟨rfl, rfl, rfl, rfl, rfl, trivial⟩ ⟨by omega, Ext.refl _, rfl⟩ ?_
  rintro i H2 ⟨hi, hE, hgo⟩ ih
  refine At.region rfl rfl ?_
  refine Reg.pur rfl rfl rfl rfl (Pur.lss rfl rfl) ?_
  refine Reg.nil ?_
  refine At.cond rfl rfl (fun hb3 => ?_) (fun hb3 => ?_)
  · simp only [decide_eq_true_eq] at hb3
    have hlt : i < L.length := by omega
    obtain ⟨b, o, c, rfl, hB2, hd, h9⟩ := sl_at (wide9 hL) (hS1.ext hE) hlt
    have h9' := hL _ (List.getElem_mem hlt)
    refine At.region rfl rfl ?_
    refine Reg.pur rfl rfl rfl rfl (Pur.idx _ es53 rfl rfl (by omega) hb3) ?_
    refine Reg.lod rfl rfl rfl rfl (Lod.ldn ag65 rfl hB2 hd h9) ?_
    refine Reg.op rfl rfl rfl rfl (Does.alloc zc65) ?_
    rintro _ H3 ⟨rfl, hn3⟩
    refine Reg.op0 rfl rfl rfl (Does.stn ag65 rfl rfl (ones_Is _) h9 hn3.own (by decide)) ?_
    rintro _ H4 hu4
    refine Reg.nil ?_
    have hX : Own H4 H2.size (Is L[i]) := by have := hu4.own; rwa [over (by rfl)] at this
    have hE4 : Ext H2 H4 := hn3.ext.upd hu4 (Nat.le_refl _)
    refine At.region rfl rfl ?_
    refine Reg.lod rfl rfl rfl rfl (Lod.ldn ag65 rfl hX.blk (whole h9) h9) ?_
    refine Reg.op rfl rfl rfl rfl (Does.call rfl (nodMay_ok9 h9' _)) ?_
    rintro _ H5 ⟨rfl, hE5⟩
    refine Reg.pur rfl rfl rfl rfl (Pur.not rfl) ?_
    refine Reg.nil ?_
    refine At.cond rfl rfl (fun hb4 => ?_) (fun hb4 => ?_)
    · refine At.region rfl rfl ?_
      refine Reg.pur rfl rfl rfl rfl (Pur.asg rfl) ?_
      refine Reg.nil ?_
      refine At.ret rfl Tryd.func46 rfl ?_
      first | exact ⟨congrArg Value.bool (by unfold typM; simp only [decide_eq_true_eq] at *; rw [decide_eq_false (by omega)]; rfl), hn1.ext⟩ | exact ⟨congrArg Value.bool (by unfold typM; rw [all_of_take hlt (by simpa using hb4)]; simp), hn1.ext.trans (hE.trans (hE4.trans hE5))⟩ | exact ⟨congrArg Value.bool (by simp only [decide_eq_false_iff_not] at *; rw [List.take_of_length_le (by omega)] at hgo; unfold typM; rw [hgo, decide_eq_true (p := 1 ≤ L.length ∧ L.length ≤ 256) (by omega)]; rfl), hn1.ext.trans hE⟩
    refine At.region rfl rfl ?_
    first | refine Reg.pur rfl rfl rfl rfl (Pur.add64 rfl rfl (by omega)) ?_ | refine Reg.pur rfl rfl rfl rfl (Pur.add64 rfl rfl (by assumption)) ?_ | refine Reg.pur rfl rfl rfl rfl (Pur.add rfl rfl) ?_
    refine Reg.pur rfl rfl rfl rfl (Pur.mv rfl) ?_
    refine Reg.nil ?_
    refine At.via (ih (i + 1) H5 ⟨by omega, hE.trans (hE4.trans hE5), ?_⟩ (by omega)) ⟨rfl, rfl, rfl, rfl, rfl, trivial⟩
    rw [all_take hlt, hgo]; simpa using hb4
  have hlen : 1 ≤ L.length ∧ L.length ≤ 256 := by simp only [decide_eq_false_iff_not] at *; omega
  refine At.region rfl rfl ?_
  refine Reg.pur rfl rfl rfl rfl (Pur.fld _ fo55_0 rfl) ?_
  refine Reg.lod rfl rfl rfl rfl (Lod.ld sc53 rfl (hB.ext hE) rfl) ?_
  refine Reg.pur rfl rfl rfl rfl (Pur.mv rfl) ?_
  first | refine Reg.pur rfl rfl rfl rfl (Pur.sub64 rfl rfl (by omega)) ?_ | refine Reg.pur rfl rfl rfl rfl (Pur.sub64 rfl rfl (by assumption)) ?_ | refine Reg.pur rfl rfl rfl rfl (Pur.sub rfl rfl) ?_
  refine Reg.op rfl rfl rfl rfl (Does.call rfl (begin_ok L hL (hS1.ext hE) hm L.length _ (by omega) (by omega) (by omega))) ?_
  rintro _ H2 ⟨rfl, rfl⟩
  refine Reg.pur rfl rfl rfl rfl (Pur.eql rfl rfl) ?_
  refine Reg.pur rfl rfl rfl rfl (Pur.asg rfl) ?_
  refine Reg.nil ?_
  refine At.ret rfl Tryd.func46 rfl ?_
  first | exact ⟨congrArg Value.bool (by unfold typM; simp only [decide_eq_true_eq] at *; rw [decide_eq_false (by omega)]; rfl), hn1.ext⟩ | exact ⟨congrArg Value.bool (by unfold typM; rw [all_of_take hlt (by simpa using hb4)]; simp), hn1.ext.trans (hE.trans (hE4.trans hE5))⟩ | exact ⟨congrArg Value.bool (by simp only [decide_eq_false_iff_not] at *; rw [List.take_of_length_le (by omega)] at hgo; unfold typM; rw [hgo, decide_eq_true (p := 1 ≤ L.length ∧ L.length ≤ 256) (by omega)]; rfl), hn1.ext.trans hE⟩

end Go.Proofs.YtlfillhffpiffaaDoor

namespace Go.Proofs.YtlfillhffpiffaaDoor
set_option linter.unusedSimpArgs false
set_option linter.unusedVariables false
set_option maxRecDepth 8000
open Go Go.Fx Go.Proofs
namespace FactsSubA
theorem ag24 : ag Tryd.prog 24 = some 5 := by kernel_rfl
theorem ag55 : ag Tryd.prog 55 = some 1 := by kernel_rfl
theorem fo55_0 : foff Tryd.prog 55 0 = some 0 := by kernel_rfl
theorem isl53 : isSl Tryd.prog 53 = true := by kernel_rfl
theorem pl24 : places Tryd.prog 24 = some [(0, 4), (4, 1)] := by kernel_rfl
theorem sc3 : sc Tryd.prog 3 = true := by kernel_rfl
theorem sc53 : sc Tryd.prog 53 = true := by kernel_rfl
theorem zc24 : zc Tryd.prog 24 = some [.int .i64 0, .int .i64 0, .int .i64 0, .int .i64 0, .int .i64 0] := by kernel_rfl
end FactsSubA
open FactsSubA

structure Bd where
  var : Int
  isRow : Bool
  A : Option Addr
  cap : Nat
  nodes : List (List Int)
  row : List Int
abbrev Bd.sl (b : Bd) : Value := .slice b.A b.nodes.length b.cap
abbrev encB (b : Bd) : List Value := I b.var :: .bool b.isRow :: b.sl :: Is b.row
structure Bd.Ok (H : Heap) (b : Bd) : Prop where
  sl : SlT H Is 9 b.sl b.nodes
  nine : Nine b.nodes
  row : b.row.length = 5
  fits : b.nodes.length * 72 ≤ 140737488351232
end Go.Proofs.YtlfillhffpiffaaDoor

namespace Go.Proofs.YtlfillhffpiffaaDoor
set_option linter.unusedSimpArgs false
set_option linter.unusedVariables false
set_option maxRecDepth 8000
open Go Go.Fx Go.Proofs
namespace FactsSubB
theorem sc3 : sc Tryd.prog 3 = true := by kernel_rfl
end FactsSubB
open FactsSubB

structure Bds (H : Heap) (v : Value) (L : List Bd) : Prop where
  sl : SlT H encB 8 v L
  ok : ∀ b ∈ L, b.Ok H
  fits : L.length * 80 ≤ 140737488351232
end Go.Proofs.YtlfillhffpiffaaDoor

namespace Go.Proofs.YtlfillhffpiffaaDoor
set_option linter.unusedSimpArgs false
set_option linter.unusedVariables false
set_option maxRecDepth 8000
open Go Go.Fx Go.Proofs
namespace FactsSubC
theorem ag22 : ag Tryd.prog 22 = some 4 := by kernel_rfl
theorem ag24 : ag Tryd.prog 24 = some 5 := by kernel_rfl
theorem arr1_22 : arr1 Tryd.prog 22 = some 4 := by kernel_rfl
theorem arr22 : arr Tryd.prog 22 = some (4, 1) := by kernel_rfl
theorem fo24_0 : foff Tryd.prog 24 0 = some 0 := by kernel_rfl
theorem fo24_1 : foff Tryd.prog 24 1 = some 4 := by kernel_rfl
theorem pl24 : places Tryd.prog 24 = some [(0, 4), (4, 1)] := by kernel_rfl
theorem sc3 : sc Tryd.prog 3 = true := by kernel_rfl
theorem zc24 : zc Tryd.prog 24 = some [.int .i64 0, .int .i64 0, .int .i64 0, .int .i64 0, .int .i64 0] := by kernel_rfl
end FactsSubC
open FactsSubC

end Go.Proofs.YtlfillhffpiffaaDoor

namespace Go.Proofs.YtlfillhffpiffaaDoor
set_option linter.unusedSimpArgs false
set_option linter.unusedVariables false
set_option maxRecDepth 8000
open Go Go.Fx Go.Proofs
namespace FactsSubE
theorem apt53 : appT Tryd.prog 53 = some (65, 9, 72) := by kernel_rfl
theorem isSlN53 : isSl' Tryd.prog 53 = true := by kernel_rfl
theorem slA53 : slA Tryd.prog 53 = some (65, 9) := by kernel_rfl
end FactsSubE
open FactsSubE

theorem flat_set : ∀ {M : List (List Int)} (hM : Nine M) {i j : Nat} (hi : i < M.length) (hj : j < 9) (v : Int), (M.flatMap Is).set (i * 9 + j) (I v) = (M.set i ((M.getD i []).set j v)).flatMap Is
  | [], _, _, _, hi, _, _ => by simp at hi
  | x :: M, hM, 0, j, _, hj, v => by
    have h9 : x.length = 9 := hM x List.mem_cons_self
    rw [List.flatMap_cons, List.set_cons_zero, List.flatMap_cons, Nat.zero_mul, Nat.zero_add, List.set_append_left _ _ (by simp [h9]; omega), Is_set]
    rfl
  | x :: M, hM, i + 1, j, hi, hj, v => by
    have h9 : x.length = 9 := hM x List.mem_cons_self
    have ih := flat_set (M := M) (fun y hy => hM y (List.mem_cons_of_mem _ hy)) (i := i) (by simpa using hi) hj v
    rw [List.flatMap_cons, List.set_cons_succ, List.flatMap_cons, List.set_append_right _ _ (by simp [h9]; omega), show (i + 1) * 9 + j - (Is x).length = i * 9 + j by simp [h9]; omega, ih]
    rfl

theorem cloneT_ok {A : Option Addr} {cap : Nat} {L : List (List Int)} (hL : Nine L) {H : Heap} (hS : SlT H Is 9 (.slice A L.length cap) L) (hb : L.length * 72 ≤ 140737488351232) :
    Ret Tryd.prog 106 [.slice A L.length cap] H (fun v H' => OwnS H' H.size 65 9 v L.length (L.flatMap Is) ∧ Ext H H') := by
  refine Ret.of_at (N := 8) Tryd.call106 Tryd.func106 rfl rfl rfl ?_
  refine At.region rfl rfl ?_
  refine Reg.pur rfl rfl rfl rfl (Pur.asg rfl) ?_
  refine Reg.nil ?_
  refine At.region rfl rfl ?_
  refine Reg.pur rfl rfl rfl rfl (Pur.mv rfl) ?_
  refine Reg.pur rfl rfl rfl rfl (Pur.eqSN isSlN53 rfl rfl) ?_
  refine Reg.nil ?_
  refine At.cond rfl rfl (fun hb1 => ?_) (fun hb1 => ?_)
  · refine At.region rfl rfl ?_
    refine Reg.pur rfl rfl rfl rfl (Pur.asg rfl) ?_
    refine Reg.nil ?_
    refine At.ret rfl Tryd.func106 rfl ?_
    first | (refine ⟨by simpa using ho, ?_⟩; exact (New.of_push (xs := []).ext).trBut hbut (fun b hb h => by simp only [Value.ownBlock, Option.some.injEq] at h; omega)) | (obtain ⟨A', cap', e, h1, _, h0, _⟩ := hS; cases e; have hA : A = none := by { cases A with | none => rfl | some _ => cases hb1 }; have hc := h0 hA; have hl : L = [] := List.length_eq_zero_iff.1 (by omega); subst hl; exact ⟨OwnS.nil _ _ _ _, Ext.refl _⟩)
  refine At.region rfl rfl ?_
  refine Reg.op rfl rfl rfl rfl (Does.bslA ([]) slA53 rfl rfl rfl rfl rfl rfl) ?_
  rintro _ H1 ⟨rfl, rfl⟩
  refine Reg.pur rfl rfl rfl rfl (Pur.mv rfl) ?_
  refine Reg.op rfl rfl rfl rfl (Does.app apt53 rfl rfl (OwnS.new (xs := []) (n := 0) (H := H) (B := H.size) rfl (by decide) (Nat.le_refl _)) (sl_src (wide9 hL) (hS.ext New.of_push.ext)) (ones_flat L) (by rw [show maxLen = 9223372036854775807 from rfl]; omega) (by omega) (by simp)) ?_
  rintro v H2 ⟨ho, hbut, _, _⟩
  refine Reg.pur rfl rfl rfl rfl (Pur.asg rfl) ?_
  refine Reg.nil ?_
  refine At.ret rfl Tryd.func106 rfl ?_
  first | (refine ⟨by simpa using ho, ?_⟩; exact (New.of_push (xs := []).ext).trBut hbut (fun b hb h => by simp only [Value.ownBlock, Option.some.injEq] at h; omega)) | (obtain ⟨A', cap', e, h1, _, h0, _⟩ := hS; cases e; have hA : A = none := by { cases A with | none => rfl | some _ => cases hb1 }; have hc := h0 hA; have hl : L = [] := List.length_eq_zero_iff.1 (by omega); subst hl; exact ⟨OwnS.nil _ _ _ _, Ext.refl _⟩)
end Go.Proofs.YtlfillhffpiffaaDoor

namespace Go.Proofs.YtlfillhffpiffaaDoor
set_option linter.unusedSimpArgs false
set_option linter.unusedVariables false
set_option maxRecDepth 8000
open Go Go.Fx Go.Proofs
namespace FactsSubF
theorem es53 : esz Tryd.prog 53 = some 9 := by kernel_rfl
theorem fo65_0 : foff Tryd.prog 65 0 = some 0 := by kernel_rfl
theorem fo65_2 : foff Tryd.prog 65 2 = some 2 := by kernel_rfl
theorem fo65_3 : foff Tryd.prog 65 3 = some 3 := by kernel_rfl
theorem isl53 : isSl Tryd.prog 53 = true := by kernel_rfl
theorem sc3 : sc Tryd.prog 3 = true := by kernel_rfl
end FactsSubF
open FactsSubF

def movS (by' : Int) (x : List Int) : List Int := if x.getD 0 0 = 3 then (x.set 2 (IntKind.i64.wrap (x.getD 2 0 + by'))).set 3 (IntKind.i64.wrap (x.getD 3 0 + by')) else x
theorem movS_len (by' : Int) (x : List Int) : (movS by' x).length = x.length := by unfold movS; split <;> simp
theorem nine_mov {by' : Int} {L : List (List Int)} (h : Nine L) : Nine (L.map (movS by')) := by
  intro x hx
  obtain ⟨y, hy, rfl⟩ := List.mem_map.1 hx
  rw [movS_len]; exact h y hy
def mid (by' : Int) (L : List (List Int)) (i : Nat) : List (List Int) := (L.take i).map (movS by') ++ L.drop i
theorem mid_len (by' : Int) (L : List (List Int)) (i : Nat) : (mid by' L i).length = L.length := by
  unfold mid; simp; omega
theorem mid_nine {by' : Int} {L : List (List Int)} (h : Nine L) (i : Nat) : Nine (mid by' L i) := by
  intro x hx
  unfold mid at hx
  rcases List.mem_append.1 hx with hx | hx
  · exact nine_mov (fun y hy => h y (List.mem_of_mem_take hy)) x hx
  · exact h x (List.mem_of_mem_drop hx)
theorem mid_get (by' : Int) {L : List (List Int)} {i : Nat} (h : i < L.length) : (mid by' L i).getD i [] = L[i] := by
  unfold mid
  rw [List.getD_eq_getElem?_getD, List.getElem?_append_right (by simp; omega)]
  simp [Nat.min_eq_left (Nat.le_of_lt h), List.getElem?_eq_getElem h]
theorem mid_set (by' : Int) {L : List (List Int)} {i : Nat} (h : i < L.length) : (mid by' L i).set i (movS by' L[i]) = mid by' L (i + 1) := by
  unfold mid
  rw [List.set_append_right _ _ (by simp; omega), List.take_succ_eq_append_getElem h, List.map_append, List.append_assoc]
  congr 1
  simp only [List.length_map, List.length_take, Nat.min_eq_left (Nat.le_of_lt h), Nat.sub_self]
  rw [dropL h]; rfl
theorem mid_same (by' : Int) {L : List (List Int)} {i : Nat} (h : i < L.length) (hm : movS by' L[i] = L[i]) : mid by' L (i + 1) = mid by' L i := by
  unfold mid
  rw [List.take_succ_eq_append_getElem h, List.map_append, List.append_assoc, dropL h]
  simp only [List.map_cons, List.map_nil, hm, List.singleton_append]
theorem mid_all (by' : Int) (L : List (List Int)) {i : Nat} (h : L.length ≤ i) : mid by' L i = L.map (movS by') := by
  unfold mid; rw [List.take_of_length_le h, List.drop_of_length_le h, List.append_nil]
theorem rd {c : List Value} {M : List (List Int)} {n i j : Nat} (h : c.take (n * 9) = M.flatMap Is) (hM : Nine M) (hl : M.length = n) (hi : i < n) (hj : j < 9) : c[0 + (i : Int).toNat * 9 + j]? = some (I ((M.getD i []).getD j 0)) := by
  subst hl
  have h1 : (c.drop (i * 9)).take 9 = Is M[i] := by rw [take_mid h (by omega)]; exact flat_at M i (wide9 hM) hi
  have h2 : M.getD i [] = M[i] := by simp [List.getD_eq_getElem?_getD, List.getElem?_eq_getElem hi]
  rw [h2, Nat.zero_add]
  exact at_tk h1 hj (at_Is (by rw [hM _ (List.getElem_mem hi)]; exact hj))
theorem wr {c : List Value} {M : List (List Int)} {n i j : Nat} (h : c.take (n * 9) = M.flatMap Is) (hM : Nine M) (hl : M.length = n) (hi : i < n) (hj : j < 9) (v : Int) : (c.set (0 + (i : Int).toNat * 9 + j) (I v)).take (n * 9) = (M.set i ((M.getD i []).set j v)).flatMap Is := by
  subst hl
  rw [Nat.zero_add, List.take_set, h]
  exact flat_set hM hi hj v
theorem len_of {c : List Value} {M : List (List Int)} {n : Nat} (h : c.take (n * 9) = M.flatMap Is) (hM : Nine M) (hl : M.length = n) : n * 9 ≤ c.length := by
  have := congrArg List.length h
  rw [List.length_take, flat_len (wide9 hM), hl] at this; omega
theorem nine_set {M : List (List Int)} (hM : Nine M) (i j : Nat) (v : Int) : Nine (M.set i ((M.getD i []).set j v)) := by
  intro x hx
  by_cases hi : i < M.length
  · rcases List.mem_or_eq_of_mem_set hx with h | h
    · exact hM x h
    · subst h
      rw [List.length_set, List.getD_eq_getElem?_getD, List.getElem?_eq_getElem hi]; exact hM _ (List.getElem_mem hi)
  · rw [List.set_eq_of_length_le (by omega)] at hx; exact hM x hx

theorem moved_ok {A : Option Addr} {cap : Nat} {L : List (List Int)} (hL : Nine L) {H : Heap} (hS : SlT H Is 9 (.slice A L.length cap) L) (hb : L.length * 72 ≤ 140737488351232) (by' : Int) :
    Ret Tryd.prog 92 [.slice A L.length cap, I by'] H (fun v H' => (∃ A' cap', v = .slice A' L.length cap' ∧ (L.length = 0 ∨ ∃ g, H.size ≤ g ∧ A' = some ⟨g, 0, none⟩)) ∧ SlT H' Is 9 v (L.map (movS by')) ∧ Ext H H') := by
  refine Ret.of_at (N := 40) Tryd.call92 Tryd.func92 rfl rfl rfl ?_
  refine At.region rfl rfl ?_
  refine Reg.pur rfl rfl rfl rfl (Pur.asg rfl) ?_
  refine Reg.nil ?_
  refine At.region rfl rfl ?_
  refine Reg.pur rfl rfl rfl rfl (Pur.mv rfl) ?_
  refine Reg.op rfl rfl rfl rfl (Does.call rfl (cloneT_ok hL hS hb)) ?_
  rintro v H1 ⟨ho, hE1⟩
  refine Reg.pur rfl rfl rfl rfl (Pur.asg rfl) ?_
  refine Reg.nil ?_
  obtain ⟨A', cap', rfl, hc1, hc2, hc3, g, c0, hg⟩ : ∃ A' cap', v = .slice A' L.length cap' ∧ L.length ≤ cap' ∧ cap' ≤ maxLen ∧ (A' = none → cap' = 0) ∧ ∃ g c, L.length = 0 ∨ (H.size ≤ g ∧ A' = some ⟨g, 0, none⟩ ∧ Own H1 g c ∧ c.take (L.length * 9) = (mid by' L 0).flatMap Is) := by
    obtain ⟨_, ⟨rfl, h0⟩ | ⟨g, cap, cur, rfl, h2, h3, h4, h5, h6, h7⟩⟩ := ho
    · exact ⟨none, 0, by rw [h0], by omega, by decide, fun _ => rfl, 0, [], .inl h0⟩
    · exact ⟨_, cap, rfl, h4, h5, (fun h => by cases h), g, cur.toList, .inr ⟨h2, rfl, ⟨_, by simpa using h3⟩, h7⟩⟩
  refine At.region rfl rfl ?_
  refine Reg.pur rfl rfl rfl rfl (Pur.mv rfl) ?_
  refine Reg.pur rfl rfl rfl rfl (Pur.lenS isl53 rfl) ?_
  refine Reg.pur rfl rfl rfl rfl (Pur.mv rfl) ?_
  refine Reg.nil ?_
  refine At.loop (σ := Nat × List Value) (fun s => [(11, I s.1), (10, I L.length), (5, .slice A' L.length cap'), (1, I by')]) (fun s H' => s.1 ≤ L.length ∧ Ext H H' ∧ (L.length = 0 ∨ (H.size ≤ g ∧ A' = some ⟨g, 0, none⟩ ∧ Own H' g s.2 ∧ s.2.take (L.length * 9) = (mid by' L s.1).flatMap Is))) (fun s => L.length - s.1) (0, c0) rfl ⟨rfl, rfl, rfl, rfl, trivial⟩ ⟨by omega, hE1, hg⟩ ?_
  clear hg ho
  rintro ⟨i, c⟩ H2 ⟨hi, hE, hI⟩ ih
  dsimp only at hi hE hI ⊢
  refine At.region rfl rfl ?_
  refine Reg.pur rfl rfl rfl rfl (Pur.lss rfl rfl) ?_
  refine Reg.nil ?_
  refine At.cond rfl rfl (fun hb1 => ?_) (fun hb1 => ?_)
  · refine At.region rfl rfl ?_
    refine Reg.pur rfl rfl rfl rfl (Pur.mv rfl) ?_
    refine Reg.pur rfl rfl rfl rfl (Pur.asg rfl) ?_
    refine Reg.nil ?_
    simp only [decide_eq_true_eq] at hb1
    have hlt : i < L.length := by omega
    obtain ⟨hgH, rfl, hO, htk⟩ := hI.resolve_left (by omega)
    have hN := mid_nine (by' := by') hL i
    have hln := mid_len by' L i
    have hcl := len_of htk hN hln
    have r0 := rd htk hN hln hlt (j := 0) (by omega)
    have r2 := rd htk hN hln hlt (j := 2) (by omega)
    have hx9 := hL _ (List.getElem_mem hlt)
    have hms := mid_set by' hlt
    rw [mid_get by' hlt] at r0 r2
    refine At.region rfl rfl ?_
    refine Reg.pur rfl rfl rfl rfl (Pur.mv rfl) ?_
    refine Reg.pur rfl rfl rfl rfl (Pur.mv rfl) ?_
    refine Reg.pur rfl rfl rfl rfl (Pur.idx _ es53 rfl rfl (by omega) hb1) ?_
    refine Reg.pur rfl rfl rfl rfl (Pur.fld _ fo65_0 rfl) ?_
    refine Reg.lod rfl rfl rfl rfl (Lod.ld sc3 rfl hO.blk r0) ?_
    refine Reg.pur rfl rfl rfl rfl (Pur.eql rfl rfl) ?_
    refine Reg.nil ?_
    refine At.cond rfl rfl (fun hb2 => ?_) (fun hb2 => ?_)
    · refine At.region rfl rfl ?_
      refine Reg.pur rfl rfl rfl rfl (Pur.mv rfl) ?_
      refine Reg.pur rfl rfl rfl rfl (Pur.mv rfl) ?_
      refine Reg.pur rfl rfl rfl rfl (Pur.idx _ es53 rfl rfl (by omega) (by omega)) ?_
      refine Reg.pur rfl rfl rfl rfl (Pur.fld _ fo65_2 rfl) ?_
      refine Reg.lod rfl rfl rfl rfl (Lod.ld sc3 rfl hO.blk r2) ?_
      refine Reg.pur rfl rfl rfl rfl (Pur.mv rfl) ?_
      first | refine Reg.pur rfl rfl rfl rfl (Pur.add64 rfl rfl (by omega)) ?_ | refine Reg.pur rfl rfl rfl rfl (Pur.add64 rfl rfl (by assumption)) ?_ | refine Reg.pur rfl rfl rfl rfl (Pur.add rfl rfl) ?_
      refine Reg.pur rfl rfl rfl rfl (Pur.idx _ es53 rfl rfl (by omega) (by omega)) ?_
      refine Reg.pur rfl rfl rfl rfl (Pur.fld _ fo65_2 rfl) ?_
      refine Reg.op0 rfl rfl rfl (Does.st sc3 rfl rfl rfl hO (by omega)) ?_
      rintro _ H3 hu3
      refine Reg.nil ?_
      have t3 := wr htk hN hln hlt (j := 2) (by omega) (IntKind.i64.wrap (L[i].getD 2 0 + by'))
      have N3 := nine_set hN i 2 (IntKind.i64.wrap (L[i].getD 2 0 + by'))
      have l3 : ((mid by' L i).set i (((mid by' L i).getD i []).set 2 (IntKind.i64.wrap (L[i].getD 2 0 + by')))).length = L.length := by rw [List.length_set]; exact hln
      have g3 : ((mid by' L i).set i (((mid by' L i).getD i []).set 2 (IntKind.i64.wrap (L[i].getD 2 0 + by')))).getD i [] = L[i].set 2 (IntKind.i64.wrap (L[i].getD 2 0 + by')) := by rw [mid_get by' hlt, List.getD_eq_getElem?_getD, List.getElem?_set]; simp [hln, hlt]
      have r3 := rd t3 N3 l3 hlt (j := 3) (by omega)
      rw [g3, show (L[i].set 2 (IntKind.i64.wrap (L[i].getD 2 0 + by'))).getD 3 0 = L[i].getD 3 0 by simp [List.getD_eq_getElem?_getD, List.getElem?_set]] at r3
      refine At.region rfl rfl ?_
      refine Reg.pur rfl rfl rfl rfl (Pur.mv rfl) ?_
      refine Reg.pur rfl rfl rfl rfl (Pur.mv rfl) ?_
      refine Reg.pur rfl rfl rfl rfl (Pur.idx _ es53 rfl rfl (by omega) (by omega)) ?_
      refine Reg.pur rfl rfl rfl rfl (Pur.fld _ fo65_3 rfl) ?_
      refine Reg.lod rfl rfl rfl rfl (Lod.ld sc3 rfl hu3.own.blk r3) ?_
      refine Reg.pur rfl rfl rfl rfl (Pur.mv rfl) ?_
      first | refine Reg.pur rfl rfl rfl rfl (Pur.add64 rfl rfl (by omega)) ?_ | refine Reg.pur rfl rfl rfl rfl (Pur.add64 rfl rfl (by assumption)) ?_ | refine Reg.pur rfl rfl rfl rfl (Pur.add rfl rfl) ?_
      refine Reg.pur rfl rfl rfl rfl (Pur.idx _ es53 rfl rfl (by omega) (by omega)) ?_
      refine Reg.pur rfl rfl rfl rfl (Pur.fld _ fo65_3 rfl) ?_
      refine Reg.op0 rfl rfl rfl (Does.st sc3 rfl rfl rfl hu3.own (by rw [List.length_set]; omega)) ?_
      rintro _ H4 hu4
      refine Reg.nil ?_
      have t4 := wr t3 N3 l3 hlt (j := 3) (by omega) (IntKind.i64.wrap (L[i].getD 3 0 + by'))
      refine At.region rfl rfl ?_
      first | refine Reg.pur rfl rfl rfl rfl (Pur.add64 rfl rfl (by omega)) ?_ | refine Reg.pur rfl rfl rfl rfl (Pur.add64 rfl rfl (by assumption)) ?_ | refine Reg.pur rfl rfl rfl rfl (Pur.add rfl rfl) ?_
      refine Reg.pur rfl rfl rfl rfl (Pur.mv rfl) ?_
      refine Reg.nil ?_
      first | (rw [g3, List.set_set, show (L[i].set 2 (IntKind.i64.wrap (L[i].getD 2 0 + by'))).set 3 (IntKind.i64.wrap (L[i].getD 3 0 + by')) = movS by' L[i] by unfold movS; rw [if_pos (of_decide_eq_true hb2)], hms] at t4; exact At.via (ih (i + 1, _) H4 ⟨by omega, (hE.upd hu3 hgH).upd hu4 hgH, .inr ⟨hgH, rfl, hu4.own, t4⟩⟩ (by simp only; omega)) ⟨rfl, rfl, rfl, rfl, trivial⟩) | (rw [← mid_same by' hlt (by unfold movS; rw [if_neg (of_decide_eq_false hb2)])] at htk; exact At.via (ih (i + 1, c) _ ⟨by omega, hE, .inr ⟨hgH, rfl, hO, htk⟩⟩ (by simp only; omega)) ⟨rfl, rfl, rfl, rfl, trivial⟩)
    refine At.region rfl rfl ?_
    first | refine Reg.pur rfl rfl rfl rfl (Pur.add64 rfl rfl (by omega)) ?_ | refine Reg.pur rfl rfl rfl rfl (Pur.add64 rfl rfl (by assumption)) ?_ | refine Reg.pur rfl rfl rfl rfl (Pur.add rfl rfl) ?_
    refine Reg.pur rfl rfl rfl rfl (Pur.mv rfl) ?_
    refine Reg.nil ?_
    first | (rw [g3, List.set_set, show (L[i].set 2 (IntKind.i64.wrap (L[i].getD 2 0 + by'))).set 3 (IntKind.i64.wrap (L[i].getD 3 0 + by')) = movS by' L[i] by unfold movS; rw [if_pos (of_decide_eq_true hb2)], hms] at t4; exact At.via (ih (i + 1, _) H4 ⟨by omega, (hE.upd hu3 hgH).upd hu4 hgH, .inr ⟨hgH, rfl, hu4.own, t4⟩⟩ (by simp only; omega)) ⟨rfl, rfl, rfl, rfl, trivial⟩) | (rw [← mid_same by' hlt (by unfold movS; rw [if_neg (of_decide_eq_false hb2)])] at htk; exact At.via (ih (i + 1, c) _ ⟨by omega, hE, .inr ⟨hgH, rfl, hO, htk⟩⟩ (by simp only; omega)) ⟨rfl, rfl, rfl, rfl, trivial⟩)
  refine At.region rfl rfl ?_
  refine Reg.pur rfl rfl rfl rfl (Pur.mv rfl) ?_
  refine Reg.pur rfl rfl rfl rfl (Pur.asg rfl) ?_
  refine Reg.nil ?_
  refine At.ret rfl Tryd.func92 rfl ?_
  simp only [decide_eq_false_iff_not] at hb1
  refine ⟨⟨A', cap', rfl, hI.imp id (fun ⟨h1, h2, _⟩ => ⟨g, h1, h2⟩)⟩, ?_, hE⟩
  rcases hI with h0 | ⟨h1, rfl, hO, htk⟩
  · obtain rfl : L = [] := List.length_eq_zero_iff.1 h0
    exact ⟨A', cap', rfl, by simp, hc2, hc3, .inl rfl⟩
  · rw [mid_all by' L (by omega)] at htk
    have := sl_of (L := L.map (movS by')) (o := 0) (wide9 (nine_mov hL)) (by decide) hO.blk (by rw [List.drop_zero, List.length_map]; exact htk) (by rw [List.length_map]; exact hc1) hc2
    rw [List.length_map] at this
    exact this
end Go.Proofs.YtlfillhffpiffaaDoor

namespace Go.Proofs.YtlfillhffpiffaaDoor
set_option linter.unusedSimpArgs false
set_option linter.unusedVariables false
set_option maxRecDepth 8000
open Go Go.Fx Go.Proofs
namespace FactsSubG
theorem ag55 : ag Tryd.prog 55 = some 1 := by kernel_rfl
theorem ag65 : ag Tryd.prog 65 = some 9 := by kernel_rfl
theorem apt53 : appT Tryd.prog 53 = some (65, 9, 72) := by kernel_rfl
theorem eqt65 : eqT Tryd.prog 65 = some [.int .i64, .int .i64, .int .i64, .int .i64, .int .i64, .int .i64, .int .i64, .int .i64, .int .i64] := by kernel_rfl
theorem es53 : esz Tryd.prog 53 = some 9 := by kernel_rfl
theorem fo55_0 : foff Tryd.prog 55 0 = some 0 := by kernel_rfl
theorem isl53 : isSl Tryd.prog 53 = true := by kernel_rfl
theorem mixed : Tryd.prog.follows .mixedOrders = true := by kernel_rfl
theorem pl55 : places Tryd.prog 55 = some [(0, 1)] := by kernel_rfl
theorem sc53 : sc Tryd.prog 53 = true := by kernel_rfl
theorem slA53 : slA Tryd.prog 53 = some (65, 9) := by kernel_rfl
theorem zc55 : zc Tryd.prog 55 = some [.slice none 0 0] := by kernel_rfl
end FactsSubG
open FactsSubG

theorem copyN_ok {A : Option Addr} {cap : Nat} {L : List (List Int)} (hL : Nine L) {H : Heap} (hS : SlT H Is 9 (.slice A L.length cap) L) (hb : L.length * 72 ≤ 140737488351232) :
    Ret Tryd.prog 58 [.slice A L.length cap] H (fun v H' => OwnS H' H.size 65 9 v L.length (L.flatMap Is) ∧ Ext H H') := by
  refine Ret.of_at (N := 6) Tryd.call58 Tryd.func58 rfl rfl rfl ?_
  refine At.region rfl rfl ?_
  refine Reg.pur rfl rfl rfl rfl (Pur.asg rfl) ?_
  refine Reg.nil ?_
  refine At.region rfl rfl ?_
  refine Reg.op rfl rfl rfl rfl (Does.bslA ([]) slA53 rfl rfl rfl rfl rfl rfl) ?_
  rintro _ H1 ⟨rfl, rfl⟩
  refine Reg.pur rfl rfl rfl rfl (Pur.mv rfl) ?_
  refine Reg.op rfl rfl rfl rfl (Does.app apt53 rfl rfl (OwnS.new (xs := []) (n := 0) (H := H) (B := H.size) rfl (by decide) (Nat.le_refl _)) (sl_src (wide9 hL) (hS.ext New.of_push.ext)) (ones_flat L) (by rw [show maxLen = 9223372036854775807 from rfl]; omega) (by omega) (by simp)) ?_
  rintro v H2 ⟨ho, hbut, _, _⟩
  refine Reg.pur rfl rfl rfl rfl (Pur.asg rfl) ?_
  refine Reg.nil ?_
  refine At.ret rfl Tryd.func58 rfl ?_
  refine ⟨by simpa using ho, ?_⟩
  exact (New.of_push (xs := []).ext).trBut hbut (fun b hb h => by simp only [Value.ownBlock, Option.some.injEq] at h; omega)

theorem own_slice {H : Heap} {B : Nat} {ty : TypeId} {v : Value} {n s : Nat} {xs : List Value} (h : OwnS H B ty s v n xs) : ∃ A cap, v = .slice A n cap ∧ (∀ g, v.ownBlock = some g → B ≤ g) := by
  obtain ⟨_, ⟨rfl, rfl⟩ | ⟨g, cap, cur, rfl, h2, _⟩⟩ := h
  · exact ⟨none, 0, rfl, fun g h => by cases h⟩
  · exact ⟨_, _, rfl, fun g' h => by simp only [Value.ownBlock, Option.some.injEq] at h; omega⟩

theorem copyType_ok {A : Option Addr} {cap : Nat} {L : List (List Int)} (hL : Nine L) {H : Heap} (hS : SlT H Is 9 (.slice A L.length cap) L) (hb : L.length * 72 ≤ 140737488351232) :
    Ret Tryd.prog 32 [Ty A L.length cap] H (fun v H' => ∃ A' cap', v = Ty A' L.length cap' ∧ OwnS H' H.size 65 9 (.slice A' L.length cap') L.length (L.flatMap Is) ∧ Ext H H') := by
  refine Ret.of_at (N := 7) Tryd.call32 Tryd.func32 rfl rfl rfl ?_
  refine At.region rfl rfl ?_
  refine Reg.op rfl rfl rfl rfl (Does.box rfl rfl) ?_
  rintro _ H1 ⟨rfl, hn1⟩
  refine Reg.op rfl rfl rfl rfl (Does.alloc zc55) ?_
  rintro _ H2 ⟨rfl, hn2⟩
  refine Reg.nil ?_
  have hlt := hn1.own.lt
  have hlt2 := hn1.ext.1
  have hE2 := hn1.ext.trans hn2.ext
  refine At.region rfl rfl ?_
  refine Reg.pur rfl rfl rfl rfl (Pur.fld _ fo55_0 rfl) ?_
  refine Reg.lod rfl rfl rfl rfl (Lod.ld sc53 rfl ((hn1.own.ext hn2.ext).blk) rfl) ?_
  refine Reg.op rfl rfl rfl rfl (Does.call rfl (copyN_ok hL (hS.ext hE2) hb)) ?_
  rintro v H3 ⟨ho, hE3⟩
  obtain ⟨A', cap', rfl, hB⟩ := own_slice ho
  refine Reg.pur rfl rfl rfl rfl (Pur.bld (cs := [_]) pl55 zc55 rfl rfl ⟨rfl, rfl⟩) ?_
  refine Reg.op0 rfl rfl rfl (Does.stn ag55 rfl rfl rfl rfl (hn2.own.ext hE3) (by decide)) ?_
  rintro _ H4 hu4
  refine Reg.nil ?_
  have hR : Own H4 H1.size [.slice A' L.length cap'] := hu4.own
  have hRl : ([.slice A' L.length cap'] : List Value).length = 1 := rfl
  have hs2 := hn2.own.lt
  refine At.retC rfl Tryd.func32 ⟨_, _, _, _, rfl, rfl, ⟨_, hR.blk, .inr ⟨_, _, ag55, (whole hRl), hRl, rfl⟩⟩, rfl⟩ ?_
  refine ⟨A', cap', rfl, (ho.mono (by have := hE2.1; omega)).but hu4.but (fun g hg he => by have := hB g hg; omega), (hE2.trans hE3).upd hu4 (by omega)⟩

end Go.Proofs.YtlfillhffpiffaaDoor

namespace Go.Proofs.YtlfillhffpiffaaDoor
set_option linter.unusedSimpArgs false
set_option linter.unusedVariables false
set_option maxRecDepth 8000
open Go Go.Fx Go.Proofs
namespace FactsSubH
theorem es53 : esz Tryd.prog 53 = some 9 := by kernel_rfl
theorem fo55_0 : foff Tryd.prog 55 0 = some 0 := by kernel_rfl
theorem fo65_1 : foff Tryd.prog 65 1 = some 1 := by kernel_rfl
theorem isl53 : isSl Tryd.prog 53 = true := by kernel_rfl
theorem sc3 : sc Tryd.prog 3 = true := by kernel_rfl
theorem sc53 : sc Tryd.prog 53 = true := by kernel_rfl
end FactsSubH
open FactsSubH

end Go.Proofs.YtlfillhffpiffaaDoor

namespace Go.Proofs.YtlfillhffpiffaaDoor
set_option linter.unusedSimpArgs false
set_option linter.unusedVariables false
set_option maxRecDepth 8000
open Go Go.Fx Go.Proofs
namespace FactsSchC
theorem apt50 : appT Tryd.prog 50 = some (3, 1, 8) := by kernel_rfl
theorem es50 : esz Tryd.prog 50 = some 1 := by kernel_rfl
theorem fo109_0 : foff Tryd.prog 109 0 = some 0 := by kernel_rfl
theorem fo109_1 : foff Tryd.prog 109 1 = some 1 := by kernel_rfl
theorem isl50 : isSl Tryd.prog 50 = true := by kernel_rfl
theorem sc3 : sc Tryd.prog 3 = true := by kernel_rfl
theorem sc50 : sc Tryd.prog 50 = true := by kernel_rfl
theorem sl1_50 : Go.Fx.sl1 Tryd.prog 50 = true := by kernel_rfl
end FactsSchC
open FactsSchC

def addL (T : List Int) (v : Int) : List Int := if inL T v then T else T ++ [v]
theorem addL_len (T : List Int) (v : Int) : (addL T v).length ≤ T.length + 1 := by unfold addL; split <;> simp
structure Nm (H : Heap) (nb B : Nat) (A1 : Option Addr) (c1 : Nat) (T : List Int) (A2 : Option Addr) (c2 : Nat) (R : List Int) : Prop where
  own : Own H nb [.slice A1 T.length c1, .slice A2 R.length c2]
  g1 : Gs H B 3 1 A1 c1 T.length (T.flatMap e1)
  g2 : Gs H B 3 1 A2 c2 R.length (R.flatMap e1)
  d1 : ob A1 = -1 ∨ ob A1 ≠ ob A2
  d2 : ob A1 ≠ nb
  d3 : ob A2 ≠ nb
  lo : B ≤ H.size
def Mod (nb : Nat) (A1 A2 A1' A2' : Option Addr) (H H' : Heap) : Prop :=
  But (fun g => g = nb ∨ (g : Int) = ob A1 ∨ (g : Int) = ob A2) H H' ∧ (ob A1' = ob A1 ∨ (H.size : Int) ≤ ob A1') ∧ (ob A2' = ob A2 ∨ (H.size : Int) ≤ ob A2')
theorem Mod.refl (nb : Nat) (A1 A2 : Option Addr) (H : Heap) : Mod nb A1 A2 A1 A2 H H := ⟨But.refl _ _, .inl rfl, .inl rfl⟩
theorem Mod.trans {nb : Nat} {A1 A2 B1 B2 C1 C2 : Option Addr} {H H' H'' : Heap} (h : Mod nb A1 A2 B1 B2 H H') (k : Mod nb B1 B2 C1 C2 H' H'') : Mod nb A1 A2 C1 C2 H H'' := by
  obtain ⟨h1, h2, h3⟩ := h
  obtain ⟨k1, k2, k3⟩ := k
  have hs := h1.1
  refine ⟨⟨Nat.le_trans h1.1 k1.1, fun b hb hS => ?_⟩, by omega, by omega⟩
  rw [k1.2 b (by omega) (fun hk => hS (by dsimp only at hk ⊢; omega)), h1.2 b hb hS]
theorem Mod.ext {nb : Nat} {A1 A2 B1 B2 : Option Addr} {H H' H'' : Heap} (h : Mod nb A1 A2 B1 B2 H H') (k : Ext H' H'') : Mod nb A1 A2 B1 B2 H H'' :=
  ⟨h.1.trans k.but, h.2⟩
theorem Nm.ext {H H' : Heap} {nb B : Nat} {A1 A2 : Option Addr} {c1 c2 : Nat} {T R : List Int} (h : Nm H nb B A1 c1 T A2 c2 R) (he : Ext H H') : Nm H' nb B A1 c1 T A2 c2 R :=
  ⟨h.own.ext he, h.g1.ext he, h.g2.ext he, h.d1, h.d2, h.d3, Nat.le_trans h.lo he.1⟩

theorem set_same {α : Type} {cs : List α} {o : Nat} {v : α} (hc : cs[o]? = some v) : cs.set o v = cs := by
  apply List.ext_getElem?
  intro j
  by_cases h : o = j
  · subst h
    have : o < cs.length := by
      rcases Nat.lt_or_ge o cs.length with h | h
      · exact h
      · rw [List.getElem?_eq_none h] at hc; cases hc
    rw [List.getElem?_set_self this, hc]
  · rw [List.getElem?_set_ne h]
theorem name_ok {nb o B cap : Nat} {A : Option Addr} {cs : List Value} (T : List Int) (v : Int) {H : Heap} (ho : Own H nb cs) (hc : cs[o]? = some (.slice A T.length cap)) (hg : Gs H B 3 1 A cap T.length (T.flatMap e1)) (hd : ob A ≠ nb) (hB : B ≤ H.size) (hm : T.length ≤ 1000000) :
    Ret Tryd.prog 104 [ptr nb o, I v] H (fun r H' => ∃ A' cap', r = I (ixL T v) ∧ Own H' nb (cs.set o (.slice A' (addL T v).length cap')) ∧ Gs H' B 3 1 A' cap' (addL T v).length ((addL T v).flatMap e1) ∧ But (fun g => g = nb ∨ (g : Int) = ob A) H H' ∧ (ob A' = ob A ∨ (H.size : Int) ≤ ob A')) := by
  have hol : o < cs.length := by
    rcases Nat.lt_or_ge o cs.length with h | h
    · exact h
    · rw [List.getElem?_eq_none h] at hc; cases hc
  refine Ret.of_at (N := 26) Tryd.call104 Tryd.func104 rfl rfl rfl ?_
  have hE := Ext.refl H
  have z_ho := ho.lt
  have z_hg := hg.lt
  refine At.region rfl rfl ?_
  refine Reg.pur rfl rfl rfl rfl (Pur.asg rfl) ?_
  refine Reg.nil ?_
  refine At.region rfl rfl ?_
  refine Reg.pur rfl rfl rfl rfl (Pur.mv rfl) ?_
  refine Reg.pur rfl rfl rfl rfl (Pur.nilc rfl) ?_
  refine Reg.lod rfl rfl rfl rfl (Lod.ld sc50 rfl ho.blk hc) ?_
  refine Reg.pur rfl rfl rfl rfl (Pur.mv rfl) ?_
  refine Reg.op rfl rfl rfl rfl (Does.call rfl (index_ok T (own_sl (wide1 T) (by decide) hg) (by omega) v)) ?_
  rintro _ H ⟨rfl, rfl⟩
  refine Reg.pur rfl rfl rfl rfl (Pur.asg rfl) ?_
  refine Reg.nil ?_
  refine At.region rfl rfl ?_
  refine Reg.pur rfl rfl rfl rfl (Pur.mv rfl) ?_
  refine Reg.pur rfl rfl rfl rfl (Pur.lss rfl rfl) ?_
  refine Reg.nil ?_
  refine At.cond rfl rfl (fun q12 => ?_) (fun q12 => ?_)
  · first | (simp only [decide_eq_true_eq, decide_eq_false_iff_not, Bool.not_eq_true', Bool.not_eq_false', ne_eq, Decidable.not_not, Bool.not_eq_true, Bool.not_eq_false] at q12) | (dsimp only at q12) | skip
    have hni : inL T v = false := by { cases h : inL T v with | false => rfl | true => rw [h] at q12; simp at q12; omega }
    have hix : ixL T v = T.length := by { have := ixL_le T v; simp [inL] at hni; omega }
    have had : addL T v = T ++ [v] := by unfold addL; rw [hni]; rfl
    refine At.region rfl rfl ?_
    refine Reg.pur rfl rfl rfl rfl (Pur.mv rfl) ?_
    refine Reg.pur rfl rfl rfl rfl (Pur.nilc rfl) ?_
    refine Reg.lod rfl rfl rfl rfl (Lod.ld sc50 rfl ho.blk hc) ?_
    refine Reg.pur rfl rfl rfl rfl (Pur.lenS isl50 rfl) ?_
    refine Reg.pur rfl rfl rfl rfl (Pur.asg rfl) ?_
    refine Reg.nil ?_
    refine At.region rfl rfl ?_
    refine Reg.pur rfl rfl rfl rfl (Pur.mv rfl) ?_
    refine Reg.pur rfl rfl rfl rfl (Pur.mv rfl) ?_
    refine Reg.pur rfl rfl rfl rfl (Pur.nilc rfl) ?_
    refine Reg.lod rfl rfl rfl rfl (Lod.ld sc50 rfl ho.blk hc) ?_
    refine Reg.pur rfl rfl rfl rfl (Pur.mv rfl) ?_
    refine Reg.op rfl rfl rfl rfl (Does.bsl1T sl1_50 Tryd.underlying50 rfl rfl rfl rfl rfl) ?_
    rintro _ H4_5 ⟨rfl, hp4_5⟩
    have hn4_5 := New.of_eq hp4_5
    have z4_5 := hn4_5.size
    replace ho := ho.ext hn4_5.ext
    replace hg := hg.ext hn4_5.ext
    have o4_5 := hn4_5.own
    refine Reg.op rfl rfl rfl rfl (Does.appL apt50 rfl rfl (by decide) hg (wide1 _) (sl_new (L := [v]) (wide1 _) (by decide) hn4_5 (by simp)) (ones_e1 _) (by simp; omega) (by omega)) ?_
    rintro _ H4_6 ⟨A4_6, cap4_6, rfl, g4_6, hbut4_6, ha4_6⟩
    have z4_6 := hbut4_6.lt
    replace ho := ho.via hbut4_6 (by first | omega | (intro g; omega) | (intro g hg; omega) | (intro g hg h; omega))
    replace o4_5 := o4_5.via hbut4_6 (by first | omega | (intro g; omega) | (intro g hg; omega) | (intro g hg h; omega))
    replace hg := g4_6
    have zg4_6 := g4_6.lt
    refine Reg.pur rfl rfl rfl rfl (Pur.nilc rfl) ?_
    refine Reg.op0 rfl rfl rfl (Does.st sc50 rfl rfl rfl ho hol) ?_
    rintro _ H4_8 hu4_8
    have z4_8 := hu4_8.size
    replace hg := hg.upw hu4_8 (by omega)
    replace o4_5 := o4_5.upw hu4_8 (by omega)
    replace ho := hu4_8.own
    refine Reg.nil ?_
    refine At.region rfl rfl ?_
    refine Reg.pur rfl rfl rfl rfl (Pur.mv rfl) ?_
    refine Reg.pur rfl rfl rfl rfl (Pur.asg rfl) ?_
    refine Reg.nil ?_
    refine At.ret rfl Tryd.func104 rfl ?_
    rw [← had] at hg ho
    refine ⟨A4_6, cap4_6, ?_, ho, hg, (hn4_5.ext.but (S := fun g => g = nb ∨ (g : Int) = ob A)).trans ((hbut4_6.mono (fun b hb h => Or.inr h)).trans (hu4_8.but.mono (fun b hb h => Or.inl h))), by omega⟩
    rw [hix]
  first | (simp only [decide_eq_true_eq, decide_eq_false_iff_not, Bool.not_eq_true', Bool.not_eq_false', ne_eq, Decidable.not_not, Bool.not_eq_true, Bool.not_eq_false] at q12) | (dsimp only at q12) | skip
  refine At.region rfl rfl ?_
  refine Reg.pur rfl rfl rfl rfl (Pur.mv rfl) ?_
  refine Reg.pur rfl rfl rfl rfl (Pur.asg rfl) ?_
  refine Reg.nil ?_
  refine At.ret rfl Tryd.func104 rfl ?_
  have hin : inL T v = true := by { cases h : inL T v with | true => rfl | false => exact absurd (by rw [h]; simp) q12 }
  have had : addL T v = T := by unfold addL; rw [hin]; rfl
  rw [had]
  exact ⟨A, cap, by rw [hin]; rfl, ho.of (set_same hc).symm, hg, But.refl _ _, .inl rfl⟩

theorem nm_Type {nb B c1 c2 : Nat} {A1 A2 : Option Addr} {T R : List Int} (v : Int) {H : Heap} (h : Nm H nb B A1 c1 T A2 c2 R) (hm : T.length ≤ 1000000) :
    Ret Tryd.prog 84 [ptr nb 0, I v] H (fun r H' => r = I (ixL T v) ∧ ∃ A1' c1', Nm H' nb B A1' c1' (addL T v) A2 c2 R ∧ Mod nb A1 A2 A1' A2 H H') := by
  obtain ⟨ho, hg1, hg2, hd1, hd2, hd3, hlo⟩ := h
  have z1 := hg1.lt
  have z2 := hg2.lt
  have hnb := ho.lt
  refine Ret.of_at (N := 10) Tryd.call84 Tryd.func84 rfl rfl rfl ?_
  have hE := Ext.refl H

  refine At.region rfl rfl ?_
  refine Reg.pur rfl rfl rfl rfl (Pur.asg rfl) ?_
  refine Reg.nil ?_
  refine At.region rfl rfl ?_
  refine Reg.pur rfl rfl rfl rfl (Pur.mv rfl) ?_
  refine Reg.pur rfl rfl rfl rfl (Pur.nilc rfl) ?_
  refine Reg.pur rfl rfl rfl rfl (Pur.fld _ fo109_0 rfl) ?_
  refine Reg.pur rfl rfl rfl rfl (Pur.mv rfl) ?_
  refine Reg.op rfl rfl rfl rfl (Does.call rfl (name_ok T v ho rfl hg1 hd2 hlo hm)) ?_
  rintro _ H1_4 ⟨A', cap', rfl, ho1_4, hg1_4, hbut1_4, ha1_4⟩
  have z1_4 := hbut1_4.lt
  refine Reg.pur rfl rfl rfl rfl (Pur.asg rfl) ?_
  refine Reg.nil ?_
  refine At.ret rfl Tryd.func84 rfl ?_
  refine ⟨rfl, A', cap', ⟨ho1_4, hg1_4, hg2.via hbut1_4 (fun g hg h => by omega), by omega, by omega, hd3, by have := hbut1_4.lt; omega⟩, ⟨hbut1_4.mono (fun b hb h => by omega), ha1_4, .inl rfl⟩⟩
theorem nm_Row {nb B c1 c2 : Nat} {A1 A2 : Option Addr} {T R : List Int} (v : Int) {H : Heap} (h : Nm H nb B A1 c1 T A2 c2 R) (hm : R.length ≤ 1000000) :
    Ret Tryd.prog 86 [ptr nb 0, I v] H (fun r H' => r = I (ixL R v) ∧ ∃ A2' c2', Nm H' nb B A1 c1 T A2' c2' (addL R v) ∧ Mod nb A1 A2 A1 A2' H H') := by
  obtain ⟨ho, hg1, hg2, hd1, hd2, hd3, hlo⟩ := h
  have z1 := hg1.lt
  have z2 := hg2.lt
  have hnb := ho.lt
  refine Ret.of_at (N := 10) Tryd.call86 Tryd.func86 rfl rfl rfl ?_
  have hE := Ext.refl H

  refine At.region rfl rfl ?_
  refine Reg.pur rfl rfl rfl rfl (Pur.asg rfl) ?_
  refine Reg.nil ?_
  refine At.region rfl rfl ?_
  refine Reg.pur rfl rfl rfl rfl (Pur.mv rfl) ?_
  refine Reg.pur rfl rfl rfl rfl (Pur.nilc rfl) ?_
  refine Reg.pur rfl rfl rfl rfl (Pur.fld _ fo109_1 rfl) ?_
  refine Reg.pur rfl rfl rfl rfl (Pur.mv rfl) ?_
  refine Reg.op rfl rfl rfl rfl (Does.call rfl (name_ok R v ho rfl hg2 hd3 hlo hm)) ?_
  rintro _ H1_4 ⟨A', cap', rfl, ho1_4, hg1_4, hbut1_4, ha1_4⟩
  have z1_4 := hbut1_4.lt
  refine Reg.pur rfl rfl rfl rfl (Pur.asg rfl) ?_
  refine Reg.nil ?_
  refine At.ret rfl Tryd.func86 rfl ?_
  refine ⟨rfl, A', cap', ⟨ho1_4, hg1.via hbut1_4 (fun g hg h => by omega), hg1_4, by omega, hd2, by omega, by have := hbut1_4.lt; omega⟩, ⟨hbut1_4.mono (fun b hb h => by omega), .inl rfl, ha1_4⟩⟩

end Go.Proofs.YtlfillhffpiffaaDoor

namespace Go.Proofs.YtlfillhffpiffaaDoor
set_option linter.unusedSimpArgs false
set_option linter.unusedVariables false
set_option maxRecDepth 8000
open Go Go.Fx Go.Proofs
namespace FactsSchD
theorem fo24_1 : foff Tryd.prog 24 1 = some 4 := by kernel_rfl
theorem fo65_0 : foff Tryd.prog 65 0 = some 0 := by kernel_rfl
theorem fo65_1 : foff Tryd.prog 65 1 = some 1 := by kernel_rfl
theorem fo65_4 : foff Tryd.prog 65 4 = some 4 := by kernel_rfl
theorem mixed : Tryd.prog.follows .mixedOrders = true := by kernel_rfl
theorem sc108 : sc Tryd.prog 108 = true := by kernel_rfl
theorem sc3 : sc Tryd.prog 3 = true := by kernel_rfl
end FactsSchD
open FactsSchD

abbrev Nms := List Int × List Int
def see (n : Nms) (x : List Int) : Nms := if x.getD 0 0 = 2 then (addL n.1 (x.getD 1 0), n.2) else if x.getD 0 0 = 3 ∧ x.getD 8 0 ≠ -1 then (n.1, addL n.2 (x.getD 8 0)) else n
def ord (L : List (List Int)) : Nat → Int → List (List Int)
  | 0, _ => []
  | f + 1, z => if (el L z).getD 0 0 ≠ 3 then [el L z] else ord L f ((el L z).getD 2 0) ++ el L z :: ord L f ((el L z).getD 3 0)
theorem ord_succ (L : List (List Int)) (f : Nat) (z : Int) : ord L (f + 1) z = if (el L z).getD 0 0 ≠ 3 then [el L z] else ord L f ((el L z).getD 2 0) ++ el L z :: ord L f ((el L z).getD 3 0) := rfl
def nms (n : Nms) (l : List (List Int)) : Nms := l.foldl see n
theorem see_len (n : Nms) (x : List Int) : (see n x).1.length + (see n x).2.length ≤ n.1.length + n.2.length + 1 := by
  have h1 := addL_len n.1 (x.getD 1 0)
  have h2 := addL_len n.2 (x.getD 8 0)
  unfold see; split
  · dsimp only; omega
  · split
    · dsimp only; omega
    · omega
theorem nms_len : ∀ (l : List (List Int)) (n : Nms), (nms n l).1.length + (nms n l).2.length ≤ n.1.length + n.2.length + l.length
  | [], n => by simp [nms]
  | x :: l, n => by
    have h1 := see_len n x
    have h2 := nms_len l (see n x)
    simp only [nms, List.foldl_cons, List.length_cons] at h2 ⊢
    omega
theorem nms_app (n : Nms) (l m : List (List Int)) : nms n (l ++ m) = nms (nms n l) m := List.foldl_append
theorem nms_cons (n : Nms) (x : List Int) (l : List (List Int)) : nms n (x :: l) = nms (see n x) l := rfl
theorem ord_len (L : List (List Int)) : ∀ (f : Nat) (z : Int), 0 ≤ z → 0 ≤ bgn L f z → ((ord L f z).length : Int) = z - bgn L f z + 1
  | 0, z, h0, h => by simp only [bgn] at h; omega
  | f + 1, z, h0, h => by
    rw [bgn_succ] at h ⊢
    rw [ord_succ]
    by_cases hk : (el L z).getD 0 0 ≠ 3
    · rw [if_pos hk, if_pos hk]; simp
    · rw [if_neg hk] at h
      rw [if_neg hk, if_neg hk]
      by_cases hb : z = 0 ∨ (el L z).getD 3 0 ≠ z - 1
      · rw [if_pos hb] at h; omega
      · rw [if_neg hb] at h ⊢
        by_cases hc : bgn L f ((el L z).getD 3 0) < 1 ∨ (el L z).getD 2 0 ≠ bgn L f ((el L z).getD 3 0) - 1
        · rw [if_pos hc] at h; omega
        · rw [if_neg hc] at h ⊢
          have e1 := ord_len L f ((el L z).getD 3 0) (by omega) (by omega)
          have e2 := ord_len L f ((el L z).getD 2 0) (by omega) h
          rw [List.length_append, List.length_cons]
          omega
theorem bgn_fun {L : List (List Int)} {f : Nat} {z : Int} (h : 0 ≤ bgn L (f + 1) z) (hk : (el L z).getD 0 0 = 3) :
    z ≠ 0 ∧ (el L z).getD 3 0 = z - 1 ∧ 1 ≤ bgn L f ((el L z).getD 3 0) ∧ (el L z).getD 2 0 = bgn L f ((el L z).getD 3 0) - 1 ∧ 0 ≤ bgn L f ((el L z).getD 2 0) := by
  rw [bgn_succ, if_neg (by omega)] at h
  by_cases hb : z = 0 ∨ (el L z).getD 3 0 ≠ z - 1
  · rw [if_pos hb] at h; omega
  · rw [if_neg hb] at h
    by_cases hc : bgn L f ((el L z).getD 3 0) < 1 ∨ (el L z).getD 2 0 ≠ bgn L f ((el L z).getD 3 0) - 1
    · rw [if_pos hc] at h; omega
    · rw [if_neg hc] at h; omega

theorem see1_ok {xb xo tb nb B c1 c2 : Nat} {A1 A2 : Option Addr} {T R : List Int} {c : List Value} (x : List Int) {H : Heap} (hX : Blk H xb c) (hx : ∀ j, j < 9 → c[xo + j]? = some (I (x.getD j 0))) (hT : Blk H tb [ptr nb 0]) (h : Nm H nb B A1 c1 T A2 c2 R) (hm : T.length + R.length ≤ 1000000) :
    Ret Tryd.prog 89 [ptr xb xo, ptr tb 0] H (fun _ H' => ∃ A1' c1' A2' c2', Nm H' nb B A1' c1' (see (T, R) x).1 A2' c2' (see (T, R) x).2 ∧ Mod nb A1 A2 A1' A2' H H') := by
  refine Ret.of_at (N := 36) Tryd.call89 Tryd.func89 rfl rfl rfl ?_
  have hE := Ext.refl H

  refine At.region rfl rfl ?_
  refine Reg.pur rfl rfl rfl rfl (Pur.mv rfl) ?_
  refine Reg.pur rfl rfl rfl rfl (Pur.nilc rfl) ?_
  refine Reg.pur rfl rfl rfl rfl (Pur.fld _ fo65_0 rfl) ?_
  refine Reg.lod rfl rfl rfl rfl (Lod.ld sc3 rfl hX (hx 0 (by omega))) ?_
  refine Reg.pur rfl rfl rfl rfl (Pur.eql rfl rfl) ?_
  refine Reg.pur rfl rfl rfl rfl (Pur.asg rfl) ?_
  refine Reg.nil ?_
  refine At.cond rfl rfl (fun q3 => ?_) (fun q3 => ?_)
  · first | (simp only [decide_eq_true_eq, decide_eq_false_iff_not, Bool.not_eq_true', Bool.not_eq_false', ne_eq, Decidable.not_not, Bool.not_eq_true, Bool.not_eq_false] at q3) | (dsimp only at q3) | skip
    refine At.drawE ((Bks.cons hT.blk (Bks.cons hX.blk Bks.nil))) [5] mixed rfl rfl ?_
    refine RegD.take (i := 0) rfl rfl rfl rfl (by kernel_rfl) (Bks.cons hT.blk (Bks.cons hX.blk Bks.nil)) (fun H hS => Lod.ld sc108 rfl hS.hd rfl) ?_
    refine RegD.tpur (i := 1) rfl rfl rfl rfl (by kernel_rfl) (Pur.mv rfl) ?_
    refine RegD.tpur (i := 2) rfl rfl rfl rfl (by kernel_rfl) (Pur.nilc rfl) ?_
    refine RegD.tpur (i := 3) rfl rfl rfl rfl (by kernel_rfl) (Pur.fld _ fo65_1 rfl) ?_
    refine RegD.take (i := 4) rfl rfl rfl rfl (by kernel_rfl) (Bks.cons hT.blk (Bks.cons hX.blk Bks.nil)) (fun H hS => Lod.ld sc3 rfl hS.tl.hd (hx 1 (by omega))) ?_
    skip
    refine RegD.one (i := 5) (by kernel_rfl) rfl rfl rfl rfl (Does.call rfl (nm_Type _ h (by omega))) ?_
    rintro _ H1_5 ⟨rfl, A1', c1', hN1_5, hM1_5⟩
    refine ⟨fun h => (by cases h), ?_⟩
    refine RegD.done (by kernel_rfl) ?_
    refine At.fall rfl Tryd.func89 rfl ?_
    have hs : see (T, R) x = (addL T (x.getD 1 0), R) := by unfold see; rw [if_pos q3]
    rw [hs]; exact ⟨A1', c1', A2, c2, hN1_5, hM1_5⟩
  first | (simp only [decide_eq_true_eq, decide_eq_false_iff_not, Bool.not_eq_true', Bool.not_eq_false', ne_eq, Decidable.not_not, Bool.not_eq_true, Bool.not_eq_false] at q3) | (dsimp only at q3) | skip
  refine At.region rfl rfl ?_
  refine Reg.pur rfl rfl rfl rfl (Pur.mv rfl) ?_
  refine Reg.pur rfl rfl rfl rfl (Pur.nilc rfl) ?_
  refine Reg.pur rfl rfl rfl rfl (Pur.fld _ fo65_0 rfl) ?_
  refine Reg.lod rfl rfl rfl rfl (Lod.ld sc3 rfl hX (hx 0 (by omega))) ?_
  refine Reg.pur rfl rfl rfl rfl (Pur.eql rfl rfl) ?_
  refine Reg.pur rfl rfl rfl rfl (Pur.mv rfl) ?_
  refine Reg.case 21 rfl (fun q21 => ?_) (fun q21 => ?_)
  · first | (simp only [decide_eq_true_eq, decide_eq_false_iff_not, Bool.not_eq_true', Bool.not_eq_false', ne_eq, Decidable.not_not, Bool.not_eq_true, Bool.not_eq_false] at q21) | (dsimp only at q21) | skip
    refine Reg.gpur rfl rfl rfl rfl rfl rfl (Pur.mv rfl) ?_
    refine Reg.gpur rfl rfl rfl rfl rfl rfl (Pur.nilc rfl) ?_
    refine Reg.gpur rfl rfl rfl rfl rfl rfl (Pur.fld _ fo65_4 rfl) ?_
    refine Reg.gpur rfl rfl rfl rfl rfl rfl (Pur.fld _ fo24_1 rfl) ?_
    refine Reg.glod rfl rfl rfl rfl rfl rfl (Lod.ld sc3 rfl hX (by rw [show xo + 4 + 4 = xo + 8 by omega]; exact hx 8 (by omega))) ?_
    refine Reg.gpur rfl rfl rfl rfl rfl rfl (Pur.neq rfl rfl) ?_
    refine Reg.pur rfl rfl rfl rfl (Pur.pickT rfl rfl) ?_
    refine Reg.pur rfl rfl rfl rfl (Pur.asg rfl) ?_
    refine Reg.nil ?_
    refine At.cond rfl rfl (fun q15 => ?_) (fun q15 => ?_)
    · first | (simp only [decide_eq_true_eq, decide_eq_false_iff_not, Bool.not_eq_true', Bool.not_eq_false', ne_eq, Decidable.not_not, Bool.not_eq_true, Bool.not_eq_false] at q15) | (dsimp only at q15) | skip
      refine At.drawE ((Bks.cons hT.blk (Bks.cons hX.blk Bks.nil))) [6] mixed rfl rfl ?_
      refine RegD.take (i := 0) rfl rfl rfl rfl (by kernel_rfl) (Bks.cons hT.blk (Bks.cons hX.blk Bks.nil)) (fun H hS => Lod.ld sc108 rfl hS.hd rfl) ?_
      refine RegD.tpur (i := 1) rfl rfl rfl rfl (by kernel_rfl) (Pur.mv rfl) ?_
      refine RegD.tpur (i := 2) rfl rfl rfl rfl (by kernel_rfl) (Pur.nilc rfl) ?_
      refine RegD.tpur (i := 3) rfl rfl rfl rfl (by kernel_rfl) (Pur.fld _ fo65_4 rfl) ?_
      refine RegD.tpur (i := 4) rfl rfl rfl rfl (by kernel_rfl) (Pur.fld _ fo24_1 rfl) ?_
      refine RegD.take (i := 5) rfl rfl rfl rfl (by kernel_rfl) (Bks.cons hT.blk (Bks.cons hX.blk Bks.nil)) (fun H hS => Lod.ld sc3 rfl hS.tl.hd (by rw [show xo + 4 + 4 = xo + 8 by omega]; exact hx 8 (by omega))) ?_
      refine RegD.one (i := 6) (by kernel_rfl) rfl rfl rfl rfl (Does.call rfl (nm_Row _ h (by omega))) ?_
      rintro _ H3_6 ⟨rfl, A2', c2', hN3_6, hM3_6⟩
      refine ⟨fun h => (by cases h), ?_⟩
      refine RegD.done (by kernel_rfl) ?_
      refine At.fall rfl Tryd.func89 rfl ?_
      have hs : see (T, R) x = (T, addL R (x.getD 8 0)) := by unfold see; rw [if_neg q3, if_pos ⟨q21, q15⟩]
      rw [hs]; exact ⟨A1, c1, A2', c2', hN3_6, hM3_6⟩
    first | (simp only [decide_eq_true_eq, decide_eq_false_iff_not, Bool.not_eq_true', Bool.not_eq_false', ne_eq, Decidable.not_not, Bool.not_eq_true, Bool.not_eq_false] at q15) | (dsimp only at q15) | skip
    refine At.fall rfl Tryd.func89 rfl ?_
    have hs : see (T, R) x = (T, R) := by unfold see; rw [if_neg q3, if_neg (by simp_all)]
    rw [hs]; exact ⟨A1, c1, A2, c2, h, Mod.refl _ _ _ _⟩
  first | (simp only [decide_eq_true_eq, decide_eq_false_iff_not, Bool.not_eq_true', Bool.not_eq_false', ne_eq, Decidable.not_not, Bool.not_eq_true, Bool.not_eq_false] at q21) | (dsimp only at q21) | skip
  refine Reg.skip rfl rfl rfl rfl rfl rfl rfl ?_
  refine Reg.skip rfl rfl rfl rfl rfl rfl rfl ?_
  refine Reg.skip rfl rfl rfl rfl rfl rfl rfl ?_
  refine Reg.skip rfl rfl rfl rfl rfl rfl rfl ?_
  refine Reg.skip rfl rfl rfl rfl rfl rfl rfl ?_
  refine Reg.skip rfl rfl rfl rfl rfl rfl rfl ?_
  refine Reg.pur rfl rfl rfl rfl (Pur.pickF rfl rfl) ?_
  refine Reg.pur rfl rfl rfl rfl (Pur.asg rfl) ?_
  refine Reg.nil ?_
  refine At.condF rfl rfl rfl ?_
  refine At.fall rfl Tryd.func89 rfl ?_
  have hs : see (T, R) x = (T, R) := by unfold see; rw [if_neg q3, if_neg (by simp_all)]
  rw [hs]; exact ⟨A1, c1, A2, c2, h, Mod.refl _ _ _ _⟩
end Go.Proofs.YtlfillhffpiffaaDoor

namespace Go.Proofs.YtlfillhffpiffaaDoor
set_option linter.unusedSimpArgs false
set_option linter.unusedVariables false
set_option maxRecDepth 8000
open Go Go.Fx Go.Proofs
namespace FactsSchE
theorem es53 : esz Tryd.prog 53 = some 9 := by kernel_rfl
theorem fo55_0 : foff Tryd.prog 55 0 = some 0 := by kernel_rfl
theorem fo65_0 : foff Tryd.prog 65 0 = some 0 := by kernel_rfl
theorem fo65_2 : foff Tryd.prog 65 2 = some 2 := by kernel_rfl
theorem fo65_3 : foff Tryd.prog 65 3 = some 3 := by kernel_rfl
theorem isl53 : isSl Tryd.prog 53 = true := by kernel_rfl
theorem sc3 : sc Tryd.prog 3 = true := by kernel_rfl
theorem sc53 : sc Tryd.prog 53 = true := by kernel_rfl
end FactsSchE
open FactsSchE

abbrev seeF (tb : Nat) : Value := .func (.func 89) #[] #[ptr tb 0]
structure Off (nb : Nat) (A1 A2 : Option Addr) (b : Int) : Prop where
  h1 : b ≠ nb
  h2 : b ≠ ob A1
  h3 : b ≠ ob A2
theorem Off.not {nb : Nat} {A1 A2 : Option Addr} {b : Nat} (h : Off nb A1 A2 b) : ¬ (b = nb ∨ (b : Int) = ob A1 ∨ (b : Int) = ob A2) := by
  rintro (e | e | e)
  · exact h.h1 (by rw [e])
  · exact h.h2 e
  · exact h.h3 e
theorem Off.mod {nb : Nat} {A1 A2 A1' A2' : Option Addr} {b : Int} {H H' : Heap} (h : Off nb A1 A2 b) (hb : b < H.size) (hM : Mod nb A1 A2 A1' A2' H H') : Off nb A1' A2' b := by
  obtain ⟨_, h1, h2⟩ := hM
  obtain ⟨k1, k2, k3⟩ := h
  exact ⟨k1, by omega, by omega⟩
theorem walk_ok {L : List (List Int)} (hL : Nine L) {A : Option Addr} {cap yb yo tb nb B : Nat} {cy : List Value} (hcy : cy[yo]? = some (.slice A L.length cap)) (hm : L.length ≤ 9223372036854775807) : ∀ (f : Nat) (z : Int), 0 ≤ z → z < L.length → z.toNat < f → 0 ≤ bgn L f z →
    ∀ {H : Heap} {A1 A2 : Option Addr} {c1 c2 : Nat} {T R : List Int}, SlT H Is 9 (.slice A L.length cap) L → Blk H yb cy → Blk H tb [ptr nb 0] → Nm H nb B A1 c1 T A2 c2 R → T.length + R.length + (ord L f z).length ≤ 1000000 →
    Off nb A1 A2 yb → Off nb A1 A2 tb → Off nb A1 A2 (ob A) →
    Ret Tryd.prog 88 [ptr yb yo, I z, seeF tb] H (fun _ H' => ∃ A1' c1' A2' c2', Nm H' nb B A1' c1' (nms (T, R) (ord L f z)).1 A2' c2' (nms (T, R) (ord L f z)).2 ∧ Mod nb A1 A2 A1' A2' H H') := by
  intro f
  induction f with
  | zero => intro z _ _ h; omega
  | succ f ihf =>
  intro z hz0 hzl hzf hbg H A1 A2 c1 c2 T R hS hY hT hN hlen hoY hoT hoA
  obtain ⟨b, o, c, rfl, hB, hd, hx9, hat⟩ := el_cells hL hS hz0 hzl
  have hfin := ord_succ L f z
  have hfun := bgn_fun hbg
  have hnl := nms_len (ord L f ((el L z).getD 2 0)) (T, R)
  have hsl := see_len ((nms (T, R) (ord L f ((el L z).getD 2 0))).1, (nms (T, R) (ord L f ((el L z).getD 2 0))).2) (el L z)
  generalize el L z = x at hfin hfun hd hx9 hat hnl hsl
  have hob : ob (some ⟨b, o, none⟩) = b := ob_some b o
  rw [hob] at hoA
  have zY := Int.ofNat_lt.2 hY.lt
  have zT := Int.ofNat_lt.2 hT.lt
  have zB := Int.ofNat_lt.2 hB.lt
  refine Ret.of_at (N := 38) Tryd.call88 Tryd.func88 rfl rfl rfl ?_
  have hE := Ext.refl H

  refine At.region rfl rfl ?_
  refine Reg.pur rfl rfl rfl rfl (Pur.mv rfl) ?_
  refine Reg.pur rfl rfl rfl rfl (Pur.nilc rfl) ?_
  refine Reg.pur rfl rfl rfl rfl (Pur.fld _ fo55_0 rfl) ?_
  refine Reg.lod rfl rfl rfl rfl (Lod.ld sc53 rfl hY hcy) ?_
  refine Reg.pur rfl rfl rfl rfl (Pur.mv rfl) ?_
  refine Reg.pur rfl rfl rfl rfl (Pur.idx _ es53 rfl rfl (by omega) (by omega)) ?_
  refine Reg.pur rfl rfl rfl rfl (Pur.asg rfl) ?_
  refine Reg.nil ?_
  refine At.region rfl rfl ?_
  refine Reg.pur rfl rfl rfl rfl (Pur.mv rfl) ?_
  refine Reg.pur rfl rfl rfl rfl (Pur.nilc rfl) ?_
  refine Reg.pur rfl rfl rfl rfl (Pur.fld _ fo65_0 rfl) ?_
  refine Reg.lod rfl rfl rfl rfl (Lod.ld sc3 rfl hB (hat 0 (by omega))) ?_
  refine Reg.pur rfl rfl rfl rfl (Pur.neq rfl rfl) ?_
  refine Reg.nil ?_
  refine At.cond rfl rfl (fun q17 => ?_) (fun q17 => ?_)
  · first | (simp only [decide_eq_true_eq, decide_eq_false_iff_not, Bool.not_eq_true', Bool.not_eq_false', ne_eq, Decidable.not_not, Bool.not_eq_true, Bool.not_eq_false] at q17) | (dsimp only at q17) | skip
    refine At.region rfl rfl ?_
    refine Reg.pur rfl rfl rfl rfl (Pur.mv rfl) ?_
    refine Reg.pur rfl rfl rfl rfl (Pur.mv rfl) ?_
    refine Reg.op rfl rfl rfl rfl (Does.callv rfl rfl (see1_ok x hB hat hT hN (by omega))) ?_
    rintro _ H2_2 ⟨A1a, c1a, A2a, c2a, hN2_2, hM2_2⟩
    refine Reg.nil ?_
    refine At.ret rfl Tryd.func88 rfl ?_
    rw [hfin, if_pos q17] at hlen ⊢
    exact ⟨A1a, c1a, A2a, c2a, hN2_2, hM2_2⟩
  first | (simp only [decide_eq_true_eq, decide_eq_false_iff_not, Bool.not_eq_true', Bool.not_eq_false', ne_eq, Decidable.not_not, Bool.not_eq_true, Bool.not_eq_false] at q17) | (dsimp only at q17) | skip
  obtain ⟨hz, hB3, hb3, hA2, hbA⟩ := hfun q17
  have hle := bgn_le L f (x.getD 3 0) (by omega)
  rw [hfin, if_neg (fun h => h q17), List.length_append, List.length_cons] at hlen
  refine At.region rfl rfl ?_
  refine Reg.pur rfl rfl rfl rfl (Pur.mv rfl) ?_
  refine Reg.pur rfl rfl rfl rfl (Pur.mv rfl) ?_
  refine Reg.pur rfl rfl rfl rfl (Pur.nilc rfl) ?_
  refine Reg.pur rfl rfl rfl rfl (Pur.fld _ fo65_2 rfl) ?_
  refine Reg.lod rfl rfl rfl rfl (Lod.ld sc3 rfl hB (hat 2 (by omega))) ?_
  refine Reg.pur rfl rfl rfl rfl (Pur.mv rfl) ?_
  refine Reg.op rfl rfl rfl rfl (Does.call rfl (ihf (x.getD 2 0) (by omega) (by omega) (by omega) hbA hS hY hT hN (by omega) hoY hoT (by rw [hob]; exact hoA))) ?_
  rintro _ H3_6 ⟨A1a, c1a, A2a, c2a, hN3_6, hM3_6⟩
  replace hY := hY.via hM3_6.1 hoY.not
  replace hT := hT.via hM3_6.1 hoT.not
  replace hB := hB.via hM3_6.1 hoA.not
  replace hS := hS.via hM3_6.1 (fun _ g hg => by rw [hob] at hg; obtain rfl : g = b := (by omega); exact hoA.not)
  replace hoY := hoY.mod zY hM3_6
  replace hoT := hoT.mod zT hM3_6
  replace hoA := hoA.mod zB hM3_6
  replace zY := Int.ofNat_lt.2 hY.lt
  replace zT := Int.ofNat_lt.2 hT.lt
  replace zB := Int.ofNat_lt.2 hB.lt
  refine Reg.nil ?_
  refine At.region rfl rfl ?_
  refine Reg.pur rfl rfl rfl rfl (Pur.mv rfl) ?_
  refine Reg.pur rfl rfl rfl rfl (Pur.mv rfl) ?_
  refine Reg.op rfl rfl rfl rfl (Does.callv rfl rfl (see1_ok x hB hat hT hN3_6 (by dsimp only at hnl; omega))) ?_
  rintro _ H4_2 ⟨A1b, c1b, A2b, c2b, hN4_2, hM4_2⟩
  replace hY := hY.via hM4_2.1 hoY.not
  replace hT := hT.via hM4_2.1 hoT.not
  replace hB := hB.via hM4_2.1 hoA.not
  replace hS := hS.via hM4_2.1 (fun _ g hg => by rw [hob] at hg; obtain rfl : g = b := (by omega); exact hoA.not)
  replace hoY := hoY.mod zY hM4_2
  replace hoT := hoT.mod zT hM4_2
  replace hoA := hoA.mod zB hM4_2
  replace zY := Int.ofNat_lt.2 hY.lt
  replace zT := Int.ofNat_lt.2 hT.lt
  replace zB := Int.ofNat_lt.2 hB.lt
  refine Reg.nil ?_
  refine At.region rfl rfl ?_
  refine Reg.pur rfl rfl rfl rfl (Pur.mv rfl) ?_
  refine Reg.pur rfl rfl rfl rfl (Pur.mv rfl) ?_
  refine Reg.pur rfl rfl rfl rfl (Pur.nilc rfl) ?_
  refine Reg.pur rfl rfl rfl rfl (Pur.fld _ fo65_3 rfl) ?_
  refine Reg.lod rfl rfl rfl rfl (Lod.ld sc3 rfl hB (hat 3 (by omega))) ?_
  refine Reg.pur rfl rfl rfl rfl (Pur.mv rfl) ?_
  refine Reg.op rfl rfl rfl rfl (Does.call rfl (ihf (x.getD 3 0) (by omega) (by omega) (by omega) (by omega) hS hY hT hN4_2 (by dsimp only at hnl hsl ⊢; omega) hoY hoT (by rw [hob]; exact hoA))) ?_
  rintro _ H5_6 ⟨A1d, c1d, A2d, c2d, hN5_6, hM5_6⟩
  refine Reg.nil ?_
  refine At.fall rfl Tryd.func88 rfl ?_
  rw [hfin, if_neg (fun h => h q17), nms_app, nms_cons]
  exact ⟨A1d, c1d, A2d, c2d, hN5_6, (hM3_6.trans hM4_2).trans hM5_6⟩

theorem typM_bgn {L : List (List Int)} (h : typM L = true) : (1 ≤ L.length ∧ L.length ≤ 256) ∧ bgn L L.length ((L.length : Int) - 1) = 0 := by
  unfold typM at h
  simp only [Bool.and_eq_true, decide_eq_true_eq] at h
  exact ⟨h.1.1, h.2⟩
def varsS (L : List (List Int)) (n : Nms) : Nms := nms n (ord L L.length ((L.length : Int) - 1))
theorem ord_256 {L : List (List Int)} (h : typM L = true) : (ord L L.length ((L.length : Int) - 1)).length = L.length := by
  obtain ⟨h1, h2⟩ := typM_bgn h
  have := ord_len L L.length ((L.length : Int) - 1) (by omega) (by omega)
  omega
theorem namesVars_ok {L : List (List Int)} (hL : Nine L) (hM : typM L = true) {A : Option Addr} {cap yb yo nb B : Nat} {cy : List Value} (hcy : cy[yo]? = some (.slice A L.length cap)) {H : Heap} {A1 A2 : Option Addr} {c1 c2 : Nat} {T R : List Int} (hS : SlT H Is 9 (.slice A L.length cap) L) (hY : Blk H yb cy) (hN : Nm H nb B A1 c1 T A2 c2 R)
    (hlen : T.length + R.length ≤ 900000) (hoY : Off nb A1 A2 yb) (hoA : Off nb A1 A2 (ob A)) :
    Ret Tryd.prog 64 [ptr nb 0, ptr yb yo] H (fun _ H' => ∃ A1' c1' A2' c2', Nm H' nb B A1' c1' (varsS L (T, R)).1 A2' c2' (varsS L (T, R)).2 ∧ Mod nb A1 A2 A1' A2' H H') := by
  obtain ⟨⟨hl1, hl2⟩, hb⟩ := typM_bgn hM
  have hol := ord_256 hM
  have zN := hN.own.lt
  have z1 := hN.g1.lt
  have z2 := hN.g2.lt
  refine Ret.of_at (N := 13) Tryd.call64 Tryd.func64 rfl rfl rfl ?_
  have hE := Ext.refl H
  have z_hE := hE.lt
  have z_hY := hY.lt
  have z_hS := hS.lt
  refine At.region rfl rfl ?_
  refine Reg.op rfl rfl rfl rfl (Does.box rfl rfl) ?_
  rintro _ H0_0 ⟨rfl, hn0_0⟩
  have z0_0 := hn0_0.size
  replace hE := hE.ext hn0_0.ext
  replace hY := hY.ext hn0_0.ext
  replace hS := hS.ext hn0_0.ext
  have o0_0 := hn0_0.own
  refine Reg.nil ?_
  refine At.region rfl rfl ?_
  refine Reg.pur rfl rfl rfl rfl (Pur.mv rfl) ?_
  refine Reg.pur rfl rfl rfl rfl (Pur.mv rfl) ?_
  refine Reg.pur rfl rfl rfl rfl (Pur.nilc rfl) ?_
  refine Reg.pur rfl rfl rfl rfl (Pur.fld _ fo55_0 rfl) ?_
  refine Reg.lod rfl rfl rfl rfl (Lod.ld sc53 rfl hY hcy) ?_
  refine Reg.pur rfl rfl rfl rfl (Pur.lenS isl53 rfl) ?_
  refine Reg.pur rfl rfl rfl rfl (Pur.sub64 rfl rfl (by omega)) ?_
  refine Reg.pur rfl rfl rfl rfl (Pur.mkf rfl rfl) ?_
  refine Reg.op rfl rfl rfl rfl (Does.call rfl (walk_ok hL hcy (by omega) L.length _ (by omega) (by omega) (by omega) (by omega) hS hY o0_0.blk (hN.ext hE) (by omega) hoY ⟨by omega, by omega, by omega⟩ hoA)) ?_
  rintro _ H1_8 ⟨A1a, c1a, A2a, c2a, hN1_8, hM1_8⟩
  refine Reg.nil ?_
  refine At.fall rfl Tryd.func64 rfl ?_
  exact ⟨A1a, c1a, A2a, c2a, hN1_8, ⟨(hn0_0.ext.but (S := fun g => g = nb ∨ (g : Int) = ob A1 ∨ (g : Int) = ob A2)).trans hM1_8.1, by have := hM1_8.2; omega⟩⟩
end Go.Proofs.YtlfillhffpiffaaDoor

namespace Go.Proofs.YtlfillhffpiffaaDoor
set_option linter.unusedSimpArgs false
set_option linter.unusedVariables false
set_option maxRecDepth 8000
open Go Go.Fx Go.Proofs
namespace FactsSchF
theorem ag55 : ag Tryd.prog 55 = some 1 := by kernel_rfl
theorem ag65 : ag Tryd.prog 65 = some 9 := by kernel_rfl
theorem es53 : esz Tryd.prog 53 = some 9 := by kernel_rfl
theorem fo109_0 : foff Tryd.prog 109 0 = some 0 := by kernel_rfl
theorem fo109_1 : foff Tryd.prog 109 1 = some 1 := by kernel_rfl
theorem fo24_1 : foff Tryd.prog 24 1 = some 4 := by kernel_rfl
theorem fo55_0 : foff Tryd.prog 55 0 = some 0 := by kernel_rfl
theorem fo65_0 : foff Tryd.prog 65 0 = some 0 := by kernel_rfl
theorem fo65_1 : foff Tryd.prog 65 1 = some 1 := by kernel_rfl
theorem fo65_2 : foff Tryd.prog 65 2 = some 2 := by kernel_rfl
theorem fo65_3 : foff Tryd.prog 65 3 = some 3 := by kernel_rfl
theorem fo65_4 : foff Tryd.prog 65 4 = some 4 := by kernel_rfl
theorem isl53 : isSl Tryd.prog 53 = true := by kernel_rfl
theorem mixed : Tryd.prog.follows .mixedOrders = true := by kernel_rfl
theorem pl109 : places Tryd.prog 109 = some [(0, 1), (1, 1)] := by kernel_rfl
theorem sc3 : sc Tryd.prog 3 = true := by kernel_rfl
theorem sc50 : sc Tryd.prog 50 = true := by kernel_rfl
theorem sc53 : sc Tryd.prog 53 = true := by kernel_rfl
theorem zc109 : zc Tryd.prog 109 = some [.slice none 0 0, .slice none 0 0] := by kernel_rfl
theorem zc65 : zc Tryd.prog 65 = some [.int .i64 0, .int .i64 0, .int .i64 0, .int .i64 0, .int .i64 0, .int .i64 0, .int .i64 0, .int .i64 0, .int .i64 0] := by kernel_rfl
end FactsSchF
open FactsSchF

theorem nm_new {H H' : Heap} {B : Nat} (h : Own H' H.size [.slice none 0 0, .slice none 0 0]) (hB : B ≤ H'.size) : Nm H' H.size B none 0 [] none 0 [] :=
  ⟨h, OwnS.nilG, OwnS.nilG, .inl rfl, by rw [ob_none]; omega, by rw [ob_none]; omega, hB⟩
theorem off_none {nb : Nat} {b : Int} (h : b ≠ nb) (h0 : 0 ≤ b) : Off nb none none b := ⟨h, by rw [ob_none]; omega, by rw [ob_none]; omega⟩
theorem mod_ext {nb : Nat} {A1' A2' : Option Addr} {H0 H H' : Heap} (h : Mod nb none none A1' A2' H H') (hE : Ext H0 H) (hn : H0.size ≤ nb) : Ext H0 H' :=
  hE.via h.1 (fun g hg hS => by rw [ob_none] at hS; omega)
def varsT (L : List (List Int)) : Nms := if typM L then varsS L ([], []) else ([], [])

theorem typVars_ok {A : Option Addr} {cap : Nat} {L : List (List Int)} (hL : Nine L) {H : Heap} (hS : SlT H Is 9 (.slice A L.length cap) L) (hm : L.length ≤ 9223372036854775807) :
    Ret Tryd.prog 41 [Ty A L.length cap] H (fun v H' => Ext H H' ∧ ∃ A1 c1 A2 c2, v = .tuple #[.slice A1 (varsT L).1.length c1, .slice A2 (varsT L).2.length c2, I (if typM L then 0 else 700)] ∧
      Gs H' H.size 3 1 A1 c1 (varsT L).1.length ((varsT L).1.flatMap e1) ∧ Gs H' H.size 3 1 A2 c2 (varsT L).2.length ((varsT L).2.flatMap e1)) := by
  refine Ret.of_at (N := 21) Tryd.call41 Tryd.func41 rfl rfl rfl ?_
  have hE := Ext.refl H
  refine At.region rfl rfl ?_
  refine Reg.op rfl rfl rfl rfl (Does.box rfl rfl) ?_
  rintro _ H0_0 ⟨rfl, hn0_0⟩
  have z0_0 := hn0_0.size
  replace hE := hE.ext hn0_0.ext
  have o0_0 := hn0_0.own
  refine Reg.pur rfl rfl rfl rfl (Pur.asg rfl) ?_
  refine Reg.pur rfl rfl rfl rfl (Pur.asg rfl) ?_
  refine Reg.pur rfl rfl rfl rfl (Pur.asg rfl) ?_
  refine Reg.nil ?_
  refine At.region rfl rfl ?_
  refine Reg.lod rfl rfl rfl rfl (Lod.ldn ag55 rfl o0_0.blk (by first | exact whole rfl | rfl | (simp only [List.drop_succ_cons, List.drop_zero, List.take_succ_cons, List.take_zero]; rfl)) (by first | rfl | (simp [*]; done))) ?_
  refine Reg.op rfl rfl rfl rfl (Does.call rfl (typMay_ok L hL (hS.ext hE) hm)) ?_
  rintro _ H1_1 ⟨rfl, hE1_1⟩
  have z1_1 := hE1_1.lt
  replace hE := hE.ext hE1_1
  replace o0_0 := o0_0.ext hE1_1
  refine Reg.pur rfl rfl rfl rfl (Pur.not rfl) ?_
  refine Reg.nil ?_
  refine At.cond rfl rfl (fun q8 => ?_) (fun q8 => ?_)
  · first | (simp only [decide_eq_true_eq, decide_eq_false_iff_not, Bool.not_eq_true', Bool.not_eq_false', ne_eq, Decidable.not_not, Bool.not_eq_true, Bool.not_eq_false] at q8) | (dsimp only at q8) | skip
    refine At.region rfl rfl ?_
    refine Reg.pur rfl rfl rfl rfl (Pur.asg rfl) ?_
    refine Reg.pur rfl rfl rfl rfl (Pur.asg rfl) ?_
    refine Reg.pur rfl rfl rfl rfl (Pur.asg rfl) ?_
    refine Reg.nil ?_
    refine At.ret rfl Tryd.func41 rfl ?_
    have hv : varsT L = ([], []) := by unfold varsT; rw [q8]; rfl
    rw [hv, q8]; exact ⟨hE, none, 0, none, 0, rfl, OwnS.nilG, OwnS.nilG⟩
  first | (simp only [decide_eq_true_eq, decide_eq_false_iff_not, Bool.not_eq_true', Bool.not_eq_false', ne_eq, Decidable.not_not, Bool.not_eq_true, Bool.not_eq_false] at q8) | (dsimp only at q8) | skip
  obtain ⟨⟨hl1, hl2⟩, _⟩ := typM_bgn q8
  refine At.region rfl rfl ?_
  refine Reg.pur rfl rfl rfl rfl (Pur.bld (cs := [_, _]) pl109 zc109 rfl rfl ⟨rfl, rfl, rfl⟩) ?_
  refine Reg.op rfl rfl rfl rfl (Does.box rfl rfl) ?_
  rintro _ H3_1 ⟨rfl, hn3_1⟩
  have z3_1 := hn3_1.size
  replace hE := hE.ext hn3_1.ext
  replace o0_0 := o0_0.ext hn3_1.ext
  have o3_1 := hn3_1.own
  refine Reg.pur rfl rfl rfl rfl (Pur.asg rfl) ?_
  refine Reg.nil ?_
  refine At.region rfl rfl ?_
  refine Reg.pur rfl rfl rfl rfl (Pur.mv rfl) ?_
  refine Reg.op rfl rfl rfl rfl (Does.call rfl (namesVars_ok hL q8 rfl (hS.ext hE) o0_0.blk (nm_new (B := H.size) o3_1 (by omega)) (by simp) (off_none (by omega) (by omega)) (off_none (by have := hS.lt; omega) (by have := hS.lt; omega)))) ?_
  rintro _ H4_1 ⟨A1, c1, A2, c2, hN4_1, hM4_1⟩
  have hE4 := mod_ext hM4_1 hE (by omega)
  refine Reg.nil ?_
  refine At.drawE ((Bks.cons hN4_1.own.blk Bks.nil)) [] mixed rfl rfl ?_
  refine RegD.tpur (i := 0) rfl rfl rfl rfl (by kernel_rfl) (Pur.mv rfl) ?_
  refine RegD.tpur (i := 1) rfl rfl rfl rfl (by kernel_rfl) (Pur.nilc rfl) ?_
  refine RegD.tpur (i := 2) rfl rfl rfl rfl (by kernel_rfl) (Pur.fld _ fo109_0 rfl) ?_
  refine RegD.take (i := 3) rfl rfl rfl rfl (by kernel_rfl) (Bks.cons hN4_1.own.blk Bks.nil) (fun H hS => Lod.ld sc50 rfl hS.hd rfl) ?_
  refine RegD.tpur (i := 4) rfl rfl rfl rfl (by kernel_rfl) (Pur.mv rfl) ?_
  refine RegD.tpur (i := 5) rfl rfl rfl rfl (by kernel_rfl) (Pur.nilc rfl) ?_
  refine RegD.tpur (i := 6) rfl rfl rfl rfl (by kernel_rfl) (Pur.fld _ fo109_1 rfl) ?_
  refine RegD.take (i := 7) rfl rfl rfl rfl (by kernel_rfl) (Bks.cons hN4_1.own.blk Bks.nil) (fun H hS => Lod.ld sc50 rfl hS.hd rfl) ?_
  refine RegD.tpur (i := 8) rfl rfl rfl rfl (by kernel_rfl) (Pur.asg rfl) ?_
  refine RegD.tpur (i := 9) rfl rfl rfl rfl (by kernel_rfl) (Pur.asg rfl) ?_
  refine RegD.tpur (i := 10) rfl rfl rfl rfl (by kernel_rfl) (Pur.asg rfl) ?_
  refine RegD.done (by kernel_rfl) ?_
  refine At.ret rfl Tryd.func41 rfl ?_
  have hv : varsT L = varsS L ([], []) := by unfold varsT; rw [q8]; rfl
  rw [hv, q8]; exact ⟨hE4, A1, c1, A2, c2, rfl, hN4_1.g1, hN4_1.g2⟩

end Go.Proofs.YtlfillhffpiffaaDoor

namespace Go.Proofs.YtlfillhffpiffaaDoor
set_option linter.unusedSimpArgs false
set_option linter.unusedVariables false
set_option maxRecDepth 8000
open Go Go.Fx Go.Proofs
namespace FactsSchG

end FactsSchG
open FactsSchG

def cs (b : Bool) : Int := if b then 0 else 1200
end Go.Proofs.YtlfillhffpiffaaDoor

namespace Go.Proofs.YtlfillhffpiffaaDoor
set_option linter.unusedSimpArgs false
set_option linter.unusedVariables false
set_option maxRecDepth 8000
open Go Go.Fx Go.Proofs
namespace FactsSubK
theorem ag24 : ag Tryd.prog 24 = some 5 := by kernel_rfl
theorem ag55 : ag Tryd.prog 55 = some 1 := by kernel_rfl
theorem ag65 : ag Tryd.prog 65 = some 9 := by kernel_rfl
theorem apt53 : appT Tryd.prog 53 = some (65, 9, 72) := by kernel_rfl
theorem es50 : esz Tryd.prog 50 = some 1 := by kernel_rfl
theorem es53 : esz Tryd.prog 53 = some 9 := by kernel_rfl
theorem fo55_0 : foff Tryd.prog 55 0 = some 0 := by kernel_rfl
theorem fo65_0 : foff Tryd.prog 65 0 = some 0 := by kernel_rfl
theorem fo65_1 : foff Tryd.prog 65 1 = some 1 := by kernel_rfl
theorem fo65_2 : foff Tryd.prog 65 2 = some 2 := by kernel_rfl
theorem fo65_3 : foff Tryd.prog 65 3 = some 3 := by kernel_rfl
theorem fo65_4 : foff Tryd.prog 65 4 = some 4 := by kernel_rfl
theorem isl53 : isSl Tryd.prog 53 = true := by kernel_rfl
theorem mixed : Tryd.prog.follows .mixedOrders = true := by kernel_rfl
theorem pl55 : places Tryd.prog 55 = some [(0, 1)] := by kernel_rfl
theorem sc3 : sc Tryd.prog 3 = true := by kernel_rfl
theorem sc53 : sc Tryd.prog 53 = true := by kernel_rfl
theorem slA53 : slA Tryd.prog 53 = some (65, 9) := by kernel_rfl
theorem zc24 : zc Tryd.prog 24 = some [.int .i64 0, .int .i64 0, .int .i64 0, .int .i64 0, .int .i64 0] := by kernel_rfl
theorem zc55 : zc Tryd.prog 55 = some [.slice none 0 0] := by kernel_rfl
theorem zc65 : zc Tryd.prog 65 = some [.int .i64 0, .int .i64 0, .int .i64 0, .int .i64 0, .int .i64 0, .int .i64 0, .int .i64 0, .int .i64 0, .int .i64 0] := by kernel_rfl
end FactsSubK
open FactsSubK

theorem nine1 {x : List Int} (h : x.length = 9) : Nine [x] := by intro y hy; simp at hy; subst hy; exact h
end Go.Proofs.YtlfillhffpiffaaDoor

namespace Go.Proofs.YtlfillhffpiffaaDoor
set_option linter.unusedSimpArgs false
set_option linter.unusedVariables false
set_option maxRecDepth 8000
open Go Go.Fx Go.Proofs
namespace FactsSubL

end FactsSubL
open FactsSubL

theorem nine_app {L M : List (List Int)} (h : Nine L) (h' : Nine M) : Nine (L ++ M) := fun x hx => (List.mem_append.1 hx).elim (h x) (h' x)

end Go.Proofs.YtlfillhffpiffaaDoor

namespace Go.Proofs.YtlfillhffpiffaaDoor
set_option linter.unusedSimpArgs false
set_option linter.unusedVariables false
set_option maxRecDepth 8000
open Go Go.Fx Go.Proofs
namespace FactsSubM
theorem ag55 : ag Tryd.prog 55 = some 1 := by kernel_rfl
theorem pl55 : places Tryd.prog 55 = some [(0, 1)] := by kernel_rfl
theorem zc55 : zc Tryd.prog 55 = some [.slice none 0 0] := by kernel_rfl
end FactsSubM
open FactsSubM

end Go.Proofs.YtlfillhffpiffaaDoor

namespace Go.Proofs.YtlfillhffpiffaaDoor
set_option linter.unusedSimpArgs false
set_option linter.unusedVariables false
set_option maxRecDepth 8000
open Go Go.Fx Go.Proofs
namespace FactsSubN
theorem ag24 : ag Tryd.prog 24 = some 5 := by kernel_rfl
theorem ag55 : ag Tryd.prog 55 = some 1 := by kernel_rfl
theorem mixed : Tryd.prog.follows .mixedOrders = true := by kernel_rfl
theorem sc3 : sc Tryd.prog 3 = true := by kernel_rfl
end FactsSubN
open FactsSubN

def pl (b : Bd) : Int × Bool × List (List Int) × List Int := (b.var, b.isRow, b.nodes, b.row)
end Go.Proofs.YtlfillhffpiffaaDoor

namespace Go.Proofs.YtlfillhffpiffaaDoor
set_option linter.unusedSimpArgs false
set_option linter.unusedVariables false
set_option maxRecDepth 8000
open Go Go.Fx Go.Proofs
namespace FactsSchI
theorem es50 : esz Tryd.prog 50 = some 1 := by kernel_rfl
theorem isl50 : isSl Tryd.prog 50 = true := by kernel_rfl
theorem mixed : Tryd.prog.follows .mixedOrders = true := by kernel_rfl
theorem sc3 : sc Tryd.prog 3 = true := by kernel_rfl
end FactsSchI
open FactsSchI

theorem sameI_ok {A A' : Option Addr} {cap cap' : Nat} (l m : List Int) {H : Heap} (hS : SlT H e1 1 (.slice A l.length cap) l) (hS' : SlT H e1 1 (.slice A' m.length cap') m) (hm : l.length ≤ 9223372036854775807) :
    Ret Tryd.prog 45 [.slice A l.length cap, .slice A' m.length cap'] H (fun v H' => v = .bool (decide (l = m)) ∧ H' = H) := by
  refine Ret.of_at (N := 26) Tryd.call45 Tryd.func45 rfl rfl rfl ?_
  have hE := Ext.refl H
  refine At.region rfl rfl ?_
  refine Reg.pur rfl rfl rfl rfl (Pur.asg rfl) ?_
  refine Reg.nil ?_
  refine At.region rfl rfl ?_
  refine Reg.pur rfl rfl rfl rfl (Pur.mv rfl) ?_
  refine Reg.pur rfl rfl rfl rfl (Pur.lenS isl50 rfl) ?_
  refine Reg.pur rfl rfl rfl rfl (Pur.mv rfl) ?_
  refine Reg.pur rfl rfl rfl rfl (Pur.lenS isl50 rfl) ?_
  refine Reg.pur rfl rfl rfl rfl (Pur.neq rfl rfl) ?_
  refine Reg.nil ?_
  refine At.cond rfl rfl (fun q10 => ?_) (fun q10 => ?_)
  · first | (simp only [decide_eq_true_eq, decide_eq_false_iff_not, Bool.not_eq_true', Bool.not_eq_false', ne_eq, Decidable.not_not, Bool.not_eq_true, Bool.not_eq_false] at q10) | (dsimp only at q10) | skip
    refine At.region rfl rfl ?_
    refine Reg.pur rfl rfl rfl rfl (Pur.asg rfl) ?_
    refine Reg.nil ?_
    refine At.ret rfl Tryd.func45 rfl ?_
    exact ⟨congrArg Value.bool (decide_eq_false fun e => by subst e; exact q10 rfl).symm, rfl⟩
  first | (simp only [decide_eq_true_eq, decide_eq_false_iff_not, Bool.not_eq_true', Bool.not_eq_false', ne_eq, Decidable.not_not, Bool.not_eq_true, Bool.not_eq_false] at q10) | (dsimp only at q10) | skip
  refine At.region rfl rfl ?_
  refine Reg.pur rfl rfl rfl rfl (Pur.asg rfl) ?_
  refine Reg.nil ?_
  have hll : l.length = m.length := by omega
  refine At.loop (σ := Nat) (fun i => [(5, I i), (0, .slice A l.length cap), (1, .slice A' m.length cap')]) (fun i H' => i ≤ l.length ∧ H' = H ∧ l.take i = m.take i) (fun i => l.length - i) 0 rfl ⟨rfl, rfl, rfl, trivial⟩ ⟨by omega, rfl, rfl⟩ ?_
  rintro i H ⟨hi, rfl, hgo⟩ ih
  refine At.region rfl rfl ?_
  refine Reg.pur rfl rfl rfl rfl (Pur.mv rfl) ?_
  refine Reg.pur rfl rfl rfl rfl (Pur.mv rfl) ?_
  refine Reg.pur rfl rfl rfl rfl (Pur.lenS isl50 rfl) ?_
  refine Reg.pur rfl rfl rfl rfl (Pur.lss rfl rfl) ?_
  refine Reg.nil ?_
  refine At.cond rfl rfl (fun q14 => ?_) (fun q14 => ?_)
  · first | (simp only [decide_eq_true_eq, decide_eq_false_iff_not, Bool.not_eq_true', Bool.not_eq_false', ne_eq, Decidable.not_not, Bool.not_eq_true, Bool.not_eq_false] at q14) | (dsimp only at q14) | skip
    have hlt : i < l.length := by omega
    have hlt' : i < m.length := by omega
    obtain ⟨b, o, c, rfl, hB, hc⟩ := int_at hS hlt
    obtain ⟨b', o', c', rfl, hB', hc'⟩ := int_at hS' hlt'
    refine At.drawE ((Bks.cons hB.blk (Bks.cons hB'.blk Bks.nil))) [] mixed rfl rfl ?_
    refine RegD.tpur (i := 0) rfl rfl rfl rfl (by kernel_rfl) (Pur.mv rfl) ?_
    refine RegD.tpur (i := 1) rfl rfl rfl rfl (by kernel_rfl) (Pur.mv rfl) ?_
    refine RegD.tpur (i := 2) rfl rfl rfl rfl (by kernel_rfl) (Pur.idx _ es50 rfl rfl (by omega) (by omega)) ?_
    refine RegD.take (i := 3) rfl rfl rfl rfl (by kernel_rfl) (Bks.cons hB.blk (Bks.cons hB'.blk Bks.nil)) (fun H hS => Lod.ld sc3 rfl hS.hd hc) ?_
    refine RegD.tpur (i := 4) rfl rfl rfl rfl (by kernel_rfl) (Pur.mv rfl) ?_
    refine RegD.tpur (i := 5) rfl rfl rfl rfl (by kernel_rfl) (Pur.mv rfl) ?_
    refine RegD.tpur (i := 6) rfl rfl rfl rfl (by kernel_rfl) (Pur.idx _ es50 rfl rfl (by omega) (by omega)) ?_
    refine RegD.take (i := 7) rfl rfl rfl rfl (by kernel_rfl) (Bks.cons hB.blk (Bks.cons hB'.blk Bks.nil)) (fun H hS => Lod.ld sc3 rfl hS.tl.hd hc') ?_
    refine RegD.tpur (i := 8) rfl rfl rfl rfl (by kernel_rfl) (Pur.neq rfl rfl) ?_
    refine RegD.done (by kernel_rfl) ?_
    refine At.cond rfl rfl (fun q25 => ?_) (fun q25 => ?_)
    · first | (simp only [decide_eq_true_eq, decide_eq_false_iff_not, Bool.not_eq_true', Bool.not_eq_false', ne_eq, Decidable.not_not, Bool.not_eq_true, Bool.not_eq_false] at q25) | (dsimp only at q25) | skip
      refine At.region rfl rfl ?_
      refine Reg.pur rfl rfl rfl rfl (Pur.asg rfl) ?_
      refine Reg.nil ?_
      refine At.ret rfl Tryd.func45 rfl ?_
      exact ⟨congrArg Value.bool (decide_eq_false fun e => by subst e; exact q25 rfl).symm, rfl⟩
    first | (simp only [decide_eq_true_eq, decide_eq_false_iff_not, Bool.not_eq_true', Bool.not_eq_false', ne_eq, Decidable.not_not, Bool.not_eq_true, Bool.not_eq_false] at q25) | (dsimp only at q25) | skip
    refine At.region rfl rfl ?_
    refine Reg.pur rfl rfl rfl rfl (Pur.mv rfl) ?_
    first | refine Reg.pur rfl rfl rfl rfl (Pur.add64 rfl rfl (by omega)) ?_ | refine Reg.pur rfl rfl rfl rfl (Pur.add64 rfl rfl (by assumption)) ?_ | refine Reg.pur rfl rfl rfl rfl (Pur.add rfl rfl) ?_
    refine Reg.pur rfl rfl rfl rfl (Pur.asg rfl) ?_
    refine Reg.nil ?_
    exact At.via (ih (i + 1) _ ⟨by omega, rfl, by rw [List.take_succ_eq_append_getElem hlt, List.take_succ_eq_append_getElem hlt', hgo, q25]⟩ (by omega)) ⟨rfl, rfl, rfl, trivial⟩
  first | (simp only [decide_eq_true_eq, decide_eq_false_iff_not, Bool.not_eq_true', Bool.not_eq_false', ne_eq, Decidable.not_not, Bool.not_eq_true, Bool.not_eq_false] at q14) | (dsimp only at q14) | skip
  refine At.region rfl rfl ?_
  refine Reg.pur rfl rfl rfl rfl (Pur.asg rfl) ?_
  refine Reg.nil ?_
  refine At.ret rfl Tryd.func45 rfl ?_
  rw [List.take_of_length_le (by omega), List.take_of_length_le (by omega)] at hgo
  exact ⟨congrArg Value.bool (decide_eq_true hgo).symm, rfl⟩

end Go.Proofs.YtlfillhffpiffaaDoor

namespace Go.Proofs.YtlfillhffpiffaaDoor
set_option linter.unusedSimpArgs false
set_option linter.unusedVariables false
set_option maxRecDepth 8000
open Go Go.Fx Go.Proofs
namespace FactsSchL

end FactsSchL
open FactsSchL

structure Td where
  A : Option Addr
  cap : Nat
  nodes : List (List Int)
abbrev encT (t : Td) : List Value := [.slice t.A t.nodes.length t.cap]
structure Td.Ok (H : Heap) (t : Td) : Prop where
  sl : SlT H Is 9 (.slice t.A t.nodes.length t.cap) t.nodes
  nine : Nine t.nodes
  fits : t.nodes.length * 72 ≤ 140737488351232
structure Tds (H : Heap) (v : Value) (L : List Td) : Prop where
  sl : SlT H encT 1 v L
  ok : ∀ t ∈ L, t.Ok H
  fits : L.length ≤ 9223372036854775807
abbrev Five (L : List (List Int)) : Prop := ∀ x ∈ L, x.length = 5
end Go.Proofs.YtlfillhffpiffaaDoor

namespace Go.Proofs.YtlfillhffpiffaaDoor
set_option linter.unusedSimpArgs false
set_option linter.unusedVariables false
set_option maxRecDepth 8000
open Go Go.Fx Go.Proofs
namespace FactsSubO

end FactsSubO
open FactsSubO

theorem numE_ok (n : Int) (H : Heap) : Ret Tryd.prog 25 [I n] H (fun v H' => v = I n ∧ H' = H) := by
  refine Ret.of_at (N := 4) Tryd.call25 Tryd.func25 rfl rfl rfl ?_
  refine At.region rfl rfl ?_
  refine Reg.pur rfl rfl rfl rfl (Pur.asg rfl) ?_
  refine Reg.nil ?_
  refine At.region rfl rfl ?_
  refine Reg.pur rfl rfl rfl rfl (Pur.mv rfl) ?_
  refine Reg.pur rfl rfl rfl rfl (Pur.asg rfl) ?_
  refine Reg.nil ?_
  refine At.ret rfl Tryd.func25 rfl ?_
  exact ⟨rfl, rfl⟩
end Go.Proofs.YtlfillhffpiffaaDoor

namespace Go.Proofs.YtlfillhffpiffaaDoor
set_option linter.unusedSimpArgs false
set_option linter.unusedVariables false
set_option maxRecDepth 8000
open Go Go.Fx Go.Proofs
namespace FactsSubP

end FactsSubP
open FactsSubP

theorem nine_lit {L : List (List Int)} (h : (L.all fun x => x.length == 9) = true) : Nine L := by
  intro x hx
  have := List.all_eq_true.1 h x hx
  simpa using this
end Go.Proofs.YtlfillhffpiffaaDoor

namespace Go.Proofs.YtlfillhffpiffaaDoor
set_option linter.unusedSimpArgs false
set_option linter.unusedVariables false
set_option maxRecDepth 8000
set_option maxHeartbeats 2000000
open Go Go.Fx Go.Proofs
namespace FactsSchR

end FactsSchR
open FactsSchR

theorem sl_own {α : Type} {enc : α → List Value} {n b : Nat} {L : List α} {H : Heap} (hL : Wide enc n L) (hn : 0 < n) (h : Own H b (L.flatMap enc)) (hl : L.length ≤ 1000) : SlT H enc n (.slice (some ⟨b, 0, none⟩) L.length L.length) L :=
  sl_of hL hn h.blk (by rw [List.drop_zero, List.take_of_length_le (by rw [flat_len hL]; exact Nat.le_refl _)]) (Nat.le_refl _) (by omega)
end Go.Proofs.YtlfillhffpiffaaDoor

namespace Go.Proofs.YtlfillhffpiffaaDoor
set_option linter.unusedSimpArgs false
set_option linter.unusedVariables false
set_option maxRecDepth 8000
open Go Go.Fx Go.Proofs
namespace FactsSubQ

end FactsSubQ
open FactsSubQ

theorem type_of_fits {H : Heap} {v : Value} (h : fitc H (.sl 72 (List.replicate 9 (.int .i64))) v) : ∃ (A : Option Addr) (cap : Nat) (L : List (List Int)), v = .slice A L.length cap ∧ Nine L ∧ SlT H Is 9 (.slice A L.length cap) L ∧ L.length * 72 ≤ 140737488351232 := by
  obtain ⟨L, hL, hS, hb⟩ := SlT.of_fits (p := fun x : List Int => x.length = 9) (enc := Is) h (fun cs h => by obtain ⟨xs, rfl, hl, _⟩ := fit_ints h; exact ⟨xs, hl, rfl⟩)
  have hS' := hS
  obtain ⟨A, cap, rfl, _⟩ := hS'
  exact ⟨A, cap, L, rfl, hL, hS, by rw [show reachBytes = 140737488351232 from rfl] at hb; omega⟩
theorem bd_of_fits {H : Heap} {cs : List Value} (h : fits H (.int .i64 :: .bool :: .sl 72 (List.replicate 9 (.int .i64)) :: List.replicate 5 (.int .i64)) cs) : ∃ b : Bd, b.Ok H ∧ cs = encB b := by
  simp only [fits] at h
  obtain ⟨v1, r1, rfl, h1, v2, r2, rfl, h2, v3, r3, rfl, h3, h4⟩ := h
  simp only [fitc] at h1 h2
  obtain ⟨n, rfl, _⟩ := h1
  obtain ⟨b, rfl⟩ := h2
  obtain ⟨A, cap, L, rfl, hL, hS, hb⟩ := type_of_fits h3
  obtain ⟨xs, rfl, hl, _⟩ := fit_ints h4
  exact ⟨⟨n, b, A, cap, L, xs⟩, ⟨hS, hL, hl, hb⟩, rfl⟩
theorem binds_of_fits {H : Heap} {v : Value} (h : fitc H (.sl 80 (.int .i64 :: .bool :: .sl 72 (List.replicate 9 (.int .i64)) :: List.replicate 5 (.int .i64))) v) : ∃ (A : Option Addr) (cap : Nat) (Bs : List Bd), v = .slice A Bs.length cap ∧ Bds H (.slice A Bs.length cap) Bs := by
  obtain ⟨L, hL, hS, hb⟩ := SlT.of_fits (p := fun b : Bd => b.Ok H) (enc := encB) h (fun cs h => bd_of_fits h)
  have hS' := hS
  obtain ⟨A, cap, rfl, _⟩ := hS'
  exact ⟨A, cap, L, rfl, ⟨hS, hL, by rw [show reachBytes = 140737488351232 from rfl] at hb; omega⟩⟩

end Go.Proofs.YtlfillhffpiffaaDoor

namespace Go.Proofs.YtlfillhffpiffaaDoor
set_option linter.unusedSimpArgs false
set_option linter.unusedVariables false
set_option maxRecDepth 8000
set_option maxHeartbeats 1000000
open Go Go.Fx Go.Proofs
namespace FactsSchS
theorem ag24 : ag Tryd.prog 24 = some 5 := by kernel_rfl
theorem ag55 : ag Tryd.prog 55 = some 1 := by kernel_rfl
theorem ag65 : ag Tryd.prog 65 = some 9 := by kernel_rfl
theorem apt53 : appT Tryd.prog 53 = some (65, 9, 72) := by kernel_rfl
theorem es53 : esz Tryd.prog 53 = some 9 := by kernel_rfl
theorem fo55_0 : foff Tryd.prog 55 0 = some 0 := by kernel_rfl
theorem fo65_0 : foff Tryd.prog 65 0 = some 0 := by kernel_rfl
theorem fo65_2 : foff Tryd.prog 65 2 = some 2 := by kernel_rfl
theorem fo65_3 : foff Tryd.prog 65 3 = some 3 := by kernel_rfl
theorem isl53 : isSl Tryd.prog 53 = true := by kernel_rfl
theorem pl55 : places Tryd.prog 55 = some [(0, 1)] := by kernel_rfl
theorem pl65 : places Tryd.prog 65 = some [(0, 1), (1, 1), (2, 1), (3, 1), (4, 5)] := by kernel_rfl
theorem sc3 : sc Tryd.prog 3 = true := by kernel_rfl
theorem sc53 : sc Tryd.prog 53 = true := by kernel_rfl
theorem slA53 : slA Tryd.prog 53 = some (65, 9) := by kernel_rfl
theorem zc55 : zc Tryd.prog 55 = some [.slice none 0 0] := by kernel_rfl
theorem zc65 : zc Tryd.prog 65 = some [.int .i64 0, .int .i64 0, .int .i64 0, .int .i64 0, .int .i64 0, .int .i64 0, .int .i64 0, .int .i64 0, .int .i64 0] := by kernel_rfl
end FactsSchS
open FactsSchS

def arrN (a b : Int) (r : List Int) : List Int := [3, 0, a - 1, a + b - 1] ++ r
def arr2 (La : List (List Int)) (r : List Int) (Lb : List (List Int)) : List (List Int) := La ++ Lb.map (movS La.length) ++ [arrN La.length Lb.length r]
end Go.Proofs.YtlfillhffpiffaaDoor

namespace Go.Proofs.YtlfillhffpiffaaDoor
set_option linter.unusedSimpArgs false
set_option linter.unusedVariables false
set_option maxRecDepth 8000
open Go Go.Fx Go.Proofs

inductive Tm where
  | bas (k : Bool)
  | var (v : Int)
  | fn (a : Tm) (r : List Int) (b : Tm)
deriving DecidableEq
def Tm.sz : Tm → Nat
  | .bas _ => 1
  | .var _ => 1
  | .fn a _ b => a.sz + b.sz + 1
theorem Tm.sz_pos : ∀ t : Tm, 1 ≤ t.sz
  | .bas _ => Nat.le_refl 1
  | .var _ => Nat.le_refl 1
  | .fn a _ b => by simp only [Tm.sz]; omega
def Tm.ok : Tm → Prop
  | .bas _ => True
  | .var v => 0 ≤ v ∧ v < 4096
  | .fn a r b => a.ok ∧ r.length = 5 ∧ rowM r = true ∧ b.ok
abbrev bNode (k : Bool) : List Int := [if k then 1 else 0, 0, 0, 0, 0, 0, 0, 0, 0]
abbrev vNode (v : Int) : List Int := [2, v, 0, 0, 0, 0, 0, 0, 0]
abbrev fNode (a b : Int) (r : List Int) : List Int := [3, 0, a, b] ++ r
def Tm.enc (k : Int) : Tm → List (List Int)
  | .bas b => [bNode b]
  | .var v => [vNode v]
  | .fn a r b => a.enc k ++ b.enc (k + a.sz) ++ [fNode (k + a.sz - 1) (k + a.sz + b.sz - 1) r]
theorem Tm.enc_len : ∀ (t : Tm) (k : Int), (t.enc k).length = t.sz
  | .bas _, _ => rfl
  | .var _, _ => rfl
  | .fn a r b, k => by simp only [Tm.enc, List.length_append, Tm.enc_len a, Tm.enc_len b, Tm.sz, List.length_singleton]
theorem Tm.enc_nine : ∀ (t : Tm) (k : Int), t.ok → Nine (t.enc k)
  | .bas _, _, _ => nine1 rfl
  | .var _, _, _ => nine1 rfl
  | .fn a r b, k, h => nine_app (nine_app (a.enc_nine k h.1) (b.enc_nine _ h.2.2.2)) (nine1 (by simp [h.2.1]))
theorem nod_fn {x : List Int} (h9 : x.length = 9) (hn : nodM x = true) (hk : x.getD 0 0 = 3) : ∃ r, r.length = 5 ∧ rowM r = true ∧ x = fNode (x.getD 2 0) (x.getD 3 0) r := by
  match x, h9 with
  | [k, v, p, q, c0, c1, c2, c3, t], _ =>
    unfold nodM at hn
    rw [if_pos hk] at hn
    simp only [Bool.and_eq_true, decide_eq_true_eq] at hn
    obtain ⟨h1, h2⟩ := hn
    change k = 3 at hk
    change v = 0 at h2
    subst hk h2
    exact ⟨[c0, c1, c2, c3, t], rfl, h1, rfl⟩
theorem nod_else {x : List Int} (hn : nodM x = true) (hk : x.getD 0 0 ≠ 3) : (∃ b, x = bNode b) ∨ ∃ v, 0 ≤ v ∧ v < 4096 ∧ x = vNode v := by
  unfold nodM at hn
  rw [if_neg hk] at hn
  split at hn
  · simp only [Bool.and_eq_true, decide_eq_true_eq] at hn
    exact .inr ⟨_, hn.1.1, hn.1.2, hn.2⟩
  · split at hn
    · rename_i h
      rw [decide_eq_true_eq] at hn
      rcases h with h | h
      · rw [h] at hn; exact .inl ⟨false, hn⟩
      · rw [h] at hn; exact .inl ⟨true, hn⟩
    · cases hn
theorem el_nat {L : List (List Int)} {n : Nat} (h : n < L.length) : el L (n : Int) = L[n] := by
  simp [el, List.getD_eq_getElem?_getD, List.getElem?_eq_getElem h]
abbrev seg (L : List (List Int)) (p z : Int) : List (List Int) := (L.drop p.toNat).take (z + 1 - p).toNat
theorem seg_app {L : List (List Int)} {p q z : Int} (h0 : 0 ≤ p) (h1 : p ≤ q) (h2 : q ≤ z + 1) : seg L p (q - 1) ++ seg L q z = seg L p z := by
  have h : (z + 1 - p).toNat = (q - 1 + 1 - p).toNat + (z + 1 - q).toNat := by omega
  unfold seg
  rw [h, List.take_add, List.drop_drop, show p.toNat + (q - 1 + 1 - p).toNat = q.toNat by omega]
theorem seg_one {L : List (List Int)} {z : Int} (h0 : 0 ≤ z) (h1 : z < L.length) : seg L z z = [el L z] := by
  obtain ⟨n, rfl⟩ := Int.eq_ofNat_of_zero_le h0
  unfold seg
  rw [show ((n : Int) + 1 - n).toNat = 1 by omega, el_nat (by omega), Int.toNat_natCast, List.drop_eq_getElem_cons (by omega)]
  rfl
theorem dec_at {L : List (List Int)} (h9 : Nine L) (hn : L.all nodM = true) : ∀ (f : Nat) (z : Int), 0 ≤ z → z < L.length → 0 ≤ bgn L f z → ∃ t : Tm, t.ok ∧ seg L (bgn L f z) z = t.enc (bgn L f z) ∧ (t.sz : Int) = z + 1 - bgn L f z
  | 0, z, _, _, h => by simp only [bgn] at h; omega
  | f + 1, z, h0, h1, h => by
    have hx : el L z ∈ L := by
      obtain ⟨n, rfl⟩ := Int.eq_ofNat_of_zero_le h0
      rw [el_nat (by omega)]; exact List.getElem_mem _
    have hx9 := h9 _ hx
    have hxn := List.all_eq_true.1 hn _ hx
    by_cases hk : (el L z).getD 0 0 = 3
    · obtain ⟨hz, hB, hb, hA, hbA⟩ := bgn_fun h hk
      have hle := bgn_le L f ((el L z).getD 3 0) (by omega)
      have hle2 := bgn_le L f ((el L z).getD 2 0) (by omega)
      have hq : bgn L (f + 1) z = bgn L f ((el L z).getD 2 0) := by
        rw [bgn_succ, if_neg (by omega), if_neg (by omega), if_neg (by omega)]
      obtain ⟨a, ha, hsa, hza⟩ := dec_at h9 hn f ((el L z).getD 2 0) (by omega) (by omega) hbA
      obtain ⟨b, hb', hsb, hzb⟩ := dec_at h9 hn f ((el L z).getD 3 0) (by omega) (by omega) (by omega)
      obtain ⟨r, hr5, hrm, hx⟩ := nod_fn hx9 hxn hk
      have e0 := seg_one h0 h1
      rw [hx] at e0
      rw [hq]
      clear h hq hxn hx9 hx hk hn h9
      generalize (el L z).getD 2 0 = A at *
      generalize (el L z).getD 3 0 = B at *
      generalize bgn L f A = p at *
      generalize bgn L f B = q at *
      subst hA hB
      refine ⟨.fn a r b, ⟨ha, hr5, hrm, hb'⟩, ?_, by simp only [Tm.sz]; omega⟩
      rw [← seg_app (L := L) (p := p) (q := z) (z := z) (by omega) (by omega) (by omega), ← seg_app (L := L) (p := p) (q := q) (z := z - 1) (by omega) (by omega) (by omega), hsa, hsb, e0]
      simp only [Tm.enc]
      rw [show p + (a.sz : Int) = q by omega, show q + (b.sz : Int) - 1 = z - 1 by omega]
    · have hq : bgn L (f + 1) z = z := by rw [bgn_succ, if_pos hk]
      rw [hq, seg_one h0 h1]
      rcases nod_else hxn hk with ⟨b, hb⟩ | ⟨v, hv1, hv2, hv⟩
      · exact ⟨.bas b, trivial, by rw [hb]; rfl, by simp only [Tm.sz]; omega⟩
      · exact ⟨.var v, ⟨hv1, hv2⟩, by rw [hv]; rfl, by simp only [Tm.sz]; omega⟩

theorem el_mid {pre post : List (List Int)} {x : List Int} : el (pre ++ x :: post) (pre.length : Int) = x := by
  simp [el, List.getD_eq_getElem?_getD]
theorem enc_bgn : ∀ (t : Tm) (f : Nat) (pre post : List (List Int)), t.sz ≤ f → bgn (pre ++ t.enc pre.length ++ post) f ((pre.length : Int) + t.sz - 1) = pre.length
  | t, 0, _, _, h => by have := t.sz_pos; omega
  | .bas b, f + 1, pre, post, h => by
    rw [bgn_succ, if_pos]
    · simp only [Tm.sz]; omega
    · rw [show (pre.length : Int) + (Tm.bas b).sz - 1 = pre.length by simp only [Tm.sz]; omega]
      simp only [Tm.enc, List.append_assoc, List.singleton_append]
      rw [el_mid]
      cases b <;> decide
  | .var v, f + 1, pre, post, h => by
    rw [bgn_succ, if_pos]
    · simp only [Tm.sz]; omega
    · rw [show (pre.length : Int) + (Tm.var v).sz - 1 = pre.length by simp only [Tm.sz]; omega]
      simp only [Tm.enc, List.append_assoc, List.singleton_append]
      rw [el_mid]
      show (2 : Int) ≠ 3
      decide
  | .fn a r b, f + 1, pre, post, h => by
    have ha := a.sz_pos
    have hb := b.sz_pos
    simp only [Tm.sz] at h ⊢
    have hp : ((pre ++ a.enc pre.length).length : Int) = (pre.length : Int) + a.sz := by rw [List.length_append, Tm.enc_len]; omega
    have hp2 : ((pre ++ a.enc pre.length ++ b.enc ((pre.length : Int) + a.sz)).length : Int) = (pre.length : Int) + a.sz + b.sz := by rw [List.length_append, List.length_append, Tm.enc_len, Tm.enc_len]; omega
    have hL1 : pre ++ (Tm.fn a r b).enc pre.length ++ post = (pre ++ a.enc pre.length ++ b.enc ((pre.length : Int) + a.sz)) ++ fNode ((pre.length : Int) + a.sz - 1) ((pre.length : Int) + a.sz + b.sz - 1) r :: post := by
      simp only [Tm.enc, List.append_assoc, List.singleton_append]
    have hL2 : pre ++ (Tm.fn a r b).enc pre.length ++ post = (pre ++ a.enc pre.length) ++ b.enc ((pre ++ a.enc pre.length).length : Int) ++ (fNode ((pre.length : Int) + a.sz - 1) ((pre.length : Int) + a.sz + b.sz - 1) r :: post) := by
      rw [hp]; simp only [Tm.enc, List.append_assoc, List.singleton_append]
    have hL3 : pre ++ (Tm.fn a r b).enc pre.length ++ post = pre ++ a.enc pre.length ++ (b.enc ((pre.length : Int) + a.sz) ++ fNode ((pre.length : Int) + a.sz - 1) ((pre.length : Int) + a.sz + b.sz - 1) r :: post) := by
      simp only [Tm.enc, List.append_assoc, List.singleton_append]
    have hel : el (pre ++ (Tm.fn a r b).enc pre.length ++ post) ((pre.length : Int) + (a.sz + b.sz + 1 : Nat) - 1) = fNode ((pre.length : Int) + a.sz - 1) ((pre.length : Int) + a.sz + b.sz - 1) r := by
      rw [hL1, show (pre.length : Int) + (a.sz + b.sz + 1 : Nat) - 1 = ((pre ++ a.enc pre.length ++ b.enc ((pre.length : Int) + a.sz)).length : Int) by rw [hp2]; omega, el_mid]
    have hb1 : bgn (pre ++ (Tm.fn a r b).enc pre.length ++ post) f ((pre.length : Int) + a.sz + b.sz - 1) = (pre.length : Int) + a.sz := by
      rw [hL2, ← hp, enc_bgn b f _ _ (by omega)]
    have hb2 : bgn (pre ++ (Tm.fn a r b).enc pre.length ++ post) f ((pre.length : Int) + a.sz - 1) = pre.length := by
      rw [hL3, enc_bgn a f _ _ (by omega)]
    have e2 : (fNode ((pre.length : Int) + a.sz - 1) ((pre.length : Int) + a.sz + b.sz - 1) r).getD 2 0 = (pre.length : Int) + a.sz - 1 := rfl
    have e3 : (fNode ((pre.length : Int) + a.sz - 1) ((pre.length : Int) + a.sz + b.sz - 1) r).getD 3 0 = (pre.length : Int) + a.sz + b.sz - 1 := rfl
    have e0 : (fNode ((pre.length : Int) + a.sz - 1) ((pre.length : Int) + a.sz + b.sz - 1) r).getD 0 0 = 3 := rfl
    rw [bgn_succ, hel, e0, e2, e3, hb1, hb2, if_neg (by decide), if_neg (by omega), if_neg (by omega)]
theorem enc_nod : ∀ (t : Tm) (k : Int), t.ok → ∀ x ∈ t.enc k, nodM x = true
  | .bas b, _, _, x, h => by rw [List.mem_singleton.1 h]; cases b <;> decide
  | .var v, _, hk, x, h => by
    rw [List.mem_singleton.1 h]
    unfold nodM
    rw [if_neg (by show ¬ (2 : Int) = 3; decide), if_pos (by rfl)]
    simp only [Bool.and_eq_true, decide_eq_true_eq]
    exact ⟨hk, rfl⟩
  | .fn a r b, k, hk, x, h => by
    simp only [Tm.enc, List.mem_append, List.mem_singleton] at h
    rcases h with (h | h) | h
    · exact enc_nod a _ hk.1 x h
    · exact enc_nod b _ hk.2.2.2 x h
    · subst h
      unfold nodM
      rw [if_pos (by rfl)]
      simp only [Bool.and_eq_true, decide_eq_true_eq]
      exact ⟨hk.2.2.1, rfl⟩
theorem enc_typ {t : Tm} (h : t.ok) (hs : t.sz ≤ 256) : typM (t.enc 0) = true := by
  have := t.sz_pos
  unfold typM
  rw [Tm.enc_len]
  simp only [Bool.and_eq_true, decide_eq_true_eq, List.all_eq_true]
  have hb := enc_bgn t t.sz [] [] (Nat.le_refl _)
  simp only [List.nil_append, List.append_nil, List.length_nil, Int.natCast_zero, Int.zero_add] at hb
  exact ⟨⟨⟨by omega, hs⟩, enc_nod t 0 h⟩, hb⟩
theorem typ_dec {L : List (List Int)} (h9 : Nine L) (h : typM L = true) : ∃ t : Tm, t.ok ∧ L = t.enc 0 ∧ t.sz ≤ 256 := by
  obtain ⟨⟨h1, h2⟩, hb⟩ := typM_bgn h
  unfold typM at h
  simp only [Bool.and_eq_true] at h
  obtain ⟨t, ht, hs, hz⟩ := dec_at h9 h.1.2 L.length ((L.length : Int) - 1) (by omega) (by omega) (by omega)
  rw [hb] at hs hz
  refine ⟨t, ht, ?_, by omega⟩
  rw [← hs]
  unfold seg
  rw [List.take_of_length_le (by simp)]
  rfl
end Go.Proofs.YtlfillhffpiffaaDoor

namespace Go.Fx
open Go
set_option linter.unusedSimpArgs false
set_option linter.unusedVariables false
end Go.Fx
namespace Go.Proofs.YtlfillhffpiffaaDoor
set_option linter.unusedSimpArgs false
set_option linter.unusedVariables false
set_option maxRecDepth 8000
open Go Go.Fx Go.Proofs
namespace FactsUniC
theorem ag55 : ag Tryd.prog 55 = some 1 := by kernel_rfl
theorem es53 : esz Tryd.prog 53 = some 9 := by kernel_rfl
theorem fo55_0 : foff Tryd.prog 55 0 = some 0 := by kernel_rfl
theorem fo65_2 : foff Tryd.prog 65 2 = some 2 := by kernel_rfl
theorem fo65_3 : foff Tryd.prog 65 3 = some 3 := by kernel_rfl
theorem isl53 : isSl Tryd.prog 53 = true := by kernel_rfl
theorem mixed : Tryd.prog.follows .mixedOrders = true := by kernel_rfl
theorem pl55 : places Tryd.prog 55 = some [(0, 1)] := by kernel_rfl
theorem sc3 : sc Tryd.prog 3 = true := by kernel_rfl
theorem sc53 : sc Tryd.prog 53 = true := by kernel_rfl
theorem zc55 : zc Tryd.prog 55 = some [.slice none 0 0] := by kernel_rfl
end FactsUniC
open FactsUniC

end Go.Proofs.YtlfillhffpiffaaDoor

namespace Go.Proofs.YtlfillhffpiffaaDoor
set_option linter.unusedSimpArgs false
set_option linter.unusedVariables false
set_option maxRecDepth 8000
open Go Go.Fx Go.Proofs

def zv (P : Program) (t : TypeId) : Option Value := (P.info? t).bind (·.zero)
section rules
variable {P : Program} {dst : Option Tmp} {ty : TypeId} {pos : String} {aft : Array Edge} {gd : Option (Nat × Bool)} {e : Env} {H : Heap}
end rules
section chg
variable {b1 b2 : Nat} {A B C : Heap}
end chg
end Go.Proofs.YtlfillhffpiffaaDoor

namespace Go.Proofs.YtlfillhffpiffaaDoor
set_option linter.unusedSimpArgs false
set_option linter.unusedVariables false
set_option maxRecDepth 8000
open Go Go.Fx Go.Proofs
namespace FactsUniA
theorem ag22 : ag Tryd.prog 22 = some 4 := by kernel_rfl
theorem arr22 : arr Tryd.prog 22 = some (4, 1) := by kernel_rfl
theorem fo24_0 : foff Tryd.prog 24 0 = some 0 := by kernel_rfl
theorem pl24 : places Tryd.prog 24 = some [(0, 4), (4, 1)] := by kernel_rfl
theorem sc3 : sc Tryd.prog 3 = true := by kernel_rfl
theorem zc24 : zc Tryd.prog 24 = some [.int .i64 0, .int .i64 0, .int .i64 0, .int .i64 0, .int .i64 0] := by kernel_rfl
end FactsUniA
open FactsUniA

theorem rowM_t {r : List Int} (h : rowM r = true) : -1 ≤ r.getD 4 0 ∧ r.getD 4 0 < 4096 := by
  unfold rowM at h
  simp only [Bool.and_eq_true, decide_eq_true_eq] at h
  exact h.2

end Go.Proofs.YtlfillhffpiffaaDoor

namespace Go.Proofs.YtlfillhffpiffaaDoor
set_option linter.unusedSimpArgs false
set_option linter.unusedVariables false
set_option maxRecDepth 8000
open Go Go.Fx Go.Proofs
namespace FactsUniB
theorem ag22 : ag Tryd.prog 22 = some 4 := by kernel_rfl
theorem ag24 : ag Tryd.prog 24 = some 5 := by kernel_rfl
theorem arr22 : arr Tryd.prog 22 = some (4, 1) := by kernel_rfl
theorem fo24_0 : foff Tryd.prog 24 0 = some 0 := by kernel_rfl
theorem fo24_1 : foff Tryd.prog 24 1 = some 4 := by kernel_rfl
theorem mixed : Tryd.prog.follows .mixedOrders = true := by kernel_rfl
theorem sc3 : sc Tryd.prog 3 = true := by kernel_rfl
end FactsUniB
open FactsUniB

end Go.Proofs.YtlfillhffpiffaaDoor

namespace Go.Proofs.YtlfillhffpiffaaDoor
set_option linter.unusedSimpArgs false
set_option linter.unusedVariables false
set_option maxRecDepth 8000
open Go Go.Fx Go.Proofs

def occ (v : Int) : Tm → Bool
  | .bas _ => false
  | .var w => decide (w = v)
  | .fn a _ b => occ v a || occ v b
theorem row_five {r : List Int} (h : r.length = 5) : ∃ a b c d e, r = [a, b, c, d, e] := by
  match r, h with
  | [a, b, c, d, e], _ => exact ⟨a, b, c, d, e, rfl⟩
end Go.Proofs.YtlfillhffpiffaaDoor

namespace Go.Fx
open Go
set_option linter.unusedSimpArgs false
set_option linter.unusedVariables false
section
variable {P : Program} {dst : Option Tmp} {ty : TypeId} {pos : String} {aft : Array Edge} {gd : Option (Nat × Bool)} {e : Env} {H H' : Heap}
end
end Go.Fx
namespace Go.Proofs.YtlfillhffpiffaaDoor
set_option linter.unusedSimpArgs false
set_option linter.unusedVariables false
set_option maxRecDepth 8000
open Go Go.Fx Go.Proofs

theorem flat_at {α : Type} {enc : α → List Value} {n : Nat} {L : List α} (hL : Wide enc n L) {i : Nat} (hi : i < L.length) :
    ∃ p q, L.flatMap enc = p ++ enc L[i] ++ q ∧ p.length = i * n ∧ ∀ x, (L.set i x).flatMap enc = p ++ enc x ++ q := by
  refine ⟨(L.take i).flatMap enc, (L.drop (i + 1)).flatMap enc, ?_, ?_, fun x => ?_⟩
  · have h : L = L.take i ++ L[i] :: L.drop (i + 1) := by rw [← List.drop_eq_getElem_cons hi, List.take_append_drop]
    have h2 : L.flatMap enc = (L.take i ++ L[i] :: L.drop (i + 1)).flatMap enc := congrArg (·.flatMap enc) h
    rw [h2]
    simp only [List.flatMap_append, List.flatMap_cons, List.append_assoc]
  · rw [flat_len (fun x hx => hL x (List.mem_of_mem_take hx)), List.length_take]; congr 1; omega
  · rw [List.set_eq_take_append_cons_drop, if_pos hi]
    simp [List.flatMap_append, List.flatMap_cons]
end Go.Proofs.YtlfillhffpiffaaDoor

namespace Go.Proofs.YtlfillhffpiffaaDoor
set_option linter.unusedSimpArgs false
set_option linter.unusedVariables false
set_option maxRecDepth 8000
open Go Go.Fx Go.Proofs

def adR (r s : List Int) : List Int := [r.getD 0 0 + s.getD 0 0, r.getD 1 0 + s.getD 1 0, r.getD 2 0 + s.getD 2 0, r.getD 3 0 + s.getD 3 0, s.getD 4 0]
theorem adR_five (a b c d e a' b' c' d' e' : Int) : adR [a, b, c, d, e] [a', b', c', d', e'] = [a + a', b + b', c + c', d + d', e'] := rfl
structure Asg where
  T : Int → Tm
  R : Int → List Int
def Asg.row (θ : Asg) (r : List Int) : List Int := if r.getD 4 0 < 0 then r else adR r (θ.R (r.getD 4 0))
def Asg.tm (θ : Asg) : Tm → Tm
  | .bas k => .bas k
  | .var v => θ.T v
  | .fn a r b => .fn (θ.tm a) (θ.row r) (θ.tm b)
theorem Asg.row_no {θ : Asg} {r : List Int} (h : r.getD 4 0 < 0) : θ.row r = r := if_pos h
theorem Asg.row_yes {θ : Asg} {r : List Int} (h : ¬ r.getD 4 0 < 0) : θ.row r = adR r (θ.R (r.getD 4 0)) := if_neg h
end Go.Proofs.YtlfillhffpiffaaDoor

namespace Go.Proofs.YtlfillhffpiffaaDoor
set_option linter.unusedSimpArgs false
set_option linter.unusedVariables false
set_option maxRecDepth 8000
set_option maxHeartbeats 4000000
open Go Go.Fx Go.Proofs
namespace FactsUniY

end FactsUniY
open FactsUniY

theorem nod_row {c : List Value} {o : Nat} {a b : Int} {r : List Int} (h : (c.drop o).take 9 = Is (fNode a b r)) (hr : r.length = 5) : (c.drop (o + 4)).take 5 = Is r := by
  rw [← List.drop_drop, take_mid h (by decide)]
  simp [Is]
  rw [List.take_of_length_le (by simp [hr])]
end Go.Proofs.YtlfillhffpiffaaDoor

namespace Go.Proofs.YtlfillhffpiffaaDoor
set_option linter.unusedSimpArgs false
set_option linter.unusedVariables false
set_option maxRecDepth 8000
open Go Go.Fx Go.Proofs
namespace FactsUniD
theorem ag55 : ag Tryd.prog 55 = some 1 := by kernel_rfl
theorem ag65 : ag Tryd.prog 65 = some 9 := by kernel_rfl
theorem apt53 : appT Tryd.prog 53 = some (65, 9, 72) := by kernel_rfl
theorem es53 : esz Tryd.prog 53 = some 9 := by kernel_rfl
theorem fo55_0 : foff Tryd.prog 55 0 = some 0 := by kernel_rfl
theorem fo65_0 : foff Tryd.prog 65 0 = some 0 := by kernel_rfl
theorem fo65_2 : foff Tryd.prog 65 2 = some 2 := by kernel_rfl
theorem fo65_3 : foff Tryd.prog 65 3 = some 3 := by kernel_rfl
theorem pl55 : places Tryd.prog 55 = some [(0, 1)] := by kernel_rfl
theorem sc3 : sc Tryd.prog 3 = true := by kernel_rfl
theorem sc53 : sc Tryd.prog 53 = true := by kernel_rfl
theorem slA53 : slA Tryd.prog 53 = some (65, 9) := by kernel_rfl
theorem zc55 : zc Tryd.prog 55 = some [.slice none 0 0] := by kernel_rfl
theorem zc65 : zc Tryd.prog 65 = some [.int .i64 0, .int .i64 0, .int .i64 0, .int .i64 0, .int .i64 0, .int .i64 0, .int .i64 0, .int .i64 0, .int .i64 0] := by kernel_rfl
end FactsUniD
open FactsUniD

end Go.Proofs.YtlfillhffpiffaaDoor

namespace Go.Proofs.YtlfillhffpiffaaDoor
set_option linter.unusedSimpArgs false
set_option linter.unusedVariables false
set_option maxRecDepth 8000
open Go Go.Fx Go.Proofs

structure Asg.Ok (θ : Asg) : Prop where
  len : ∀ v, 0 ≤ v → (θ.R v).length = 5
  pos : ∀ v, 0 ≤ v → ∀ i, i < 4 → 0 ≤ (θ.R v).getD i 0
  tl : ∀ v, 0 ≤ v → -1 ≤ (θ.R v).getD 4 0
theorem adR_at (r s : List Int) : ∀ i, i < 4 → (adR r s).getD i 0 = r.getD i 0 + s.getD i 0
  | 0, _ => rfl
  | 1, _ => rfl
  | 2, _ => rfl
  | 3, _ => rfl
end Go.Proofs.YtlfillhffpiffaaDoor

namespace Go.Proofs.YtlfillhffpiffaaDoor
set_option linter.unusedSimpArgs false
set_option linter.unusedVariables false
set_option maxRecDepth 8000
set_option maxHeartbeats 1000000
open Go Go.Fx Go.Proofs
namespace FactsUniMA
theorem ag22 : ag Tryd.prog 22 = some 4 := by kernel_rfl
theorem ag24 : ag Tryd.prog 24 = some 5 := by kernel_rfl
theorem ag65 : ag Tryd.prog 65 = some 9 := by kernel_rfl
theorem arr22 : arr Tryd.prog 22 = some (4, 1) := by kernel_rfl
theorem eqt65 : eqT Tryd.prog 65 = some [.int .i64, .int .i64, .int .i64, .int .i64, .int .i64, .int .i64, .int .i64, .int .i64, .int .i64] := by kernel_rfl
theorem es53 : esz Tryd.prog 53 = some 9 := by kernel_rfl
theorem fo24_0 : foff Tryd.prog 24 0 = some 0 := by kernel_rfl
theorem fo24_1 : foff Tryd.prog 24 1 = some 4 := by kernel_rfl
theorem fo55_0 : foff Tryd.prog 55 0 = some 0 := by kernel_rfl
theorem isl53 : isSl Tryd.prog 53 = true := by kernel_rfl
theorem mixed : Tryd.prog.follows .mixedOrders = true := by kernel_rfl
theorem sc3 : sc Tryd.prog 3 = true := by kernel_rfl
theorem sc53 : sc Tryd.prog 53 = true := by kernel_rfl
end FactsUniMA
open FactsUniMA

end Go.Proofs.YtlfillhffpiffaaDoor

namespace Go.Proofs.YtlfillhffpiffaaDoor
set_option linter.unusedSimpArgs false
set_option linter.unusedVariables false
set_option maxRecDepth 8000
set_option maxHeartbeats 1000000
open Go Go.Fx Go.Proofs
namespace FactsUniNB
theorem ag65 : ag Tryd.prog 65 = some 9 := by kernel_rfl
theorem eqt65 : eqT Tryd.prog 65 = some [.int .i64, .int .i64, .int .i64, .int .i64, .int .i64, .int .i64, .int .i64, .int .i64, .int .i64] := by kernel_rfl
theorem es53 : esz Tryd.prog 53 = some 9 := by kernel_rfl
theorem fo55_0 : foff Tryd.prog 55 0 = some 0 := by kernel_rfl
theorem isl53 : isSl Tryd.prog 53 = true := by kernel_rfl
theorem mixed : Tryd.prog.follows .mixedOrders = true := by kernel_rfl
theorem sc53 : sc Tryd.prog 53 = true := by kernel_rfl
end FactsUniNB
open FactsUniNB

end Go.Proofs.YtlfillhffpiffaaDoor

namespace Go.Proofs.YtlfillhffpiffaaDoor
set_option linter.unusedSimpArgs false
set_option linter.unusedVariables false
set_option maxRecDepth 8000
set_option maxHeartbeats 1000000
open Go Go.Fx Go.Proofs
namespace FactsUniNC
theorem ag22 : ag Tryd.prog 22 = some 4 := by kernel_rfl
theorem ag24 : ag Tryd.prog 24 = some 5 := by kernel_rfl
theorem arr1_22 : arr1 Tryd.prog 22 = some 4 := by kernel_rfl
theorem arr22 : arr Tryd.prog 22 = some (4, 1) := by kernel_rfl
theorem fo24_0 : foff Tryd.prog 24 0 = some 0 := by kernel_rfl
theorem fo24_1 : foff Tryd.prog 24 1 = some 4 := by kernel_rfl
theorem mixed : Tryd.prog.follows .mixedOrders = true := by kernel_rfl
theorem pl24 : places Tryd.prog 24 = some [(0, 4), (4, 1)] := by kernel_rfl
theorem sc3 : sc Tryd.prog 3 = true := by kernel_rfl
theorem zc24 : zc Tryd.prog 24 = some [.int .i64 0, .int .i64 0, .int .i64 0, .int .i64 0, .int .i64 0] := by kernel_rfl
end FactsUniNC
open FactsUniNC

end Go.Proofs.YtlfillhffpiffaaDoor

namespace Go.Proofs.YtlfillhffpiffaaDoor
set_option linter.unusedSimpArgs false
set_option linter.unusedVariables false
set_option maxRecDepth 8000
set_option maxHeartbeats 1000000
open Go Go.Fx Go.Proofs
namespace FactsUniZ

end FactsUniZ
open FactsUniZ

theorem enc_inj {t u : Tm} (ht : t.ok) (hu : u.ok) (htz : t.sz ≤ 256) (h : t.enc 0 = u.enc 0) : t = u := by
  suffices key : ∀ (t u : Tm) (k : Int), t.ok → u.ok → t.enc k = u.enc k → t = u from key t u 0 ht hu h
  intro t
  induction t with
  | bas k =>
    intro u j _ _ h
    cases u with
    | bas l => cases k <;> cases l <;> first | rfl | (simp [Tm.enc] at h)
    | var v => cases k <;> simp [Tm.enc] at h
    | fn a r b =>
      have := congrArg List.length h
      rw [Tm.enc_len, Tm.enc_len] at this
      have := a.sz_pos; have := b.sz_pos
      simp only [Tm.sz] at *; omega
  | var v =>
    intro u j _ _ h
    cases u with
    | bas l => cases l <;> simp [Tm.enc] at h
    | var w => simp [Tm.enc] at h; rw [h]
    | fn a r b =>
      have := congrArg List.length h
      rw [Tm.enc_len, Tm.enc_len] at this
      have := a.sz_pos; have := b.sz_pos
      simp only [Tm.sz] at *; omega
  | fn a r b iha ihb =>
    intro u j ht hu h
    cases u with
    | bas l =>
      have := congrArg List.length h
      rw [Tm.enc_len, Tm.enc_len] at this
      have := a.sz_pos; have := b.sz_pos
      simp only [Tm.sz] at *; omega
    | var w =>
      have := congrArg List.length h
      rw [Tm.enc_len, Tm.enc_len] at this
      have := a.sz_pos; have := b.sz_pos
      simp only [Tm.sz] at *; omega
    | fn a' r' b' =>
      simp only [Tm.enc] at h
      have hlen := congrArg List.length h
      simp only [List.length_append, Tm.enc_len, List.length_singleton] at hlen
      have h2 := List.append_inj_right' h rfl
      have h1 := List.append_inj_left' h rfl
      simp only [List.cons.injEq, and_true, List.cons_append, List.nil_append] at h2
      have hsz : a.sz = a'.sz := by have := h2.2.2.1; omega
      have e1 := List.append_inj_left h1 (by rw [Tm.enc_len, Tm.enc_len, hsz])
      have e2 := List.append_inj_right h1 (by rw [Tm.enc_len, Tm.enc_len, hsz])
      rw [← hsz] at e2
      rw [iha a' j ht.1 hu.1 e1, ihb b' _ ht.2.2.2 hu.2.2.2 e2, h2.2.2.2.2]
end Go.Proofs.YtlfillhffpiffaaDoor

namespace Go.Proofs.YtlfillhffpiffaaDoor
set_option linter.unusedSimpArgs false
set_option linter.unusedVariables false
set_option maxRecDepth 8000
set_option maxHeartbeats 600000
open Go Go.Fx Go.Proofs
namespace FactsUniND
theorem ag55 : ag Tryd.prog 55 = some 1 := by kernel_rfl
theorem fo65_0 : foff Tryd.prog 65 0 = some 0 := by kernel_rfl
theorem fo65_1 : foff Tryd.prog 65 1 = some 1 := by kernel_rfl
theorem fo65_4 : foff Tryd.prog 65 4 = some 4 := by kernel_rfl
theorem mixed : Tryd.prog.follows .mixedOrders = true := by kernel_rfl
theorem sc3 : sc Tryd.prog 3 = true := by kernel_rfl
theorem zc55 : zc Tryd.prog 55 = some [.slice none 0 0] := by kernel_rfl
end FactsUniND
open FactsUniND

theorem at0 (v : Value) : ([v] : List Value)[0]? = some v := rfl
end Go.Proofs.YtlfillhffpiffaaDoor

namespace Go.Proofs.YtlfillhffpiffaaDoor
set_option linter.unusedSimpArgs false
set_option linter.unusedVariables false
set_option maxRecDepth 8000
set_option maxHeartbeats 600000
open Go Go.Fx Go.Proofs
namespace FactsUniNE
theorem ag55 : ag Tryd.prog 55 = some 1 := by kernel_rfl
end FactsUniNE
open FactsUniNE

end Go.Proofs.YtlfillhffpiffaaDoor

namespace Go.Proofs.YtlfillhffpiffaaDoor
set_option linter.unusedSimpArgs false
set_option linter.unusedVariables false
set_option maxRecDepth 8000
set_option maxHeartbeats 4000000
open Go Go.Fx Go.Proofs
namespace FactsUniMB
theorem ag24 : ag Tryd.prog 24 = some 5 := by kernel_rfl
theorem ag55 : ag Tryd.prog 55 = some 1 := by kernel_rfl
theorem ag65 : ag Tryd.prog 65 = some 9 := by kernel_rfl
theorem es53 : esz Tryd.prog 53 = some 9 := by kernel_rfl
theorem fo55_0 : foff Tryd.prog 55 0 = some 0 := by kernel_rfl
theorem fo65_0 : foff Tryd.prog 65 0 = some 0 := by kernel_rfl
theorem fo65_1 : foff Tryd.prog 65 1 = some 1 := by kernel_rfl
theorem fo65_2 : foff Tryd.prog 65 2 = some 2 := by kernel_rfl
theorem fo65_3 : foff Tryd.prog 65 3 = some 3 := by kernel_rfl
theorem fo65_4 : foff Tryd.prog 65 4 = some 4 := by kernel_rfl
theorem mixed : Tryd.prog.follows .mixedOrders = true := by kernel_rfl
theorem sc3 : sc Tryd.prog 3 = true := by kernel_rfl
theorem sc53 : sc Tryd.prog 53 = true := by kernel_rfl
theorem zc55 : zc Tryd.prog 55 = some [.slice none 0 0] := by kernel_rfl
theorem zc65 : zc Tryd.prog 65 = some [.int .i64 0, .int .i64 0, .int .i64 0, .int .i64 0, .int .i64 0, .int .i64 0, .int .i64 0, .int .i64 0, .int .i64 0] := by kernel_rfl
end FactsUniMB
open FactsUniMB

end Go.Proofs.YtlfillhffpiffaaDoor

namespace Go.Proofs.YtlfillhffpiffaaDoor
set_option linter.unusedSimpArgs false
set_option linter.unusedVariables false
set_option maxRecDepth 8000
set_option maxHeartbeats 1000000
open Go Go.Fx Go.Proofs
namespace FactsUniAA
theorem ag55 : ag Tryd.prog 55 = some 1 := by kernel_rfl
theorem sc3 : sc Tryd.prog 3 = true := by kernel_rfl
end FactsUniAA
open FactsUniAA

end Go.Proofs.YtlfillhffpiffaaDoor

namespace Go.Proofs.YtlfillhffpiffaaDoor
set_option linter.unusedSimpArgs false
set_option linter.unusedVariables false
set_option maxRecDepth 8000
set_option maxHeartbeats 1000000
open Go Go.Fx Go.Proofs
namespace FactsUniMC
theorem ag55 : ag Tryd.prog 55 = some 1 := by kernel_rfl
theorem fo55_0 : foff Tryd.prog 55 0 = some 0 := by kernel_rfl
theorem isl53 : isSl Tryd.prog 53 = true := by kernel_rfl
theorem sc53 : sc Tryd.prog 53 = true := by kernel_rfl
end FactsUniMC
open FactsUniMC

end Go.Proofs.YtlfillhffpiffaaDoor

namespace Go.Proofs.YtlfillhffpiffaaDoor
set_option linter.unusedSimpArgs false
set_option linter.unusedVariables false
set_option maxRecDepth 8000
open Go Go.Fx Go.Proofs
namespace FactsUniSA
end FactsUniSA
open FactsUniSA

def bstr (l : List Int) : ByteArray := l.foldl (fun r n => r.push (UInt8.ofNat n.toNat)) ByteArray.empty
theorem push_size : ∀ (l : List Int) (s : ByteArray), (l.foldl (fun r n => r.push (UInt8.ofNat n.toNat)) s).size = s.size + l.length
  | [], _ => rfl
  | x :: l, s => by
    rw [List.foldl_cons, push_size l, ByteArray.size_push, List.length_cons]; omega
theorem bstr_size (l : List Int) : (bstr l).size = l.length := by
  unfold bstr; rw [push_size]; simp
section rules
variable {P : Program} {dst : Option Tmp} {ty : TypeId} {pos : String} {aft : Array Edge} {gd : Option (Nat × Bool)} {e : Env} {H : Heap}
theorem Pur.addS {t t' : TypeId} {x y : Operand} {a b : ByteArray} (hx : ev e x = some (.string a)) (hy : ev e y = some (.string b)) (h : a.size + b.size ≤ 9223372036854775807) :
    Pur P ⟨dst, .binOp .add t x y t', ty, pos, aft, gd⟩ e (.string (a ++ b)) := by
  intro A w hA
  have e1 := hA.ev hx
  have e2 := hA.ev hy
  have hn : ¬ ((a.size + b.size : Nat) : Int) > IntKind.i64.max := by rw [show IntKind.i64.max = 9223372036854775807 from rfl]; omega
  simp only [execOp, e1, e2, eqGuard_at_string, Sem.run_bind, Sem.run_pure, Result.andThen_ok]
  simp only [binOp, Op.stringOp]
  rw [if_neg hn]
  simp
end rules

def decG : Nat → Nat → List Int → List Int
  | 0, _, l => l
  | f + 1, n, l => if n = 0 ∧ l.length ≠ 0 then l else decG f (n / 10) (((48 + n % 10 : Nat) : Int) :: l)
def decI (n : Nat) : List Int := decG 8 n []
theorem decG_len : ∀ (f n : Nat) (l : List Int), (decG f n l).length ≤ f + l.length
  | 0, n, l => by simp [decG]
  | f + 1, n, l => by
    unfold decG; split
    · omega
    · have := decG_len f (n / 10) (((48 + n % 10 : Nat) : Int) :: l)
      rw [List.length_cons] at this; omega
def dec (n : Nat) : ByteArray := bstr (decI n)
theorem dec_size (n : Nat) : (dec n).size ≤ 8 := by
  unfold dec; rw [bstr_size]; exact decG_len 8 n []
theorem decG_go {f n : Nat} {l : List Int} (h : 0 < n ∨ l.length = 0) : decG (f + 1) n l = decG f (n / 10) (((48 + n % 10 : Nat) : Int) :: l) := by
  show (if _ then _ else _) = _
  rw [if_neg (by omega)]
theorem decG_end {f : Nat} {l : List Int} (h : l.length ≠ 0) : decG (f + 1) 0 l = l := by
  show (if _ then _ else _) = _
  rw [if_pos ⟨rfl, h⟩]
theorem pow_step {f n : Nat} (hf : n < 10 ^ (f + 1)) : n / 10 < 10 ^ f := by
  rw [Nat.pow_succ] at hf; omega
end Go.Proofs.YtlfillhffpiffaaDoor

namespace Go.Proofs.YtlfillhffpiffaaDoor
set_option linter.unusedSimpArgs false
set_option linter.unusedVariables false
set_option maxRecDepth 8000
open Go Go.Fx Go.Proofs
namespace FactsUniSB
theorem arr22 : arr Tryd.prog 22 = some (4, 1) := by kernel_rfl
theorem fo24_0 : foff Tryd.prog 24 0 = some 0 := by kernel_rfl
theorem fo24_1 : foff Tryd.prog 24 1 = some 4 := by kernel_rfl
theorem sc3 : sc Tryd.prog 3 = true := by kernel_rfl
end FactsUniSB
open FactsUniSB

def rone (i : Nat) (s : ByteArray) : ByteArray := (if (!(s.toList == (⟨#[]⟩ : ByteArray).toList)) = true then s ++ ⟨#[44]⟩ else s) ++ ⟨#[111]⟩ ++ dec i
def rrep (i : Nat) : Nat → ByteArray → ByteArray
  | 0, s => s
  | k + 1, s => rone i (rrep i k s)
def rall (r : List Int) : Nat → ByteArray
  | 0 => ⟨#[]⟩
  | i + 1 => rrep i (r.getD i 0).toNat (rall r i)
def rtx (R : List Int) (r : List Int) : ByteArray := ⟨#[60]⟩ ++ (if 0 ≤ r.getD 4 0 then rall r 4 ++ ⟨#[124, 101]⟩ ++ dec (ixL R (r.getD 4 0)) else rall r 4) ++ ⟨#[62]⟩
def rnm (R : List Int) (r : List Int) : List Int := if 0 ≤ r.getD 4 0 then addL R (r.getD 4 0) else R
theorem sz1 (a : UInt8) : (ByteArray.mk #[a]).size = 1 := rfl
theorem sz2 (a b : UInt8) : (ByteArray.mk #[a, b]).size = 2 := rfl
theorem rone_size (i : Nat) (s : ByteArray) : (rone i s).size ≤ s.size + 10 := by
  have := dec_size i
  unfold rone
  rw [ByteArray.size_append, ByteArray.size_append]
  split
  · rw [ByteArray.size_append, sz1, sz1]; omega
  · rw [sz1]; omega
theorem rrep_size (i : Nat) : ∀ (k : Nat) (s : ByteArray), (rrep i k s).size ≤ s.size + 10 * k
  | 0, s => by simp [rrep]
  | k + 1, s => by
    have h1 := rone_size i (rrep i k s)
    have h2 := rrep_size i k s
    unfold rrep; omega
theorem row_cnt {r : List Int} (h5 : r.length = 5) (h : rowM r = true) : ∀ i, i < 4 → 0 ≤ r.getD i 0 ∧ r.getD i 0 ≤ 32 := by
  intro i hi
  unfold rowM at h
  simp only [Bool.and_eq_true, List.all_eq_true] at h
  have := h.1 (r.getD i 0) (by rw [← take4_at h5 hi]; exact List.getElem_mem _)
  simpa [okc] using this
theorem rall_size {r : List Int} (h5 : r.length = 5) (h : rowM r = true) : ∀ i, i ≤ 4 → (rall r i).size ≤ 320 * i
  | 0, _ => Nat.le_refl 0
  | i + 1, hi => by
    have h1 := rrep_size i (r.getD i 0).toNat (rall r i)
    have h2 := rall_size h5 h i (by omega)
    have h3 := row_cnt h5 h i (by omega)
    unfold rall; omega
theorem rtx_size {R r : List Int} (h5 : r.length = 5) (h : rowM r = true) : (rtx R r).size ≤ 1300 := by
  have h1 := rall_size h5 h 4 (Nat.le_refl _)
  have h2 := dec_size (ixL R (r.getD 4 0))
  unfold rtx
  rw [ByteArray.size_append, ByteArray.size_append, sz1, sz1]
  split
  · rw [ByteArray.size_append, ByteArray.size_append, sz2]; omega
  · omega
theorem sza {a b : ByteArray} {m n : Nat} (h : a.size ≤ m) (k : b.size ≤ n) : (a ++ b).size ≤ m + n := by rw [ByteArray.size_append]; omega
theorem szs {a b : ByteArray} {m n : Nat} (h : a.size ≤ m) (k : b.size ≤ n) (hn : m + n ≤ 1000000000000) : a.size + b.size ≤ 9223372036854775807 := by omega
theorem sl1 (a : UInt8) : (ByteArray.mk #[a]).size ≤ 1 := Nat.le_refl _
theorem sl2 (a b : UInt8) : (ByteArray.mk #[a, b]).size ≤ 2 := Nat.le_refl _

end Go.Proofs.YtlfillhffpiffaaDoor

namespace Go.Proofs.YtlfillhffpiffaaDoor
set_option linter.unusedSimpArgs false
set_option linter.unusedVariables false
set_option maxRecDepth 8000
open Go Go.Fx Go.Proofs
namespace FactsUniSC
theorem ag24 : ag Tryd.prog 24 = some 5 := by kernel_rfl
theorem ag55 : ag Tryd.prog 55 = some 1 := by kernel_rfl
theorem ag65 : ag Tryd.prog 65 = some 9 := by kernel_rfl
theorem es53 : esz Tryd.prog 53 = some 9 := by kernel_rfl
theorem fo55_0 : foff Tryd.prog 55 0 = some 0 := by kernel_rfl
theorem fo65_0 : foff Tryd.prog 65 0 = some 0 := by kernel_rfl
theorem fo65_1 : foff Tryd.prog 65 1 = some 1 := by kernel_rfl
theorem fo65_2 : foff Tryd.prog 65 2 = some 2 := by kernel_rfl
theorem fo65_3 : foff Tryd.prog 65 3 = some 3 := by kernel_rfl
theorem fo65_4 : foff Tryd.prog 65 4 = some 4 := by kernel_rfl
theorem isl53 : isSl Tryd.prog 53 = true := by kernel_rfl
theorem sc3 : sc Tryd.prog 3 = true := by kernel_rfl
theorem sc53 : sc Tryd.prog 53 = true := by kernel_rfl
theorem zc65 : zc Tryd.prog 65 = some [.int .i64 0, .int .i64 0, .int .i64 0, .int .i64 0, .int .i64 0, .int .i64 0, .int .i64 0, .int .i64 0, .int .i64 0] := by kernel_rfl
end FactsUniSC
open FactsUniSC

def tx : Nms → Tm → ByteArray × Nms
  | N, .bas b => (if b then ⟨#[98, 111, 111, 108]⟩ else ⟨#[105, 110, 116]⟩, N)
  | N, .var v => (⟨#[116]⟩ ++ dec (ixL N.1 v), (addL N.1 v, N.2))
  | N, .fn a r b => (⟨#[40]⟩ ++ (tx N a).1 ++ ⟨#[32, 45]⟩ ++ rtx (tx N a).2.2 r ++ ⟨#[32]⟩ ++ (tx ((tx N a).2.1, rnm (tx N a).2.2 r) b).1 ++ ⟨#[41]⟩, (tx ((tx N a).2.1, rnm (tx N a).2.2 r) b).2)
theorem tx_size : ∀ (t : Tm) (N : Nms), t.ok → (tx N t).1.size ≤ 1400 * t.sz
  | .bas b, N, _ => by cases b <;> exact Nat.le_of_ble_eq_true rfl
  | .var v, N, _ => by
    have := dec_size (ixL N.1 v)
    simp only [tx, Tm.sz]
    rw [ByteArray.size_append, sz1]; omega
  | .fn a r b, N, h => by
    have h1 := tx_size a N h.1
    have h2 := tx_size b ((tx N a).2.1, rnm (tx N a).2.2 r) h.2.2.2
    have h3 := rtx_size (R := (tx N a).2.2) h.2.1 h.2.2.1
    simp only [tx, Tm.sz]
    rw [ByteArray.size_append, ByteArray.size_append, ByteArray.size_append, ByteArray.size_append, ByteArray.size_append, ByteArray.size_append, sz1, sz2, sz1, sz1]
    omega
theorem rnm_len (R r : List Int) : (rnm R r).length ≤ R.length + 1 := by
  have := addL_len R (r.getD 4 0)
  unfold rnm; split <;> omega
theorem tx_len : ∀ (t : Tm) (N : Nms), (tx N t).2.1.length + (tx N t).2.2.length ≤ N.1.length + N.2.length + t.sz
  | .bas b, N => by simp only [tx, Tm.sz]; omega
  | .var v, N => by
    have := addL_len N.1 v
    simp only [tx, Tm.sz]; omega
  | .fn a r b, N => by
    have h1 := tx_len a N
    have h2 := tx_len b ((tx N a).2.1, rnm (tx N a).2.2 r)
    have h3 := rnm_len (tx N a).2.2 r
    simp only [tx, Tm.sz]
    dsimp only at h2
    omega
theorem nd_at (t : Tm) (pre post : List (List Int)) (x : List Int) (hx : el (pre ++ t.enc pre.length ++ post) ((pre.length : Int) + t.sz - 1) = x) :
    (x.getD 0 0 = 0 → t = .bas false) ∧ (x.getD 0 0 = 1 → t = .bas true) ∧ (x.getD 0 0 = 2 → t = .var (x.getD 1 0)) ∧
    (x.getD 0 0 ≠ 0 → x.getD 0 0 ≠ 1 → x.getD 0 0 ≠ 2 → ∃ a r b, t = .fn a r b ∧ x = fNode ((pre.length : Int) + a.sz - 1) ((pre.length : Int) + a.sz + b.sz - 1) r) := by
  cases t with
  | bas b =>
    rw [show (pre.length : Int) + (Tm.bas b).sz - 1 = pre.length by simp only [Tm.sz]; omega] at hx
    simp only [Tm.enc, List.append_assoc, List.singleton_append] at hx
    rw [el_mid] at hx; subst hx
    cases b <;> simp
  | var v =>
    rw [show (pre.length : Int) + (Tm.var v).sz - 1 = pre.length by simp only [Tm.sz]; omega] at hx
    simp only [Tm.enc, List.append_assoc, List.singleton_append] at hx
    rw [el_mid] at hx; subst hx
    simp
  | fn a r b =>
    have hp2 : ((pre ++ a.enc pre.length ++ b.enc ((pre.length : Int) + a.sz)).length : Int) = (pre.length : Int) + a.sz + b.sz := by rw [List.length_append, List.length_append, Tm.enc_len, Tm.enc_len]; omega
    have hL1 : pre ++ (Tm.fn a r b).enc pre.length ++ post = (pre ++ a.enc pre.length ++ b.enc ((pre.length : Int) + a.sz)) ++ fNode ((pre.length : Int) + a.sz - 1) ((pre.length : Int) + a.sz + b.sz - 1) r :: post := by
      simp only [Tm.enc, List.append_assoc, List.singleton_append]
    rw [hL1, show (pre.length : Int) + (Tm.fn a r b).sz - 1 = ((pre ++ a.enc pre.length ++ b.enc ((pre.length : Int) + a.sz)).length : Int) by rw [hp2]; simp only [Tm.sz]; omega, el_mid] at hx
    subst hx
    exact ⟨fun h => by (change (3 : Int) = 0 at h); omega, fun h => by (change (3 : Int) = 1 at h); omega, fun h => by (change (3 : Int) = 2 at h); omega, fun _ _ _ => ⟨a, r, b, rfl, rfl⟩⟩
theorem spl_a (a : Tm) (r : List Int) (b : Tm) (pre post : List (List Int)) : pre ++ (Tm.fn a r b).enc pre.length ++ post = pre ++ a.enc pre.length ++ (b.enc ((pre.length : Int) + a.sz) ++ fNode ((pre.length : Int) + a.sz - 1) ((pre.length : Int) + a.sz + b.sz - 1) r :: post) := by
  simp only [Tm.enc, List.append_assoc, List.singleton_append]
theorem spl_b (a : Tm) (r : List Int) (b : Tm) (pre post : List (List Int)) : pre ++ (Tm.fn a r b).enc pre.length ++ post = (pre ++ a.enc pre.length) ++ b.enc ((pre ++ a.enc pre.length).length : Int) ++ (fNode ((pre.length : Int) + a.sz - 1) ((pre.length : Int) + a.sz + b.sz - 1) r :: post) := by
  have hp : ((pre ++ a.enc pre.length).length : Int) = (pre.length : Int) + a.sz := by rw [List.length_append, Tm.enc_len]; omega
  rw [hp]; simp only [Tm.enc, List.append_assoc, List.singleton_append]
theorem spl_l (a : Tm) (pre : List (List Int)) : (pre ++ a.enc pre.length).length = pre.length + a.sz := by rw [List.length_append, Tm.enc_len]

end Go.Proofs.YtlfillhffpiffaaDoor

namespace Go.Proofs.YtlfillhffpiffaaDoor
set_option linter.unusedSimpArgs false
set_option linter.unusedVariables false
set_option maxRecDepth 8000
open Go Go.Fx Go.Proofs

def PrT (θ θ' : Asg) (σ : Int → Int) (v : Int) : Prop := θ.T v = .var (σ v) ∧ θ'.T (σ v) = .var v
def PrR (θ θ' : Asg) (ρ : Int → Int) (v : Int) : Prop := θ.R v = [0, 0, 0, 0, ρ v] ∧ 0 ≤ ρ v ∧ θ'.R (ρ v) = [0, 0, 0, 0, v]
def nmV : Tm → Int
  | .var w => w
  | _ => 0
theorem ix_map {σ : Int → Int} {v : Int} : ∀ {T : List Int}, (∀ u ∈ T, σ u = σ v → u = v) → ixL (T.map σ) (σ v) = ixL T v
  | [], _ => rfl
  | x :: T, h => by
    simp only [List.map_cons, ixL]
    by_cases hx : x = v
    · rw [if_pos hx, if_pos (by rw [hx])]
    · rw [if_neg hx, if_neg (fun e => hx (h x List.mem_cons_self e)), ix_map (fun u hu => h u (List.mem_cons_of_mem _ hu))]
theorem add_map {σ : Int → Int} {v : Int} {T : List Int} (h : ∀ u ∈ T, σ u = σ v → u = v) : addL (T.map σ) (σ v) = (addL T v).map σ := by
  unfold addL inL
  rw [ix_map h, List.length_map]
  split <;> simp
theorem mem_add {T : List Int} {v u : Int} (h : u ∈ addL T v) : u ∈ T ∨ u = v := by
  unfold addL at h
  split at h
  · exact .inl h
  · simpa using h
theorem pr_inj {θ θ' : Asg} {σ : Int → Int} {u v : Int} (hu : PrT θ θ' σ u) (hv : PrT θ θ' σ v) (e : σ u = σ v) : u = v := by
  have h1 := hu.2
  rw [e, hv.2] at h1
  injection h1 with h1; exact h1.symm
theorem prR_inj {θ θ' : Asg} {ρ : Int → Int} {u v : Int} (hu : PrR θ θ' ρ u) (hv : PrR θ θ' ρ v) (e : ρ u = ρ v) : u = v := by
  have h1 := hu.2.2
  rw [e, hv.2.2] at h1
  injection h1 with _ h1; injection h1 with _ h1; injection h1 with _ h1; injection h1 with _ h1; injection h1 with h1; exact h1.symm
theorem rall_of {r s : List Int} (h : ∀ i, i < 4 → s.getD i 0 = r.getD i 0) : ∀ i, i ≤ 4 → rall s i = rall r i
  | 0, _ => rfl
  | i + 1, hi => by
    unfold rall
    rw [rall_of h i (by omega), h i (by omega)]
theorem row_back {θ θ' : Asg} (hθ : θ.Ok) (hθ' : θ'.Ok) {r : List Int} (h5 : r.length = 5) (ht : ¬ r.getD 4 0 < 0) (h : θ'.row (θ.row r) = r) :
    PrR θ θ' (fun v => (θ.R v).getD 4 0) (r.getD 4 0) ∧ θ.row r = adR r [0, 0, 0, 0, (θ.R (r.getD 4 0)).getD 4 0] := by
  have k1 := hθ.len (r.getD 4 0) (by omega)
  have k2 := hθ.pos (r.getD 4 0) (by omega)
  rw [Asg.row_yes ht] at h ⊢
  generalize hd : θ.R (r.getD 4 0) = d at k1 k2 h ⊢
  obtain ⟨d0, d1, d2, d3, d4, rfl⟩ := row_five k1
  obtain ⟨r0, r1, r2, r3, r4, rfl⟩ := row_five h5
  have e4 : (adR [r0, r1, r2, r3, r4] [d0, d1, d2, d3, d4]).getD 4 0 = d4 := rfl
  have hr4 : ¬ r4 < 0 := ht
  by_cases h0 : d4 < 0
  · rw [Asg.row_no (by rw [e4]; exact h0), adR_five] at h
    injection h with _ h; injection h with _ h; injection h with _ h; injection h with _ h; injection h with h; omega
  · rw [Asg.row_yes (by rw [e4]; exact h0), e4] at h
    have m1 := hθ'.len d4 (by omega)
    have m2 := hθ'.pos d4 (by omega)
    generalize he : θ'.R d4 = e at m1 m2 h
    obtain ⟨f0, f1, f2, f3, f4, rfl⟩ := row_five m1
    rw [adR_five, adR_five] at h
    injection h with g0 h; injection h with g1 h; injection h with g2 h; injection h with g3 h; injection h with g4 h
    have q0 : 0 ≤ d0 := k2 0 (by omega)
    have q1 : 0 ≤ d1 := k2 1 (by omega)
    have q2 : 0 ≤ d2 := k2 2 (by omega)
    have q3 : 0 ≤ d3 := k2 3 (by omega)
    have p0 : 0 ≤ f0 := m2 0 (by omega)
    have p1 : 0 ≤ f1 := m2 1 (by omega)
    have p2 : 0 ≤ f2 := m2 2 (by omega)
    have p3 : 0 ≤ f3 := m2 3 (by omega)
    obtain rfl : d0 = 0 := by omega
    obtain rfl : d1 = 0 := by omega
    obtain rfl : d2 = 0 := by omega
    obtain rfl : d3 = 0 := by omega
    obtain rfl : f0 = 0 := by omega
    obtain rfl : f1 = 0 := by omega
    obtain rfl : f2 = 0 := by omega
    obtain rfl : f3 = 0 := by omega
    subst g4
    have hd' : θ.R f4 = [0, 0, 0, 0, d4] := hd
    have hw : (fun v => (θ.R v).getD 4 0) f4 = d4 := by show (θ.R f4).getD 4 0 = d4; rw [hd']; rfl
    exact ⟨⟨by rw [show ([r0, r1, r2, r3, f4] : List Int).getD 4 0 = f4 from rfl, hw]; exact hd', by rw [show ([r0, r1, r2, r3, f4] : List Int).getD 4 0 = f4 from rfl, hw]; omega, by rw [show ([r0, r1, r2, r3, f4] : List Int).getD 4 0 = f4 from rfl, hw]; exact he⟩, rfl⟩
def AllP (θ θ' : Asg) (N : Nms) : Prop := (∀ v ∈ N.1, PrT θ θ' (fun v => nmV (θ.T v)) v) ∧ ∀ v ∈ N.2, PrR θ θ' (fun v => (θ.R v).getD 4 0) v
def mpN (θ : Asg) (N : Nms) : Nms := (N.1.map (fun v => nmV (θ.T v)), N.2.map (fun v => (θ.R v).getD 4 0))
theorem tx_ren {θ θ' : Asg} (hθ : θ.Ok) (hθ' : θ'.Ok) : ∀ (p : Tm) (N : Nms), p.ok → θ'.tm (θ.tm p) = p → AllP θ θ' N → tx (mpN θ N) (θ.tm p) = ((tx N p).1, mpN θ (tx N p).2) ∧ AllP θ θ' (tx N p).2
  | .bas b, N, _, _, hN => ⟨rfl, hN⟩
  | .var v, N, _, h, hN => by
    simp only [Asg.tm] at h ⊢
    cases hv : θ.T v with
    | bas b => rw [hv] at h; cases h
    | fn a r b => rw [hv] at h; cases h
    | var w =>
      rw [hv] at h
      have hp : PrT θ θ' (fun v => nmV (θ.T v)) v := ⟨by (show θ.T v = Tm.var (nmV (θ.T v))); rw [hv]; rfl, by (show θ'.T (nmV (θ.T v)) = _); rw [hv]; exact h⟩
      have hinj : ∀ u ∈ N.1, (fun v => nmV (θ.T v)) u = (fun v => nmV (θ.T v)) v → u = v := fun u hu e => pr_inj (hN.1 u hu) hp e
      have hw : nmV (θ.T v) = w := by rw [hv]; rfl
      have i1 := ix_map hinj
      have i2 := add_map hinj
      rw [hw] at i1 i2
      refine ⟨?_, fun u hu => ?_, hN.2⟩
      · simp only [tx, mpN]; rw [i1, i2]
      · rcases mem_add hu with hu | rfl
        · exact hN.1 u hu
        · exact hp
  | .fn a r b, N, ho, h, hN => by
    simp only [Asg.tm] at h ⊢
    injection h with ha hr hb
    obtain ⟨A1, A2⟩ := tx_ren hθ hθ' a N ho.1 ha hN
    have hrow : rtx (mpN θ (tx N a).2).2 (θ.row r) = rtx (tx N a).2.2 r ∧ rnm (mpN θ (tx N a).2).2 (θ.row r) = (rnm (tx N a).2.2 r).map (fun v => (θ.R v).getD 4 0) ∧ ∀ v ∈ rnm (tx N a).2.2 r, PrR θ θ' (fun v => (θ.R v).getD 4 0) v := by
      by_cases ht : r.getD 4 0 < 0
      · rw [Asg.row_no ht]
        unfold rtx rnm
        rw [if_neg (by omega), if_neg (by omega), if_neg (by omega), if_neg (by omega)]
        exact ⟨rfl, rfl, A2.2⟩
      · obtain ⟨hp, he⟩ := row_back hθ hθ' ho.2.1 ht hr
        have hinj : ∀ u ∈ (tx N a).2.2, (fun v => (θ.R v).getD 4 0) u = (fun v => (θ.R v).getD 4 0) (r.getD 4 0) → u = r.getD 4 0 := fun u hu e => prR_inj (A2.2 u hu) hp e
        have i1 := ix_map hinj
        have i2 := add_map hinj
        have hpos : 0 ≤ (θ.R (r.getD 4 0)).getD 4 0 := hp.2.1
        rw [he]
        have e4 : (adR r [0, 0, 0, 0, (θ.R (r.getD 4 0)).getD 4 0]).getD 4 0 = (θ.R (r.getD 4 0)).getD 4 0 := rfl
        have hal : rall (adR r [0, 0, 0, 0, (θ.R (r.getD 4 0)).getD 4 0]) 4 = rall r 4 := rall_of (fun i hi => by
          rw [adR_at r _ i hi]
          match i, hi with
          | 0, _ => exact Int.add_zero _
          | 1, _ => exact Int.add_zero _
          | 2, _ => exact Int.add_zero _
          | 3, _ => exact Int.add_zero _) 4 (Nat.le_refl _)
        unfold rtx rnm mpN
        rw [e4, hal, if_pos hpos, if_pos hpos, if_pos (by omega), if_pos (by omega)]
        dsimp only
        rw [i1, i2]
        refine ⟨rfl, rfl, fun v hv => ?_⟩
        rcases mem_add hv with hv | rfl
        · exact A2.2 v hv
        · exact hp
    obtain ⟨R1, R2, R3⟩ := hrow
    obtain ⟨B1, B2⟩ := tx_ren hθ hθ' b ((tx N a).2.1, rnm (tx N a).2.2 r) ho.2.2.2 hb ⟨A2.1, R3⟩
    refine ⟨?_, B2⟩
    have hm : ((mpN θ (tx N a).2).1, rnm (mpN θ (tx N a).2).2 (θ.row r)) = mpN θ ((tx N a).2.1, rnm (tx N a).2.2 r) := by rw [R2]; rfl
    simp only [tx]
    rw [A1]
    dsimp only
    rw [R1, hm, B1]
theorem tx_one {θ θ' : Asg} (hθ : θ.Ok) (hθ' : θ'.Ok) {p q : Tm} (hp : p.ok) (h1 : θ.tm p = q) (h2 : θ'.tm q = p) : (tx ([], []) p).1 = (tx ([], []) q).1 := by
  subst h1
  have := (tx_ren hθ hθ' p ([], []) hp h2 ⟨(fun v hv => nomatch hv), (fun v hv => nomatch hv)⟩).1
  rw [show mpN θ ([], []) = ([], []) from rfl] at this
  rw [this]
end Go.Proofs.YtlfillhffpiffaaDoor

namespace Go.Proofs.YtlfillhffpiffaaDoor
set_option linter.unusedSimpArgs false
set_option linter.unusedVariables false
set_option maxRecDepth 8000
open Go Go.Fx Go.Proofs

theorem ints_of_fits {H : Heap} {v : Value} (h : fitc H (.sl 8 [.int .i64]) v) : ∃ (A : Option Addr) (cap : Nat) (l : List Int), v = .slice A l.length cap ∧ SlT H e1 1 (.slice A l.length cap) l ∧ l.length * 8 ≤ 140737488351232 := by
  obtain ⟨L, _, hS, hb⟩ := SlT.of_fits (p := fun _ : Int => True) (enc := e1) h (fun cs h => by obtain ⟨n, rfl, _⟩ := fit_int h; exact ⟨n, trivial, rfl⟩)
  have hS' := hS
  obtain ⟨A, cap, rfl, _⟩ := hS'
  exact ⟨A, cap, L, rfl, hS, by rw [show reachBytes = 140737488351232 from rfl] at hb; omega⟩
theorem rows_of_fits {H : Heap} {v : Value} (h : fitc H (.sl 40 (List.replicate 5 (.int .i64))) v) : ∃ (A : Option Addr) (cap : Nat) (L : List (List Int)), v = .slice A L.length cap ∧ SlT H Is 5 (.slice A L.length cap) L ∧ Five L ∧ L.length * 40 ≤ 140737488351232 := by
  obtain ⟨L, hL, hS, hb⟩ := SlT.of_fits (p := fun x : List Int => x.length = 5) (enc := Is) h (fun cs h => by obtain ⟨xs, rfl, hl, _⟩ := fit_ints h; exact ⟨xs, hl, rfl⟩)
  have hS' := hS
  obtain ⟨A, cap, rfl, _⟩ := hS'
  exact ⟨A, cap, L, rfl, hS, hL, by rw [show reachBytes = 140737488351232 from rfl] at hb; omega⟩
theorem types_of_fits {H : Heap} {v : Value} (h : fitc H (.sl 24 [.sl 72 (List.replicate 9 (.int .i64))]) v) : ∃ (A : Option Addr) (cap : Nat) (L : List Td), v = .slice A L.length cap ∧ Tds H (.slice A L.length cap) L := by
  obtain ⟨L, hL, hS, hb⟩ := SlT.of_fits (p := fun t : Td => t.Ok H) (enc := encT) h (fun cs h => by
    obtain ⟨v, rfl, hv⟩ := fit_one h
    obtain ⟨A, cap, L, rfl, h9, hS, hm⟩ := type_of_fits hv
    exact ⟨⟨A, cap, L⟩, ⟨hS, h9, hm⟩, rfl⟩)
  have hS' := hS
  obtain ⟨A, cap, rfl, _⟩ := hS'
  exact ⟨A, cap, L, rfl, hS, hL, by rw [show reachBytes = 140737488351232 from rfl] at hb; omega⟩
end Go.Proofs.YtlfillhffpiffaaDoor

namespace Go.Proofs
open Go.Shelf
def Tryd.lays156_ren : Go.Shelf.Ren := ⟨fun | 156 => 75 | 165 => 98 | 166 => 99 | 169 => 100 | 240 => 109 | 241 => 110 | 276 => 116 | 277 => 117 | n => n, fun | 31 => 123 | 9 => 9 | 3 => 3 | 4 => 4 | 0 => 0 | 20 => 20 | 72 => 146 | 76 => 150 | 70 => 144 | 37 => 94 | 75 => 149 | 127 => 161 | 164 => 168 | 5 => 5 | 80 => 152 | n => n, fun | n => n⟩
theorem Tryd.lays156 : Go.Proofs.Lays.n156 Tryd.prog Tryd.lays156_ren := {
  mixed := by kernel_rfl
  f156 := Tryd.func75.trans (congrArg some (by kernel_rfl))
  f165 := Tryd.func98.trans (congrArg some (by kernel_rfl))
  f166 := Tryd.func99.trans (congrArg some (by kernel_rfl))
  f169 := Tryd.func100.trans (congrArg some (by kernel_rfl))
  f240 := Tryd.func109.trans (congrArg some (by kernel_rfl))
  f241 := Tryd.func110.trans (congrArg some (by kernel_rfl))
  f276 := Tryd.func116.trans (congrArg some (by kernel_rfl))
  f277 := Tryd.func117.trans (congrArg some (by kernel_rfl))
  t0 := Tryd.underlying0
  a0 := Tryd.isAgg0
  z0 := Tryd.sizeOf0
  v0 := Tryd.zeroValue0
  t3 := Tryd.underlying3
  a3 := Tryd.isAgg3
  z3 := Tryd.sizeOf3
  v3 := Tryd.zeroValue3
  t4 := Tryd.underlying4
  a4 := Tryd.isAgg4
  z4 := Tryd.sizeOf4
  v4 := Tryd.zeroValue4
  t9 := Tryd.underlying9
  a9 := Tryd.isAgg9
  z9 := Tryd.sizeOf9
  v9 := Tryd.zeroValue9
  t20 := Tryd.underlying20
  a20 := Tryd.isAgg20
  z20 := Tryd.sizeOf20
  v20 := Tryd.zeroValue20
  t31 := Tryd.underlying123
  a31 := Tryd.isAgg123
  z31 := Tryd.sizeOf123
  v31 := Tryd.zeroValue123
  t37 := Tryd.underlying94
  a37 := Tryd.isAgg94
  z37 := Tryd.sizeOf94
  v37 := Tryd.zeroValue94
  t70 := Tryd.underlying144
  a70 := Tryd.isAgg144
  z70 := Tryd.sizeOf144
  v70 := Tryd.zeroValue144
  t72 := Tryd.underlying146
  a72 := Tryd.isAgg146
  z72 := Tryd.sizeOf146
  v72 := Tryd.zeroValue146
  t75 := Tryd.underlying149
  a75 := Tryd.isAgg149
  z75 := Tryd.sizeOf149
  v75 := Tryd.zeroValue149
  t76 := Tryd.underlying150
  a76 := Tryd.isAgg150
  z76 := Tryd.sizeOf150
  v76 := Tryd.zeroValue150
  t127 := Tryd.underlying161
  a127 := Tryd.isAgg161
  z127 := Tryd.sizeOf161
  v127 := Tryd.zeroValue161
  t164 := Tryd.underlying168
  a164 := Tryd.isAgg168
  z164 := Tryd.sizeOf168
  v164 := Tryd.zeroValue168 }
theorem Tryd.Builder_Extra_156 : Builder.Extra Tryd.prog Tryd.lays156_ren := {
  sizeBuilder := by kernel_rfl
  liesBuilder := by kernel_rfl
  t5 := Tryd.underlying5
  a5 := Tryd.isAgg5
  z5 := Tryd.sizeOf5
  v5 := Tryd.zeroValue5
  infoByte := by kernel_rfl
  cellsByte := by kernel_rfl
  sizeByte := by kernel_rfl
  neB5 := by decide }
open Go.RowKit in
theorem Tryd.strings_Join_none (a : Option Addr) (c : Nat) (sep : ByteArray) (w : World) :
    Calls Tryd.prog 75 #[.slice a 0 c, .string sep] w fun e w' => e = .returned (.string ⟨#[]⟩) ∧ w' = w := Any.strings_Join_none Tryd.lays156 Tryd.Builder_Extra_156 a c sep w
open Go.RowKit in
theorem Tryd.strings_Join (bk o c : Nat) (xs : List ByteArray) (sep : ByteArray) (w : World) (hcells : ∀ (j : Nat) x, xs[j]? = some x → w.cell? ⟨bk, o + j, none⟩ = some (.string x)) (hbk : bk < w.heap.size) (hN : xs.length ≤ 140737488355328) (hcap : xs.length ≤ c) (hlen : (Lib.join (xs.map (·.data.toList)) sep.data.toList).length ≤ 140737488355328) :
    Calls Tryd.prog 75 #[.slice (some ⟨bk, o, none⟩) xs.length c, .string sep] w fun e w' => e = .returned (.string ⟨(Lib.join (xs.map (·.data.toList)) sep.data.toList).toArray⟩) ∧ Below w.heap.size w w' := Any.strings_Join Tryd.lays156 Tryd.Builder_Extra_156 bk o c xs sep w hcells hbk hN hcap hlen
def Tryd.laysM171_ren : Go.Shelf.Ren := ⟨fun | 171 => 74 | 243 => 97 | 246 => 108 | 283 => 112 | 284 => 113 | 285 => 114 | 286 => 115 | 129 => 119 | 317 => 118 | 318 => 120 | 319 => 121 | 320 => 122 | 337 => 123 | 338 => 124 | n => n, fun | 3 => 3 | 9 => 9 | 2 => 2 | 4 => 4 | 171 => 163 | 0 => 0 | 53 => 93 | 37 => 94 | 5 => 5 | 173 => 166 | 212 => 172 | 51 => 173 | 20 => 20 | 213 => 174 | 46 => 47 | 232 => 178 | 233 => 179 | n => n, fun | 17 => 0 | 18 => 2 | 19 => 3 | n => n⟩
theorem Tryd.laysM171 : Go.Proofs.LaysM.n171 Tryd.prog Tryd.laysM171_ren := {
  mixed := by kernel_rfl
  f129 := Tryd.func119.trans (congrArg some (by kernel_rfl))
  f171 := Tryd.func74.trans (congrArg some (by kernel_rfl))
  f243 := Tryd.func97.trans (congrArg some (by kernel_rfl))
  f246 := Tryd.func108.trans (congrArg some (by kernel_rfl))
  f283 := Tryd.func112.trans (congrArg some (by kernel_rfl))
  f284 := Tryd.func113.trans (congrArg some (by kernel_rfl))
  f285 := Tryd.func114.trans (congrArg some (by kernel_rfl))
  f286 := Tryd.func115.trans (congrArg some (by kernel_rfl))
  f317 := Tryd.func118.trans (congrArg some (by kernel_rfl))
  f318 := Tryd.func120.trans (congrArg some (by kernel_rfl))
  f319 := Tryd.func121.trans (congrArg some (by kernel_rfl))
  f320 := Tryd.func122.trans (congrArg some (by kernel_rfl))
  f337 := Tryd.func123.trans (congrArg some (by kernel_rfl))
  f338 := Tryd.func124.trans (congrArg some (by kernel_rfl))
  t0 := Tryd.underlying0
  a0 := Tryd.isAgg0
  z0 := Tryd.sizeOf0
  v0 := Tryd.zeroValue0
  t2 := Tryd.underlying2
  a2 := Tryd.isAgg2
  z2 := Tryd.sizeOf2
  v2 := Tryd.zeroValue2
  t3 := Tryd.underlying3
  a3 := Tryd.isAgg3
  z3 := Tryd.sizeOf3
  v3 := Tryd.zeroValue3
  t4 := Tryd.underlying4
  a4 := Tryd.isAgg4
  z4 := Tryd.sizeOf4
  v4 := Tryd.zeroValue4
  t5 := Tryd.underlying5
  a5 := Tryd.isAgg5
  z5 := Tryd.sizeOf5
  v5 := Tryd.zeroValue5
  t9 := Tryd.underlying9
  a9 := Tryd.isAgg9
  z9 := Tryd.sizeOf9
  v9 := Tryd.zeroValue9
  t20 := Tryd.underlying20
  a20 := Tryd.isAgg20
  z20 := Tryd.sizeOf20
  v20 := Tryd.zeroValue20
  t37 := Tryd.underlying94
  a37 := Tryd.isAgg94
  z37 := Tryd.sizeOf94
  v37 := Tryd.zeroValue94
  t46 := Tryd.underlying47
  a46 := Tryd.isAgg47
  z46 := Tryd.sizeOf47
  v46 := Tryd.zeroValue47
  t51 := Tryd.underlying173
  a51 := Tryd.isAgg173
  z51 := Tryd.sizeOf173
  v51 := Tryd.zeroValue173
  t53 := Tryd.underlying93
  a53 := Tryd.isAgg93
  z53 := Tryd.sizeOf93
  v53 := Tryd.zeroValue93
  t171 := Tryd.underlying163
  a171 := Tryd.isAgg163
  z171 := Tryd.sizeOf163
  v171 := Tryd.zeroValue163
  t173 := Tryd.underlying166
  a173 := Tryd.isAgg166
  z173 := Tryd.sizeOf166
  v173 := Tryd.zeroValue166
  t212 := Tryd.underlying172
  a212 := Tryd.isAgg172
  z212 := Tryd.sizeOf172
  v212 := Tryd.zeroValue172
  t213 := Tryd.underlying174
  a213 := Tryd.isAgg174
  z213 := Tryd.sizeOf174
  t232 := Tryd.underlying178
  a232 := Tryd.isAgg178
  z232 := Tryd.sizeOf178
  v232 := Tryd.zeroValue178
  t233 := Tryd.underlying179
  a233 := Tryd.isAgg179
  z233 := Tryd.sizeOf179
  v233 := Tryd.zeroValue179
  g17 := by kernel_rfl
  g18 := by kernel_rfl
  g19 := by kernel_rfl
  i0 := by kernel_rfl
  i2 := by kernel_rfl
  i3 := by kernel_rfl
  i4 := by kernel_rfl
  i5 := by kernel_rfl
  i9 := by kernel_rfl
  i20 := by kernel_rfl
  i37 := by kernel_rfl
  i46 := by kernel_rfl
  i51 := by kernel_rfl
  i53 := by kernel_rfl
  i171 := by kernel_rfl
  i173 := by kernel_rfl
  i212 := by kernel_rfl
  i232 := by kernel_rfl
  i233 := by kernel_rfl
  m17 := by kernel_rfl
  m18 := by kernel_rfl
  m19 := by kernel_rfl }
end Go.Proofs

namespace Go.Proofs.YtlfillhffpiffaaDoor
set_option linter.unusedSimpArgs false
set_option linter.unusedVariables false
set_option maxRecDepth 8000
open Go Go.Fx Go.Proofs

abbrev tens : List Value := Lib.pow10Tab.map fun z => Value.int .u64 z
abbrev Tens (H : Heap) : Prop := Blk H 0 tens
theorem tab_of {name : String} {w0 : World} {H : Heap} {n g : Nat} {zs : List Int} {k : IntKind} (hg : Tryd.prog.globalNamed name = some g) (h : Blk H g (zs.map fun z => Value.int k z)) : Lib.TabIs Tryd.prog (mk w0 H n) name k zs := by
  obtain ⟨T, fr, h⟩ := h
  unfold Lib.TabIs World.var?
  rw [hg]
  simp only [Option.bind_some, mk_heap, h]
theorem bstr_data : ∀ (l : List UInt8) (s : ByteArray), ((l.map fun b => ((b.toNat : Nat) : Int)).foldl (fun r n => r.push (UInt8.ofNat n.toNat)) s).data.toList = s.data.toList ++ l
  | [], s => by simp
  | x :: l, s => by
    rw [List.map_cons, List.foldl_cons, bstr_data l]
    simp [ByteArray.push]
theorem bstr_nat (l : List UInt8) : bstr (l.map fun b => ((b.toNat : Nat) : Int)) = ⟨l.toArray⟩ := by
  apply WideShapes.bytes_inj
  unfold bstr
  rw [bstr_data]
  simp
theorem decG_dig : ∀ (f n : Nat) (l : List Int), n < 10 ^ f → 0 < f → (0 < n ∨ l.length = 0) → decG (f + 1) n l = (Lib.decDigits n).map (fun b => ((b.toNat : Nat) : Int)) ++ l
  | 0, _, _, _, h, _ => absurd h (by omega)
  | f + 1, n, l, hn, _, h => by
    rw [decG_go h]
    unfold Lib.decDigits
    split
    · rename_i h10
      rw [show n / 10 = 0 by omega, decG_end (by simp), show n % 10 = n by omega]
      have : (UInt8.ofNat (48 + n)).toNat = 48 + n := by rw [UInt8.toNat_ofNat']; omega
      simp only [List.map_append, List.map_cons, List.map_nil, this, List.append_assoc, List.singleton_append, List.nil_append]
    · rename_i h10
      have hp := pow_step hn
      have hf : 0 < f := Nat.pos_of_ne_zero fun h0 => by subst h0; simp at hp; omega
      rw [decG_dig f (n / 10) _ hp hf (.inl (by omega))]
      have : (UInt8.ofNat (48 + n % 10)).toNat = 48 + n % 10 := by rw [UInt8.toNat_ofNat']; omega
      simp only [List.map_append, List.map_cons, List.map_nil, this, List.append_assoc, List.singleton_append, List.nil_append]
theorem itoa_dec (n : Nat) (h : n < 10000000) : (⟨(Lib.itoa (n : Int)).toArray⟩ : ByteArray) = dec n := by
  rw [Lib.itoa_nonneg, ← bstr_nat]
  unfold dec decI
  rw [decG_dig 7 n [] h (by decide) (.inr rfl), List.append_nil]
theorem itoa_ok (n : Nat) (h : n < 10000000) {H : Heap} (hT : Tens H) :
    Ret Tryd.prog 74 [I n] H (fun v H' => v = .string (dec n) ∧ Ext H H') := by
  refine ⟨Tryd.call74, fun w0 k => ?_⟩
  have h1 : Calls Tryd.prog 74 #[.int .i64 n] (mk w0 H k) fun e w' => e = .returned (.string ⟨(Lib.itoa n).toArray⟩) ∧ ∃ d os, w' = Sort.grow ((mk w0 H k).drewN d) os :=
    Any.strconv_Itoa Tryd.laysM171 n (by omega) (by omega) (mk w0 H k) (tab_of (by kernel_rfl) hT)
  refine h1.mono fun e w' hx => ?_
  obtain ⟨he, d, os, hw⟩ := hx
  refine ⟨_, H ++ os, k + d, he, hw, by rw [itoa_dec n h], ?_, fun b hb => Array.getElem?_append_left hb⟩
  rw [Array.size_append]; omega

def jn (xs : List ByteArray) : ByteArray := ⟨(Lib.join (xs.map (·.data.toList)) (⟨#[44]⟩ : ByteArray).data.toList).toArray⟩
abbrev Ss (s : ByteArray) : List Value := [.string s]
theorem wideS (L : List ByteArray) : Wide Ss 1 L := fun _ _ => rfl
theorem ones_Ss (L : List ByteArray) : ones (L.flatMap Ss) = true := by
  simp only [ones, List.all_eq_true, List.mem_flatMap]
  rintro v ⟨x, _, hv⟩
  simp only [List.mem_singleton] at hv
  subst hv; rfl
theorem join_ok {A : Option Addr} {cap : Nat} {xs : List ByteArray} {H : Heap} (hS : SlT H Ss 1 (.slice A xs.length cap) xs) (hN : xs.length ≤ 1000000) (hlen : (jn xs).size ≤ 1000000000) :
    Ret Tryd.prog 75 [.slice A xs.length cap, .string ⟨#[44]⟩] H (fun v H' => v = .string (jn xs) ∧ Ext H H') := by
  refine ⟨Tryd.call75, fun w0 k => ?_⟩
  cases xs with
  | nil =>
    have h1 := Tryd.strings_Join_none A cap ⟨#[44]⟩ (mk w0 H k)
    refine h1.mono fun e w' hx => ?_
    obtain ⟨he, hw⟩ := hx
    exact ⟨_, H, k, he, hw, rfl, Ext.refl H⟩
  | cons x0 xs =>
    obtain ⟨_, cap', hv, hc1, hc2, _, h3⟩ := hS
    simp only [Value.slice.injEq, true_and] at hv
    obtain ⟨rfl, rfl⟩ := hv
    rcases h3 with h0 | ⟨b, o, c, rfl, hB, hc⟩
    · simp at h0
    have hcl : ∀ (j : Nat) x, (x0 :: xs)[j]? = some x → (mk w0 H k).cell? ⟨b, o + j, none⟩ = some (.string x) := by
      intro j x hx
      obtain ⟨hj, hx⟩ := List.getElem?_eq_some_iff.1 hx
      have h2 := (hc j hj).2
      rw [hx, Nat.mul_one] at h2
      have h4 : c[o + j + 0]? = some (Value.string x) := at_tk h2 (by decide) rfl
      obtain ⟨T, fr, hB⟩ := hB
      unfold World.cell?
      simp only [mk_heap, hB]
      simpa using h4
    have hle : (x0 :: xs).length ≤ c.length := by
      have := (hc ((x0 :: xs).length - 1) (by simp)).1
      simp only [List.length_cons] at this ⊢; omega
    have h1 := Tryd.strings_Join b o cap (x0 :: xs) ⟨#[44]⟩ (mk w0 H k) hcl hB.lt (by omega) hc1 (by
      have : (jn (x0 :: xs)).size = (Lib.join ((x0 :: xs).map (·.data.toList)) (⟨#[44]⟩ : ByteArray).data.toList).length := by simp [jn, ByteArray.size]
      omega)
    refine h1.mono fun e w' hx => ?_
    obtain ⟨he, hb⟩ := hx
    refine ⟨_, w'.heap, w'.drawn, he, ?_, rfl, hb.size, fun q hq => hb.block q hq⟩
    obtain ⟨g1, g2, g3, g4, g5⟩ := w'
    have e1 := hb.os; have e2 := hb.tape; have e3 := hb.output
    simp only at e1 e2 e3
    subst e1 e2 e3
    rfl
end Go.Proofs.YtlfillhffpiffaaDoor

namespace Go.Proofs.YtlfillhffpiffaaDoor
set_option linter.unusedSimpArgs false
set_option linter.unusedVariables false
set_option maxRecDepth 8000
open Go Go.Fx Go.Proofs
namespace FactsDShB
theorem ag22 : ag Tryd.prog 22 = some 4 := by kernel_rfl
theorem apt123 : appT Tryd.prog 123 = some (9, 1, 16) := by kernel_rfl
theorem fo24_0 : foff Tryd.prog 24 0 = some 0 := by kernel_rfl
theorem fo24_1 : foff Tryd.prog 24 1 = some 4 := by kernel_rfl
theorem sc3 : sc Tryd.prog 3 = true := by kernel_rfl
theorem sl1_123 : Go.Fx.sl1 Tryd.prog 123 = true := by kernel_rfl
end FactsDShB
open FactsDShB

theorem dap (a b : ByteArray) : (a ++ b).data.toList = a.data.toList ++ b.data.toList := by simp
abbrev opn (i : Nat) : ByteArray := ⟨#[111]⟩ ++ dec i
def opsTo (r : List Int) : Nat → List ByteArray
  | 0 => []
  | i + 1 => opsTo r i ++ List.replicate (r.getD i 0).toNat (opn i)
theorem opn_pos (i : Nat) : 0 < (opn i).size := by rw [ByteArray.size_append, sz1]; omega
theorem ops_pos (r : List Int) : ∀ i, ∀ x ∈ opsTo r i, 0 < x.size
  | 0, x, h => by cases h
  | i + 1, x, h => by
    simp only [opsTo, List.mem_append, List.mem_replicate] at h
    rcases h with h | ⟨_, rfl⟩
    · exact ops_pos r i x h
    · exact opn_pos i
theorem jn_data (xs : List ByteArray) : (jn xs).data.toList = Lib.join (xs.map (·.data.toList)) [44] := rfl
theorem join_snoc (y sep : List UInt8) : ∀ (x : List UInt8) (xs : List (List UInt8)), Lib.join ((x :: xs) ++ [y]) sep = Lib.join (x :: xs) sep ++ sep ++ y := by
  intro x xs
  rw [List.cons_append, Lib.join_cons, Lib.join_cons]
  simp [Lib.joinTail]
theorem jn_ne {xs : List ByteArray} (h : ∀ x ∈ xs, 0 < x.size) (hx : xs ≠ []) : (jn xs).data.toList ≠ [] := by
  cases xs with
  | nil => exact absurd rfl hx
  | cons x xs =>
    rw [jn_data, List.map_cons, Lib.join_cons]
    have := h x List.mem_cons_self
    intro h0
    have h1 := (List.append_eq_nil_iff.1 h0).1
    have h2 := congrArg List.length h1
    simp only [Array.length_toList, List.length_nil] at h2
    simp only [ByteArray.size] at this
    omega
theorem rone_jn (i : Nat) {xs : List ByteArray} (h : ∀ x ∈ xs, 0 < x.size) : rone i (jn xs) = jn (xs ++ [opn i]) := by
  apply WideShapes.bytes_inj
  unfold rone
  rw [ByteArray.toList_eq, ByteArray.toList_eq]
  cases xs with
  | nil =>
    have h0 : (jn []).data.toList = [] := rfl
    rw [if_neg (by rw [h0]; decide)]
    simp [jn_data, Lib.join_one, Lib.join_nil, dap]
  | cons x xs =>
    rw [if_pos (by
      have := jn_ne h (by simp)
      cases hc : (jn (x :: xs)).data.toList with
      | nil => exact absurd hc this
      | cons a l => rfl)]
    rw [jn_data, List.map_append, List.map_cons, List.map_cons, List.map_nil, join_snoc, dap, dap, dap, jn_data, List.map_cons]
    simp [opn, dap]
theorem rrep_jn (i : Nat) {xs : List ByteArray} (h : ∀ x ∈ xs, 0 < x.size) : ∀ k, rrep i k (jn xs) = jn (xs ++ List.replicate k (opn i))
  | 0 => by simp [rrep]
  | k + 1 => by
    unfold rrep
    rw [rrep_jn i h k, rone_jn i (by
      intro x hx
      rcases List.mem_append.1 hx with hx | hx
      · exact h x hx
      · rw [(List.mem_replicate.1 hx).2]; exact opn_pos i), List.replicate_succ', List.append_assoc]
theorem rall_jn (r : List Int) : ∀ i, rall r i = jn (opsTo r i)
  | 0 => rfl
  | i + 1 => by
    unfold rall opsTo
    rw [rall_jn r i, rrep_jn i (ops_pos r i)]
theorem ops_len {r : List Int} (h5 : r.length = 5) (h : rowM r = true) : ∀ i, i ≤ 4 → (opsTo r i).length ≤ 32 * i
  | 0, _ => Nat.le_refl 0
  | i + 1, hi => by
    have h2 := ops_len h5 h i (by omega)
    have h3 := row_cnt h5 h i (by omega)
    simp only [opsTo, List.length_append, List.length_replicate]; omega

def wtx (r : List Int) (s : ByteArray) : ByteArray := ⟨#[60]⟩ ++ (if 0 ≤ r.getD 4 0 then rall r 4 ++ (⟨#[124]⟩ ++ s) else rall r 4) ++ ⟨#[62]⟩
theorem wtx_rtx (R r : List Int) : wtx r (⟨#[101]⟩ ++ dec (ixL R (r.getD 4 0))) = rtx R r := by
  apply WideShapes.bytes_inj
  unfold wtx rtx
  split
  · simp only [dap, List.append_assoc]; rfl
  · rfl

theorem write_ok {g : FuncId} {us : List Value} {rb ro : Nat} {cg : List Value} {r : List Int} (h5 : r.length = 5) (hr : rowM r = true) {Q : ByteArray → Heap → Heap → Prop} {H : Heap} (hT : Tens H) (hB : Blk H rb cg) (hc : (cg.drop ro).take 5 = Is r)
    (hf : ∀ H1, Ext H H1 → 0 ≤ r.getD 4 0 → Ret Tryd.prog g (I (r.getD 4 0) :: us) H1 (fun v H2 => ∃ s, v = .string s ∧ s.size ≤ 100 ∧ Q s H1 H2)) :
    Ret Tryd.prog 55 [ptr rb ro, .func (.func g) #[] us.toArray] H (fun v H' => ∃ s, v = .string (wtx r s) ∧ ∃ H1, Ext H H1 ∧ ((0 ≤ r.getD 4 0 ∧ Q s H1 H') ∨ (r.getD 4 0 < 0 ∧ H' = H1))) := by
  have zB := hB.lt
  have hat : ∀ {j : Nat}, j < 5 → cg[ro + j]? = some (I (r.getD j 0)) := fun hj => at_tk hc hj (at_Is (by omega))
  have hcnt := row_cnt h5 hr
  have hsz := rall_size h5 hr
  have hln := ops_len h5 hr
  have ht4 := rowM_t hr
  refine Ret.of_at (N := 47) Tryd.call55 Tryd.func55 rfl rfl rfl ?_
  have hE := Ext.refl H
  have z_hE := hE.lt
  have z_hT := hT.lt
  have z_hB := hB.lt
  refine At.region rfl rfl ?_
  refine Reg.pur rfl rfl rfl rfl (Pur.asg rfl) ?_
  refine Reg.nil ?_
  refine At.region rfl rfl ?_
  refine Reg.pur rfl rfl rfl rfl (Pur.asg rfl) ?_
  refine Reg.nil ?_
  refine At.region rfl rfl ?_
  refine Reg.pur rfl rfl rfl rfl (Pur.mv rfl) ?_
  refine Reg.pur rfl rfl rfl rfl (Pur.nilc rfl) ?_
  refine Reg.pur rfl rfl rfl rfl (Pur.fld _ fo24_0 rfl) ?_
  refine Reg.lod rfl rfl rfl rfl (Lod.ldn ag22 rfl hB (show _ = Is (r.take 4) by rw [Nat.add_zero]; have h9 := congrArg (List.take 4) hc; rw [List.take_take] at h9; rw [show min 4 5 = 4 from rfl] at h9; rw [h9]; simp [Is, List.map_take]) (by simp [h5])) ?_
  refine Reg.pur rfl rfl rfl rfl (Pur.mv rfl) ?_
  refine Reg.nil ?_
  refine At.loop (σ := Nat × Option Addr × Nat) (fun (i, A', cap') => [(13, I i), (5, .slice A' (opsTo r i).length cap'), (12, .agg (Is (r.take 4)).toArray), (0, ptr rb ro), (1, .func (.func g) #[] us.toArray)]) (fun (i, A', cap') H' => i ≤ 4 ∧ Ext H H' ∧ Tens H' ∧ Blk H' rb cg ∧ Gs H' H.size 9 1 A' cap' (opsTo r i).length ((opsTo r i).flatMap Ss)) (fun s => 4 - s.1) (0, none, 0) rfl ⟨rfl, rfl, rfl, rfl, rfl, trivial⟩ ⟨by omega, hE, hT, hB, OwnS.nilG⟩ ?_
  clear hE hT hB
  rintro ⟨i, A', cap'⟩ H1 ⟨hi, hE, hT, hB, hg⟩ ih
  dsimp only at hi hg ⊢
  have z_hE := hE.lt
  have z_hT := hT.lt
  have z_hB := hB.lt
  have z_hg := hg.lt
  refine At.region rfl rfl ?_
  refine Reg.pur rfl rfl rfl rfl (Pur.lss rfl rfl) ?_
  refine Reg.nil ?_
  refine At.cond rfl rfl (fun q14 => ?_) (fun q14 => ?_)
  · first | (simp only [decide_eq_true_eq, decide_eq_false_iff_not, Bool.not_eq_true', Bool.not_eq_false', ne_eq, Decidable.not_not, Bool.not_eq_true, Bool.not_eq_false] at q14) | (dsimp only at q14) | skip
    have hlt : i < (r.take 4).length := by simp [h5]; omega
    have hat4 := take4_at h5 (i := i) (by omega)
    have hai : (Is (r.take 4))[(i : Int).toNat]? = some (I (r.getD i 0)) := by
      have : (Is (r.take 4))[i]? = some (I (r.take 4)[i]) := by simp only [Is, List.getElem?_map, List.getElem?_eq_getElem hlt, Option.map_some]
      rw [hat4] at this
      exact this
    have hi4 : i < 4 := by omega
    have hci := hcnt i hi4
    have hli := hln i (by omega)
    refine At.region rfl rfl ?_
    refine Reg.pur rfl rfl rfl rfl (Pur.mv rfl) ?_
    refine Reg.pur rfl rfl rfl rfl (Pur.ixA (n := 4) (by kernel_rfl) rfl rfl (by omega) (by omega) hai) ?_
    refine Reg.pur rfl rfl rfl rfl (Pur.asg rfl) ?_
    refine Reg.pur rfl rfl rfl rfl (Pur.asg rfl) ?_
    refine Reg.nil ?_
    refine At.region rfl rfl ?_
    refine Reg.pur rfl rfl rfl rfl (Pur.mv rfl) ?_
    refine Reg.pur rfl rfl rfl rfl (Pur.mv rfl) ?_
    refine Reg.nil ?_
    refine At.loop (σ := Nat × Option Addr × Nat) (fun (k, A', cap') => [(18, I k), (17, I (r.getD i 0)), (6, I i), (13, I i), (5, .slice A' (opsTo r i ++ List.replicate k (opn i)).length cap'), (12, .agg (Is (r.take 4)).toArray), (0, ptr rb ro), (1, .func (.func g) #[] us.toArray)]) (fun (k, A', cap') H' => (k : Int) ≤ r.getD i 0 ∧ Ext H H' ∧ Tens H' ∧ Blk H' rb cg ∧ Gs H' H.size 9 1 A' cap' (opsTo r i ++ List.replicate k (opn i)).length ((opsTo r i ++ List.replicate k (opn i)).flatMap Ss)) (fun s => (r.getD i 0).toNat - s.1) (0, A', cap') rfl ⟨rfl, rfl, rfl, rfl, by simp [lk], rfl, rfl, rfl, trivial⟩ ⟨by omega, hE, hT, hB, by simpa using hg⟩ ?_
    clear hE hT hB hg
    rintro ⟨k, A2', cap2'⟩ H2 ⟨hk, hE, hT, hB, hg⟩ ih2
    dsimp only at hk hg ⊢
    have z_hE := hE.lt
    have z_hT := hT.lt
    have z_hB := hB.lt
    have z_hg := hg.lt
    refine At.region rfl rfl ?_
    refine Reg.pur rfl rfl rfl rfl (Pur.lss rfl rfl) ?_
    refine Reg.nil ?_
    refine At.cond rfl rfl (fun q19 => ?_) (fun q19 => ?_)
    · first | (simp only [decide_eq_true_eq, decide_eq_false_iff_not, Bool.not_eq_true', Bool.not_eq_false', ne_eq, Decidable.not_not, Bool.not_eq_true, Bool.not_eq_false] at q19) | (dsimp only at q19) | skip
      refine At.region rfl rfl ?_
      refine Reg.pur rfl rfl rfl rfl (Pur.mv rfl) ?_
      refine Reg.pur rfl rfl rfl rfl (Pur.mv rfl) ?_
      refine Reg.op rfl rfl rfl rfl (Does.call rfl (itoa_ok i (by omega) hT)) ?_
      rintro _ H7_2 ⟨rfl, hE7_2⟩
      have z7_2 := hE7_2.lt
      replace hE := hE.ext hE7_2
      replace hT := hT.ext hE7_2
      replace hB := hB.ext hE7_2
      replace hg := hg.ext hE7_2
      refine Reg.pur rfl rfl rfl rfl (Pur.addS rfl rfl (szs (sl1 _) (dec_size _) (by decide))) ?_
      refine Reg.op rfl rfl rfl rfl (Does.bsl1 sl1_123 rfl rfl rfl rfl rfl) ?_
      rintro _ H7_4 ⟨rfl, hn7_4⟩
      have z7_4 := hn7_4.size
      replace hE := hE.ext hn7_4.ext
      replace hT := hT.ext hn7_4.ext
      replace hB := hB.ext hn7_4.ext
      replace hg := hg.ext hn7_4.ext
      have o7_4 := hn7_4.own
      refine Reg.op rfl rfl rfl rfl (Does.appL apt123 rfl rfl (by decide) hg (wideS _) (sl_new (L := [opn i]) (wideS _) (by decide) hn7_4 (by simp)) (ones_Ss _) (by simp; omega) (by omega)) ?_
      rintro _ H7_5 ⟨A7_5, cap7_5, rfl, g7_5, hbut7_5, ha7_5⟩
      have z7_5 := hbut7_5.lt
      replace hE := hE.via hbut7_5 (by first | omega | (intro g; omega) | (intro g hg; omega) | (intro g hg h; omega))
      replace hT := hT.via hbut7_5 (by first | omega | (intro g; omega) | (intro g hg; omega) | (intro g hg h; omega))
      replace hB := hB.via hbut7_5 (by first | omega | (intro g; omega) | (intro g hg; omega) | (intro g hg h; omega))
      replace o7_4 := o7_4.via hbut7_5 (by first | omega | (intro g; omega) | (intro g hg; omega) | (intro g hg h; omega))
      replace hg := g7_5
      have zg7_5 := g7_5.lt
      refine Reg.pur rfl rfl rfl rfl (Pur.asg rfl) ?_
      refine Reg.nil ?_
      refine At.region rfl rfl ?_
      first | refine Reg.pur rfl rfl rfl rfl (Pur.add64 rfl rfl (by omega)) ?_ | refine Reg.pur rfl rfl rfl rfl (Pur.add64 rfl rfl (by assumption)) ?_ | refine Reg.pur rfl rfl rfl rfl (Pur.add rfl rfl) ?_
      refine Reg.pur rfl rfl rfl rfl (Pur.mv rfl) ?_
      refine Reg.nil ?_
      have hs : opsTo r i ++ List.replicate k (opn i) ++ [opn i] = opsTo r i ++ List.replicate (k + 1) (opn i) := by rw [List.replicate_succ', List.append_assoc]
      rw [hs] at hg
      exact At.via (ih2 (k + 1, A7_5, cap7_5) _ ⟨by (show ((k + 1 : Nat) : Int) ≤ _); omega, hE, hT, hB, hg⟩ (by (show _ - (k + 1) < _ - k); omega)) ⟨rfl, rfl, rfl, rfl, by (show some (Value.slice _ _ _) = _); rw [hs], rfl, rfl, rfl, trivial⟩
    first | (simp only [decide_eq_true_eq, decide_eq_false_iff_not, Bool.not_eq_true', Bool.not_eq_false', ne_eq, Decidable.not_not, Bool.not_eq_true, Bool.not_eq_false] at q19) | (dsimp only at q19) | skip
    refine At.region rfl rfl ?_
    first | refine Reg.pur rfl rfl rfl rfl (Pur.add64 rfl rfl (by omega)) ?_ | refine Reg.pur rfl rfl rfl rfl (Pur.add64 rfl rfl (by assumption)) ?_ | refine Reg.pur rfl rfl rfl rfl (Pur.add rfl rfl) ?_
    refine Reg.pur rfl rfl rfl rfl (Pur.mv rfl) ?_
    refine Reg.nil ?_
    have hkr : (k : Nat) = (r.getD i 0).toNat := by omega
    subst hkr
    exact At.via (ih (i + 1, A2', cap2') _ ⟨by (show i + 1 ≤ 4); omega, hE, hT, hB, hg⟩ (by (show 4 - (i + 1) < 4 - i); omega)) ⟨rfl, rfl, rfl, rfl, rfl, trivial⟩
  first | (simp only [decide_eq_true_eq, decide_eq_false_iff_not, Bool.not_eq_true', Bool.not_eq_false', ne_eq, Decidable.not_not, Bool.not_eq_true, Bool.not_eq_false] at q14) | (dsimp only at q14) | skip
  obtain rfl : i = 4 := by omega
  have hs4 := hsz 4 (by omega)
  have hl4 := hln 4 (by omega)
  rw [rall_jn] at hs4
  refine At.region rfl rfl ?_
  refine Reg.pur rfl rfl rfl rfl (Pur.mv rfl) ?_
  refine Reg.op rfl rfl rfl rfl (Does.call rfl (join_ok (own_sl (wideS _) (by decide) hg) (by omega) (by omega))) ?_
  rintro _ H10_1 ⟨rfl, hE10_1⟩
  have z10_1 := hE10_1.lt
  replace hE := hE.ext hE10_1
  replace hT := hT.ext hE10_1
  replace hB := hB.ext hE10_1
  replace hg := hg.ext hE10_1
  refine Reg.pur rfl rfl rfl rfl (Pur.addS rfl rfl (szs (n := 1280) (sl1 _) (by omega) (by decide))) ?_
  refine Reg.pur rfl rfl rfl rfl (Pur.asg rfl) ?_
  refine Reg.nil ?_
  refine At.region rfl rfl ?_
  refine Reg.pur rfl rfl rfl rfl (Pur.mv rfl) ?_
  refine Reg.pur rfl rfl rfl rfl (Pur.nilc rfl) ?_
  refine Reg.pur rfl rfl rfl rfl (Pur.fld _ fo24_1 rfl) ?_
  refine Reg.lod rfl rfl rfl rfl (Lod.ld sc3 rfl hB (hat (j := 4) (by omega))) ?_
  refine Reg.pur rfl rfl rfl rfl (Pur.neq rfl rfl) ?_
  refine Reg.nil ?_
  refine At.cond rfl rfl (fun q35 => ?_) (fun q35 => ?_)
  · first | (simp only [decide_eq_true_eq, decide_eq_false_iff_not, Bool.not_eq_true', Bool.not_eq_false', ne_eq, Decidable.not_not, Bool.not_eq_true, Bool.not_eq_false] at q35) | (dsimp only at q35) | skip
    refine At.region rfl rfl ?_
    refine Reg.pur rfl rfl rfl rfl (Pur.mv rfl) ?_
    refine Reg.pur rfl rfl rfl rfl (Pur.mv rfl) ?_
    refine Reg.pur rfl rfl rfl rfl (Pur.mv rfl) ?_
    refine Reg.pur rfl rfl rfl rfl (Pur.nilc rfl) ?_
    refine Reg.pur rfl rfl rfl rfl (Pur.fld _ fo24_1 rfl) ?_
    refine Reg.lod rfl rfl rfl rfl (Lod.ld sc3 rfl hB (hat (j := 4) (by omega))) ?_
    refine Reg.op rfl rfl rfl rfl (Does.callv rfl rfl (hf _ hE (by omega))) ?_
    rintro _ H12_6 ⟨s, rfl, hss, hQ12_6⟩
    refine Reg.pur rfl rfl rfl rfl (Pur.addS rfl rfl (szs (n := 100) (sl1 _) (by omega) (by decide))) ?_
    refine Reg.pur rfl rfl rfl rfl (Pur.addS rfl rfl (szs (m := 1281) (n := 101) (sza (m := 1) (n := 1280) (sl1 _) (by omega)) (sza (m := 1) (n := 100) (sl1 _) (by omega)) (by decide))) ?_
    refine Reg.pur rfl rfl rfl rfl (Pur.asg rfl) ?_
    refine Reg.nil ?_
    refine At.region rfl rfl ?_
    refine Reg.pur rfl rfl rfl rfl (Pur.mv rfl) ?_
    refine Reg.pur rfl rfl rfl rfl (Pur.addS rfl rfl (szs (m := 1382) (n := 1) (by first | exact sza (m := 1281) (n := 101) (sza (m := 1) (n := 1280) (sl1 _) (by omega)) (sza (m := 1) (n := 100) (sl1 _) (by omega)) | exact Nat.le_trans (sza (m := 1) (n := 1280) (sl1 _) (by omega)) (by decide)) (sl1 _) (by decide))) ?_
    refine Reg.pur rfl rfl rfl rfl (Pur.asg rfl) ?_
    refine Reg.nil ?_
    refine At.ret rfl Tryd.func55 rfl ?_
    refine ⟨s, ?_, _, hE, .inl ⟨by omega, hQ12_6⟩⟩
    unfold wtx
    rw [if_pos (by omega), rall_jn]
    exact congrArg Value.string (WideShapes.bytes_inj (by simp only [dap, List.append_assoc]))
  first | (simp only [decide_eq_true_eq, decide_eq_false_iff_not, Bool.not_eq_true', Bool.not_eq_false', ne_eq, Decidable.not_not, Bool.not_eq_true, Bool.not_eq_false] at q35) | (dsimp only at q35) | skip
  refine At.region rfl rfl ?_
  refine Reg.pur rfl rfl rfl rfl (Pur.mv rfl) ?_
  refine Reg.pur rfl rfl rfl rfl (Pur.addS rfl rfl (szs (m := 1382) (n := 1) (by first | exact sza (m := 1281) (n := 101) (sza (m := 1) (n := 1280) (sl1 _) (by omega)) (sza (m := 1) (n := 100) (sl1 _) (by omega)) | exact Nat.le_trans (sza (m := 1) (n := 1280) (sl1 _) (by omega)) (by decide)) (sl1 _) (by decide))) ?_
  refine Reg.pur rfl rfl rfl rfl (Pur.asg rfl) ?_
  refine Reg.nil ?_
  refine At.ret rfl Tryd.func55 rfl ?_
  refine ⟨⟨#[]⟩, ?_, _, hE, .inr ⟨by omega, rfl⟩⟩
  unfold wtx
  rw [if_neg (by omega), rall_jn]
end Go.Proofs.YtlfillhffpiffaaDoor

namespace Go.Proofs.YtlfillhffpiffaaDoor
set_option linter.unusedSimpArgs false
set_option linter.unusedVariables false
set_option maxRecDepth 8000
open Go Go.Fx Go.Proofs
namespace FactsDShC
theorem es53 : esz Tryd.prog 53 = some 9 := by kernel_rfl
theorem fo55_0 : foff Tryd.prog 55 0 = some 0 := by kernel_rfl
theorem fo65_0 : foff Tryd.prog 65 0 = some 0 := by kernel_rfl
theorem fo65_1 : foff Tryd.prog 65 1 = some 1 := by kernel_rfl
theorem fo65_2 : foff Tryd.prog 65 2 = some 2 := by kernel_rfl
theorem fo65_3 : foff Tryd.prog 65 3 = some 3 := by kernel_rfl
theorem fo65_4 : foff Tryd.prog 65 4 = some 4 := by kernel_rfl
theorem mixed : Tryd.prog.follows .mixedOrders = true := by kernel_rfl
theorem sc108 : sc Tryd.prog 108 = true := by kernel_rfl
theorem sc3 : sc Tryd.prog 3 = true := by kernel_rfl
theorem sc53 : sc Tryd.prog 53 = true := by kernel_rfl
end FactsDShC
open FactsDShC

abbrev gT : Nat := 0
theorem rtx_neg {R r : List Int} (s : ByteArray) (h : r.getD 4 0 < 0) : wtx r s = rtx R r ∧ rnm R r = R := by
  unfold wtx rtx rnm
  rw [if_neg (by omega), if_neg (by omega), if_neg (by omega)]
  exact ⟨rfl, rfl⟩
theorem rtx_pos {R r : List Int} (h : 0 ≤ r.getD 4 0) : rnm R r = addL R (r.getD 4 0) := if_pos h

theorem textTail_ok {xb nb B c1 c2 : Nat} {A1 A2 : Option Addr} {T R : List Int} (v : Int) {H : Heap} (hX : Blk H xb [ptr nb 0]) (hT : Tens H) (hoT : Off nb A1 A2 (gT : Nat)) (hN : Nm H nb B A1 c1 T A2 c2 R) (hm : R.length ≤ 100000) :
    Ret Tryd.prog 85 [I v, ptr xb 0] H (fun w H' => w = .string (⟨#[101]⟩ ++ dec (ixL R v)) ∧ ∃ A2' c2', Nm H' nb B A1 c1 T A2' c2' (addL R v) ∧ Mod nb A1 A2 A1 A2' H H') := by
  have hix := ixL_le R v
  refine Ret.of_at (N := 9) Tryd.call85 Tryd.func85 rfl rfl rfl ?_
  have hE := Ext.refl H

  refine At.region rfl rfl ?_
  refine Reg.pur rfl rfl rfl rfl (Pur.asg rfl) ?_
  refine Reg.nil ?_
  refine At.region rfl rfl ?_
  refine Reg.lod rfl rfl rfl rfl (Lod.ld sc108 rfl hX rfl) ?_
  refine Reg.pur rfl rfl rfl rfl (Pur.mv rfl) ?_
  refine Reg.op rfl rfl rfl rfl (Does.call rfl (nm_Row v hN (by omega))) ?_
  rintro _ H1_2 ⟨rfl, A2a, c2a, hN1_2, hM1_2⟩
  refine Reg.op rfl rfl rfl rfl (Does.call rfl (itoa_ok (ixL R v) (by omega) (hT.via hM1_2.1 hoT.not))) ?_
  rintro _ H1_3 ⟨rfl, hE1_3⟩
  have z1_3 := hE1_3.lt
  refine Reg.pur rfl rfl rfl rfl (Pur.addS rfl rfl (szs (sl1 _) (dec_size _) (by decide))) ?_
  refine Reg.pur rfl rfl rfl rfl (Pur.asg rfl) ?_
  refine Reg.nil ?_
  refine At.ret rfl Tryd.func85 rfl ?_
  exact ⟨rfl, A2a, c2a, hN1_2.ext hE1_3, hM1_2.ext hE1_3⟩
theorem rowW_ok {xb rb ro nb B c1 c2 : Nat} {cg : List Value} {r : List Int} {A1 A2 : Option Addr} {T R : List Int} (h5 : r.length = 5) (hr : rowM r = true) {H : Heap} (hX : Blk H xb [ptr nb 0]) (hT : Tens H) (hoT : Off nb A1 A2 (gT : Nat)) (hB : Blk H rb cg) (hc : (cg.drop ro).take 5 = Is r) (hN : Nm H nb B A1 c1 T A2 c2 R) (hm : R.length ≤ 100000) :
    Ret Tryd.prog 55 [ptr rb ro, .func (.func 85) #[] #[ptr xb 0]] H (fun v H' => v = .string (rtx R r) ∧ ∃ A2' c2', Nm H' nb B A1 c1 T A2' c2' (rnm R r) ∧ Mod nb A1 A2 A1 A2' H H') := by
  refine (write_ok (us := [ptr xb 0]) (Q := fun s H1 H2 => s = ⟨#[101]⟩ ++ dec (ixL R (r.getD 4 0)) ∧ ∃ A2' c2', Nm H2 nb B A1 c1 T A2' c2' (addL R (r.getD 4 0)) ∧ Mod nb A1 A2 A1 A2' H1 H2) h5 hr hT hB hc (fun H1 hE h0 => (textTail_ok (r.getD 4 0) (hX.ext hE) (hT.ext hE) hoT (hN.ext hE) hm).mono ?_)).mono ?_
  · rintro v H2 ⟨rfl, h⟩
    exact ⟨_, rfl, by have := dec_size (ixL R (r.getD 4 0)); rw [ByteArray.size_append, sz1]; omega, rfl, h⟩
  · rintro v H' ⟨s, rfl, H1, hE, ⟨h0, rfl, A2', c2', hN', hM⟩ | ⟨h0, rfl⟩⟩
    · exact ⟨by rw [wtx_rtx], A2', c2', by rw [rtx_pos h0]; exact hN', ((Mod.refl nb A1 A2 H).ext hE).trans hM⟩
    · exact ⟨by rw [(rtx_neg (R := R) s h0).1], A2, c2, by rw [(rtx_neg (R := R) s h0).2]; exact hN.ext hE, (Mod.refl nb A1 A2 H).ext hE⟩

theorem textP_ok {L : List (List Int)} (hL : Nine L) {A : Option Addr} {cap nb B yb yo : Nat} {cy : List Value} (hm : L.length ≤ 256) (hcy : cy[yo]? = some (.slice A L.length cap)) : ∀ (f : Nat) (t : Tm) (pre post : List (List Int)), t.sz ≤ f → t.ok → L = pre ++ t.enc pre.length ++ post →
    ∀ {H : Heap} {A1 A2 : Option Addr} {c1 c2 : Nat} {T R : List Int}, Blk H yb cy → Tens H → SlT H Is 9 (.slice A L.length cap) L → Nm H nb B A1 c1 T A2 c2 R → T.length + R.length + t.sz ≤ 90000 → Off nb A1 A2 (ob A) → Off nb A1 A2 yb → Off nb A1 A2 (gT : Nat) → ∀ z : Int, z = (pre.length : Int) + t.sz - 1 →
    Ret Tryd.prog 62 [ptr nb 0, ptr yb yo, I z] H (fun v H' => v = .string (tx (T, R) t).1 ∧ ∃ A1' c1' A2' c2', Nm H' nb B A1' c1' (tx (T, R) t).2.1 A2' c2' (tx (T, R) t).2.2 ∧ Mod nb A1 A2 A1' A2' H H') := by
  intro f
  induction f with
  | zero => intro t _ _ h; have := t.sz_pos; omega
  | succ f ihf =>
  intro t pre post hf hok hLe H A1 A2 c1 c2 T R hY hT hS hN hlen hoA hoY hoT z hz
  have hlL : L.length = pre.length + t.sz + post.length := by rw [hLe, List.length_append, List.length_append, Tm.enc_len]
  have hpos := t.sz_pos
  obtain ⟨b, o, c, rfl, hB, hd, hx9, hat⟩ := el_cells hL hS (z := z) (by omega) (by omega)
  obtain ⟨n0, n1, n2, n3⟩ := nd_at t pre post (el L z) (by rw [← hLe, hz])
  generalize el L z = x at hd hx9 hat n0 n1 n2 n3
  have hob : ob (some ⟨b, o, none⟩) = b := ob_some b o
  have zB := Int.ofNat_lt.2 hB.lt
  have zY := Int.ofNat_lt.2 hY.lt
  have zT := Int.ofNat_lt.2 hT.lt
  have zN := hN.own.lt
  rw [hob] at hoA
  refine Ret.of_at (N := 61) Tryd.call62 Tryd.func62 rfl rfl rfl ?_
  have hE := Ext.refl H

  refine At.region rfl rfl ?_
  refine Reg.op rfl rfl rfl rfl (Does.box rfl rfl) ?_
  rintro _ H0_0 ⟨rfl, hn0_0⟩
  have z0_0 := hn0_0.size
  have o0_0 := hn0_0.own
  refine Reg.pur rfl rfl rfl rfl (Pur.asg rfl) ?_
  refine Reg.nil ?_

  have hX : Blk H0_0 H.size [ptr nb 0] := o0_0.blk
  have hE0 : Ext H H0_0 := hn0_0.ext
  have hN0 := hN.ext hE0
  have hS0 := hS.ext hE0
  have hY0 := hY.ext hE0
  have hT0 := hT.ext hE0
  have hB0 := hB.ext hE0
  have hoX : Off nb A1 A2 H.size := ⟨by omega, by have := hN.g1.lt; omega, by have := hN.g2.lt; omega⟩
  have zX := Int.ofNat_lt.2 hX.lt
  have hM0 : Mod nb A1 A2 A1 A2 H H0_0 := (Mod.refl nb A1 A2 H).ext hE0
  have zB0 := Int.ofNat_lt.2 hB0.lt
  have zY0 := Int.ofNat_lt.2 hY0.lt
  have zT0 := Int.ofNat_lt.2 hT0.lt
  refine At.region rfl rfl ?_
  refine Reg.pur rfl rfl rfl rfl (Pur.mv rfl) ?_
  refine Reg.pur rfl rfl rfl rfl (Pur.nilc rfl) ?_
  refine Reg.pur rfl rfl rfl rfl (Pur.fld _ fo55_0 rfl) ?_
  refine Reg.lod rfl rfl rfl rfl (Lod.ld sc53 rfl hY0 hcy) ?_
  refine Reg.pur rfl rfl rfl rfl (Pur.mv rfl) ?_
  refine Reg.pur rfl rfl rfl rfl (Pur.idx _ es53 rfl rfl (by omega) (by omega)) ?_
  refine Reg.pur rfl rfl rfl rfl (Pur.asg rfl) ?_
  refine Reg.nil ?_
  refine At.region rfl rfl ?_
  refine Reg.pur rfl rfl rfl rfl (Pur.mv rfl) ?_
  refine Reg.pur rfl rfl rfl rfl (Pur.nilc rfl) ?_
  refine Reg.pur rfl rfl rfl rfl (Pur.fld _ fo65_0 rfl) ?_
  refine Reg.lod rfl rfl rfl rfl (Lod.ld sc3 rfl hB0 (hat 0 (by omega))) ?_
  refine Reg.nil ?_
  refine At.region rfl rfl ?_
  refine Reg.pur rfl rfl rfl rfl (Pur.eql rfl rfl) ?_
  refine Reg.pur rfl rfl rfl rfl (Pur.asg rfl) ?_
  refine Reg.nil ?_
  refine At.cond rfl rfl (fun q20 => ?_) (fun q20 => ?_)
  · first | (simp only [decide_eq_true_eq, decide_eq_false_iff_not, Bool.not_eq_true', Bool.not_eq_false', ne_eq, Decidable.not_not, Bool.not_eq_true, Bool.not_eq_false] at q20) | (dsimp only at q20) | skip
    refine At.region rfl rfl ?_
    refine Reg.pur rfl rfl rfl rfl (Pur.asg rfl) ?_
    refine Reg.nil ?_
    refine At.ret rfl Tryd.func62 rfl ?_
    obtain rfl := n0 q20
    exact ⟨rfl, A1, c1, A2, c2, hN0, hM0⟩
  first | (simp only [decide_eq_true_eq, decide_eq_false_iff_not, Bool.not_eq_true', Bool.not_eq_false', ne_eq, Decidable.not_not, Bool.not_eq_true, Bool.not_eq_false] at q20) | (dsimp only at q20) | skip
  refine At.region rfl rfl ?_
  refine Reg.pur rfl rfl rfl rfl (Pur.eql rfl rfl) ?_
  refine Reg.pur rfl rfl rfl rfl (Pur.asg rfl) ?_
  refine Reg.nil ?_
  refine At.cond rfl rfl (fun q22 => ?_) (fun q22 => ?_)
  · first | (simp only [decide_eq_true_eq, decide_eq_false_iff_not, Bool.not_eq_true', Bool.not_eq_false', ne_eq, Decidable.not_not, Bool.not_eq_true, Bool.not_eq_false] at q22) | (dsimp only at q22) | skip
    refine At.region rfl rfl ?_
    refine Reg.pur rfl rfl rfl rfl (Pur.asg rfl) ?_
    refine Reg.nil ?_
    refine At.ret rfl Tryd.func62 rfl ?_
    obtain rfl := n1 q22
    exact ⟨rfl, A1, c1, A2, c2, hN0, hM0⟩
  first | (simp only [decide_eq_true_eq, decide_eq_false_iff_not, Bool.not_eq_true', Bool.not_eq_false', ne_eq, Decidable.not_not, Bool.not_eq_true, Bool.not_eq_false] at q22) | (dsimp only at q22) | skip
  refine At.region rfl rfl ?_
  refine Reg.pur rfl rfl rfl rfl (Pur.eql rfl rfl) ?_
  refine Reg.pur rfl rfl rfl rfl (Pur.asg rfl) ?_
  refine Reg.nil ?_
  refine At.cond rfl rfl (fun q24 => ?_) (fun q24 => ?_)
  · first | (simp only [decide_eq_true_eq, decide_eq_false_iff_not, Bool.not_eq_true', Bool.not_eq_false', ne_eq, Decidable.not_not, Bool.not_eq_true, Bool.not_eq_false] at q24) | (dsimp only at q24) | skip
    refine At.drawE ((Bks.cons hX.blk (Bks.cons hB0.blk Bks.nil))) [5] mixed rfl rfl ?_
    refine RegD.take (i := 0) rfl rfl rfl rfl (by kernel_rfl) (Bks.cons hX.blk (Bks.cons hB0.blk Bks.nil)) (fun H hS => Lod.ld sc108 rfl hS.hd rfl) ?_
    refine RegD.tpur (i := 1) rfl rfl rfl rfl (by kernel_rfl) (Pur.mv rfl) ?_
    refine RegD.tpur (i := 2) rfl rfl rfl rfl (by kernel_rfl) (Pur.nilc rfl) ?_
    refine RegD.tpur (i := 3) rfl rfl rfl rfl (by kernel_rfl) (Pur.fld _ fo65_1 rfl) ?_
    refine RegD.take (i := 4) rfl rfl rfl rfl (by kernel_rfl) (Bks.cons hX.blk (Bks.cons hB0.blk Bks.nil)) (fun H hS => Lod.ld sc3 rfl hS.tl.hd (hat 1 (by omega))) ?_
    have hix := ixL_le T (x.getD 1 0)
    refine RegD.one (i := 5) (by kernel_rfl) rfl rfl rfl rfl (Does.call rfl (nm_Type _ hN0 (by omega))) ?_
    rintro _ H8_5 ⟨rfl, A1a, c1a, hN8_5, hM8_5⟩
    replace hX := hX.via hM8_5.1 hoX.not
    replace hB0 := hB0.via hM8_5.1 hoA.not
    refine ⟨fun h => (by cases h), ?_⟩
    refine RegD.one (i := 6) (by kernel_rfl) rfl rfl rfl rfl (Does.call rfl (itoa_ok (ixL T (x.getD 1 0)) (by omega) (hT0.via hM8_5.1 hoT.not))) ?_
    rintro _ H8_6 ⟨rfl, hD8_6⟩
    replace hX := hX.ext hD8_6
    replace hB0 := hB0.ext hD8_6
    refine ⟨fun _ _ => (Bks.cons hX.blk (Bks.cons hB0.blk Bks.nil)), ?_⟩
    refine RegD.tpur (i := 7) rfl rfl rfl rfl (by kernel_rfl) (Pur.addS rfl rfl (szs (sl1 _) (dec_size _) (by decide))) ?_
    refine RegD.tpur (i := 8) rfl rfl rfl rfl (by kernel_rfl) (Pur.asg rfl) ?_
    refine RegD.done (by kernel_rfl) ?_
    refine At.ret rfl Tryd.func62 rfl ?_
    have ht := n2 q24
    rw [ht]
    exact ⟨rfl, A1a, c1a, A2, c2, hN8_5.ext hD8_6, (hM0.trans hM8_5).ext hD8_6⟩
  first | (simp only [decide_eq_true_eq, decide_eq_false_iff_not, Bool.not_eq_true', Bool.not_eq_false', ne_eq, Decidable.not_not, Bool.not_eq_true, Bool.not_eq_false] at q24) | (dsimp only at q24) | skip
  obtain ⟨ta, r, tb, rfl, rfl⟩ := n3 q20 q22 q24
  obtain ⟨hoa, hr5, hrow, hob2⟩ := hok
  have hpa := ta.sz_pos
  have hpb := tb.sz_pos
  have e0 : (Tm.fn ta r tb).sz = ta.sz + tb.sz + 1 := rfl
  have sA : (tx (T, R) ta).1.size ≤ 358400 := Nat.le_trans (tx_size ta _ hoa) (by omega)
  have lA := tx_len ta (T, R)
  have lR := rnm_len (tx (T, R) ta).2.2 r
  have sR := rtx_size (R := (tx (T, R) ta).2.2) hr5 hrow
  have sB : (tx ((tx (T, R) ta).2.1, rnm (tx (T, R) ta).2.2 r) tb).1.size ≤ 358400 := Nat.le_trans (tx_size tb _ hob2) (by omega)
  dsimp only at lA
  have hrp := nod_row hd hr5
  refine At.drawE ((Bks.cons hX.blk (Bks.cons hB0.blk Bks.nil))) [6] mixed rfl rfl ?_
  refine RegD.take (i := 0) rfl rfl rfl rfl (by kernel_rfl) (Bks.cons hX.blk (Bks.cons hB0.blk Bks.nil)) (fun H hS => Lod.ld sc108 rfl hS.hd rfl) ?_
  refine RegD.tpur (i := 1) rfl rfl rfl rfl (by kernel_rfl) (Pur.mv rfl) ?_
  refine RegD.tpur (i := 2) rfl rfl rfl rfl (by kernel_rfl) (Pur.mv rfl) ?_
  refine RegD.tpur (i := 3) rfl rfl rfl rfl (by kernel_rfl) (Pur.nilc rfl) ?_
  refine RegD.tpur (i := 4) rfl rfl rfl rfl (by kernel_rfl) (Pur.fld _ fo65_2 rfl) ?_
  refine RegD.take (i := 5) rfl rfl rfl rfl (by kernel_rfl) (Bks.cons hX.blk (Bks.cons hB0.blk Bks.nil)) (fun H hS => Lod.ld sc3 rfl hS.tl.hd (show _ = some (I ((pre.length : Int) + ta.sz - 1)) from hat 2 (by omega))) ?_
  refine RegD.one (i := 6) (by kernel_rfl) rfl rfl rfl rfl (Does.call rfl (ihf ta pre _ (by omega) hoa (hLe.trans (spl_a ta r tb pre post)) hY0 hT0 hS0 hN0 (by omega) (by rw [hob]; exact hoA) hoY hoT _ rfl)) ?_
  rintro _ H9_6 ⟨rfl, A1a, c1a, A2a, c2a, hN9_6, hM9_6⟩
  have hX1 := hX.via hM9_6.1 hoX.not
  have hY1 := hY0.via hM9_6.1 hoY.not
  have hT1 := hT0.via hM9_6.1 hoT.not
  have hB1 := hB0.via hM9_6.1 hoA.not
  have hS1 := hS0.via hM9_6.1 (fun _ g hg => by rw [hob] at hg; obtain rfl : g = b := (by omega); exact hoA.not)
  have hoX1 := hoX.mod zX hM9_6
  have hoA1 := hoA.mod zB0 hM9_6
  have hoY1 := hoY.mod zY0 hM9_6
  have hoT1 := hoT.mod zT0 hM9_6
  have zX1 := Int.ofNat_lt.2 hX1.lt
  have zB1 := Int.ofNat_lt.2 hB1.lt
  have zY1 := Int.ofNat_lt.2 hY1.lt
  have zT1 := Int.ofNat_lt.2 hT1.lt
  refine ⟨fun h => (by cases h), ?_⟩
  refine RegD.tpur (i := 7) rfl rfl rfl rfl (by kernel_rfl) (Pur.asg rfl) ?_
  refine RegD.done (by kernel_rfl) ?_
  refine At.region rfl rfl ?_
  refine Reg.pur rfl rfl rfl rfl (Pur.mv rfl) ?_
  refine Reg.pur rfl rfl rfl rfl (Pur.nilc rfl) ?_
  refine Reg.pur rfl rfl rfl rfl (Pur.fld _ fo65_4 rfl) ?_
  refine Reg.pur rfl rfl rfl rfl (Pur.mkf rfl rfl) ?_
  refine Reg.op rfl rfl rfl rfl (Does.call rfl (rowW_ok hr5 hrow hX1 hT1 hoT1 hB1 hrp hN9_6 (by omega))) ?_
  rintro _ H10_4 ⟨rfl, A2b, c2b, hN10_4, hM10_4⟩
  have hX2 := hX1.via hM10_4.1 hoX1.not
  have hY2 := hY1.via hM10_4.1 hoY1.not
  have hT2 := hT1.via hM10_4.1 hoT1.not
  have hB2 := hB1.via hM10_4.1 hoA1.not
  have hS2 := hS1.via hM10_4.1 (fun _ g hg => by rw [hob] at hg; obtain rfl : g = b := (by omega); exact hoA1.not)
  have hoA2 := hoA1.mod zB1 hM10_4
  have hoY2 := hoY1.mod zY1 hM10_4
  have hoT2 := hoT1.mod zT1 hM10_4
  refine Reg.pur rfl rfl rfl rfl (Pur.asg rfl) ?_
  refine Reg.nil ?_
  refine At.drawE ((Bks.cons hX2.blk (Bks.cons hB2.blk Bks.nil))) [12] mixed rfl rfl ?_
  refine RegD.tpur (i := 0) rfl rfl rfl rfl (by kernel_rfl) (Pur.mv rfl) ?_
  refine RegD.tpur (i := 1) rfl rfl rfl rfl (by kernel_rfl) (Pur.addS rfl rfl (szs (sl1 _) sA (by decide))) ?_
  refine RegD.tpur (i := 2) rfl rfl rfl rfl (by kernel_rfl) (Pur.addS rfl rfl (szs (sza (sl1 _) sA) (sl2 _ _) (by decide))) ?_
  refine RegD.tpur (i := 3) rfl rfl rfl rfl (by kernel_rfl) (Pur.mv rfl) ?_
  refine RegD.tpur (i := 4) rfl rfl rfl rfl (by kernel_rfl) (Pur.addS rfl rfl (szs (sza (sza (sl1 _) sA) (sl2 _ _)) sR (by decide))) ?_
  refine RegD.tpur (i := 5) rfl rfl rfl rfl (by kernel_rfl) (Pur.addS rfl rfl (szs (sza (sza (sza (sl1 _) sA) (sl2 _ _)) sR) (sl1 _) (by decide))) ?_
  refine RegD.take (i := 6) rfl rfl rfl rfl (by kernel_rfl) (Bks.cons hX2.blk (Bks.cons hB2.blk Bks.nil)) (fun H hS => Lod.ld sc108 rfl hS.hd rfl) ?_
  refine RegD.tpur (i := 7) rfl rfl rfl rfl (by kernel_rfl) (Pur.mv rfl) ?_
  refine RegD.tpur (i := 8) rfl rfl rfl rfl (by kernel_rfl) (Pur.mv rfl) ?_
  refine RegD.tpur (i := 9) rfl rfl rfl rfl (by kernel_rfl) (Pur.nilc rfl) ?_
  refine RegD.tpur (i := 10) rfl rfl rfl rfl (by kernel_rfl) (Pur.fld _ fo65_3 rfl) ?_
  refine RegD.take (i := 11) rfl rfl rfl rfl (by kernel_rfl) (Bks.cons hX2.blk (Bks.cons hB2.blk Bks.nil)) (fun H hS => Lod.ld sc3 rfl hS.tl.hd (show _ = some (I ((pre.length : Int) + ta.sz + tb.sz - 1)) from hat 3 (by omega))) ?_
  refine RegD.one (i := 12) (by kernel_rfl) rfl rfl rfl rfl (Does.call rfl (ihf tb (pre ++ ta.enc pre.length) _ (by omega) hob2 (hLe.trans (spl_b ta r tb pre post)) hY2 hT2 hS2 hN10_4 (by first | omega | (dsimp only; omega)) (by rw [hob]; exact hoA2) hoY2 hoT2 _ (by rw [spl_l]; omega))) ?_
  rintro _ H11_12 ⟨rfl, A1d, c1d, A2d, c2d, hN11_12, hM11_12⟩
  refine ⟨fun h => (by cases h), ?_⟩
  refine RegD.tpur (i := 13) rfl rfl rfl rfl (by kernel_rfl) (Pur.addS rfl rfl (szs (sza (sza (sza (sza (sl1 _) sA) (sl2 _ _)) sR) (sl1 _)) sB (by decide))) ?_
  refine RegD.tpur (i := 14) rfl rfl rfl rfl (by kernel_rfl) (Pur.addS rfl rfl (szs (sza (sza (sza (sza (sza (sl1 _) sA) (sl2 _ _)) sR) (sl1 _)) sB) (sl1 _) (by decide))) ?_
  refine RegD.tpur (i := 15) rfl rfl rfl rfl (by kernel_rfl) (Pur.asg rfl) ?_
  refine RegD.done (by kernel_rfl) ?_
  refine At.ret rfl Tryd.func62 rfl ?_
  exact ⟨rfl, A1d, c1d, A2d, c2d, hN11_12, ((hM0.trans hM9_6).trans hM10_4).trans hM11_12⟩
end Go.Proofs.YtlfillhffpiffaaDoor

namespace Go.Proofs.YtlfillhffpiffaaDoor
set_option linter.unusedSimpArgs false
set_option linter.unusedVariables false
set_option maxRecDepth 8000
set_option maxHeartbeats 1000000
open Go Go.Fx Go.Proofs
namespace FactsDShD
theorem ag55 : ag Tryd.prog 55 = some 1 := by kernel_rfl
theorem fo55_0 : foff Tryd.prog 55 0 = some 0 := by kernel_rfl
theorem isl53 : isSl Tryd.prog 53 = true := by kernel_rfl
theorem pl109 : places Tryd.prog 109 = some [(0, 1), (1, 1)] := by kernel_rfl
theorem sc53 : sc Tryd.prog 53 = true := by kernel_rfl
theorem zc109 : zc Tryd.prog 109 = some [.slice none 0 0, .slice none 0 0] := by kernel_rfl
end FactsDShD
open FactsDShD

open Classical in
noncomputable def dcd (L : List (List Int)) : Tm := if h : ∃ t : Tm, t.ok ∧ t.sz ≤ 256 ∧ L = t.enc 0 then h.choose else .bas false
theorem dcd_enc {t : Tm} (h : t.ok) (hz : t.sz ≤ 256) : dcd (t.enc 0) = t := by
  unfold dcd
  have hx : ∃ u : Tm, u.ok ∧ u.sz ≤ 256 ∧ t.enc 0 = u.enc 0 := ⟨t, h, hz, rfl⟩
  rw [dif_pos hx]
  have h3 := hx.choose_spec
  exact enc_inj h3.1 h h3.2.1 h3.2.2.symm
noncomputable def txV (L : List (List Int)) : ByteArray × Int := if typM L then ((tx ([], []) (dcd L)).1, 0) else (⟨#[]⟩, 700)
theorem txV_enc {t : Tm} (h : t.ok) (hz : t.sz ≤ 256) : txV (t.enc 0) = ((tx ([], []) t).1, 0) := by
  unfold txV; rw [enc_typ h hz, dcd_enc h hz]; rfl
theorem txV_no {L : List (List Int)} (h : typM L = false) : txV L = (⟨#[]⟩, 700) := by unfold txV; rw [h]; rfl
theorem typText_ok {A : Option Addr} {cap : Nat} {L : List (List Int)} (hL : Nine L) {H : Heap} (hT : Tens H) (hS : SlT H Is 9 (.slice A L.length cap) L) (hl : L.length ≤ 9223372036854775807) :
    Ret Tryd.prog 39 [Ty A L.length cap] H (fun v H' => v = .tuple #[.string (txV L).1, I (txV L).2] ∧ Ext H H') := by
  have zT : gT < H.size := hT.lt
  refine Ret.of_at (N := 14) Tryd.call39 Tryd.func39 rfl rfl rfl ?_
  have hE := Ext.refl H
  refine At.region rfl rfl ?_
  refine Reg.op rfl rfl rfl rfl (Does.box rfl rfl) ?_
  rintro _ H0_0 ⟨rfl, hn0_0⟩
  have z0_0 := hn0_0.size
  replace hE := hE.ext hn0_0.ext
  have o0_0 := hn0_0.own
  refine Reg.pur rfl rfl rfl rfl (Pur.asg rfl) ?_
  refine Reg.pur rfl rfl rfl rfl (Pur.asg rfl) ?_
  refine Reg.nil ?_
  refine At.region rfl rfl ?_
  refine Reg.lod rfl rfl rfl rfl (Lod.ldn ag55 rfl o0_0.blk (whole rfl) rfl) ?_
  refine Reg.op rfl rfl rfl rfl (Does.call rfl (typMay_ok L hL (hS.ext hE) hl)) ?_
  rintro _ H1_1 ⟨rfl, hE1_1⟩
  have z1_1 := hE1_1.lt
  replace hE := hE.ext hE1_1
  replace o0_0 := o0_0.ext hE1_1
  refine Reg.pur rfl rfl rfl rfl (Pur.not rfl) ?_
  refine Reg.nil ?_
  refine At.cond rfl rfl (fun q6 => ?_) (fun q6 => ?_)
  · first | (simp only [decide_eq_true_eq, decide_eq_false_iff_not, Bool.not_eq_true', Bool.not_eq_false', ne_eq, Decidable.not_not, Bool.not_eq_true, Bool.not_eq_false] at q6) | (dsimp only at q6) | skip
    refine At.region rfl rfl ?_
    refine Reg.pur rfl rfl rfl rfl (Pur.asg rfl) ?_
    refine Reg.pur rfl rfl rfl rfl (Pur.asg rfl) ?_
    refine Reg.nil ?_
    refine At.ret rfl Tryd.func39 rfl ?_
    rw [txV_no q6]; exact ⟨rfl, hE⟩
  first | (simp only [decide_eq_true_eq, decide_eq_false_iff_not, Bool.not_eq_true', Bool.not_eq_false', ne_eq, Decidable.not_not, Bool.not_eq_true, Bool.not_eq_false] at q6) | (dsimp only at q6) | skip
  obtain ⟨t, hok, rfl, hsz⟩ := typ_dec hL q6
  have hl' : (t.enc 0).length = t.sz := Tm.enc_len t 0
  have hpos := t.sz_pos
  refine At.region rfl rfl ?_
  refine Reg.pur rfl rfl rfl rfl (Pur.bld (cs := [_, _]) pl109 zc109 rfl rfl ⟨rfl, rfl, rfl⟩) ?_
  refine Reg.op rfl rfl rfl rfl (Does.box rfl rfl) ?_
  rintro _ H3_1 ⟨rfl, hn3_1⟩
  have z3_1 := hn3_1.size
  replace hE := hE.ext hn3_1.ext
  replace o0_0 := o0_0.ext hn3_1.ext
  have o3_1 := hn3_1.own
  refine Reg.pur rfl rfl rfl rfl (Pur.fld _ fo55_0 rfl) ?_
  refine Reg.lod rfl rfl rfl rfl (Lod.ld sc53 rfl o0_0.blk rfl) ?_
  refine Reg.pur rfl rfl rfl rfl (Pur.lenS isl53 rfl) ?_
  refine Reg.pur rfl rfl rfl rfl (Pur.sub64 rfl rfl (by omega)) ?_
  refine Reg.op rfl rfl rfl rfl (Does.call rfl (textP_ok hL (by omega) (at0 _) t.sz t [] [] (Nat.le_refl _) hok (by simp) o0_0.blk (hT.ext hE) (hS.ext hE) (nm_new (B := H.size) o3_1 (by omega)) (by simp; omega) (off_none (by have := hS.lt; omega) (by have := hS.lt; omega)) (off_none (by omega) (by omega)) (off_none (by omega) (by omega)) _ (by rw [hl']; simp))) ?_
  rintro _ H3_6 ⟨rfl, A1, c1, A2, c2, hN3_6, hM3_6⟩
  refine Reg.pur rfl rfl rfl rfl (Pur.asg rfl) ?_
  refine Reg.pur rfl rfl rfl rfl (Pur.asg rfl) ?_
  refine Reg.nil ?_
  refine At.ret rfl Tryd.func39 rfl ?_
  rw [txV_enc hok hsz]; exact ⟨rfl, mod_ext hM3_6 hE (by omega)⟩
end Go.Proofs.YtlfillhffpiffaaDoor

namespace Go.Proofs
open Go.Shelf
def Tryd.growT_ren : Go.Shelf.Ren := ⟨fun | 4 => 105 | n => n, fun | 22 => 53 | 25 => 65 | 3 => 3 | 4 => 4 | 9 => 9 | 20 => 20 | 0 => 0 | n => n, fun | n => n⟩
theorem Tryd.growT : Go.Proofs.Lays8.n4 Tryd.prog Tryd.growT_ren := {
  mixed := by kernel_rfl
  f4 := ⟨Tryd.f105.name, by decide, Tryd.func105.trans (congrArg some (by kernel_rfl))⟩
  t0 := Tryd.underlying0
  a0 := Tryd.isAgg0
  z0 := Tryd.sizeOf0
  v0 := Tryd.zeroValue0
  t3 := Tryd.underlying3
  a3 := Tryd.isAgg3
  z3 := Tryd.sizeOf3
  v3 := Tryd.zeroValue3
  t4 := Tryd.underlying4
  a4 := Tryd.isAgg4
  z4 := Tryd.sizeOf4
  v4 := Tryd.zeroValue4
  t9 := Tryd.underlying9
  a9 := Tryd.isAgg9
  z9 := Tryd.sizeOf9
  v9 := Tryd.zeroValue9
  t20 := Tryd.underlying20
  a20 := Tryd.isAgg20
  z20 := Tryd.sizeOf20
  v20 := Tryd.zeroValue20
  t22 := Tryd.underlying53
  a22 := Tryd.isAgg53
  z22 := Tryd.sizeOf53
  v22 := Tryd.zeroValue53 }
end Go.Proofs

namespace Go.Proofs.YtlfillhffpiffaaDoor
set_option linter.unusedSimpArgs false
set_option linter.unusedVariables false
set_option maxRecDepth 8000
set_option maxHeartbeats 1000000
open Go Go.Fx Go.Proofs
namespace FactsDFnA
theorem apt53 : appT Tryd.prog 53 = some (65, 9, 72) := by kernel_rfl
theorem es158 : esz Tryd.prog 158 = some 1 := by kernel_rfl
theorem isl158 : isSl Tryd.prog 158 = true := by kernel_rfl
theorem isl53 : isSl Tryd.prog 53 = true := by kernel_rfl
theorem sc53 : sc Tryd.prog 53 = true := by kernel_rfl
end FactsDFnA
open FactsDFnA

theorem app_info {P : Program} {t el : TypeId} {s by' : Nat} (h : appT P t = some (el, s, by')) : ∃ i z, P.info? el = some i ∧ i.zero = some z ∧ i.size = s ∧ i.bytes = by' ∧ z.cells.size = s ∧ 0 < s := by
  unfold appT at h
  split at h
  case h_2 => cases h
  split at h
  case h_2 => cases h
  rename_i i hi
  split at h
  case h_2 => cases h
  rename_i z hz
  split at h
  case isFalse => cases h
  rename_i hc
  cases h
  simp only [Bool.and_eq_true, beq_iff_eq] at hc
  exact ⟨i, z, hi, hz, rfl, rfl, hc.1, by simpa [Nat.blt_eq] using hc.2⟩
theorem appN : appT Tryd.prog 53 = some (65, 9, 72) := by kernel_rfl
theorem grow_ok (n : Nat) (h1 : 1 ≤ n) (h2 : n ≤ 100000) {H : Heap} :
    Ret Tryd.prog 105 [.slice none 0 0, I n] H (fun v H' => ∃ A' cap', v = .slice A' 0 cap' ∧ Gs H' H.size 65 9 A' cap' 0 [] ∧ Ext H H') := by
  refine ⟨Tryd.call105, fun w0 k => ?_⟩
  obtain ⟨i0, z, hi, hz, hs, hb, hzs, hp⟩ := app_info appN
  have hc := Any8.slices_Grow_grow Tryd.growT i0 z hi hz (by omega) none 0 0 n [] (mk w0 H k) (Nat.le_refl _) (by omega) (by rw [hb]; omega) (by omega) (by simp) (fun _ => rfl) (fun a ha => by cases ha)
  refine Calls.mono hc fun e w' hx => ?_
  obtain ⟨he, hw⟩ := hx
  have hge := grownCap_ge (mk w0 H k) (0 + n) 0 65
  have hle := grownCap_le_maxLen (mk w0 H k) (0 + n) 0 65 (by rw [show maxLen = 9223372036854775807 from rfl]; omega)
  refine ⟨_, w'.heap, w'.drawn, he, by subst hw; rfl, some ⟨H.size, 0, none⟩, _, rfl, ⟨rfl, .inr ⟨H.size, _, _, rfl, Nat.le_refl _, by subst hw; exact Array.getElem?_push_size, Nat.zero_le _, hle, ?_, rfl⟩⟩, ?_⟩
  · have e1 : (grownCap (mk w0 H k) (0 + n) 0 65) = n + (grownCap (mk w0 H k) (0 + n) 0 65 - (0 + n)) := by omega
    simp only [Array.size_append, Go.size_zeroCells, hzs, List.size_toArray, List.length_nil]
    show 0 + (0 + n - 0) * 9 + (grownCap (mk w0 H k) (0 + n) 0 65 - (0 + n)) * 9 = grownCap (mk w0 H k) (0 + n) 0 65 * 9
    omega
  · subst hw
    refine ⟨by show H.size ≤ (H.push _).size; simp, fun b hb => ?_⟩
    show (H.push _)[b]? = _
    rw [Array.getElem?_push, if_neg (by omega)]

structure Sg where
  A : Option Addr
  cap : Nat
  L : List (List Int)
abbrev Sg.sl (s : Sg) : Value := .slice s.A s.L.length s.cap
def cat (G : List Sg) : List (List Int) := G.flatMap (·.L)
theorem cat_snoc {G : List Sg} {i : Nat} (h : i < G.length) : cat (G.take (i + 1)) = cat (G.take i) ++ G[i].L := by
  unfold cat; rw [List.take_succ_eq_append_getElem h, List.flatMap_append]; simp
theorem cat_len {G : List Sg} (h : ∀ s ∈ G, s.L.length ≤ 1000) : ∀ i, i ≤ G.length → (cat (G.take i)).length ≤ 1000 * i
  | 0, _ => Nat.zero_le _
  | i + 1, hi => by
    have h1 := cat_len h i (by omega)
    have h2 := h _ (List.getElem_mem (show i < G.length by omega))
    rw [cat_snoc (by omega), List.length_append]; omega
theorem concat_ok {b : Nat} {G : List Sg} (hl : G.length ≤ 10) (hG : ∀ s ∈ G, Nine s.L ∧ s.L.length ≤ 1000) (h0 : 1 ≤ (cat G).length) {H : Heap} (hS : ∀ s ∈ G, SlT H Is 9 s.sl s.L) (hB : Blk H b (G.map Sg.sl)) :
    Ret Tryd.prog 91 [.slice (some ⟨b, 0, none⟩) G.length G.length] H (fun v H' => ∃ A' cap', v = .slice A' (cat G).length cap' ∧ Gs H' H.size 65 9 A' cap' (cat G).length ((cat G).flatMap Is) ∧ Ext H H') := by
  have hcl := cat_len (fun s hs => (hG s hs).2)
  have hat : ∀ i (h : i < G.length), (G.map Sg.sl)[0 + (i : Int).toNat * 1]? = some G[i].sl := fun i h => by
    rw [show 0 + (i : Int).toNat * 1 = i from by omega]; simp [List.getElem?_map, List.getElem?_eq_getElem h]
  refine Ret.of_at (N := 36) Tryd.call91 Tryd.func91 rfl rfl rfl ?_
  have hE := Ext.refl H
  have z_hE := hE.lt
  have z_hB := hB.lt
  refine At.region rfl rfl ?_
  refine Reg.pur rfl rfl rfl rfl (Pur.asg rfl) ?_
  refine Reg.nil ?_
  refine At.region rfl rfl ?_
  refine Reg.pur rfl rfl rfl rfl (Pur.asg rfl) ?_
  refine Reg.nil ?_
  refine At.region rfl rfl ?_
  refine Reg.pur rfl rfl rfl rfl (Pur.mv rfl) ?_
  refine Reg.pur rfl rfl rfl rfl (Pur.lenS isl158 rfl) ?_
  refine Reg.pur rfl rfl rfl rfl (Pur.mv rfl) ?_
  refine Reg.nil ?_
  refine At.loop (σ := Nat) (fun i => [(11, I i), (10, I G.length), (9, .slice (some ⟨b, 0, none⟩) G.length G.length), (3, I (cat (G.take i)).length), (0, .slice (some ⟨b, 0, none⟩) G.length G.length)]) (fun i H' => i ≤ G.length ∧ Blk H' b (G.map Sg.sl) ∧ Ext H H') (fun i => G.length - i) 0 rfl ⟨rfl, rfl, rfl, rfl, rfl, trivial⟩ ⟨by omega, hB, hE⟩ ?_
  clear hB hE
  rintro i H1 ⟨hi, hB, hE⟩ ih
  have z_hE := hE.lt
  have z_hB := hB.lt
  refine At.region rfl rfl ?_
  refine Reg.pur rfl rfl rfl rfl (Pur.lss rfl rfl) ?_
  refine Reg.nil ?_
  refine At.cond rfl rfl (fun q12 => ?_) (fun q12 => ?_)
  · first | (simp only [decide_eq_true_eq, decide_eq_false_iff_not, Bool.not_eq_true', Bool.not_eq_false', ne_eq, Decidable.not_not, Bool.not_eq_true, Bool.not_eq_false] at q12) | (dsimp only at q12) | skip
    have hlt : i < G.length := by omega
    have hci := hcl i (by omega)
    have hgi := hG _ (List.getElem_mem hlt)
    have hcs := congrArg List.length (cat_snoc hlt)
    rw [List.length_append] at hcs
    refine At.region rfl rfl ?_
    refine Reg.pur rfl rfl rfl rfl (Pur.idx _ es158 rfl rfl (by omega) (by omega)) ?_
    refine Reg.lod rfl rfl rfl rfl (Lod.ld sc53 rfl hB (hat i hlt)) ?_
    refine Reg.pur rfl rfl rfl rfl (Pur.asg rfl) ?_
    refine Reg.nil ?_
    refine At.region rfl rfl ?_
    refine Reg.pur rfl rfl rfl rfl (Pur.mv rfl) ?_
    refine Reg.pur rfl rfl rfl rfl (Pur.mv rfl) ?_
    refine Reg.pur rfl rfl rfl rfl (Pur.lenS isl53 rfl) ?_
    refine Reg.pur rfl rfl rfl rfl (Pur.add64 rfl rfl (by omega)) ?_
    refine Reg.pur rfl rfl rfl rfl (Pur.asg rfl) ?_
    refine Reg.nil ?_
    refine At.region rfl rfl ?_
    refine Reg.pur rfl rfl rfl rfl (Pur.mv rfl) ?_
    refine Reg.pur rfl rfl rfl rfl (Pur.lss rfl rfl) ?_
    refine Reg.nil ?_
    refine At.condF rfl rfl (decide_eq_false (by omega)) ?_
    refine At.region rfl rfl ?_
    first | refine Reg.pur rfl rfl rfl rfl (Pur.add64 rfl rfl (by omega)) ?_ | refine Reg.pur rfl rfl rfl rfl (Pur.add64 rfl rfl (by assumption)) ?_ | refine Reg.pur rfl rfl rfl rfl (Pur.add rfl rfl) ?_
    refine Reg.pur rfl rfl rfl rfl (Pur.mv rfl) ?_
    refine Reg.nil ?_
    exact At.meets rfl (ih (i + 1) _ ⟨by omega, hB, hE⟩ (by omega)) ⟨rfl, rfl, rfl, by (show some (I _) = some (I _)); rw [hcs]; rfl, rfl, trivial⟩
  first | (simp only [decide_eq_true_eq, decide_eq_false_iff_not, Bool.not_eq_true', Bool.not_eq_false', ne_eq, Decidable.not_not, Bool.not_eq_true, Bool.not_eq_false] at q12) | (dsimp only at q12) | skip
  obtain rfl : i = G.length := by omega
  have hct : cat (G.take G.length) = cat G := by rw [List.take_length]
  have hcf := hcl G.length (Nat.le_refl _)
  rw [hct] at hcf ⊢
  refine At.region rfl rfl ?_
  refine Reg.pur rfl rfl rfl rfl (Pur.mv rfl) ?_
  refine Reg.op rfl rfl rfl rfl (Does.call rfl (grow_ok (cat G).length h0 (by omega))) ?_
  rintro _ H9_1 ⟨A0, cap0, rfl, hg, hE9_1⟩
  have z9_1 := hE9_1.lt
  replace hE := hE.ext hE9_1
  replace hB := hB.ext hE9_1
  refine Reg.pur rfl rfl rfl rfl (Pur.asg rfl) ?_
  refine Reg.nil ?_
  refine At.region rfl rfl ?_
  refine Reg.pur rfl rfl rfl rfl (Pur.mv rfl) ?_
  refine Reg.pur rfl rfl rfl rfl (Pur.lenS isl158 rfl) ?_
  refine Reg.pur rfl rfl rfl rfl (Pur.mv rfl) ?_
  refine Reg.nil ?_
  refine At.loop (σ := Nat × Option Addr × Nat) (fun (i, A', cap') => [(27, I i), (26, I G.length), (25, .slice (some ⟨b, 0, none⟩) G.length G.length), (6, .slice A' (cat (G.take i)).length cap')]) (fun (i, A', cap') H' => i ≤ G.length ∧ Blk H' b (G.map Sg.sl) ∧ Ext H H' ∧ Gs H' H.size 65 9 A' cap' (cat (G.take i)).length ((cat (G.take i)).flatMap Is)) (fun s => G.length - s.1) (0, A0, cap0) rfl ⟨rfl, rfl, rfl, rfl, trivial⟩ ⟨by (show 0 ≤ _); omega, hB, hE, hg.mono (by omega)⟩ ?_
  clear hB hE hg
  rintro ⟨i, A', cap'⟩ H2 ⟨hi, hB, hE, hg⟩ ih2
  dsimp only at hi hg ⊢
  have z_hE := hE.lt
  have z_hB := hB.lt
  have z_hg := hg.lt
  refine At.region rfl rfl ?_
  refine Reg.pur rfl rfl rfl rfl (Pur.lss rfl rfl) ?_
  refine Reg.nil ?_
  refine At.cond rfl rfl (fun q28 => ?_) (fun q28 => ?_)
  · first | (simp only [decide_eq_true_eq, decide_eq_false_iff_not, Bool.not_eq_true', Bool.not_eq_false', ne_eq, Decidable.not_not, Bool.not_eq_true, Bool.not_eq_false] at q28) | (dsimp only at q28) | skip
    have hlt : i < G.length := by omega
    have hci := hcl i (by omega)
    have hgi := hG _ (List.getElem_mem hlt)
    have hsi := hS _ (List.getElem_mem hlt)
    have hcs := cat_snoc hlt
    refine At.region rfl rfl ?_
    refine Reg.pur rfl rfl rfl rfl (Pur.idx _ es158 rfl rfl (by omega) (by omega)) ?_
    refine Reg.lod rfl rfl rfl rfl (Lod.ld sc53 rfl hB (hat i hlt)) ?_
    refine Reg.pur rfl rfl rfl rfl (Pur.asg rfl) ?_
    refine Reg.nil ?_
    refine At.region rfl rfl ?_
    refine Reg.pur rfl rfl rfl rfl (Pur.mv rfl) ?_
    refine Reg.pur rfl rfl rfl rfl (Pur.mv rfl) ?_
    refine Reg.op rfl rfl rfl rfl (Does.appL apt53 rfl rfl (by decide) hg (wide9 hgi.1) (hsi.ext hE) (ones_flat _) (by omega) (by omega)) ?_
    rintro _ H13_2 ⟨A13_2, cap13_2, rfl, g13_2, hbut13_2, ha13_2⟩
    have z13_2 := hbut13_2.lt
    replace hE := hE.via hbut13_2 (by first | omega | (intro g; omega) | (intro g hg; omega) | (intro g hg h; omega))
    replace hB := hB.via hbut13_2 (by first | omega | (intro g; omega) | (intro g hg; omega) | (intro g hg h; omega))
    replace hg := g13_2
    have zg13_2 := g13_2.lt
    refine Reg.pur rfl rfl rfl rfl (Pur.asg rfl) ?_
    refine Reg.nil ?_
    refine At.region rfl rfl ?_
    first | refine Reg.pur rfl rfl rfl rfl (Pur.add64 rfl rfl (by omega)) ?_ | refine Reg.pur rfl rfl rfl rfl (Pur.add64 rfl rfl (by assumption)) ?_ | refine Reg.pur rfl rfl rfl rfl (Pur.add rfl rfl) ?_
    refine Reg.pur rfl rfl rfl rfl (Pur.mv rfl) ?_
    refine Reg.nil ?_
    rw [← hcs] at hg
    exact At.via (ih2 (i + 1, A13_2, cap13_2) _ ⟨by (show i + 1 ≤ _); omega, hB, hE, hg⟩ (by (show _ - (i + 1) < _ - i); omega)) ⟨rfl, rfl, rfl, by (show some (Value.slice _ _ _) = _); rw [hcs], trivial⟩
  first | (simp only [decide_eq_true_eq, decide_eq_false_iff_not, Bool.not_eq_true', Bool.not_eq_false', ne_eq, Decidable.not_not, Bool.not_eq_true, Bool.not_eq_false] at q28) | (dsimp only at q28) | skip
  refine At.region rfl rfl ?_
  refine Reg.pur rfl rfl rfl rfl (Pur.mv rfl) ?_
  refine Reg.pur rfl rfl rfl rfl (Pur.asg rfl) ?_
  refine Reg.nil ?_
  refine At.ret rfl Tryd.func91 rfl ?_
  obtain rfl : i = G.length := by omega
  rw [List.take_length] at hg ⊢
  exact ⟨A', cap', rfl, hg, hE⟩
end Go.Proofs.YtlfillhffpiffaaDoor

namespace Go.Proofs.YtlfillhffpiffaaDoor
set_option linter.unusedSimpArgs false
set_option linter.unusedVariables false
set_option maxRecDepth 8000
set_option maxHeartbeats 1000000
open Go Go.Fx Go.Proofs
namespace FactsDFnB
theorem ag24 : ag Tryd.prog 24 = some 5 := by kernel_rfl
theorem ag55 : ag Tryd.prog 55 = some 1 := by kernel_rfl
theorem ag65 : ag Tryd.prog 65 = some 9 := by kernel_rfl
theorem fo55_0 : foff Tryd.prog 55 0 = some 0 := by kernel_rfl
theorem isl53 : isSl Tryd.prog 53 = true := by kernel_rfl
theorem mixed : Tryd.prog.follows .mixedOrders = true := by kernel_rfl
theorem pl55 : places Tryd.prog 55 = some [(0, 1)] := by kernel_rfl
theorem pl65 : places Tryd.prog 65 = some [(0, 1), (1, 1), (2, 1), (3, 1), (4, 5)] := by kernel_rfl
theorem sc53 : sc Tryd.prog 53 = true := by kernel_rfl
theorem sl1_158 : Go.Fx.sl1 Tryd.prog 158 = true := by kernel_rfl
theorem slA53 : slA Tryd.prog 53 = some (65, 9) := by kernel_rfl
theorem zc55 : zc Tryd.prog 55 = some [.slice none 0 0] := by kernel_rfl
theorem zc65 : zc Tryd.prog 65 = some [.int .i64 0, .int .i64 0, .int .i64 0, .int .i64 0, .int .i64 0, .int .i64 0, .int .i64 0, .int .i64 0, .int .i64 0] := by kernel_rfl
end FactsDFnB
open FactsDFnB

theorem arr2_cat (La Lb : List (List Int)) (r : List Int) (A1 A2 A3 : Option Addr) (c1 c2 c3 : Nat) : cat [⟨A1, c1, La⟩, ⟨A2, c2, Lb.map (movS La.length)⟩, ⟨A3, c3, [arrN La.length Lb.length r]⟩] = arr2 La r Lb := by
  simp [cat, arr2]
theorem g3 {α : Type} {P : α → Prop} {a b c : α} (ha : P a) (hb : P b) (hc : P c) : ∀ s ∈ [a, b, c], P s := by
  intro s hs
  simp only [List.mem_cons, List.not_mem_nil, or_false] at hs
  rcases hs with rfl | rfl | rfl
  · exact ha
  · exact hb
  · exact hc
theorem arrowP_ok {A B : Option Addr} {ca cb ya yo yb yp : Nat} {va vb : List Value} {La Lb : List (List Int)} {r : List Int} (ha : Nine La) (hb : Nine Lb) (hr : r.length = 5) {H : Heap} (hS : SlT H Is 9 (.slice A La.length ca) La) (hT : SlT H Is 9 (.slice B Lb.length cb) Lb) (hla : La.length ≤ 1000) (hlb : Lb.length ≤ 1000)
    (hA : Blk H ya va) (hva : va[yo]? = some (.slice A La.length ca)) (hB : Blk H yb vb) (hvb : vb[yp]? = some (.slice B Lb.length cb)) :
    Ret Tryd.prog 66 [ptr ya yo, .agg (Is r).toArray, ptr yb yp] H (fun v H' => (∃ A' cap', v = Ty A' (arr2 La r Lb).length cap' ∧ Gs H' H.size 65 9 A' cap' (arr2 La r Lb).length ((arr2 La r Lb).flatMap Is)) ∧ Ext H H') := by
  obtain ⟨ra, rb, rc, rd, re, rfl⟩ := row_five hr
  refine Ret.of_at (N := 41) Tryd.call66 Tryd.func66 rfl rfl rfl ?_
  have hE := Ext.refl H
  have z_hE := hE.lt
  have z_hA := hA.lt
  have z_hB := hB.lt
  refine At.region rfl rfl ?_
  refine Reg.op rfl rfl rfl rfl (Does.box rfl rfl) ?_
  rintro _ H0_0 ⟨rfl, hn0_0⟩
  have z0_0 := hn0_0.size
  replace hE := hE.ext hn0_0.ext
  replace hA := hA.ext hn0_0.ext
  replace hB := hB.ext hn0_0.ext
  have o0_0 := hn0_0.own
  refine Reg.op rfl rfl rfl rfl (Does.alloc zc55) ?_
  rintro _ H0_1 ⟨rfl, hn0_1⟩
  have z0_1 := hn0_1.size
  replace hE := hE.ext hn0_1.ext
  replace hA := hA.ext hn0_1.ext
  replace hB := hB.ext hn0_1.ext
  replace o0_0 := o0_0.ext hn0_1.ext
  have o0_1 := hn0_1.own
  refine Reg.nil ?_
  refine At.region rfl rfl ?_
  refine Reg.pur rfl rfl rfl rfl (Pur.mv rfl) ?_
  refine Reg.pur rfl rfl rfl rfl (Pur.nilc rfl) ?_
  refine Reg.pur rfl rfl rfl rfl (Pur.fld _ fo55_0 rfl) ?_
  refine Reg.lod rfl rfl rfl rfl (Lod.ld sc53 rfl hA hva) ?_
  refine Reg.pur rfl rfl rfl rfl (Pur.lenS isl53 rfl) ?_
  refine Reg.pur rfl rfl rfl rfl (Pur.asg rfl) ?_
  refine Reg.nil ?_
  refine At.drawE ((Bks.cons hB.blk (Bks.cons o0_0.blk Bks.nil))) [13] mixed rfl rfl ?_
  refine RegD.tpur (i := 0) rfl rfl rfl rfl (by kernel_rfl) (Pur.mv rfl) ?_
  refine RegD.tpur (i := 1) rfl rfl rfl rfl (by kernel_rfl) (Pur.sub64 rfl rfl (by omega)) ?_
  refine RegD.tpur (i := 2) rfl rfl rfl rfl (by kernel_rfl) (Pur.mv rfl) ?_
  refine RegD.tpur (i := 3) rfl rfl rfl rfl (by kernel_rfl) (Pur.mv rfl) ?_
  refine RegD.tpur (i := 4) rfl rfl rfl rfl (by kernel_rfl) (Pur.nilc rfl) ?_
  refine RegD.tpur (i := 5) rfl rfl rfl rfl (by kernel_rfl) (Pur.fld _ fo55_0 rfl) ?_
  refine RegD.take (i := 6) rfl rfl rfl rfl (by kernel_rfl) (Bks.cons hB.blk (Bks.cons o0_0.blk Bks.nil)) (fun H hS => Lod.ld sc53 rfl hS.hd hvb) ?_
  refine RegD.tpur (i := 7) rfl rfl rfl rfl (by kernel_rfl) (Pur.lenS isl53 rfl) ?_
  refine RegD.tpur (i := 8) rfl rfl rfl rfl (by kernel_rfl) (Pur.add64 rfl rfl (by omega)) ?_
  refine RegD.tpur (i := 9) rfl rfl rfl rfl (by kernel_rfl) (Pur.sub64 rfl rfl (by omega)) ?_
  refine RegD.take (i := 10) rfl rfl rfl rfl (by kernel_rfl) (Bks.cons hB.blk (Bks.cons o0_0.blk Bks.nil)) (fun H hS => Lod.ldn ag24 rfl hS.tl.hd (whole rfl) rfl) ?_
  refine RegD.tpur (i := 11) rfl rfl rfl rfl (by kernel_rfl) (Pur.bld (cs := [_, _, _, _, _, _, _, _, _]) pl65 zc65 rfl rfl ⟨rfl, rfl, rfl, rfl, rfl, rfl, rfl, rfl, rfl, rfl⟩) ?_
  refine RegD.one (i := 12) (by kernel_rfl) rfl rfl rfl rfl (Does.alloc zc65) ?_
  rintro _ H2_12 ⟨rfl, hn2_12⟩
  have z2_12 := hn2_12.size
  replace hE := hE.ext hn2_12.ext
  replace hA := hA.ext hn2_12.ext
  replace hB := hB.ext hn2_12.ext
  replace o0_0 := o0_0.ext hn2_12.ext
  replace o0_1 := o0_1.ext hn2_12.ext
  have hx := hn2_12.own
  refine ⟨fun _ _ => (Bks.cons hB.blk (Bks.cons o0_0.blk Bks.nil)), ?_⟩
  refine RegD.one0 (i := 13) (by kernel_rfl) rfl rfl rfl (Does.stn ag65 rfl rfl (by first | rfl | exact ones_Is _) (by first | rfl | (simp [*]; done)) hx (by first | decide | (simp; done) | (simp; omega) | omega)) ?_
  rintro _ H2_13 hu2_13
  have z2_13 := hu2_13.size
  replace hE := hE.upw hu2_13 (by omega)
  replace hA := hA.upw hu2_13 (by omega)
  replace hB := hB.upw hu2_13 (by omega)
  replace o0_0 := o0_0.upw hu2_13 (by omega)
  replace o0_1 := o0_1.upw hu2_13 (by omega)
  replace hx := hu2_13.own
  first | rw [over (by first | rfl | (simp; done))] at hx | skip
  refine ⟨fun h => (by cases h), ?_⟩
  refine RegD.done (by kernel_rfl) ?_
  refine At.drawE ((Bks.cons hA.blk (Bks.cons hB.blk (Bks.cons hx.blk Bks.nil)))) [15] mixed rfl rfl ?_
  refine RegD.tpur (i := 0) rfl rfl rfl rfl (by kernel_rfl) (Pur.mv rfl) ?_
  refine RegD.tpur (i := 1) rfl rfl rfl rfl (by kernel_rfl) (Pur.nilc rfl) ?_
  refine RegD.tpur (i := 2) rfl rfl rfl rfl (by kernel_rfl) (Pur.fld _ fo55_0 rfl) ?_
  refine RegD.take (i := 3) rfl rfl rfl rfl (by kernel_rfl) (Bks.cons hA.blk (Bks.cons hB.blk (Bks.cons hx.blk Bks.nil))) (fun H hS => Lod.ld sc53 rfl hS.hd hva) ?_
  refine RegD.tpur (i := 4) rfl rfl rfl rfl (by kernel_rfl) (Pur.mv rfl) ?_
  refine RegD.tpur (i := 5) rfl rfl rfl rfl (by kernel_rfl) (Pur.nilc rfl) ?_
  refine RegD.tpur (i := 6) rfl rfl rfl rfl (by kernel_rfl) (Pur.fld _ fo55_0 rfl) ?_
  refine RegD.take (i := 7) rfl rfl rfl rfl (by kernel_rfl) (Bks.cons hA.blk (Bks.cons hB.blk (Bks.cons hx.blk Bks.nil))) (fun H hS => Lod.ld sc53 rfl hS.tl.hd hvb) ?_
  refine RegD.tpur (i := 8) rfl rfl rfl rfl (by kernel_rfl) (Pur.mv rfl) ?_
  refine RegD.take (i := 10) rfl rfl rfl rfl (by kernel_rfl) (Bks.cons hA.blk (Bks.cons hB.blk (Bks.cons hx.blk Bks.nil))) (fun H hS => Lod.ldn ag65 rfl hS.tl.tl.hd (whole rfl) rfl) ?_
  refine RegD.fork2 (i := 9) (j := 11) (by kernel_rfl) ?_ ?_
  · refine RegOp.one (i := 9) rfl rfl rfl rfl (Does.call rfl (moved_ok hb (hT.ext hE) (by omega) _)) ?_
    rintro v3_9 H3_9 ⟨⟨A9, cap9, rfl, _⟩, hM9, hE3_9⟩
    have z3_9 := hE3_9.lt
    replace hE := hE.ext hE3_9
    replace hA := hA.ext hE3_9
    replace hB := hB.ext hE3_9
    replace o0_0 := o0_0.ext hE3_9
    replace o0_1 := o0_1.ext hE3_9
    replace hx := hx.ext hE3_9
    have z_hM9 := hM9.lt
    refine ⟨fun _ _ => (Bks.cons hA.blk (Bks.cons hB.blk (Bks.cons hx.blk Bks.nil))), ?_⟩
    refine RegD.one (i := 11) (by kernel_rfl) rfl rfl rfl rfl (Does.bslA ([Is (arrN La.length Lb.length [ra, rb, rc, rd, re])]) slA53 rfl rfl rfl rfl rfl rfl) ?_
    rintro _ H3_11 ⟨rfl, hp3_11⟩
    have hn3_11 := New.of_eq hp3_11
    have z3_11 := hn3_11.size
    replace hE := hE.ext hn3_11.ext
    replace hA := hA.ext hn3_11.ext
    replace hB := hB.ext hn3_11.ext
    replace o0_0 := o0_0.ext hn3_11.ext
    replace o0_1 := o0_1.ext hn3_11.ext
    replace hx := hx.ext hn3_11.ext
    replace hM9 := hM9.ext hn3_11.ext
    have o3_11 := hn3_11.own
    refine ⟨fun _ _ => (Bks.cons hA.blk (Bks.cons hB.blk (Bks.cons hx.blk Bks.nil))), ?_⟩
    refine RegD.one (i := 12) (by kernel_rfl) rfl rfl rfl rfl (Does.bsl1 sl1_158 rfl rfl rfl rfl rfl) ?_
    rintro _ H3_12 ⟨rfl, hn3_12⟩
    have z3_12 := hn3_12.size
    replace hE := hE.ext hn3_12.ext
    replace hA := hA.ext hn3_12.ext
    replace hB := hB.ext hn3_12.ext
    replace o0_0 := o0_0.ext hn3_12.ext
    replace o0_1 := o0_1.ext hn3_12.ext
    replace hx := hx.ext hn3_12.ext
    replace hM9 := hM9.ext hn3_12.ext
    replace o3_11 := o3_11.ext hn3_12.ext
    have o3_12 := hn3_12.own
    refine ⟨fun _ _ => (Bks.cons hA.blk (Bks.cons hB.blk (Bks.cons hx.blk Bks.nil))), ?_⟩
    have hM9' : SlT H3_12 Is 9 (.slice A9 (Lb.map (movS La.length)).length cap9) (Lb.map (movS La.length)) := by simpa using hM9
    have hS3 := sl_own (L := [arrN La.length Lb.length [ra, rb, rc, rd, re]]) (wide9 (nine1 rfl)) (by decide) o3_11 (Nat.le_of_ble_eq_true rfl)
    refine RegD.one (i := 13) (by kernel_rfl) rfl rfl rfl rfl (Does.call rfl (concat_ok (G := [⟨A, ca, La⟩, ⟨A9, cap9, Lb.map (movS La.length)⟩, ⟨_, 1, [arrN La.length Lb.length [ra, rb, rc, rd, re]]⟩]) (by (show 3 ≤ 10); decide) (g3 ⟨ha, hla⟩ ⟨nine_mov hb, by simpa using hlb⟩ ⟨nine1 rfl, (Nat.le_of_ble_eq_true rfl)⟩) (by rw [arr2_cat]; simp [arr2]; omega) (g3 (hS.ext hE) hM9' hS3) (o3_12.blk.of (by simp [Sg.sl])))) ?_
    rintro _ H3_13 ⟨A13, cap13, rfl, hg3_13, hE3_13⟩
    have z3_13 := hE3_13.lt
    replace hE := hE.ext hE3_13
    replace hA := hA.ext hE3_13
    replace hB := hB.ext hE3_13
    replace o0_0 := o0_0.ext hE3_13
    replace o0_1 := o0_1.ext hE3_13
    replace hx := hx.ext hE3_13
    replace hM9 := hM9.ext hE3_13
    replace o3_11 := o3_11.ext hE3_13
    replace o3_12 := o3_12.ext hE3_13
    rw [arr2_cat] at hg3_13 ⊢

    have z_hg3_13 := hg3_13.lt
    refine ⟨fun _ _ => (Bks.cons hA.blk (Bks.cons hB.blk (Bks.cons hx.blk Bks.nil))), ?_⟩
    refine RegD.tpur (i := 14) rfl rfl rfl rfl (by kernel_rfl) (Pur.bld (cs := [_]) pl55 zc55 rfl rfl ⟨rfl, rfl⟩) ?_
    refine RegD.one0 (i := 15) (by kernel_rfl) rfl rfl rfl (Does.stn ag55 rfl rfl (by first | rfl | exact ones_Is _) (by first | rfl | (simp [*]; done)) o0_1 (by first | decide | (simp; done) | (simp; omega) | omega)) ?_
    rintro _ H3_15 hu3_15
    have z3_15 := hu3_15.size
    replace hE := hE.upw hu3_15 (by omega)
    replace hA := hA.upw hu3_15 (by omega)
    replace hB := hB.upw hu3_15 (by omega)
    replace o0_0 := o0_0.upw hu3_15 (by omega)
    replace hx := hx.upw hu3_15 (by omega)
    replace o3_11 := o3_11.upw hu3_15 (by omega)
    replace o3_12 := o3_12.upw hu3_15 (by omega)
    replace hg3_13 := hg3_13.upw hu3_15 (by omega)
    replace o0_1 := hu3_15.own
    first | rw [over (by first | rfl | (simp; done))] at o0_1 | skip
    refine ⟨fun h => (by cases h), ?_⟩
    refine RegD.done (by kernel_rfl) ?_
    refine At.retC rfl Tryd.func66 ⟨_, _, _, _, rfl, rfl, ⟨_, o0_1.blk, .inr ⟨_, _, ag55, (whole rfl), rfl, rfl⟩⟩, rfl⟩ ?_
    exact ⟨⟨A13, cap13, rfl, hg3_13.mono (by omega)⟩, hE⟩
  refine RegOp.one (i := 11) rfl rfl rfl rfl (Does.bslA ([Is (arrN La.length Lb.length [ra, rb, rc, rd, re])]) slA53 rfl rfl rfl rfl rfl rfl) ?_
  rintro _ H3_11 ⟨rfl, hp3_11⟩
  have hn3_11 := New.of_eq hp3_11
  have z3_11 := hn3_11.size
  replace hE := hE.ext hn3_11.ext
  replace hA := hA.ext hn3_11.ext
  replace hB := hB.ext hn3_11.ext
  replace o0_0 := o0_0.ext hn3_11.ext
  replace o0_1 := o0_1.ext hn3_11.ext
  replace hx := hx.ext hn3_11.ext
  have o3_11 := hn3_11.own
  refine ⟨fun _ _ => (Bks.cons hA.blk (Bks.cons hB.blk (Bks.cons hx.blk Bks.nil))), ?_⟩
  refine RegD.one (i := 9) (by kernel_rfl) rfl rfl rfl rfl (Does.call rfl (moved_ok hb (hT.ext hE) (by omega) _)) ?_
  rintro v3_9 H3_9 ⟨⟨A9, cap9, rfl, _⟩, hM9, hE3_9⟩
  have z3_9 := hE3_9.lt
  replace hE := hE.ext hE3_9
  replace hA := hA.ext hE3_9
  replace hB := hB.ext hE3_9
  replace o0_0 := o0_0.ext hE3_9
  replace o0_1 := o0_1.ext hE3_9
  replace hx := hx.ext hE3_9
  replace o3_11 := o3_11.ext hE3_9
  have z_hM9 := hM9.lt
  refine ⟨fun _ _ => (Bks.cons hA.blk (Bks.cons hB.blk (Bks.cons hx.blk Bks.nil))), ?_⟩
  refine RegD.one (i := 12) (by kernel_rfl) rfl rfl rfl rfl (Does.bsl1 sl1_158 rfl rfl rfl rfl rfl) ?_
  rintro _ H3_12 ⟨rfl, hn3_12⟩
  have z3_12 := hn3_12.size
  replace hE := hE.ext hn3_12.ext
  replace hA := hA.ext hn3_12.ext
  replace hB := hB.ext hn3_12.ext
  replace o0_0 := o0_0.ext hn3_12.ext
  replace o0_1 := o0_1.ext hn3_12.ext
  replace hx := hx.ext hn3_12.ext
  replace o3_11 := o3_11.ext hn3_12.ext
  replace hM9 := hM9.ext hn3_12.ext
  have o3_12 := hn3_12.own
  refine ⟨fun _ _ => (Bks.cons hA.blk (Bks.cons hB.blk (Bks.cons hx.blk Bks.nil))), ?_⟩
  have hM9' : SlT H3_12 Is 9 (.slice A9 (Lb.map (movS La.length)).length cap9) (Lb.map (movS La.length)) := by simpa using hM9
  have hS3 := sl_own (L := [arrN La.length Lb.length [ra, rb, rc, rd, re]]) (wide9 (nine1 rfl)) (by decide) o3_11 (Nat.le_of_ble_eq_true rfl)
  refine RegD.one (i := 13) (by kernel_rfl) rfl rfl rfl rfl (Does.call rfl (concat_ok (G := [⟨A, ca, La⟩, ⟨A9, cap9, Lb.map (movS La.length)⟩, ⟨_, 1, [arrN La.length Lb.length [ra, rb, rc, rd, re]]⟩]) (by (show 3 ≤ 10); decide) (g3 ⟨ha, hla⟩ ⟨nine_mov hb, by simpa using hlb⟩ ⟨nine1 rfl, (Nat.le_of_ble_eq_true rfl)⟩) (by rw [arr2_cat]; simp [arr2]; omega) (g3 (hS.ext hE) hM9' hS3) (o3_12.blk.of (by simp [Sg.sl])))) ?_
  rintro _ H3_13 ⟨A13, cap13, rfl, hg3_13, hE3_13⟩
  have z3_13 := hE3_13.lt
  replace hE := hE.ext hE3_13
  replace hA := hA.ext hE3_13
  replace hB := hB.ext hE3_13
  replace o0_0 := o0_0.ext hE3_13
  replace o0_1 := o0_1.ext hE3_13
  replace hx := hx.ext hE3_13
  replace o3_11 := o3_11.ext hE3_13
  replace hM9 := hM9.ext hE3_13
  replace o3_12 := o3_12.ext hE3_13
  rw [arr2_cat] at hg3_13 ⊢

  have z_hg3_13 := hg3_13.lt
  refine ⟨fun _ _ => (Bks.cons hA.blk (Bks.cons hB.blk (Bks.cons hx.blk Bks.nil))), ?_⟩
  refine RegD.tpur (i := 14) rfl rfl rfl rfl (by kernel_rfl) (Pur.bld (cs := [_]) pl55 zc55 rfl rfl ⟨rfl, rfl⟩) ?_
  refine RegD.one0 (i := 15) (by kernel_rfl) rfl rfl rfl (Does.stn ag55 rfl rfl (by first | rfl | exact ones_Is _) (by first | rfl | (simp [*]; done)) o0_1 (by first | decide | (simp; done) | (simp; omega) | omega)) ?_
  rintro _ H3_15 hu3_15
  have z3_15 := hu3_15.size
  replace hE := hE.upw hu3_15 (by omega)
  replace hA := hA.upw hu3_15 (by omega)
  replace hB := hB.upw hu3_15 (by omega)
  replace o0_0 := o0_0.upw hu3_15 (by omega)
  replace hx := hx.upw hu3_15 (by omega)
  replace o3_11 := o3_11.upw hu3_15 (by omega)
  replace o3_12 := o3_12.upw hu3_15 (by omega)
  replace hg3_13 := hg3_13.upw hu3_15 (by omega)
  replace o0_1 := hu3_15.own
  first | rw [over (by first | rfl | (simp; done))] at o0_1 | skip
  refine ⟨fun h => (by cases h), ?_⟩
  refine RegD.done (by kernel_rfl) ?_
  refine At.retC rfl Tryd.func66 ⟨_, _, _, _, rfl, rfl, ⟨_, o0_1.blk, .inr ⟨_, _, ag55, (whole rfl), rfl, rfl⟩⟩, rfl⟩ ?_
  exact ⟨⟨A13, cap13, rfl, hg3_13.mono (by omega)⟩, hE⟩

open Classical in
noncomputable def funL (La : List (List Int)) (r : List Int) (Lb : List (List Int)) : List (List Int) × Int := if typM La = true ∧ rowM r = true ∧ typM Lb = true ∧ La.length + Lb.length < 256 then (arr2 La r Lb, 0) else ([], 700)
theorem funL_no {La Lb : List (List Int)} {r : List Int} (h : ¬ (typM La = true ∧ rowM r = true ∧ typM Lb = true ∧ La.length + Lb.length < 256)) : funL La r Lb = ([], 700) := if_neg h
theorem funL_yes {La Lb : List (List Int)} {r : List Int} (h : typM La = true ∧ rowM r = true ∧ typM Lb = true ∧ La.length + Lb.length < 256) : funL La r Lb = (arr2 La r Lb, 0) := if_pos h
def FunP (La : List (List Int)) (r : List Int) (Lb : List (List Int)) (H : Heap) (v : Value) (H' : Heap) : Prop :=
  ∃ A' cap', v = .tuple #[Ty A' (funL La r Lb).1.length cap', I (funL La r Lb).2] ∧ Gs H' H.size 65 9 A' cap' (funL La r Lb).1.length ((funL La r Lb).1.flatMap Is) ∧ Ext H H'
theorem funP_ok {A B : Option Addr} {ca cb : Nat} {La Lb : List (List Int)} {r : List Int} (ha : Nine La) (hb : Nine Lb) (hr : r.length = 5) {H : Heap} (hS : SlT H Is 9 (.slice A La.length ca) La) (hT : SlT H Is 9 (.slice B Lb.length cb) Lb) (hla : La.length ≤ 9223372036854775807) (hlb : Lb.length ≤ 9223372036854775807) :
    Ret Tryd.prog 43 [Ty A La.length ca, .agg (Is r).toArray, Ty B Lb.length cb] H (FunP La r Lb H) := by
  have hr' : (Is r).length = 5 := by simp [hr]
  have hla2 : typM La = true → La.length ≤ 256 := fun h => (typM_bgn h).1.2
  have hlb2 : typM Lb = true → Lb.length ≤ 256 := fun h => (typM_bgn h).1.2
  refine Ret.of_at (N := 34) Tryd.call43 Tryd.func43 rfl rfl rfl ?_
  have hE := Ext.refl H
  refine At.region rfl rfl ?_
  refine Reg.op rfl rfl rfl rfl (Does.box rfl rfl) ?_
  rintro _ H0_0 ⟨rfl, hn0_0⟩
  have z0_0 := hn0_0.size
  replace hE := hE.ext hn0_0.ext
  have o0_0 := hn0_0.own
  refine Reg.op rfl rfl rfl rfl (Does.box rfl rfl) ?_
  rintro _ H0_1 ⟨rfl, hn0_1⟩
  have z0_1 := hn0_1.size
  replace hE := hE.ext hn0_1.ext
  replace o0_0 := o0_0.ext hn0_1.ext
  have o0_1 := hn0_1.own
  refine Reg.op rfl rfl rfl rfl (Does.box rfl rfl) ?_
  rintro _ H0_2 ⟨rfl, hn0_2⟩
  have z0_2 := hn0_2.size
  replace hE := hE.ext hn0_2.ext
  replace o0_0 := o0_0.ext hn0_2.ext
  replace o0_1 := o0_1.ext hn0_2.ext
  have o0_2 := hn0_2.own
  refine Reg.op rfl rfl rfl rfl (Does.alloc zc55) ?_
  rintro _ H0_3 ⟨rfl, hn0_3⟩
  have z0_3 := hn0_3.size
  replace hE := hE.ext hn0_3.ext
  replace o0_0 := o0_0.ext hn0_3.ext
  replace o0_1 := o0_1.ext hn0_3.ext
  replace o0_2 := o0_2.ext hn0_3.ext
  have o0_3 := hn0_3.own
  refine Reg.pur rfl rfl rfl rfl (Pur.asg rfl) ?_
  refine Reg.nil ?_
  refine At.region rfl rfl ?_
  refine Reg.lod rfl rfl rfl rfl (Lod.ldn ag55 rfl o0_0.blk (whole rfl) rfl) ?_
  refine Reg.op rfl rfl rfl rfl (Does.call rfl (typMay_ok La ha (hS.ext hE) hla)) ?_
  rintro _ H1_1 ⟨rfl, hE1_1⟩
  have z1_1 := hE1_1.lt
  replace hE := hE.ext hE1_1
  replace o0_0 := o0_0.ext hE1_1
  replace o0_1 := o0_1.ext hE1_1
  replace o0_2 := o0_2.ext hE1_1
  replace o0_3 := o0_3.ext hE1_1
  refine Reg.pur rfl rfl rfl rfl (Pur.not rfl) ?_
  refine Reg.pur rfl rfl rfl rfl (Pur.mv rfl) ?_
  refine Reg.case 11 rfl (fun q11 => ?_) (fun q11 => ?_)
  · first | (simp only [decide_eq_true_eq, decide_eq_false_iff_not, Bool.not_eq_true', Bool.not_eq_false', ne_eq, Decidable.not_not, Bool.not_eq_true, Bool.not_eq_false] at q11) | (dsimp only at q11) | skip
    refine Reg.skip rfl rfl rfl rfl rfl rfl rfl ?_
    refine Reg.skip rfl rfl rfl rfl rfl rfl rfl ?_
    refine Reg.skip rfl rfl rfl rfl rfl rfl rfl ?_
    refine Reg.pur rfl rfl rfl rfl (Pur.pickT rfl rfl) ?_
    refine Reg.pur rfl rfl rfl rfl (Pur.mv rfl) ?_
    refine Reg.skip rfl rfl rfl rfl rfl rfl rfl ?_
    refine Reg.skip rfl rfl rfl rfl rfl rfl rfl ?_
    refine Reg.skip rfl rfl rfl rfl rfl rfl rfl ?_
    refine Reg.pur rfl rfl rfl rfl (Pur.pickT rfl rfl) ?_
    refine Reg.pur rfl rfl rfl rfl (Pur.mv rfl) ?_
    refine Reg.skip rfl rfl rfl rfl rfl rfl rfl ?_
    refine Reg.skip rfl rfl rfl rfl rfl rfl rfl ?_
    refine Reg.skip rfl rfl rfl rfl rfl rfl rfl ?_
    refine Reg.skip rfl rfl rfl rfl rfl rfl rfl ?_
    refine Reg.skip rfl rfl rfl rfl rfl rfl rfl ?_
    refine Reg.skip rfl rfl rfl rfl rfl rfl rfl ?_
    refine Reg.skip rfl rfl rfl rfl rfl rfl rfl ?_
    refine Reg.skip rfl rfl rfl rfl rfl rfl rfl ?_
    refine Reg.pur rfl rfl rfl rfl (Pur.pickT rfl rfl) ?_
    refine Reg.nil ?_
    refine At.condT rfl rfl rfl ?_
    refine At.region rfl rfl ?_
    refine Reg.pur rfl rfl rfl rfl (Pur.bld (cs := [_]) pl55 zc55 rfl rfl ⟨rfl, rfl⟩) ?_
    refine Reg.op0 rfl rfl rfl (Does.stn ag55 rfl rfl (by first | rfl | exact ones_Is _) (by first | rfl | (simp [*]; done)) o0_3 (by first | decide | (simp; done) | (simp; omega) | omega)) ?_
    rintro _ H2_1 hu2_1
    have z2_1 := hu2_1.size
    replace hE := hE.upw hu2_1 (by omega)
    replace o0_0 := o0_0.upw hu2_1 (by omega)
    replace o0_1 := o0_1.upw hu2_1 (by omega)
    replace o0_2 := o0_2.upw hu2_1 (by omega)
    replace o0_3 := hu2_1.own
    first | rw [over (by first | rfl | (simp; done))] at o0_3 | skip
    refine Reg.pur rfl rfl rfl rfl (Pur.asg rfl) ?_
    refine Reg.nil ?_
    refine At.retC rfl Tryd.func43 ⟨_, _, _, _, rfl, rfl, ⟨_, o0_3.blk, .inr ⟨_, _, ag55, (whole rfl), rfl, rfl⟩⟩, ⟨_, _, rfl, rfl, rfl⟩⟩ ?_
    exact ⟨none, 0, by rw [funL_no (by rintro ⟨h1, h2, h3, h4⟩; first | (simp_all; done) | (simp_all; omega) | omega)]; rfl, by rw [funL_no (by rintro ⟨h1, h2, h3, h4⟩; first | (simp_all; done) | (simp_all; omega) | omega)]; exact OwnS.nilG, hE⟩
  first | (simp only [decide_eq_true_eq, decide_eq_false_iff_not, Bool.not_eq_true', Bool.not_eq_false', ne_eq, Decidable.not_not, Bool.not_eq_true, Bool.not_eq_false] at q11) | (dsimp only at q11) | skip
  refine Reg.glod rfl rfl rfl rfl rfl rfl (Lod.ldn ag24 rfl o0_1.blk (whole hr') hr') ?_
  refine Reg.gop rfl rfl rfl rfl rfl rfl (Does.call rfl (rowMay_ok r hr _)) ?_
  rintro _ H1_5 ⟨rfl, hE1_5⟩
  have z1_5 := hE1_5.lt
  replace hE := hE.ext hE1_5
  replace o0_0 := o0_0.ext hE1_5
  replace o0_1 := o0_1.ext hE1_5
  replace o0_2 := o0_2.ext hE1_5
  replace o0_3 := o0_3.ext hE1_5
  refine Reg.gpur rfl rfl rfl rfl rfl rfl (Pur.not rfl) ?_
  refine Reg.pur rfl rfl rfl rfl (Pur.pickF rfl rfl) ?_
  refine Reg.pur rfl rfl rfl rfl (Pur.mv rfl) ?_
  refine Reg.case 16 rfl (fun q16 => ?_) (fun q16 => ?_)
  · first | (simp only [decide_eq_true_eq, decide_eq_false_iff_not, Bool.not_eq_true', Bool.not_eq_false', ne_eq, Decidable.not_not, Bool.not_eq_true, Bool.not_eq_false] at q16) | (dsimp only at q16) | skip
    refine Reg.skip rfl rfl rfl rfl rfl rfl rfl ?_
    refine Reg.skip rfl rfl rfl rfl rfl rfl rfl ?_
    refine Reg.skip rfl rfl rfl rfl rfl rfl rfl ?_
    refine Reg.pur rfl rfl rfl rfl (Pur.pickT rfl rfl) ?_
    refine Reg.pur rfl rfl rfl rfl (Pur.mv rfl) ?_
    refine Reg.skip rfl rfl rfl rfl rfl rfl rfl ?_
    refine Reg.skip rfl rfl rfl rfl rfl rfl rfl ?_
    refine Reg.skip rfl rfl rfl rfl rfl rfl rfl ?_
    refine Reg.skip rfl rfl rfl rfl rfl rfl rfl ?_
    refine Reg.skip rfl rfl rfl rfl rfl rfl rfl ?_
    refine Reg.skip rfl rfl rfl rfl rfl rfl rfl ?_
    refine Reg.skip rfl rfl rfl rfl rfl rfl rfl ?_
    refine Reg.skip rfl rfl rfl rfl rfl rfl rfl ?_
    refine Reg.pur rfl rfl rfl rfl (Pur.pickT rfl rfl) ?_
    refine Reg.nil ?_
    refine At.condT rfl rfl rfl ?_
    refine At.region rfl rfl ?_
    refine Reg.pur rfl rfl rfl rfl (Pur.bld (cs := [_]) pl55 zc55 rfl rfl ⟨rfl, rfl⟩) ?_
    refine Reg.op0 rfl rfl rfl (Does.stn ag55 rfl rfl (by first | rfl | exact ones_Is _) (by first | rfl | (simp [*]; done)) o0_3 (by first | decide | (simp; done) | (simp; omega) | omega)) ?_
    rintro _ H2_1 hu2_1
    have z2_1 := hu2_1.size
    replace hE := hE.upw hu2_1 (by omega)
    replace o0_0 := o0_0.upw hu2_1 (by omega)
    replace o0_1 := o0_1.upw hu2_1 (by omega)
    replace o0_2 := o0_2.upw hu2_1 (by omega)
    replace o0_3 := hu2_1.own
    first | rw [over (by first | rfl | (simp; done))] at o0_3 | skip
    refine Reg.pur rfl rfl rfl rfl (Pur.asg rfl) ?_
    refine Reg.nil ?_
    refine At.retC rfl Tryd.func43 ⟨_, _, _, _, rfl, rfl, ⟨_, o0_3.blk, .inr ⟨_, _, ag55, (whole rfl), rfl, rfl⟩⟩, ⟨_, _, rfl, rfl, rfl⟩⟩ ?_
    exact ⟨none, 0, by rw [funL_no (by rintro ⟨h1, h2, h3, h4⟩; first | (simp_all; done) | (simp_all; omega) | omega)]; rfl, by rw [funL_no (by rintro ⟨h1, h2, h3, h4⟩; first | (simp_all; done) | (simp_all; omega) | omega)]; exact OwnS.nilG, hE⟩
  first | (simp only [decide_eq_true_eq, decide_eq_false_iff_not, Bool.not_eq_true', Bool.not_eq_false', ne_eq, Decidable.not_not, Bool.not_eq_true, Bool.not_eq_false] at q16) | (dsimp only at q16) | skip
  refine Reg.glod rfl rfl rfl rfl rfl rfl (Lod.ldn ag55 rfl o0_2.blk (whole rfl) rfl) ?_
  refine Reg.gop rfl rfl rfl rfl rfl rfl (Does.call rfl (typMay_ok Lb hb (hT.ext hE) hlb)) ?_
  rintro _ H1_10 ⟨rfl, hE1_10⟩
  have z1_10 := hE1_10.lt
  replace hE := hE.ext hE1_10
  replace o0_0 := o0_0.ext hE1_10
  replace o0_1 := o0_1.ext hE1_10
  replace o0_2 := o0_2.ext hE1_10
  replace o0_3 := o0_3.ext hE1_10
  refine Reg.gpur rfl rfl rfl rfl rfl rfl (Pur.not rfl) ?_
  refine Reg.pur rfl rfl rfl rfl (Pur.pickF rfl rfl) ?_
  refine Reg.pur rfl rfl rfl rfl (Pur.mv rfl) ?_
  refine Reg.case 21 rfl (fun q21 => ?_) (fun q21 => ?_)
  · first | (simp only [decide_eq_true_eq, decide_eq_false_iff_not, Bool.not_eq_true', Bool.not_eq_false', ne_eq, Decidable.not_not, Bool.not_eq_true, Bool.not_eq_false] at q21) | (dsimp only at q21) | skip
    refine Reg.skip rfl rfl rfl rfl rfl rfl rfl ?_
    refine Reg.skip rfl rfl rfl rfl rfl rfl rfl ?_
    refine Reg.skip rfl rfl rfl rfl rfl rfl rfl ?_
    refine Reg.skip rfl rfl rfl rfl rfl rfl rfl ?_
    refine Reg.skip rfl rfl rfl rfl rfl rfl rfl ?_
    refine Reg.skip rfl rfl rfl rfl rfl rfl rfl ?_
    refine Reg.skip rfl rfl rfl rfl rfl rfl rfl ?_
    refine Reg.skip rfl rfl rfl rfl rfl rfl rfl ?_
    refine Reg.pur rfl rfl rfl rfl (Pur.pickT rfl rfl) ?_
    refine Reg.nil ?_
    refine At.condT rfl rfl rfl ?_
    refine At.region rfl rfl ?_
    refine Reg.pur rfl rfl rfl rfl (Pur.bld (cs := [_]) pl55 zc55 rfl rfl ⟨rfl, rfl⟩) ?_
    refine Reg.op0 rfl rfl rfl (Does.stn ag55 rfl rfl (by first | rfl | exact ones_Is _) (by first | rfl | (simp [*]; done)) o0_3 (by first | decide | (simp; done) | (simp; omega) | omega)) ?_
    rintro _ H2_1 hu2_1
    have z2_1 := hu2_1.size
    replace hE := hE.upw hu2_1 (by omega)
    replace o0_0 := o0_0.upw hu2_1 (by omega)
    replace o0_1 := o0_1.upw hu2_1 (by omega)
    replace o0_2 := o0_2.upw hu2_1 (by omega)
    replace o0_3 := hu2_1.own
    first | rw [over (by first | rfl | (simp; done))] at o0_3 | skip
    refine Reg.pur rfl rfl rfl rfl (Pur.asg rfl) ?_
    refine Reg.nil ?_
    refine At.retC rfl Tryd.func43 ⟨_, _, _, _, rfl, rfl, ⟨_, o0_3.blk, .inr ⟨_, _, ag55, (whole rfl), rfl, rfl⟩⟩, ⟨_, _, rfl, rfl, rfl⟩⟩ ?_
    exact ⟨none, 0, by rw [funL_no (by rintro ⟨h1, h2, h3, h4⟩; first | (simp_all; done) | (simp_all; omega) | omega)]; rfl, by rw [funL_no (by rintro ⟨h1, h2, h3, h4⟩; first | (simp_all; done) | (simp_all; omega) | omega)]; exact OwnS.nilG, hE⟩
  first | (simp only [decide_eq_true_eq, decide_eq_false_iff_not, Bool.not_eq_true', Bool.not_eq_false', ne_eq, Decidable.not_not, Bool.not_eq_true, Bool.not_eq_false] at q21) | (dsimp only at q21) | skip
  refine Reg.gpur rfl rfl rfl rfl rfl rfl (Pur.fld _ fo55_0 rfl) ?_
  refine Reg.glod rfl rfl rfl rfl rfl rfl (Lod.ld sc53 rfl o0_0.blk rfl) ?_
  refine Reg.gpur rfl rfl rfl rfl rfl rfl (Pur.lenS isl53 rfl) ?_
  refine Reg.gpur rfl rfl rfl rfl rfl rfl (Pur.fld _ fo55_0 rfl) ?_
  refine Reg.glod rfl rfl rfl rfl rfl rfl (Lod.ld sc53 rfl o0_2.blk rfl) ?_
  refine Reg.gpur rfl rfl rfl rfl rfl rfl (Pur.lenS isl53 rfl) ?_
  refine Reg.gpur rfl rfl rfl rfl rfl rfl (Pur.add64 rfl rfl (by have := hla2 (by assumption); have := hlb2 (by assumption); omega)) ?_
  refine Reg.gpur rfl rfl rfl rfl rfl rfl (Pur.geq rfl rfl) ?_
  refine Reg.pur rfl rfl rfl rfl (Pur.pickF rfl rfl) ?_
  refine Reg.nil ?_
  refine At.cond rfl rfl (fun q30 => ?_) (fun q30 => ?_)
  · first | (simp only [decide_eq_true_eq, decide_eq_false_iff_not, Bool.not_eq_true', Bool.not_eq_false', ne_eq, Decidable.not_not, Bool.not_eq_true, Bool.not_eq_false] at q30) | (dsimp only at q30) | skip
    refine At.region rfl rfl ?_
    refine Reg.pur rfl rfl rfl rfl (Pur.bld (cs := [_]) pl55 zc55 rfl rfl ⟨rfl, rfl⟩) ?_
    refine Reg.op0 rfl rfl rfl (Does.stn ag55 rfl rfl (by first | rfl | exact ones_Is _) (by first | rfl | (simp [*]; done)) o0_3 (by first | decide | (simp; done) | (simp; omega) | omega)) ?_
    rintro _ H2_1 hu2_1
    have z2_1 := hu2_1.size
    replace hE := hE.upw hu2_1 (by omega)
    replace o0_0 := o0_0.upw hu2_1 (by omega)
    replace o0_1 := o0_1.upw hu2_1 (by omega)
    replace o0_2 := o0_2.upw hu2_1 (by omega)
    replace o0_3 := hu2_1.own
    first | rw [over (by first | rfl | (simp; done))] at o0_3 | skip
    refine Reg.pur rfl rfl rfl rfl (Pur.asg rfl) ?_
    refine Reg.nil ?_
    refine At.retC rfl Tryd.func43 ⟨_, _, _, _, rfl, rfl, ⟨_, o0_3.blk, .inr ⟨_, _, ag55, (whole rfl), rfl, rfl⟩⟩, ⟨_, _, rfl, rfl, rfl⟩⟩ ?_
    exact ⟨none, 0, by rw [funL_no (by rintro ⟨h1, h2, h3, h4⟩; first | (simp_all; done) | (simp_all; omega) | omega)]; rfl, by rw [funL_no (by rintro ⟨h1, h2, h3, h4⟩; first | (simp_all; done) | (simp_all; omega) | omega)]; exact OwnS.nilG, hE⟩
  first | (simp only [decide_eq_true_eq, decide_eq_false_iff_not, Bool.not_eq_true', Bool.not_eq_false', ne_eq, Decidable.not_not, Bool.not_eq_true, Bool.not_eq_false] at q30) | (dsimp only at q30) | skip
  refine At.region rfl rfl ?_
  refine Reg.lod rfl rfl rfl rfl (Lod.ldn ag24 rfl o0_1.blk (whole hr') hr') ?_
  refine Reg.op rfl rfl rfl rfl (Does.call rfl (arrowP_ok ha hb hr (hS.ext hE) (hT.ext hE) (by have := hla2 (by assumption); omega) (by have := hlb2 (by assumption); omega) o0_0.blk (at0 _) o0_2.blk (at0 _))) ?_
  rintro v3_1 H3_1 ⟨⟨A3, cap3, rfl, hg3_1⟩, hE3_1⟩
  have z3_1 := hE3_1.lt
  replace hE := hE.ext hE3_1
  replace o0_0 := o0_0.ext hE3_1
  replace o0_1 := o0_1.ext hE3_1
  replace o0_2 := o0_2.ext hE3_1
  replace o0_3 := o0_3.ext hE3_1
  have z_hg3_1 := hg3_1.lt
  refine Reg.op0 rfl rfl rfl (Does.stn ag55 rfl rfl (by first | rfl | exact ones_Is _) (by first | rfl | (simp [*]; done)) o0_3 (by first | decide | (simp; done) | (simp; omega) | omega)) ?_
  rintro _ H3_2 hu3_2
  have z3_2 := hu3_2.size
  replace hE := hE.upw hu3_2 (by omega)
  replace o0_0 := o0_0.upw hu3_2 (by omega)
  replace o0_1 := o0_1.upw hu3_2 (by omega)
  replace o0_2 := o0_2.upw hu3_2 (by omega)
  replace hg3_1 := hg3_1.upw hu3_2 (by omega)
  replace o0_3 := hu3_2.own
  first | rw [over (by first | rfl | (simp; done))] at o0_3 | skip
  refine Reg.pur rfl rfl rfl rfl (Pur.asg rfl) ?_
  refine Reg.nil ?_
  refine At.retC rfl Tryd.func43 ⟨_, _, _, _, rfl, rfl, ⟨_, o0_3.blk, .inr ⟨_, _, ag55, (whole rfl), rfl, rfl⟩⟩, ⟨_, _, rfl, rfl, rfl⟩⟩ ?_
  exact ⟨A3, cap3, by rw [funL_yes ⟨by simp_all, by simp_all, by simp_all, by omega⟩]; rfl, by rw [funL_yes ⟨by simp_all, by simp_all, by simp_all, by omega⟩]; exact hg3_1.mono (by omega), hE⟩
end Go.Proofs.YtlfillhffpiffaaDoor

