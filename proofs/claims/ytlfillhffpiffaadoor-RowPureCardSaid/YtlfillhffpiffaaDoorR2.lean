/-
  Parts of the proof, 2.
-/
import Derived.Test.YtlfillhffpiffaaDoorProg
import Derived.Laws.BytesString
import Derived.Shelf.Strings.Builder1
import Derived.Shelf.Strings.Builder2
import Derived.Shelf.Strings.OnBuilder
import Derived.Shelf.Strconv.Itoa0
import Derived.Shelf.Strconv.Itoa1
import Derived.Shelf.LaysM
import Derived.Shelf.Strconv.Itoa2
import Derived.Shelf.Strconv.Itoa3
import Derived.Lib.LaidU8
import Derived.Test.YtlfillhffpiffaaDoorR1
namespace Go.Proofs.YtlfillhffpiffaaDoor
set_option linter.unusedSimpArgs false
set_option linter.unusedVariables false
set_option maxRecDepth 8000
open Go Go.Fx Go.Proofs
namespace FactsSchA
theorem es50 : esz Tryd.prog 50 = some 1 := by kernel_rfl
theorem isl50 : isSl Tryd.prog 50 = true := by kernel_rfl
theorem sc3 : sc Tryd.prog 3 = true := by kernel_rfl
end FactsSchA
open FactsSchA

def ixL : List Int → Int → Nat
  | [], _ => 0
  | x :: l, v => if x = v then 0 else ixL l v + 1
def inL (l : List Int) (v : Int) : Bool := decide (ixL l v < l.length)
theorem ixL_le : ∀ (l : List Int) (v : Int), ixL l v ≤ l.length
  | [], _ => Nat.le_refl _
  | x :: l, v => by
    simp only [ixL]; split
    · simp
    · simp only [List.length_cons]; have := ixL_le l v; omega
theorem ix_drop {l : List Int} {i : Nat} {v : Int} (hi : i < l.length) : ixL (l.drop i) v = if l[i] = v then 0 else ixL (l.drop (i + 1)) v + 1 := by
  rw [dropL hi, ixL]
theorem ix_end {l : List Int} {i : Nat} {v : Int} (hi : l.length ≤ i) : ixL (l.drop i) v = 0 := by rw [List.drop_of_length_le hi]; rfl
theorem int_at {l : List Int} {H : Heap} {A : Option Addr} {cap : Nat} (hS : SlT H e1 1 (.slice A l.length cap) l) {i : Nat} (hi : i < l.length) :
    ∃ b o c, A = some ⟨b, o, none⟩ ∧ Blk H b c ∧ c[o + i * 1]? = some (I l[i]) := by
  obtain ⟨b, o, c, h1, h2, h3, _⟩ := sl_at (wide1 l) hS hi
  exact ⟨b, o, c, h1, h2, by have := at_tk (j := 0) h3 (by omega) (v := I l[i]) rfl; simpa using this⟩

end Go.Proofs.YtlfillhffpiffaaDoor

namespace Go.Proofs.YtlfillhffpiffaaDoor
set_option linter.unusedSimpArgs false
set_option linter.unusedVariables false
open Go Go.Fx Go.Proofs
namespace FactsTypA
theorem ag22 : ag Tryd.prog 22 = some 4 := by kernel_rfl
theorem arr1_22 : arr1 Tryd.prog 22 = some 4 := by kernel_rfl
theorem arr22 : arr Tryd.prog 22 = some (4, 1) := by kernel_rfl
theorem fo24_0 : foff Tryd.prog 24 0 = some 0 := by kernel_rfl
theorem fo24_1 : foff Tryd.prog 24 1 = some 4 := by kernel_rfl
theorem sc3 : sc Tryd.prog 3 = true := by kernel_rfl
end FactsTypA
open FactsTypA

def okc (n : Int) : Bool := decide (0 ≤ n ∧ n ≤ 32)
def rowM (r : List Int) : Bool := (r.take 4).all okc && decide (-1 ≤ r.getD 4 0 ∧ r.getD 4 0 < 4096)
theorem take4_at {r : List Int} (h : r.length = 5) {i : Nat} (hi : i < 4) : (r.take 4)[i]'(by simp; omega) = r.getD i 0 := by
  simp [List.getD_eq_getElem?_getD, List.getElem?_eq_getElem (by omega : i < r.length)]

theorem hat4 (r : List Int) (h : r.length = 5) : (Is r)[0 + 4]? = some (I (r.getD 4 0)) := at_Is (by omega)
theorem rowMay_ok (r : List Int) (h : r.length = 5) (H : Heap) : Ret Tryd.prog 26 [.agg (Is r).toArray] H (fun v H' => v = .bool (rowM r) ∧ Ext H H') := by
  have h4 : (r.take 4).length = 4 := by simp; omega
  refine Ret.of_at (N := 25) Tryd.call26 Tryd.func26 rfl rfl rfl ?_
  refine At.region rfl rfl ?_
  refine Reg.op rfl rfl rfl rfl (Does.box rfl rfl) ?_
  rintro _ H1 ⟨rfl, hn1⟩
  refine Reg.pur rfl rfl rfl rfl (Pur.asg rfl) ?_
  refine Reg.nil ?_
  refine At.region rfl rfl ?_
  refine Reg.pur rfl rfl rfl rfl (Pur.fld _ fo24_0 rfl) ?_
  refine Reg.lod rfl rfl rfl rfl (Lod.ldn ag22 rfl hn1.own.blk (show _ = Is (r.take 4) by simp [Is, List.map_take]) (by simp [Is]; omega)) ?_
  refine Reg.pur rfl rfl rfl rfl (Pur.mv rfl) ?_
  refine Reg.nil ?_
  refine At.loop (σ := Nat) (fun i => [(7, I i), (6, .agg (Is (r.take 4)).toArray), (1, ptr H.size 0)]) (fun i H' => i ≤ 4 ∧ H' = H1 ∧ ((r.take 4).take i).all okc = true) (fun i => 4 - i) 0 rfl ⟨rfl, rfl, rfl, trivial⟩ ⟨by omega, rfl, rfl⟩ ?_
  rintro i H2 ⟨hi, rfl, hgo⟩ ih
  refine At.region rfl rfl ?_
  refine Reg.pur rfl rfl rfl rfl (Pur.lss rfl rfl) ?_
  refine Reg.nil ?_
  refine At.cond rfl rfl (fun hb1 => ?_) (fun hb1 => ?_)
  · simp only [decide_eq_true_eq] at hb1
    have hlt : i < (r.take 4).length := by omega
    have hat := take4_at h (i := i) (by omega)
    have hai : (Is (r.take 4))[(i : Int).toNat]? = some (I (r.getD i 0)) := by
      have : (Is (r.take 4))[i]? = some (I (r.take 4)[i]) := by simp only [Is, List.getElem?_map, List.getElem?_eq_getElem hlt, Option.map_some]
      rw [hat] at this
      exact this
    refine At.region rfl rfl ?_
    refine Reg.pur rfl rfl rfl rfl (Pur.ixA arr1_22 rfl rfl (by omega) (by omega) hai) ?_
    refine Reg.pur rfl rfl rfl rfl (Pur.asg rfl) ?_
    refine Reg.nil ?_
    refine At.region rfl rfl ?_
    refine Reg.pur rfl rfl rfl rfl (Pur.mv rfl) ?_
    refine Reg.pur rfl rfl rfl rfl (Pur.lss rfl rfl) ?_
    refine Reg.pur rfl rfl rfl rfl (Pur.mv rfl) ?_
    refine Reg.case 12 rfl (fun hc2 => ?_) (fun hc2 => ?_)
    · refine Reg.skip rfl rfl rfl rfl rfl rfl rfl ?_
      refine Reg.skip rfl rfl rfl rfl rfl rfl rfl ?_
      refine Reg.pur rfl rfl rfl rfl (Pur.pickT rfl rfl) ?_
      refine Reg.nil ?_
      refine At.condT rfl rfl rfl ?_
      refine At.region rfl rfl ?_
      refine Reg.pur rfl rfl rfl rfl (Pur.asg rfl) ?_
      refine Reg.nil ?_
      refine At.ret rfl Tryd.func26 rfl ?_
      refine ⟨congrArg Value.bool ?_, hn1.ext⟩
      simp only [decide_eq_false_iff_not, decide_eq_true_eq] at *
      unfold rowM
      first | (rw [all_of_take hlt (by rw [hat, okc, decide_eq_false_iff_not]; omega)]; rfl) | (rw [List.take_of_length_le (by omega)] at hgo; rw [hgo]; generalize r.getD 4 0 = t at *; simp [*])
    refine Reg.gpur rfl rfl rfl rfl rfl rfl (Pur.mv rfl) ?_
    refine Reg.gpur rfl rfl rfl rfl rfl rfl (Pur.gtr rfl rfl) ?_
    refine Reg.pur rfl rfl rfl rfl (Pur.pickF rfl rfl) ?_
    refine Reg.nil ?_
    refine At.cond rfl rfl (fun hb3 => ?_) (fun hb3 => ?_)
    · refine At.region rfl rfl ?_
      refine Reg.pur rfl rfl rfl rfl (Pur.asg rfl) ?_
      refine Reg.nil ?_
      refine At.ret rfl Tryd.func26 rfl ?_
      refine ⟨congrArg Value.bool ?_, hn1.ext⟩
      simp only [decide_eq_false_iff_not, decide_eq_true_eq] at *
      unfold rowM
      first | (rw [all_of_take hlt (by rw [hat, okc, decide_eq_false_iff_not]; omega)]; rfl) | (rw [List.take_of_length_le (by omega)] at hgo; rw [hgo]; generalize r.getD 4 0 = t at *; simp [*])
    refine At.region rfl rfl ?_
    first | refine Reg.pur rfl rfl rfl rfl (Pur.add64 rfl rfl (by omega)) ?_ | refine Reg.pur rfl rfl rfl rfl (Pur.add64 rfl rfl (by assumption)) ?_ | refine Reg.pur rfl rfl rfl rfl (Pur.add rfl rfl) ?_
    refine Reg.pur rfl rfl rfl rfl (Pur.mv rfl) ?_
    refine Reg.nil ?_
    refine At.via (ih (i + 1) _ ⟨by omega, rfl, ?_⟩ (by omega)) ⟨rfl, rfl, rfl, trivial⟩
    simp only [decide_eq_false_iff_not, decide_eq_true_eq] at *
    rw [all_take hlt, hgo, hat, okc, decide_eq_true (by omega)]; rfl
  refine At.region rfl rfl ?_
  refine Reg.pur rfl rfl rfl rfl (Pur.fld _ fo24_1 rfl) ?_
  refine Reg.lod rfl rfl rfl rfl (Lod.ld sc3 rfl hn1.own.blk (hat4 r h)) ?_
  refine Reg.pur rfl rfl rfl rfl (Pur.geq rfl rfl) ?_
  refine Reg.pur rfl rfl rfl rfl (Pur.mv rfl) ?_
  refine Reg.case 20 rfl (fun hc4 => ?_) (fun hc4 => ?_)
  · refine Reg.gpur rfl rfl rfl rfl rfl rfl (Pur.fld _ fo24_1 rfl) ?_
    refine Reg.glod rfl rfl rfl rfl rfl rfl (Lod.ld sc3 rfl hn1.own.blk (hat4 r h)) ?_
    refine Reg.gpur rfl rfl rfl rfl rfl rfl (Pur.lss rfl rfl) ?_
    refine Reg.pur rfl rfl rfl rfl (Pur.pickT rfl rfl) ?_
    refine Reg.pur rfl rfl rfl rfl (Pur.asg rfl) ?_
    refine Reg.nil ?_
    refine At.ret rfl Tryd.func26 rfl ?_
    refine ⟨congrArg Value.bool ?_, hn1.ext⟩
    simp only [decide_eq_false_iff_not, decide_eq_true_eq] at *
    unfold rowM
    first | (rw [all_of_take hlt (by rw [hat, okc, decide_eq_false_iff_not]; omega)]; rfl) | (rw [List.take_of_length_le (by omega)] at hgo; rw [hgo]; generalize r.getD 4 0 = t at *; simp [*])
  refine Reg.skip rfl rfl rfl rfl rfl rfl rfl ?_
  refine Reg.skip rfl rfl rfl rfl rfl rfl rfl ?_
  refine Reg.skip rfl rfl rfl rfl rfl rfl rfl ?_
  refine Reg.pur rfl rfl rfl rfl (Pur.pickF rfl rfl) ?_
  refine Reg.pur rfl rfl rfl rfl (Pur.asg rfl) ?_
  refine Reg.nil ?_
  refine At.ret rfl Tryd.func26 rfl ?_
  refine ⟨congrArg Value.bool ?_, hn1.ext⟩
  simp only [decide_eq_false_iff_not, decide_eq_true_eq] at *
  unfold rowM
  first | (rw [all_of_take hlt (by rw [hat, okc, decide_eq_false_iff_not]; omega)]; rfl) | (rw [List.take_of_length_le (by omega)] at hgo; rw [hgo]; generalize r.getD 4 0 = t at *; simp [*])

theorem rowMayR_ok (r : List Int) (h : r.length = 5) (H : Heap) : Ret Tryd.prog 27 [.agg (Is r).toArray] H (fun v H' => v = .bool (rowM r) ∧ Ext H H') := by
  have h4 : (r.take 4).length = 4 := by simp; omega
  refine Ret.of_at (N := 28) Tryd.call27 Tryd.func27 rfl rfl rfl ?_
  refine At.region rfl rfl ?_
  refine Reg.op rfl rfl rfl rfl (Does.box rfl rfl) ?_
  rintro _ H1 ⟨rfl, hn1⟩
  refine Reg.pur rfl rfl rfl rfl (Pur.asg rfl) ?_
  refine Reg.nil ?_
  refine At.region rfl rfl ?_
  refine Reg.pur rfl rfl rfl rfl (Pur.asg rfl) ?_
  refine Reg.nil ?_
  refine At.loop (σ := Nat) (fun i => [(3, I i), (1, ptr H.size 0)]) (fun i H' => i ≤ 4 ∧ H' = H1 ∧ ((r.take 4).take i).all okc = true) (fun i => 4 - i) 0 rfl ⟨rfl, rfl, trivial⟩ ⟨by omega, rfl, rfl⟩ ?_
  rintro i H2 ⟨hi, rfl, hgo⟩ ih
  refine At.region rfl rfl ?_
  refine Reg.pur rfl rfl rfl rfl (Pur.mv rfl) ?_
  refine Reg.pur rfl rfl rfl rfl (Pur.lss rfl rfl) ?_
  refine Reg.nil ?_
  refine At.cond rfl rfl (fun hb1 => ?_) (fun hb1 => ?_)
  · simp only [decide_eq_true_eq] at hb1
    have hlt : i < (r.take 4).length := by omega
    have hat := take4_at h (i := i) (by omega)
    have hai : (Is r)[0 + 0 + (i : Int).toNat * 1]? = some (I (r.getD i 0)) := by rw [show 0 + 0 + (i : Int).toNat * 1 = i from by omega]; exact at_Is (by omega)
    refine At.region rfl rfl ?_
    refine Reg.pur rfl rfl rfl rfl (Pur.mv rfl) ?_
    refine Reg.pur rfl rfl rfl rfl (Pur.fld _ fo24_0 rfl) ?_
    refine Reg.pur rfl rfl rfl rfl (Pur.idxP arr22 rfl rfl (by omega) (by omega)) ?_
    refine Reg.lod rfl rfl rfl rfl (Lod.ld sc3 rfl hn1.own.blk hai) ?_
    refine Reg.pur rfl rfl rfl rfl (Pur.lss rfl rfl) ?_
    refine Reg.pur rfl rfl rfl rfl (Pur.mv rfl) ?_
    refine Reg.case 13 rfl (fun hc2 => ?_) (fun hc2 => ?_)
    · refine Reg.skip rfl rfl rfl rfl rfl rfl rfl ?_
      refine Reg.skip rfl rfl rfl rfl rfl rfl rfl ?_
      refine Reg.skip rfl rfl rfl rfl rfl rfl rfl ?_
      refine Reg.skip rfl rfl rfl rfl rfl rfl rfl ?_
      refine Reg.skip rfl rfl rfl rfl rfl rfl rfl ?_
      refine Reg.pur rfl rfl rfl rfl (Pur.pickT rfl rfl) ?_
      refine Reg.nil ?_
      refine At.condT rfl rfl rfl ?_
      refine At.region rfl rfl ?_
      refine Reg.pur rfl rfl rfl rfl (Pur.asg rfl) ?_
      refine Reg.nil ?_
      refine At.ret rfl Tryd.func27 rfl ?_
      refine ⟨congrArg Value.bool ?_, hn1.ext⟩
      simp only [decide_eq_false_iff_not, decide_eq_true_eq] at *
      unfold rowM
      first | (rw [all_of_take hlt (by rw [hat, okc, decide_eq_false_iff_not]; omega)]; rfl) | (rw [List.take_of_length_le (by omega)] at hgo; rw [hgo]; generalize r.getD 4 0 = t at *; simp [*])
    refine Reg.gpur rfl rfl rfl rfl rfl rfl (Pur.mv rfl) ?_
    refine Reg.gpur rfl rfl rfl rfl rfl rfl (Pur.fld _ fo24_0 rfl) ?_
    refine Reg.gpur rfl rfl rfl rfl rfl rfl (Pur.idxP arr22 rfl rfl (by omega) (by omega)) ?_
    refine Reg.glod rfl rfl rfl rfl rfl rfl (Lod.ld sc3 rfl hn1.own.blk hai) ?_
    refine Reg.gpur rfl rfl rfl rfl rfl rfl (Pur.gtr rfl rfl) ?_
    refine Reg.pur rfl rfl rfl rfl (Pur.pickF rfl rfl) ?_
    refine Reg.nil ?_
    refine At.cond rfl rfl (fun hb3 => ?_) (fun hb3 => ?_)
    · refine At.region rfl rfl ?_
      refine Reg.pur rfl rfl rfl rfl (Pur.asg rfl) ?_
      refine Reg.nil ?_
      refine At.ret rfl Tryd.func27 rfl ?_
      refine ⟨congrArg Value.bool ?_, hn1.ext⟩
      simp only [decide_eq_false_iff_not, decide_eq_true_eq] at *
      unfold rowM
      first | (rw [all_of_take hlt (by rw [hat, okc, decide_eq_false_iff_not]; omega)]; rfl) | (rw [List.take_of_length_le (by omega)] at hgo; rw [hgo]; generalize r.getD 4 0 = t at *; simp [*])
    refine At.region rfl rfl ?_
    refine Reg.pur rfl rfl rfl rfl (Pur.mv rfl) ?_
    first | refine Reg.pur rfl rfl rfl rfl (Pur.add64 rfl rfl (by omega)) ?_ | refine Reg.pur rfl rfl rfl rfl (Pur.add64 rfl rfl (by assumption)) ?_ | refine Reg.pur rfl rfl rfl rfl (Pur.add rfl rfl) ?_
    refine Reg.pur rfl rfl rfl rfl (Pur.asg rfl) ?_
    refine Reg.nil ?_
    refine At.via (ih (i + 1) _ ⟨by omega, rfl, ?_⟩ (by omega)) ⟨rfl, rfl, trivial⟩
    simp only [decide_eq_false_iff_not, decide_eq_true_eq] at *
    rw [all_take hlt, hgo, hat, okc, decide_eq_true (by omega)]; rfl
  refine At.region rfl rfl ?_
  refine Reg.pur rfl rfl rfl rfl (Pur.fld _ fo24_1 rfl) ?_
  refine Reg.lod rfl rfl rfl rfl (Lod.ld sc3 rfl hn1.own.blk (hat4 r h)) ?_
  refine Reg.pur rfl rfl rfl rfl (Pur.geq rfl rfl) ?_
  refine Reg.pur rfl rfl rfl rfl (Pur.mv rfl) ?_
  refine Reg.case 23 rfl (fun hc4 => ?_) (fun hc4 => ?_)
  · refine Reg.gpur rfl rfl rfl rfl rfl rfl (Pur.fld _ fo24_1 rfl) ?_
    refine Reg.glod rfl rfl rfl rfl rfl rfl (Lod.ld sc3 rfl hn1.own.blk (hat4 r h)) ?_
    refine Reg.gpur rfl rfl rfl rfl rfl rfl (Pur.lss rfl rfl) ?_
    refine Reg.pur rfl rfl rfl rfl (Pur.pickT rfl rfl) ?_
    refine Reg.pur rfl rfl rfl rfl (Pur.asg rfl) ?_
    refine Reg.nil ?_
    refine At.ret rfl Tryd.func27 rfl ?_
    refine ⟨congrArg Value.bool ?_, hn1.ext⟩
    simp only [decide_eq_false_iff_not, decide_eq_true_eq] at *
    unfold rowM
    first | (rw [all_of_take hlt (by rw [hat, okc, decide_eq_false_iff_not]; omega)]; rfl) | (rw [List.take_of_length_le (by omega)] at hgo; rw [hgo]; generalize r.getD 4 0 = t at *; simp [*])
  refine Reg.skip rfl rfl rfl rfl rfl rfl rfl ?_
  refine Reg.skip rfl rfl rfl rfl rfl rfl rfl ?_
  refine Reg.skip rfl rfl rfl rfl rfl rfl rfl ?_
  refine Reg.pur rfl rfl rfl rfl (Pur.pickF rfl rfl) ?_
  refine Reg.pur rfl rfl rfl rfl (Pur.asg rfl) ?_
  refine Reg.nil ?_
  refine At.ret rfl Tryd.func27 rfl ?_
  refine ⟨congrArg Value.bool ?_, hn1.ext⟩
  simp only [decide_eq_false_iff_not, decide_eq_true_eq] at *
  unfold rowM
  first | (rw [all_of_take hlt (by rw [hat, okc, decide_eq_false_iff_not]; omega)]; rfl) | (rw [List.take_of_length_le (by omega)] at hgo; rw [hgo]; generalize r.getD 4 0 = t at *; simp [*])

end Go.Proofs.YtlfillhffpiffaaDoor

namespace Go.Proofs.YtlfillhffpiffaaDoor
set_option linter.unusedSimpArgs false
set_option linter.unusedVariables false
set_option maxRecDepth 8000
open Go Go.Fx Go.Proofs
namespace FactsTypB
theorem ag24 : ag Tryd.prog 24 = some 5 := by kernel_rfl
theorem ag65 : ag Tryd.prog 65 = some 9 := by kernel_rfl
theorem eqt65 : eqT Tryd.prog 65 = some [.int .i64, .int .i64, .int .i64, .int .i64, .int .i64, .int .i64, .int .i64, .int .i64, .int .i64] := by kernel_rfl
theorem fo65_1 : foff Tryd.prog 65 1 = some 1 := by kernel_rfl
theorem pl24 : places Tryd.prog 24 = some [(0, 4), (4, 1)] := by kernel_rfl
theorem sc3 : sc Tryd.prog 3 = true := by kernel_rfl
theorem zc24 : zc Tryd.prog 24 = some [.int .i64 0, .int .i64 0, .int .i64 0, .int .i64 0, .int .i64 0] := by kernel_rfl
end FactsTypB
open FactsTypB

end Go.Proofs.YtlfillhffpiffaaDoor

namespace Go.Proofs.YtlfillhffpiffaaDoor
set_option linter.unusedSimpArgs false
set_option linter.unusedVariables false
set_option maxRecDepth 8000
open Go Go.Fx Go.Proofs
namespace FactsTypC
theorem es53 : esz Tryd.prog 53 = some 9 := by kernel_rfl
theorem sc3 : sc Tryd.prog 3 = true := by kernel_rfl
end FactsTypC
open FactsTypC

abbrev el (L : List (List Int)) (i : Int) : List Int := L.getD i.toNat []
abbrev Nine (L : List (List Int)) : Prop := ∀ x ∈ L, x.length = 9
theorem wide9 {L : List (List Int)} (h : Nine L) : Wide Is 9 L := fun x hx => by simp [Is, h x hx]
end Go.Proofs.YtlfillhffpiffaaDoor

namespace Go.Proofs.YtlfillhffpiffaaDoor
set_option linter.unusedSimpArgs false
set_option linter.unusedVariables false
set_option maxRecDepth 8000
open Go Go.Fx Go.Proofs
namespace FactsTypD
theorem ag24 : ag Tryd.prog 24 = some 5 := by kernel_rfl
theorem ag65 : ag Tryd.prog 65 = some 9 := by kernel_rfl
theorem eqt65 : eqT Tryd.prog 65 = some [.int .i64, .int .i64, .int .i64, .int .i64, .int .i64, .int .i64, .int .i64, .int .i64, .int .i64] := by kernel_rfl
theorem es53 : esz Tryd.prog 53 = some 9 := by kernel_rfl
theorem fo55_0 : foff Tryd.prog 55 0 = some 0 := by kernel_rfl
theorem fo65_1 : foff Tryd.prog 65 1 = some 1 := by kernel_rfl
theorem isl53 : isSl Tryd.prog 53 = true := by kernel_rfl
theorem sc3 : sc Tryd.prog 3 = true := by kernel_rfl
theorem sc53 : sc Tryd.prog 53 = true := by kernel_rfl
end FactsTypD
open FactsTypD

abbrev Ty (A : Option Addr) (len cap : Nat) : Value := .agg #[.slice A len cap]

end Go.Proofs.YtlfillhffpiffaaDoor

namespace Go.Proofs.YtlfillhffpiffaaDoor
set_option linter.unusedSimpArgs false
set_option linter.unusedVariables false
set_option maxRecDepth 8000
open Go Go.Fx Go.Proofs
namespace FactsSubA
theorem ag24 : ag Tryd.prog 24 = some 5 := by kernel_rfl
theorem ag55 : ag Tryd.prog 55 = some 1 := by kernel_rfl
theorem eqt24 : eqT Tryd.prog 24 = some [.int .i64, .int .i64, .int .i64, .int .i64, .int .i64] := by kernel_rfl
theorem fo55_0 : foff Tryd.prog 55 0 = some 0 := by kernel_rfl
theorem fo57_0 : foff Tryd.prog 57 0 = some 0 := by kernel_rfl
theorem fo57_1 : foff Tryd.prog 57 1 = some 1 := by kernel_rfl
theorem fo57_2 : foff Tryd.prog 57 2 = some 2 := by kernel_rfl
theorem fo57_3 : foff Tryd.prog 57 3 = some 3 := by kernel_rfl
theorem isl53 : isSl Tryd.prog 53 = true := by kernel_rfl
theorem pl24 : places Tryd.prog 24 = some [(0, 4), (4, 1)] := by kernel_rfl
theorem sc3 : sc Tryd.prog 3 = true := by kernel_rfl
theorem sc4 : sc Tryd.prog 4 = true := by kernel_rfl
theorem sc53 : sc Tryd.prog 53 = true := by kernel_rfl
theorem zc24 : zc Tryd.prog 24 = some [.int .i64 0, .int .i64 0, .int .i64 0, .int .i64 0, .int .i64 0] := by kernel_rfl
end FactsSubA
open FactsSubA

structure Bd where
  var : Int
  isRow : Bool
  A : Option Addr
  cap : Nat
  nodes : List (List Int)
  row : List Int
abbrev Bd.sl (b : Bd) : Value := .slice b.A b.nodes.length b.cap
abbrev encB (b : Bd) : List Value := I b.var :: .bool b.isRow :: b.sl :: Is b.row
structure Bd.Ok (H : Heap) (b : Bd) : Prop where
  sl : SlT H Is 9 b.sl b.nodes
  nine : Nine b.nodes
  row : b.row.length = 5
  fits : b.nodes.length * 72 ≤ 140737488351232
theorem Bd.Ok.ext {H H' : Heap} {b : Bd} (h : b.Ok H) (he : Ext H H') : b.Ok H' := ⟨h.sl.ext he, h.nine, h.row, h.fits⟩
theorem Bd.Ok.len {H : Heap} {b : Bd} (h : b.Ok H) : (encB b).length = 8 := by simp [h.row]
theorem Bd.Ok.max {H : Heap} {b : Bd} (h : b.Ok H) : b.nodes.length ≤ 9223372036854775807 := by have := h.fits; omega
abbrev noRow : List Int := [0, 0, 0, 0, 0]
end Go.Proofs.YtlfillhffpiffaaDoor

namespace Go.Proofs.YtlfillhffpiffaaDoor
set_option linter.unusedSimpArgs false
set_option linter.unusedVariables false
set_option maxRecDepth 8000
open Go Go.Fx Go.Proofs
namespace FactsSubB
theorem ag57 : ag Tryd.prog 57 = some 8 := by kernel_rfl
theorem es25 : esz Tryd.prog 25 = some 8 := by kernel_rfl
theorem fo57_0 : foff Tryd.prog 57 0 = some 0 := by kernel_rfl
theorem fo57_1 : foff Tryd.prog 57 1 = some 1 := by kernel_rfl
theorem isl25 : isSl Tryd.prog 25 = true := by kernel_rfl
theorem sc3 : sc Tryd.prog 3 = true := by kernel_rfl
theorem sc4 : sc Tryd.prog 4 = true := by kernel_rfl
end FactsSubB
open FactsSubB

structure Bds (H : Heap) (v : Value) (L : List Bd) : Prop where
  sl : SlT H encB 8 v L
  ok : ∀ b ∈ L, b.Ok H
  fits : L.length * 80 ≤ 140737488351232
theorem Bds.ext {H H' : Heap} {v : Value} {L : List Bd} (h : Bds H v L) (he : Ext H H') : Bds H' v L := ⟨h.sl.ext he, fun b hb => (h.ok b hb).ext he, h.fits⟩
theorem Bds.wide {H : Heap} {v : Value} {L : List Bd} (h : Bds H v L) : Wide encB 8 L := fun b hb => (h.ok b hb).len
theorem Bds.max {H : Heap} {v : Value} {L : List Bd} (h : Bds H v L) : L.length ≤ 9223372036854775807 := by have := h.fits; omega
theorem Bds.at {H : Heap} {A : Option Addr} {cap : Nat} {L : List Bd} (h : Bds H (.slice A L.length cap) L) {i : Nat} (hi : i < L.length) :
    ∃ b o c, A = some ⟨b, o, none⟩ ∧ Blk H b c ∧ (c.drop (o + i * 8)).take 8 = encB L[i] ∧ L[i].Ok H := by
  obtain ⟨b, o, c, h1, h2, h3, _⟩ := sl_at h.wide h.sl hi
  exact ⟨b, o, c, h1, h2, h3, h.ok _ (List.getElem_mem hi)⟩
end Go.Proofs.YtlfillhffpiffaaDoor

namespace Go.Proofs.YtlfillhffpiffaaDoor
set_option linter.unusedSimpArgs false
set_option linter.unusedVariables false
set_option maxRecDepth 8000
open Go Go.Fx Go.Proofs
namespace FactsSubC
theorem ag22 : ag Tryd.prog 22 = some 4 := by kernel_rfl
theorem ag24 : ag Tryd.prog 24 = some 5 := by kernel_rfl
theorem arr1_22 : arr1 Tryd.prog 22 = some 4 := by kernel_rfl
theorem arr22 : arr Tryd.prog 22 = some (4, 1) := by kernel_rfl
theorem fo24_0 : foff Tryd.prog 24 0 = some 0 := by kernel_rfl
theorem fo24_1 : foff Tryd.prog 24 1 = some 4 := by kernel_rfl
theorem fo57_3 : foff Tryd.prog 57 3 = some 3 := by kernel_rfl
theorem pl24 : places Tryd.prog 24 = some [(0, 4), (4, 1)] := by kernel_rfl
theorem sc3 : sc Tryd.prog 3 = true := by kernel_rfl
theorem zc24 : zc Tryd.prog 24 = some [.int .i64 0, .int .i64 0, .int .i64 0, .int .i64 0, .int .i64 0] := by kernel_rfl
end FactsSubC
open FactsSubC

theorem take4_Is {r : List Int} (h : r.length = 5) {i : Nat} (hi : i < 4) : (Is (r.take 4))[i]? = some (I (r.getD i 0)) := by
  match r, h with
  | [a, b, c, d, e], _ =>
    match i, hi with
    | 0, _ => rfl
    | 1, _ => rfl
    | 2, _ => rfl
    | 3, _ => rfl
end Go.Proofs.YtlfillhffpiffaaDoor

namespace Go.Proofs.YtlfillhffpiffaaDoor
set_option linter.unusedSimpArgs false
set_option linter.unusedVariables false
set_option maxRecDepth 8000
open Go Go.Fx Go.Proofs
namespace FactsSubE
end FactsSubE
open FactsSubE

theorem flat_set : ∀ {M : List (List Int)} (hM : Nine M) {i j : Nat} (hi : i < M.length) (hj : j < 9) (v : Int), (M.flatMap Is).set (i * 9 + j) (I v) = (M.set i ((M.getD i []).set j v)).flatMap Is
  | [], _, _, _, hi, _, _ => by simp at hi
  | x :: M, hM, 0, j, _, hj, v => by
    have h9 : x.length = 9 := hM x List.mem_cons_self
    rw [List.flatMap_cons, List.set_cons_zero, List.flatMap_cons, Nat.zero_mul, Nat.zero_add, List.set_append_left _ _ (by simp [h9]; omega), Is_set]
    rfl
  | x :: M, hM, i + 1, j, hi, hj, v => by
    have h9 : x.length = 9 := hM x List.mem_cons_self
    have ih := flat_set (M := M) (fun y hy => hM y (List.mem_cons_of_mem _ hy)) (i := i) (by simpa using hi) hj v
    rw [List.flatMap_cons, List.set_cons_succ, List.flatMap_cons, List.set_append_right _ _ (by simp [h9]; omega), show (i + 1) * 9 + j - (Is x).length = i * 9 + j by simp [h9]; omega, ih]
    rfl

end Go.Proofs.YtlfillhffpiffaaDoor

namespace Go.Proofs.YtlfillhffpiffaaDoor
set_option linter.unusedSimpArgs false
set_option linter.unusedVariables false
set_option maxRecDepth 8000
open Go Go.Fx Go.Proofs
namespace FactsSubF
theorem es53 : esz Tryd.prog 53 = some 9 := by kernel_rfl
theorem isl53 : isSl Tryd.prog 53 = true := by kernel_rfl
theorem sc3 : sc Tryd.prog 3 = true := by kernel_rfl
end FactsSubF
open FactsSubF

theorem rd {c : List Value} {M : List (List Int)} {n i j : Nat} (h : c.take (n * 9) = M.flatMap Is) (hM : Nine M) (hl : M.length = n) (hi : i < n) (hj : j < 9) : c[0 + (i : Int).toNat * 9 + j]? = some (I ((M.getD i []).getD j 0)) := by
  subst hl
  have h1 : (c.drop (i * 9)).take 9 = Is M[i] := by rw [take_mid h (by omega)]; exact flat_at M i (wide9 hM) hi
  have h2 : M.getD i [] = M[i] := by simp [List.getD_eq_getElem?_getD, List.getElem?_eq_getElem hi]
  rw [h2, Nat.zero_add]
  exact at_tk h1 hj (at_Is (by rw [hM _ (List.getElem_mem hi)]; exact hj))
theorem wr {c : List Value} {M : List (List Int)} {n i j : Nat} (h : c.take (n * 9) = M.flatMap Is) (hM : Nine M) (hl : M.length = n) (hi : i < n) (hj : j < 9) (v : Int) : (c.set (0 + (i : Int).toNat * 9 + j) (I v)).take (n * 9) = (M.set i ((M.getD i []).set j v)).flatMap Is := by
  subst hl
  rw [Nat.zero_add, List.take_set, h]
  exact flat_set hM hi hj v
theorem len_of {c : List Value} {M : List (List Int)} {n : Nat} (h : c.take (n * 9) = M.flatMap Is) (hM : Nine M) (hl : M.length = n) : n * 9 ≤ c.length := by
  have := congrArg List.length h
  rw [List.length_take, flat_len (wide9 hM), hl] at this; omega
theorem nine_set {M : List (List Int)} (hM : Nine M) (i j : Nat) (v : Int) : Nine (M.set i ((M.getD i []).set j v)) := by
  intro x hx
  by_cases hi : i < M.length
  · rcases List.mem_or_eq_of_mem_set hx with h | h
    · exact hM x h
    · subst h
      rw [List.length_set, List.getD_eq_getElem?_getD, List.getElem?_eq_getElem hi]; exact hM _ (List.getElem_mem hi)
  · rw [List.set_eq_of_length_le (by omega)] at hx; exact hM x hx

end Go.Proofs.YtlfillhffpiffaaDoor

namespace Go.Proofs.YtlfillhffpiffaaDoor
set_option linter.unusedSimpArgs false
set_option linter.unusedVariables false
set_option maxRecDepth 8000
open Go Go.Fx Go.Proofs
namespace FactsSubG
theorem ag55 : ag Tryd.prog 55 = some 1 := by kernel_rfl
theorem ag65 : ag Tryd.prog 65 = some 9 := by kernel_rfl
theorem eqt65 : eqT Tryd.prog 65 = some [.int .i64, .int .i64, .int .i64, .int .i64, .int .i64, .int .i64, .int .i64, .int .i64, .int .i64] := by kernel_rfl
theorem es53 : esz Tryd.prog 53 = some 9 := by kernel_rfl
theorem fo55_0 : foff Tryd.prog 55 0 = some 0 := by kernel_rfl
theorem isl53 : isSl Tryd.prog 53 = true := by kernel_rfl
theorem mixed : Tryd.prog.follows .mixedOrders = true := by kernel_rfl
theorem sc53 : sc Tryd.prog 53 = true := by kernel_rfl
end FactsSubG
open FactsSubG

theorem sameN_ok {A A' : Option Addr} {cap cap' : Nat} {L L' : List (List Int)} (hL : Nine L) (hL' : Nine L') {H : Heap} (hS : SlT H Is 9 (.slice A L.length cap) L) (hS' : SlT H Is 9 (.slice A' L'.length cap') L') (hm : L.length ≤ 9223372036854775807) :
    Ret Tryd.prog 61 [.slice A L.length cap, .slice A' L'.length cap'] H (fun v H' => v = .bool (decide (L = L')) ∧ H' = H) := by
  refine Ret.of_at (N := 26) Tryd.call61 Tryd.func61 rfl rfl rfl ?_
  refine At.region rfl rfl ?_
  refine Reg.pur rfl rfl rfl rfl (Pur.asg rfl) ?_
  refine Reg.nil ?_
  refine At.region rfl rfl ?_
  refine Reg.pur rfl rfl rfl rfl (Pur.mv rfl) ?_
  refine Reg.pur rfl rfl rfl rfl (Pur.lenS isl53 rfl) ?_
  refine Reg.pur rfl rfl rfl rfl (Pur.mv rfl) ?_
  refine Reg.pur rfl rfl rfl rfl (Pur.lenS isl53 rfl) ?_
  refine Reg.pur rfl rfl rfl rfl (Pur.neq rfl rfl) ?_
  refine Reg.nil ?_
  refine At.cond rfl rfl (fun hb1 => ?_) (fun hb1 => ?_)
  · refine At.region rfl rfl ?_
    refine Reg.pur rfl rfl rfl rfl (Pur.asg rfl) ?_
    refine Reg.nil ?_
    refine At.ret rfl Tryd.func61 rfl ?_
    first | exact ⟨congrArg Value.bool (decide_eq_false (fun h => by subst h; rw [hq] at hb3; simp at hb3)).symm, rfl⟩ | exact ⟨congrArg Value.bool (decide_eq_true (by simp only [decide_eq_false_iff_not] at hb2; rwa [List.take_of_length_le (by omega), List.take_of_length_le (by omega)] at hgo)).symm, rfl⟩ | exact ⟨congrArg Value.bool (decide_eq_false (fun h => by subst h; simp at hb1)).symm, rfl⟩
  refine At.region rfl rfl ?_
  refine Reg.pur rfl rfl rfl rfl (Pur.asg rfl) ?_
  refine Reg.nil ?_
  have hll : L.length = L'.length := by simp at hb1; omega
  refine At.loop (σ := Nat) (fun i => [(5, I i), (0, .slice A L.length cap), (1, .slice A' L'.length cap')]) (fun i H' => i ≤ L.length ∧ H' = H ∧ L.take i = L'.take i) (fun i => L.length - i) 0 rfl ⟨rfl, rfl, rfl, trivial⟩ ⟨by omega, rfl, rfl⟩ ?_
  rintro i H1 ⟨hi, rfl, hgo⟩ ih
  refine At.region rfl rfl ?_
  refine Reg.pur rfl rfl rfl rfl (Pur.mv rfl) ?_
  refine Reg.pur rfl rfl rfl rfl (Pur.mv rfl) ?_
  refine Reg.pur rfl rfl rfl rfl (Pur.lenS isl53 rfl) ?_
  refine Reg.pur rfl rfl rfl rfl (Pur.lss rfl rfl) ?_
  refine Reg.nil ?_
  refine At.cond rfl rfl (fun hb2 => ?_) (fun hb2 => ?_)
  · simp only [decide_eq_true_eq] at hb2
    have hlt : i < L.length := by omega
    have hlt' : i < L'.length := by omega
    obtain ⟨b, o, c, rfl, hB, hd, h9⟩ := sl_at (wide9 hL) hS hlt
    obtain ⟨b', o', c', rfl, hB', hd', h9'⟩ := sl_at (wide9 hL') hS' hlt'
    have hf := fks_ints .i64 L[i]
    have hf' := fks_ints .i64 L'[i]
    rw [hL _ (List.getElem_mem hlt)] at hf
    rw [hL' _ (List.getElem_mem hlt')] at hf'
    have hq := eqs_ints .i64 L[i] L'[i]
    refine At.draw (fun H' => Blk H' b c ∧ Blk H' b' c') [] mixed rfl rfl ?_
    refine RegD.tpur (i := 0) rfl rfl rfl rfl (by kernel_rfl) (Pur.mv rfl) ?_
    refine RegD.tpur (i := 1) rfl rfl rfl rfl (by kernel_rfl) (Pur.mv rfl) ?_
    refine RegD.tpur (i := 2) rfl rfl rfl rfl (by kernel_rfl) (Pur.idx _ es53 rfl rfl (by omega) hb2) ?_
    refine RegD.take (i := 3) rfl rfl rfl rfl (by kernel_rfl) ⟨hB, hB'⟩ (fun H hS => Lod.ldn ag65 rfl hS.1 hd h9) ?_
    refine RegD.tpur (i := 4) rfl rfl rfl rfl (by kernel_rfl) (Pur.mv rfl) ?_
    refine RegD.tpur (i := 5) rfl rfl rfl rfl (by kernel_rfl) (Pur.mv rfl) ?_
    refine RegD.tpur (i := 6) rfl rfl rfl rfl (by kernel_rfl) (Pur.idx _ es53 rfl rfl (by omega) (by omega)) ?_
    refine RegD.take (i := 7) rfl rfl rfl rfl (by kernel_rfl) ⟨hB, hB'⟩ (fun H hS => Lod.ldn ag65 rfl hS.2 hd' h9') ?_
    refine RegD.tpur (i := 8) rfl rfl rfl rfl (by kernel_rfl) (Pur.neA eqt65 rfl rfl hf hf') ?_
    refine RegD.done (by kernel_rfl) ?_
    refine At.cond rfl rfl (fun hb3 => ?_) (fun hb3 => ?_)
    · refine At.region rfl rfl ?_
      refine Reg.pur rfl rfl rfl rfl (Pur.asg rfl) ?_
      refine Reg.nil ?_
      refine At.ret rfl Tryd.func61 rfl ?_
      first | exact ⟨congrArg Value.bool (decide_eq_false (fun h => by subst h; rw [hq] at hb3; simp at hb3)).symm, rfl⟩ | exact ⟨congrArg Value.bool (decide_eq_true (by simp only [decide_eq_false_iff_not] at hb2; rwa [List.take_of_length_le (by omega), List.take_of_length_le (by omega)] at hgo)).symm, rfl⟩ | exact ⟨congrArg Value.bool (decide_eq_false (fun h => by subst h; simp at hb1)).symm, rfl⟩
    refine At.region rfl rfl ?_
    refine Reg.pur rfl rfl rfl rfl (Pur.mv rfl) ?_
    first | refine Reg.pur rfl rfl rfl rfl (Pur.add64 rfl rfl (by omega)) ?_ | refine Reg.pur rfl rfl rfl rfl (Pur.add64 rfl rfl (by assumption)) ?_ | refine Reg.pur rfl rfl rfl rfl (Pur.add rfl rfl) ?_
    refine Reg.pur rfl rfl rfl rfl (Pur.asg rfl) ?_
    refine Reg.nil ?_
    refine At.via (ih (i + 1) _ ⟨by omega, rfl, ?_⟩ (by omega)) ⟨rfl, rfl, rfl, trivial⟩
    rw [hq] at hb3
    rw [List.take_succ_eq_append_getElem hlt, List.take_succ_eq_append_getElem hlt', hgo, show L[i] = L'[i] by simpa using hb3]
  refine At.region rfl rfl ?_
  refine Reg.pur rfl rfl rfl rfl (Pur.asg rfl) ?_
  refine Reg.nil ?_
  refine At.ret rfl Tryd.func61 rfl ?_
  first | exact ⟨congrArg Value.bool (decide_eq_false (fun h => by subst h; rw [hq] at hb3; simp at hb3)).symm, rfl⟩ | exact ⟨congrArg Value.bool (decide_eq_true (by simp only [decide_eq_false_iff_not] at hb2; rwa [List.take_of_length_le (by omega), List.take_of_length_le (by omega)] at hgo)).symm, rfl⟩ | exact ⟨congrArg Value.bool (decide_eq_false (fun h => by subst h; simp at hb1)).symm, rfl⟩

theorem sameType_ok {A A' : Option Addr} {cap cap' : Nat} {L L' : List (List Int)} (hL : Nine L) (hL' : Nine L') {H : Heap} (hS : SlT H Is 9 (.slice A L.length cap) L) (hS' : SlT H Is 9 (.slice A' L'.length cap') L') (hm : L.length ≤ 9223372036854775807) :
    Ret Tryd.prog 37 [Ty A L.length cap, Ty A' L'.length cap'] H (fun v H' => v = .bool (decide (L = L')) ∧ Ext H H') := by
  refine Ret.of_at (N := 10) Tryd.call37 Tryd.func37 rfl rfl rfl ?_
  refine At.region rfl rfl ?_
  refine Reg.op rfl rfl rfl rfl (Does.box rfl rfl) ?_
  rintro _ H1 ⟨rfl, hn1⟩
  refine Reg.op rfl rfl rfl rfl (Does.box rfl rfl) ?_
  rintro _ H2 ⟨rfl, hn2⟩
  refine Reg.pur rfl rfl rfl rfl (Pur.asg rfl) ?_
  refine Reg.nil ?_
  refine At.region rfl rfl ?_
  refine Reg.pur rfl rfl rfl rfl (Pur.fld _ fo55_0 rfl) ?_
  refine Reg.lod rfl rfl rfl rfl (Lod.ld sc53 rfl ((hn1.own.ext hn2.ext).blk) rfl) ?_
  refine Reg.pur rfl rfl rfl rfl (Pur.fld _ fo55_0 rfl) ?_
  refine Reg.lod rfl rfl rfl rfl (Lod.ld sc53 rfl hn2.own.blk rfl) ?_
  refine Reg.op rfl rfl rfl rfl (Does.call rfl (sameN_ok hL hL' (hS.ext (hn1.ext.trans hn2.ext)) (hS'.ext (hn1.ext.trans hn2.ext)) hm)) ?_
  rintro _ H2 ⟨rfl, rfl⟩
  refine Reg.pur rfl rfl rfl rfl (Pur.asg rfl) ?_
  refine Reg.nil ?_
  refine At.ret rfl Tryd.func37 rfl ?_
  exact ⟨rfl, hn1.ext.trans hn2.ext⟩
end Go.Proofs.YtlfillhffpiffaaDoor

namespace Go.Proofs.YtlfillhffpiffaaDoor
set_option linter.unusedSimpArgs false
set_option linter.unusedVariables false
set_option maxRecDepth 8000
open Go Go.Fx Go.Proofs
namespace FactsSubH
theorem es53 : esz Tryd.prog 53 = some 9 := by kernel_rfl
theorem fo55_0 : foff Tryd.prog 55 0 = some 0 := by kernel_rfl
theorem fo65_1 : foff Tryd.prog 65 1 = some 1 := by kernel_rfl
theorem isl53 : isSl Tryd.prog 53 = true := by kernel_rfl
theorem sc3 : sc Tryd.prog 3 = true := by kernel_rfl
theorem sc53 : sc Tryd.prog 53 = true := by kernel_rfl
end FactsSubH
open FactsSubH

theorem spoilN_ok {A : Option Addr} {cap g : Nat} {L : List (List Int)} (hL : Nine L) {H : Heap} {c0 : List Value} (hm : L.length ≤ 9223372036854775807) (hI : L.length = 0 ∨ (A = some ⟨g, 0, none⟩ ∧ Own H g c0 ∧ c0.take (L.length * 9) = L.flatMap Is)) :
    Ret Tryd.prog 71 [.slice A L.length cap] H (fun v H' => (L.length = 0 ∧ H' = H) ∨ But (· = g) H H') := by
  refine Ret.of_at (N := 19) Tryd.call71 Tryd.func71 rfl rfl rfl ?_
  refine At.region rfl rfl ?_
  refine Reg.pur rfl rfl rfl rfl (Pur.asg rfl) ?_
  refine Reg.nil ?_
  refine At.loop (σ := Nat × List (List Int) × List Value) (fun s => [(2, I s.1), (0, .slice A L.length cap)]) (fun s H' => s.1 ≤ L.length ∧ s.2.1.length = L.length ∧ Nine s.2.1 ∧ ((L.length = 0 ∧ H' = H) ∨ (A = some ⟨g, 0, none⟩ ∧ Own H' g s.2.2 ∧ s.2.2.take (L.length * 9) = s.2.1.flatMap Is ∧ But (· = g) H H'))) (fun s => L.length - s.1) (0, L, c0) rfl ⟨rfl, rfl, trivial⟩ ⟨by omega, rfl, hL, hI.imp (fun h => ⟨h, rfl⟩) (fun ⟨h1, h2, h3⟩ => ⟨h1, h2, h3, But.refl _ _⟩)⟩ ?_
  clear hI
  rintro ⟨i, M, c⟩ H2 ⟨hi, hl, hM, hI⟩ ih
  dsimp only at hi hl hM hI ⊢
  refine At.region rfl rfl ?_
  refine Reg.pur rfl rfl rfl rfl (Pur.mv rfl) ?_
  refine Reg.pur rfl rfl rfl rfl (Pur.mv rfl) ?_
  refine Reg.pur rfl rfl rfl rfl (Pur.lenS isl53 rfl) ?_
  refine Reg.pur rfl rfl rfl rfl (Pur.lss rfl rfl) ?_
  refine Reg.nil ?_
  refine At.cond rfl rfl (fun hb1 => ?_) (fun hb1 => ?_)
  · simp only [decide_eq_true_eq] at hb1
    have hlt : i < L.length := by omega
    obtain ⟨rfl, hO, htk, hB⟩ := hI.resolve_left (by omega)
    have r1 := rd htk hM hl hlt (j := 1) (by omega)
    have hcl := len_of htk hM hl
    refine At.region rfl rfl ?_
    refine Reg.pur rfl rfl rfl rfl (Pur.mv rfl) ?_
    refine Reg.pur rfl rfl rfl rfl (Pur.mv rfl) ?_
    refine Reg.pur rfl rfl rfl rfl (Pur.mv rfl) ?_
    refine Reg.pur rfl rfl rfl rfl (Pur.mv rfl) ?_
    refine Reg.pur rfl rfl rfl rfl (Pur.idx _ es53 rfl rfl (by omega) hb1) ?_
    refine Reg.pur rfl rfl rfl rfl (Pur.fld _ fo65_1 rfl) ?_
    refine Reg.lod rfl rfl rfl rfl (Lod.ld sc3 rfl hO.blk r1) ?_
    refine Reg.pur rfl rfl rfl rfl (Pur.xor rfl rfl) ?_
    refine Reg.pur rfl rfl rfl rfl (Pur.idx _ es53 rfl rfl (by omega) hb1) ?_
    refine Reg.pur rfl rfl rfl rfl (Pur.fld _ fo65_1 rfl) ?_
    refine Reg.op0 rfl rfl rfl (Does.st sc3 rfl rfl rfl hO (by omega)) ?_
    rintro _ H3 hu3
    refine Reg.nil ?_
    refine At.region rfl rfl ?_
    refine Reg.pur rfl rfl rfl rfl (Pur.mv rfl) ?_
    first | refine Reg.pur rfl rfl rfl rfl (Pur.add64 rfl rfl (by omega)) ?_ | refine Reg.pur rfl rfl rfl rfl (Pur.add64 rfl rfl (by assumption)) ?_ | refine Reg.pur rfl rfl rfl rfl (Pur.add rfl rfl) ?_
    refine Reg.pur rfl rfl rfl rfl (Pur.asg rfl) ?_
    refine Reg.nil ?_
    exact At.via (ih (i + 1, _, _) H3 ⟨by omega, by simp only [List.length_set]; exact hl, nine_set hM i 1 _, .inr ⟨rfl, hu3.own, wr htk hM hl hlt (j := 1) (by omega) _, hB.trans hu3.but⟩⟩ (by simp only; omega)) ⟨rfl, rfl, trivial⟩
  refine At.fall rfl Tryd.func71 rfl ?_
  exact hI.imp id (fun h => h.2.2.2)

theorem spoilT_ok {A : Option Addr} {cap g : Nat} {L : List (List Int)} (hL : Nine L) {H : Heap} {c0 : List Value} (hm : L.length ≤ 9223372036854775807) (hI : L.length = 0 ∨ (A = some ⟨g, 0, none⟩ ∧ Own H g c0 ∧ c0.take (L.length * 9) = L.flatMap Is)) :
    Ret Tryd.prog 48 [Ty A L.length cap] H (fun v H' => (L.length = 0 ∧ Ext H H') ∨ But (· = g) H H') := by
  refine Ret.of_at (N := 5) Tryd.call48 Tryd.func48 rfl rfl rfl ?_
  refine At.region rfl rfl ?_
  refine Reg.op rfl rfl rfl rfl (Does.box rfl rfl) ?_
  rintro _ H1 ⟨rfl, hn1⟩
  refine Reg.nil ?_
  refine At.region rfl rfl ?_
  refine Reg.pur rfl rfl rfl rfl (Pur.fld _ fo55_0 rfl) ?_
  refine Reg.lod rfl rfl rfl rfl (Lod.ld sc53 rfl hn1.own.blk rfl) ?_
  refine Reg.op rfl rfl rfl rfl (Does.call rfl (spoilN_ok (g := g) (c0 := c0) hL hm (hI.imp id (fun ⟨h1, h2, h3⟩ ↦ ⟨h1, h2.ext hn1.ext, h3⟩)))) ?_
  rintro _ H2 hr
  refine Reg.nil ?_
  refine At.fall rfl Tryd.func48 rfl ?_
  exact hr.imp (fun ⟨h1, h2⟩ => ⟨h1, h2 ▸ hn1.ext⟩) (fun h => hn1.ext.but.trans h)
end Go.Proofs.YtlfillhffpiffaaDoor

namespace Go.Proofs.YtlfillhffpiffaaDoor
set_option linter.unusedSimpArgs false
set_option linter.unusedVariables false
set_option maxRecDepth 8000
open Go Go.Fx Go.Proofs
namespace FactsSchC
theorem apt50 : appT Tryd.prog 50 = some (3, 1, 8) := by kernel_rfl
theorem es50 : esz Tryd.prog 50 = some 1 := by kernel_rfl
theorem fo91_1 : foff Tryd.prog 91 1 = some 1 := by kernel_rfl
theorem isl50 : isSl Tryd.prog 50 = true := by kernel_rfl
theorem sc3 : sc Tryd.prog 3 = true := by kernel_rfl
theorem sc50 : sc Tryd.prog 50 = true := by kernel_rfl
theorem sl1_50 : Go.Fx.sl1 Tryd.prog 50 = true := by kernel_rfl
end FactsSchC
open FactsSchC

def addL (T : List Int) (v : Int) : List Int := if inL T v then T else T ++ [v]
structure Nm (H : Heap) (nb B : Nat) (A1 : Option Addr) (c1 : Nat) (T : List Int) (A2 : Option Addr) (c2 : Nat) (R : List Int) : Prop where
  own : Own H nb [.slice A1 T.length c1, .slice A2 R.length c2]
  g1 : Gs H B 3 1 A1 c1 T.length (T.flatMap e1)
  g2 : Gs H B 3 1 A2 c2 R.length (R.flatMap e1)
  d1 : ob A1 = -1 ∨ ob A1 ≠ ob A2
  d2 : ob A1 ≠ nb
  d3 : ob A2 ≠ nb
  lo : B ≤ H.size
def Mod (nb : Nat) (A1 A2 A1' A2' : Option Addr) (H H' : Heap) : Prop :=
  But (fun g => g = nb ∨ (g : Int) = ob A1 ∨ (g : Int) = ob A2) H H' ∧ (ob A1' = ob A1 ∨ (H.size : Int) ≤ ob A1') ∧ (ob A2' = ob A2 ∨ (H.size : Int) ≤ ob A2')
theorem Mod.refl (nb : Nat) (A1 A2 : Option Addr) (H : Heap) : Mod nb A1 A2 A1 A2 H H := ⟨But.refl _ _, .inl rfl, .inl rfl⟩
theorem Mod.trans {nb : Nat} {A1 A2 B1 B2 C1 C2 : Option Addr} {H H' H'' : Heap} (h : Mod nb A1 A2 B1 B2 H H') (k : Mod nb B1 B2 C1 C2 H' H'') : Mod nb A1 A2 C1 C2 H H'' := by
  obtain ⟨h1, h2, h3⟩ := h
  obtain ⟨k1, k2, k3⟩ := k
  have hs := h1.1
  refine ⟨⟨Nat.le_trans h1.1 k1.1, fun b hb hS => ?_⟩, by omega, by omega⟩
  rw [k1.2 b (by omega) (fun hk => hS (by dsimp only at hk ⊢; omega)), h1.2 b hb hS]
theorem Mod.ext {nb : Nat} {A1 A2 B1 B2 : Option Addr} {H H' H'' : Heap} (h : Mod nb A1 A2 B1 B2 H H') (k : Ext H' H'') : Mod nb A1 A2 B1 B2 H H'' :=
  ⟨h.1.trans k.but, h.2⟩
theorem Nm.ext {H H' : Heap} {nb B : Nat} {A1 A2 : Option Addr} {c1 c2 : Nat} {T R : List Int} (h : Nm H nb B A1 c1 T A2 c2 R) (he : Ext H H') : Nm H' nb B A1 c1 T A2 c2 R :=
  ⟨h.own.ext he, h.g1.ext he, h.g2.ext he, h.d1, h.d2, h.d3, Nat.le_trans h.lo he.1⟩

theorem at_ok {B cap : Nat} {A : Option Addr} (T : List Int) (v : Int) {H : Heap} (hg : Gs H B 3 1 A cap T.length (T.flatMap e1)) (hB : B ≤ H.size) (hm : T.length ≤ 1000000) :
    Ret Tryd.prog 101 [.slice A T.length cap, I v] H (fun r H' => ∃ A' cap', r = .tuple #[.slice A' (addL T v).length cap', I (ixL T v)] ∧ Gs H' B 3 1 A' cap' (addL T v).length ((addL T v).flatMap e1) ∧ But (fun g => (g : Int) = ob A) H H' ∧ (ob A' = ob A ∨ (H.size : Int) ≤ ob A')) := by
  have hS := own_sl (wide1 T) (by decide) hg
  have z1 := hg.lt
  refine Ret.of_at (N := 29) Tryd.call101 Tryd.func101 rfl rfl rfl ?_
  have hE := Ext.refl H
  have z_hg := hg.lt
  refine At.region rfl rfl ?_
  refine Reg.pur rfl rfl rfl rfl (Pur.asg rfl) ?_
  refine Reg.pur rfl rfl rfl rfl (Pur.asg rfl) ?_
  refine Reg.nil ?_
  refine At.region rfl rfl ?_
  refine Reg.pur rfl rfl rfl rfl (Pur.asg rfl) ?_
  refine Reg.nil ?_
  refine At.loop (σ := Nat) (fun i => [(6, I i), (0, .slice A T.length cap), (1, I v)]) (fun i H' => i ≤ T.length ∧ H' = H ∧ ixL T v = i + ixL (T.drop i) v) (fun i => T.length - i) 0 rfl ⟨rfl, rfl, rfl, trivial⟩ ⟨by omega, rfl, by simp⟩ ?_
  rintro i H ⟨hi, rfl, hgo⟩ ih
  refine At.region rfl rfl ?_
  refine Reg.pur rfl rfl rfl rfl (Pur.mv rfl) ?_
  refine Reg.pur rfl rfl rfl rfl (Pur.mv rfl) ?_
  refine Reg.pur rfl rfl rfl rfl (Pur.lenS isl50 rfl) ?_
  refine Reg.pur rfl rfl rfl rfl (Pur.lss rfl rfl) ?_
  refine Reg.nil ?_
  refine At.cond rfl rfl (fun q10 => ?_) (fun q10 => ?_)
  · first | (simp only [decide_eq_true_eq, decide_eq_false_iff_not, Bool.not_eq_true', Bool.not_eq_false', ne_eq, Decidable.not_not, Bool.not_eq_true, Bool.not_eq_false] at q10) | (dsimp only at q10) | skip
    have hlt : i < T.length := by omega
    obtain ⟨b, o, c, rfl, hB, hc⟩ := int_at hS hlt
    rw [ix_drop hlt] at hgo
    refine At.region rfl rfl ?_
    refine Reg.pur rfl rfl rfl rfl (Pur.mv rfl) ?_
    refine Reg.pur rfl rfl rfl rfl (Pur.mv rfl) ?_
    refine Reg.pur rfl rfl rfl rfl (Pur.idx _ es50 rfl rfl (by omega) (by omega)) ?_
    refine Reg.lod rfl rfl rfl rfl (Lod.ld sc3 rfl hB hc) ?_
    refine Reg.pur rfl rfl rfl rfl (Pur.mv rfl) ?_
    refine Reg.pur rfl rfl rfl rfl (Pur.eql rfl rfl) ?_
    refine Reg.nil ?_
    refine At.cond rfl rfl (fun q18 => ?_) (fun q18 => ?_)
    · first | (simp only [decide_eq_true_eq, decide_eq_false_iff_not, Bool.not_eq_true', Bool.not_eq_false', ne_eq, Decidable.not_not, Bool.not_eq_true, Bool.not_eq_false] at q18) | (dsimp only at q18) | skip
      refine At.region rfl rfl ?_
      refine Reg.pur rfl rfl rfl rfl (Pur.mv rfl) ?_
      refine Reg.pur rfl rfl rfl rfl (Pur.mv rfl) ?_
      refine Reg.pur rfl rfl rfl rfl (Pur.asg rfl) ?_
      refine Reg.pur rfl rfl rfl rfl (Pur.asg rfl) ?_
      refine Reg.nil ?_
      refine At.ret rfl Tryd.func101 rfl ?_
      rw [if_pos q18] at hgo
      have hin : inL T v = true := by simp [inL]; omega
      have had : addL T v = T := by unfold addL; rw [hin]; rfl
      rw [had]
      exact ⟨_, cap, by rw [show ixL T v = i by omega], hg, But.refl _ _, .inl rfl⟩
    first | (simp only [decide_eq_true_eq, decide_eq_false_iff_not, Bool.not_eq_true', Bool.not_eq_false', ne_eq, Decidable.not_not, Bool.not_eq_true, Bool.not_eq_false] at q18) | (dsimp only at q18) | skip
    refine At.region rfl rfl ?_
    refine Reg.pur rfl rfl rfl rfl (Pur.mv rfl) ?_
    first | refine Reg.pur rfl rfl rfl rfl (Pur.add64 rfl rfl (by omega)) ?_ | refine Reg.pur rfl rfl rfl rfl (Pur.add64 rfl rfl (by assumption)) ?_ | refine Reg.pur rfl rfl rfl rfl (Pur.add rfl rfl) ?_
    refine Reg.pur rfl rfl rfl rfl (Pur.asg rfl) ?_
    refine Reg.nil ?_
    rw [if_neg q18] at hgo
    exact At.via (ih (i + 1) _ ⟨by omega, rfl, by omega⟩ (by omega)) ⟨rfl, rfl, rfl, trivial⟩
  first | (simp only [decide_eq_true_eq, decide_eq_false_iff_not, Bool.not_eq_true', Bool.not_eq_false', ne_eq, Decidable.not_not, Bool.not_eq_true, Bool.not_eq_false] at q10) | (dsimp only at q10) | skip
  rw [ix_end (by omega)] at hgo
  have hni : inL T v = false := by simp [inL]; omega
  have had : addL T v = T ++ [v] := by unfold addL; rw [hni]; rfl
  refine At.region rfl rfl ?_
  refine Reg.pur rfl rfl rfl rfl (Pur.mv rfl) ?_
  refine Reg.pur rfl rfl rfl rfl (Pur.mv rfl) ?_
  refine Reg.op rfl rfl rfl rfl (Does.bsl1T sl1_50 Tryd.underlying50 rfl rfl rfl rfl rfl) ?_
  rintro _ H6_2 ⟨rfl, hp6_2⟩
  have hn6_2 := New.of_eq hp6_2
  have z6_2 := hn6_2.size
  replace hg := hg.ext hn6_2.ext
  have o6_2 := hn6_2.own
  refine Reg.op rfl rfl rfl rfl (Does.appL apt50 rfl rfl (by decide) hg (wide1 _) (sl_new (L := [v]) (wide1 _) (by decide) hn6_2 (by simp)) (ones_e1 _) (by simp; omega) (by omega)) ?_
  rintro _ H6_3 ⟨A6_3, cap6_3, rfl, g6_3, hbut6_3, ha6_3⟩
  have z6_3 := hbut6_3.lt
  replace o6_2 := o6_2.via hbut6_3 (by first | omega | (intro g; omega) | (intro g hg; omega) | (intro g hg h; omega))
  replace hg := g6_3
  have zg6_3 := g6_3.lt
  refine Reg.pur rfl rfl rfl rfl (Pur.asg rfl) ?_
  refine Reg.nil ?_
  refine At.region rfl rfl ?_
  refine Reg.pur rfl rfl rfl rfl (Pur.mv rfl) ?_
  refine Reg.pur rfl rfl rfl rfl (Pur.mv rfl) ?_
  refine Reg.pur rfl rfl rfl rfl (Pur.lenS isl50 rfl) ?_
  refine Reg.pur rfl rfl rfl rfl (Pur.sub64 rfl rfl (by simp; omega)) ?_
  refine Reg.pur rfl rfl rfl rfl (Pur.asg rfl) ?_
  refine Reg.pur rfl rfl rfl rfl (Pur.asg rfl) ?_
  refine Reg.nil ?_
  refine At.ret rfl Tryd.func101 rfl ?_
  rw [had]
  exact ⟨A6_3, cap6_3, by rw [show ixL T v = T.length by omega]; simp [tupl], hg, (hn6_2.ext.but (S := fun g => (g : Int) = ob A)).trans hbut6_3, by omega⟩
theorem nm_row {nb B c1 c2 : Nat} {A1 A2 : Option Addr} {T R : List Int} (v : Int) {H : Heap} (h : Nm H nb B A1 c1 T A2 c2 R) (hm : R.length ≤ 1000000) :
    Ret Tryd.prog 76 [ptr nb 0, I v] H (fun r H' => r = I (ixL R v) ∧ ∃ A2' c2', Nm H' nb B A1 c1 T A2' c2' (addL R v) ∧ Mod nb A1 A2 A1 A2' H H') := by
  obtain ⟨ho, hg1, hg2, hd1, hd2, hd3, hlo⟩ := h
  have z1 := hg1.lt
  have z2 := hg2.lt
  have hnb := ho.lt
  refine Ret.of_at (N := 21) Tryd.call76 Tryd.func76 rfl rfl rfl ?_
  have hE := Ext.refl H
  have z_ho := ho.lt
  have z_hg1 := hg1.lt
  refine At.region rfl rfl ?_
  refine Reg.pur rfl rfl rfl rfl (Pur.asg rfl) ?_
  refine Reg.nil ?_
  refine At.region rfl rfl ?_
  refine Reg.pur rfl rfl rfl rfl (Pur.mv rfl) ?_
  refine Reg.pur rfl rfl rfl rfl (Pur.nilc rfl) ?_
  refine Reg.pur rfl rfl rfl rfl (Pur.fld _ fo91_1 rfl) ?_
  refine Reg.lod rfl rfl rfl rfl (Lod.ld sc50 rfl ho.blk rfl) ?_
  refine Reg.pur rfl rfl rfl rfl (Pur.mv rfl) ?_
  refine Reg.op rfl rfl rfl rfl (Does.call rfl (at_ok R v hg2 hlo hm)) ?_
  rintro _ H1_5 ⟨A', cap', rfl, hg1_5, hbut1_5, ha1_5⟩
  have z1_5 := hbut1_5.lt
  replace ho := ho.via hbut1_5 (by first | omega | (intro g; omega) | (intro g hg; omega) | (intro g hg h; omega))
  replace hg1 := hg1.via hbut1_5 (by first | omega | (intro g; omega) | (intro g hg; omega) | (intro g hg h; omega))
  have z_hg1_5 := hg1_5.lt
  refine Reg.pur rfl rfl rfl rfl (Pur.mv rfl) ?_
  refine Reg.pur rfl rfl rfl rfl (Pur.ext rfl rfl) ?_
  refine Reg.pur rfl rfl rfl rfl (Pur.ext rfl rfl) ?_
  refine Reg.pur rfl rfl rfl rfl (Pur.asg rfl) ?_
  refine Reg.pur rfl rfl rfl rfl (Pur.asg rfl) ?_
  refine Reg.nil ?_
  refine At.region rfl rfl ?_
  refine Reg.pur rfl rfl rfl rfl (Pur.mv rfl) ?_
  refine Reg.pur rfl rfl rfl rfl (Pur.mv rfl) ?_
  refine Reg.pur rfl rfl rfl rfl (Pur.nilc rfl) ?_
  refine Reg.pur rfl rfl rfl rfl (Pur.fld _ fo91_1 rfl) ?_
  refine Reg.op0 rfl rfl rfl (Does.st sc50 rfl rfl rfl ho (by simp)) ?_
  rintro _ H2_4 hu2_4
  have z2_4 := hu2_4.size
  replace hg1 := hg1.upw hu2_4 (by omega)
  replace hg1_5 := hg1_5.upw hu2_4 (by omega)
  replace ho := hu2_4.own
  refine Reg.nil ?_
  refine At.region rfl rfl ?_
  refine Reg.pur rfl rfl rfl rfl (Pur.mv rfl) ?_
  refine Reg.pur rfl rfl rfl rfl (Pur.asg rfl) ?_
  refine Reg.nil ?_
  refine At.ret rfl Tryd.func76 rfl ?_
  refine ⟨rfl, A', cap', ⟨ho, hg1, hg1_5, by omega, hd2, by omega, by omega⟩, ⟨(hbut1_5.mono (fun b hb h => Or.inr (Or.inr h))).trans (hu2_4.but.mono (fun b hb h => Or.inl h)), .inl rfl, by omega⟩⟩
end Go.Proofs.YtlfillhffpiffaaDoor

namespace Go.Proofs.YtlfillhffpiffaaDoor
set_option linter.unusedSimpArgs false
set_option linter.unusedVariables false
set_option maxRecDepth 8000
open Go Go.Fx Go.Proofs
namespace FactsSchD
theorem fo24_1 : foff Tryd.prog 24 1 = some 4 := by kernel_rfl
theorem fo65_1 : foff Tryd.prog 65 1 = some 1 := by kernel_rfl
theorem mixed : Tryd.prog.follows .mixedOrders = true := by kernel_rfl
theorem sc3 : sc Tryd.prog 3 = true := by kernel_rfl
end FactsSchD
open FactsSchD

end Go.Proofs.YtlfillhffpiffaaDoor

namespace Go.Proofs.YtlfillhffpiffaaDoor
set_option linter.unusedSimpArgs false
set_option linter.unusedVariables false
set_option maxRecDepth 8000
open Go Go.Fx Go.Proofs
namespace FactsSchE
theorem es53 : esz Tryd.prog 53 = some 9 := by kernel_rfl
theorem fo55_0 : foff Tryd.prog 55 0 = some 0 := by kernel_rfl
theorem isl53 : isSl Tryd.prog 53 = true := by kernel_rfl
theorem sc3 : sc Tryd.prog 3 = true := by kernel_rfl
theorem sc53 : sc Tryd.prog 53 = true := by kernel_rfl
end FactsSchE
open FactsSchE

end Go.Proofs.YtlfillhffpiffaaDoor

namespace Go.Proofs.YtlfillhffpiffaaDoor
set_option linter.unusedSimpArgs false
set_option linter.unusedVariables false
set_option maxRecDepth 8000
open Go Go.Fx Go.Proofs
namespace FactsSchF
theorem ag55 : ag Tryd.prog 55 = some 1 := by kernel_rfl
theorem ag65 : ag Tryd.prog 65 = some 9 := by kernel_rfl
theorem es53 : esz Tryd.prog 53 = some 9 := by kernel_rfl
theorem fo24_1 : foff Tryd.prog 24 1 = some 4 := by kernel_rfl
theorem fo55_0 : foff Tryd.prog 55 0 = some 0 := by kernel_rfl
theorem fo65_1 : foff Tryd.prog 65 1 = some 1 := by kernel_rfl
theorem fo91_1 : foff Tryd.prog 91 1 = some 1 := by kernel_rfl
theorem isl53 : isSl Tryd.prog 53 = true := by kernel_rfl
theorem mixed : Tryd.prog.follows .mixedOrders = true := by kernel_rfl
theorem pl91 : places Tryd.prog 91 = some [(0, 1), (1, 1)] := by kernel_rfl
theorem sc3 : sc Tryd.prog 3 = true := by kernel_rfl
theorem sc50 : sc Tryd.prog 50 = true := by kernel_rfl
theorem sc53 : sc Tryd.prog 53 = true := by kernel_rfl
theorem zc91 : zc Tryd.prog 91 = some [.slice none 0 0, .slice none 0 0] := by kernel_rfl
end FactsSchF
open FactsSchF

theorem nm_new {H H' : Heap} {B : Nat} (h : Own H' H.size [.slice none 0 0, .slice none 0 0]) (hB : B ≤ H'.size) : Nm H' H.size B none 0 [] none 0 [] :=
  ⟨h, OwnS.nilG, OwnS.nilG, .inl rfl, by rw [ob_none]; omega, by rw [ob_none]; omega, hB⟩
theorem mod_ext {nb : Nat} {A1' A2' : Option Addr} {H0 H H' : Heap} (h : Mod nb none none A1' A2' H H') (hE : Ext H0 H) (hn : H0.size ≤ nb) : Ext H0 H' :=
  hE.via h.1 (fun g hg hS => by rw [ob_none] at hS; omega)
end Go.Proofs.YtlfillhffpiffaaDoor

namespace Go.Proofs.YtlfillhffpiffaaDoor
set_option linter.unusedSimpArgs false
set_option linter.unusedVariables false
set_option maxRecDepth 8000
open Go Go.Fx Go.Proofs
namespace FactsSchG

end FactsSchG
open FactsSchG

def cs (b : Bool) : Int := if b then 0 else 1200
end Go.Proofs.YtlfillhffpiffaaDoor

namespace Go.Proofs.YtlfillhffpiffaaDoor
set_option linter.unusedSimpArgs false
set_option linter.unusedVariables false
set_option maxRecDepth 8000
open Go Go.Fx Go.Proofs
namespace FactsSubK
theorem ag24 : ag Tryd.prog 24 = some 5 := by kernel_rfl
theorem ag55 : ag Tryd.prog 55 = some 1 := by kernel_rfl
theorem ag65 : ag Tryd.prog 65 = some 9 := by kernel_rfl
theorem es50 : esz Tryd.prog 50 = some 1 := by kernel_rfl
theorem es53 : esz Tryd.prog 53 = some 9 := by kernel_rfl
theorem fo55_0 : foff Tryd.prog 55 0 = some 0 := by kernel_rfl
theorem fo57_2 : foff Tryd.prog 57 2 = some 2 := by kernel_rfl
theorem fo65_1 : foff Tryd.prog 65 1 = some 1 := by kernel_rfl
theorem isl53 : isSl Tryd.prog 53 = true := by kernel_rfl
theorem mixed : Tryd.prog.follows .mixedOrders = true := by kernel_rfl
theorem sc3 : sc Tryd.prog 3 = true := by kernel_rfl
theorem sc53 : sc Tryd.prog 53 = true := by kernel_rfl
theorem zc24 : zc Tryd.prog 24 = some [.int .i64 0, .int .i64 0, .int .i64 0, .int .i64 0, .int .i64 0] := by kernel_rfl
end FactsSubK
open FactsSubK

end Go.Proofs.YtlfillhffpiffaaDoor

namespace Go.Proofs.YtlfillhffpiffaaDoor
set_option linter.unusedSimpArgs false
set_option linter.unusedVariables false
set_option maxRecDepth 8000
open Go Go.Fx Go.Proofs
namespace FactsSubM
theorem ag55 : ag Tryd.prog 55 = some 1 := by kernel_rfl
end FactsSubM
open FactsSubM

end Go.Proofs.YtlfillhffpiffaaDoor

namespace Go.Proofs.YtlfillhffpiffaaDoor
set_option linter.unusedSimpArgs false
set_option linter.unusedVariables false
set_option maxRecDepth 8000
open Go Go.Fx Go.Proofs
namespace FactsSubN
theorem ag24 : ag Tryd.prog 24 = some 5 := by kernel_rfl
theorem ag55 : ag Tryd.prog 55 = some 1 := by kernel_rfl
theorem eqt24 : eqT Tryd.prog 24 = some [.int .i64, .int .i64, .int .i64, .int .i64, .int .i64] := by kernel_rfl
theorem es25 : esz Tryd.prog 25 = some 8 := by kernel_rfl
theorem fo57_0 : foff Tryd.prog 57 0 = some 0 := by kernel_rfl
theorem fo57_1 : foff Tryd.prog 57 1 = some 1 := by kernel_rfl
theorem fo57_2 : foff Tryd.prog 57 2 = some 2 := by kernel_rfl
theorem fo57_3 : foff Tryd.prog 57 3 = some 3 := by kernel_rfl
theorem isl25 : isSl Tryd.prog 25 = true := by kernel_rfl
theorem mixed : Tryd.prog.follows .mixedOrders = true := by kernel_rfl
theorem sc3 : sc Tryd.prog 3 = true := by kernel_rfl
theorem sc4 : sc Tryd.prog 4 = true := by kernel_rfl
end FactsSubN
open FactsSubN

def pl (b : Bd) : Int × Bool × List (List Int) × List Int := (b.var, b.isRow, b.nodes, b.row)
theorem take1_map {α β : Type} {f : α → β} {L L' : List α} {i : Nat} (h : i < L.length) (h' : i < L'.length) (hp : (L.take i).map f = (L'.take i).map f) (hx : f L[i] = f L'[i]) : (L.take (i + 1)).map f = (L'.take (i + 1)).map f := by
  rw [List.take_succ_eq_append_getElem h, List.take_succ_eq_append_getElem h', List.map_append, List.map_append, hp, List.map_cons, List.map_cons, hx]
theorem ne_at {α β : Type} {f : α → β} {L L' : List α} {i : Nat} (h : i < L.length) (h' : i < L'.length) (hx : f L[i] ≠ f L'[i]) : L.map f ≠ L'.map f := by
  intro e
  have := congrArg (fun l => l[i]?) e
  simp [h, h'] at this
  exact hx this

theorem sameBinds_ok {A A' : Option Addr} {cap cap' : Nat} {Bs Cs : List Bd} {H : Heap} (hB : Bds H (.slice A Bs.length cap) Bs) (hC : Bds H (.slice A' Cs.length cap') Cs) :
    Ret Tryd.prog 24 [.slice A Bs.length cap, .slice A' Cs.length cap'] H (fun v H' => v = .bool (decide (Bs.map pl = Cs.map pl)) ∧ Ext H H') := by
  have hbl := hB.fits
  refine Ret.of_at (N := 68) Tryd.call24 Tryd.func24 rfl rfl rfl ?_
  have hE := Ext.refl H
  refine At.region rfl rfl ?_
  refine Reg.pur rfl rfl rfl rfl (Pur.asg rfl) ?_
  refine Reg.nil ?_
  refine At.region rfl rfl ?_
  refine Reg.pur rfl rfl rfl rfl (Pur.mv rfl) ?_
  refine Reg.pur rfl rfl rfl rfl (Pur.lenS isl25 rfl) ?_
  refine Reg.pur rfl rfl rfl rfl (Pur.mv rfl) ?_
  refine Reg.pur rfl rfl rfl rfl (Pur.lenS isl25 rfl) ?_
  refine Reg.pur rfl rfl rfl rfl (Pur.neq rfl rfl) ?_
  refine Reg.nil ?_
  refine At.cond rfl rfl (fun q10 => ?_) (fun q10 => ?_)
  · first | (simp only [decide_eq_true_eq, decide_eq_false_iff_not, Bool.not_eq_true', Bool.not_eq_false', ne_eq, Decidable.not_not, Bool.not_eq_true, Bool.not_eq_false] at q10) | (dsimp only at q10) | skip
    refine At.region rfl rfl ?_
    refine Reg.pur rfl rfl rfl rfl (Pur.asg rfl) ?_
    refine Reg.nil ?_
    refine At.ret rfl Tryd.func24 rfl ?_
    exact ⟨congrArg Value.bool (decide_eq_false fun e => by have := congrArg List.length e; simp only [List.length_map] at this; omega).symm, hE⟩
  first | (simp only [decide_eq_true_eq, decide_eq_false_iff_not, Bool.not_eq_true', Bool.not_eq_false', ne_eq, Decidable.not_not, Bool.not_eq_true, Bool.not_eq_false] at q10) | (dsimp only at q10) | skip
  refine At.region rfl rfl ?_
  refine Reg.pur rfl rfl rfl rfl (Pur.asg rfl) ?_
  refine Reg.nil ?_
  have hll : Bs.length = Cs.length := by omega
  refine At.loop (σ := Nat) (fun i => [(5, I i), (0, .slice A Bs.length cap), (1, .slice A' Cs.length cap')]) (fun i H' => i ≤ Bs.length ∧ (Bs.take i).map pl = (Cs.take i).map pl ∧ Ext H H') (fun i => Bs.length - i) 0 rfl ⟨rfl, rfl, rfl, trivial⟩ ⟨by omega, rfl, hE⟩ ?_
  rintro i H3 ⟨hi, hmap, hE⟩ ih
  have z_hE := hE.lt
  refine At.region rfl rfl ?_
  refine Reg.pur rfl rfl rfl rfl (Pur.mv rfl) ?_
  refine Reg.pur rfl rfl rfl rfl (Pur.mv rfl) ?_
  refine Reg.pur rfl rfl rfl rfl (Pur.lenS isl25 rfl) ?_
  refine Reg.pur rfl rfl rfl rfl (Pur.lss rfl rfl) ?_
  refine Reg.nil ?_
  refine At.cond rfl rfl (fun q14 => ?_) (fun q14 => ?_)
  · first | (simp only [decide_eq_true_eq, decide_eq_false_iff_not, Bool.not_eq_true', Bool.not_eq_false', ne_eq, Decidable.not_not, Bool.not_eq_true, Bool.not_eq_false] at q14) | (dsimp only at q14) | skip
    have hlt : i < Bs.length := by omega
    have hlt' : i < Cs.length := by omega
    obtain ⟨b, o, c, rfl, hB0, hd, _⟩ := (hB.ext hE).at hlt
    obtain ⟨b', o', c', rfl, hB0', hd', _⟩ := (hC.ext hE).at hlt'
    have hok := hB.ok _ (List.getElem_mem hlt)
    have hok' := hC.ok _ (List.getElem_mem hlt')
    have hgo := take1_map hlt hlt' hmap
    have hne := ne_at (f := pl) hlt hlt'
    generalize Bs[i] = bd at hd hok hgo hne
    generalize Cs[i] = bd' at hd' hok' hgo hne
    have hr := hok.row
    have hr' := hok'.row
    have hf := fks_ints .i64 bd.row
    have hf' := fks_ints .i64 bd'.row
    rw [hr] at hf
    rw [hr'] at hf'
    have hq := eqs_ints .i64 bd.row bd'.row
    have z_hB0 := hB0.lt
    have z_hB0' := hB0'.lt
    refine At.drawE ((Bks.cons hB0.blk (Bks.cons hB0'.blk Bks.nil))) [] mixed rfl rfl ?_
    refine RegD.tpur (i := 0) rfl rfl rfl rfl (by kernel_rfl) (Pur.mv rfl) ?_
    refine RegD.tpur (i := 1) rfl rfl rfl rfl (by kernel_rfl) (Pur.mv rfl) ?_
    refine RegD.tpur (i := 2) rfl rfl rfl rfl (by kernel_rfl) (Pur.idx _ es25 rfl rfl (by omega) (by omega)) ?_
    refine RegD.tpur (i := 3) rfl rfl rfl rfl (by kernel_rfl) (Pur.fld _ fo57_0 rfl) ?_
    refine RegD.take (i := 4) rfl rfl rfl rfl (by kernel_rfl) (Bks.cons hB0.blk (Bks.cons hB0'.blk Bks.nil)) (fun H hS => Lod.ld sc3 rfl hS.hd (at_tk (j := 0) hd (by decide) rfl)) ?_
    refine RegD.tpur (i := 5) rfl rfl rfl rfl (by kernel_rfl) (Pur.mv rfl) ?_
    refine RegD.tpur (i := 6) rfl rfl rfl rfl (by kernel_rfl) (Pur.mv rfl) ?_
    refine RegD.tpur (i := 7) rfl rfl rfl rfl (by kernel_rfl) (Pur.idx _ es25 rfl rfl (by omega) (by omega)) ?_
    refine RegD.tpur (i := 8) rfl rfl rfl rfl (by kernel_rfl) (Pur.fld _ fo57_0 rfl) ?_
    refine RegD.take (i := 9) rfl rfl rfl rfl (by kernel_rfl) (Bks.cons hB0.blk (Bks.cons hB0'.blk Bks.nil)) (fun H hS => Lod.ld sc3 rfl hS.tl.hd (at_tk (j := 0) hd' (by decide) rfl)) ?_
    refine RegD.tpur (i := 10) rfl rfl rfl rfl (by kernel_rfl) (Pur.neq rfl rfl) ?_
    refine RegD.tpur (i := 11) rfl rfl rfl rfl (by kernel_rfl) (Pur.mv rfl) ?_
    refine RegD.case 28 rfl (fun q28 => ?_) (fun q28 => ?_)
    · first | (simp only [decide_eq_true_eq, decide_eq_false_iff_not, Bool.not_eq_true', Bool.not_eq_false', ne_eq, Decidable.not_not, Bool.not_eq_true, Bool.not_eq_false] at q28) | (dsimp only at q28) | skip
      refine RegD.skip (i := 12) rfl rfl rfl rfl rfl rfl rfl (by kernel_rfl) ?_
      refine RegD.skip (i := 13) rfl rfl rfl rfl rfl rfl rfl (by kernel_rfl) ?_
      refine RegD.skip (i := 14) rfl rfl rfl rfl rfl rfl rfl (by kernel_rfl) ?_
      refine RegD.skip (i := 15) rfl rfl rfl rfl rfl rfl rfl (by kernel_rfl) ?_
      refine RegD.skip (i := 16) rfl rfl rfl rfl rfl rfl rfl (by kernel_rfl) ?_
      refine RegD.skip (i := 17) rfl rfl rfl rfl rfl rfl rfl (by kernel_rfl) ?_
      refine RegD.skip (i := 18) rfl rfl rfl rfl rfl rfl rfl (by kernel_rfl) ?_
      refine RegD.skip (i := 19) rfl rfl rfl rfl rfl rfl rfl (by kernel_rfl) ?_
      refine RegD.skip (i := 20) rfl rfl rfl rfl rfl rfl rfl (by kernel_rfl) ?_
      refine RegD.skip (i := 21) rfl rfl rfl rfl rfl rfl rfl (by kernel_rfl) ?_
      refine RegD.skip (i := 22) rfl rfl rfl rfl rfl rfl rfl (by kernel_rfl) ?_
      refine RegD.tpur (i := 23) rfl rfl rfl rfl (by kernel_rfl) (Pur.pickT rfl rfl) ?_
      refine RegD.tpur (i := 24) rfl rfl rfl rfl (by kernel_rfl) (Pur.mv rfl) ?_
      refine RegD.skip (i := 25) rfl rfl rfl rfl rfl rfl rfl (by kernel_rfl) ?_
      refine RegD.skip (i := 26) rfl rfl rfl rfl rfl rfl rfl (by kernel_rfl) ?_
      refine RegD.skip (i := 27) rfl rfl rfl rfl rfl rfl rfl (by kernel_rfl) ?_
      refine RegD.skip (i := 28) rfl rfl rfl rfl rfl rfl rfl (by kernel_rfl) ?_
      refine RegD.skip (i := 29) rfl rfl rfl rfl rfl rfl rfl (by kernel_rfl) ?_
      refine RegD.skip (i := 30) rfl rfl rfl rfl rfl rfl rfl (by kernel_rfl) ?_
      refine RegD.skip (i := 31) rfl rfl rfl rfl rfl rfl rfl (by kernel_rfl) ?_
      refine RegD.skip (i := 32) rfl rfl rfl rfl rfl rfl rfl (by kernel_rfl) ?_
      refine RegD.skip (i := 33) rfl rfl rfl rfl rfl rfl rfl (by kernel_rfl) ?_
      refine RegD.skip (i := 34) rfl rfl rfl rfl rfl rfl rfl (by kernel_rfl) ?_
      refine RegD.skip (i := 35) rfl rfl rfl rfl rfl rfl rfl (by kernel_rfl) ?_
      refine RegD.tpur (i := 36) rfl rfl rfl rfl (by kernel_rfl) (Pur.pickT rfl rfl) ?_
      refine RegD.tpur (i := 37) rfl rfl rfl rfl (by kernel_rfl) (Pur.mv rfl) ?_
      refine RegD.skip (i := 38) rfl rfl rfl rfl rfl rfl rfl (by kernel_rfl) ?_
      refine RegD.skip (i := 39) rfl rfl rfl rfl rfl rfl rfl (by kernel_rfl) ?_
      refine RegD.skip (i := 40) rfl rfl rfl rfl rfl rfl rfl (by kernel_rfl) ?_
      refine RegD.skip (i := 41) rfl rfl rfl rfl rfl rfl rfl (by kernel_rfl) ?_
      refine RegD.skip (i := 42) rfl rfl rfl rfl rfl rfl rfl (by kernel_rfl) ?_
      refine RegD.skip (i := 43) rfl rfl rfl rfl rfl rfl rfl (by kernel_rfl) ?_
      refine RegD.skip (i := 44) rfl rfl rfl rfl rfl rfl rfl (by kernel_rfl) ?_
      refine RegD.skip (i := 45) rfl rfl rfl rfl rfl rfl rfl (by kernel_rfl) ?_
      refine RegD.skip (i := 46) rfl rfl rfl rfl rfl rfl rfl (by kernel_rfl) ?_
      refine RegD.skip (i := 47) rfl rfl rfl rfl rfl rfl rfl (by kernel_rfl) ?_
      refine RegD.skip (i := 48) rfl rfl rfl rfl rfl rfl rfl (by kernel_rfl) ?_
      refine RegD.skip (i := 49) rfl rfl rfl rfl rfl rfl rfl (by kernel_rfl) ?_
      refine RegD.tpur (i := 50) rfl rfl rfl rfl (by kernel_rfl) (Pur.pickT rfl rfl) ?_
      refine RegD.done (by kernel_rfl) ?_
      refine At.condT rfl rfl rfl ?_
      refine At.region rfl rfl ?_
      refine Reg.pur rfl rfl rfl rfl (Pur.asg rfl) ?_
      refine Reg.nil ?_
      refine At.ret rfl Tryd.func24 rfl ?_
      refine ⟨congrArg Value.bool (decide_eq_false (hne ?_)).symm, hE⟩
      intro e
      simp only [pl, Prod.mk.injEq] at e
      obtain ⟨e1, e2, e3, e4⟩ := e
      first | exact q28 e1 | (rw [e2] at q41; simp at q41; done) | (rw [hq, e4] at q54; simp at q54; done) | exact q67 e3
    first | (simp only [decide_eq_true_eq, decide_eq_false_iff_not, Bool.not_eq_true', Bool.not_eq_false', ne_eq, Decidable.not_not, Bool.not_eq_true, Bool.not_eq_false] at q28) | (dsimp only at q28) | skip
    refine RegD.gtpur (i := 12) rfl rfl rfl rfl rfl rfl (by kernel_rfl) (Pur.mv rfl) ?_
    refine RegD.gtpur (i := 13) rfl rfl rfl rfl rfl rfl (by kernel_rfl) (Pur.mv rfl) ?_
    refine RegD.gtpur (i := 14) rfl rfl rfl rfl rfl rfl (by kernel_rfl) (Pur.idx _ es25 rfl rfl (by omega) (by omega)) ?_
    refine RegD.gtpur (i := 15) rfl rfl rfl rfl rfl rfl (by kernel_rfl) (Pur.fld _ fo57_1 rfl) ?_
    refine RegD.gtake (i := 16) rfl rfl rfl rfl rfl rfl (by kernel_rfl) (Bks.cons hB0.blk (Bks.cons hB0'.blk Bks.nil)) (fun H hS => Lod.ld sc4 rfl hS.hd (at_tk (j := 1) hd (by decide) rfl)) ?_
    refine RegD.gtpur (i := 17) rfl rfl rfl rfl rfl rfl (by kernel_rfl) (Pur.mv rfl) ?_
    refine RegD.gtpur (i := 18) rfl rfl rfl rfl rfl rfl (by kernel_rfl) (Pur.mv rfl) ?_
    refine RegD.gtpur (i := 19) rfl rfl rfl rfl rfl rfl (by kernel_rfl) (Pur.idx _ es25 rfl rfl (by omega) (by omega)) ?_
    refine RegD.gtpur (i := 20) rfl rfl rfl rfl rfl rfl (by kernel_rfl) (Pur.fld _ fo57_1 rfl) ?_
    refine RegD.gtake (i := 21) rfl rfl rfl rfl rfl rfl (by kernel_rfl) (Bks.cons hB0.blk (Bks.cons hB0'.blk Bks.nil)) (fun H hS => Lod.ld sc4 rfl hS.tl.hd (at_tk (j := 1) hd' (by decide) rfl)) ?_
    refine RegD.gtpur (i := 22) rfl rfl rfl rfl rfl rfl (by kernel_rfl) (Pur.neB Tryd.underlying4 rfl rfl) ?_
    refine RegD.tpur (i := 23) rfl rfl rfl rfl (by kernel_rfl) (Pur.pickF rfl rfl) ?_
    refine RegD.tpur (i := 24) rfl rfl rfl rfl (by kernel_rfl) (Pur.mv rfl) ?_
    refine RegD.case 41 rfl (fun q41 => ?_) (fun q41 => ?_)
    · first | (simp only [decide_eq_true_eq, decide_eq_false_iff_not, Bool.not_eq_true', Bool.not_eq_false', ne_eq, Decidable.not_not, Bool.not_eq_true, Bool.not_eq_false] at q41) | (dsimp only at q41) | skip
      refine RegD.skip (i := 25) rfl rfl rfl rfl rfl rfl rfl (by kernel_rfl) ?_
      refine RegD.skip (i := 26) rfl rfl rfl rfl rfl rfl rfl (by kernel_rfl) ?_
      refine RegD.skip (i := 27) rfl rfl rfl rfl rfl rfl rfl (by kernel_rfl) ?_
      refine RegD.skip (i := 28) rfl rfl rfl rfl rfl rfl rfl (by kernel_rfl) ?_
      refine RegD.skip (i := 29) rfl rfl rfl rfl rfl rfl rfl (by kernel_rfl) ?_
      refine RegD.skip (i := 30) rfl rfl rfl rfl rfl rfl rfl (by kernel_rfl) ?_
      refine RegD.skip (i := 31) rfl rfl rfl rfl rfl rfl rfl (by kernel_rfl) ?_
      refine RegD.skip (i := 32) rfl rfl rfl rfl rfl rfl rfl (by kernel_rfl) ?_
      refine RegD.skip (i := 33) rfl rfl rfl rfl rfl rfl rfl (by kernel_rfl) ?_
      refine RegD.skip (i := 34) rfl rfl rfl rfl rfl rfl rfl (by kernel_rfl) ?_
      refine RegD.skip (i := 35) rfl rfl rfl rfl rfl rfl rfl (by kernel_rfl) ?_
      refine RegD.tpur (i := 36) rfl rfl rfl rfl (by kernel_rfl) (Pur.pickT rfl rfl) ?_
      refine RegD.tpur (i := 37) rfl rfl rfl rfl (by kernel_rfl) (Pur.mv rfl) ?_
      refine RegD.skip (i := 38) rfl rfl rfl rfl rfl rfl rfl (by kernel_rfl) ?_
      refine RegD.skip (i := 39) rfl rfl rfl rfl rfl rfl rfl (by kernel_rfl) ?_
      refine RegD.skip (i := 40) rfl rfl rfl rfl rfl rfl rfl (by kernel_rfl) ?_
      refine RegD.skip (i := 41) rfl rfl rfl rfl rfl rfl rfl (by kernel_rfl) ?_
      refine RegD.skip (i := 42) rfl rfl rfl rfl rfl rfl rfl (by kernel_rfl) ?_
      refine RegD.skip (i := 43) rfl rfl rfl rfl rfl rfl rfl (by kernel_rfl) ?_
      refine RegD.skip (i := 44) rfl rfl rfl rfl rfl rfl rfl (by kernel_rfl) ?_
      refine RegD.skip (i := 45) rfl rfl rfl rfl rfl rfl rfl (by kernel_rfl) ?_
      refine RegD.skip (i := 46) rfl rfl rfl rfl rfl rfl rfl (by kernel_rfl) ?_
      refine RegD.skip (i := 47) rfl rfl rfl rfl rfl rfl rfl (by kernel_rfl) ?_
      refine RegD.skip (i := 48) rfl rfl rfl rfl rfl rfl rfl (by kernel_rfl) ?_
      refine RegD.skip (i := 49) rfl rfl rfl rfl rfl rfl rfl (by kernel_rfl) ?_
      refine RegD.tpur (i := 50) rfl rfl rfl rfl (by kernel_rfl) (Pur.pickT rfl rfl) ?_
      refine RegD.done (by kernel_rfl) ?_
      refine At.condT rfl rfl rfl ?_
      refine At.region rfl rfl ?_
      refine Reg.pur rfl rfl rfl rfl (Pur.asg rfl) ?_
      refine Reg.nil ?_
      refine At.ret rfl Tryd.func24 rfl ?_
      refine ⟨congrArg Value.bool (decide_eq_false (hne ?_)).symm, hE⟩
      intro e
      simp only [pl, Prod.mk.injEq] at e
      obtain ⟨e1, e2, e3, e4⟩ := e
      first | exact q28 e1 | (rw [e2] at q41; simp at q41; done) | (rw [hq, e4] at q54; simp at q54; done) | exact q67 e3
    first | (simp only [decide_eq_true_eq, decide_eq_false_iff_not, Bool.not_eq_true', Bool.not_eq_false', ne_eq, Decidable.not_not, Bool.not_eq_true, Bool.not_eq_false] at q41) | (dsimp only at q41) | skip
    refine RegD.gtpur (i := 25) rfl rfl rfl rfl rfl rfl (by kernel_rfl) (Pur.mv rfl) ?_
    refine RegD.gtpur (i := 26) rfl rfl rfl rfl rfl rfl (by kernel_rfl) (Pur.mv rfl) ?_
    refine RegD.gtpur (i := 27) rfl rfl rfl rfl rfl rfl (by kernel_rfl) (Pur.idx _ es25 rfl rfl (by omega) (by omega)) ?_
    refine RegD.gtpur (i := 28) rfl rfl rfl rfl rfl rfl (by kernel_rfl) (Pur.fld _ fo57_3 rfl) ?_
    refine RegD.gtake (i := 29) rfl rfl rfl rfl rfl rfl (by kernel_rfl) (Bks.cons hB0.blk (Bks.cons hB0'.blk Bks.nil)) (fun H hS => Lod.ldn ag24 rfl hS.hd (show _ = Is bd.row by rw [← List.drop_drop]; exact (take_mid hd (by decide)).trans (List.take_of_length_le (by simp [hr]))) (by simp [hr])) ?_
    refine RegD.gtpur (i := 30) rfl rfl rfl rfl rfl rfl (by kernel_rfl) (Pur.mv rfl) ?_
    refine RegD.gtpur (i := 31) rfl rfl rfl rfl rfl rfl (by kernel_rfl) (Pur.mv rfl) ?_
    refine RegD.gtpur (i := 32) rfl rfl rfl rfl rfl rfl (by kernel_rfl) (Pur.idx _ es25 rfl rfl (by omega) (by omega)) ?_
    refine RegD.gtpur (i := 33) rfl rfl rfl rfl rfl rfl (by kernel_rfl) (Pur.fld _ fo57_3 rfl) ?_
    refine RegD.gtake (i := 34) rfl rfl rfl rfl rfl rfl (by kernel_rfl) (Bks.cons hB0.blk (Bks.cons hB0'.blk Bks.nil)) (fun H hS => Lod.ldn ag24 rfl hS.tl.hd (show _ = Is bd'.row by rw [← List.drop_drop]; exact (take_mid hd' (by decide)).trans (List.take_of_length_le (by simp [hr']))) (by simp [hr'])) ?_
    refine RegD.gtpur (i := 35) rfl rfl rfl rfl rfl rfl (by kernel_rfl) (Pur.neA eqt24 rfl rfl hf hf') ?_
    refine RegD.tpur (i := 36) rfl rfl rfl rfl (by kernel_rfl) (Pur.pickF rfl rfl) ?_
    refine RegD.tpur (i := 37) rfl rfl rfl rfl (by kernel_rfl) (Pur.mv rfl) ?_
    refine RegD.case 54 rfl (fun q54 => ?_) (fun q54 => ?_)
    · first | (simp only [decide_eq_true_eq, decide_eq_false_iff_not, Bool.not_eq_true', Bool.not_eq_false', ne_eq, Decidable.not_not, Bool.not_eq_true, Bool.not_eq_false] at q54) | (dsimp only at q54) | skip
      refine RegD.skip (i := 38) rfl rfl rfl rfl rfl rfl rfl (by kernel_rfl) ?_
      refine RegD.skip (i := 39) rfl rfl rfl rfl rfl rfl rfl (by kernel_rfl) ?_
      refine RegD.skip (i := 40) rfl rfl rfl rfl rfl rfl rfl (by kernel_rfl) ?_
      refine RegD.skip (i := 41) rfl rfl rfl rfl rfl rfl rfl (by kernel_rfl) ?_
      refine RegD.skip (i := 42) rfl rfl rfl rfl rfl rfl rfl (by kernel_rfl) ?_
      refine RegD.skip (i := 43) rfl rfl rfl rfl rfl rfl rfl (by kernel_rfl) ?_
      refine RegD.skip (i := 44) rfl rfl rfl rfl rfl rfl rfl (by kernel_rfl) ?_
      refine RegD.skip (i := 45) rfl rfl rfl rfl rfl rfl rfl (by kernel_rfl) ?_
      refine RegD.skip (i := 46) rfl rfl rfl rfl rfl rfl rfl (by kernel_rfl) ?_
      refine RegD.skip (i := 47) rfl rfl rfl rfl rfl rfl rfl (by kernel_rfl) ?_
      refine RegD.skip (i := 48) rfl rfl rfl rfl rfl rfl rfl (by kernel_rfl) ?_
      refine RegD.skip (i := 49) rfl rfl rfl rfl rfl rfl rfl (by kernel_rfl) ?_
      refine RegD.tpur (i := 50) rfl rfl rfl rfl (by kernel_rfl) (Pur.pickT rfl rfl) ?_
      refine RegD.done (by kernel_rfl) ?_
      refine At.condT rfl rfl rfl ?_
      refine At.region rfl rfl ?_
      refine Reg.pur rfl rfl rfl rfl (Pur.asg rfl) ?_
      refine Reg.nil ?_
      refine At.ret rfl Tryd.func24 rfl ?_
      refine ⟨congrArg Value.bool (decide_eq_false (hne ?_)).symm, hE⟩
      intro e
      simp only [pl, Prod.mk.injEq] at e
      obtain ⟨e1, e2, e3, e4⟩ := e
      first | exact q28 e1 | (rw [e2] at q41; simp at q41; done) | (rw [hq, e4] at q54; simp at q54; done) | exact q67 e3
    first | (simp only [decide_eq_true_eq, decide_eq_false_iff_not, Bool.not_eq_true', Bool.not_eq_false', ne_eq, Decidable.not_not, Bool.not_eq_true, Bool.not_eq_false] at q54) | (dsimp only at q54) | skip
    refine RegD.gtpur (i := 38) rfl rfl rfl rfl rfl rfl (by kernel_rfl) (Pur.mv rfl) ?_
    refine RegD.gtpur (i := 39) rfl rfl rfl rfl rfl rfl (by kernel_rfl) (Pur.mv rfl) ?_
    refine RegD.gtpur (i := 40) rfl rfl rfl rfl rfl rfl (by kernel_rfl) (Pur.idx _ es25 rfl rfl (by omega) (by omega)) ?_
    refine RegD.gtpur (i := 41) rfl rfl rfl rfl rfl rfl (by kernel_rfl) (Pur.fld _ fo57_2 rfl) ?_
    refine RegD.gtake (i := 42) rfl rfl rfl rfl rfl rfl (by kernel_rfl) (Bks.cons hB0.blk (Bks.cons hB0'.blk Bks.nil)) (fun H hS => Lod.ldn ag55 rfl hS.hd (show _ = [bd.sl] by rw [← List.drop_drop]; exact (take_mid hd (by decide)).trans rfl) rfl) ?_
    refine RegD.gtpur (i := 43) rfl rfl rfl rfl rfl rfl (by kernel_rfl) (Pur.mv rfl) ?_
    refine RegD.gtpur (i := 44) rfl rfl rfl rfl rfl rfl (by kernel_rfl) (Pur.mv rfl) ?_
    refine RegD.gtpur (i := 45) rfl rfl rfl rfl rfl rfl (by kernel_rfl) (Pur.idx _ es25 rfl rfl (by omega) (by omega)) ?_
    refine RegD.gtpur (i := 46) rfl rfl rfl rfl rfl rfl (by kernel_rfl) (Pur.fld _ fo57_2 rfl) ?_
    refine RegD.gtake (i := 47) rfl rfl rfl rfl rfl rfl (by kernel_rfl) (Bks.cons hB0.blk (Bks.cons hB0'.blk Bks.nil)) (fun H hS => Lod.ldn ag55 rfl hS.tl.hd (show _ = [bd'.sl] by rw [← List.drop_drop]; exact (take_mid hd' (by decide)).trans rfl) rfl) ?_
    refine RegD.gone (i := 48) (by kernel_rfl) rfl rfl rfl rfl rfl rfl (Does.call rfl (sameType_ok hok.nine hok'.nine (hok.sl.ext hE) (hok'.sl.ext hE) hok.max)) ?_
    rintro _ H6_48 ⟨rfl, hE6_48⟩
    have z6_48 := hE6_48.lt
    replace hE := hE.ext hE6_48
    replace hB0 := hB0.ext hE6_48
    replace hB0' := hB0'.ext hE6_48
    refine ⟨fun _ _ => (Bks.cons hB0.blk (Bks.cons hB0'.blk Bks.nil)), ?_⟩
    refine RegD.gtpur (i := 49) rfl rfl rfl rfl rfl rfl (by kernel_rfl) (Pur.not rfl) ?_
    refine RegD.tpur (i := 50) rfl rfl rfl rfl (by kernel_rfl) (Pur.pickF rfl rfl) ?_
    refine RegD.done (by kernel_rfl) ?_
    refine At.cond rfl rfl (fun q67 => ?_) (fun q67 => ?_)
    · first | (simp only [decide_eq_true_eq, decide_eq_false_iff_not, Bool.not_eq_true', Bool.not_eq_false', ne_eq, Decidable.not_not, Bool.not_eq_true, Bool.not_eq_false] at q67) | (dsimp only at q67) | skip
      refine At.region rfl rfl ?_
      refine Reg.pur rfl rfl rfl rfl (Pur.asg rfl) ?_
      refine Reg.nil ?_
      refine At.ret rfl Tryd.func24 rfl ?_
      refine ⟨congrArg Value.bool (decide_eq_false (hne ?_)).symm, hE⟩
      intro e
      simp only [pl, Prod.mk.injEq] at e
      obtain ⟨e1, e2, e3, e4⟩ := e
      first | exact q28 e1 | (rw [e2] at q41; simp at q41; done) | (rw [hq, e4] at q54; simp at q54; done) | exact q67 e3
    first | (simp only [decide_eq_true_eq, decide_eq_false_iff_not, Bool.not_eq_true', Bool.not_eq_false', ne_eq, Decidable.not_not, Bool.not_eq_true, Bool.not_eq_false] at q67) | (dsimp only at q67) | skip
    refine At.region rfl rfl ?_
    refine Reg.pur rfl rfl rfl rfl (Pur.mv rfl) ?_
    first | refine Reg.pur rfl rfl rfl rfl (Pur.add64 rfl rfl (by omega)) ?_ | refine Reg.pur rfl rfl rfl rfl (Pur.add64 rfl rfl (by assumption)) ?_ | refine Reg.pur rfl rfl rfl rfl (Pur.add rfl rfl) ?_
    refine Reg.pur rfl rfl rfl rfl (Pur.asg rfl) ?_
    refine Reg.nil ?_
    rw [hq] at q54
    refine At.via (ih (i + 1) _ ⟨by omega, hgo ?_, hE⟩ (by omega)) ⟨rfl, rfl, rfl, trivial⟩
    simp only [pl, Prod.mk.injEq]
    exact ⟨q28, by simpa using q41, q67, by simpa using q54⟩
  first | (simp only [decide_eq_true_eq, decide_eq_false_iff_not, Bool.not_eq_true', Bool.not_eq_false', ne_eq, Decidable.not_not, Bool.not_eq_true, Bool.not_eq_false] at q14) | (dsimp only at q14) | skip
  refine At.region rfl rfl ?_
  refine Reg.pur rfl rfl rfl rfl (Pur.asg rfl) ?_
  refine Reg.nil ?_
  refine At.ret rfl Tryd.func24 rfl ?_
  rw [List.take_of_length_le (by omega), List.take_of_length_le (by omega)] at hmap
  exact ⟨congrArg Value.bool (decide_eq_true hmap).symm, hE⟩
end Go.Proofs.YtlfillhffpiffaaDoor

namespace Go.Proofs.YtlfillhffpiffaaDoor
set_option linter.unusedSimpArgs false
set_option linter.unusedVariables false
set_option maxRecDepth 8000
open Go Go.Fx Go.Proofs
namespace FactsSchI
theorem es50 : esz Tryd.prog 50 = some 1 := by kernel_rfl
theorem isl50 : isSl Tryd.prog 50 = true := by kernel_rfl
theorem mixed : Tryd.prog.follows .mixedOrders = true := by kernel_rfl
theorem sc3 : sc Tryd.prog 3 = true := by kernel_rfl
end FactsSchI
open FactsSchI

end Go.Proofs.YtlfillhffpiffaaDoor

namespace Go.Proofs.YtlfillhffpiffaaDoor
set_option linter.unusedSimpArgs false
set_option linter.unusedVariables false
set_option maxRecDepth 8000
open Go Go.Fx Go.Proofs
namespace FactsSchL

end FactsSchL
open FactsSchL

structure Td where
  A : Option Addr
  cap : Nat
  nodes : List (List Int)
abbrev encT (t : Td) : List Value := [.slice t.A t.nodes.length t.cap]
structure Td.Ok (H : Heap) (t : Td) : Prop where
  sl : SlT H Is 9 (.slice t.A t.nodes.length t.cap) t.nodes
  nine : Nine t.nodes
  fits : t.nodes.length * 72 ≤ 140737488351232
structure Tds (H : Heap) (v : Value) (L : List Td) : Prop where
  sl : SlT H encT 1 v L
  ok : ∀ t ∈ L, t.Ok H
  fits : L.length ≤ 9223372036854775807
abbrev Five (L : List (List Int)) : Prop := ∀ x ∈ L, x.length = 5
def bR (v : Int) (r : List Int) : Bd := ⟨v, true, none, 0, [], r⟩
end Go.Proofs.YtlfillhffpiffaaDoor

namespace Go.Proofs.YtlfillhffpiffaaDoor
set_option linter.unusedSimpArgs false
set_option linter.unusedVariables false
set_option maxRecDepth 8000
open Go Go.Fx Go.Proofs
namespace FactsSubO

end FactsSubO
open FactsSubO

theorem numE_ok (n : Int) (H : Heap) : Ret Tryd.prog 25 [I n] H (fun v H' => v = I n ∧ H' = H) := by
  refine Ret.of_at (N := 4) Tryd.call25 Tryd.func25 rfl rfl rfl ?_
  refine At.region rfl rfl ?_
  refine Reg.pur rfl rfl rfl rfl (Pur.asg rfl) ?_
  refine Reg.nil ?_
  refine At.region rfl rfl ?_
  refine Reg.pur rfl rfl rfl rfl (Pur.mv rfl) ?_
  refine Reg.pur rfl rfl rfl rfl (Pur.asg rfl) ?_
  refine Reg.nil ?_
  refine At.ret rfl Tryd.func25 rfl ?_
  exact ⟨rfl, rfl⟩
end Go.Proofs.YtlfillhffpiffaaDoor

namespace Go.Proofs.YtlfillhffpiffaaDoor
set_option linter.unusedSimpArgs false
set_option linter.unusedVariables false
set_option maxRecDepth 8000
open Go Go.Fx Go.Proofs
namespace FactsSubP

end FactsSubP
open FactsSubP

theorem nine_lit {L : List (List Int)} (h : (L.all fun x => x.length == 9) = true) : Nine L := by
  intro x hx
  have := List.all_eq_true.1 h x hx
  simpa using this
end Go.Proofs.YtlfillhffpiffaaDoor

namespace Go.Proofs.YtlfillhffpiffaaDoor
set_option linter.unusedSimpArgs false
set_option linter.unusedVariables false
set_option maxRecDepth 8000
set_option maxHeartbeats 1000000
open Go Go.Fx Go.Proofs
namespace FactsSchM

end FactsSchM
open FactsSchM

theorem bds_nil' (H : Heap) : Bds H (.slice none ([] : List Bd).length 0) [] := ⟨sl_nil H, (fun b hb => by cases hb), by simp⟩
end Go.Proofs.YtlfillhffpiffaaDoor

namespace Go.Proofs.YtlfillhffpiffaaDoor
set_option linter.unusedSimpArgs false
set_option linter.unusedVariables false
set_option maxRecDepth 8000
set_option maxHeartbeats 1000000
open Go Go.Fx Go.Proofs
namespace FactsSchO

end FactsSchO
open FactsSchO

theorem k5 : Five [[0, 0, 0, 0, -1]] := by intro x hx; simp at hx; subst hx; rfl
end Go.Proofs.YtlfillhffpiffaaDoor

namespace Go.Proofs.YtlfillhffpiffaaDoor
set_option linter.unusedSimpArgs false
set_option linter.unusedVariables false
set_option maxRecDepth 8000
set_option maxHeartbeats 2000000
open Go Go.Fx Go.Proofs
namespace FactsSchR

end FactsSchR
open FactsSchR

theorem sl_own {α : Type} {enc : α → List Value} {n b : Nat} {L : List α} {H : Heap} (hL : Wide enc n L) (hn : 0 < n) (h : Own H b (L.flatMap enc)) (hl : L.length ≤ 1000) : SlT H enc n (.slice (some ⟨b, 0, none⟩) L.length L.length) L :=
  sl_of hL hn h.blk (by rw [List.drop_zero, List.take_of_length_le (by rw [flat_len hL]; exact Nat.le_refl _)]) (Nat.le_refl _) (by omega)
end Go.Proofs.YtlfillhffpiffaaDoor

namespace Go.Proofs.YtlfillhffpiffaaDoor
set_option linter.unusedSimpArgs false
set_option linter.unusedVariables false
set_option maxRecDepth 8000
open Go Go.Fx Go.Proofs
namespace FactsSubQ

end FactsSubQ
open FactsSubQ

theorem type_of_fits {H : Heap} {v : Value} (h : fitc H (.sl 72 (List.replicate 9 (.int .i64))) v) : ∃ (A : Option Addr) (cap : Nat) (L : List (List Int)), v = .slice A L.length cap ∧ Nine L ∧ SlT H Is 9 (.slice A L.length cap) L ∧ L.length * 72 ≤ 140737488351232 := by
  obtain ⟨L, hL, hS, hb⟩ := SlT.of_fits (p := fun x : List Int => x.length = 9) (enc := Is) h (fun cs h => by obtain ⟨xs, rfl, hl, _⟩ := fit_ints h; exact ⟨xs, hl, rfl⟩)
  have hS' := hS
  obtain ⟨A, cap, rfl, _⟩ := hS'
  exact ⟨A, cap, L, rfl, hL, hS, by rw [show reachBytes = 140737488351232 from rfl] at hb; omega⟩
theorem bd_of_fits {H : Heap} {cs : List Value} (h : fits H (.int .i64 :: .bool :: .sl 72 (List.replicate 9 (.int .i64)) :: List.replicate 5 (.int .i64)) cs) : ∃ b : Bd, b.Ok H ∧ cs = encB b := by
  simp only [fits] at h
  obtain ⟨v1, r1, rfl, h1, v2, r2, rfl, h2, v3, r3, rfl, h3, h4⟩ := h
  simp only [fitc] at h1 h2
  obtain ⟨n, rfl, _⟩ := h1
  obtain ⟨b, rfl⟩ := h2
  obtain ⟨A, cap, L, rfl, hL, hS, hb⟩ := type_of_fits h3
  obtain ⟨xs, rfl, hl, _⟩ := fit_ints h4
  exact ⟨⟨n, b, A, cap, L, xs⟩, ⟨hS, hL, hl, hb⟩, rfl⟩
theorem binds_of_fits {H : Heap} {v : Value} (h : fitc H (.sl 80 (.int .i64 :: .bool :: .sl 72 (List.replicate 9 (.int .i64)) :: List.replicate 5 (.int .i64))) v) : ∃ (A : Option Addr) (cap : Nat) (Bs : List Bd), v = .slice A Bs.length cap ∧ Bds H (.slice A Bs.length cap) Bs := by
  obtain ⟨L, hL, hS, hb⟩ := SlT.of_fits (p := fun b : Bd => b.Ok H) (enc := encB) h (fun cs h => bd_of_fits h)
  have hS' := hS
  obtain ⟨A, cap, rfl, _⟩ := hS'
  exact ⟨A, cap, L, rfl, ⟨hS, hL, by rw [show reachBytes = 140737488351232 from rfl] at hb; omega⟩⟩

theorem eqs_self (x : List Int) : eqs (Is x) (Is x) = true := by rw [eqs_ints]; simp
end Go.Proofs.YtlfillhffpiffaaDoor

namespace Go.Proofs.YtlfillhffpiffaaDoor
set_option linter.unusedSimpArgs false
set_option linter.unusedVariables false
set_option maxRecDepth 8000
set_option maxHeartbeats 1000000
open Go Go.Fx Go.Proofs
namespace FactsSchS
theorem ag24 : ag Tryd.prog 24 = some 5 := by kernel_rfl
theorem ag55 : ag Tryd.prog 55 = some 1 := by kernel_rfl
theorem ag65 : ag Tryd.prog 65 = some 9 := by kernel_rfl
theorem es53 : esz Tryd.prog 53 = some 9 := by kernel_rfl
theorem fo55_0 : foff Tryd.prog 55 0 = some 0 := by kernel_rfl
theorem isl53 : isSl Tryd.prog 53 = true := by kernel_rfl
theorem sc3 : sc Tryd.prog 3 = true := by kernel_rfl
theorem sc53 : sc Tryd.prog 53 = true := by kernel_rfl
end FactsSchS
open FactsSchS

end Go.Proofs.YtlfillhffpiffaaDoor

namespace Go.Fx
open Go
set_option linter.unusedSimpArgs false
set_option linter.unusedVariables false
end Go.Fx
namespace Go.Proofs.YtlfillhffpiffaaDoor
set_option linter.unusedSimpArgs false
set_option linter.unusedVariables false
set_option maxRecDepth 8000
open Go Go.Fx Go.Proofs
namespace FactsUniC
theorem ag55 : ag Tryd.prog 55 = some 1 := by kernel_rfl
theorem es53 : esz Tryd.prog 53 = some 9 := by kernel_rfl
theorem fo55_0 : foff Tryd.prog 55 0 = some 0 := by kernel_rfl
theorem isl53 : isSl Tryd.prog 53 = true := by kernel_rfl
theorem mixed : Tryd.prog.follows .mixedOrders = true := by kernel_rfl
theorem sc3 : sc Tryd.prog 3 = true := by kernel_rfl
theorem sc53 : sc Tryd.prog 53 = true := by kernel_rfl
end FactsUniC
open FactsUniC

end Go.Proofs.YtlfillhffpiffaaDoor

namespace Go.Proofs.YtlfillhffpiffaaDoor
set_option linter.unusedSimpArgs false
set_option linter.unusedVariables false
set_option maxRecDepth 8000
open Go Go.Fx Go.Proofs

def zv (P : Program) (t : TypeId) : Option Value := (P.info? t).bind (·.zero)
section rules
variable {P : Program} {dst : Option Tmp} {ty : TypeId} {pos : String} {aft : Array Edge} {gd : Option (Nat × Bool)} {e : Env} {H : Heap}
end rules
section chg
variable {b1 b2 : Nat} {A B C : Heap}
end chg
end Go.Proofs.YtlfillhffpiffaaDoor

namespace Go.Proofs.YtlfillhffpiffaaDoor
set_option linter.unusedSimpArgs false
set_option linter.unusedVariables false
set_option maxRecDepth 8000
open Go Go.Fx Go.Proofs
namespace FactsUniA
theorem ag22 : ag Tryd.prog 22 = some 4 := by kernel_rfl
theorem ag57 : ag Tryd.prog 57 = some 8 := by kernel_rfl
theorem arr22 : arr Tryd.prog 22 = some (4, 1) := by kernel_rfl
theorem fo24_0 : foff Tryd.prog 24 0 = some 0 := by kernel_rfl
theorem pl24 : places Tryd.prog 24 = some [(0, 4), (4, 1)] := by kernel_rfl
theorem pl57 : places Tryd.prog 57 = some [(0, 1), (1, 1), (2, 1), (3, 5)] := by kernel_rfl
theorem sc3 : sc Tryd.prog 3 = true := by kernel_rfl
theorem zc22 : zc Tryd.prog 22 = some [.int .i64 0, .int .i64 0, .int .i64 0, .int .i64 0] := by kernel_rfl
theorem zc24 : zc Tryd.prog 24 = some [.int .i64 0, .int .i64 0, .int .i64 0, .int .i64 0, .int .i64 0] := by kernel_rfl
theorem zc57 : zc Tryd.prog 57 = some [.int .i64 0, .bool false, .slice none 0 0, .int .i64 0, .int .i64 0, .int .i64 0, .int .i64 0, .int .i64 0] := by kernel_rfl
end FactsUniA
open FactsUniA

theorem min_fold {P : Program} (w : World) : ∀ (l : List Int) (a : Int), ((l.map (Value.int .i64)).foldlM Builtin.min2 (.int .i64 a)).run P w = .ok (.int .i64 (l.foldl min a)) w
  | [], a => by simp
  | b :: l, a => by
    have h : (if b < a then b else a) = min a b := by omega
    simp only [List.map_cons, List.foldlM_cons, Sem.run_bind, Builtin.min2, Sem.run_pure, Result.andThen_ok, List.foldl_cons, h, min_fold w l]
theorem Pur.mins {P : Program} {dst ty pos aft gd} {e : Env} (l : List Int) {xs : List Operand} {ats : Array TypeId} {a : Int} (hx : evs e xs = some (.int .i64 a :: l.map (Value.int .i64))) :
    Pur P ⟨dst, .call { callee := .builtin .min, args := xs.toArray, argTypes := ats }, ty, pos, aft, gd⟩ e (.int .i64 (l.foldl min a)) := by
  intro A w hA
  obtain ⟨cs, h⟩ := run_call_builtin (P := P) (dst := dst) (b := .min) (xs := xs) (ats := ats) (ty := ty) (pos := pos) (aft := aft) (gd := gd) A w hA hx
  rw [h]
  simp only [builtin, Builtin.min_, Sem.run_bind, min_fold, Result.andThen_ok, Sem.run_pure]
theorem Pur.min2 {P : Program} {dst ty pos aft gd} {e : Env} {t : TypeId} {x y : Operand} {a b : Int} (hx : ev e x = some (.int .i64 a)) (hy : ev e y = some (.int .i64 b)) :
    Pur P ⟨dst, .call { callee := .builtin .min, args := #[x, y], argTypes := #[t, t] }, ty, pos, aft, gd⟩ e (.int .i64 (min a b)) :=
  Pur.mins [b] (xs := [x, y]) (by simp [evs, hx, hy])

def sb1 (a b : List Int) (i : Nat) : Int := if b.getD i 0 < a.getD i 0 then a.getD i 0 - b.getD i 0 else 0
def subC (a b : List Int) : List Int := (List.range 4).map (sb1 a b)
def mixS (a b : List Int) (i : Nat) : List Int := (List.range 4).map fun j => if j < i then sb1 a b j else 0
def moreTo (a b : List Int) (i : Nat) : Bool := (List.range i).any fun i => decide (b.getD i 0 < a.getD i 0)
def moreC (a b : List Int) : Bool := moreTo a b 4
theorem subC_len (a b : List Int) : (subC a b).length = 4 := rfl
theorem mixS_len (a b : List Int) (i : Nat) : (mixS a b i).length = 4 := rfl
theorem mixS_set (a b : List Int) {i : Nat} (h : i < 4) : (mixS a b i).set i (sb1 a b i) = mixS a b (i + 1) := by
  apply List.ext_getElem (by simp [mixS])
  intro j h1 h2
  rw [List.getElem_set]
  by_cases hj : i = j
  · subst hj; simp [mixS]
  · rw [if_neg hj]
    simp [mixS]
    by_cases hk : j < i
    · rw [if_pos hk, if_pos (by omega)]
    · rw [if_neg hk, if_neg (by omega)]
theorem mixS_same (a b : List Int) {i : Nat} (h : i < 4) (hk : ¬ b.getD i 0 < a.getD i 0) : mixS a b (i + 1) = mixS a b i := by
  have hz : sb1 a b i = 0 := if_neg hk
  apply List.ext_getElem (by simp [mixS])
  intro j h1 h2
  simp only [mixS, List.getElem_map, List.getElem_range]
  by_cases hj : i = j
  · subst hj; rw [if_pos (by omega), if_neg (by omega), hz]
  · by_cases hk : j < i
    · rw [if_pos hk, if_pos (by omega)]
    · rw [if_neg hk, if_neg (by omega)]
theorem moreTo_succ (a b : List Int) (i : Nat) : moreTo a b (i + 1) = (moreTo a b i || decide (b.getD i 0 < a.getD i 0)) := by
  simp [moreTo, List.range_succ]
theorem rowM_all {r : List Int} (h : rowM r = true) {i : Nat} (hi : i < 4) (hl : r.length = 5) : 0 ≤ r.getD i 0 ∧ r.getD i 0 ≤ 32 := by
  unfold rowM at h
  simp only [Bool.and_eq_true] at h
  have := List.all_eq_true.1 h.1 (r.getD i 0) (by
    rw [← take4_at hl hi]; exact List.getElem_mem _)
  simpa [okc] using this
theorem rowM_t {r : List Int} (h : rowM r = true) : -1 ≤ r.getD 4 0 ∧ r.getD 4 0 < 4096 := by
  unfold rowM at h
  simp only [Bool.and_eq_true, decide_eq_true_eq] at h
  exact h.2

theorem rowLess_ok {ab bb : Nat} (a b : List Int) (ha5 : a.length = 5) (hb5 : b.length = 5) (hra : rowM a = true) (hrb : rowM b = true) {H : Heap} (hA : Blk H ab (Is a)) (hB : Blk H bb (Is b)) :
    Ret Tryd.prog 52 [ptr ab 0, ptr bb 0] H (fun v H' => v = .tuple #[.agg (Is (subC a b)).toArray, .bool (moreC a b)] ∧ Ext H H') := by
  refine Ret.of_at (N := 39) Tryd.call52 Tryd.func52 rfl rfl rfl ?_
  have hE := Ext.refl H
  have z_hE := hE.lt
  have z_hA := hA.lt
  have z_hB := hB.lt
  refine At.region rfl rfl ?_
  refine Reg.op rfl rfl rfl rfl (Does.alloc zc22) ?_
  rintro _ H0_0 ⟨rfl, hn0_0⟩
  have z0_0 := hn0_0.size
  replace hE := hE.ext hn0_0.ext
  replace hA := hA.ext hn0_0.ext
  replace hB := hB.ext hn0_0.ext
  have o0_0 := hn0_0.own
  refine Reg.pur rfl rfl rfl rfl (Pur.asg rfl) ?_
  refine Reg.nil ?_
  refine At.region rfl rfl ?_
  refine Reg.op rfl rfl rfl rfl (Does.alloc zc22) ?_
  rintro _ H1_0 ⟨rfl, hn1_0⟩
  have z1_0 := hn1_0.size
  replace hE := hE.ext hn1_0.ext
  replace hA := hA.ext hn1_0.ext
  replace hB := hB.ext hn1_0.ext
  replace o0_0 := o0_0.ext hn1_0.ext
  have o1_0 := hn1_0.own
  refine Reg.nil ?_
  refine At.region rfl rfl ?_
  refine Reg.pur rfl rfl rfl rfl (Pur.asg rfl) ?_
  refine Reg.nil ?_
  refine At.region rfl rfl ?_
  refine Reg.pur rfl rfl rfl rfl (Pur.mv rfl) ?_
  refine Reg.pur rfl rfl rfl rfl (Pur.nilc rfl) ?_
  refine Reg.pur rfl rfl rfl rfl (Pur.fld _ fo24_0 rfl) ?_
  refine Reg.lod rfl rfl rfl rfl (Lod.ldn ag22 rfl hA (show _ = Is (a.take 4) by simp [Is, List.map_take]) (by simp [ha5])) ?_
  refine Reg.pur rfl rfl rfl rfl (Pur.mv rfl) ?_
  refine Reg.nil ?_
  refine At.loop (σ := Nat) (fun i => [(14, I i), (13, .agg (Is (a.take 4)).toArray), (7, .bool (moreTo a b i)), (1, ptr bb 0), (6, ptr H0_0.size 0), (4, ptr H.size 0)]) (fun i H' => i ≤ 4 ∧ Own H' H0_0.size (Is (mixS a b i)) ∧ Own H' H.size [I 0, I 0, I 0, I 0] ∧ Blk H' bb (Is b) ∧ Ext H H') (fun i => 4 - i) 0 rfl ⟨rfl, rfl, rfl, rfl, rfl, rfl, trivial⟩ ⟨by omega, o1_0, o0_0, hB, hE⟩ ?_
  have hlt0 := hn0_0.size
  rintro i H3 ⟨hi, o1_0, o0_0, hB, hE⟩ ih
  have hbb := hB.lt
  have z_hE := hE.lt
  have z_hB := hB.lt
  have z_o0_0 := o0_0.lt
  have z_o1_0 := o1_0.lt
  refine At.region rfl rfl ?_
  refine Reg.pur rfl rfl rfl rfl (Pur.lss rfl rfl) ?_
  refine Reg.nil ?_
  refine At.cond rfl rfl (fun q15 => ?_) (fun q15 => ?_)
  · first | (simp only [decide_eq_true_eq, decide_eq_false_iff_not, Bool.not_eq_true', Bool.not_eq_false', ne_eq, Decidable.not_not, Bool.not_eq_true, Bool.not_eq_false] at q15) | (dsimp only at q15) | skip
    have hi4 : i < 4 := by omega
    have ha1 := rowM_all hra hi4 ha5
    have hb1 := rowM_all hrb hi4 hb5
    have hbi : (Is b)[0 + 0 + (i : Int).toNat * 1]? = some (I (b.getD i 0)) := by rw [Int.toNat_natCast, show 0 + 0 + i * 1 = i by omega]; exact at_Is (by omega)
    refine At.region rfl rfl ?_
    refine Reg.pur rfl rfl rfl rfl (Pur.mv rfl) ?_
    refine Reg.pur rfl rfl rfl rfl (Pur.ixA (n := 4) (by kernel_rfl) rfl rfl (by omega) (by omega) (by rw [Int.toNat_natCast]; exact take4_Is ha5 hi4)) ?_
    refine Reg.pur rfl rfl rfl rfl (Pur.asg rfl) ?_
    refine Reg.pur rfl rfl rfl rfl (Pur.asg rfl) ?_
    refine Reg.nil ?_
    refine At.region rfl rfl ?_
    refine Reg.pur rfl rfl rfl rfl (Pur.mv rfl) ?_
    refine Reg.pur rfl rfl rfl rfl (Pur.mv rfl) ?_
    refine Reg.pur rfl rfl rfl rfl (Pur.mv rfl) ?_
    refine Reg.pur rfl rfl rfl rfl (Pur.nilc rfl) ?_
    refine Reg.pur rfl rfl rfl rfl (Pur.fld _ fo24_0 rfl) ?_
    refine Reg.pur rfl rfl rfl rfl (Pur.idxP arr22 rfl rfl (by omega) (by omega)) ?_
    refine Reg.lod rfl rfl rfl rfl (Lod.ld sc3 rfl hB hbi) ?_
    refine Reg.pur rfl rfl rfl rfl (Pur.gtr rfl rfl) ?_
    refine Reg.nil ?_
    refine At.cond rfl rfl (fun q25 => ?_) (fun q25 => ?_)
    · first | (simp only [decide_eq_true_eq, decide_eq_false_iff_not, Bool.not_eq_true', Bool.not_eq_false', ne_eq, Decidable.not_not, Bool.not_eq_true, Bool.not_eq_false] at q25) | (dsimp only at q25) | skip
      refine At.region rfl rfl ?_
      refine Reg.pur rfl rfl rfl rfl (Pur.mv rfl) ?_
      refine Reg.pur rfl rfl rfl rfl (Pur.mv rfl) ?_
      refine Reg.pur rfl rfl rfl rfl (Pur.mv rfl) ?_
      refine Reg.pur rfl rfl rfl rfl (Pur.mv rfl) ?_
      refine Reg.pur rfl rfl rfl rfl (Pur.nilc rfl) ?_
      refine Reg.pur rfl rfl rfl rfl (Pur.fld _ fo24_0 rfl) ?_
      refine Reg.pur rfl rfl rfl rfl (Pur.idxP arr22 rfl rfl (by omega) (by omega)) ?_
      refine Reg.lod rfl rfl rfl rfl (Lod.ld sc3 rfl hB hbi) ?_
      first | refine Reg.pur rfl rfl rfl rfl (Pur.sub64 rfl rfl (by omega)) ?_ | refine Reg.pur rfl rfl rfl rfl (Pur.sub64 rfl rfl (by assumption)) ?_ | refine Reg.pur rfl rfl rfl rfl (Pur.sub rfl rfl) ?_
      refine Reg.pur rfl rfl rfl rfl (Pur.idxP arr22 rfl rfl (by omega) (by omega)) ?_
      refine Reg.op0 rfl rfl rfl (Does.st sc3 rfl rfl rfl o1_0 (by rw [List.length_map, mixS_len]; omega)) ?_
      rintro _ H7_10 hu7_10
      have z7_10 := hu7_10.size
      replace hE := hE.upw hu7_10 (by omega)
      replace hB := hB.upw hu7_10 (by omega)
      replace o0_0 := o0_0.upw hu7_10 (by omega)
      replace o1_0 := hu7_10.own
      refine Reg.pur rfl rfl rfl rfl (Pur.asg rfl) ?_
      refine Reg.nil ?_
      refine At.region rfl rfl ?_
      first | refine Reg.pur rfl rfl rfl rfl (Pur.add64 rfl rfl (by omega)) ?_ | refine Reg.pur rfl rfl rfl rfl (Pur.add64 rfl rfl (by assumption)) ?_ | refine Reg.pur rfl rfl rfl rfl (Pur.add rfl rfl) ?_
      refine Reg.pur rfl rfl rfl rfl (Pur.mv rfl) ?_
      refine Reg.nil ?_
      have hm : moreTo a b (i + 1) = true := by rw [moreTo_succ, decide_eq_true q25]; simp
      have hs : sb1 a b i = a.getD i 0 - b.getD i 0 := if_pos q25
      refine At.via (ih (i + 1) _ ⟨by omega, o1_0.of ?_, o0_0, hB, hE⟩ (by omega)) ⟨rfl, rfl, ?_, rfl, rfl, rfl, trivial⟩
      · rw [← mixS_set a b hi4, hs, Nat.zero_add, Nat.mul_one, Int.toNat_natCast]; simp [Is, List.map_set]
      · rw [hm]; rfl
    first | (simp only [decide_eq_true_eq, decide_eq_false_iff_not, Bool.not_eq_true', Bool.not_eq_false', ne_eq, Decidable.not_not, Bool.not_eq_true, Bool.not_eq_false] at q25) | (dsimp only at q25) | skip
    refine At.region rfl rfl ?_
    first | refine Reg.pur rfl rfl rfl rfl (Pur.add64 rfl rfl (by omega)) ?_ | refine Reg.pur rfl rfl rfl rfl (Pur.add64 rfl rfl (by assumption)) ?_ | refine Reg.pur rfl rfl rfl rfl (Pur.add rfl rfl) ?_
    refine Reg.pur rfl rfl rfl rfl (Pur.mv rfl) ?_
    refine Reg.nil ?_
    have hm : moreTo a b (i + 1) = moreTo a b i := by rw [moreTo_succ, decide_eq_false q25]; simp
    refine At.via (ih (i + 1) _ ⟨by omega, o1_0.of (by rw [mixS_same a b hi4 q25]), o0_0, hB, hE⟩ (by omega)) ⟨rfl, rfl, by rw [hm]; rfl, rfl, rfl, rfl, trivial⟩
  first | (simp only [decide_eq_true_eq, decide_eq_false_iff_not, Bool.not_eq_true', Bool.not_eq_false', ne_eq, Decidable.not_not, Bool.not_eq_true, Bool.not_eq_false] at q15) | (dsimp only at q15) | skip
  refine At.region rfl rfl ?_
  refine Reg.lod rfl rfl rfl rfl (Lod.ldn ag22 rfl o1_0.blk (by first | exact whole rfl | rfl | (simp only [List.drop_succ_cons, List.drop_zero, List.take_succ_cons, List.take_zero]; rfl)) (by first | rfl | (simp [*]; done))) ?_
  refine Reg.pur rfl rfl rfl rfl (Pur.mv rfl) ?_
  refine Reg.op0 rfl rfl rfl (Does.stn ag22 rfl rfl (by first | rfl | exact ones_Is _) (by first | rfl | (simp [*]; done)) o0_0 (by first | decide | (simp; done) | (simp; omega) | omega)) ?_
  rintro _ H9_2 hu9_2
  have z9_2 := hu9_2.size
  replace hE := hE.upw hu9_2 (by omega)
  replace hB := hB.upw hu9_2 (by omega)
  replace o1_0 := o1_0.upw hu9_2 (by omega)
  replace o0_0 := hu9_2.own
  first | rw [over (by first | rfl | (simp; done))] at o0_0 | skip
  refine Reg.pur rfl rfl rfl rfl (Pur.asg rfl) ?_
  refine Reg.nil ?_
  refine At.retC rfl Tryd.func52 ⟨_, _, _, _, rfl, rfl, ⟨_, o0_0.blk, .inr ⟨_, _, ag22, (by first | exact whole rfl | exact whole (by simp [*])), (by first | rfl | simp [*]), rfl⟩⟩, ⟨_, _, rfl, rfl, rfl⟩⟩ ?_
  obtain rfl : i = 4 := by omega
  exact ⟨rfl, hE⟩

theorem rowBind_ok (v t : Int) (c : List Int) (hc : c.length = 4) {H : Heap} : Ret Tryd.prog 53 [I v, .agg (Is c).toArray, I t] H (fun r H' => r = .agg (encB (bR v (c ++ [t]))).toArray ∧ Ext H H') := by
  obtain ⟨c0, c1, c2, c3, rfl⟩ : ∃ c0 c1 c2 c3, c = [c0, c1, c2, c3] := by
    match c, hc with
    | [c0, c1, c2, c3], _ => exact ⟨c0, c1, c2, c3, rfl⟩
  refine Ret.of_at (N := 12) Tryd.call53 Tryd.func53 rfl rfl rfl ?_
  have hE := Ext.refl H
  have z_hE := hE.lt
  refine At.region rfl rfl ?_
  refine Reg.op rfl rfl rfl rfl (Does.box rfl rfl) ?_
  rintro _ H0_0 ⟨rfl, hn0_0⟩
  have z0_0 := hn0_0.size
  replace hE := hE.ext hn0_0.ext
  have o0_0 := hn0_0.own
  refine Reg.op rfl rfl rfl rfl (Does.alloc zc57) ?_
  rintro _ H0_1 ⟨rfl, hn0_1⟩
  have z0_1 := hn0_1.size
  replace hE := hE.ext hn0_1.ext
  replace o0_0 := o0_0.ext hn0_1.ext
  have o0_1 := hn0_1.own
  refine Reg.nil ?_
  refine At.region rfl rfl ?_
  refine Reg.pur rfl rfl rfl rfl (Pur.mv rfl) ?_
  refine Reg.lod rfl rfl rfl rfl (Lod.ldn ag22 rfl o0_0.blk (by first | exact whole rfl | rfl | (simp only [List.drop_succ_cons, List.drop_zero, List.take_succ_cons, List.take_zero]; rfl)) (by first | rfl | (simp [*]; done))) ?_
  refine Reg.pur rfl rfl rfl rfl (Pur.mv rfl) ?_
  refine Reg.pur rfl rfl rfl rfl (Pur.bld (cs := [_, _, _, _, _]) pl24 zc24 rfl rfl ⟨rfl, rfl, rfl, rfl, rfl, rfl⟩) ?_
  refine Reg.pur rfl rfl rfl rfl (Pur.bld (cs := [_, _, _, _, _, _, _, _]) pl57 zc57 rfl rfl ⟨rfl, rfl, rfl, rfl, rfl, rfl, rfl, rfl, rfl⟩) ?_
  refine Reg.op0 rfl rfl rfl (Does.stn ag57 rfl rfl (by first | rfl | exact ones_Is _) (by first | rfl | (simp [*]; done)) o0_1 (by first | decide | (simp; done) | (simp; omega) | omega)) ?_
  rintro _ H1_5 hu1_5
  have z1_5 := hu1_5.size
  replace hE := hE.upw hu1_5 (by omega)
  replace o0_0 := o0_0.upw hu1_5 (by omega)
  replace o0_1 := hu1_5.own
  first | rw [over (by first | rfl | (simp; done))] at o0_1 | skip
  refine Reg.nil ?_
  refine At.retC rfl Tryd.func53 ⟨_, _, _, _, rfl, rfl, ⟨_, o0_1.blk, .inr ⟨_, _, ag57, (by first | exact whole rfl | exact whole (by simp [*])), (by first | rfl | simp [*]), rfl⟩⟩, rfl⟩ ?_
  exact ⟨rfl, hE⟩
theorem rowBindR_ok (v t : Int) (c : List Int) (hc : c.length = 4) {H : Heap} : Ret Tryd.prog 54 [I v, .agg (Is c).toArray, I t] H (fun r H' => r = .agg (encB (bR v (c ++ [t]))).toArray ∧ Ext H H') := by
  obtain ⟨c0, c1, c2, c3, rfl⟩ : ∃ c0 c1 c2 c3, c = [c0, c1, c2, c3] := by
    match c, hc with
    | [c0, c1, c2, c3], _ => exact ⟨c0, c1, c2, c3, rfl⟩
  refine Ret.of_at (N := 12) Tryd.call54 Tryd.func54 rfl rfl rfl ?_
  have hE := Ext.refl H
  have z_hE := hE.lt
  refine At.region rfl rfl ?_
  refine Reg.op rfl rfl rfl rfl (Does.box rfl rfl) ?_
  rintro _ H0_0 ⟨rfl, hn0_0⟩
  have z0_0 := hn0_0.size
  replace hE := hE.ext hn0_0.ext
  have o0_0 := hn0_0.own
  refine Reg.op rfl rfl rfl rfl (Does.alloc zc57) ?_
  rintro _ H0_1 ⟨rfl, hn0_1⟩
  have z0_1 := hn0_1.size
  replace hE := hE.ext hn0_1.ext
  replace o0_0 := o0_0.ext hn0_1.ext
  have o0_1 := hn0_1.own
  refine Reg.nil ?_
  refine At.region rfl rfl ?_
  refine Reg.pur rfl rfl rfl rfl (Pur.mv rfl) ?_
  refine Reg.lod rfl rfl rfl rfl (Lod.ldn ag22 rfl o0_0.blk (by first | exact whole rfl | rfl | (simp only [List.drop_succ_cons, List.drop_zero, List.take_succ_cons, List.take_zero]; rfl)) (by first | rfl | (simp [*]; done))) ?_
  refine Reg.pur rfl rfl rfl rfl (Pur.mv rfl) ?_
  refine Reg.pur rfl rfl rfl rfl (Pur.bld (cs := [_, _, _, _, _]) pl24 zc24 rfl rfl ⟨rfl, rfl, rfl, rfl, rfl, rfl⟩) ?_
  refine Reg.pur rfl rfl rfl rfl (Pur.bld (cs := [_, _, _, _, _, _, _, _]) pl57 zc57 rfl rfl ⟨rfl, rfl, rfl, rfl, rfl, rfl, rfl, rfl, rfl⟩) ?_
  refine Reg.op0 rfl rfl rfl (Does.stn ag57 rfl rfl (by first | rfl | exact ones_Is _) (by first | rfl | (simp [*]; done)) o0_1 (by first | decide | (simp; done) | (simp; omega) | omega)) ?_
  rintro _ H1_5 hu1_5
  have z1_5 := hu1_5.size
  replace hE := hE.upw hu1_5 (by omega)
  replace o0_0 := o0_0.upw hu1_5 (by omega)
  replace o0_1 := hu1_5.own
  first | rw [over (by first | rfl | (simp; done))] at o0_1 | skip
  refine Reg.nil ?_
  refine At.retC rfl Tryd.func54 ⟨_, _, _, _, rfl, rfl, ⟨_, o0_1.blk, .inr ⟨_, _, ag57, (by first | exact whole rfl | exact whole (by simp [*])), (by first | rfl | simp [*]), rfl⟩⟩, rfl⟩ ?_
  exact ⟨rfl, hE⟩
end Go.Proofs.YtlfillhffpiffaaDoor

namespace Go.Proofs.YtlfillhffpiffaaDoor
set_option linter.unusedSimpArgs false
set_option linter.unusedVariables false
set_option maxRecDepth 8000
open Go Go.Fx Go.Proofs
namespace FactsUniB
theorem ag22 : ag Tryd.prog 22 = some 4 := by kernel_rfl
theorem ag24 : ag Tryd.prog 24 = some 5 := by kernel_rfl
theorem arr22 : arr Tryd.prog 22 = some (4, 1) := by kernel_rfl
theorem fo24_0 : foff Tryd.prog 24 0 = some 0 := by kernel_rfl
theorem fo24_1 : foff Tryd.prog 24 1 = some 4 := by kernel_rfl
theorem mixed : Tryd.prog.follows .mixedOrders = true := by kernel_rfl
theorem sc3 : sc Tryd.prog 3 = true := by kernel_rfl
theorem slA25 : slA Tryd.prog 25 = some (57, 8) := by kernel_rfl
theorem zc22 : zc Tryd.prog 22 = some [.int .i64 0, .int .i64 0, .int .i64 0, .int .i64 0] := by kernel_rfl
end FactsUniB
open FactsUniB

def uniQ (a b : List Int) (f : Int) : List Bd × Int :=
  if a.getD 4 0 = b.getD 4 0 then (if moreC a b = true ∨ moreC b a = true then ([], 801) else ([], 0))
  else if (moreC a b = true ∧ b.getD 4 0 = -1) ∨ (moreC b a = true ∧ a.getD 4 0 = -1) then ([], 801)
  else if b.getD 4 0 = -1 then ([bR (a.getD 4 0) (subC b a ++ [-1])], 0)
  else if a.getD 4 0 = -1 then ([bR (b.getD 4 0) (subC a b ++ [-1])], 0)
  else if moreC a b = false then ([bR (a.getD 4 0) (subC b a ++ [b.getD 4 0])], 0)
  else if moreC b a = false then ([bR (b.getD 4 0) (subC a b ++ [a.getD 4 0])], 0)
  else ([bR (a.getD 4 0) (subC b a ++ [f]), bR (b.getD 4 0) (subC a b ++ [f])], 0)
def uniR (a b : List Int) (f : Int) : List Bd × Int :=
  if rowM a = true ∧ rowM b = true ∧ 0 ≤ f ∧ f < 4096 ∧ a.getD 4 0 < f ∧ b.getD 4 0 < f then uniQ a b f else ([], 800)
theorem uniR_no {a b : List Int} {f : Int} (h : ¬ (rowM a = true ∧ rowM b = true ∧ 0 ≤ f ∧ f < 4096 ∧ a.getD 4 0 < f ∧ b.getD 4 0 < f)) : uniR a b f = ([], 800) := if_neg h
theorem uniR_yes {a b : List Int} {f : Int} (h : rowM a = true ∧ rowM b = true ∧ 0 ≤ f ∧ f < 4096 ∧ a.getD 4 0 < f ∧ b.getD 4 0 < f) : uniR a b f = uniQ a b f := if_pos h
theorem bR_ok (v : Int) (r : List Int) (hr : r.length = 5) (H : Heap) : (bR v r).Ok H := ⟨sl_nil H, (fun x hx => by cases hx), hr, by simp [bR]⟩
theorem sb1_min {a b : List Int} {i : Nat} : a.getD i 0 - min (a.getD i 0) (b.getD i 0) = sb1 a b i := by unfold sb1; split <;> omega
theorem sb1_pos {a b : List Int} {i : Nat} : decide (sb1 a b i > 0) = decide (b.getD i 0 < a.getD i 0) := by
  unfold sb1; split <;> simp_all
theorem or_t {m d : Bool} (h : m = true) : some (Value.bool m) = some (Value.bool (m || d)) := by rw [h]; rfl
theorem or_f {m d : Bool} (h : m = false) : some (Value.bool d) = some (Value.bool (m || d)) := by rw [h]; rfl
theorem set_mix {a b : List Int} {i : Nat} (hi : i < 4) {v : Int} (hv : v = sb1 a b i) : (Is (mixS a b i)).set (0 + (i : Int).toNat * 1) (I v) = Is (mixS a b (i + 1)) := by
  rw [← mixS_set a b hi, hv, Nat.zero_add, Nat.mul_one, Int.toNat_natCast]; simp [Is, List.map_set]
theorem mix_at {a b : List Int} {i : Nat} (hi : i < 4) : (Is (mixS a b (i + 1)))[0 + (i : Int).toNat * 1]? = some (I (sb1 a b i)) := by
  rw [Nat.zero_add, Nat.mul_one, Int.toNat_natCast]
  simp [Is, mixS, hi]
end Go.Proofs.YtlfillhffpiffaaDoor

namespace Go.Proofs.YtlfillhffpiffaaDoor
set_option linter.unusedSimpArgs false
set_option linter.unusedVariables false
set_option maxRecDepth 8000
open Go Go.Fx Go.Proofs

theorem row_five {r : List Int} (h : r.length = 5) : ∃ a b c d e, r = [a, b, c, d, e] := by
  match r, h with
  | [a, b, c, d, e], _ => exact ⟨a, b, c, d, e, rfl⟩
end Go.Proofs.YtlfillhffpiffaaDoor

namespace Go.Fx
open Go
set_option linter.unusedSimpArgs false
set_option linter.unusedVariables false
section
variable {P : Program} {dst : Option Tmp} {ty : TypeId} {pos : String} {aft : Array Edge} {gd : Option (Nat × Bool)} {e : Env} {H H' : Heap}
end
end Go.Fx
namespace Go.Proofs.YtlfillhffpiffaaDoor
set_option linter.unusedSimpArgs false
set_option linter.unusedVariables false
set_option maxRecDepth 8000
open Go Go.Fx Go.Proofs

theorem flat_at {α : Type} {enc : α → List Value} {n : Nat} {L : List α} (hL : Wide enc n L) {i : Nat} (hi : i < L.length) :
    ∃ p q, L.flatMap enc = p ++ enc L[i] ++ q ∧ p.length = i * n ∧ ∀ x, (L.set i x).flatMap enc = p ++ enc x ++ q := by
  refine ⟨(L.take i).flatMap enc, (L.drop (i + 1)).flatMap enc, ?_, ?_, fun x => ?_⟩
  · have h : L = L.take i ++ L[i] :: L.drop (i + 1) := by rw [← List.drop_eq_getElem_cons hi, List.take_append_drop]
    have h2 : L.flatMap enc = (L.take i ++ L[i] :: L.drop (i + 1)).flatMap enc := congrArg (·.flatMap enc) h
    rw [h2]
    simp only [List.flatMap_append, List.flatMap_cons, List.append_assoc]
  · rw [flat_len (fun x hx => hL x (List.mem_of_mem_take hx)), List.length_take]; congr 1; omega
  · rw [List.set_eq_take_append_cons_drop, if_pos hi]
    simp [List.flatMap_append, List.flatMap_cons]
end Go.Proofs.YtlfillhffpiffaaDoor

namespace Go.Proofs.YtlfillhffpiffaaDoor
set_option linter.unusedSimpArgs false
set_option linter.unusedVariables false
set_option maxRecDepth 8000
set_option maxHeartbeats 800000
open Go Go.Fx Go.Proofs
namespace FactsUniI

end FactsUniI
open FactsUniI

theorem row_rd {α : Type} {enc : α → List Value} {n : Nat} {L : List α} (hL : Wide enc n L) {i : Nat} (hi : i < L.length) {c : List Value} (hc : c.take (L.length * n) = L.flatMap enc) : (c.drop (i * n)).take n = enc L[i] := by
  obtain ⟨p, q, h1, h2, _⟩ := flat_at hL hi
  have hl := hL _ (List.getElem_mem hi)
  have hd : c = p ++ (enc L[i] ++ (q ++ c.drop (L.length * n))) := by
    rw [← List.append_assoc, ← List.append_assoc, ← h1, ← hc, List.take_append_drop]
  rw [hd, ← h2, List.drop_left]
  rw [← hl, List.take_left]
end Go.Proofs.YtlfillhffpiffaaDoor

namespace Go.Proofs.YtlfillhffpiffaaDoor
set_option linter.unusedSimpArgs false
set_option linter.unusedVariables false
set_option maxRecDepth 8000
open Go Go.Fx Go.Proofs

def adR (r s : List Int) : List Int := [r.getD 0 0 + s.getD 0 0, r.getD 1 0 + s.getD 1 0, r.getD 2 0 + s.getD 2 0, r.getD 3 0 + s.getD 3 0, s.getD 4 0]
end Go.Proofs.YtlfillhffpiffaaDoor

namespace Go.Proofs.YtlfillhffpiffaaDoor
set_option linter.unusedSimpArgs false
set_option linter.unusedVariables false
set_option maxRecDepth 8000
open Go Go.Fx Go.Proofs
namespace FactsUniD
theorem ag55 : ag Tryd.prog 55 = some 1 := by kernel_rfl
theorem ag65 : ag Tryd.prog 65 = some 9 := by kernel_rfl
theorem es53 : esz Tryd.prog 53 = some 9 := by kernel_rfl
theorem fo55_0 : foff Tryd.prog 55 0 = some 0 := by kernel_rfl
theorem sc3 : sc Tryd.prog 3 = true := by kernel_rfl
theorem sc53 : sc Tryd.prog 53 = true := by kernel_rfl
end FactsUniD
open FactsUniD

end Go.Proofs.YtlfillhffpiffaaDoor

namespace Go.Proofs.YtlfillhffpiffaaDoor
set_option linter.unusedSimpArgs false
set_option linter.unusedVariables false
set_option maxRecDepth 8000
set_option maxHeartbeats 1000000
open Go Go.Fx Go.Proofs
namespace FactsUniMA
theorem ag22 : ag Tryd.prog 22 = some 4 := by kernel_rfl
theorem ag24 : ag Tryd.prog 24 = some 5 := by kernel_rfl
theorem ag57 : ag Tryd.prog 57 = some 8 := by kernel_rfl
theorem ag65 : ag Tryd.prog 65 = some 9 := by kernel_rfl
theorem arr22 : arr Tryd.prog 22 = some (4, 1) := by kernel_rfl
theorem eqt24 : eqT Tryd.prog 24 = some [.int .i64, .int .i64, .int .i64, .int .i64, .int .i64] := by kernel_rfl
theorem eqt65 : eqT Tryd.prog 65 = some [.int .i64, .int .i64, .int .i64, .int .i64, .int .i64, .int .i64, .int .i64, .int .i64, .int .i64] := by kernel_rfl
theorem es25 : esz Tryd.prog 25 = some 8 := by kernel_rfl
theorem es53 : esz Tryd.prog 53 = some 9 := by kernel_rfl
theorem fo24_0 : foff Tryd.prog 24 0 = some 0 := by kernel_rfl
theorem fo24_1 : foff Tryd.prog 24 1 = some 4 := by kernel_rfl
theorem fo55_0 : foff Tryd.prog 55 0 = some 0 := by kernel_rfl
theorem fo57_0 : foff Tryd.prog 57 0 = some 0 := by kernel_rfl
theorem fo57_1 : foff Tryd.prog 57 1 = some 1 := by kernel_rfl
theorem fo57_3 : foff Tryd.prog 57 3 = some 3 := by kernel_rfl
theorem isl25 : isSl Tryd.prog 25 = true := by kernel_rfl
theorem isl53 : isSl Tryd.prog 53 = true := by kernel_rfl
theorem mixed : Tryd.prog.follows .mixedOrders = true := by kernel_rfl
theorem sc3 : sc Tryd.prog 3 = true := by kernel_rfl
theorem sc4 : sc Tryd.prog 4 = true := by kernel_rfl
theorem sc53 : sc Tryd.prog 53 = true := by kernel_rfl
theorem slA25 : slA Tryd.prog 25 = some (57, 8) := by kernel_rfl
theorem zc22 : zc Tryd.prog 22 = some [.int .i64 0, .int .i64 0, .int .i64 0, .int .i64 0] := by kernel_rfl
theorem zc57 : zc Tryd.prog 57 = some [.int .i64 0, .bool false, .slice none 0 0, .int .i64 0, .int .i64 0, .int .i64 0, .int .i64 0, .int .i64 0] := by kernel_rfl
end FactsUniMA
open FactsUniMA

end Go.Proofs.YtlfillhffpiffaaDoor

namespace Go.Proofs.YtlfillhffpiffaaDoor
set_option linter.unusedSimpArgs false
set_option linter.unusedVariables false
set_option maxRecDepth 8000
set_option maxHeartbeats 1000000
open Go Go.Fx Go.Proofs
namespace FactsUniNB
theorem ag65 : ag Tryd.prog 65 = some 9 := by kernel_rfl
theorem eqt65 : eqT Tryd.prog 65 = some [.int .i64, .int .i64, .int .i64, .int .i64, .int .i64, .int .i64, .int .i64, .int .i64, .int .i64] := by kernel_rfl
theorem es53 : esz Tryd.prog 53 = some 9 := by kernel_rfl
theorem fo55_0 : foff Tryd.prog 55 0 = some 0 := by kernel_rfl
theorem isl53 : isSl Tryd.prog 53 = true := by kernel_rfl
theorem mixed : Tryd.prog.follows .mixedOrders = true := by kernel_rfl
theorem sc53 : sc Tryd.prog 53 = true := by kernel_rfl
end FactsUniNB
open FactsUniNB

end Go.Proofs.YtlfillhffpiffaaDoor

namespace Go.Proofs.YtlfillhffpiffaaDoor
set_option linter.unusedSimpArgs false
set_option linter.unusedVariables false
set_option maxRecDepth 8000
set_option maxHeartbeats 1000000
open Go Go.Fx Go.Proofs
namespace FactsUniNC
theorem ag22 : ag Tryd.prog 22 = some 4 := by kernel_rfl
theorem ag24 : ag Tryd.prog 24 = some 5 := by kernel_rfl
theorem arr1_22 : arr1 Tryd.prog 22 = some 4 := by kernel_rfl
theorem arr22 : arr Tryd.prog 22 = some (4, 1) := by kernel_rfl
theorem eqt24 : eqT Tryd.prog 24 = some [.int .i64, .int .i64, .int .i64, .int .i64, .int .i64] := by kernel_rfl
theorem fo24_0 : foff Tryd.prog 24 0 = some 0 := by kernel_rfl
theorem fo24_1 : foff Tryd.prog 24 1 = some 4 := by kernel_rfl
theorem mixed : Tryd.prog.follows .mixedOrders = true := by kernel_rfl
theorem pl24 : places Tryd.prog 24 = some [(0, 4), (4, 1)] := by kernel_rfl
theorem sc3 : sc Tryd.prog 3 = true := by kernel_rfl
theorem zc24 : zc Tryd.prog 24 = some [.int .i64 0, .int .i64 0, .int .i64 0, .int .i64 0, .int .i64 0] := by kernel_rfl
end FactsUniNC
open FactsUniNC

end Go.Proofs.YtlfillhffpiffaaDoor

namespace Go.Proofs.YtlfillhffpiffaaDoor
set_option linter.unusedSimpArgs false
set_option linter.unusedVariables false
set_option maxRecDepth 8000
set_option maxHeartbeats 600000
open Go Go.Fx Go.Proofs
namespace FactsUniND
theorem ag55 : ag Tryd.prog 55 = some 1 := by kernel_rfl
theorem fo65_1 : foff Tryd.prog 65 1 = some 1 := by kernel_rfl
theorem mixed : Tryd.prog.follows .mixedOrders = true := by kernel_rfl
theorem sc3 : sc Tryd.prog 3 = true := by kernel_rfl
end FactsUniND
open FactsUniND

end Go.Proofs.YtlfillhffpiffaaDoor

namespace Go.Proofs.YtlfillhffpiffaaDoor
set_option linter.unusedSimpArgs false
set_option linter.unusedVariables false
set_option maxRecDepth 8000
set_option maxHeartbeats 600000
open Go Go.Fx Go.Proofs
namespace FactsUniNE
theorem ag55 : ag Tryd.prog 55 = some 1 := by kernel_rfl
end FactsUniNE
open FactsUniNE

end Go.Proofs.YtlfillhffpiffaaDoor

namespace Go.Proofs.YtlfillhffpiffaaDoor
set_option linter.unusedSimpArgs false
set_option linter.unusedVariables false
set_option maxRecDepth 8000
set_option maxHeartbeats 4000000
open Go Go.Fx Go.Proofs
namespace FactsUniMB
theorem ag24 : ag Tryd.prog 24 = some 5 := by kernel_rfl
theorem ag55 : ag Tryd.prog 55 = some 1 := by kernel_rfl
theorem ag65 : ag Tryd.prog 65 = some 9 := by kernel_rfl
theorem es25 : esz Tryd.prog 25 = some 8 := by kernel_rfl
theorem es53 : esz Tryd.prog 53 = some 9 := by kernel_rfl
theorem fo55_0 : foff Tryd.prog 55 0 = some 0 := by kernel_rfl
theorem fo57_0 : foff Tryd.prog 57 0 = some 0 := by kernel_rfl
theorem fo57_1 : foff Tryd.prog 57 1 = some 1 := by kernel_rfl
theorem fo57_2 : foff Tryd.prog 57 2 = some 2 := by kernel_rfl
theorem fo65_1 : foff Tryd.prog 65 1 = some 1 := by kernel_rfl
theorem isl25 : isSl Tryd.prog 25 = true := by kernel_rfl
theorem mixed : Tryd.prog.follows .mixedOrders = true := by kernel_rfl
theorem pl57 : places Tryd.prog 57 = some [(0, 1), (1, 1), (2, 1), (3, 5)] := by kernel_rfl
theorem sc3 : sc Tryd.prog 3 = true := by kernel_rfl
theorem sc4 : sc Tryd.prog 4 = true := by kernel_rfl
theorem sc53 : sc Tryd.prog 53 = true := by kernel_rfl
theorem slA25 : slA Tryd.prog 25 = some (57, 8) := by kernel_rfl
theorem zc57 : zc Tryd.prog 57 = some [.int .i64 0, .bool false, .slice none 0 0, .int .i64 0, .int .i64 0, .int .i64 0, .int .i64 0, .int .i64 0] := by kernel_rfl
end FactsUniMB
open FactsUniMB

end Go.Proofs.YtlfillhffpiffaaDoor

namespace Go.Proofs.YtlfillhffpiffaaDoor
set_option linter.unusedSimpArgs false
set_option linter.unusedVariables false
set_option maxRecDepth 8000
set_option maxHeartbeats 1000000
open Go Go.Fx Go.Proofs
namespace FactsUniAA
theorem ag55 : ag Tryd.prog 55 = some 1 := by kernel_rfl
theorem es25 : esz Tryd.prog 25 = some 8 := by kernel_rfl
theorem fo57_0 : foff Tryd.prog 57 0 = some 0 := by kernel_rfl
theorem fo57_2 : foff Tryd.prog 57 2 = some 2 := by kernel_rfl
theorem isl25 : isSl Tryd.prog 25 = true := by kernel_rfl
theorem sc3 : sc Tryd.prog 3 = true := by kernel_rfl
end FactsUniAA
open FactsUniAA

theorem sp_ld {c : List Value} {x : Bd} {i : Nat} (hd : (c.drop (i * 8)).take 8 = encB x) : (c.drop (0 + (i : Int).toNat * 8 + 2)).take 1 = [x.sl] := by
  rw [Int.toNat_natCast, Nat.zero_add, ← List.drop_drop, take_mid hd (by decide)]
  rfl
end Go.Proofs.YtlfillhffpiffaaDoor

namespace Go.Proofs.YtlfillhffpiffaaDoor
set_option linter.unusedSimpArgs false
set_option linter.unusedVariables false
set_option maxRecDepth 8000
set_option maxHeartbeats 1000000
open Go Go.Fx Go.Proofs
namespace FactsUniMC
theorem ag55 : ag Tryd.prog 55 = some 1 := by kernel_rfl
theorem fo55_0 : foff Tryd.prog 55 0 = some 0 := by kernel_rfl
theorem isl53 : isSl Tryd.prog 53 = true := by kernel_rfl
theorem sc4 : sc Tryd.prog 4 = true := by kernel_rfl
theorem sc53 : sc Tryd.prog 53 = true := by kernel_rfl
end FactsUniMC
open FactsUniMC

end Go.Proofs.YtlfillhffpiffaaDoor

namespace Go.Proofs.YtlfillhffpiffaaDoor
set_option linter.unusedSimpArgs false
set_option linter.unusedVariables false
set_option maxRecDepth 8000
open Go Go.Fx Go.Proofs
namespace FactsUniSA
theorem apt94 : appT Tryd.prog 94 = some (5, 1, 1) := by kernel_rfl
theorem isl94 : isSl Tryd.prog 94 = true := by kernel_rfl
theorem sl1_94 : Go.Fx.sl1 Tryd.prog 94 = true := by kernel_rfl
end FactsUniSA
open FactsUniSA

abbrev eb (x : Int) : List Value := [.int .u8 x]
theorem wideb (L : List Int) : Wide eb 1 L := fun _ _ => rfl
theorem flat_eb : ∀ L : List Int, L.flatMap eb = L.map (Value.int .u8)
  | [] => rfl
  | x :: L => by rw [List.flatMap_cons, flat_eb L]; rfl
theorem ones_eb (L : List Int) : ones (L.flatMap eb) = true := by
  simp only [ones, List.all_eq_true, List.mem_flatMap]
  rintro v ⟨x, _, hv⟩
  simp only [List.mem_singleton] at hv
  subst hv; rfl
def bstr (l : List Int) : ByteArray := l.foldl (fun r n => r.push (UInt8.ofNat n.toNat)) ByteArray.empty
theorem push_size : ∀ (l : List Int) (s : ByteArray), (l.foldl (fun r n => r.push (UInt8.ofNat n.toNat)) s).size = s.size + l.length
  | [], _ => rfl
  | x :: l, s => by
    rw [List.foldl_cons, push_size l, ByteArray.size_push, List.length_cons]; omega
theorem bstr_size (l : List Int) : (bstr l).size = l.length := by
  unfold bstr; rw [push_size]; simp
section rules
variable {P : Program} {dst : Option Tmp} {ty : TypeId} {pos : String} {aft : Array Edge} {gd : Option (Nat × Bool)} {e : Env} {H : Heap}
theorem Pur.addS {t t' : TypeId} {x y : Operand} {a b : ByteArray} (hx : ev e x = some (.string a)) (hy : ev e y = some (.string b)) (h : a.size + b.size ≤ 9223372036854775807) :
    Pur P ⟨dst, .binOp .add t x y t', ty, pos, aft, gd⟩ e (.string (a ++ b)) := by
  intro A w hA
  have e1 := hA.ev hx
  have e2 := hA.ev hy
  have hn : ¬ ((a.size + b.size : Nat) : Int) > IntKind.i64.max := by rw [show IntKind.i64.max = 9223372036854775807 from rfl]; omega
  simp only [execOp, e1, e2, eqGuard_at_string, Sem.run_bind, Sem.run_pure, Result.andThen_ok]
  simp only [binOp, Op.stringOp]
  rw [if_neg hn]
  simp
theorem Lod.bstr {src t el : TypeId} {x : Operand} {A : Option Addr} {cap : Nat} {l : List Int} (hs : P.underlying src = some (.slice el)) (he : P.underlying el = some (.int .u8)) (hd : P.underlying t = some .string)
    (hx : ev e x = some (.slice A l.length cap)) (hS : SlT H eb 1 (.slice A l.length cap) l) : Lod P ⟨dst, .convert src t x, ty, pos, aft, gd⟩ e H (.string (bstr l)) := by
  intro a w hw hA
  have e1 := hA.ev hx
  have hr : (Conv.bytesToString (.slice A l.length cap)).run P w = .ok (.string (Proofs.YtlfillhffpiffaaDoor.bstr l)) w := by
    obtain ⟨_, A', cap', hv, _, h3⟩ := sl_src (wideb l) hS
    simp only [Value.slice.injEq, true_and] at hv
    obtain ⟨rfl, rfl⟩ := hv
    rcases h3 with h0 | ⟨b, o, c, rfl, hb, hc⟩
    · obtain rfl : l = [] := List.eq_nil_of_length_eq_zero h0
      cases A with
      | none => simp [Conv.bytesToString]; try rfl
      | some ad => exact run_bytesToString w ad 0 cap [] (by simp [loadCells, loadCellsFrom])
    · refine run_bytesToString w _ l.length cap l ?_
      rw [Nat.mul_one] at hc
      rw [loadCells_run hb hc (by rw [flat_eb]; simp) hw, flat_eb]
  simp only [execOp, e1]
  rw [Sem.run_bind, run_convert_bytes_string w src t el _ _ _ hs he hd, hr]
  simp
end rules

def decG : Nat → Nat → List Int → List Int
  | 0, _, l => l
  | f + 1, n, l => if n = 0 ∧ l.length ≠ 0 then l else decG f (n / 10) (((48 + n % 10 : Nat) : Int) :: l)
def decI (n : Nat) : List Int := decG 8 n []
theorem decG_len : ∀ (f n : Nat) (l : List Int), (decG f n l).length ≤ f + l.length
  | 0, n, l => by simp [decG]
  | f + 1, n, l => by
    unfold decG; split
    · omega
    · have := decG_len f (n / 10) (((48 + n % 10 : Nat) : Int) :: l)
      rw [List.length_cons] at this; omega
def dec (n : Nat) : ByteArray := bstr (decI n)
theorem dec_size (n : Nat) : (dec n).size ≤ 8 := by
  unfold dec; rw [bstr_size]; exact decG_len 8 n []
theorem dig_eq (n : Nat) (h : n < 100000000) : IntKind.u8.wrap (IntKind.u64.wrap (48 + (n : Int).tmod 10)) = ((48 + n % 10 : Nat) : Int) := by
  have : (n : Int).tmod 10 = ((n % 10 : Nat) : Int) := by rw [Int.tmod_eq_emod_of_nonneg (by omega)]; omega
  rw [this, IntWalk.u64_in _ (by omega), IntWalk.u8_in _ (by omega)]; omega
theorem quo_eq (n : Nat) (h : n < 100000000) : IntKind.u64.wrap ((n : Int).tdiv 10) = ((n / 10 : Nat) : Int) := by
  have : (n : Int).tdiv 10 = ((n / 10 : Nat) : Int) := by rw [Int.tdiv_eq_ediv_of_nonneg (by omega)]; omega
  rw [this, IntWalk.u64_in _ (by omega)]
theorem decG_go {f n : Nat} {l : List Int} (h : 0 < n ∨ l.length = 0) : decG (f + 1) n l = decG f (n / 10) (((48 + n % 10 : Nat) : Int) :: l) := by
  show (if _ then _ else _) = _
  rw [if_neg (by omega)]
theorem decG_end {f : Nat} {l : List Int} (h : l.length ≠ 0) : decG (f + 1) 0 l = l := by
  show (if _ then _ else _) = _
  rw [if_pos ⟨rfl, h⟩]
theorem pow_step {f n : Nat} (hf : n < 10 ^ (f + 1)) : n / 10 < 10 ^ f := by
  rw [Nat.pow_succ] at hf; omega
theorem decimal_ok (n : Nat) (h : n < 10000000) (H : Heap) :
    Ret Tryd.prog 31 [I n] H (fun r H' => r = .string (dec n) ∧ Ext H H') := by
  have hu : IntKind.u64.wrap (n : Int) = (n : Int) := IntWalk.u64_in _ (by omega)
  refine Ret.of_at (N := 37) Tryd.call31 Tryd.func31 rfl rfl rfl ?_
  have hE := Ext.refl H
  refine At.region rfl rfl ?_
  refine Reg.pur rfl rfl rfl rfl (Pur.asg rfl) ?_
  refine Reg.nil ?_
  refine At.region rfl rfl ?_
  refine Reg.pur rfl rfl rfl rfl (Pur.mv rfl) ?_
  refine Reg.pur rfl rfl rfl rfl (Pur.cnv Tryd.underlying3 Tryd.underlying93 rfl) ?_
  refine Reg.pur rfl rfl rfl rfl (Pur.asg rfl) ?_
  refine Reg.nil ?_
  refine At.region rfl rfl ?_
  refine Reg.pur rfl rfl rfl rfl (Pur.mv rfl) ?_
  refine Reg.pur rfl rfl rfl rfl (Pur.lss rfl rfl) ?_
  refine Reg.nil ?_
  refine At.condF rfl rfl (decide_eq_false (by omega)) ?_
  refine At.region rfl rfl ?_
  refine Reg.pur rfl rfl rfl rfl (Pur.asg rfl) ?_
  refine Reg.nil ?_
  refine At.loop (σ := Nat × Nat × List Int × Option Addr × Nat) (fun (f, m, l, A, cap) => [(3, .int .u64 m), (4, .slice A l.length cap), (0, I n)]) (fun (f, m, l, A, cap) H' => m < 10 ^ f ∧ m < 10000000 ∧ (l.length = 0 → 0 < f) ∧ l.length ≤ 8 ∧ f + l.length ≤ 8 ∧ decG (f + 1) m l = decI n ∧ SlT H' eb 1 (.slice A l.length cap) l ∧ Ext H H') (fun (f, m, l, A, cap) => f) (7, n, [], none, 0) rfl ⟨by (show some (Value.int .u64 (IntKind.u64.wrap ↑n)) = _); rw [hu], rfl, rfl, trivial⟩ ⟨h, h, fun _ => by decide, by simp, by simp, rfl, sl_nil H, hE⟩ ?_
  rintro ⟨f, m, l, A, cap⟩ H1 ⟨hmf, hm, h0, hl, hfl, hgo, hS, hE1⟩ ih
  dsimp only at hmf hm h0 hl hfl hgo hS ih
  replace hE := hE1
  clear hE1
  have zE := hE.1
  refine At.region rfl rfl ?_
  refine Reg.pur rfl rfl rfl rfl (Pur.mv rfl) ?_
  refine Reg.pur rfl rfl rfl rfl (Pur.gtr rfl rfl) ?_
  refine Reg.pur rfl rfl rfl rfl (Pur.mv rfl) ?_
  refine Reg.case 16 rfl (fun q16 => ?_) (fun q16 => ?_)
  · first | (simp only [decide_eq_true_eq, decide_eq_false_iff_not, Bool.not_eq_true', Bool.not_eq_false', ne_eq, Decidable.not_not, Bool.not_eq_true, Bool.not_eq_false] at q16) | (dsimp only at q16) | skip
    refine Reg.skip rfl rfl rfl rfl rfl rfl rfl ?_
    refine Reg.skip rfl rfl rfl rfl rfl rfl rfl ?_
    refine Reg.skip rfl rfl rfl rfl rfl rfl rfl ?_
    refine Reg.pur rfl rfl rfl rfl (Pur.pickT rfl rfl) ?_
    refine Reg.nil ?_
    refine At.condT rfl rfl rfl ?_
    refine At.region rfl rfl ?_
    refine Reg.pur rfl rfl rfl rfl (Pur.mv rfl) ?_
    first | refine Reg.pur rfl rfl rfl rfl (Pur.rem rfl rfl (by omega)) ?_ | refine Reg.pur rfl rfl rfl rfl (Pur.rem rfl rfl (by decide)) ?_
    refine Reg.pur rfl rfl rfl rfl (Pur.add rfl rfl) ?_
    refine Reg.pur rfl rfl rfl rfl (Pur.cnv Tryd.underlying93 Tryd.underlying5 rfl) ?_
    refine Reg.op rfl rfl rfl rfl (Does.bsl1T sl1_94 Tryd.underlying94 rfl rfl rfl rfl rfl) ?_
    rintro _ H6_4 ⟨rfl, hp6_4⟩
    have hn6_4 := New.of_eq hp6_4
    have z6_4 := hn6_4.size
    replace hE := hE.ext hn6_4.ext
    have o6_4 := hn6_4.own
    rw [dig_eq m (by omega)] at hp6_4
    have hg : Gs H6_4 H1.size 5 1 (some ⟨H1.size, 0, none⟩) 1 [((48 + m % 10 : Nat) : Int)].length ([((48 + m % 10 : Nat) : Int)].flatMap eb) := by rw [hp6_4]; exact OwnS.new (xs := [_]) (n := 1) rfl (by decide) (Nat.le_refl _)
    refine Reg.pur rfl rfl rfl rfl (Pur.mv rfl) ?_

    have z_hg := hg.lt
    refine Reg.op rfl rfl rfl rfl (Does.appL apt94 rfl rfl (by decide) hg (wideb _) (hS.ext hn6_4.ext) (ones_eb _) (by simp; omega) (by omega)) ?_
    rintro _ H6_6 ⟨A6_6, cap6_6, rfl, g6_6, hbut6_6, ha6_6⟩
    have z6_6 := hbut6_6.lt
    replace hE := hE.via hbut6_6 (by first | omega | (intro g; omega) | (intro g hg; omega) | (intro g hg h; omega))
    replace hg := g6_6
    have zg6_6 := g6_6.lt
    refine Reg.pur rfl rfl rfl rfl (Pur.asg rfl) ?_
    refine Reg.nil ?_
    refine At.region rfl rfl ?_
    refine Reg.pur rfl rfl rfl rfl (Pur.mv rfl) ?_
    first | refine Reg.pur rfl rfl rfl rfl (Pur.quo rfl rfl (by omega)) ?_ | refine Reg.pur rfl rfl rfl rfl (Pur.quo rfl rfl (by decide)) ?_
    refine Reg.pur rfl rfl rfl rfl (Pur.asg rfl) ?_
    refine Reg.nil ?_
    rw [decG_go (by omega)] at hgo
    have hf : 0 < f := Nat.pos_of_ne_zero (fun h0' => by (subst h0'; have hm1 : m < 1 := hmf; omega))
    obtain ⟨f', rfl⟩ : ∃ f', f = f' + 1 := ⟨f - 1, by omega⟩
    have hst := ih (f', m / 10, ((48 + m % 10 : Nat) : Int) :: l, A6_6, cap6_6) _ ⟨pow_step hmf, (show m / 10 < 10000000 by omega), fun h => by simp at h, by simp; omega, by simp; omega, hgo, own_sl (wideb _) (by decide) hg, hE⟩ (Nat.lt_succ_self f')
    exact At.meets rfl hst ⟨by (show some (Value.int .u64 (IntKind.u64.wrap ((m : Int).tdiv 10))) = _); rw [quo_eq m (by omega)], rfl, rfl, trivial⟩
  first | (simp only [decide_eq_true_eq, decide_eq_false_iff_not, Bool.not_eq_true', Bool.not_eq_false', ne_eq, Decidable.not_not, Bool.not_eq_true, Bool.not_eq_false] at q16) | (dsimp only at q16) | skip
  refine Reg.gpur rfl rfl rfl rfl rfl rfl (Pur.mv rfl) ?_
  refine Reg.gpur rfl rfl rfl rfl rfl rfl (Pur.lenS isl94 rfl) ?_
  refine Reg.gpur rfl rfl rfl rfl rfl rfl (Pur.eql rfl rfl) ?_
  refine Reg.pur rfl rfl rfl rfl (Pur.pickF rfl rfl) ?_
  refine Reg.nil ?_
  refine At.cond rfl rfl (fun q20 => ?_) (fun q20 => ?_)
  · first | (simp only [decide_eq_true_eq, decide_eq_false_iff_not, Bool.not_eq_true', Bool.not_eq_false', ne_eq, Decidable.not_not, Bool.not_eq_true, Bool.not_eq_false] at q20) | (dsimp only at q20) | skip
    refine At.region rfl rfl ?_
    refine Reg.pur rfl rfl rfl rfl (Pur.mv rfl) ?_
    first | refine Reg.pur rfl rfl rfl rfl (Pur.rem rfl rfl (by omega)) ?_ | refine Reg.pur rfl rfl rfl rfl (Pur.rem rfl rfl (by decide)) ?_
    refine Reg.pur rfl rfl rfl rfl (Pur.add rfl rfl) ?_
    refine Reg.pur rfl rfl rfl rfl (Pur.cnv Tryd.underlying93 Tryd.underlying5 rfl) ?_
    refine Reg.op rfl rfl rfl rfl (Does.bsl1T sl1_94 Tryd.underlying94 rfl rfl rfl rfl rfl) ?_
    rintro _ H6_4 ⟨rfl, hp6_4⟩
    have hn6_4 := New.of_eq hp6_4
    have z6_4 := hn6_4.size
    replace hE := hE.ext hn6_4.ext
    have o6_4 := hn6_4.own
    rw [dig_eq m (by omega)] at hp6_4
    have hg : Gs H6_4 H1.size 5 1 (some ⟨H1.size, 0, none⟩) 1 [((48 + m % 10 : Nat) : Int)].length ([((48 + m % 10 : Nat) : Int)].flatMap eb) := by rw [hp6_4]; exact OwnS.new (xs := [_]) (n := 1) rfl (by decide) (Nat.le_refl _)
    refine Reg.pur rfl rfl rfl rfl (Pur.mv rfl) ?_

    have z_hg := hg.lt
    refine Reg.op rfl rfl rfl rfl (Does.appL apt94 rfl rfl (by decide) hg (wideb _) (hS.ext hn6_4.ext) (ones_eb _) (by simp; omega) (by omega)) ?_
    rintro _ H6_6 ⟨A6_6, cap6_6, rfl, g6_6, hbut6_6, ha6_6⟩
    have z6_6 := hbut6_6.lt
    replace hE := hE.via hbut6_6 (by first | omega | (intro g; omega) | (intro g hg; omega) | (intro g hg h; omega))
    replace hg := g6_6
    have zg6_6 := g6_6.lt
    refine Reg.pur rfl rfl rfl rfl (Pur.asg rfl) ?_
    refine Reg.nil ?_
    refine At.region rfl rfl ?_
    refine Reg.pur rfl rfl rfl rfl (Pur.mv rfl) ?_
    first | refine Reg.pur rfl rfl rfl rfl (Pur.quo rfl rfl (by omega)) ?_ | refine Reg.pur rfl rfl rfl rfl (Pur.quo rfl rfl (by decide)) ?_
    refine Reg.pur rfl rfl rfl rfl (Pur.asg rfl) ?_
    refine Reg.nil ?_
    rw [decG_go (by omega)] at hgo
    have hf : 0 < f := Nat.pos_of_ne_zero (fun h0' => by (subst h0'; have hm1 : m < 1 := hmf; omega))
    obtain ⟨f', rfl⟩ : ∃ f', f = f' + 1 := ⟨f - 1, by omega⟩
    have hst := ih (f', m / 10, ((48 + m % 10 : Nat) : Int) :: l, A6_6, cap6_6) _ ⟨pow_step hmf, (show m / 10 < 10000000 by omega), fun h => by simp at h, by simp; omega, by simp; omega, hgo, own_sl (wideb _) (by decide) hg, hE⟩ (Nat.lt_succ_self f')
    exact At.meets rfl hst ⟨by (show some (Value.int .u64 (IntKind.u64.wrap ((m : Int).tdiv 10))) = _); rw [quo_eq m (by omega)], rfl, rfl, trivial⟩
  first | (simp only [decide_eq_true_eq, decide_eq_false_iff_not, Bool.not_eq_true', Bool.not_eq_false', ne_eq, Decidable.not_not, Bool.not_eq_true, Bool.not_eq_false] at q20) | (dsimp only at q20) | skip
  refine At.region rfl rfl ?_
  refine Reg.pur rfl rfl rfl rfl (Pur.mv rfl) ?_
  refine Reg.pur rfl rfl rfl rfl (Pur.lss rfl rfl) ?_
  refine Reg.nil ?_
  refine At.condF rfl rfl (decide_eq_false (by omega)) ?_
  refine At.region rfl rfl ?_
  refine Reg.pur rfl rfl rfl rfl (Pur.mv rfl) ?_
  refine Reg.lod rfl rfl rfl rfl (Lod.bstr Tryd.underlying94 Tryd.underlying5 Tryd.underlying9 rfl hS) ?_
  refine Reg.pur rfl rfl rfl rfl (Pur.asg rfl) ?_
  refine Reg.nil ?_
  refine At.ret rfl Tryd.func31 rfl ?_
  obtain rfl : m = 0 := by omega
  rw [decG_end (by omega)] at hgo
  exact ⟨by rw [hgo]; rfl, hE⟩
end Go.Proofs.YtlfillhffpiffaaDoor

namespace Go.Proofs.YtlfillhffpiffaaDoor
set_option linter.unusedSimpArgs false
set_option linter.unusedVariables false
set_option maxRecDepth 8000
open Go Go.Fx Go.Proofs
namespace FactsUniSB
theorem arr22 : arr Tryd.prog 22 = some (4, 1) := by kernel_rfl
theorem fo24_0 : foff Tryd.prog 24 0 = some 0 := by kernel_rfl
theorem fo24_1 : foff Tryd.prog 24 1 = some 4 := by kernel_rfl
theorem sc3 : sc Tryd.prog 3 = true := by kernel_rfl
end FactsUniSB
open FactsUniSB

def rone (i : Nat) (s : ByteArray) : ByteArray := (if (!(s.toList == (⟨#[]⟩ : ByteArray).toList)) = true then s ++ ⟨#[44]⟩ else s) ++ ⟨#[111]⟩ ++ dec i
def rrep (i : Nat) : Nat → ByteArray → ByteArray
  | 0, s => s
  | k + 1, s => rone i (rrep i k s)
def rall (r : List Int) : Nat → ByteArray
  | 0 => ⟨#[]⟩
  | i + 1 => rrep i (r.getD i 0).toNat (rall r i)
def rtx (R : List Int) (r : List Int) : ByteArray := ⟨#[60]⟩ ++ (if 0 ≤ r.getD 4 0 then rall r 4 ++ ⟨#[124, 101]⟩ ++ dec (ixL R (r.getD 4 0)) else rall r 4) ++ ⟨#[62]⟩
def rnm (R : List Int) (r : List Int) : List Int := if 0 ≤ r.getD 4 0 then addL R (r.getD 4 0) else R
theorem sz1 (a : UInt8) : (ByteArray.mk #[a]).size = 1 := rfl
theorem rone_size (i : Nat) (s : ByteArray) : (rone i s).size ≤ s.size + 10 := by
  have := dec_size i
  unfold rone
  rw [ByteArray.size_append, ByteArray.size_append]
  split
  · rw [ByteArray.size_append, sz1, sz1]; omega
  · rw [sz1]; omega
theorem rrep_size (i : Nat) : ∀ (k : Nat) (s : ByteArray), (rrep i k s).size ≤ s.size + 10 * k
  | 0, s => by simp [rrep]
  | k + 1, s => by
    have h1 := rone_size i (rrep i k s)
    have h2 := rrep_size i k s
    unfold rrep; omega
theorem row_cnt {r : List Int} (h5 : r.length = 5) (h : rowM r = true) : ∀ i, i < 4 → 0 ≤ r.getD i 0 ∧ r.getD i 0 ≤ 32 := by
  intro i hi
  unfold rowM at h
  simp only [Bool.and_eq_true, List.all_eq_true] at h
  have := h.1 (r.getD i 0) (by rw [← take4_at h5 hi]; exact List.getElem_mem _)
  simpa [okc] using this
theorem rall_size {r : List Int} (h5 : r.length = 5) (h : rowM r = true) : ∀ i, i ≤ 4 → (rall r i).size ≤ 320 * i
  | 0, _ => Nat.le_refl 0
  | i + 1, hi => by
    have h1 := rrep_size i (r.getD i 0).toNat (rall r i)
    have h2 := rall_size h5 h i (by omega)
    have h3 := row_cnt h5 h i (by omega)
    unfold rall; omega
theorem sza {a b : ByteArray} {m n : Nat} (h : a.size ≤ m) (k : b.size ≤ n) : (a ++ b).size ≤ m + n := by rw [ByteArray.size_append]; omega
theorem szs {a b : ByteArray} {m n : Nat} (h : a.size ≤ m) (k : b.size ≤ n) (hn : m + n ≤ 1000000000000) : a.size + b.size ≤ 9223372036854775807 := by omega
theorem sl1 (a : UInt8) : (ByteArray.mk #[a]).size ≤ 1 := Nat.le_refl _
theorem sl2 (a b : UInt8) : (ByteArray.mk #[a, b]).size ≤ 2 := Nat.le_refl _

theorem rowText_ok {nb B c1 c2 : Nat} {A1 A2 : Option Addr} {T R r : List Int} (h5 : r.length = 5) (hr : rowM r = true) {H : Heap} (hN : Nm H nb B A1 c1 T A2 c2 R) (hm : R.length ≤ 100000) :
    Ret Tryd.prog 57 [ptr nb 0, .agg (Is r).toArray] H (fun v H' => v = .string (rtx R r) ∧ ∃ A2' c2', Nm H' nb B A1 c1 T A2' c2' (rnm R r) ∧ Mod nb A1 A2 A1 A2' H H') := by
  have zN := hN.own.lt
  have hcnt := row_cnt h5 hr
  have hsz := rall_size h5 hr
  refine Ret.of_at (N := 43) Tryd.call57 Tryd.func57 rfl rfl rfl ?_
  have hE := Ext.refl H
  refine At.region rfl rfl ?_
  refine Reg.op rfl rfl rfl rfl (Does.box rfl rfl) ?_
  rintro _ H0_0 ⟨rfl, hn0_0⟩
  have z0_0 := hn0_0.size
  replace hE := hE.ext hn0_0.ext
  have o0_0 := hn0_0.own
  refine Reg.pur rfl rfl rfl rfl (Pur.asg rfl) ?_
  refine Reg.nil ?_
  refine At.region rfl rfl ?_
  refine Reg.pur rfl rfl rfl rfl (Pur.asg rfl) ?_
  refine Reg.nil ?_
  refine At.region rfl rfl ?_
  refine Reg.pur rfl rfl rfl rfl (Pur.asg rfl) ?_
  refine Reg.nil ?_
  refine At.loop (σ := Nat) (fun i => [(6, I i), (5, .string (rall r i)), (0, ptr nb 0), (3, ptr H.size 0)]) (fun i H' => i ≤ 4 ∧ Ext H H' ∧ Own H' H.size (Is r)) (fun i => 4 - i) 0 rfl ⟨rfl, rfl, rfl, rfl, trivial⟩ ⟨by omega, hE, o0_0⟩ ?_
  rintro i H1 ⟨hi, hE1, hX⟩ ih
  replace hE := hE1
  clear hE1
  replace o0_0 := hX
  clear hX
  have zE := hE.1
  refine At.region rfl rfl ?_
  refine Reg.pur rfl rfl rfl rfl (Pur.mv rfl) ?_
  refine Reg.pur rfl rfl rfl rfl (Pur.lss rfl rfl) ?_
  refine Reg.nil ?_
  refine At.cond rfl rfl (fun q9 => ?_) (fun q9 => ?_)
  · first | (simp only [decide_eq_true_eq, decide_eq_false_iff_not, Bool.not_eq_true', Bool.not_eq_false', ne_eq, Decidable.not_not, Bool.not_eq_true, Bool.not_eq_false] at q9) | (dsimp only at q9) | skip
    refine At.region rfl rfl ?_
    refine Reg.pur rfl rfl rfl rfl (Pur.asg rfl) ?_
    refine Reg.nil ?_
    have hlt : i < 4 := by omega
    have hc := hcnt i hlt
    have hs1 := hsz i (by omega)
    refine At.loop (σ := Nat) (fun k => [(7, I k), (6, I i), (5, .string (rrep i k (rall r i))), (0, ptr nb 0), (3, ptr H.size 0)]) (fun k H' => (k : Int) ≤ r.getD i 0 ∧ Ext H H' ∧ Own H' H.size (Is r)) (fun k => (r.getD i 0).toNat - k) 0 rfl ⟨rfl, rfl, rfl, rfl, rfl, trivial⟩ ⟨by omega, hE, o0_0⟩ ?_
    rintro k H2 ⟨hk, hE2, hX2⟩ ih2
    replace hE := hE2
    clear hE2
    replace o0_0 := hX2
    clear hX2
    have zE2 := hE.1
    have hai : (Is r)[0 + 0 + (i : Int).toNat * 1]? = some (I (r.getD i 0)) := by rw [show 0 + 0 + (i : Int).toNat * 1 = i from by omega]; exact at_Is (by omega)
    have hs2 := rrep_size i k (rall r i)
    refine At.region rfl rfl ?_
    refine Reg.pur rfl rfl rfl rfl (Pur.mv rfl) ?_
    refine Reg.pur rfl rfl rfl rfl (Pur.mv rfl) ?_
    refine Reg.pur rfl rfl rfl rfl (Pur.fld _ fo24_0 rfl) ?_
    refine Reg.pur rfl rfl rfl rfl (Pur.idxP arr22 rfl rfl (by omega) (by omega)) ?_
    refine Reg.lod rfl rfl rfl rfl (Lod.ld sc3 rfl o0_0.blk hai) ?_
    refine Reg.pur rfl rfl rfl rfl (Pur.lss rfl rfl) ?_
    refine Reg.nil ?_
    refine At.cond rfl rfl (fun q17 => ?_) (fun q17 => ?_)
    · first | (simp only [decide_eq_true_eq, decide_eq_false_iff_not, Bool.not_eq_true', Bool.not_eq_false', ne_eq, Decidable.not_not, Bool.not_eq_true, Bool.not_eq_false] at q17) | (dsimp only at q17) | skip
      refine At.region rfl rfl ?_
      refine Reg.pur rfl rfl rfl rfl (Pur.mv rfl) ?_
      refine Reg.pur rfl rfl rfl rfl (Pur.neS rfl rfl) ?_
      refine Reg.nil ?_
      refine At.cond rfl rfl (fun q21 => ?_) (fun q21 => ?_)
      · first | (simp only [decide_eq_true_eq, decide_eq_false_iff_not, Bool.not_eq_true', Bool.not_eq_false', ne_eq, Decidable.not_not, Bool.not_eq_true, Bool.not_eq_false] at q21) | (dsimp only at q21) | skip
        refine At.region rfl rfl ?_
        refine Reg.pur rfl rfl rfl rfl (Pur.mv rfl) ?_
        refine Reg.pur rfl rfl rfl rfl (Pur.addS rfl rfl (szs (m := 10000) (by omega) (sl1 _) (by decide))) ?_
        refine Reg.pur rfl rfl rfl rfl (Pur.asg rfl) ?_
        refine Reg.nil ?_
        refine At.region rfl rfl ?_
        refine Reg.pur rfl rfl rfl rfl (Pur.mv rfl) ?_
        refine Reg.pur rfl rfl rfl rfl (Pur.addS rfl rfl (szs (m := 10001) (by first | omega | exact sza (m := 10000) (by omega) (sl1 _)) (sl1 _) (by decide))) ?_
        refine Reg.pur rfl rfl rfl rfl (Pur.mv rfl) ?_
        refine Reg.op rfl rfl rfl rfl (Does.call rfl (decimal_ok i (by omega) _)) ?_
        rintro _ H10_3 ⟨rfl, hE10_3⟩
        have z10_3 := hE10_3.lt
        replace hE := hE.ext hE10_3
        replace o0_0 := o0_0.ext hE10_3
        refine Reg.pur rfl rfl rfl rfl (Pur.addS rfl rfl (szs (m := 10002) (sza (m := 10001) (by first | omega | exact sza (m := 10000) (by omega) (sl1 _)) (sl1 _)) (dec_size _) (by decide))) ?_
        refine Reg.pur rfl rfl rfl rfl (Pur.asg rfl) ?_
        refine Reg.nil ?_
        refine At.region rfl rfl ?_
        refine Reg.pur rfl rfl rfl rfl (Pur.mv rfl) ?_
        first | refine Reg.pur rfl rfl rfl rfl (Pur.add64 rfl rfl (by omega)) ?_ | refine Reg.pur rfl rfl rfl rfl (Pur.add64 rfl rfl (by assumption)) ?_ | refine Reg.pur rfl rfl rfl rfl (Pur.add rfl rfl) ?_
        refine Reg.pur rfl rfl rfl rfl (Pur.asg rfl) ?_
        refine Reg.nil ?_
        exact At.meets rfl (ih2 (k + 1) _ ⟨by omega, hE, o0_0⟩ (by omega)) ⟨rfl, rfl, by (show some (Value.string _) = some (Value.string (rone i (rrep i k (rall r i))))); unfold rone; simp only [q21]; rfl, rfl, rfl, trivial⟩
      first | (simp only [decide_eq_true_eq, decide_eq_false_iff_not, Bool.not_eq_true', Bool.not_eq_false', ne_eq, Decidable.not_not, Bool.not_eq_true, Bool.not_eq_false] at q21) | (dsimp only at q21) | skip
      refine At.region rfl rfl ?_
      refine Reg.pur rfl rfl rfl rfl (Pur.mv rfl) ?_
      refine Reg.pur rfl rfl rfl rfl (Pur.addS rfl rfl (szs (m := 10001) (by first | omega | exact sza (m := 10000) (by omega) (sl1 _)) (sl1 _) (by decide))) ?_
      refine Reg.pur rfl rfl rfl rfl (Pur.mv rfl) ?_
      refine Reg.op rfl rfl rfl rfl (Does.call rfl (decimal_ok i (by omega) _)) ?_
      rintro _ H10_3 ⟨rfl, hE10_3⟩
      have z10_3 := hE10_3.lt
      replace hE := hE.ext hE10_3
      replace o0_0 := o0_0.ext hE10_3
      refine Reg.pur rfl rfl rfl rfl (Pur.addS rfl rfl (szs (m := 10002) (sza (m := 10001) (by first | omega | exact sza (m := 10000) (by omega) (sl1 _)) (sl1 _)) (dec_size _) (by decide))) ?_
      refine Reg.pur rfl rfl rfl rfl (Pur.asg rfl) ?_
      refine Reg.nil ?_
      refine At.region rfl rfl ?_
      refine Reg.pur rfl rfl rfl rfl (Pur.mv rfl) ?_
      first | refine Reg.pur rfl rfl rfl rfl (Pur.add64 rfl rfl (by omega)) ?_ | refine Reg.pur rfl rfl rfl rfl (Pur.add64 rfl rfl (by assumption)) ?_ | refine Reg.pur rfl rfl rfl rfl (Pur.add rfl rfl) ?_
      refine Reg.pur rfl rfl rfl rfl (Pur.asg rfl) ?_
      refine Reg.nil ?_
      exact At.meets rfl (ih2 (k + 1) _ ⟨by omega, hE, o0_0⟩ (by omega)) ⟨rfl, rfl, by (show some (Value.string _) = some (Value.string (rone i (rrep i k (rall r i))))); unfold rone; simp only [q21]; rfl, rfl, rfl, trivial⟩
    first | (simp only [decide_eq_true_eq, decide_eq_false_iff_not, Bool.not_eq_true', Bool.not_eq_false', ne_eq, Decidable.not_not, Bool.not_eq_true, Bool.not_eq_false] at q17) | (dsimp only at q17) | skip
    refine At.region rfl rfl ?_
    refine Reg.pur rfl rfl rfl rfl (Pur.mv rfl) ?_
    first | refine Reg.pur rfl rfl rfl rfl (Pur.add64 rfl rfl (by omega)) ?_ | refine Reg.pur rfl rfl rfl rfl (Pur.add64 rfl rfl (by assumption)) ?_ | refine Reg.pur rfl rfl rfl rfl (Pur.add rfl rfl) ?_
    refine Reg.pur rfl rfl rfl rfl (Pur.asg rfl) ?_
    refine Reg.nil ?_
    obtain hk' : (k : Nat) = (r.getD i 0).toNat := by omega
    exact At.meets rfl (ih (i + 1) _ ⟨by omega, hE, o0_0⟩ (by omega)) ⟨rfl, by (show some (Value.string _) = some (Value.string (rrep i (r.getD i 0).toNat (rall r i)))); rw [← hk'], rfl, rfl, trivial⟩
  first | (simp only [decide_eq_true_eq, decide_eq_false_iff_not, Bool.not_eq_true', Bool.not_eq_false', ne_eq, Decidable.not_not, Bool.not_eq_true, Bool.not_eq_false] at q9) | (dsimp only at q9) | skip
  obtain rfl : i = 4 := by omega
  have hs4 := hsz 4 (by omega)
  have hix := ixL_le R (r.getD 4 0)
  have hN1 := hN.ext hE
  have hM1 : Mod nb A1 A2 A1 A2 H H1 := (Mod.refl nb A1 A2 H).ext hE

  refine At.region rfl rfl ?_
  refine Reg.pur rfl rfl rfl rfl (Pur.fld _ fo24_1 rfl) ?_
  refine Reg.lod rfl rfl rfl rfl (Lod.ld sc3 rfl o0_0.blk (hat4 r h5)) ?_
  refine Reg.pur rfl rfl rfl rfl (Pur.geq rfl rfl) ?_
  refine Reg.nil ?_
  refine At.cond rfl rfl (fun q31 => ?_) (fun q31 => ?_)
  · first | (simp only [decide_eq_true_eq, decide_eq_false_iff_not, Bool.not_eq_true', Bool.not_eq_false', ne_eq, Decidable.not_not, Bool.not_eq_true, Bool.not_eq_false] at q31) | (dsimp only at q31) | skip
    refine At.region rfl rfl ?_
    refine Reg.pur rfl rfl rfl rfl (Pur.mv rfl) ?_
    refine Reg.pur rfl rfl rfl rfl (Pur.addS rfl rfl (szs (m := 1280) (by omega) (sl2 _ _) (by decide))) ?_
    refine Reg.pur rfl rfl rfl rfl (Pur.mv rfl) ?_
    refine Reg.pur rfl rfl rfl rfl (Pur.fld _ fo24_1 rfl) ?_
    refine Reg.lod rfl rfl rfl rfl (Lod.ld sc3 rfl o0_0.blk (hat4 r h5)) ?_
    refine Reg.op rfl rfl rfl rfl (Does.call rfl (nm_row _ hN1 (by omega))) ?_
    rintro _ H12_5 ⟨rfl, A2a, c2a, hN12_5, hM12_5⟩
    refine Reg.op rfl rfl rfl rfl (Does.call rfl (decimal_ok (ixL R (r.getD 4 0)) (by omega) _)) ?_
    rintro _ H12_6 ⟨rfl, hD12_6⟩
    refine Reg.pur rfl rfl rfl rfl (Pur.addS rfl rfl (szs (m := 1282) (sza (m := 1280) (by omega) (sl2 _ _)) (dec_size _) (by decide))) ?_
    refine Reg.pur rfl rfl rfl rfl (Pur.asg rfl) ?_
    refine Reg.nil ?_
    refine At.region rfl rfl ?_
    refine Reg.pur rfl rfl rfl rfl (Pur.mv rfl) ?_
    refine Reg.pur rfl rfl rfl rfl (Pur.addS rfl rfl (szs (n := 1290) (sl1 _) (by first | omega | exact sza (m := 1282) (sza (m := 1280) (by omega) (sl2 _ _)) (dec_size _)) (by decide))) ?_
    refine Reg.pur rfl rfl rfl rfl (Pur.addS rfl rfl (szs (m := 1 + 1290) (n := 1) (sza (m := 1) (n := 1290) (sl1 _) (by first | omega | exact sza (m := 1282) (sza (m := 1280) (by omega) (sl2 _ _)) (dec_size _))) (sl1 _) (by decide))) ?_
    refine Reg.pur rfl rfl rfl rfl (Pur.asg rfl) ?_
    refine Reg.nil ?_
    refine At.ret rfl Tryd.func57 rfl ?_
    exact ⟨by unfold rtx; rw [if_pos q31], A2a, c2a, by unfold rnm; rw [if_pos q31]; exact hN12_5.ext hD12_6, (hM1.trans hM12_5).ext hD12_6⟩
  first | (simp only [decide_eq_true_eq, decide_eq_false_iff_not, Bool.not_eq_true', Bool.not_eq_false', ne_eq, Decidable.not_not, Bool.not_eq_true, Bool.not_eq_false] at q31) | (dsimp only at q31) | skip
  refine At.region rfl rfl ?_
  refine Reg.pur rfl rfl rfl rfl (Pur.mv rfl) ?_
  refine Reg.pur rfl rfl rfl rfl (Pur.addS rfl rfl (szs (n := 1290) (sl1 _) (by first | omega | exact sza (m := 1282) (sza (m := 1280) (by omega) (sl2 _ _)) (dec_size _)) (by decide))) ?_
  refine Reg.pur rfl rfl rfl rfl (Pur.addS rfl rfl (szs (m := 1 + 1290) (n := 1) (sza (m := 1) (n := 1290) (sl1 _) (by first | omega | exact sza (m := 1282) (sza (m := 1280) (by omega) (sl2 _ _)) (dec_size _))) (sl1 _) (by decide))) ?_
  refine Reg.pur rfl rfl rfl rfl (Pur.asg rfl) ?_
  refine Reg.nil ?_
  refine At.ret rfl Tryd.func57 rfl ?_
  exact ⟨by unfold rtx; rw [if_neg q31], A2, c2, by unfold rnm; rw [if_neg q31]; exact hN1, hM1⟩
end Go.Proofs.YtlfillhffpiffaaDoor

namespace Go.Proofs.YtlfillhffpiffaaDoor
set_option linter.unusedSimpArgs false
set_option linter.unusedVariables false
set_option maxRecDepth 8000
open Go Go.Fx Go.Proofs
namespace FactsUniSC
theorem ag24 : ag Tryd.prog 24 = some 5 := by kernel_rfl
theorem ag55 : ag Tryd.prog 55 = some 1 := by kernel_rfl
theorem ag65 : ag Tryd.prog 65 = some 9 := by kernel_rfl
theorem es53 : esz Tryd.prog 53 = some 9 := by kernel_rfl
theorem fo55_0 : foff Tryd.prog 55 0 = some 0 := by kernel_rfl
theorem fo65_1 : foff Tryd.prog 65 1 = some 1 := by kernel_rfl
theorem isl53 : isSl Tryd.prog 53 = true := by kernel_rfl
theorem pl91 : places Tryd.prog 91 = some [(0, 1), (1, 1)] := by kernel_rfl
theorem sc3 : sc Tryd.prog 3 = true := by kernel_rfl
theorem sc53 : sc Tryd.prog 53 = true := by kernel_rfl
theorem zc91 : zc Tryd.prog 91 = some [.slice none 0 0, .slice none 0 0] := by kernel_rfl
end FactsUniSC
open FactsUniSC

end Go.Proofs.YtlfillhffpiffaaDoor

namespace Go.Proofs.YtlfillhffpiffaaDoor
set_option linter.unusedSimpArgs false
set_option linter.unusedVariables false
set_option maxRecDepth 8000
open Go Go.Fx Go.Proofs

theorem ints_of_fits {H : Heap} {v : Value} (h : fitc H (.sl 8 [.int .i64]) v) : ∃ (A : Option Addr) (cap : Nat) (l : List Int), v = .slice A l.length cap ∧ SlT H e1 1 (.slice A l.length cap) l ∧ l.length * 8 ≤ 140737488351232 := by
  obtain ⟨L, _, hS, hb⟩ := SlT.of_fits (p := fun _ : Int => True) (enc := e1) h (fun cs h => by obtain ⟨n, rfl, _⟩ := fit_int h; exact ⟨n, trivial, rfl⟩)
  have hS' := hS
  obtain ⟨A, cap, rfl, _⟩ := hS'
  exact ⟨A, cap, L, rfl, hS, by rw [show reachBytes = 140737488351232 from rfl] at hb; omega⟩
theorem rows_of_fits {H : Heap} {v : Value} (h : fitc H (.sl 40 (List.replicate 5 (.int .i64))) v) : ∃ (A : Option Addr) (cap : Nat) (L : List (List Int)), v = .slice A L.length cap ∧ SlT H Is 5 (.slice A L.length cap) L ∧ Five L ∧ L.length * 40 ≤ 140737488351232 := by
  obtain ⟨L, hL, hS, hb⟩ := SlT.of_fits (p := fun x : List Int => x.length = 5) (enc := Is) h (fun cs h => by obtain ⟨xs, rfl, hl, _⟩ := fit_ints h; exact ⟨xs, hl, rfl⟩)
  have hS' := hS
  obtain ⟨A, cap, rfl, _⟩ := hS'
  exact ⟨A, cap, L, rfl, hS, hL, by rw [show reachBytes = 140737488351232 from rfl] at hb; omega⟩
theorem types_of_fits {H : Heap} {v : Value} (h : fitc H (.sl 24 [.sl 72 (List.replicate 9 (.int .i64))]) v) : ∃ (A : Option Addr) (cap : Nat) (L : List Td), v = .slice A L.length cap ∧ Tds H (.slice A L.length cap) L := by
  obtain ⟨L, hL, hS, hb⟩ := SlT.of_fits (p := fun t : Td => t.Ok H) (enc := encT) h (fun cs h => by
    obtain ⟨v, rfl, hv⟩ := fit_one h
    obtain ⟨A, cap, L, rfl, h9, hS, hm⟩ := type_of_fits hv
    exact ⟨⟨A, cap, L⟩, ⟨hS, h9, hm⟩, rfl⟩)
  have hS' := hS
  obtain ⟨A, cap, rfl, _⟩ := hS'
  exact ⟨A, cap, L, rfl, hS, hL, by rw [show reachBytes = 140737488351232 from rfl] at hb; omega⟩
end Go.Proofs.YtlfillhffpiffaaDoor

namespace Go.Proofs
open Go.Shelf
def Tryd.lays156_ren : Go.Shelf.Ren := ⟨fun | 156 => 75 | 165 => 98 | 166 => 99 | 169 => 100 | 240 => 109 | 241 => 110 | 276 => 116 | 277 => 117 | n => n, fun | 31 => 123 | 9 => 9 | 3 => 3 | 4 => 4 | 0 => 0 | 20 => 20 | 72 => 146 | 76 => 150 | 70 => 144 | 37 => 94 | 75 => 149 | 127 => 161 | 164 => 168 | 5 => 5 | 80 => 152 | n => n, fun | n => n⟩
theorem Tryd.lays156 : Go.Proofs.Lays.n156 Tryd.prog Tryd.lays156_ren := {
  mixed := by kernel_rfl
  f156 := Tryd.func75.trans (congrArg some (by kernel_rfl))
  f165 := Tryd.func98.trans (congrArg some (by kernel_rfl))
  f166 := Tryd.func99.trans (congrArg some (by kernel_rfl))
  f169 := Tryd.func100.trans (congrArg some (by kernel_rfl))
  f240 := Tryd.func109.trans (congrArg some (by kernel_rfl))
  f241 := Tryd.func110.trans (congrArg some (by kernel_rfl))
  f276 := Tryd.func116.trans (congrArg some (by kernel_rfl))
  f277 := Tryd.func117.trans (congrArg some (by kernel_rfl))
  t0 := Tryd.underlying0
  a0 := Tryd.isAgg0
  z0 := Tryd.sizeOf0
  v0 := Tryd.zeroValue0
  t3 := Tryd.underlying3
  a3 := Tryd.isAgg3
  z3 := Tryd.sizeOf3
  v3 := Tryd.zeroValue3
  t4 := Tryd.underlying4
  a4 := Tryd.isAgg4
  z4 := Tryd.sizeOf4
  v4 := Tryd.zeroValue4
  t9 := Tryd.underlying9
  a9 := Tryd.isAgg9
  z9 := Tryd.sizeOf9
  v9 := Tryd.zeroValue9
  t20 := Tryd.underlying20
  a20 := Tryd.isAgg20
  z20 := Tryd.sizeOf20
  v20 := Tryd.zeroValue20
  t31 := Tryd.underlying123
  a31 := Tryd.isAgg123
  z31 := Tryd.sizeOf123
  v31 := Tryd.zeroValue123
  t37 := Tryd.underlying94
  a37 := Tryd.isAgg94
  z37 := Tryd.sizeOf94
  v37 := Tryd.zeroValue94
  t70 := Tryd.underlying144
  a70 := Tryd.isAgg144
  z70 := Tryd.sizeOf144
  v70 := Tryd.zeroValue144
  t72 := Tryd.underlying146
  a72 := Tryd.isAgg146
  z72 := Tryd.sizeOf146
  v72 := Tryd.zeroValue146
  t75 := Tryd.underlying149
  a75 := Tryd.isAgg149
  z75 := Tryd.sizeOf149
  v75 := Tryd.zeroValue149
  t76 := Tryd.underlying150
  a76 := Tryd.isAgg150
  z76 := Tryd.sizeOf150
  v76 := Tryd.zeroValue150
  t127 := Tryd.underlying161
  a127 := Tryd.isAgg161
  z127 := Tryd.sizeOf161
  v127 := Tryd.zeroValue161
  t164 := Tryd.underlying168
  a164 := Tryd.isAgg168
  z164 := Tryd.sizeOf168
  v164 := Tryd.zeroValue168 }
theorem Tryd.Builder_Extra_156 : Builder.Extra Tryd.prog Tryd.lays156_ren := {
  sizeBuilder := by kernel_rfl
  liesBuilder := by kernel_rfl
  t5 := Tryd.underlying5
  a5 := Tryd.isAgg5
  z5 := Tryd.sizeOf5
  v5 := Tryd.zeroValue5
  infoByte := by kernel_rfl
  cellsByte := by kernel_rfl
  sizeByte := by kernel_rfl
  neB5 := by decide }
open Go.RowKit in
theorem Tryd.strings_Join_none (a : Option Addr) (c : Nat) (sep : ByteArray) (w : World) :
    Calls Tryd.prog 75 #[.slice a 0 c, .string sep] w fun e w' => e = .returned (.string ⟨#[]⟩) ∧ w' = w := Any.strings_Join_none Tryd.lays156 Tryd.Builder_Extra_156 a c sep w
open Go.RowKit in
theorem Tryd.strings_Join (bk o c : Nat) (xs : List ByteArray) (sep : ByteArray) (w : World) (hcells : ∀ (j : Nat) x, xs[j]? = some x → w.cell? ⟨bk, o + j, none⟩ = some (.string x)) (hbk : bk < w.heap.size) (hN : xs.length ≤ 140737488355328) (hcap : xs.length ≤ c) (hlen : (Lib.join (xs.map (·.data.toList)) sep.data.toList).length ≤ 140737488355328) :
    Calls Tryd.prog 75 #[.slice (some ⟨bk, o, none⟩) xs.length c, .string sep] w fun e w' => e = .returned (.string ⟨(Lib.join (xs.map (·.data.toList)) sep.data.toList).toArray⟩) ∧ Below w.heap.size w w' := Any.strings_Join Tryd.lays156 Tryd.Builder_Extra_156 bk o c xs sep w hcells hbk hN hcap hlen
def Tryd.laysM171_ren : Go.Shelf.Ren := ⟨fun | 171 => 74 | 243 => 97 | 246 => 108 | 283 => 112 | 284 => 113 | 285 => 114 | 286 => 115 | 129 => 119 | 317 => 118 | 318 => 120 | 319 => 121 | 320 => 122 | 337 => 123 | 338 => 124 | n => n, fun | 3 => 3 | 9 => 9 | 2 => 2 | 4 => 4 | 171 => 163 | 0 => 0 | 53 => 93 | 37 => 94 | 5 => 5 | 173 => 166 | 212 => 172 | 51 => 173 | 20 => 20 | 213 => 174 | 46 => 47 | 232 => 178 | 233 => 179 | n => n, fun | 17 => 0 | 18 => 2 | 19 => 3 | n => n⟩
theorem Tryd.laysM171 : Go.Proofs.LaysM.n171 Tryd.prog Tryd.laysM171_ren := {
  mixed := by kernel_rfl
  f129 := Tryd.func119.trans (congrArg some (by kernel_rfl))
  f171 := Tryd.func74.trans (congrArg some (by kernel_rfl))
  f243 := Tryd.func97.trans (congrArg some (by kernel_rfl))
  f246 := Tryd.func108.trans (congrArg some (by kernel_rfl))
  f283 := Tryd.func112.trans (congrArg some (by kernel_rfl))
  f284 := Tryd.func113.trans (congrArg some (by kernel_rfl))
  f285 := Tryd.func114.trans (congrArg some (by kernel_rfl))
  f286 := Tryd.func115.trans (congrArg some (by kernel_rfl))
  f317 := Tryd.func118.trans (congrArg some (by kernel_rfl))
  f318 := Tryd.func120.trans (congrArg some (by kernel_rfl))
  f319 := Tryd.func121.trans (congrArg some (by kernel_rfl))
  f320 := Tryd.func122.trans (congrArg some (by kernel_rfl))
  f337 := Tryd.func123.trans (congrArg some (by kernel_rfl))
  f338 := Tryd.func124.trans (congrArg some (by kernel_rfl))
  t0 := Tryd.underlying0
  a0 := Tryd.isAgg0
  z0 := Tryd.sizeOf0
  v0 := Tryd.zeroValue0
  t2 := Tryd.underlying2
  a2 := Tryd.isAgg2
  z2 := Tryd.sizeOf2
  v2 := Tryd.zeroValue2
  t3 := Tryd.underlying3
  a3 := Tryd.isAgg3
  z3 := Tryd.sizeOf3
  v3 := Tryd.zeroValue3
  t4 := Tryd.underlying4
  a4 := Tryd.isAgg4
  z4 := Tryd.sizeOf4
  v4 := Tryd.zeroValue4
  t5 := Tryd.underlying5
  a5 := Tryd.isAgg5
  z5 := Tryd.sizeOf5
  v5 := Tryd.zeroValue5
  t9 := Tryd.underlying9
  a9 := Tryd.isAgg9
  z9 := Tryd.sizeOf9
  v9 := Tryd.zeroValue9
  t20 := Tryd.underlying20
  a20 := Tryd.isAgg20
  z20 := Tryd.sizeOf20
  v20 := Tryd.zeroValue20
  t37 := Tryd.underlying94
  a37 := Tryd.isAgg94
  z37 := Tryd.sizeOf94
  v37 := Tryd.zeroValue94
  t46 := Tryd.underlying47
  a46 := Tryd.isAgg47
  z46 := Tryd.sizeOf47
  v46 := Tryd.zeroValue47
  t51 := Tryd.underlying173
  a51 := Tryd.isAgg173
  z51 := Tryd.sizeOf173
  v51 := Tryd.zeroValue173
  t53 := Tryd.underlying93
  a53 := Tryd.isAgg93
  z53 := Tryd.sizeOf93
  v53 := Tryd.zeroValue93
  t171 := Tryd.underlying163
  a171 := Tryd.isAgg163
  z171 := Tryd.sizeOf163
  v171 := Tryd.zeroValue163
  t173 := Tryd.underlying166
  a173 := Tryd.isAgg166
  z173 := Tryd.sizeOf166
  v173 := Tryd.zeroValue166
  t212 := Tryd.underlying172
  a212 := Tryd.isAgg172
  z212 := Tryd.sizeOf172
  v212 := Tryd.zeroValue172
  t213 := Tryd.underlying174
  a213 := Tryd.isAgg174
  z213 := Tryd.sizeOf174
  t232 := Tryd.underlying178
  a232 := Tryd.isAgg178
  z232 := Tryd.sizeOf178
  v232 := Tryd.zeroValue178
  t233 := Tryd.underlying179
  a233 := Tryd.isAgg179
  z233 := Tryd.sizeOf179
  v233 := Tryd.zeroValue179
  g17 := by kernel_rfl
  g18 := by kernel_rfl
  g19 := by kernel_rfl
  i0 := by kernel_rfl
  i2 := by kernel_rfl
  i3 := by kernel_rfl
  i4 := by kernel_rfl
  i5 := by kernel_rfl
  i9 := by kernel_rfl
  i20 := by kernel_rfl
  i37 := by kernel_rfl
  i46 := by kernel_rfl
  i51 := by kernel_rfl
  i53 := by kernel_rfl
  i171 := by kernel_rfl
  i173 := by kernel_rfl
  i212 := by kernel_rfl
  i232 := by kernel_rfl
  i233 := by kernel_rfl
  m17 := by kernel_rfl
  m18 := by kernel_rfl
  m19 := by kernel_rfl }
end Go.Proofs

namespace Go.Proofs.YtlfillhffpiffaaDoor
set_option linter.unusedSimpArgs false
set_option linter.unusedVariables false
set_option maxRecDepth 8000
open Go Go.Fx Go.Proofs

abbrev tens : List Value := Lib.pow10Tab.map fun z => Value.int .u64 z
abbrev Tens (H : Heap) : Prop := Blk H 0 tens
theorem tab_of {name : String} {w0 : World} {H : Heap} {n g : Nat} {zs : List Int} {k : IntKind} (hg : Tryd.prog.globalNamed name = some g) (h : Blk H g (zs.map fun z => Value.int k z)) : Lib.TabIs Tryd.prog (mk w0 H n) name k zs := by
  obtain ⟨T, fr, h⟩ := h
  unfold Lib.TabIs World.var?
  rw [hg]
  simp only [Option.bind_some, mk_heap, h]
theorem bstr_data : ∀ (l : List UInt8) (s : ByteArray), ((l.map fun b => ((b.toNat : Nat) : Int)).foldl (fun r n => r.push (UInt8.ofNat n.toNat)) s).data.toList = s.data.toList ++ l
  | [], s => by simp
  | x :: l, s => by
    rw [List.map_cons, List.foldl_cons, bstr_data l]
    simp [ByteArray.push]
theorem bstr_nat (l : List UInt8) : bstr (l.map fun b => ((b.toNat : Nat) : Int)) = ⟨l.toArray⟩ := by
  apply WideShapes.bytes_inj
  unfold bstr
  rw [bstr_data]
  simp
theorem decG_dig : ∀ (f n : Nat) (l : List Int), n < 10 ^ f → 0 < f → (0 < n ∨ l.length = 0) → decG (f + 1) n l = (Lib.decDigits n).map (fun b => ((b.toNat : Nat) : Int)) ++ l
  | 0, _, _, _, h, _ => absurd h (by omega)
  | f + 1, n, l, hn, _, h => by
    rw [decG_go h]
    unfold Lib.decDigits
    split
    · rename_i h10
      rw [show n / 10 = 0 by omega, decG_end (by simp), show n % 10 = n by omega]
      have : (UInt8.ofNat (48 + n)).toNat = 48 + n := by rw [UInt8.toNat_ofNat']; omega
      simp only [List.map_append, List.map_cons, List.map_nil, this, List.append_assoc, List.singleton_append, List.nil_append]
    · rename_i h10
      have hp := pow_step hn
      have hf : 0 < f := Nat.pos_of_ne_zero fun h0 => by subst h0; simp at hp; omega
      rw [decG_dig f (n / 10) _ hp hf (.inl (by omega))]
      have : (UInt8.ofNat (48 + n % 10)).toNat = 48 + n % 10 := by rw [UInt8.toNat_ofNat']; omega
      simp only [List.map_append, List.map_cons, List.map_nil, this, List.append_assoc, List.singleton_append, List.nil_append]
theorem itoa_dec (n : Nat) (h : n < 10000000) : (⟨(Lib.itoa (n : Int)).toArray⟩ : ByteArray) = dec n := by
  rw [Lib.itoa_nonneg, ← bstr_nat]
  unfold dec decI
  rw [decG_dig 7 n [] h (by decide) (.inr rfl), List.append_nil]
theorem itoa_ok (n : Nat) (h : n < 10000000) {H : Heap} (hT : Tens H) :
    Ret Tryd.prog 74 [I n] H (fun v H' => v = .string (dec n) ∧ Ext H H') := by
  refine ⟨Tryd.call74, fun w0 k => ?_⟩
  have h1 : Calls Tryd.prog 74 #[.int .i64 n] (mk w0 H k) fun e w' => e = .returned (.string ⟨(Lib.itoa n).toArray⟩) ∧ ∃ d os, w' = Sort.grow ((mk w0 H k).drewN d) os :=
    Any.strconv_Itoa Tryd.laysM171 n (by omega) (by omega) (mk w0 H k) (tab_of (by kernel_rfl) hT)
  refine h1.mono fun e w' hx => ?_
  obtain ⟨he, d, os, hw⟩ := hx
  refine ⟨_, H ++ os, k + d, he, hw, by rw [itoa_dec n h], ?_, fun b hb => Array.getElem?_append_left hb⟩
  rw [Array.size_append]; omega

def jn (xs : List ByteArray) : ByteArray := ⟨(Lib.join (xs.map (·.data.toList)) (⟨#[44]⟩ : ByteArray).data.toList).toArray⟩
abbrev Ss (s : ByteArray) : List Value := [.string s]
theorem wideS (L : List ByteArray) : Wide Ss 1 L := fun _ _ => rfl
theorem ones_Ss (L : List ByteArray) : ones (L.flatMap Ss) = true := by
  simp only [ones, List.all_eq_true, List.mem_flatMap]
  rintro v ⟨x, _, hv⟩
  simp only [List.mem_singleton] at hv
  subst hv; rfl
theorem join_ok {A : Option Addr} {cap : Nat} {xs : List ByteArray} {H : Heap} (hS : SlT H Ss 1 (.slice A xs.length cap) xs) (hN : xs.length ≤ 1000000) (hlen : (jn xs).size ≤ 1000000000) :
    Ret Tryd.prog 75 [.slice A xs.length cap, .string ⟨#[44]⟩] H (fun v H' => v = .string (jn xs) ∧ Ext H H') := by
  refine ⟨Tryd.call75, fun w0 k => ?_⟩
  cases xs with
  | nil =>
    have h1 := Tryd.strings_Join_none A cap ⟨#[44]⟩ (mk w0 H k)
    refine h1.mono fun e w' hx => ?_
    obtain ⟨he, hw⟩ := hx
    exact ⟨_, H, k, he, hw, rfl, Ext.refl H⟩
  | cons x0 xs =>
    obtain ⟨_, cap', hv, hc1, hc2, _, h3⟩ := hS
    simp only [Value.slice.injEq, true_and] at hv
    obtain ⟨rfl, rfl⟩ := hv
    rcases h3 with h0 | ⟨b, o, c, rfl, hB, hc⟩
    · simp at h0
    have hcl : ∀ (j : Nat) x, (x0 :: xs)[j]? = some x → (mk w0 H k).cell? ⟨b, o + j, none⟩ = some (.string x) := by
      intro j x hx
      obtain ⟨hj, hx⟩ := List.getElem?_eq_some_iff.1 hx
      have h2 := (hc j hj).2
      rw [hx, Nat.mul_one] at h2
      have h4 : c[o + j + 0]? = some (Value.string x) := at_tk h2 (by decide) rfl
      obtain ⟨T, fr, hB⟩ := hB
      unfold World.cell?
      simp only [mk_heap, hB]
      simpa using h4
    have hle : (x0 :: xs).length ≤ c.length := by
      have := (hc ((x0 :: xs).length - 1) (by simp)).1
      simp only [List.length_cons] at this ⊢; omega
    have h1 := Tryd.strings_Join b o cap (x0 :: xs) ⟨#[44]⟩ (mk w0 H k) hcl hB.lt (by omega) hc1 (by
      have : (jn (x0 :: xs)).size = (Lib.join ((x0 :: xs).map (·.data.toList)) (⟨#[44]⟩ : ByteArray).data.toList).length := by simp [jn, ByteArray.size]
      omega)
    refine h1.mono fun e w' hx => ?_
    obtain ⟨he, hb⟩ := hx
    refine ⟨_, w'.heap, w'.drawn, he, ?_, rfl, hb.size, fun q hq => hb.block q hq⟩
    obtain ⟨g1, g2, g3, g4, g5⟩ := w'
    have e1 := hb.os; have e2 := hb.tape; have e3 := hb.output
    simp only at e1 e2 e3
    subst e1 e2 e3
    rfl
end Go.Proofs.YtlfillhffpiffaaDoor

namespace Go.Proofs.YtlfillhffpiffaaDoor
set_option linter.unusedSimpArgs false
set_option linter.unusedVariables false
set_option maxRecDepth 8000
open Go Go.Fx Go.Proofs
namespace FactsDShB
theorem ag22 : ag Tryd.prog 22 = some 4 := by kernel_rfl
theorem apt123 : appT Tryd.prog 123 = some (9, 1, 16) := by kernel_rfl
theorem fo24_0 : foff Tryd.prog 24 0 = some 0 := by kernel_rfl
theorem fo24_1 : foff Tryd.prog 24 1 = some 4 := by kernel_rfl
theorem sc3 : sc Tryd.prog 3 = true := by kernel_rfl
theorem sl1_123 : Go.Fx.sl1 Tryd.prog 123 = true := by kernel_rfl
end FactsDShB
open FactsDShB

theorem dap (a b : ByteArray) : (a ++ b).data.toList = a.data.toList ++ b.data.toList := by simp
abbrev opn (i : Nat) : ByteArray := ⟨#[111]⟩ ++ dec i
def opsTo (r : List Int) : Nat → List ByteArray
  | 0 => []
  | i + 1 => opsTo r i ++ List.replicate (r.getD i 0).toNat (opn i)
theorem opn_pos (i : Nat) : 0 < (opn i).size := by rw [ByteArray.size_append, sz1]; omega
theorem ops_pos (r : List Int) : ∀ i, ∀ x ∈ opsTo r i, 0 < x.size
  | 0, x, h => by cases h
  | i + 1, x, h => by
    simp only [opsTo, List.mem_append, List.mem_replicate] at h
    rcases h with h | ⟨_, rfl⟩
    · exact ops_pos r i x h
    · exact opn_pos i
theorem jn_data (xs : List ByteArray) : (jn xs).data.toList = Lib.join (xs.map (·.data.toList)) [44] := rfl
theorem join_snoc (y sep : List UInt8) : ∀ (x : List UInt8) (xs : List (List UInt8)), Lib.join ((x :: xs) ++ [y]) sep = Lib.join (x :: xs) sep ++ sep ++ y := by
  intro x xs
  rw [List.cons_append, Lib.join_cons, Lib.join_cons]
  simp [Lib.joinTail]
theorem jn_ne {xs : List ByteArray} (h : ∀ x ∈ xs, 0 < x.size) (hx : xs ≠ []) : (jn xs).data.toList ≠ [] := by
  cases xs with
  | nil => exact absurd rfl hx
  | cons x xs =>
    rw [jn_data, List.map_cons, Lib.join_cons]
    have := h x List.mem_cons_self
    intro h0
    have h1 := (List.append_eq_nil_iff.1 h0).1
    have h2 := congrArg List.length h1
    simp only [Array.length_toList, List.length_nil] at h2
    simp only [ByteArray.size] at this
    omega
theorem rone_jn (i : Nat) {xs : List ByteArray} (h : ∀ x ∈ xs, 0 < x.size) : rone i (jn xs) = jn (xs ++ [opn i]) := by
  apply WideShapes.bytes_inj
  unfold rone
  rw [ByteArray.toList_eq, ByteArray.toList_eq]
  cases xs with
  | nil =>
    have h0 : (jn []).data.toList = [] := rfl
    rw [if_neg (by rw [h0]; decide)]
    simp [jn_data, Lib.join_one, Lib.join_nil, dap]
  | cons x xs =>
    rw [if_pos (by
      have := jn_ne h (by simp)
      cases hc : (jn (x :: xs)).data.toList with
      | nil => exact absurd hc this
      | cons a l => rfl)]
    rw [jn_data, List.map_append, List.map_cons, List.map_cons, List.map_nil, join_snoc, dap, dap, dap, jn_data, List.map_cons]
    simp [opn, dap]
theorem rrep_jn (i : Nat) {xs : List ByteArray} (h : ∀ x ∈ xs, 0 < x.size) : ∀ k, rrep i k (jn xs) = jn (xs ++ List.replicate k (opn i))
  | 0 => by simp [rrep]
  | k + 1 => by
    unfold rrep
    rw [rrep_jn i h k, rone_jn i (by
      intro x hx
      rcases List.mem_append.1 hx with hx | hx
      · exact h x hx
      · rw [(List.mem_replicate.1 hx).2]; exact opn_pos i), List.replicate_succ', List.append_assoc]
theorem rall_jn (r : List Int) : ∀ i, rall r i = jn (opsTo r i)
  | 0 => rfl
  | i + 1 => by
    unfold rall opsTo
    rw [rall_jn r i, rrep_jn i (ops_pos r i)]
theorem ops_len {r : List Int} (h5 : r.length = 5) (h : rowM r = true) : ∀ i, i ≤ 4 → (opsTo r i).length ≤ 32 * i
  | 0, _ => Nat.le_refl 0
  | i + 1, hi => by
    have h2 := ops_len h5 h i (by omega)
    have h3 := row_cnt h5 h i (by omega)
    simp only [opsTo, List.length_append, List.length_replicate]; omega

def wtx (r : List Int) (s : ByteArray) : ByteArray := ⟨#[60]⟩ ++ (if 0 ≤ r.getD 4 0 then rall r 4 ++ (⟨#[124]⟩ ++ s) else rall r 4) ++ ⟨#[62]⟩
theorem wtx_rtx (R r : List Int) : wtx r (⟨#[101]⟩ ++ dec (ixL R (r.getD 4 0))) = rtx R r := by
  apply WideShapes.bytes_inj
  unfold wtx rtx
  split
  · simp only [dap, List.append_assoc]; rfl
  · rfl

theorem write_ok {g : FuncId} {us : List Value} {rb ro : Nat} {cg : List Value} {r : List Int} (h5 : r.length = 5) (hr : rowM r = true) {Q : ByteArray → Heap → Heap → Prop} {H : Heap} (hT : Tens H) (hB : Blk H rb cg) (hc : (cg.drop ro).take 5 = Is r)
    (hf : ∀ H1, Ext H H1 → 0 ≤ r.getD 4 0 → Ret Tryd.prog g (I (r.getD 4 0) :: us) H1 (fun v H2 => ∃ s, v = .string s ∧ s.size ≤ 100 ∧ Q s H1 H2)) :
    Ret Tryd.prog 55 [ptr rb ro, .func (.func g) #[] us.toArray] H (fun v H' => ∃ s, v = .string (wtx r s) ∧ ∃ H1, Ext H H1 ∧ ((0 ≤ r.getD 4 0 ∧ Q s H1 H') ∨ (r.getD 4 0 < 0 ∧ H' = H1))) := by
  have zB := hB.lt
  have hat : ∀ {j : Nat}, j < 5 → cg[ro + j]? = some (I (r.getD j 0)) := fun hj => at_tk hc hj (at_Is (by omega))
  have hcnt := row_cnt h5 hr
  have hsz := rall_size h5 hr
  have hln := ops_len h5 hr
  have ht4 := rowM_t hr
  refine Ret.of_at (N := 47) Tryd.call55 Tryd.func55 rfl rfl rfl ?_
  have hE := Ext.refl H
  have z_hE := hE.lt
  have z_hT := hT.lt
  have z_hB := hB.lt
  refine At.region rfl rfl ?_
  refine Reg.pur rfl rfl rfl rfl (Pur.asg rfl) ?_
  refine Reg.nil ?_
  refine At.region rfl rfl ?_
  refine Reg.pur rfl rfl rfl rfl (Pur.asg rfl) ?_
  refine Reg.nil ?_
  refine At.region rfl rfl ?_
  refine Reg.pur rfl rfl rfl rfl (Pur.mv rfl) ?_
  refine Reg.pur rfl rfl rfl rfl (Pur.nilc rfl) ?_
  refine Reg.pur rfl rfl rfl rfl (Pur.fld _ fo24_0 rfl) ?_
  refine Reg.lod rfl rfl rfl rfl (Lod.ldn ag22 rfl hB (show _ = Is (r.take 4) by rw [Nat.add_zero]; have h9 := congrArg (List.take 4) hc; rw [List.take_take] at h9; rw [show min 4 5 = 4 from rfl] at h9; rw [h9]; simp [Is, List.map_take]) (by simp [h5])) ?_
  refine Reg.pur rfl rfl rfl rfl (Pur.mv rfl) ?_
  refine Reg.nil ?_
  refine At.loop (σ := Nat × Option Addr × Nat) (fun (i, A', cap') => [(13, I i), (5, .slice A' (opsTo r i).length cap'), (12, .agg (Is (r.take 4)).toArray), (0, ptr rb ro), (1, .func (.func g) #[] us.toArray)]) (fun (i, A', cap') H' => i ≤ 4 ∧ Ext H H' ∧ Tens H' ∧ Blk H' rb cg ∧ Gs H' H.size 9 1 A' cap' (opsTo r i).length ((opsTo r i).flatMap Ss)) (fun s => 4 - s.1) (0, none, 0) rfl ⟨rfl, rfl, rfl, rfl, rfl, trivial⟩ ⟨by omega, hE, hT, hB, OwnS.nilG⟩ ?_
  clear hE hT hB
  rintro ⟨i, A', cap'⟩ H1 ⟨hi, hE, hT, hB, hg⟩ ih
  dsimp only at hi hg ⊢
  have z_hE := hE.lt
  have z_hT := hT.lt
  have z_hB := hB.lt
  have z_hg := hg.lt
  refine At.region rfl rfl ?_
  refine Reg.pur rfl rfl rfl rfl (Pur.lss rfl rfl) ?_
  refine Reg.nil ?_
  refine At.cond rfl rfl (fun q14 => ?_) (fun q14 => ?_)
  · first | (simp only [decide_eq_true_eq, decide_eq_false_iff_not, Bool.not_eq_true', Bool.not_eq_false', ne_eq, Decidable.not_not, Bool.not_eq_true, Bool.not_eq_false] at q14) | (dsimp only at q14) | skip
    have hlt : i < (r.take 4).length := by simp [h5]; omega
    have hat4 := take4_at h5 (i := i) (by omega)
    have hai : (Is (r.take 4))[(i : Int).toNat]? = some (I (r.getD i 0)) := by
      have : (Is (r.take 4))[i]? = some (I (r.take 4)[i]) := by simp only [Is, List.getElem?_map, List.getElem?_eq_getElem hlt, Option.map_some]
      rw [hat4] at this
      exact this
    have hi4 : i < 4 := by omega
    have hci := hcnt i hi4
    have hli := hln i (by omega)
    refine At.region rfl rfl ?_
    refine Reg.pur rfl rfl rfl rfl (Pur.mv rfl) ?_
    refine Reg.pur rfl rfl rfl rfl (Pur.ixA (n := 4) (by kernel_rfl) rfl rfl (by omega) (by omega) hai) ?_
    refine Reg.pur rfl rfl rfl rfl (Pur.asg rfl) ?_
    refine Reg.pur rfl rfl rfl rfl (Pur.asg rfl) ?_
    refine Reg.nil ?_
    refine At.region rfl rfl ?_
    refine Reg.pur rfl rfl rfl rfl (Pur.mv rfl) ?_
    refine Reg.pur rfl rfl rfl rfl (Pur.mv rfl) ?_
    refine Reg.nil ?_
    refine At.loop (σ := Nat × Option Addr × Nat) (fun (k, A', cap') => [(18, I k), (17, I (r.getD i 0)), (6, I i), (13, I i), (5, .slice A' (opsTo r i ++ List.replicate k (opn i)).length cap'), (12, .agg (Is (r.take 4)).toArray), (0, ptr rb ro), (1, .func (.func g) #[] us.toArray)]) (fun (k, A', cap') H' => (k : Int) ≤ r.getD i 0 ∧ Ext H H' ∧ Tens H' ∧ Blk H' rb cg ∧ Gs H' H.size 9 1 A' cap' (opsTo r i ++ List.replicate k (opn i)).length ((opsTo r i ++ List.replicate k (opn i)).flatMap Ss)) (fun s => (r.getD i 0).toNat - s.1) (0, A', cap') rfl ⟨rfl, rfl, rfl, rfl, by simp [lk], rfl, rfl, rfl, trivial⟩ ⟨by omega, hE, hT, hB, by simpa using hg⟩ ?_
    clear hE hT hB hg
    rintro ⟨k, A2', cap2'⟩ H2 ⟨hk, hE, hT, hB, hg⟩ ih2
    dsimp only at hk hg ⊢
    have z_hE := hE.lt
    have z_hT := hT.lt
    have z_hB := hB.lt
    have z_hg := hg.lt
    refine At.region rfl rfl ?_
    refine Reg.pur rfl rfl rfl rfl (Pur.lss rfl rfl) ?_
    refine Reg.nil ?_
    refine At.cond rfl rfl (fun q19 => ?_) (fun q19 => ?_)
    · first | (simp only [decide_eq_true_eq, decide_eq_false_iff_not, Bool.not_eq_true', Bool.not_eq_false', ne_eq, Decidable.not_not, Bool.not_eq_true, Bool.not_eq_false] at q19) | (dsimp only at q19) | skip
      refine At.region rfl rfl ?_
      refine Reg.pur rfl rfl rfl rfl (Pur.mv rfl) ?_
      refine Reg.pur rfl rfl rfl rfl (Pur.mv rfl) ?_
      refine Reg.op rfl rfl rfl rfl (Does.call rfl (itoa_ok i (by omega) hT)) ?_
      rintro _ H7_2 ⟨rfl, hE7_2⟩
      have z7_2 := hE7_2.lt
      replace hE := hE.ext hE7_2
      replace hT := hT.ext hE7_2
      replace hB := hB.ext hE7_2
      replace hg := hg.ext hE7_2
      refine Reg.pur rfl rfl rfl rfl (Pur.addS rfl rfl (szs (sl1 _) (dec_size _) (by decide))) ?_
      refine Reg.op rfl rfl rfl rfl (Does.bsl1 sl1_123 rfl rfl rfl rfl rfl) ?_
      rintro _ H7_4 ⟨rfl, hn7_4⟩
      have z7_4 := hn7_4.size
      replace hE := hE.ext hn7_4.ext
      replace hT := hT.ext hn7_4.ext
      replace hB := hB.ext hn7_4.ext
      replace hg := hg.ext hn7_4.ext
      have o7_4 := hn7_4.own
      refine Reg.op rfl rfl rfl rfl (Does.appL apt123 rfl rfl (by decide) hg (wideS _) (sl_new (L := [opn i]) (wideS _) (by decide) hn7_4 (by simp)) (ones_Ss _) (by simp; omega) (by omega)) ?_
      rintro _ H7_5 ⟨A7_5, cap7_5, rfl, g7_5, hbut7_5, ha7_5⟩
      have z7_5 := hbut7_5.lt
      replace hE := hE.via hbut7_5 (by first | omega | (intro g; omega) | (intro g hg; omega) | (intro g hg h; omega))
      replace hT := hT.via hbut7_5 (by first | omega | (intro g; omega) | (intro g hg; omega) | (intro g hg h; omega))
      replace hB := hB.via hbut7_5 (by first | omega | (intro g; omega) | (intro g hg; omega) | (intro g hg h; omega))
      replace o7_4 := o7_4.via hbut7_5 (by first | omega | (intro g; omega) | (intro g hg; omega) | (intro g hg h; omega))
      replace hg := g7_5
      have zg7_5 := g7_5.lt
      refine Reg.pur rfl rfl rfl rfl (Pur.asg rfl) ?_
      refine Reg.nil ?_
      refine At.region rfl rfl ?_
      first | refine Reg.pur rfl rfl rfl rfl (Pur.add64 rfl rfl (by omega)) ?_ | refine Reg.pur rfl rfl rfl rfl (Pur.add64 rfl rfl (by assumption)) ?_ | refine Reg.pur rfl rfl rfl rfl (Pur.add rfl rfl) ?_
      refine Reg.pur rfl rfl rfl rfl (Pur.mv rfl) ?_
      refine Reg.nil ?_
      have hs : opsTo r i ++ List.replicate k (opn i) ++ [opn i] = opsTo r i ++ List.replicate (k + 1) (opn i) := by rw [List.replicate_succ', List.append_assoc]
      rw [hs] at hg
      exact At.via (ih2 (k + 1, A7_5, cap7_5) _ ⟨by (show ((k + 1 : Nat) : Int) ≤ _); omega, hE, hT, hB, hg⟩ (by (show _ - (k + 1) < _ - k); omega)) ⟨rfl, rfl, rfl, rfl, by (show some (Value.slice _ _ _) = _); rw [hs], rfl, rfl, rfl, trivial⟩
    first | (simp only [decide_eq_true_eq, decide_eq_false_iff_not, Bool.not_eq_true', Bool.not_eq_false', ne_eq, Decidable.not_not, Bool.not_eq_true, Bool.not_eq_false] at q19) | (dsimp only at q19) | skip
    refine At.region rfl rfl ?_
    first | refine Reg.pur rfl rfl rfl rfl (Pur.add64 rfl rfl (by omega)) ?_ | refine Reg.pur rfl rfl rfl rfl (Pur.add64 rfl rfl (by assumption)) ?_ | refine Reg.pur rfl rfl rfl rfl (Pur.add rfl rfl) ?_
    refine Reg.pur rfl rfl rfl rfl (Pur.mv rfl) ?_
    refine Reg.nil ?_
    have hkr : (k : Nat) = (r.getD i 0).toNat := by omega
    subst hkr
    exact At.via (ih (i + 1, A2', cap2') _ ⟨by (show i + 1 ≤ 4); omega, hE, hT, hB, hg⟩ (by (show 4 - (i + 1) < 4 - i); omega)) ⟨rfl, rfl, rfl, rfl, rfl, trivial⟩
  first | (simp only [decide_eq_true_eq, decide_eq_false_iff_not, Bool.not_eq_true', Bool.not_eq_false', ne_eq, Decidable.not_not, Bool.not_eq_true, Bool.not_eq_false] at q14) | (dsimp only at q14) | skip
  obtain rfl : i = 4 := by omega
  have hs4 := hsz 4 (by omega)
  have hl4 := hln 4 (by omega)
  rw [rall_jn] at hs4
  refine At.region rfl rfl ?_
  refine Reg.pur rfl rfl rfl rfl (Pur.mv rfl) ?_
  refine Reg.op rfl rfl rfl rfl (Does.call rfl (join_ok (own_sl (wideS _) (by decide) hg) (by omega) (by omega))) ?_
  rintro _ H10_1 ⟨rfl, hE10_1⟩
  have z10_1 := hE10_1.lt
  replace hE := hE.ext hE10_1
  replace hT := hT.ext hE10_1
  replace hB := hB.ext hE10_1
  replace hg := hg.ext hE10_1
  refine Reg.pur rfl rfl rfl rfl (Pur.addS rfl rfl (szs (n := 1280) (sl1 _) (by omega) (by decide))) ?_
  refine Reg.pur rfl rfl rfl rfl (Pur.asg rfl) ?_
  refine Reg.nil ?_
  refine At.region rfl rfl ?_
  refine Reg.pur rfl rfl rfl rfl (Pur.mv rfl) ?_
  refine Reg.pur rfl rfl rfl rfl (Pur.nilc rfl) ?_
  refine Reg.pur rfl rfl rfl rfl (Pur.fld _ fo24_1 rfl) ?_
  refine Reg.lod rfl rfl rfl rfl (Lod.ld sc3 rfl hB (hat (j := 4) (by omega))) ?_
  refine Reg.pur rfl rfl rfl rfl (Pur.neq rfl rfl) ?_
  refine Reg.nil ?_
  refine At.cond rfl rfl (fun q35 => ?_) (fun q35 => ?_)
  · first | (simp only [decide_eq_true_eq, decide_eq_false_iff_not, Bool.not_eq_true', Bool.not_eq_false', ne_eq, Decidable.not_not, Bool.not_eq_true, Bool.not_eq_false] at q35) | (dsimp only at q35) | skip
    refine At.region rfl rfl ?_
    refine Reg.pur rfl rfl rfl rfl (Pur.mv rfl) ?_
    refine Reg.pur rfl rfl rfl rfl (Pur.mv rfl) ?_
    refine Reg.pur rfl rfl rfl rfl (Pur.mv rfl) ?_
    refine Reg.pur rfl rfl rfl rfl (Pur.nilc rfl) ?_
    refine Reg.pur rfl rfl rfl rfl (Pur.fld _ fo24_1 rfl) ?_
    refine Reg.lod rfl rfl rfl rfl (Lod.ld sc3 rfl hB (hat (j := 4) (by omega))) ?_
    refine Reg.op rfl rfl rfl rfl (Does.callv rfl rfl (hf _ hE (by omega))) ?_
    rintro _ H12_6 ⟨s, rfl, hss, hQ12_6⟩
    refine Reg.pur rfl rfl rfl rfl (Pur.addS rfl rfl (szs (n := 100) (sl1 _) (by omega) (by decide))) ?_
    refine Reg.pur rfl rfl rfl rfl (Pur.addS rfl rfl (szs (m := 1281) (n := 101) (sza (m := 1) (n := 1280) (sl1 _) (by omega)) (sza (m := 1) (n := 100) (sl1 _) (by omega)) (by decide))) ?_
    refine Reg.pur rfl rfl rfl rfl (Pur.asg rfl) ?_
    refine Reg.nil ?_
    refine At.region rfl rfl ?_
    refine Reg.pur rfl rfl rfl rfl (Pur.mv rfl) ?_
    refine Reg.pur rfl rfl rfl rfl (Pur.addS rfl rfl (szs (m := 1382) (n := 1) (by first | exact sza (m := 1281) (n := 101) (sza (m := 1) (n := 1280) (sl1 _) (by omega)) (sza (m := 1) (n := 100) (sl1 _) (by omega)) | exact Nat.le_trans (sza (m := 1) (n := 1280) (sl1 _) (by omega)) (by decide)) (sl1 _) (by decide))) ?_
    refine Reg.pur rfl rfl rfl rfl (Pur.asg rfl) ?_
    refine Reg.nil ?_
    refine At.ret rfl Tryd.func55 rfl ?_
    refine ⟨s, ?_, _, hE, .inl ⟨by omega, hQ12_6⟩⟩
    unfold wtx
    rw [if_pos (by omega), rall_jn]
    exact congrArg Value.string (WideShapes.bytes_inj (by simp only [dap, List.append_assoc]))
  first | (simp only [decide_eq_true_eq, decide_eq_false_iff_not, Bool.not_eq_true', Bool.not_eq_false', ne_eq, Decidable.not_not, Bool.not_eq_true, Bool.not_eq_false] at q35) | (dsimp only at q35) | skip
  refine At.region rfl rfl ?_
  refine Reg.pur rfl rfl rfl rfl (Pur.mv rfl) ?_
  refine Reg.pur rfl rfl rfl rfl (Pur.addS rfl rfl (szs (m := 1382) (n := 1) (by first | exact sza (m := 1281) (n := 101) (sza (m := 1) (n := 1280) (sl1 _) (by omega)) (sza (m := 1) (n := 100) (sl1 _) (by omega)) | exact Nat.le_trans (sza (m := 1) (n := 1280) (sl1 _) (by omega)) (by decide)) (sl1 _) (by decide))) ?_
  refine Reg.pur rfl rfl rfl rfl (Pur.asg rfl) ?_
  refine Reg.nil ?_
  refine At.ret rfl Tryd.func55 rfl ?_
  refine ⟨⟨#[]⟩, ?_, _, hE, .inr ⟨by omega, rfl⟩⟩
  unfold wtx
  rw [if_neg (by omega), rall_jn]
end Go.Proofs.YtlfillhffpiffaaDoor

namespace Go.Proofs.YtlfillhffpiffaaDoor
set_option linter.unusedSimpArgs false
set_option linter.unusedVariables false
set_option maxRecDepth 8000
open Go Go.Fx Go.Proofs
namespace FactsDShC
theorem es53 : esz Tryd.prog 53 = some 9 := by kernel_rfl
theorem fo55_0 : foff Tryd.prog 55 0 = some 0 := by kernel_rfl
theorem fo65_1 : foff Tryd.prog 65 1 = some 1 := by kernel_rfl
theorem mixed : Tryd.prog.follows .mixedOrders = true := by kernel_rfl
theorem sc3 : sc Tryd.prog 3 = true := by kernel_rfl
theorem sc53 : sc Tryd.prog 53 = true := by kernel_rfl
end FactsDShC
open FactsDShC

abbrev gT : Nat := 0
theorem rtx_neg {R r : List Int} (s : ByteArray) (h : r.getD 4 0 < 0) : wtx r s = rtx R r ∧ rnm R r = R := by
  unfold wtx rtx rnm
  rw [if_neg (by omega), if_neg (by omega), if_neg (by omega)]
  exact ⟨rfl, rfl⟩
end Go.Proofs.YtlfillhffpiffaaDoor

namespace Go.Proofs.YtlfillhffpiffaaDoor
set_option linter.unusedSimpArgs false
set_option linter.unusedVariables false
set_option maxRecDepth 8000
set_option maxHeartbeats 1000000
open Go Go.Fx Go.Proofs
namespace FactsDRwA
theorem ag24 : ag Tryd.prog 24 = some 5 := by kernel_rfl
theorem arr22 : arr Tryd.prog 22 = some (4, 1) := by kernel_rfl
theorem fo24_0 : foff Tryd.prog 24 0 = some 0 := by kernel_rfl
theorem pl24 : places Tryd.prog 24 = some [(0, 4), (4, 1)] := by kernel_rfl
theorem pl91 : places Tryd.prog 91 = some [(0, 1), (1, 1)] := by kernel_rfl
theorem sc3 : sc Tryd.prog 3 = true := by kernel_rfl
theorem zc24 : zc Tryd.prog 24 = some [.int .i64 0, .int .i64 0, .int .i64 0, .int .i64 0, .int .i64 0] := by kernel_rfl
theorem zc91 : zc Tryd.prog 91 = some [.slice none 0 0, .slice none 0 0] := by kernel_rfl
end FactsDRwA
open FactsDRwA

def wth (r : List Int) (op : Int) : List Int × Int := if rowM r = true ∧ 0 ≤ op ∧ op < 4 ∧ r.getD op.toNat 0 < 32 then (r.set op.toNat (r.getD op.toNat 0 + 1), 0) else (noRow, 800)
theorem wth_no {r : List Int} {op : Int} (h : ¬ (rowM r = true ∧ 0 ≤ op ∧ op < 4 ∧ r.getD op.toNat 0 < 32)) : wth r op = (noRow, 800) := if_neg h
theorem wth_yes {r : List Int} {op : Int} (h : rowM r = true ∧ 0 ≤ op ∧ op < 4 ∧ r.getD op.toNat 0 < 32) : wth r op = (r.set op.toNat (r.getD op.toNat 0 + 1), 0) := if_pos h
theorem wth_len {r : List Int} (h5 : r.length = 5) (op : Int) : (wth r op).1.length = 5 := by
  unfold wth; split
  · simp [h5]
  · rfl
theorem is_op {r : List Int} (h5 : r.length = 5) {op : Int} (h0 : 0 ≤ op) (h4 : op < 4) : (Is r)[0 + 0 + op.toNat * 1]? = some (I (r.getD op.toNat 0)) := by
  rw [show 0 + 0 + op.toNat * 1 = op.toNat from by omega]; exact at_Is (by omega)

theorem withP_ok {r : List Int} (h5 : r.length = 5) (op : Int) {H : Heap} :
    Ret Tryd.prog 22 [.agg (Is r).toArray, I op] H (fun v H' => v = .tuple #[.agg (Is (wth r op).1).toArray, I (wth r op).2] ∧ Ext H H') := by
  have h5' : (Is r).length = 5 := by simp [h5]
  have hcnt := fun (h : rowM r = true) => row_cnt h5 h op.toNat
  have hs5 : (Is (r.set op.toNat (r.getD op.toNat 0 + 1))).length = 5 := by simp [h5]
  refine Ret.of_at (N := 33) Tryd.call22 Tryd.func22 rfl rfl rfl ?_
  have hE := Ext.refl H
  refine At.region rfl rfl ?_
  refine Reg.op rfl rfl rfl rfl (Does.box rfl rfl) ?_
  rintro _ H0_0 ⟨rfl, hn0_0⟩
  have z0_0 := hn0_0.size
  replace hE := hE.ext hn0_0.ext
  have o0_0 := hn0_0.own
  refine Reg.op rfl rfl rfl rfl (Does.alloc zc24) ?_
  rintro _ H0_1 ⟨rfl, hn0_1⟩
  have z0_1 := hn0_1.size
  replace hE := hE.ext hn0_1.ext
  replace o0_0 := o0_0.ext hn0_1.ext
  have o0_1 := hn0_1.own
  refine Reg.pur rfl rfl rfl rfl (Pur.asg rfl) ?_
  refine Reg.nil ?_
  refine At.region rfl rfl ?_
  refine Reg.lod rfl rfl rfl rfl (Lod.ldn ag24 rfl o0_0.blk (whole h5') h5') ?_
  refine Reg.op rfl rfl rfl rfl (Does.call rfl (rowMay_ok r h5 _)) ?_
  rintro _ H1_1 ⟨rfl, hE1_1⟩
  have z1_1 := hE1_1.lt
  replace hE := hE.ext hE1_1
  replace o0_0 := o0_0.ext hE1_1
  replace o0_1 := o0_1.ext hE1_1
  refine Reg.pur rfl rfl rfl rfl (Pur.not rfl) ?_
  refine Reg.pur rfl rfl rfl rfl (Pur.mv rfl) ?_
  refine Reg.case 9 rfl (fun q9 => ?_) (fun q9 => ?_)
  · first | (simp only [decide_eq_true_eq, decide_eq_false_iff_not, Bool.not_eq_true', Bool.not_eq_false', ne_eq, Decidable.not_not, Bool.not_eq_true, Bool.not_eq_false] at q9) | (dsimp only at q9) | skip
    refine Reg.skip rfl rfl rfl rfl rfl rfl rfl ?_
    refine Reg.skip rfl rfl rfl rfl rfl rfl rfl ?_
    refine Reg.pur rfl rfl rfl rfl (Pur.pickT rfl rfl) ?_
    refine Reg.pur rfl rfl rfl rfl (Pur.mv rfl) ?_
    refine Reg.skip rfl rfl rfl rfl rfl rfl rfl ?_
    refine Reg.skip rfl rfl rfl rfl rfl rfl rfl ?_
    refine Reg.pur rfl rfl rfl rfl (Pur.pickT rfl rfl) ?_
    refine Reg.pur rfl rfl rfl rfl (Pur.mv rfl) ?_
    refine Reg.skip rfl rfl rfl rfl rfl rfl rfl ?_
    refine Reg.skip rfl rfl rfl rfl rfl rfl rfl ?_
    refine Reg.skip rfl rfl rfl rfl rfl rfl rfl ?_
    refine Reg.skip rfl rfl rfl rfl rfl rfl rfl ?_
    refine Reg.skip rfl rfl rfl rfl rfl rfl rfl ?_
    refine Reg.pur rfl rfl rfl rfl (Pur.pickT rfl rfl) ?_
    refine Reg.nil ?_
    refine At.condT rfl rfl rfl ?_
    refine At.region rfl rfl ?_
    refine Reg.pur rfl rfl rfl rfl (Pur.bld (cs := [_, _, _, _, _]) pl24 zc24 rfl rfl ⟨rfl, rfl, rfl, rfl, rfl, rfl⟩) ?_
    refine Reg.op0 rfl rfl rfl (Does.stn ag24 rfl rfl (by first | rfl | exact ones_Is _) (by first | rfl | (simp [*]; done)) o0_1 (by first | decide | (simp; done) | (simp; omega) | omega)) ?_
    rintro _ H2_1 hu2_1
    have z2_1 := hu2_1.size
    replace hE := hE.upw hu2_1 (by omega)
    replace o0_0 := o0_0.upw hu2_1 (by omega)
    replace o0_1 := hu2_1.own
    first | rw [over (by first | rfl | (simp; done))] at o0_1 | skip
    refine Reg.pur rfl rfl rfl rfl (Pur.asg rfl) ?_
    refine Reg.nil ?_
    refine At.retC rfl Tryd.func22 ⟨_, _, _, _, rfl, rfl, ⟨_, o0_1.blk, .inr ⟨_, _, ag24, (whole rfl), rfl, rfl⟩⟩, ⟨_, _, rfl, rfl, rfl⟩⟩ ?_
    rw [wth_no (by rintro ⟨h1, h2, h3, h4⟩; first | omega | simp_all)]
    exact ⟨rfl, hE⟩
  first | (simp only [decide_eq_true_eq, decide_eq_false_iff_not, Bool.not_eq_true', Bool.not_eq_false', ne_eq, Decidable.not_not, Bool.not_eq_true, Bool.not_eq_false] at q9) | (dsimp only at q9) | skip
  refine Reg.gpur rfl rfl rfl rfl rfl rfl (Pur.mv rfl) ?_
  refine Reg.gpur rfl rfl rfl rfl rfl rfl (Pur.lss rfl rfl) ?_
  refine Reg.pur rfl rfl rfl rfl (Pur.pickF rfl rfl) ?_
  refine Reg.pur rfl rfl rfl rfl (Pur.mv rfl) ?_
  refine Reg.case 13 rfl (fun q13 => ?_) (fun q13 => ?_)
  · first | (simp only [decide_eq_true_eq, decide_eq_false_iff_not, Bool.not_eq_true', Bool.not_eq_false', ne_eq, Decidable.not_not, Bool.not_eq_true, Bool.not_eq_false] at q13) | (dsimp only at q13) | skip
    refine Reg.skip rfl rfl rfl rfl rfl rfl rfl ?_
    refine Reg.skip rfl rfl rfl rfl rfl rfl rfl ?_
    refine Reg.pur rfl rfl rfl rfl (Pur.pickT rfl rfl) ?_
    refine Reg.pur rfl rfl rfl rfl (Pur.mv rfl) ?_
    refine Reg.skip rfl rfl rfl rfl rfl rfl rfl ?_
    refine Reg.skip rfl rfl rfl rfl rfl rfl rfl ?_
    refine Reg.skip rfl rfl rfl rfl rfl rfl rfl ?_
    refine Reg.skip rfl rfl rfl rfl rfl rfl rfl ?_
    refine Reg.skip rfl rfl rfl rfl rfl rfl rfl ?_
    refine Reg.pur rfl rfl rfl rfl (Pur.pickT rfl rfl) ?_
    refine Reg.nil ?_
    refine At.condT rfl rfl rfl ?_
    refine At.region rfl rfl ?_
    refine Reg.pur rfl rfl rfl rfl (Pur.bld (cs := [_, _, _, _, _]) pl24 zc24 rfl rfl ⟨rfl, rfl, rfl, rfl, rfl, rfl⟩) ?_
    refine Reg.op0 rfl rfl rfl (Does.stn ag24 rfl rfl (by first | rfl | exact ones_Is _) (by first | rfl | (simp [*]; done)) o0_1 (by first | decide | (simp; done) | (simp; omega) | omega)) ?_
    rintro _ H2_1 hu2_1
    have z2_1 := hu2_1.size
    replace hE := hE.upw hu2_1 (by omega)
    replace o0_0 := o0_0.upw hu2_1 (by omega)
    replace o0_1 := hu2_1.own
    first | rw [over (by first | rfl | (simp; done))] at o0_1 | skip
    refine Reg.pur rfl rfl rfl rfl (Pur.asg rfl) ?_
    refine Reg.nil ?_
    refine At.retC rfl Tryd.func22 ⟨_, _, _, _, rfl, rfl, ⟨_, o0_1.blk, .inr ⟨_, _, ag24, (whole rfl), rfl, rfl⟩⟩, ⟨_, _, rfl, rfl, rfl⟩⟩ ?_
    rw [wth_no (by rintro ⟨h1, h2, h3, h4⟩; first | omega | simp_all)]
    exact ⟨rfl, hE⟩
  first | (simp only [decide_eq_true_eq, decide_eq_false_iff_not, Bool.not_eq_true', Bool.not_eq_false', ne_eq, Decidable.not_not, Bool.not_eq_true, Bool.not_eq_false] at q13) | (dsimp only at q13) | skip
  refine Reg.gpur rfl rfl rfl rfl rfl rfl (Pur.mv rfl) ?_
  refine Reg.gpur rfl rfl rfl rfl rfl rfl (Pur.geq rfl rfl) ?_
  refine Reg.pur rfl rfl rfl rfl (Pur.pickF rfl rfl) ?_
  refine Reg.pur rfl rfl rfl rfl (Pur.mv rfl) ?_
  refine Reg.case 17 rfl (fun q17 => ?_) (fun q17 => ?_)
  · first | (simp only [decide_eq_true_eq, decide_eq_false_iff_not, Bool.not_eq_true', Bool.not_eq_false', ne_eq, Decidable.not_not, Bool.not_eq_true, Bool.not_eq_false] at q17) | (dsimp only at q17) | skip
    refine Reg.skip rfl rfl rfl rfl rfl rfl rfl ?_
    refine Reg.skip rfl rfl rfl rfl rfl rfl rfl ?_
    refine Reg.skip rfl rfl rfl rfl rfl rfl rfl ?_
    refine Reg.skip rfl rfl rfl rfl rfl rfl rfl ?_
    refine Reg.skip rfl rfl rfl rfl rfl rfl rfl ?_
    refine Reg.pur rfl rfl rfl rfl (Pur.pickT rfl rfl) ?_
    refine Reg.nil ?_
    refine At.condT rfl rfl rfl ?_
    refine At.region rfl rfl ?_
    refine Reg.pur rfl rfl rfl rfl (Pur.bld (cs := [_, _, _, _, _]) pl24 zc24 rfl rfl ⟨rfl, rfl, rfl, rfl, rfl, rfl⟩) ?_
    refine Reg.op0 rfl rfl rfl (Does.stn ag24 rfl rfl (by first | rfl | exact ones_Is _) (by first | rfl | (simp [*]; done)) o0_1 (by first | decide | (simp; done) | (simp; omega) | omega)) ?_
    rintro _ H2_1 hu2_1
    have z2_1 := hu2_1.size
    replace hE := hE.upw hu2_1 (by omega)
    replace o0_0 := o0_0.upw hu2_1 (by omega)
    replace o0_1 := hu2_1.own
    first | rw [over (by first | rfl | (simp; done))] at o0_1 | skip
    refine Reg.pur rfl rfl rfl rfl (Pur.asg rfl) ?_
    refine Reg.nil ?_
    refine At.retC rfl Tryd.func22 ⟨_, _, _, _, rfl, rfl, ⟨_, o0_1.blk, .inr ⟨_, _, ag24, (whole rfl), rfl, rfl⟩⟩, ⟨_, _, rfl, rfl, rfl⟩⟩ ?_
    rw [wth_no (by rintro ⟨h1, h2, h3, h4⟩; first | omega | simp_all)]
    exact ⟨rfl, hE⟩
  first | (simp only [decide_eq_true_eq, decide_eq_false_iff_not, Bool.not_eq_true', Bool.not_eq_false', ne_eq, Decidable.not_not, Bool.not_eq_true, Bool.not_eq_false] at q17) | (dsimp only at q17) | skip
  refine Reg.gpur rfl rfl rfl rfl rfl rfl (Pur.mv rfl) ?_
  refine Reg.gpur rfl rfl rfl rfl rfl rfl (Pur.fld _ fo24_0 rfl) ?_
  refine Reg.gpur rfl rfl rfl rfl rfl rfl (Pur.idxP arr22 rfl rfl (by omega) (by omega)) ?_
  refine Reg.glod rfl rfl rfl rfl rfl rfl (Lod.ld sc3 rfl o0_0.blk (is_op h5 (by omega) (by omega))) ?_
  refine Reg.gpur rfl rfl rfl rfl rfl rfl (Pur.eql rfl rfl) ?_
  refine Reg.pur rfl rfl rfl rfl (Pur.pickF rfl rfl) ?_
  refine Reg.nil ?_
  refine At.cond rfl rfl (fun q23 => ?_) (fun q23 => ?_)
  · first | (simp only [decide_eq_true_eq, decide_eq_false_iff_not, Bool.not_eq_true', Bool.not_eq_false', ne_eq, Decidable.not_not, Bool.not_eq_true, Bool.not_eq_false] at q23) | (dsimp only at q23) | skip
    refine At.region rfl rfl ?_
    refine Reg.pur rfl rfl rfl rfl (Pur.bld (cs := [_, _, _, _, _]) pl24 zc24 rfl rfl ⟨rfl, rfl, rfl, rfl, rfl, rfl⟩) ?_
    refine Reg.op0 rfl rfl rfl (Does.stn ag24 rfl rfl (by first | rfl | exact ones_Is _) (by first | rfl | (simp [*]; done)) o0_1 (by first | decide | (simp; done) | (simp; omega) | omega)) ?_
    rintro _ H2_1 hu2_1
    have z2_1 := hu2_1.size
    replace hE := hE.upw hu2_1 (by omega)
    replace o0_0 := o0_0.upw hu2_1 (by omega)
    replace o0_1 := hu2_1.own
    first | rw [over (by first | rfl | (simp; done))] at o0_1 | skip
    refine Reg.pur rfl rfl rfl rfl (Pur.asg rfl) ?_
    refine Reg.nil ?_
    refine At.retC rfl Tryd.func22 ⟨_, _, _, _, rfl, rfl, ⟨_, o0_1.blk, .inr ⟨_, _, ag24, (whole rfl), rfl, rfl⟩⟩, ⟨_, _, rfl, rfl, rfl⟩⟩ ?_
    rw [wth_no (by rintro ⟨h1, h2, h3, h4⟩; first | omega | simp_all)]
    exact ⟨rfl, hE⟩
  first | (simp only [decide_eq_true_eq, decide_eq_false_iff_not, Bool.not_eq_true', Bool.not_eq_false', ne_eq, Decidable.not_not, Bool.not_eq_true, Bool.not_eq_false] at q23) | (dsimp only at q23) | skip
  have hc3 := hcnt q9 (by omega)
  refine At.region rfl rfl ?_
  refine Reg.pur rfl rfl rfl rfl (Pur.mv rfl) ?_
  refine Reg.pur rfl rfl rfl rfl (Pur.fld _ fo24_0 rfl) ?_
  refine Reg.pur rfl rfl rfl rfl (Pur.idxP arr22 rfl rfl (by omega) (by omega)) ?_
  refine Reg.lod rfl rfl rfl rfl (Lod.ld sc3 rfl o0_0.blk (is_op h5 (by omega) (by omega))) ?_
  refine Reg.pur rfl rfl rfl rfl (Pur.add64 rfl rfl (by omega)) ?_
  refine Reg.pur rfl rfl rfl rfl (Pur.fld _ fo24_0 rfl) ?_
  refine Reg.pur rfl rfl rfl rfl (Pur.idxP arr22 rfl rfl (by omega) (by omega)) ?_
  refine Reg.op0 rfl rfl rfl (Does.st sc3 rfl rfl rfl o0_0 (by rw [h5']; omega)) ?_
  rintro _ H3_7 hu3_7
  have z3_7 := hu3_7.size
  replace hE := hE.upw hu3_7 (by omega)
  replace o0_1 := o0_1.upw hu3_7 (by omega)
  replace o0_0 := hu3_7.own
  replace o0_0 : Own H3_7 H.size (Is (r.set op.toNat (r.getD op.toNat 0 + 1))) := o0_0.of (by rw [show 0 + 0 + op.toNat * 1 = op.toNat from by omega]; simp [Is, List.map_set])
  refine Reg.nil ?_
  refine At.region rfl rfl ?_
  refine Reg.lod rfl rfl rfl rfl (Lod.ldn ag24 rfl o0_0.blk (whole hs5) hs5) ?_
  refine Reg.op0 rfl rfl rfl (Does.stn ag24 rfl rfl (by first | rfl | exact ones_Is _) (by first | rfl | (simp [*]; done)) o0_1 (by first | decide | (simp; done) | (simp; omega) | omega)) ?_
  rintro _ H4_1 hu4_1
  have z4_1 := hu4_1.size
  replace hE := hE.upw hu4_1 (by omega)
  replace o0_0 := o0_0.upw hu4_1 (by omega)
  replace o0_1 := hu4_1.own
  first | rw [over (by first | rfl | (simp; done))] at o0_1 | skip
  refine Reg.pur rfl rfl rfl rfl (Pur.asg rfl) ?_
  refine Reg.nil ?_
  refine At.retC rfl Tryd.func22 ⟨_, _, _, _, rfl, rfl, ⟨_, o0_1.blk, .inr ⟨_, _, ag24, (whole hs5), hs5, rfl⟩⟩, ⟨_, _, rfl, rfl, rfl⟩⟩ ?_
  rw [wth_yes ⟨q9, by omega, by omega, by omega⟩]
  exact ⟨rfl, hE⟩
theorem withR_ok {r : List Int} (h5 : r.length = 5) (op : Int) {H : Heap} :
    Ret Tryd.prog 23 [.agg (Is r).toArray, I op] H (fun v H' => v = .tuple #[.agg (Is (wth r op).1).toArray, I (wth r op).2] ∧ Ext H H') := by
  have h5' : (Is r).length = 5 := by simp [h5]
  have hcnt := fun (h : rowM r = true) => row_cnt h5 h op.toNat
  have hs5 : (Is (r.set op.toNat (r.getD op.toNat 0 + 1))).length = 5 := by simp [h5]
  refine Ret.of_at (N := 34) Tryd.call23 Tryd.func23 rfl rfl rfl ?_
  have hE := Ext.refl H
  refine At.region rfl rfl ?_
  refine Reg.op rfl rfl rfl rfl (Does.box rfl rfl) ?_
  rintro _ H0_0 ⟨rfl, hn0_0⟩
  have z0_0 := hn0_0.size
  replace hE := hE.ext hn0_0.ext
  have o0_0 := hn0_0.own
  refine Reg.op rfl rfl rfl rfl (Does.alloc zc24) ?_
  rintro _ H0_1 ⟨rfl, hn0_1⟩
  have z0_1 := hn0_1.size
  replace hE := hE.ext hn0_1.ext
  replace o0_0 := o0_0.ext hn0_1.ext
  have o0_1 := hn0_1.own
  refine Reg.pur rfl rfl rfl rfl (Pur.asg rfl) ?_
  refine Reg.nil ?_
  refine At.region rfl rfl ?_
  refine Reg.lod rfl rfl rfl rfl (Lod.ldn ag24 rfl o0_0.blk (whole h5') h5') ?_
  refine Reg.op rfl rfl rfl rfl (Does.call rfl (rowMayR_ok r h5 _)) ?_
  rintro _ H1_1 ⟨rfl, hE1_1⟩
  have z1_1 := hE1_1.lt
  replace hE := hE.ext hE1_1
  replace o0_0 := o0_0.ext hE1_1
  replace o0_1 := o0_1.ext hE1_1
  refine Reg.pur rfl rfl rfl rfl (Pur.not rfl) ?_
  refine Reg.pur rfl rfl rfl rfl (Pur.mv rfl) ?_
  refine Reg.case 9 rfl (fun q9 => ?_) (fun q9 => ?_)
  · first | (simp only [decide_eq_true_eq, decide_eq_false_iff_not, Bool.not_eq_true', Bool.not_eq_false', ne_eq, Decidable.not_not, Bool.not_eq_true, Bool.not_eq_false] at q9) | (dsimp only at q9) | skip
    refine Reg.skip rfl rfl rfl rfl rfl rfl rfl ?_
    refine Reg.skip rfl rfl rfl rfl rfl rfl rfl ?_
    refine Reg.pur rfl rfl rfl rfl (Pur.pickT rfl rfl) ?_
    refine Reg.pur rfl rfl rfl rfl (Pur.mv rfl) ?_
    refine Reg.skip rfl rfl rfl rfl rfl rfl rfl ?_
    refine Reg.skip rfl rfl rfl rfl rfl rfl rfl ?_
    refine Reg.pur rfl rfl rfl rfl (Pur.pickT rfl rfl) ?_
    refine Reg.pur rfl rfl rfl rfl (Pur.mv rfl) ?_
    refine Reg.skip rfl rfl rfl rfl rfl rfl rfl ?_
    refine Reg.skip rfl rfl rfl rfl rfl rfl rfl ?_
    refine Reg.skip rfl rfl rfl rfl rfl rfl rfl ?_
    refine Reg.skip rfl rfl rfl rfl rfl rfl rfl ?_
    refine Reg.skip rfl rfl rfl rfl rfl rfl rfl ?_
    refine Reg.pur rfl rfl rfl rfl (Pur.pickT rfl rfl) ?_
    refine Reg.nil ?_
    refine At.condT rfl rfl rfl ?_
    refine At.region rfl rfl ?_
    refine Reg.pur rfl rfl rfl rfl (Pur.bld (cs := [_, _, _, _, _]) pl24 zc24 rfl rfl ⟨rfl, rfl, rfl, rfl, rfl, rfl⟩) ?_
    refine Reg.op0 rfl rfl rfl (Does.stn ag24 rfl rfl (by first | rfl | exact ones_Is _) (by first | rfl | (simp [*]; done)) o0_1 (by first | decide | (simp; done) | (simp; omega) | omega)) ?_
    rintro _ H2_1 hu2_1
    have z2_1 := hu2_1.size
    replace hE := hE.upw hu2_1 (by omega)
    replace o0_0 := o0_0.upw hu2_1 (by omega)
    replace o0_1 := hu2_1.own
    first | rw [over (by first | rfl | (simp; done))] at o0_1 | skip
    refine Reg.pur rfl rfl rfl rfl (Pur.asg rfl) ?_
    refine Reg.nil ?_
    refine At.retC rfl Tryd.func23 ⟨_, _, _, _, rfl, rfl, ⟨_, o0_1.blk, .inr ⟨_, _, ag24, (whole rfl), rfl, rfl⟩⟩, ⟨_, _, rfl, rfl, rfl⟩⟩ ?_
    rw [wth_no (by rintro ⟨h1, h2, h3, h4⟩; first | omega | simp_all)]
    exact ⟨rfl, hE⟩
  first | (simp only [decide_eq_true_eq, decide_eq_false_iff_not, Bool.not_eq_true', Bool.not_eq_false', ne_eq, Decidable.not_not, Bool.not_eq_true, Bool.not_eq_false] at q9) | (dsimp only at q9) | skip
  refine Reg.gpur rfl rfl rfl rfl rfl rfl (Pur.mv rfl) ?_
  refine Reg.gpur rfl rfl rfl rfl rfl rfl (Pur.lss rfl rfl) ?_
  refine Reg.pur rfl rfl rfl rfl (Pur.pickF rfl rfl) ?_
  refine Reg.pur rfl rfl rfl rfl (Pur.mv rfl) ?_
  refine Reg.case 13 rfl (fun q13 => ?_) (fun q13 => ?_)
  · first | (simp only [decide_eq_true_eq, decide_eq_false_iff_not, Bool.not_eq_true', Bool.not_eq_false', ne_eq, Decidable.not_not, Bool.not_eq_true, Bool.not_eq_false] at q13) | (dsimp only at q13) | skip
    refine Reg.skip rfl rfl rfl rfl rfl rfl rfl ?_
    refine Reg.skip rfl rfl rfl rfl rfl rfl rfl ?_
    refine Reg.pur rfl rfl rfl rfl (Pur.pickT rfl rfl) ?_
    refine Reg.pur rfl rfl rfl rfl (Pur.mv rfl) ?_
    refine Reg.skip rfl rfl rfl rfl rfl rfl rfl ?_
    refine Reg.skip rfl rfl rfl rfl rfl rfl rfl ?_
    refine Reg.skip rfl rfl rfl rfl rfl rfl rfl ?_
    refine Reg.skip rfl rfl rfl rfl rfl rfl rfl ?_
    refine Reg.skip rfl rfl rfl rfl rfl rfl rfl ?_
    refine Reg.pur rfl rfl rfl rfl (Pur.pickT rfl rfl) ?_
    refine Reg.nil ?_
    refine At.condT rfl rfl rfl ?_
    refine At.region rfl rfl ?_
    refine Reg.pur rfl rfl rfl rfl (Pur.bld (cs := [_, _, _, _, _]) pl24 zc24 rfl rfl ⟨rfl, rfl, rfl, rfl, rfl, rfl⟩) ?_
    refine Reg.op0 rfl rfl rfl (Does.stn ag24 rfl rfl (by first | rfl | exact ones_Is _) (by first | rfl | (simp [*]; done)) o0_1 (by first | decide | (simp; done) | (simp; omega) | omega)) ?_
    rintro _ H2_1 hu2_1
    have z2_1 := hu2_1.size
    replace hE := hE.upw hu2_1 (by omega)
    replace o0_0 := o0_0.upw hu2_1 (by omega)
    replace o0_1 := hu2_1.own
    first | rw [over (by first | rfl | (simp; done))] at o0_1 | skip
    refine Reg.pur rfl rfl rfl rfl (Pur.asg rfl) ?_
    refine Reg.nil ?_
    refine At.retC rfl Tryd.func23 ⟨_, _, _, _, rfl, rfl, ⟨_, o0_1.blk, .inr ⟨_, _, ag24, (whole rfl), rfl, rfl⟩⟩, ⟨_, _, rfl, rfl, rfl⟩⟩ ?_
    rw [wth_no (by rintro ⟨h1, h2, h3, h4⟩; first | omega | simp_all)]
    exact ⟨rfl, hE⟩
  first | (simp only [decide_eq_true_eq, decide_eq_false_iff_not, Bool.not_eq_true', Bool.not_eq_false', ne_eq, Decidable.not_not, Bool.not_eq_true, Bool.not_eq_false] at q13) | (dsimp only at q13) | skip
  refine Reg.gpur rfl rfl rfl rfl rfl rfl (Pur.mv rfl) ?_
  refine Reg.gpur rfl rfl rfl rfl rfl rfl (Pur.geq rfl rfl) ?_
  refine Reg.pur rfl rfl rfl rfl (Pur.pickF rfl rfl) ?_
  refine Reg.pur rfl rfl rfl rfl (Pur.mv rfl) ?_
  refine Reg.case 17 rfl (fun q17 => ?_) (fun q17 => ?_)
  · first | (simp only [decide_eq_true_eq, decide_eq_false_iff_not, Bool.not_eq_true', Bool.not_eq_false', ne_eq, Decidable.not_not, Bool.not_eq_true, Bool.not_eq_false] at q17) | (dsimp only at q17) | skip
    refine Reg.skip rfl rfl rfl rfl rfl rfl rfl ?_
    refine Reg.skip rfl rfl rfl rfl rfl rfl rfl ?_
    refine Reg.skip rfl rfl rfl rfl rfl rfl rfl ?_
    refine Reg.skip rfl rfl rfl rfl rfl rfl rfl ?_
    refine Reg.skip rfl rfl rfl rfl rfl rfl rfl ?_
    refine Reg.pur rfl rfl rfl rfl (Pur.pickT rfl rfl) ?_
    refine Reg.nil ?_
    refine At.condT rfl rfl rfl ?_
    refine At.region rfl rfl ?_
    refine Reg.pur rfl rfl rfl rfl (Pur.bld (cs := [_, _, _, _, _]) pl24 zc24 rfl rfl ⟨rfl, rfl, rfl, rfl, rfl, rfl⟩) ?_
    refine Reg.op0 rfl rfl rfl (Does.stn ag24 rfl rfl (by first | rfl | exact ones_Is _) (by first | rfl | (simp [*]; done)) o0_1 (by first | decide | (simp; done) | (simp; omega) | omega)) ?_
    rintro _ H2_1 hu2_1
    have z2_1 := hu2_1.size
    replace hE := hE.upw hu2_1 (by omega)
    replace o0_0 := o0_0.upw hu2_1 (by omega)
    replace o0_1 := hu2_1.own
    first | rw [over (by first | rfl | (simp; done))] at o0_1 | skip
    refine Reg.pur rfl rfl rfl rfl (Pur.asg rfl) ?_
    refine Reg.nil ?_
    refine At.retC rfl Tryd.func23 ⟨_, _, _, _, rfl, rfl, ⟨_, o0_1.blk, .inr ⟨_, _, ag24, (whole rfl), rfl, rfl⟩⟩, ⟨_, _, rfl, rfl, rfl⟩⟩ ?_
    rw [wth_no (by rintro ⟨h1, h2, h3, h4⟩; first | omega | simp_all)]
    exact ⟨rfl, hE⟩
  first | (simp only [decide_eq_true_eq, decide_eq_false_iff_not, Bool.not_eq_true', Bool.not_eq_false', ne_eq, Decidable.not_not, Bool.not_eq_true, Bool.not_eq_false] at q17) | (dsimp only at q17) | skip
  refine Reg.gpur rfl rfl rfl rfl rfl rfl (Pur.mv rfl) ?_
  refine Reg.gpur rfl rfl rfl rfl rfl rfl (Pur.fld _ fo24_0 rfl) ?_
  refine Reg.gpur rfl rfl rfl rfl rfl rfl (Pur.idxP arr22 rfl rfl (by omega) (by omega)) ?_
  refine Reg.glod rfl rfl rfl rfl rfl rfl (Lod.ld sc3 rfl o0_0.blk (is_op h5 (by omega) (by omega))) ?_
  refine Reg.gpur rfl rfl rfl rfl rfl rfl (Pur.geq rfl rfl) ?_
  refine Reg.pur rfl rfl rfl rfl (Pur.pickF rfl rfl) ?_
  refine Reg.nil ?_
  refine At.cond rfl rfl (fun q23 => ?_) (fun q23 => ?_)
  · first | (simp only [decide_eq_true_eq, decide_eq_false_iff_not, Bool.not_eq_true', Bool.not_eq_false', ne_eq, Decidable.not_not, Bool.not_eq_true, Bool.not_eq_false] at q23) | (dsimp only at q23) | skip
    refine At.region rfl rfl ?_
    refine Reg.pur rfl rfl rfl rfl (Pur.bld (cs := [_, _, _, _, _]) pl24 zc24 rfl rfl ⟨rfl, rfl, rfl, rfl, rfl, rfl⟩) ?_
    refine Reg.op0 rfl rfl rfl (Does.stn ag24 rfl rfl (by first | rfl | exact ones_Is _) (by first | rfl | (simp [*]; done)) o0_1 (by first | decide | (simp; done) | (simp; omega) | omega)) ?_
    rintro _ H2_1 hu2_1
    have z2_1 := hu2_1.size
    replace hE := hE.upw hu2_1 (by omega)
    replace o0_0 := o0_0.upw hu2_1 (by omega)
    replace o0_1 := hu2_1.own
    first | rw [over (by first | rfl | (simp; done))] at o0_1 | skip
    refine Reg.pur rfl rfl rfl rfl (Pur.asg rfl) ?_
    refine Reg.nil ?_
    refine At.retC rfl Tryd.func23 ⟨_, _, _, _, rfl, rfl, ⟨_, o0_1.blk, .inr ⟨_, _, ag24, (whole rfl), rfl, rfl⟩⟩, ⟨_, _, rfl, rfl, rfl⟩⟩ ?_
    rw [wth_no (by rintro ⟨h1, h2, h3, h4⟩; first | omega | simp_all)]
    exact ⟨rfl, hE⟩
  first | (simp only [decide_eq_true_eq, decide_eq_false_iff_not, Bool.not_eq_true', Bool.not_eq_false', ne_eq, Decidable.not_not, Bool.not_eq_true, Bool.not_eq_false] at q23) | (dsimp only at q23) | skip
  have hc3 := hcnt q9 (by omega)
  refine At.region rfl rfl ?_
  refine Reg.pur rfl rfl rfl rfl (Pur.mv rfl) ?_
  refine Reg.pur rfl rfl rfl rfl (Pur.mv rfl) ?_
  refine Reg.pur rfl rfl rfl rfl (Pur.fld _ fo24_0 rfl) ?_
  refine Reg.pur rfl rfl rfl rfl (Pur.idxP arr22 rfl rfl (by omega) (by omega)) ?_
  refine Reg.lod rfl rfl rfl rfl (Lod.ld sc3 rfl o0_0.blk (is_op h5 (by omega) (by omega))) ?_
  refine Reg.pur rfl rfl rfl rfl (Pur.add64 rfl rfl (by omega)) ?_
  refine Reg.pur rfl rfl rfl rfl (Pur.fld _ fo24_0 rfl) ?_
  refine Reg.pur rfl rfl rfl rfl (Pur.idxP arr22 rfl rfl (by omega) (by omega)) ?_
  refine Reg.op0 rfl rfl rfl (Does.st sc3 rfl rfl rfl o0_0 (by rw [h5']; omega)) ?_
  rintro _ H3_8 hu3_8
  have z3_8 := hu3_8.size
  replace hE := hE.upw hu3_8 (by omega)
  replace o0_1 := o0_1.upw hu3_8 (by omega)
  replace o0_0 := hu3_8.own
  replace o0_0 : Own H3_8 H.size (Is (r.set op.toNat (r.getD op.toNat 0 + 1))) := o0_0.of (by rw [show 0 + 0 + op.toNat * 1 = op.toNat from by omega]; simp [Is, List.map_set])
  refine Reg.nil ?_
  refine At.region rfl rfl ?_
  refine Reg.lod rfl rfl rfl rfl (Lod.ldn ag24 rfl o0_0.blk (whole hs5) hs5) ?_
  refine Reg.op0 rfl rfl rfl (Does.stn ag24 rfl rfl (by first | rfl | exact ones_Is _) (by first | rfl | (simp [*]; done)) o0_1 (by first | decide | (simp; done) | (simp; omega) | omega)) ?_
  rintro _ H4_1 hu4_1
  have z4_1 := hu4_1.size
  replace hE := hE.upw hu4_1 (by omega)
  replace o0_0 := o0_0.upw hu4_1 (by omega)
  replace o0_1 := hu4_1.own
  first | rw [over (by first | rfl | (simp; done))] at o0_1 | skip
  refine Reg.pur rfl rfl rfl rfl (Pur.asg rfl) ?_
  refine Reg.nil ?_
  refine At.retC rfl Tryd.func23 ⟨_, _, _, _, rfl, rfl, ⟨_, o0_1.blk, .inr ⟨_, _, ag24, (whole hs5), hs5, rfl⟩⟩, ⟨_, _, rfl, rfl, rfl⟩⟩ ?_
  rw [wth_yes ⟨q9, by omega, by omega, by omega⟩]
  exact ⟨rfl, hE⟩

def rtV (r : List Int) : ByteArray × Int := if rowM r then (rtx [] r, 0) else (⟨#[]⟩, 800)
theorem rtV_no {r : List Int} (h : rowM r = false) : rtV r = (⟨#[]⟩, 800) := by unfold rtV; rw [h]; rfl
theorem rtV_yes {r : List Int} (h : rowM r = true) : rtV r = (rtx [] r, 0) := by unfold rtV; rw [h]; rfl
theorem e0_eq (r : List Int) : (⟨#[101, 48]⟩ : ByteArray) = ⟨#[101]⟩ ++ dec (ixL [] (r.getD 4 0)) := by
  apply WideShapes.bytes_inj
  rw [dap, show ixL [] (r.getD 4 0) = 0 by simp [ixL]]
  kernel_rfl
theorem text1_ok (v : Int) {H : Heap} : Ret Tryd.prog 56 [I v] H (fun w H' => w = .string ⟨#[101, 48]⟩ ∧ H' = H) := by
  refine Ret.of_at (N := 3) Tryd.call56 Tryd.func56 rfl rfl rfl ?_
  have hE := Ext.refl H

  refine At.region rfl rfl ?_
  refine Reg.pur rfl rfl rfl rfl (Pur.asg rfl) ?_
  refine Reg.nil ?_
  refine At.region rfl rfl ?_
  refine Reg.pur rfl rfl rfl rfl (Pur.asg rfl) ?_
  refine Reg.nil ?_
  refine At.ret rfl Tryd.func56 rfl ?_
  exact ⟨rfl, rfl⟩
theorem rowTextP_ok {r : List Int} (h5 : r.length = 5) {H : Heap} (hT : Tens H) :
    Ret Tryd.prog 20 [.agg (Is r).toArray] H (fun v H' => v = .tuple #[.string (rtV r).1, I (rtV r).2] ∧ Ext H H') := by
  have h5' : (Is r).length = 5 := by simp [h5]
  refine Ret.of_at (N := 8) Tryd.call20 Tryd.func20 rfl rfl rfl ?_
  have hE := Ext.refl H
  refine At.region rfl rfl ?_
  refine Reg.op rfl rfl rfl rfl (Does.box rfl rfl) ?_
  rintro _ H0_0 ⟨rfl, hn0_0⟩
  have z0_0 := hn0_0.size
  replace hE := hE.ext hn0_0.ext
  have o0_0 := hn0_0.own
  refine Reg.pur rfl rfl rfl rfl (Pur.asg rfl) ?_
  refine Reg.pur rfl rfl rfl rfl (Pur.asg rfl) ?_
  refine Reg.nil ?_
  refine At.region rfl rfl ?_
  refine Reg.lod rfl rfl rfl rfl (Lod.ldn ag24 rfl o0_0.blk (whole h5') h5') ?_
  refine Reg.op rfl rfl rfl rfl (Does.call rfl (rowMay_ok r h5 _)) ?_
  rintro _ H1_1 ⟨rfl, hE1_1⟩
  have z1_1 := hE1_1.lt
  replace hE := hE.ext hE1_1
  replace o0_0 := o0_0.ext hE1_1
  refine Reg.pur rfl rfl rfl rfl (Pur.not rfl) ?_
  refine Reg.nil ?_
  refine At.cond rfl rfl (fun q6 => ?_) (fun q6 => ?_)
  · first | (simp only [decide_eq_true_eq, decide_eq_false_iff_not, Bool.not_eq_true', Bool.not_eq_false', ne_eq, Decidable.not_not, Bool.not_eq_true, Bool.not_eq_false] at q6) | (dsimp only at q6) | skip
    refine At.region rfl rfl ?_
    refine Reg.pur rfl rfl rfl rfl (Pur.asg rfl) ?_
    refine Reg.pur rfl rfl rfl rfl (Pur.asg rfl) ?_
    refine Reg.nil ?_
    refine At.ret rfl Tryd.func20 rfl ?_
    rw [rtV_no q6]; exact ⟨rfl, hE⟩
  first | (simp only [decide_eq_true_eq, decide_eq_false_iff_not, Bool.not_eq_true', Bool.not_eq_false', ne_eq, Decidable.not_not, Bool.not_eq_true, Bool.not_eq_false] at q6) | (dsimp only at q6) | skip
  refine At.region rfl rfl ?_
  have hE0 := hE
  have hw := write_ok (us := []) (g := 56) (Q := fun s H1 H2 => s = ⟨#[101, 48]⟩ ∧ H2 = H1) h5 q6 (hT.ext hE) o0_0.blk (ro := 0) (by simp [List.take_of_length_le, h5]) (fun H1 hE h0 => (text1_ok _).mono (by rintro v H2 ⟨rfl, rfl⟩; exact ⟨_, rfl, Nat.le_of_ble_eq_true rfl, rfl, rfl⟩))
  refine Reg.op rfl rfl rfl rfl (Does.call rfl (hw)) ?_
  rintro _ H3_0 ⟨s, rfl, H1, hE1, hC3_0⟩
  have z3_0 := hE1.lt
  replace hE := hE.ext hE1
  replace o0_0 := o0_0.ext hE1

  refine Reg.pur rfl rfl rfl rfl (Pur.asg rfl) ?_
  refine Reg.pur rfl rfl rfl rfl (Pur.asg rfl) ?_
  refine Reg.nil ?_
  refine At.ret rfl Tryd.func20 rfl ?_
  rw [rtV_yes q6]
  rcases hC3_0 with ⟨h0, rfl, rfl⟩ | ⟨h0, rfl⟩
  · exact ⟨by rw [e0_eq r, wtx_rtx], hE0.trans hE1⟩
  · exact ⟨by rw [(rtx_neg (R := []) s h0).1], hE0.trans hE1⟩
theorem rowTextR_ok {r : List Int} (h5 : r.length = 5) {H : Heap} :
    Ret Tryd.prog 21 [.agg (Is r).toArray] H (fun v H' => v = .tuple #[.string (rtV r).1, I (rtV r).2] ∧ Ext H H') := by
  have h5' : (Is r).length = 5 := by simp [h5]
  refine Ret.of_at (N := 13) Tryd.call21 Tryd.func21 rfl rfl rfl ?_
  have hE := Ext.refl H
  refine At.region rfl rfl ?_
  refine Reg.op rfl rfl rfl rfl (Does.box rfl rfl) ?_
  rintro _ H0_0 ⟨rfl, hn0_0⟩
  have z0_0 := hn0_0.size
  replace hE := hE.ext hn0_0.ext
  have o0_0 := hn0_0.own
  refine Reg.pur rfl rfl rfl rfl (Pur.asg rfl) ?_
  refine Reg.pur rfl rfl rfl rfl (Pur.asg rfl) ?_
  refine Reg.nil ?_
  refine At.region rfl rfl ?_
  refine Reg.lod rfl rfl rfl rfl (Lod.ldn ag24 rfl o0_0.blk (whole h5') h5') ?_
  refine Reg.op rfl rfl rfl rfl (Does.call rfl (rowMayR_ok r h5 _)) ?_
  rintro _ H1_1 ⟨rfl, hE1_1⟩
  have z1_1 := hE1_1.lt
  replace hE := hE.ext hE1_1
  replace o0_0 := o0_0.ext hE1_1
  refine Reg.pur rfl rfl rfl rfl (Pur.not rfl) ?_
  refine Reg.nil ?_
  refine At.cond rfl rfl (fun q7 => ?_) (fun q7 => ?_)
  · first | (simp only [decide_eq_true_eq, decide_eq_false_iff_not, Bool.not_eq_true', Bool.not_eq_false', ne_eq, Decidable.not_not, Bool.not_eq_true, Bool.not_eq_false] at q7) | (dsimp only at q7) | skip
    refine At.region rfl rfl ?_
    refine Reg.pur rfl rfl rfl rfl (Pur.asg rfl) ?_
    refine Reg.pur rfl rfl rfl rfl (Pur.asg rfl) ?_
    refine Reg.nil ?_
    refine At.ret rfl Tryd.func21 rfl ?_
    rw [rtV_no q7]; exact ⟨rfl, hE⟩
  first | (simp only [decide_eq_true_eq, decide_eq_false_iff_not, Bool.not_eq_true', Bool.not_eq_false', ne_eq, Decidable.not_not, Bool.not_eq_true, Bool.not_eq_false] at q7) | (dsimp only at q7) | skip
  refine At.region rfl rfl ?_
  refine Reg.pur rfl rfl rfl rfl (Pur.bld (cs := [_, _]) pl91 zc91 rfl rfl ⟨rfl, rfl, rfl⟩) ?_
  refine Reg.op rfl rfl rfl rfl (Does.box rfl rfl) ?_
  rintro _ H3_1 ⟨rfl, hn3_1⟩
  have z3_1 := hn3_1.size
  replace hE := hE.ext hn3_1.ext
  replace o0_0 := o0_0.ext hn3_1.ext
  have o3_1 := hn3_1.own
  refine Reg.pur rfl rfl rfl rfl (Pur.asg rfl) ?_
  refine Reg.nil ?_
  refine At.region rfl rfl ?_
  refine Reg.pur rfl rfl rfl rfl (Pur.mv rfl) ?_
  refine Reg.lod rfl rfl rfl rfl (Lod.ldn ag24 rfl o0_0.blk (whole h5') h5') ?_
  refine Reg.op rfl rfl rfl rfl (Does.call rfl (rowText_ok h5 q7 (nm_new (B := H.size) o3_1 (by omega)) (by simp))) ?_
  rintro _ H4_2 ⟨rfl, A2, c2, hN4_2, hM4_2⟩
  refine Reg.pur rfl rfl rfl rfl (Pur.asg rfl) ?_
  refine Reg.pur rfl rfl rfl rfl (Pur.asg rfl) ?_
  refine Reg.nil ?_
  refine At.ret rfl Tryd.func21 rfl ?_
  rw [rtV_yes q7]; exact ⟨rfl, mod_ext hM4_2 hE (by omega)⟩
end Go.Proofs.YtlfillhffpiffaaDoor

