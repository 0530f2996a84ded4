/-
  Parts of the proof, 2.
-/
import Derived.Test.YtlfillhffpiffaaDoorProg
import Derived.Test.YtlfillhffpiffaaDoorT1
namespace Go.Proofs.YtlfillhffpiffaaDoor
set_option linter.unusedSimpArgs false
set_option linter.unusedVariables false
set_option maxRecDepth 8000
open Go Go.Fx Go.Proofs
namespace FactsSchA
theorem es50 : esz Tryd.prog 50 = some 1 := by kernel_rfl
theorem isl50 : isSl Tryd.prog 50 = true := by kernel_rfl
theorem sc3 : sc Tryd.prog 3 = true := by kernel_rfl
end FactsSchA
open FactsSchA

def ixL : List Int → Int → Nat
  | [], _ => 0
  | x :: l, v => if x = v then 0 else ixL l v + 1
def inL (l : List Int) (v : Int) : Bool := decide (ixL l v < l.length)
theorem ixL_le : ∀ (l : List Int) (v : Int), ixL l v ≤ l.length
  | [], _ => Nat.le_refl _
  | x :: l, v => by
    simp only [ixL]; split
    · simp
    · simp only [List.length_cons]; have := ixL_le l v; omega
theorem ix_drop {l : List Int} {i : Nat} {v : Int} (hi : i < l.length) : ixL (l.drop i) v = if l[i] = v then 0 else ixL (l.drop (i + 1)) v + 1 := by
  rw [dropL hi, ixL]
theorem ix_end {l : List Int} {i : Nat} {v : Int} (hi : l.length ≤ i) : ixL (l.drop i) v = 0 := by rw [List.drop_of_length_le hi]; rfl
theorem int_at {l : List Int} {H : Heap} {A : Option Addr} {cap : Nat} (hS : SlT H e1 1 (.slice A l.length cap) l) {i : Nat} (hi : i < l.length) :
    ∃ b o c, A = some ⟨b, o, none⟩ ∧ Blk H b c ∧ c[o + i * 1]? = some (I l[i]) := by
  obtain ⟨b, o, c, h1, h2, h3, _⟩ := sl_at (wide1 l) hS hi
  exact ⟨b, o, c, h1, h2, by have := at_tk (j := 0) h3 (by omega) (v := I l[i]) rfl; simpa using this⟩

theorem index_ok {A : Option Addr} {cap : Nat} (l : List Int) {H : Heap} (hS : SlT H e1 1 (.slice A l.length cap) l) (hm : l.length ≤ 9223372036854775807) (v : Int) :
    Ret Tryd.prog 111 [.slice A l.length cap, I v] H (fun r H' => r = I (if inL l v then ixL l v else -1) ∧ H' = H) := by
  refine Ret.of_at (N := 19) Tryd.call111 Tryd.func111 rfl rfl rfl ?_
  have hE := Ext.refl H
  refine At.region rfl rfl ?_
  refine Reg.pur rfl rfl rfl rfl (Pur.asg rfl) ?_
  refine Reg.nil ?_
  refine At.region rfl rfl ?_
  refine Reg.pur rfl rfl rfl rfl (Pur.mv rfl) ?_
  refine Reg.pur rfl rfl rfl rfl (Pur.lenS isl50 rfl) ?_
  refine Reg.pur rfl rfl rfl rfl (Pur.mv rfl) ?_
  refine Reg.nil ?_
  refine At.loop (σ := Nat) (fun i => [(8, I i), (7, I l.length), (0, .slice A l.length cap), (1, I v)]) (fun i H' => i ≤ l.length ∧ H' = H ∧ ixL l v = i + ixL (l.drop i) v) (fun i => l.length - i) 0 rfl ⟨rfl, rfl, rfl, rfl, trivial⟩ ⟨by omega, rfl, by simp⟩ ?_
  rintro i H ⟨hi, rfl, hgo⟩ ih
  refine At.region rfl rfl ?_
  refine Reg.pur rfl rfl rfl rfl (Pur.lss rfl rfl) ?_
  refine Reg.nil ?_
  refine At.cond rfl rfl (fun q9 => ?_) (fun q9 => ?_)
  · first | (simp only [decide_eq_true_eq, decide_eq_false_iff_not, Bool.not_eq_true', Bool.not_eq_false', ne_eq, Decidable.not_not, Bool.not_eq_true, Bool.not_eq_false] at q9) | (dsimp only at q9) | skip
    have hlt : i < l.length := by omega
    obtain ⟨b, o, c, rfl, hB, hc⟩ := int_at hS hlt
    rw [ix_drop hlt] at hgo
    refine At.region rfl rfl ?_
    refine Reg.pur rfl rfl rfl rfl (Pur.mv rfl) ?_
    refine Reg.pur rfl rfl rfl rfl (Pur.asg rfl) ?_
    refine Reg.nil ?_
    refine At.region rfl rfl ?_
    refine Reg.pur rfl rfl rfl rfl (Pur.mv rfl) ?_
    refine Reg.pur rfl rfl rfl rfl (Pur.mv rfl) ?_
    refine Reg.pur rfl rfl rfl rfl (Pur.mv rfl) ?_
    refine Reg.pur rfl rfl rfl rfl (Pur.idx _ es50 rfl rfl (by omega) (by omega)) ?_
    refine Reg.lod rfl rfl rfl rfl (Lod.ld sc3 rfl hB hc) ?_
    refine Reg.pur rfl rfl rfl rfl (Pur.eql rfl rfl) ?_
    refine Reg.nil ?_
    refine At.cond rfl rfl (fun q16 => ?_) (fun q16 => ?_)
    · first | (simp only [decide_eq_true_eq, decide_eq_false_iff_not, Bool.not_eq_true', Bool.not_eq_false', ne_eq, Decidable.not_not, Bool.not_eq_true, Bool.not_eq_false] at q16) | (dsimp only at q16) | skip
      refine At.region rfl rfl ?_
      refine Reg.pur rfl rfl rfl rfl (Pur.mv rfl) ?_
      refine Reg.pur rfl rfl rfl rfl (Pur.asg rfl) ?_
      refine Reg.nil ?_
      refine At.ret rfl Tryd.func111 rfl ?_
      rw [if_pos q16.symm] at hgo
      exact ⟨by rw [if_pos (by simp [inL]; omega)]; congr 1; omega, rfl⟩
    first | (simp only [decide_eq_true_eq, decide_eq_false_iff_not, Bool.not_eq_true', Bool.not_eq_false', ne_eq, Decidable.not_not, Bool.not_eq_true, Bool.not_eq_false] at q16) | (dsimp only at q16) | skip
    refine At.region rfl rfl ?_
    first | refine Reg.pur rfl rfl rfl rfl (Pur.add64 rfl rfl (by omega)) ?_ | refine Reg.pur rfl rfl rfl rfl (Pur.add64 rfl rfl (by assumption)) ?_ | refine Reg.pur rfl rfl rfl rfl (Pur.add rfl rfl) ?_
    refine Reg.pur rfl rfl rfl rfl (Pur.mv rfl) ?_
    refine Reg.nil ?_
    rw [if_neg (fun h => q16 h.symm)] at hgo
    exact At.via (ih (i + 1) _ ⟨by omega, rfl, by omega⟩ (by omega)) ⟨rfl, rfl, rfl, rfl, trivial⟩
  first | (simp only [decide_eq_true_eq, decide_eq_false_iff_not, Bool.not_eq_true', Bool.not_eq_false', ne_eq, Decidable.not_not, Bool.not_eq_true, Bool.not_eq_false] at q9) | (dsimp only at q9) | skip
  refine At.region rfl rfl ?_
  refine Reg.pur rfl rfl rfl rfl (Pur.asg rfl) ?_
  refine Reg.nil ?_
  refine At.ret rfl Tryd.func111 rfl ?_
  rw [ix_end (by omega)] at hgo
  exact ⟨by rw [if_neg (by simp [inL]; omega)], rfl⟩

end Go.Proofs.YtlfillhffpiffaaDoor

namespace Go.Proofs.YtlfillhffpiffaaDoor
set_option linter.unusedSimpArgs false
set_option linter.unusedVariables false
open Go Go.Fx Go.Proofs
namespace FactsTypA
theorem ag22 : ag Tryd.prog 22 = some 4 := by kernel_rfl
theorem arr1_22 : arr1 Tryd.prog 22 = some 4 := by kernel_rfl
theorem arr22 : arr Tryd.prog 22 = some (4, 1) := by kernel_rfl
theorem fo24_0 : foff Tryd.prog 24 0 = some 0 := by kernel_rfl
theorem fo24_1 : foff Tryd.prog 24 1 = some 4 := by kernel_rfl
theorem sc3 : sc Tryd.prog 3 = true := by kernel_rfl
end FactsTypA
open FactsTypA

def okc (n : Int) : Bool := decide (0 ≤ n ∧ n ≤ 32)
def rowM (r : List Int) : Bool := (r.take 4).all okc && decide (-1 ≤ r.getD 4 0 ∧ r.getD 4 0 < 4096)
theorem take4_at {r : List Int} (h : r.length = 5) {i : Nat} (hi : i < 4) : (r.take 4)[i]'(by simp; omega) = r.getD i 0 := by
  simp [List.getD_eq_getElem?_getD, List.getElem?_eq_getElem (by omega : i < r.length)]

theorem hat4 (r : List Int) (h : r.length = 5) : (Is r)[0 + 4]? = some (I (r.getD 4 0)) := at_Is (by omega)
theorem rowMay_ok (r : List Int) (h : r.length = 5) (H : Heap) : Ret Tryd.prog 26 [.agg (Is r).toArray] H (fun v H' => v = .bool (rowM r) ∧ Ext H H') := by
  have h4 : (r.take 4).length = 4 := by simp; omega
  refine Ret.of_at (N := 25) Tryd.call26 Tryd.func26 rfl rfl rfl ?_
  refine At.region rfl rfl ?_
  refine Reg.op rfl rfl rfl rfl (Does.box rfl rfl) ?_
  rintro _ H1 ⟨rfl, hn1⟩
  refine Reg.pur rfl rfl rfl rfl (Pur.asg rfl) ?_
  refine Reg.nil ?_
  refine At.region rfl rfl ?_
  refine Reg.pur rfl rfl rfl rfl (Pur.fld _ fo24_0 rfl) ?_
  refine Reg.lod rfl rfl rfl rfl (Lod.ldn ag22 rfl hn1.own.blk (show _ = Is (r.take 4) by simp [Is, List.map_take]) (by simp [Is]; omega)) ?_
  refine Reg.pur rfl rfl rfl rfl (Pur.mv rfl) ?_
  refine Reg.nil ?_
  refine At.loop (σ := Nat) (fun i => [(7, I i), (6, .agg (Is (r.take 4)).toArray), (1, ptr H.size 0)]) (fun i H' => i ≤ 4 ∧ H' = H1 ∧ ((r.take 4).take i).all okc = true) (fun i => 4 - i) 0 rfl ⟨rfl, rfl, rfl, trivial⟩ ⟨by omega, rfl, rfl⟩ ?_
  rintro i H2 ⟨hi, rfl, hgo⟩ ih
  refine At.region rfl rfl ?_
  refine Reg.pur rfl rfl rfl rfl (Pur.lss rfl rfl) ?_
  refine Reg.nil ?_
  refine At.cond rfl rfl (fun hb1 => ?_) (fun hb1 => ?_)
  · simp only [decide_eq_true_eq] at hb1
    have hlt : i < (r.take 4).length := by omega
    have hat := take4_at h (i := i) (by omega)
    have hai : (Is (r.take 4))[(i : Int).toNat]? = some (I (r.getD i 0)) := by
      have : (Is (r.take 4))[i]? = some (I (r.take 4)[i]) := by simp only [Is, List.getElem?_map, List.getElem?_eq_getElem hlt, Option.map_some]
      rw [hat] at this
      exact this
    refine At.region rfl rfl ?_
    refine Reg.pur rfl rfl rfl rfl (Pur.ixA arr1_22 rfl rfl (by omega) (by omega) hai) ?_
    refine Reg.pur rfl rfl rfl rfl (Pur.asg rfl) ?_
    refine Reg.nil ?_
    refine At.region rfl rfl ?_
    refine Reg.pur rfl rfl rfl rfl (Pur.mv rfl) ?_
    refine Reg.pur rfl rfl rfl rfl (Pur.lss rfl rfl) ?_
    refine Reg.pur rfl rfl rfl rfl (Pur.mv rfl) ?_
    refine Reg.case 12 rfl (fun hc2 => ?_) (fun hc2 => ?_)
    · refine Reg.skip rfl rfl rfl rfl rfl rfl rfl ?_
      refine Reg.skip rfl rfl rfl rfl rfl rfl rfl ?_
      refine Reg.pur rfl rfl rfl rfl (Pur.pickT rfl rfl) ?_
      refine Reg.nil ?_
      refine At.condT rfl rfl rfl ?_
      refine At.region rfl rfl ?_
      refine Reg.pur rfl rfl rfl rfl (Pur.asg rfl) ?_
      refine Reg.nil ?_
      refine At.ret rfl Tryd.func26 rfl ?_
      refine ⟨congrArg Value.bool ?_, hn1.ext⟩
      simp only [decide_eq_false_iff_not, decide_eq_true_eq] at *
      unfold rowM
      first | (rw [all_of_take hlt (by rw [hat, okc, decide_eq_false_iff_not]; omega)]; rfl) | (rw [List.take_of_length_le (by omega)] at hgo; rw [hgo]; generalize r.getD 4 0 = t at *; simp [*])
    refine Reg.gpur rfl rfl rfl rfl rfl rfl (Pur.mv rfl) ?_
    refine Reg.gpur rfl rfl rfl rfl rfl rfl (Pur.gtr rfl rfl) ?_
    refine Reg.pur rfl rfl rfl rfl (Pur.pickF rfl rfl) ?_
    refine Reg.nil ?_
    refine At.cond rfl rfl (fun hb3 => ?_) (fun hb3 => ?_)
    · refine At.region rfl rfl ?_
      refine Reg.pur rfl rfl rfl rfl (Pur.asg rfl) ?_
      refine Reg.nil ?_
      refine At.ret rfl Tryd.func26 rfl ?_
      refine ⟨congrArg Value.bool ?_, hn1.ext⟩
      simp only [decide_eq_false_iff_not, decide_eq_true_eq] at *
      unfold rowM
      first | (rw [all_of_take hlt (by rw [hat, okc, decide_eq_false_iff_not]; omega)]; rfl) | (rw [List.take_of_length_le (by omega)] at hgo; rw [hgo]; generalize r.getD 4 0 = t at *; simp [*])
    refine At.region rfl rfl ?_
    first | refine Reg.pur rfl rfl rfl rfl (Pur.add64 rfl rfl (by omega)) ?_ | refine Reg.pur rfl rfl rfl rfl (Pur.add64 rfl rfl (by assumption)) ?_ | refine Reg.pur rfl rfl rfl rfl (Pur.add rfl rfl) ?_
    refine Reg.pur rfl rfl rfl rfl (Pur.mv rfl) ?_
    refine Reg.nil ?_
    refine At.via (ih (i + 1) _ ⟨by omega, rfl, ?_⟩ (by omega)) ⟨rfl, rfl, rfl, trivial⟩
    simp only [decide_eq_false_iff_not, decide_eq_true_eq] at *
    rw [all_take hlt, hgo, hat, okc, decide_eq_true (by omega)]; rfl
  refine At.region rfl rfl ?_
  refine Reg.pur rfl rfl rfl rfl (Pur.fld _ fo24_1 rfl) ?_
  refine Reg.lod rfl rfl rfl rfl (Lod.ld sc3 rfl hn1.own.blk (hat4 r h)) ?_
  refine Reg.pur rfl rfl rfl rfl (Pur.geq rfl rfl) ?_
  refine Reg.pur rfl rfl rfl rfl (Pur.mv rfl) ?_
  refine Reg.case 20 rfl (fun hc4 => ?_) (fun hc4 => ?_)
  · refine Reg.gpur rfl rfl rfl rfl rfl rfl (Pur.fld _ fo24_1 rfl) ?_
    refine Reg.glod rfl rfl rfl rfl rfl rfl (Lod.ld sc3 rfl hn1.own.blk (hat4 r h)) ?_
    refine Reg.gpur rfl rfl rfl rfl rfl rfl (Pur.lss rfl rfl) ?_
    refine Reg.pur rfl rfl rfl rfl (Pur.pickT rfl rfl) ?_
    refine Reg.pur rfl rfl rfl rfl (Pur.asg rfl) ?_
    refine Reg.nil ?_
    refine At.ret rfl Tryd.func26 rfl ?_
    refine ⟨congrArg Value.bool ?_, hn1.ext⟩
    simp only [decide_eq_false_iff_not, decide_eq_true_eq] at *
    unfold rowM
    first | (rw [all_of_take hlt (by rw [hat, okc, decide_eq_false_iff_not]; omega)]; rfl) | (rw [List.take_of_length_le (by omega)] at hgo; rw [hgo]; generalize r.getD 4 0 = t at *; simp [*])
  refine Reg.skip rfl rfl rfl rfl rfl rfl rfl ?_
  refine Reg.skip rfl rfl rfl rfl rfl rfl rfl ?_
  refine Reg.skip rfl rfl rfl rfl rfl rfl rfl ?_
  refine Reg.pur rfl rfl rfl rfl (Pur.pickF rfl rfl) ?_
  refine Reg.pur rfl rfl rfl rfl (Pur.asg rfl) ?_
  refine Reg.nil ?_
  refine At.ret rfl Tryd.func26 rfl ?_
  refine ⟨congrArg Value.bool ?_, hn1.ext⟩
  simp only [decide_eq_false_iff_not, decide_eq_true_eq] at *
  unfold rowM
  first | (rw [all_of_take hlt (by rw [hat, okc, decide_eq_false_iff_not]; omega)]; rfl) | (rw [List.take_of_length_le (by omega)] at hgo; rw [hgo]; generalize r.getD 4 0 = t at *; simp [*])

theorem rowMayR_ok (r : List Int) (h : r.length = 5) (H : Heap) : Ret Tryd.prog 27 [.agg (Is r).toArray] H (fun v H' => v = .bool (rowM r) ∧ Ext H H') := by
  have h4 : (r.take 4).length = 4 := by simp; omega
  refine Ret.of_at (N := 28) Tryd.call27 Tryd.func27 rfl rfl rfl ?_
  refine At.region rfl rfl ?_
  refine Reg.op rfl rfl rfl rfl (Does.box rfl rfl) ?_
  rintro _ H1 ⟨rfl, hn1⟩
  refine Reg.pur rfl rfl rfl rfl (Pur.asg rfl) ?_
  refine Reg.nil ?_
  refine At.region rfl rfl ?_
  refine Reg.pur rfl rfl rfl rfl (Pur.asg rfl) ?_
  refine Reg.nil ?_
  refine At.loop (σ := Nat) (fun i => [(3, I i), (1, ptr H.size 0)]) (fun i H' => i ≤ 4 ∧ H' = H1 ∧ ((r.take 4).take i).all okc = true) (fun i => 4 - i) 0 rfl ⟨rfl, rfl, trivial⟩ ⟨by omega, rfl, rfl⟩ ?_
  rintro i H2 ⟨hi, rfl, hgo⟩ ih
  refine At.region rfl rfl ?_
  refine Reg.pur rfl rfl rfl rfl (Pur.mv rfl) ?_
  refine Reg.pur rfl rfl rfl rfl (Pur.lss rfl rfl) ?_
  refine Reg.nil ?_
  refine At.cond rfl rfl (fun hb1 => ?_) (fun hb1 => ?_)
  · simp only [decide_eq_true_eq] at hb1
    have hlt : i < (r.take 4).length := by omega
    have hat := take4_at h (i := i) (by omega)
    have hai : (Is r)[0 + 0 + (i : Int).toNat * 1]? = some (I (r.getD i 0)) := by rw [show 0 + 0 + (i : Int).toNat * 1 = i from by omega]; exact at_Is (by omega)
    refine At.region rfl rfl ?_
    refine Reg.pur rfl rfl rfl rfl (Pur.mv rfl) ?_
    refine Reg.pur rfl rfl rfl rfl (Pur.fld _ fo24_0 rfl) ?_
    refine Reg.pur rfl rfl rfl rfl (Pur.idxP arr22 rfl rfl (by omega) (by omega)) ?_
    refine Reg.lod rfl rfl rfl rfl (Lod.ld sc3 rfl hn1.own.blk hai) ?_
    refine Reg.pur rfl rfl rfl rfl (Pur.lss rfl rfl) ?_
    refine Reg.pur rfl rfl rfl rfl (Pur.mv rfl) ?_
    refine Reg.case 13 rfl (fun hc2 => ?_) (fun hc2 => ?_)
    · refine Reg.skip rfl rfl rfl rfl rfl rfl rfl ?_
      refine Reg.skip rfl rfl rfl rfl rfl rfl rfl ?_
      refine Reg.skip rfl rfl rfl rfl rfl rfl rfl ?_
      refine Reg.skip rfl rfl rfl rfl rfl rfl rfl ?_
      refine Reg.skip rfl rfl rfl rfl rfl rfl rfl ?_
      refine Reg.pur rfl rfl rfl rfl (Pur.pickT rfl rfl) ?_
      refine Reg.nil ?_
      refine At.condT rfl rfl rfl ?_
      refine At.region rfl rfl ?_
      refine Reg.pur rfl rfl rfl rfl (Pur.asg rfl) ?_
      refine Reg.nil ?_
      refine At.ret rfl Tryd.func27 rfl ?_
      refine ⟨congrArg Value.bool ?_, hn1.ext⟩
      simp only [decide_eq_false_iff_not, decide_eq_true_eq] at *
      unfold rowM
      first | (rw [all_of_take hlt (by rw [hat, okc, decide_eq_false_iff_not]; omega)]; rfl) | (rw [List.take_of_length_le (by omega)] at hgo; rw [hgo]; generalize r.getD 4 0 = t at *; simp [*])
    refine Reg.gpur rfl rfl rfl rfl rfl rfl (Pur.mv rfl) ?_
    refine Reg.gpur rfl rfl rfl rfl rfl rfl (Pur.fld _ fo24_0 rfl) ?_
    refine Reg.gpur rfl rfl rfl rfl rfl rfl (Pur.idxP arr22 rfl rfl (by omega) (by omega)) ?_
    refine Reg.glod rfl rfl rfl rfl rfl rfl (Lod.ld sc3 rfl hn1.own.blk hai) ?_
    refine Reg.gpur rfl rfl rfl rfl rfl rfl (Pur.gtr rfl rfl) ?_
    refine Reg.pur rfl rfl rfl rfl (Pur.pickF rfl rfl) ?_
    refine Reg.nil ?_
    refine At.cond rfl rfl (fun hb3 => ?_) (fun hb3 => ?_)
    · refine At.region rfl rfl ?_
      refine Reg.pur rfl rfl rfl rfl (Pur.asg rfl) ?_
      refine Reg.nil ?_
      refine At.ret rfl Tryd.func27 rfl ?_
      refine ⟨congrArg Value.bool ?_, hn1.ext⟩
      simp only [decide_eq_false_iff_not, decide_eq_true_eq] at *
      unfold rowM
      first | (rw [all_of_take hlt (by rw [hat, okc, decide_eq_false_iff_not]; omega)]; rfl) | (rw [List.take_of_length_le (by omega)] at hgo; rw [hgo]; generalize r.getD 4 0 = t at *; simp [*])
    refine At.region rfl rfl ?_
    refine Reg.pur rfl rfl rfl rfl (Pur.mv rfl) ?_
    first | refine Reg.pur rfl rfl rfl rfl (Pur.add64 rfl rfl (by omega)) ?_ | refine Reg.pur rfl rfl rfl rfl (Pur.add64 rfl rfl (by assumption)) ?_ | refine Reg.pur rfl rfl rfl rfl (Pur.add rfl rfl) ?_
    refine Reg.pur rfl rfl rfl rfl (Pur.asg rfl) ?_
    refine Reg.nil ?_
    refine At.via (ih (i + 1) _ ⟨by omega, rfl, ?_⟩ (by omega)) ⟨rfl, rfl, trivial⟩
    simp only [decide_eq_false_iff_not, decide_eq_true_eq] at *
    rw [all_take hlt, hgo, hat, okc, decide_eq_true (by omega)]; rfl
  refine At.region rfl rfl ?_
  refine Reg.pur rfl rfl rfl rfl (Pur.fld _ fo24_1 rfl) ?_
  refine Reg.lod rfl rfl rfl rfl (Lod.ld sc3 rfl hn1.own.blk (hat4 r h)) ?_
  refine Reg.pur rfl rfl rfl rfl (Pur.geq rfl rfl) ?_
  refine Reg.pur rfl rfl rfl rfl (Pur.mv rfl) ?_
  refine Reg.case 23 rfl (fun hc4 => ?_) (fun hc4 => ?_)
  · refine Reg.gpur rfl rfl rfl rfl rfl rfl (Pur.fld _ fo24_1 rfl) ?_
    refine Reg.glod rfl rfl rfl rfl rfl rfl (Lod.ld sc3 rfl hn1.own.blk (hat4 r h)) ?_
    refine Reg.gpur rfl rfl rfl rfl rfl rfl (Pur.lss rfl rfl) ?_
    refine Reg.pur rfl rfl rfl rfl (Pur.pickT rfl rfl) ?_
    refine Reg.pur rfl rfl rfl rfl (Pur.asg rfl) ?_
    refine Reg.nil ?_
    refine At.ret rfl Tryd.func27 rfl ?_
    refine ⟨congrArg Value.bool ?_, hn1.ext⟩
    simp only [decide_eq_false_iff_not, decide_eq_true_eq] at *
    unfold rowM
    first | (rw [all_of_take hlt (by rw [hat, okc, decide_eq_false_iff_not]; omega)]; rfl) | (rw [List.take_of_length_le (by omega)] at hgo; rw [hgo]; generalize r.getD 4 0 = t at *; simp [*])
  refine Reg.skip rfl rfl rfl rfl rfl rfl rfl ?_
  refine Reg.skip rfl rfl rfl rfl rfl rfl rfl ?_
  refine Reg.skip rfl rfl rfl rfl rfl rfl rfl ?_
  refine Reg.pur rfl rfl rfl rfl (Pur.pickF rfl rfl) ?_
  refine Reg.pur rfl rfl rfl rfl (Pur.asg rfl) ?_
  refine Reg.nil ?_
  refine At.ret rfl Tryd.func27 rfl ?_
  refine ⟨congrArg Value.bool ?_, hn1.ext⟩
  simp only [decide_eq_false_iff_not, decide_eq_true_eq] at *
  unfold rowM
  first | (rw [all_of_take hlt (by rw [hat, okc, decide_eq_false_iff_not]; omega)]; rfl) | (rw [List.take_of_length_le (by omega)] at hgo; rw [hgo]; generalize r.getD 4 0 = t at *; simp [*])

def nodM (x : List Int) : Bool :=
  if x.getD 0 0 = 3 then rowM (x.drop 4) && decide (x.getD 1 0 = 0)
  else if x.getD 0 0 = 2 then decide (0 ≤ x.getD 1 0 ∧ x.getD 1 0 < 4096) && decide (x = [2, x.getD 1 0, 0, 0, 0, 0, 0, 0, 0])
  else if x.getD 0 0 = 0 ∨ x.getD 0 0 = 1 then decide (x = [x.getD 0 0, 0, 0, 0, 0, 0, 0, 0, 0]) else false
end Go.Proofs.YtlfillhffpiffaaDoor

namespace Go.Proofs.YtlfillhffpiffaaDoor
set_option linter.unusedSimpArgs false
set_option linter.unusedVariables false
set_option maxRecDepth 8000
open Go Go.Fx Go.Proofs
namespace FactsTypB
theorem ag24 : ag Tryd.prog 24 = some 5 := by kernel_rfl
theorem ag65 : ag Tryd.prog 65 = some 9 := by kernel_rfl
theorem eqt65 : eqT Tryd.prog 65 = some [.int .i64, .int .i64, .int .i64, .int .i64, .int .i64, .int .i64, .int .i64, .int .i64, .int .i64] := by kernel_rfl
theorem fo65_0 : foff Tryd.prog 65 0 = some 0 := by kernel_rfl
theorem fo65_1 : foff Tryd.prog 65 1 = some 1 := by kernel_rfl
theorem fo65_2 : foff Tryd.prog 65 2 = some 2 := by kernel_rfl
theorem fo65_3 : foff Tryd.prog 65 3 = some 3 := by kernel_rfl
theorem fo65_4 : foff Tryd.prog 65 4 = some 4 := by kernel_rfl
theorem pl24 : places Tryd.prog 24 = some [(0, 4), (4, 1)] := by kernel_rfl
theorem pl65 : places Tryd.prog 65 = some [(0, 1), (1, 1), (2, 1), (3, 1), (4, 5)] := by kernel_rfl
theorem sc3 : sc Tryd.prog 3 = true := by kernel_rfl
theorem zc24 : zc Tryd.prog 24 = some [.int .i64 0, .int .i64 0, .int .i64 0, .int .i64 0, .int .i64 0] := by kernel_rfl
theorem zc65 : zc Tryd.prog 65 = some [.int .i64 0, .int .i64 0, .int .i64 0, .int .i64 0, .int .i64 0, .int .i64 0, .int .i64 0, .int .i64 0, .int .i64 0] := by kernel_rfl
end FactsTypB
open FactsTypB

theorem nodMay_ok (k v a b c d e f t : Int) (H : Heap) : Ret Tryd.prog 68 [.agg (Is [k, v, a, b, c, d, e, f, t]).toArray] H (fun r H' => r = .bool (nodM [k, v, a, b, c, d, e, f, t]) ∧ Ext H H') := by
  refine Ret.of_at (N := 37) Tryd.call68 Tryd.func68 rfl rfl rfl ?_
  refine At.region rfl rfl ?_
  refine Reg.op rfl rfl rfl rfl (Does.box rfl rfl) ?_
  rintro _ H1 ⟨rfl, hn1⟩
  refine Reg.pur rfl rfl rfl rfl (Pur.asg rfl) ?_
  refine Reg.nil ?_
  have hX := hn1.own
  refine At.region rfl rfl ?_
  refine Reg.pur rfl rfl rfl rfl (Pur.fld _ fo65_0 rfl) ?_
  refine Reg.lod rfl rfl rfl rfl (Lod.ld sc3 rfl hX.blk rfl) ?_
  refine Reg.nil ?_
  refine At.region rfl rfl ?_
  refine Reg.pur rfl rfl rfl rfl (Pur.eql rfl rfl) ?_
  refine Reg.pur rfl rfl rfl rfl (Pur.asg rfl) ?_
  refine Reg.nil ?_
  refine At.cond rfl rfl (fun hb1 => ?_) (fun hb1 => ?_)
  · have hr := rowMay_ok [c, d, e, f, t] rfl H1
    refine At.region rfl rfl ?_
    refine Reg.pur rfl rfl rfl rfl (Pur.fld _ fo65_4 rfl) ?_
    refine Reg.lod rfl rfl rfl rfl (Lod.ldn ag24 rfl hX.blk (show _ = Is [c, d, e, f, t] from rfl) rfl) ?_
    refine Reg.op rfl rfl rfl rfl (Does.call rfl (hr)) ?_
    rintro _ H2 ⟨rfl, hE2⟩
    refine Reg.pur rfl rfl rfl rfl (Pur.not rfl) ?_
    refine Reg.nil ?_
    have hX := hX.ext hE2
    refine At.cond rfl rfl (fun hb2 => ?_) (fun hb2 => ?_)
    · refine At.region rfl rfl ?_
      refine Reg.pur rfl rfl rfl rfl (Pur.asg rfl) ?_
      refine Reg.nil ?_
      refine At.ret rfl Tryd.func68 rfl ?_
      refine ⟨congrArg Value.bool ?_, by first | exact hE5 | exact hn1.ext.trans hE2 | exact hn1.ext.upd hu3 (Nat.le_refl _) | exact hn1.ext⟩
      try rw [eqs_ints]
      rw [Bool.eq_iff_iff]
      simp only [decide_eq_true_eq, decide_eq_false_iff_not, Bool.not_eq_true', Bool.not_eq_eq_eq_not, Bool.not_true, Bool.not_false] at *
      simp [nodM, eqs, eqv, *]
      try omega
    refine At.region rfl rfl ?_
    refine Reg.pur rfl rfl rfl rfl (Pur.bld (cs := [_, _, _, _, _]) pl24 zc24 rfl rfl ⟨rfl, rfl, rfl, rfl, rfl, rfl⟩) ?_
    refine Reg.pur rfl rfl rfl rfl (Pur.fld _ fo65_4 rfl) ?_
    refine Reg.op0 rfl rfl rfl (Does.stn ag24 rfl rfl rfl rfl hX (by simp)) ?_
    rintro _ H3 hu3
    refine Reg.pur rfl rfl rfl rfl (Pur.fld _ fo65_2 rfl) ?_
    refine Reg.op0 rfl rfl rfl (Does.st sc3 rfl rfl rfl hu3.own (by simp)) ?_
    rintro _ H4 hu4
    refine Reg.pur rfl rfl rfl rfl (Pur.fld _ fo65_3 rfl) ?_
    refine Reg.op0 rfl rfl rfl (Does.st sc3 rfl rfl rfl hu4.own (by simp)) ?_
    rintro _ H5 hu5
    refine Reg.nil ?_
    have hY : Own H5 H.size (Is [k, v, 0, 0, 0, 0, 0, 0, 0]) := hu5.own
    have hE5 := (((hn1.ext.trans hE2).upd hu3 (Nat.le_refl _)).upd hu4 (Nat.le_refl _)).upd hu5 (Nat.le_refl _)
    refine At.region rfl rfl ?_
    refine Reg.lod rfl rfl rfl rfl (Lod.ldn ag65 rfl hY.blk (whole rfl) rfl) ?_
    refine Reg.pur rfl rfl rfl rfl (Pur.bld (cs := [_, _, _, _, _, _, _, _, _]) pl65 zc65 rfl rfl ⟨rfl, rfl, rfl, rfl, rfl, rfl, rfl, rfl, rfl, rfl⟩) ?_
    refine Reg.pur rfl rfl rfl rfl (Pur.eqA eqt65 rfl rfl (fks_ints .i64 [k, v, 0, 0, 0, 0, 0, 0, 0]) (fks_ints .i64 [3, 0, 0, 0, 0, 0, 0, 0, 0])) ?_
    refine Reg.pur rfl rfl rfl rfl (Pur.asg rfl) ?_
    refine Reg.nil ?_
    refine At.ret rfl Tryd.func68 rfl ?_
    refine ⟨congrArg Value.bool ?_, by first | exact hE5 | exact hn1.ext.trans hE2 | exact hn1.ext.upd hu3 (Nat.le_refl _) | exact hn1.ext⟩
    try rw [eqs_ints]
    rw [Bool.eq_iff_iff]
    simp only [decide_eq_true_eq, decide_eq_false_iff_not, Bool.not_eq_true', Bool.not_eq_eq_eq_not, Bool.not_true, Bool.not_false] at *
    simp [nodM, eqs, eqv, *]
    try omega
  refine At.region rfl rfl ?_
  refine Reg.pur rfl rfl rfl rfl (Pur.eql rfl rfl) ?_
  refine Reg.pur rfl rfl rfl rfl (Pur.asg rfl) ?_
  refine Reg.nil ?_
  refine At.cond rfl rfl (fun hb3 => ?_) (fun hb3 => ?_)
  · refine At.region rfl rfl ?_
    refine Reg.pur rfl rfl rfl rfl (Pur.fld _ fo65_1 rfl) ?_
    refine Reg.lod rfl rfl rfl rfl (Lod.ld sc3 rfl hX.blk rfl) ?_
    refine Reg.pur rfl rfl rfl rfl (Pur.lss rfl rfl) ?_
    refine Reg.pur rfl rfl rfl rfl (Pur.mv rfl) ?_
    refine Reg.case 26 rfl (fun hc4 => ?_) (fun hc4 => ?_)
    · refine Reg.skip rfl rfl rfl rfl rfl rfl rfl ?_
      refine Reg.skip rfl rfl rfl rfl rfl rfl rfl ?_
      refine Reg.skip rfl rfl rfl rfl rfl rfl rfl ?_
      refine Reg.pur rfl rfl rfl rfl (Pur.pickT rfl rfl) ?_
      refine Reg.nil ?_
      refine At.condT rfl rfl rfl ?_
      refine At.region rfl rfl ?_
      refine Reg.pur rfl rfl rfl rfl (Pur.asg rfl) ?_
      refine Reg.nil ?_
      refine At.ret rfl Tryd.func68 rfl ?_
      refine ⟨congrArg Value.bool ?_, by first | exact hE5 | exact hn1.ext.trans hE2 | exact hn1.ext.upd hu3 (Nat.le_refl _) | exact hn1.ext⟩
      try rw [eqs_ints]
      rw [Bool.eq_iff_iff]
      simp only [decide_eq_true_eq, decide_eq_false_iff_not, Bool.not_eq_true', Bool.not_eq_eq_eq_not, Bool.not_true, Bool.not_false] at *
      simp [nodM, eqs, eqv, *]
      try omega
    refine Reg.gpur rfl rfl rfl rfl rfl rfl (Pur.fld _ fo65_1 rfl) ?_
    refine Reg.glod rfl rfl rfl rfl rfl rfl (Lod.ld sc3 rfl hX.blk rfl) ?_
    refine Reg.gpur rfl rfl rfl rfl rfl rfl (Pur.geq rfl rfl) ?_
    refine Reg.pur rfl rfl rfl rfl (Pur.pickF rfl rfl) ?_
    refine Reg.nil ?_
    refine At.cond rfl rfl (fun hb5 => ?_) (fun hb5 => ?_)
    · refine At.region rfl rfl ?_
      refine Reg.pur rfl rfl rfl rfl (Pur.asg rfl) ?_
      refine Reg.nil ?_
      refine At.ret rfl Tryd.func68 rfl ?_
      refine ⟨congrArg Value.bool ?_, by first | exact hE5 | exact hn1.ext.trans hE2 | exact hn1.ext.upd hu3 (Nat.le_refl _) | exact hn1.ext⟩
      try rw [eqs_ints]
      rw [Bool.eq_iff_iff]
      simp only [decide_eq_true_eq, decide_eq_false_iff_not, Bool.not_eq_true', Bool.not_eq_eq_eq_not, Bool.not_true, Bool.not_false] at *
      simp [nodM, eqs, eqv, *]
      try omega
    refine At.region rfl rfl ?_
    refine Reg.pur rfl rfl rfl rfl (Pur.fld _ fo65_1 rfl) ?_
    refine Reg.op0 rfl rfl rfl (Does.st sc3 rfl rfl rfl hX (by simp)) ?_
    rintro _ H3 hu3
    refine Reg.nil ?_
    have hX : Own H3 H.size (Is [k, 0, a, b, c, d, e, f, t]) := hu3.own
    refine At.region rfl rfl ?_
    refine Reg.lod rfl rfl rfl rfl (Lod.ldn ag65 rfl hX.blk (whole rfl) rfl) ?_
    refine Reg.pur rfl rfl rfl rfl (Pur.fld _ fo65_0 rfl) ?_
    refine Reg.lod rfl rfl rfl rfl (Lod.ld sc3 rfl hX.blk rfl) ?_
    refine Reg.pur rfl rfl rfl rfl (Pur.bld (cs := [_, _, _, _, _, _, _, _, _]) pl65 zc65 rfl rfl ⟨rfl, rfl, rfl, rfl, rfl, rfl, rfl, rfl, rfl, rfl⟩) ?_
    refine Reg.pur rfl rfl rfl rfl (Pur.eqA eqt65 rfl rfl (fks_ints .i64 [_, _, _, _, _, _, _, _, _]) (fks_ints .i64 [_, 0, 0, 0, 0, 0, 0, 0, 0])) ?_
    refine Reg.pur rfl rfl rfl rfl (Pur.asg rfl) ?_
    refine Reg.nil ?_
    refine At.ret rfl Tryd.func68 rfl ?_
    refine ⟨congrArg Value.bool ?_, by first | exact hE5 | exact hn1.ext.trans hE2 | exact hn1.ext.upd hu3 (Nat.le_refl _) | exact hn1.ext⟩
    try rw [eqs_ints]
    rw [Bool.eq_iff_iff]
    simp only [decide_eq_true_eq, decide_eq_false_iff_not, Bool.not_eq_true', Bool.not_eq_eq_eq_not, Bool.not_true, Bool.not_false] at *
    simp [nodM, eqs, eqv, *]
    try omega
  refine At.region rfl rfl ?_
  refine Reg.pur rfl rfl rfl rfl (Pur.eql rfl rfl) ?_
  refine Reg.pur rfl rfl rfl rfl (Pur.asg rfl) ?_
  refine Reg.nil ?_
  refine At.cond rfl rfl (fun hb6 => ?_) (fun hb6 => ?_)
  · refine At.condT rfl rfl (by first | exact hb6 | exact decide_eq_true hb6 | exact decide_eq_false hb6 | simpa using hb6) ?_
    refine At.region rfl rfl ?_
    refine Reg.lod rfl rfl rfl rfl (Lod.ldn ag65 rfl hX.blk (whole rfl) rfl) ?_
    refine Reg.pur rfl rfl rfl rfl (Pur.fld _ fo65_0 rfl) ?_
    refine Reg.lod rfl rfl rfl rfl (Lod.ld sc3 rfl hX.blk rfl) ?_
    refine Reg.pur rfl rfl rfl rfl (Pur.bld (cs := [_, _, _, _, _, _, _, _, _]) pl65 zc65 rfl rfl ⟨rfl, rfl, rfl, rfl, rfl, rfl, rfl, rfl, rfl, rfl⟩) ?_
    refine Reg.pur rfl rfl rfl rfl (Pur.eqA eqt65 rfl rfl (fks_ints .i64 [_, _, _, _, _, _, _, _, _]) (fks_ints .i64 [_, 0, 0, 0, 0, 0, 0, 0, 0])) ?_
    refine Reg.pur rfl rfl rfl rfl (Pur.asg rfl) ?_
    refine Reg.nil ?_
    refine At.ret rfl Tryd.func68 rfl ?_
    refine ⟨congrArg Value.bool ?_, by first | exact hE5 | exact hn1.ext.trans hE2 | exact hn1.ext.upd hu3 (Nat.le_refl _) | exact hn1.ext⟩
    try rw [eqs_ints]
    rw [Bool.eq_iff_iff]
    simp only [decide_eq_true_eq, decide_eq_false_iff_not, Bool.not_eq_true', Bool.not_eq_eq_eq_not, Bool.not_true, Bool.not_false] at *
    simp [nodM, eqs, eqv, *]
    try omega
  refine At.region rfl rfl ?_
  refine Reg.pur rfl rfl rfl rfl (Pur.eql rfl rfl) ?_
  refine Reg.pur rfl rfl rfl rfl (Pur.asg rfl) ?_
  refine Reg.nil ?_
  refine At.cond rfl rfl (fun hb7 => ?_) (fun hb7 => ?_)
  · refine At.region rfl rfl ?_
    refine Reg.lod rfl rfl rfl rfl (Lod.ldn ag65 rfl hX.blk (whole rfl) rfl) ?_
    refine Reg.pur rfl rfl rfl rfl (Pur.fld _ fo65_0 rfl) ?_
    refine Reg.lod rfl rfl rfl rfl (Lod.ld sc3 rfl hX.blk rfl) ?_
    refine Reg.pur rfl rfl rfl rfl (Pur.bld (cs := [_, _, _, _, _, _, _, _, _]) pl65 zc65 rfl rfl ⟨rfl, rfl, rfl, rfl, rfl, rfl, rfl, rfl, rfl, rfl⟩) ?_
    refine Reg.pur rfl rfl rfl rfl (Pur.eqA eqt65 rfl rfl (fks_ints .i64 [_, _, _, _, _, _, _, _, _]) (fks_ints .i64 [_, 0, 0, 0, 0, 0, 0, 0, 0])) ?_
    refine Reg.pur rfl rfl rfl rfl (Pur.asg rfl) ?_
    refine Reg.nil ?_
    refine At.ret rfl Tryd.func68 rfl ?_
    refine ⟨congrArg Value.bool ?_, by first | exact hE5 | exact hn1.ext.trans hE2 | exact hn1.ext.upd hu3 (Nat.le_refl _) | exact hn1.ext⟩
    try rw [eqs_ints]
    rw [Bool.eq_iff_iff]
    simp only [decide_eq_true_eq, decide_eq_false_iff_not, Bool.not_eq_true', Bool.not_eq_eq_eq_not, Bool.not_true, Bool.not_false] at *
    simp [nodM, eqs, eqv, *]
    try omega
  refine At.region rfl rfl ?_
  refine Reg.pur rfl rfl rfl rfl (Pur.asg rfl) ?_
  refine Reg.nil ?_
  refine At.ret rfl Tryd.func68 rfl ?_
  refine ⟨congrArg Value.bool ?_, by first | exact hE5 | exact hn1.ext.trans hE2 | exact hn1.ext.upd hu3 (Nat.le_refl _) | exact hn1.ext⟩
  try rw [eqs_ints]
  rw [Bool.eq_iff_iff]
  simp only [decide_eq_true_eq, decide_eq_false_iff_not, Bool.not_eq_true', Bool.not_eq_eq_eq_not, Bool.not_true, Bool.not_false] at *
  simp [nodM, eqs, eqv, *]
  try omega
end Go.Proofs.YtlfillhffpiffaaDoor

namespace Go.Proofs.YtlfillhffpiffaaDoor
set_option linter.unusedSimpArgs false
set_option linter.unusedVariables false
set_option maxRecDepth 8000
open Go Go.Fx Go.Proofs
namespace FactsTypC
theorem es53 : esz Tryd.prog 53 = some 9 := by kernel_rfl
theorem fo65_0 : foff Tryd.prog 65 0 = some 0 := by kernel_rfl
theorem fo65_2 : foff Tryd.prog 65 2 = some 2 := by kernel_rfl
theorem fo65_3 : foff Tryd.prog 65 3 = some 3 := by kernel_rfl
theorem sc3 : sc Tryd.prog 3 = true := by kernel_rfl
end FactsTypC
open FactsTypC

abbrev el (L : List (List Int)) (i : Int) : List Int := L.getD i.toNat []
abbrev Nine (L : List (List Int)) : Prop := ∀ x ∈ L, x.length = 9
theorem wide9 {L : List (List Int)} (h : Nine L) : Wide Is 9 L := fun x hx => by simp [Is, h x hx]
def bgn (L : List (List Int)) : Nat → Int → Int
  | 0, _ => -1
  | f + 1, z => if (el L z).getD 0 0 ≠ 3 then z else if z = 0 ∨ (el L z).getD 3 0 ≠ z - 1 then -1 else
    if bgn L f ((el L z).getD 3 0) < 1 ∨ (el L z).getD 2 0 ≠ bgn L f ((el L z).getD 3 0) - 1 then -1 else bgn L f ((el L z).getD 2 0)
theorem bgn_succ (L : List (List Int)) (f : Nat) (z : Int) : bgn L (f + 1) z = if (el L z).getD 0 0 ≠ 3 then z else if z = 0 ∨ (el L z).getD 3 0 ≠ z - 1 then -1 else
    if bgn L f ((el L z).getD 3 0) < 1 ∨ (el L z).getD 2 0 ≠ bgn L f ((el L z).getD 3 0) - 1 then -1 else bgn L f ((el L z).getD 2 0) := rfl
theorem bgn_le (L : List (List Int)) : ∀ (f : Nat) (z : Int), 0 ≤ z → bgn L f z ≤ z
  | 0, z, h => by simp only [bgn]; omega
  | f + 1, z, h => by
    rw [bgn_succ]
    split
    · omega
    · split
      · omega
      · split
        · omega
        · rename_i h1 h2 h3
          have e1 := bgn_le L f ((el L z).getD 3 0) (by omega)
          have e2 := bgn_le L f ((el L z).getD 2 0) (by omega)
          omega

theorem el_cells {L : List (List Int)} (hL : Nine L) {H : Heap} {A : Option Addr} {cap : Nat} (hS : SlT H Is 9 (.slice A L.length cap) L) {z : Int} (h0 : 0 ≤ z) (h1 : z < L.length) :
    ∃ b o c, A = some ⟨b, o, none⟩ ∧ Blk H b c ∧ (c.drop (o + z.toNat * 9)).take 9 = Is (el L z) ∧ (el L z).length = 9 ∧ ∀ j, j < 9 → c[o + z.toNat * 9 + j]? = some (I ((el L z).getD j 0)) := by
  have hzn : z.toNat < L.length := by omega
  obtain ⟨b, o, c, h2, h3, h4, h5⟩ := sl_at (wide9 hL) hS hzn
  have hel : el L z = L[z.toNat] := by simp [el, List.getD_eq_getElem?_getD, List.getElem?_eq_getElem hzn]
  have h9 : (el L z).length = 9 := by rw [hel]; exact hL _ (List.getElem_mem hzn)
  rw [← hel] at h4
  exact ⟨b, o, c, h2, h3, h4, h9, fun j hj => at_tk h4 hj (at_Is (by omega))⟩

theorem begin_ok {A : Option Addr} {cap : Nat} (L : List (List Int)) (hL : Nine L) {H : Heap} (hS : SlT H Is 9 (.slice A L.length cap) L) (hm : L.length ≤ 9223372036854775807) : ∀ (f : Nat) (z : Int), 0 ≤ z → z < L.length → z.toNat < f →
    Ret Tryd.prog 69 [.slice A L.length cap, I z] H (fun v H' => v = I (bgn L f z) ∧ H' = H) := by
  intro f
  induction f with
  | zero => intro z _ _ h; omega
  | succ f ihf =>
  intro z hz0 hzl hzf
  obtain ⟨b0, o0, c0, rfl, hb0, hbd, hx9, hat⟩ := el_cells hL hS hz0 hzl
  have hfin := bgn_succ L f z
  generalize el L z = x at hfin hbd hx9 hat
  refine Ret.of_at (N := 50) Tryd.call69 Tryd.func69 rfl rfl rfl ?_
  refine At.region rfl rfl ?_
  refine Reg.pur rfl rfl rfl rfl (Pur.asg rfl) ?_
  refine Reg.nil ?_
  refine At.region rfl rfl ?_
  refine Reg.pur rfl rfl rfl rfl (Pur.mv rfl) ?_
  refine Reg.pur rfl rfl rfl rfl (Pur.mv rfl) ?_
  refine Reg.pur rfl rfl rfl rfl (Pur.idx _ es53 rfl rfl (by omega) (by omega)) ?_
  refine Reg.pur rfl rfl rfl rfl (Pur.asg rfl) ?_
  refine Reg.nil ?_
  refine At.region rfl rfl ?_
  refine Reg.pur rfl rfl rfl rfl (Pur.mv rfl) ?_
  refine Reg.pur rfl rfl rfl rfl (Pur.nilc rfl) ?_
  refine Reg.pur rfl rfl rfl rfl (Pur.fld _ fo65_0 rfl) ?_
  refine Reg.lod rfl rfl rfl rfl (Lod.ld sc3 rfl hb0 (hat 0 (by omega))) ?_
  refine Reg.pur rfl rfl rfl rfl (Pur.neq rfl rfl) ?_
  refine Reg.nil ?_
  refine At.cond rfl rfl (fun hb1 => ?_) (fun hb1 => ?_)
  · refine At.region rfl rfl ?_
    refine Reg.pur rfl rfl rfl rfl (Pur.mv rfl) ?_
    refine Reg.pur rfl rfl rfl rfl (Pur.asg rfl) ?_
    refine Reg.nil ?_
    refine At.ret rfl Tryd.func69 rfl ?_
    refine ⟨congrArg I ?_, rfl⟩
    try simp only [decide_eq_true_eq, decide_eq_false_iff_not] at *
    rw [hfin]
    first | (rw [if_pos (by omega)]; done) | (rw [if_neg (by omega), if_pos (by omega)]; done) | (rw [if_neg (by omega), if_neg (by omega), if_pos (by omega)]; done) | (rw [if_neg (by omega), if_neg (by omega), if_neg (by omega)]; done)
  refine At.region rfl rfl ?_
  refine Reg.pur rfl rfl rfl rfl (Pur.mv rfl) ?_
  refine Reg.pur rfl rfl rfl rfl (Pur.eql rfl rfl) ?_
  refine Reg.pur rfl rfl rfl rfl (Pur.mv rfl) ?_
  refine Reg.case 18 rfl (fun hc2 => ?_) (fun hc2 => ?_)
  · refine Reg.skip rfl rfl rfl rfl rfl rfl rfl ?_
    refine Reg.skip rfl rfl rfl rfl rfl rfl rfl ?_
    refine Reg.skip rfl rfl rfl rfl rfl rfl rfl ?_
    refine Reg.skip rfl rfl rfl rfl rfl rfl rfl ?_
    refine Reg.skip rfl rfl rfl rfl rfl rfl rfl ?_
    refine Reg.skip rfl rfl rfl rfl rfl rfl rfl ?_
    refine Reg.skip rfl rfl rfl rfl rfl rfl rfl ?_
    refine Reg.pur rfl rfl rfl rfl (Pur.pickT rfl rfl) ?_
    refine Reg.nil ?_
    refine At.condT rfl rfl rfl ?_
    refine At.region rfl rfl ?_
    refine Reg.pur rfl rfl rfl rfl (Pur.asg rfl) ?_
    refine Reg.nil ?_
    refine At.ret rfl Tryd.func69 rfl ?_
    refine ⟨congrArg I ?_, rfl⟩
    try simp only [decide_eq_true_eq, decide_eq_false_iff_not] at *
    rw [hfin]
    first | (rw [if_pos (by omega)]; done) | (rw [if_neg (by omega), if_pos (by omega)]; done) | (rw [if_neg (by omega), if_neg (by omega), if_pos (by omega)]; done) | (rw [if_neg (by omega), if_neg (by omega), if_neg (by omega)]; done)
  refine Reg.gpur rfl rfl rfl rfl rfl rfl (Pur.mv rfl) ?_
  refine Reg.gpur rfl rfl rfl rfl rfl rfl (Pur.nilc rfl) ?_
  refine Reg.gpur rfl rfl rfl rfl rfl rfl (Pur.fld _ fo65_3 rfl) ?_
  refine Reg.glod rfl rfl rfl rfl rfl rfl (Lod.ld sc3 rfl hb0 (hat 3 (by omega))) ?_
  refine Reg.gpur rfl rfl rfl rfl rfl rfl (Pur.mv rfl) ?_
  first | refine Reg.gpur rfl rfl rfl rfl rfl rfl (Pur.sub64 rfl rfl (by omega)) ?_ | refine Reg.gpur rfl rfl rfl rfl rfl rfl (Pur.sub64 rfl rfl (by assumption)) ?_ | refine Reg.gpur rfl rfl rfl rfl rfl rfl (Pur.sub rfl rfl) ?_
  refine Reg.gpur rfl rfl rfl rfl rfl rfl (Pur.neq rfl rfl) ?_
  refine Reg.pur rfl rfl rfl rfl (Pur.pickF rfl rfl) ?_
  refine Reg.nil ?_
  refine At.cond rfl rfl (fun hb3 => ?_) (fun hb3 => ?_)
  · refine At.region rfl rfl ?_
    refine Reg.pur rfl rfl rfl rfl (Pur.asg rfl) ?_
    refine Reg.nil ?_
    refine At.ret rfl Tryd.func69 rfl ?_
    refine ⟨congrArg I ?_, rfl⟩
    try simp only [decide_eq_true_eq, decide_eq_false_iff_not] at *
    rw [hfin]
    first | (rw [if_pos (by omega)]; done) | (rw [if_neg (by omega), if_pos (by omega)]; done) | (rw [if_neg (by omega), if_neg (by omega), if_pos (by omega)]; done) | (rw [if_neg (by omega), if_neg (by omega), if_neg (by omega)]; done)
  simp only [decide_eq_true_eq, decide_eq_false_iff_not] at *
  have hle := bgn_le L f (x.getD 3 0) (by omega)
  refine At.region rfl rfl ?_
  refine Reg.pur rfl rfl rfl rfl (Pur.mv rfl) ?_
  refine Reg.pur rfl rfl rfl rfl (Pur.mv rfl) ?_
  refine Reg.pur rfl rfl rfl rfl (Pur.nilc rfl) ?_
  refine Reg.pur rfl rfl rfl rfl (Pur.fld _ fo65_3 rfl) ?_
  refine Reg.lod rfl rfl rfl rfl (Lod.ld sc3 rfl hb0 (hat 3 (by omega))) ?_
  refine Reg.op rfl rfl rfl rfl (Does.call rfl (ihf (x.getD 3 0) (by omega) (by omega) (by omega))) ?_
  rintro _ H ⟨rfl, rfl⟩
  refine Reg.pur rfl rfl rfl rfl (Pur.asg rfl) ?_
  refine Reg.nil ?_
  refine At.region rfl rfl ?_
  refine Reg.pur rfl rfl rfl rfl (Pur.mv rfl) ?_
  refine Reg.pur rfl rfl rfl rfl (Pur.lss rfl rfl) ?_
  refine Reg.pur rfl rfl rfl rfl (Pur.mv rfl) ?_
  refine Reg.case 35 rfl (fun hc4 => ?_) (fun hc4 => ?_)
  · refine Reg.skip rfl rfl rfl rfl rfl rfl rfl ?_
    refine Reg.skip rfl rfl rfl rfl rfl rfl rfl ?_
    refine Reg.skip rfl rfl rfl rfl rfl rfl rfl ?_
    refine Reg.skip rfl rfl rfl rfl rfl rfl rfl ?_
    refine Reg.skip rfl rfl rfl rfl rfl rfl rfl ?_
    try simp only [decide_eq_false_iff_not] at hc4
    refine Reg.skip rfl rfl rfl rfl rfl rfl rfl ?_
    refine Reg.skip rfl rfl rfl rfl rfl rfl rfl ?_
    refine Reg.pur rfl rfl rfl rfl (Pur.pickT rfl rfl) ?_
    refine Reg.nil ?_
    refine At.condT rfl rfl rfl ?_
    refine At.region rfl rfl ?_
    refine Reg.pur rfl rfl rfl rfl (Pur.asg rfl) ?_
    refine Reg.nil ?_
    refine At.ret rfl Tryd.func69 rfl ?_
    refine ⟨congrArg I ?_, rfl⟩
    try simp only [decide_eq_true_eq, decide_eq_false_iff_not] at *
    rw [hfin]
    first | (rw [if_pos (by omega)]; done) | (rw [if_neg (by omega), if_pos (by omega)]; done) | (rw [if_neg (by omega), if_neg (by omega), if_pos (by omega)]; done) | (rw [if_neg (by omega), if_neg (by omega), if_neg (by omega)]; done)
  refine Reg.gpur rfl rfl rfl rfl rfl rfl (Pur.mv rfl) ?_
  refine Reg.gpur rfl rfl rfl rfl rfl rfl (Pur.nilc rfl) ?_
  refine Reg.gpur rfl rfl rfl rfl rfl rfl (Pur.fld _ fo65_2 rfl) ?_
  refine Reg.glod rfl rfl rfl rfl rfl rfl (Lod.ld sc3 rfl hb0 (hat 2 (by omega))) ?_
  refine Reg.gpur rfl rfl rfl rfl rfl rfl (Pur.mv rfl) ?_
  try simp only [decide_eq_false_iff_not] at hc4
  first | refine Reg.gpur rfl rfl rfl rfl rfl rfl (Pur.sub64 rfl rfl (by omega)) ?_ | refine Reg.gpur rfl rfl rfl rfl rfl rfl (Pur.sub64 rfl rfl (by assumption)) ?_ | refine Reg.gpur rfl rfl rfl rfl rfl rfl (Pur.sub rfl rfl) ?_
  refine Reg.gpur rfl rfl rfl rfl rfl rfl (Pur.neq rfl rfl) ?_
  refine Reg.pur rfl rfl rfl rfl (Pur.pickF rfl rfl) ?_
  refine Reg.nil ?_
  refine At.cond rfl rfl (fun hb5 => ?_) (fun hb5 => ?_)
  · refine At.region rfl rfl ?_
    refine Reg.pur rfl rfl rfl rfl (Pur.asg rfl) ?_
    refine Reg.nil ?_
    refine At.ret rfl Tryd.func69 rfl ?_
    refine ⟨congrArg I ?_, rfl⟩
    try simp only [decide_eq_true_eq, decide_eq_false_iff_not] at *
    rw [hfin]
    first | (rw [if_pos (by omega)]; done) | (rw [if_neg (by omega), if_pos (by omega)]; done) | (rw [if_neg (by omega), if_neg (by omega), if_pos (by omega)]; done) | (rw [if_neg (by omega), if_neg (by omega), if_neg (by omega)]; done)
  try simp only [decide_eq_true_eq, decide_eq_false_iff_not] at *
  refine At.region rfl rfl ?_
  refine Reg.pur rfl rfl rfl rfl (Pur.mv rfl) ?_
  refine Reg.pur rfl rfl rfl rfl (Pur.mv rfl) ?_
  refine Reg.pur rfl rfl rfl rfl (Pur.nilc rfl) ?_
  refine Reg.pur rfl rfl rfl rfl (Pur.fld _ fo65_2 rfl) ?_
  refine Reg.lod rfl rfl rfl rfl (Lod.ld sc3 rfl hb0 (hat 2 (by omega))) ?_
  refine Reg.op rfl rfl rfl rfl (Does.call rfl (ihf (x.getD 2 0) (by omega) (by omega) (by omega))) ?_
  rintro _ H ⟨rfl, rfl⟩
  refine Reg.pur rfl rfl rfl rfl (Pur.asg rfl) ?_
  refine Reg.nil ?_
  refine At.ret rfl Tryd.func69 rfl ?_
  refine ⟨congrArg I ?_, rfl⟩
  try simp only [decide_eq_true_eq, decide_eq_false_iff_not] at *
  rw [hfin]
  first | (rw [if_pos (by omega)]; done) | (rw [if_neg (by omega), if_pos (by omega)]; done) | (rw [if_neg (by omega), if_neg (by omega), if_pos (by omega)]; done) | (rw [if_neg (by omega), if_neg (by omega), if_neg (by omega)]; done)

theorem beginR_ok {A : Option Addr} {cap : Nat} (L : List (List Int)) (hL : Nine L) {H : Heap} (hS : SlT H Is 9 (.slice A L.length cap) L) (hm : L.length ≤ 9223372036854775807) : ∀ (f : Nat) (z : Int), 0 ≤ z → z < L.length → z.toNat < f →
    Ret Tryd.prog 70 [.slice A L.length cap, I z] H (fun v H' => v = I (bgn L f z) ∧ H' = H) := by
  intro f
  induction f with
  | zero => intro z _ _ h; omega
  | succ f ihf =>
  intro z hz0 hzl hzf
  obtain ⟨b0, o0, c0, rfl, hb0, hbd, hx9, hat⟩ := el_cells hL hS hz0 hzl
  have hfin := bgn_succ L f z
  generalize el L z = x at hfin hbd hx9 hat
  refine Ret.of_at (N := 49) Tryd.call70 Tryd.func70 rfl rfl rfl ?_
  refine At.region rfl rfl ?_
  refine Reg.pur rfl rfl rfl rfl (Pur.asg rfl) ?_
  refine Reg.nil ?_
  refine At.region rfl rfl ?_
  refine Reg.pur rfl rfl rfl rfl (Pur.mv rfl) ?_
  refine Reg.pur rfl rfl rfl rfl (Pur.mv rfl) ?_
  refine Reg.pur rfl rfl rfl rfl (Pur.idx _ es53 rfl rfl (by omega) (by omega)) ?_
  refine Reg.pur rfl rfl rfl rfl (Pur.fld _ fo65_0 rfl) ?_
  refine Reg.lod rfl rfl rfl rfl (Lod.ld sc3 rfl hb0 (hat 0 (by omega))) ?_
  refine Reg.pur rfl rfl rfl rfl (Pur.neq rfl rfl) ?_
  refine Reg.nil ?_
  refine At.cond rfl rfl (fun hb1 => ?_) (fun hb1 => ?_)
  · refine At.region rfl rfl ?_
    refine Reg.pur rfl rfl rfl rfl (Pur.mv rfl) ?_
    refine Reg.pur rfl rfl rfl rfl (Pur.asg rfl) ?_
    refine Reg.nil ?_
    refine At.ret rfl Tryd.func70 rfl ?_
    refine ⟨congrArg I ?_, rfl⟩
    try simp only [decide_eq_true_eq, decide_eq_false_iff_not] at *
    rw [hfin]
    first | (rw [if_pos (by omega)]; done) | (rw [if_neg (by omega), if_pos (by omega)]; done) | (rw [if_neg (by omega), if_neg (by omega), if_pos (by omega)]; done) | (rw [if_neg (by omega), if_neg (by omega), if_neg (by omega)]; done)
  refine At.region rfl rfl ?_
  refine Reg.pur rfl rfl rfl rfl (Pur.mv rfl) ?_
  refine Reg.pur rfl rfl rfl rfl (Pur.mv rfl) ?_
  refine Reg.pur rfl rfl rfl rfl (Pur.idx _ es53 rfl rfl (by omega) (by omega)) ?_
  refine Reg.pur rfl rfl rfl rfl (Pur.fld _ fo65_3 rfl) ?_
  refine Reg.lod rfl rfl rfl rfl (Lod.ld sc3 rfl hb0 (hat 3 (by omega))) ?_
  refine Reg.pur rfl rfl rfl rfl (Pur.asg rfl) ?_
  refine Reg.nil ?_
  refine At.region rfl rfl ?_
  refine Reg.pur rfl rfl rfl rfl (Pur.mv rfl) ?_
  refine Reg.pur rfl rfl rfl rfl (Pur.mv rfl) ?_
  first | refine Reg.pur rfl rfl rfl rfl (Pur.sub64 rfl rfl (by omega)) ?_ | refine Reg.pur rfl rfl rfl rfl (Pur.sub64 rfl rfl (by assumption)) ?_ | refine Reg.pur rfl rfl rfl rfl (Pur.sub rfl rfl) ?_
  refine Reg.pur rfl rfl rfl rfl (Pur.neq rfl rfl) ?_
  refine Reg.pur rfl rfl rfl rfl (Pur.mv rfl) ?_
  refine Reg.case 23 rfl (fun hc2 => ?_) (fun hc2 => ?_)
  · refine Reg.skip rfl rfl rfl rfl rfl rfl rfl ?_
    refine Reg.skip rfl rfl rfl rfl rfl rfl rfl ?_
    refine Reg.pur rfl rfl rfl rfl (Pur.pickT rfl rfl) ?_
    refine Reg.nil ?_
    refine At.condT rfl rfl rfl ?_
    refine At.region rfl rfl ?_
    refine Reg.pur rfl rfl rfl rfl (Pur.asg rfl) ?_
    refine Reg.nil ?_
    refine At.ret rfl Tryd.func70 rfl ?_
    refine ⟨congrArg I ?_, rfl⟩
    try simp only [decide_eq_true_eq, decide_eq_false_iff_not] at *
    rw [hfin]
    first | (rw [if_pos (by omega)]; done) | (rw [if_neg (by omega), if_pos (by omega)]; done) | (rw [if_neg (by omega), if_neg (by omega), if_pos (by omega)]; done) | (rw [if_neg (by omega), if_neg (by omega), if_neg (by omega)]; done)
  refine Reg.gpur rfl rfl rfl rfl rfl rfl (Pur.mv rfl) ?_
  refine Reg.gpur rfl rfl rfl rfl rfl rfl (Pur.lss rfl rfl) ?_
  refine Reg.pur rfl rfl rfl rfl (Pur.pickF rfl rfl) ?_
  refine Reg.nil ?_
  refine At.cond rfl rfl (fun hb3 => ?_) (fun hb3 => ?_)
  · refine At.region rfl rfl ?_
    refine Reg.pur rfl rfl rfl rfl (Pur.asg rfl) ?_
    refine Reg.nil ?_
    refine At.ret rfl Tryd.func70 rfl ?_
    refine ⟨congrArg I ?_, rfl⟩
    try simp only [decide_eq_true_eq, decide_eq_false_iff_not] at *
    rw [hfin]
    first | (rw [if_pos (by omega)]; done) | (rw [if_neg (by omega), if_pos (by omega)]; done) | (rw [if_neg (by omega), if_neg (by omega), if_pos (by omega)]; done) | (rw [if_neg (by omega), if_neg (by omega), if_neg (by omega)]; done)
  simp only [decide_eq_true_eq, decide_eq_false_iff_not] at *
  have hle := bgn_le L f (x.getD 3 0) (by omega)
  refine At.region rfl rfl ?_
  refine Reg.pur rfl rfl rfl rfl (Pur.mv rfl) ?_
  refine Reg.pur rfl rfl rfl rfl (Pur.mv rfl) ?_
  refine Reg.op rfl rfl rfl rfl (Does.call rfl (ihf (x.getD 3 0) (by omega) (by omega) (by omega))) ?_
  rintro _ H ⟨rfl, rfl⟩
  refine Reg.pur rfl rfl rfl rfl (Pur.asg rfl) ?_
  refine Reg.nil ?_
  refine At.region rfl rfl ?_
  refine Reg.pur rfl rfl rfl rfl (Pur.mv rfl) ?_
  refine Reg.pur rfl rfl rfl rfl (Pur.lss rfl rfl) ?_
  refine Reg.pur rfl rfl rfl rfl (Pur.mv rfl) ?_
  refine Reg.case 32 rfl (fun hc4 => ?_) (fun hc4 => ?_)
  · refine Reg.skip rfl rfl rfl rfl rfl rfl rfl ?_
    refine Reg.skip rfl rfl rfl rfl rfl rfl rfl ?_
    refine Reg.skip rfl rfl rfl rfl rfl rfl rfl ?_
    refine Reg.skip rfl rfl rfl rfl rfl rfl rfl ?_
    refine Reg.skip rfl rfl rfl rfl rfl rfl rfl ?_
    refine Reg.skip rfl rfl rfl rfl rfl rfl rfl ?_
    try simp only [decide_eq_false_iff_not] at hc4
    refine Reg.skip rfl rfl rfl rfl rfl rfl rfl ?_
    refine Reg.skip rfl rfl rfl rfl rfl rfl rfl ?_
    refine Reg.pur rfl rfl rfl rfl (Pur.pickT rfl rfl) ?_
    refine Reg.nil ?_
    refine At.condT rfl rfl rfl ?_
    refine At.region rfl rfl ?_
    refine Reg.pur rfl rfl rfl rfl (Pur.asg rfl) ?_
    refine Reg.nil ?_
    refine At.ret rfl Tryd.func70 rfl ?_
    refine ⟨congrArg I ?_, rfl⟩
    try simp only [decide_eq_true_eq, decide_eq_false_iff_not] at *
    rw [hfin]
    first | (rw [if_pos (by omega)]; done) | (rw [if_neg (by omega), if_pos (by omega)]; done) | (rw [if_neg (by omega), if_neg (by omega), if_pos (by omega)]; done) | (rw [if_neg (by omega), if_neg (by omega), if_neg (by omega)]; done)
  refine Reg.gpur rfl rfl rfl rfl rfl rfl (Pur.mv rfl) ?_
  refine Reg.gpur rfl rfl rfl rfl rfl rfl (Pur.mv rfl) ?_
  refine Reg.gpur rfl rfl rfl rfl rfl rfl (Pur.idx _ es53 rfl rfl (by omega) (by omega)) ?_
  refine Reg.gpur rfl rfl rfl rfl rfl rfl (Pur.fld _ fo65_2 rfl) ?_
  refine Reg.glod rfl rfl rfl rfl rfl rfl (Lod.ld sc3 rfl hb0 (hat 2 (by omega))) ?_
  refine Reg.gpur rfl rfl rfl rfl rfl rfl (Pur.mv rfl) ?_
  try simp only [decide_eq_false_iff_not] at hc4
  first | refine Reg.gpur rfl rfl rfl rfl rfl rfl (Pur.sub64 rfl rfl (by omega)) ?_ | refine Reg.gpur rfl rfl rfl rfl rfl rfl (Pur.sub64 rfl rfl (by assumption)) ?_ | refine Reg.gpur rfl rfl rfl rfl rfl rfl (Pur.sub rfl rfl) ?_
  refine Reg.gpur rfl rfl rfl rfl rfl rfl (Pur.neq rfl rfl) ?_
  refine Reg.pur rfl rfl rfl rfl (Pur.pickF rfl rfl) ?_
  refine Reg.nil ?_
  refine At.cond rfl rfl (fun hb5 => ?_) (fun hb5 => ?_)
  · refine At.region rfl rfl ?_
    refine Reg.pur rfl rfl rfl rfl (Pur.asg rfl) ?_
    refine Reg.nil ?_
    refine At.ret rfl Tryd.func70 rfl ?_
    refine ⟨congrArg I ?_, rfl⟩
    try simp only [decide_eq_true_eq, decide_eq_false_iff_not] at *
    rw [hfin]
    first | (rw [if_pos (by omega)]; done) | (rw [if_neg (by omega), if_pos (by omega)]; done) | (rw [if_neg (by omega), if_neg (by omega), if_pos (by omega)]; done) | (rw [if_neg (by omega), if_neg (by omega), if_neg (by omega)]; done)
  try simp only [decide_eq_true_eq, decide_eq_false_iff_not] at *
  refine At.region rfl rfl ?_
  refine Reg.pur rfl rfl rfl rfl (Pur.mv rfl) ?_
  refine Reg.pur rfl rfl rfl rfl (Pur.mv rfl) ?_
  refine Reg.pur rfl rfl rfl rfl (Pur.mv rfl) ?_
  refine Reg.pur rfl rfl rfl rfl (Pur.idx _ es53 rfl rfl (by omega) (by omega)) ?_
  refine Reg.pur rfl rfl rfl rfl (Pur.fld _ fo65_2 rfl) ?_
  refine Reg.lod rfl rfl rfl rfl (Lod.ld sc3 rfl hb0 (hat 2 (by omega))) ?_
  refine Reg.op rfl rfl rfl rfl (Does.call rfl (ihf (x.getD 2 0) (by omega) (by omega) (by omega))) ?_
  rintro _ H ⟨rfl, rfl⟩
  refine Reg.pur rfl rfl rfl rfl (Pur.asg rfl) ?_
  refine Reg.nil ?_
  refine At.ret rfl Tryd.func70 rfl ?_
  refine ⟨congrArg I ?_, rfl⟩
  try simp only [decide_eq_true_eq, decide_eq_false_iff_not] at *
  rw [hfin]
  first | (rw [if_pos (by omega)]; done) | (rw [if_neg (by omega), if_pos (by omega)]; done) | (rw [if_neg (by omega), if_neg (by omega), if_pos (by omega)]; done) | (rw [if_neg (by omega), if_neg (by omega), if_neg (by omega)]; done)
end Go.Proofs.YtlfillhffpiffaaDoor

namespace Go.Proofs.YtlfillhffpiffaaDoor
set_option linter.unusedSimpArgs false
set_option linter.unusedVariables false
set_option maxRecDepth 8000
open Go Go.Fx Go.Proofs
namespace FactsTypD
theorem ag24 : ag Tryd.prog 24 = some 5 := by kernel_rfl
theorem ag65 : ag Tryd.prog 65 = some 9 := by kernel_rfl
theorem eqt65 : eqT Tryd.prog 65 = some [.int .i64, .int .i64, .int .i64, .int .i64, .int .i64, .int .i64, .int .i64, .int .i64, .int .i64] := by kernel_rfl
theorem es53 : esz Tryd.prog 53 = some 9 := by kernel_rfl
theorem fo55_0 : foff Tryd.prog 55 0 = some 0 := by kernel_rfl
theorem fo65_0 : foff Tryd.prog 65 0 = some 0 := by kernel_rfl
theorem fo65_1 : foff Tryd.prog 65 1 = some 1 := by kernel_rfl
theorem fo65_2 : foff Tryd.prog 65 2 = some 2 := by kernel_rfl
theorem fo65_3 : foff Tryd.prog 65 3 = some 3 := by kernel_rfl
theorem fo65_4 : foff Tryd.prog 65 4 = some 4 := by kernel_rfl
theorem isl53 : isSl Tryd.prog 53 = true := by kernel_rfl
theorem pl65 : places Tryd.prog 65 = some [(0, 1), (1, 1), (2, 1), (3, 1), (4, 5)] := by kernel_rfl
theorem sc3 : sc Tryd.prog 3 = true := by kernel_rfl
theorem sc53 : sc Tryd.prog 53 = true := by kernel_rfl
theorem zc65 : zc Tryd.prog 65 = some [.int .i64 0, .int .i64 0, .int .i64 0, .int .i64 0, .int .i64 0, .int .i64 0, .int .i64 0, .int .i64 0, .int .i64 0] := by kernel_rfl
end FactsTypD
open FactsTypD

theorem nodMay_ok9 {x : List Int} (hx : x.length = 9) (H : Heap) : Ret Tryd.prog 68 [.agg (Is x).toArray] H (fun r H' => r = .bool (nodM x) ∧ Ext H H') := by
  match x, hx with
  | [k, v, a, b, c, d, e, f, t], _ => exact nodMay_ok k v a b c d e f t H
def typM (L : List (List Int)) : Bool := decide (1 ≤ L.length ∧ L.length ≤ 256) && L.all nodM && decide (bgn L L.length ((L.length : Int) - 1) = 0)
abbrev Ty (A : Option Addr) (len cap : Nat) : Value := .agg #[.slice A len cap]

theorem typMay_ok {A : Option Addr} {cap : Nat} (L : List (List Int)) (hL : Nine L) {H : Heap} (hS : SlT H Is 9 (.slice A L.length cap) L) (hm : L.length ≤ 9223372036854775807) :
    Ret Tryd.prog 46 [Ty A L.length cap] H (fun v H' => v = .bool (typM L) ∧ Ext H H') := by
  refine Ret.of_at (N := 32) Tryd.call46 Tryd.func46 rfl rfl rfl ?_
  refine At.region rfl rfl ?_
  refine Reg.op rfl rfl rfl rfl (Does.box rfl rfl) ?_
  rintro _ H1 ⟨rfl, hn1⟩
  refine Reg.pur rfl rfl rfl rfl (Pur.asg rfl) ?_
  refine Reg.nil ?_
  have hB := hn1.own.blk
  have hS1 := hS.ext hn1.ext
  refine At.region rfl rfl ?_
  refine Reg.pur rfl rfl rfl rfl (Pur.fld _ fo55_0 rfl) ?_
  refine Reg.lod rfl rfl rfl rfl (Lod.ld sc53 rfl hB rfl) ?_
  refine Reg.pur rfl rfl rfl rfl (Pur.lenS isl53 rfl) ?_
  refine Reg.pur rfl rfl rfl rfl (Pur.asg rfl) ?_
  refine Reg.nil ?_
  refine At.region rfl rfl ?_
  refine Reg.pur rfl rfl rfl rfl (Pur.mv rfl) ?_
  refine Reg.pur rfl rfl rfl rfl (Pur.lss rfl rfl) ?_
  refine Reg.pur rfl rfl rfl rfl (Pur.mv rfl) ?_
  refine Reg.case 11 rfl (fun hc1 => ?_) (fun hc1 => ?_)
  · refine Reg.skip rfl rfl rfl rfl rfl rfl rfl ?_
    refine Reg.skip rfl rfl rfl rfl rfl rfl rfl ?_
    refine Reg.pur rfl rfl rfl rfl (Pur.pickT rfl rfl) ?_
    refine Reg.nil ?_
    refine At.condT rfl rfl rfl ?_
    refine At.region rfl rfl ?_
    refine Reg.pur rfl rfl rfl rfl (Pur.asg rfl) ?_
    refine Reg.nil ?_
    refine At.ret rfl Tryd.func46 rfl ?_
    first | exact ⟨congrArg Value.bool (by unfold typM; simp only [decide_eq_true_eq] at *; rw [decide_eq_false (by omega)]; rfl), hn1.ext⟩ | exact ⟨congrArg Value.bool (by unfold typM; rw [all_of_take hlt (by simpa using hb4)]; simp), hn1.ext.trans (hE.trans (hE4.trans hE5))⟩ | exact ⟨congrArg Value.bool (by simp only [decide_eq_false_iff_not] at *; rw [List.take_of_length_le (by omega)] at hgo; unfold typM; rw [hgo, decide_eq_true (p := 1 ≤ L.length ∧ L.length ≤ 256) (by omega)]; rfl), hn1.ext.trans hE⟩
  refine Reg.gpur rfl rfl rfl rfl rfl rfl (Pur.mv rfl) ?_
  refine Reg.gpur rfl rfl rfl rfl rfl rfl (Pur.gtr rfl rfl) ?_
  refine Reg.pur rfl rfl rfl rfl (Pur.pickF rfl rfl) ?_
  refine Reg.nil ?_
  refine At.cond rfl rfl (fun hb2 => ?_) (fun hb2 => ?_)
  · refine At.region rfl rfl ?_
    refine Reg.pur rfl rfl rfl rfl (Pur.asg rfl) ?_
    refine Reg.nil ?_
    refine At.ret rfl Tryd.func46 rfl ?_
    first | exact ⟨congrArg Value.bool (by unfold typM; simp only [decide_eq_true_eq] at *; rw [decide_eq_false (by omega)]; rfl), hn1.ext⟩ | exact ⟨congrArg Value.bool (by unfold typM; rw [all_of_take hlt (by simpa using hb4)]; simp), hn1.ext.trans (hE.trans (hE4.trans hE5))⟩ | exact ⟨congrArg Value.bool (by simp only [decide_eq_false_iff_not] at *; rw [List.take_of_length_le (by omega)] at hgo; unfold typM; rw [hgo, decide_eq_true (p := 1 ≤ L.length ∧ L.length ≤ 256) (by omega)]; rfl), hn1.ext.trans hE⟩
  refine At.region rfl rfl ?_
  refine Reg.pur rfl rfl rfl rfl (Pur.fld _ fo55_0 rfl) ?_
  refine Reg.lod rfl rfl rfl rfl (Lod.ld sc53 rfl hB rfl) ?_
  refine Reg.pur rfl rfl rfl rfl (Pur.lenS isl53 rfl) ?_
  refine Reg.pur rfl rfl rfl rfl (Pur.mv rfl) ?_
  refine Reg.nil ?_
  refine At.loop (σ := Nat) (fun i => [(18, I i), (17, I L.length), (16, .slice A L.length cap), (1, ptr H.size 0), (3, I L.length)]) (fun i H' => i ≤ L.length ∧ Ext H1 H' ∧ (L.take i).all nodM = true) (fun i => L.length - i) 0 rfl ⟨rfl, rfl, rfl, rfl, rfl, trivial⟩ ⟨by omega, Ext.refl _, rfl⟩ ?_
  rintro i H2 ⟨hi, hE, hgo⟩ ih
  refine At.region rfl rfl ?_
  refine Reg.pur rfl rfl rfl rfl (Pur.lss rfl rfl) ?_
  refine Reg.nil ?_
  refine At.cond rfl rfl (fun hb3 => ?_) (fun hb3 => ?_)
  · simp only [decide_eq_true_eq] at hb3
    have hlt : i < L.length := by omega
    obtain ⟨b, o, c, rfl, hB2, hd, h9⟩ := sl_at (wide9 hL) (hS1.ext hE) hlt
    have h9' := hL _ (List.getElem_mem hlt)
    refine At.region rfl rfl ?_
    refine Reg.pur rfl rfl rfl rfl (Pur.idx _ es53 rfl rfl (by omega) hb3) ?_
    refine Reg.lod rfl rfl rfl rfl (Lod.ldn ag65 rfl hB2 hd h9) ?_
    refine Reg.op rfl rfl rfl rfl (Does.alloc zc65) ?_
    rintro _ H3 ⟨rfl, hn3⟩
    refine Reg.op0 rfl rfl rfl (Does.stn ag65 rfl rfl (ones_Is _) h9 hn3.own (by decide)) ?_
    rintro _ H4 hu4
    refine Reg.nil ?_
    have hX : Own H4 H2.size (Is L[i]) := by have := hu4.own; rwa [over (by rfl)] at this
    have hE4 : Ext H2 H4 := hn3.ext.upd hu4 (Nat.le_refl _)
    refine At.region rfl rfl ?_
    refine Reg.lod rfl rfl rfl rfl (Lod.ldn ag65 rfl hX.blk (whole h9) h9) ?_
    refine Reg.op rfl rfl rfl rfl (Does.call rfl (nodMay_ok9 h9' _)) ?_
    rintro _ H5 ⟨rfl, hE5⟩
    refine Reg.pur rfl rfl rfl rfl (Pur.not rfl) ?_
    refine Reg.nil ?_
    refine At.cond rfl rfl (fun hb4 => ?_) (fun hb4 => ?_)
    · refine At.region rfl rfl ?_
      refine Reg.pur rfl rfl rfl rfl (Pur.asg rfl) ?_
      refine Reg.nil ?_
      refine At.ret rfl Tryd.func46 rfl ?_
      first | exact ⟨congrArg Value.bool (by unfold typM; simp only [decide_eq_true_eq] at *; rw [decide_eq_false (by omega)]; rfl), hn1.ext⟩ | exact ⟨congrArg Value.bool (by unfold typM; rw [all_of_take hlt (by simpa using hb4)]; simp), hn1.ext.trans (hE.trans (hE4.trans hE5))⟩ | exact ⟨congrArg Value.bool (by simp only [decide_eq_false_iff_not] at *; rw [List.take_of_length_le (by omega)] at hgo; unfold typM; rw [hgo, decide_eq_true (p := 1 ≤ L.length ∧ L.length ≤ 256) (by omega)]; rfl), hn1.ext.trans hE⟩
    refine At.region rfl rfl ?_
    first | refine Reg.pur rfl rfl rfl rfl (Pur.add64 rfl rfl (by omega)) ?_ | refine Reg.pur rfl rfl rfl rfl (Pur.add64 rfl rfl (by assumption)) ?_ | refine Reg.pur rfl rfl rfl rfl (Pur.add rfl rfl) ?_
    refine Reg.pur rfl rfl rfl rfl (Pur.mv rfl) ?_
    refine Reg.nil ?_
    refine At.via (ih (i + 1) H5 ⟨by omega, hE.trans (hE4.trans hE5), ?_⟩ (by omega)) ⟨rfl, rfl, rfl, rfl, rfl, trivial⟩
    rw [all_take hlt, hgo]; simpa using hb4
  have hlen : 1 ≤ L.length ∧ L.length ≤ 256 := by simp only [decide_eq_false_iff_not] at *; omega
  refine At.region rfl rfl ?_
  refine Reg.pur rfl rfl rfl rfl (Pur.fld _ fo55_0 rfl) ?_
  refine Reg.lod rfl rfl rfl rfl (Lod.ld sc53 rfl (hB.ext hE) rfl) ?_
  refine Reg.pur rfl rfl rfl rfl (Pur.mv rfl) ?_
  first | refine Reg.pur rfl rfl rfl rfl (Pur.sub64 rfl rfl (by omega)) ?_ | refine Reg.pur rfl rfl rfl rfl (Pur.sub64 rfl rfl (by assumption)) ?_ | refine Reg.pur rfl rfl rfl rfl (Pur.sub rfl rfl) ?_
  refine Reg.op rfl rfl rfl rfl (Does.call rfl (begin_ok L hL (hS1.ext hE) hm L.length _ (by omega) (by omega) (by omega))) ?_
  rintro _ H2 ⟨rfl, rfl⟩
  refine Reg.pur rfl rfl rfl rfl (Pur.eql rfl rfl) ?_
  refine Reg.pur rfl rfl rfl rfl (Pur.asg rfl) ?_
  refine Reg.nil ?_
  refine At.ret rfl Tryd.func46 rfl ?_
  first | exact ⟨congrArg Value.bool (by unfold typM; simp only [decide_eq_true_eq] at *; rw [decide_eq_false (by omega)]; rfl), hn1.ext⟩ | exact ⟨congrArg Value.bool (by unfold typM; rw [all_of_take hlt (by simpa using hb4)]; simp), hn1.ext.trans (hE.trans (hE4.trans hE5))⟩ | exact ⟨congrArg Value.bool (by simp only [decide_eq_false_iff_not] at *; rw [List.take_of_length_le (by omega)] at hgo; unfold typM; rw [hgo, decide_eq_true (p := 1 ≤ L.length ∧ L.length ≤ 256) (by omega)]; rfl), hn1.ext.trans hE⟩

theorem typMayR_ok {A : Option Addr} {cap : Nat} (L : List (List Int)) (hL : Nine L) {H : Heap} (hS : SlT H Is 9 (.slice A L.length cap) L) (hm : L.length ≤ 9223372036854775807) :
    Ret Tryd.prog 47 [Ty A L.length cap] H (fun v H' => v = .bool (typM L) ∧ Ext H H') := by
  refine Ret.of_at (N := 74) Tryd.call47 Tryd.func47 rfl rfl rfl ?_
  refine At.region rfl rfl ?_
  refine Reg.op rfl rfl rfl rfl (Does.box rfl rfl) ?_
  rintro _ H1 ⟨rfl, hn1⟩
  refine Reg.pur rfl rfl rfl rfl (Pur.asg rfl) ?_
  refine Reg.nil ?_
  have hB := hn1.own.blk
  have hS1 := hS.ext hn1.ext
  refine At.region rfl rfl ?_
  refine Reg.pur rfl rfl rfl rfl (Pur.fld _ fo55_0 rfl) ?_
  refine Reg.lod rfl rfl rfl rfl (Lod.ld sc53 rfl hB rfl) ?_
  refine Reg.pur rfl rfl rfl rfl (Pur.asg rfl) ?_
  refine Reg.nil ?_
  refine At.region rfl rfl ?_
  refine Reg.pur rfl rfl rfl rfl (Pur.mv rfl) ?_
  refine Reg.pur rfl rfl rfl rfl (Pur.lenS isl53 rfl) ?_
  refine Reg.pur rfl rfl rfl rfl (Pur.lss rfl rfl) ?_
  refine Reg.pur rfl rfl rfl rfl (Pur.mv rfl) ?_
  refine Reg.case 12 rfl (fun hc1 => ?_) (fun hc1 => ?_)
  · refine Reg.skip rfl rfl rfl rfl rfl rfl rfl ?_
    refine Reg.skip rfl rfl rfl rfl rfl rfl rfl ?_
    refine Reg.skip rfl rfl rfl rfl rfl rfl rfl ?_
    refine Reg.pur rfl rfl rfl rfl (Pur.pickT rfl rfl) ?_
    refine Reg.nil ?_
    refine At.condT rfl rfl rfl ?_
    refine At.region rfl rfl ?_
    refine Reg.pur rfl rfl rfl rfl (Pur.asg rfl) ?_
    refine Reg.nil ?_
    refine At.ret rfl Tryd.func47 rfl ?_
    first | exact ⟨congrArg Value.bool (by unfold typM; simp only [decide_eq_true_eq] at *; rw [decide_eq_false (by omega)]; rfl), hn1.ext⟩ | exact ⟨congrArg Value.bool (by simp only [decide_eq_false_iff_not] at *; rw [List.take_of_length_le (by omega)] at hgo; unfold typM; rw [hgo, decide_eq_true (p := 1 ≤ L.length ∧ L.length ≤ 256) (by omega)]; rfl), hn1.ext.trans hE⟩ | (refine ⟨congrArg Value.bool (hbad ?_).symm, hn1.ext.trans (hE.trans hE6)⟩; clear hnext hbad; simp [eqs, eqv] at *; first | (simp [nodM, *]; done) | (simp [nodM, *]; assumption) | (simp [nodM, *]; intros; omega))
  refine Reg.gpur rfl rfl rfl rfl rfl rfl (Pur.mv rfl) ?_
  refine Reg.gpur rfl rfl rfl rfl rfl rfl (Pur.lenS isl53 rfl) ?_
  refine Reg.gpur rfl rfl rfl rfl rfl rfl (Pur.gtr rfl rfl) ?_
  refine Reg.pur rfl rfl rfl rfl (Pur.pickF rfl rfl) ?_
  refine Reg.nil ?_
  refine At.cond rfl rfl (fun hb2 => ?_) (fun hb2 => ?_)
  · refine At.region rfl rfl ?_
    refine Reg.pur rfl rfl rfl rfl (Pur.asg rfl) ?_
    refine Reg.nil ?_
    refine At.ret rfl Tryd.func47 rfl ?_
    first | exact ⟨congrArg Value.bool (by unfold typM; simp only [decide_eq_true_eq] at *; rw [decide_eq_false (by omega)]; rfl), hn1.ext⟩ | exact ⟨congrArg Value.bool (by simp only [decide_eq_false_iff_not] at *; rw [List.take_of_length_le (by omega)] at hgo; unfold typM; rw [hgo, decide_eq_true (p := 1 ≤ L.length ∧ L.length ≤ 256) (by omega)]; rfl), hn1.ext.trans hE⟩ | (refine ⟨congrArg Value.bool (hbad ?_).symm, hn1.ext.trans (hE.trans hE6)⟩; clear hnext hbad; simp [eqs, eqv] at *; first | (simp [nodM, *]; done) | (simp [nodM, *]; assumption) | (simp [nodM, *]; intros; omega))
  refine At.region rfl rfl ?_
  refine Reg.pur rfl rfl rfl rfl (Pur.asg rfl) ?_
  refine Reg.nil ?_
  refine At.loop (σ := Nat) (fun i => [(4, I i), (3, .slice A L.length cap)]) (fun i H' => i ≤ L.length ∧ Ext H1 H' ∧ (L.take i).all nodM = true) (fun i => L.length - i) 0 rfl ⟨rfl, rfl, trivial⟩ ⟨by omega, Ext.refl _, rfl⟩ ?_
  rintro i H2 ⟨hi, hE, hgo⟩ ih
  refine At.region rfl rfl ?_
  refine Reg.pur rfl rfl rfl rfl (Pur.mv rfl) ?_
  refine Reg.pur rfl rfl rfl rfl (Pur.mv rfl) ?_
  refine Reg.pur rfl rfl rfl rfl (Pur.lenS isl53 rfl) ?_
  refine Reg.pur rfl rfl rfl rfl (Pur.lss rfl rfl) ?_
  refine Reg.nil ?_
  refine At.cond rfl rfl (fun hb3 => ?_) (fun hb3 => ?_)
  · simp only [decide_eq_true_eq] at hb3
    have hlt : i < L.length := by omega
    obtain ⟨b, o, c, rfl, hB2, hd, h9⟩ := sl_at (wide9 hL) (hS1.ext hE) hlt
    have h9' := hL _ (List.getElem_mem hlt)
    have hnext : ∀ H', Ext H2 H' → nodM L[i] = true → _ := fun H' h1 h2 => ih (i + 1) H' ⟨by omega, hE.trans h1, by rw [all_take hlt, hgo, h2]; rfl⟩ (by omega)
    have hbad : nodM L[i] = false → typM L = false := fun h => by unfold typM; rw [all_of_take hlt h]; simp
    clear ih hgo
    generalize L[i] = x at *
    obtain ⟨k, v, p, q, c0, c1, c2, c3, t, rfl⟩ : ∃ k v p q c0 c1 c2 c3 t, x = [k, v, p, q, c0, c1, c2, c3, t] := by match x, h9' with | [k, v, p, q, c0, c1, c2, c3, t], _ => exact ⟨_, _, _, _, _, _, _, _, _, rfl⟩
    refine At.region rfl rfl ?_
    refine Reg.pur rfl rfl rfl rfl (Pur.mv rfl) ?_
    refine Reg.pur rfl rfl rfl rfl (Pur.mv rfl) ?_
    refine Reg.pur rfl rfl rfl rfl (Pur.idx _ es53 rfl rfl (by omega) hb3) ?_
    refine Reg.lod rfl rfl rfl rfl (Lod.ldn ag65 rfl hB2 hd h9) ?_
    refine Reg.op rfl rfl rfl rfl (Does.alloc zc65) ?_
    rintro _ H3 ⟨rfl, hn3⟩
    refine Reg.op0 rfl rfl rfl (Does.stn ag65 rfl rfl (ones_Is _) h9 hn3.own (by decide)) ?_
    rintro _ H4 hu4
    refine Reg.nil ?_
    have hX : Own H4 H2.size (Is [k, v, p, q, c0, c1, c2, c3, t]) := by have := hu4.own; rwa [over (by rfl)] at this
    have hE4 : Ext H2 H4 := hn3.ext.upd hu4 (Nat.le_refl _)
    refine At.region rfl rfl ?_
    refine Reg.pur rfl rfl rfl rfl (Pur.fld _ fo65_0 rfl) ?_
    refine Reg.lod rfl rfl rfl rfl (Lod.ld sc3 rfl hX.blk rfl) ?_
    refine Reg.pur rfl rfl rfl rfl (Pur.bld (cs := [_, _, _, _, _, _, _, _, _]) pl65 zc65 rfl rfl ⟨rfl, rfl, rfl, rfl, rfl, rfl, rfl, rfl, rfl, rfl⟩) ?_
    refine Reg.op rfl rfl rfl rfl (Does.alloc zc65) ?_
    rintro _ H5 ⟨rfl, hn5⟩
    refine Reg.op0 rfl rfl rfl (Does.stn ag65 rfl rfl rfl rfl hn5.own (by decide)) ?_
    rintro _ H6 hu6
    refine Reg.nil ?_
    have hlt4 := hX.lt
    have hs2 := hE4.1
    have hY : Own H6 H4.size (Is [k, 0, 0, 0, 0, 0, 0, 0, 0]) := hu6.own
    have hX := (hX.ext hn5.ext).upd hu6 (by omega)
    have hE6 : Ext H2 H6 := (hE4.trans hn5.ext).upd hu6 (by omega)
    refine At.region rfl rfl ?_
    refine Reg.pur rfl rfl rfl rfl (Pur.fld _ fo65_0 rfl) ?_
    refine Reg.lod rfl rfl rfl rfl (Lod.ld sc3 rfl hX.blk rfl) ?_
    refine Reg.nil ?_
    refine At.region rfl rfl ?_
    refine Reg.pur rfl rfl rfl rfl (Pur.eql rfl rfl) ?_
    refine Reg.pur rfl rfl rfl rfl (Pur.asg rfl) ?_
    refine Reg.nil ?_
    refine At.cond rfl rfl (fun hb4 => ?_) (fun hb4 => ?_)
    · refine At.condT rfl rfl (by first | exact hb4 | exact decide_eq_true hb4 | exact decide_eq_false hb4 | simpa using hb4) ?_
      refine At.region rfl rfl ?_
      refine Reg.lod rfl rfl rfl rfl (Lod.ldn ag65 rfl hX.blk (whole rfl) rfl) ?_
      refine Reg.lod rfl rfl rfl rfl (Lod.ldn ag65 rfl hY.blk (whole rfl) rfl) ?_
      refine Reg.pur rfl rfl rfl rfl (Pur.neA eqt65 rfl rfl (fks_ints .i64 [_, _, _, _, _, _, _, _, _]) (fks_ints .i64 [_, _, _, _, _, _, _, _, _])) ?_
      refine Reg.pur rfl rfl rfl rfl (Pur.mv rfl) ?_
      refine Reg.case 58 rfl (fun hc5 => ?_) (fun hc5 => ?_)
      · refine Reg.skip rfl rfl rfl rfl rfl rfl rfl ?_
        refine Reg.skip rfl rfl rfl rfl rfl rfl rfl ?_
        refine Reg.skip rfl rfl rfl rfl rfl rfl rfl ?_
        refine Reg.pur rfl rfl rfl rfl (Pur.pickT rfl rfl) ?_
        refine Reg.pur rfl rfl rfl rfl (Pur.mv rfl) ?_
        refine Reg.skip rfl rfl rfl rfl rfl rfl rfl ?_
        refine Reg.skip rfl rfl rfl rfl rfl rfl rfl ?_
        refine Reg.skip rfl rfl rfl rfl rfl rfl rfl ?_
        refine Reg.pur rfl rfl rfl rfl (Pur.pickT rfl rfl) ?_
        refine Reg.nil ?_
        refine At.condT rfl rfl rfl ?_
        refine At.region rfl rfl ?_
        refine Reg.pur rfl rfl rfl rfl (Pur.asg rfl) ?_
        refine Reg.nil ?_
        refine At.ret rfl Tryd.func47 rfl ?_
        first | exact ⟨congrArg Value.bool (by unfold typM; simp only [decide_eq_true_eq] at *; rw [decide_eq_false (by omega)]; rfl), hn1.ext⟩ | exact ⟨congrArg Value.bool (by simp only [decide_eq_false_iff_not] at *; rw [List.take_of_length_le (by omega)] at hgo; unfold typM; rw [hgo, decide_eq_true (p := 1 ≤ L.length ∧ L.length ≤ 256) (by omega)]; rfl), hn1.ext.trans hE⟩ | (refine ⟨congrArg Value.bool (hbad ?_).symm, hn1.ext.trans (hE.trans hE6)⟩; clear hnext hbad; simp [eqs, eqv] at *; first | (simp [nodM, *]; done) | (simp [nodM, *]; assumption) | (simp [nodM, *]; intros; omega))
      refine Reg.gpur rfl rfl rfl rfl rfl rfl (Pur.fld _ fo65_1 rfl) ?_
      refine Reg.glod rfl rfl rfl rfl rfl rfl (Lod.ld sc3 rfl hX.blk rfl) ?_
      refine Reg.gpur rfl rfl rfl rfl rfl rfl (Pur.lss rfl rfl) ?_
      refine Reg.pur rfl rfl rfl rfl (Pur.pickF rfl rfl) ?_
      refine Reg.pur rfl rfl rfl rfl (Pur.mv rfl) ?_
      refine Reg.case 63 rfl (fun hc6 => ?_) (fun hc6 => ?_)
      · refine Reg.skip rfl rfl rfl rfl rfl rfl rfl ?_
        refine Reg.skip rfl rfl rfl rfl rfl rfl rfl ?_
        refine Reg.skip rfl rfl rfl rfl rfl rfl rfl ?_
        refine Reg.pur rfl rfl rfl rfl (Pur.pickT rfl rfl) ?_
        refine Reg.nil ?_
        refine At.condT rfl rfl rfl ?_
        refine At.region rfl rfl ?_
        refine Reg.pur rfl rfl rfl rfl (Pur.asg rfl) ?_
        refine Reg.nil ?_
        refine At.ret rfl Tryd.func47 rfl ?_
        first | exact ⟨congrArg Value.bool (by unfold typM; simp only [decide_eq_true_eq] at *; rw [decide_eq_false (by omega)]; rfl), hn1.ext⟩ | exact ⟨congrArg Value.bool (by simp only [decide_eq_false_iff_not] at *; rw [List.take_of_length_le (by omega)] at hgo; unfold typM; rw [hgo, decide_eq_true (p := 1 ≤ L.length ∧ L.length ≤ 256) (by omega)]; rfl), hn1.ext.trans hE⟩ | (refine ⟨congrArg Value.bool (hbad ?_).symm, hn1.ext.trans (hE.trans hE6)⟩; clear hnext hbad; simp [eqs, eqv] at *; first | (simp [nodM, *]; done) | (simp [nodM, *]; assumption) | (simp [nodM, *]; intros; omega))
      refine Reg.gpur rfl rfl rfl rfl rfl rfl (Pur.fld _ fo65_1 rfl) ?_
      refine Reg.glod rfl rfl rfl rfl rfl rfl (Lod.ld sc3 rfl hX.blk rfl) ?_
      refine Reg.gpur rfl rfl rfl rfl rfl rfl (Pur.geq rfl rfl) ?_
      refine Reg.pur rfl rfl rfl rfl (Pur.pickF rfl rfl) ?_
      refine Reg.nil ?_
      refine At.cond rfl rfl (fun hb7 => ?_) (fun hb7 => ?_)
      · refine At.region rfl rfl ?_
        refine Reg.pur rfl rfl rfl rfl (Pur.asg rfl) ?_
        refine Reg.nil ?_
        refine At.ret rfl Tryd.func47 rfl ?_
        first | exact ⟨congrArg Value.bool (by unfold typM; simp only [decide_eq_true_eq] at *; rw [decide_eq_false (by omega)]; rfl), hn1.ext⟩ | exact ⟨congrArg Value.bool (by simp only [decide_eq_false_iff_not] at *; rw [List.take_of_length_le (by omega)] at hgo; unfold typM; rw [hgo, decide_eq_true (p := 1 ≤ L.length ∧ L.length ≤ 256) (by omega)]; rfl), hn1.ext.trans hE⟩ | (refine ⟨congrArg Value.bool (hbad ?_).symm, hn1.ext.trans (hE.trans hE6)⟩; clear hnext hbad; simp [eqs, eqv] at *; first | (simp [nodM, *]; done) | (simp [nodM, *]; assumption) | (simp [nodM, *]; intros; omega))
      refine At.region rfl rfl ?_
      refine Reg.pur rfl rfl rfl rfl (Pur.mv rfl) ?_
      first | refine Reg.pur rfl rfl rfl rfl (Pur.add64 rfl rfl (by omega)) ?_ | refine Reg.pur rfl rfl rfl rfl (Pur.add64 rfl rfl (by assumption)) ?_ | refine Reg.pur rfl rfl rfl rfl (Pur.add rfl rfl) ?_
      refine Reg.pur rfl rfl rfl rfl (Pur.asg rfl) ?_
      refine Reg.nil ?_
      refine At.via (hnext _ hE6 ?_) ⟨rfl, rfl, trivial⟩
      clear hnext hbad
      simp [eqs, eqv] at *
      simp [nodM, *]
    refine At.region rfl rfl ?_
    refine Reg.pur rfl rfl rfl rfl (Pur.eql rfl rfl) ?_
    refine Reg.pur rfl rfl rfl rfl (Pur.asg rfl) ?_
    refine Reg.nil ?_
    refine At.cond rfl rfl (fun hb8 => ?_) (fun hb8 => ?_)
    · refine At.region rfl rfl ?_
      refine Reg.lod rfl rfl rfl rfl (Lod.ldn ag65 rfl hX.blk (whole rfl) rfl) ?_
      refine Reg.lod rfl rfl rfl rfl (Lod.ldn ag65 rfl hY.blk (whole rfl) rfl) ?_
      refine Reg.pur rfl rfl rfl rfl (Pur.neA eqt65 rfl rfl (fks_ints .i64 [_, _, _, _, _, _, _, _, _]) (fks_ints .i64 [_, _, _, _, _, _, _, _, _])) ?_
      refine Reg.pur rfl rfl rfl rfl (Pur.mv rfl) ?_
      refine Reg.case 58 rfl (fun hc9 => ?_) (fun hc9 => ?_)
      · refine Reg.skip rfl rfl rfl rfl rfl rfl rfl ?_
        refine Reg.skip rfl rfl rfl rfl rfl rfl rfl ?_
        refine Reg.skip rfl rfl rfl rfl rfl rfl rfl ?_
        refine Reg.pur rfl rfl rfl rfl (Pur.pickT rfl rfl) ?_
        refine Reg.pur rfl rfl rfl rfl (Pur.mv rfl) ?_
        refine Reg.skip rfl rfl rfl rfl rfl rfl rfl ?_
        refine Reg.skip rfl rfl rfl rfl rfl rfl rfl ?_
        refine Reg.skip rfl rfl rfl rfl rfl rfl rfl ?_
        refine Reg.pur rfl rfl rfl rfl (Pur.pickT rfl rfl) ?_
        refine Reg.nil ?_
        refine At.condT rfl rfl rfl ?_
        refine At.region rfl rfl ?_
        refine Reg.pur rfl rfl rfl rfl (Pur.asg rfl) ?_
        refine Reg.nil ?_
        refine At.ret rfl Tryd.func47 rfl ?_
        first | exact ⟨congrArg Value.bool (by unfold typM; simp only [decide_eq_true_eq] at *; rw [decide_eq_false (by omega)]; rfl), hn1.ext⟩ | exact ⟨congrArg Value.bool (by simp only [decide_eq_false_iff_not] at *; rw [List.take_of_length_le (by omega)] at hgo; unfold typM; rw [hgo, decide_eq_true (p := 1 ≤ L.length ∧ L.length ≤ 256) (by omega)]; rfl), hn1.ext.trans hE⟩ | (refine ⟨congrArg Value.bool (hbad ?_).symm, hn1.ext.trans (hE.trans hE6)⟩; clear hnext hbad; simp [eqs, eqv] at *; first | (simp [nodM, *]; done) | (simp [nodM, *]; assumption) | (simp [nodM, *]; intros; omega))
      refine Reg.gpur rfl rfl rfl rfl rfl rfl (Pur.fld _ fo65_1 rfl) ?_
      refine Reg.glod rfl rfl rfl rfl rfl rfl (Lod.ld sc3 rfl hX.blk rfl) ?_
      refine Reg.gpur rfl rfl rfl rfl rfl rfl (Pur.lss rfl rfl) ?_
      refine Reg.pur rfl rfl rfl rfl (Pur.pickF rfl rfl) ?_
      refine Reg.pur rfl rfl rfl rfl (Pur.mv rfl) ?_
      refine Reg.case 63 rfl (fun hc10 => ?_) (fun hc10 => ?_)
      · refine Reg.skip rfl rfl rfl rfl rfl rfl rfl ?_
        refine Reg.skip rfl rfl rfl rfl rfl rfl rfl ?_
        refine Reg.skip rfl rfl rfl rfl rfl rfl rfl ?_
        refine Reg.pur rfl rfl rfl rfl (Pur.pickT rfl rfl) ?_
        refine Reg.nil ?_
        refine At.condT rfl rfl rfl ?_
        refine At.region rfl rfl ?_
        refine Reg.pur rfl rfl rfl rfl (Pur.asg rfl) ?_
        refine Reg.nil ?_
        refine At.ret rfl Tryd.func47 rfl ?_
        first | exact ⟨congrArg Value.bool (by unfold typM; simp only [decide_eq_true_eq] at *; rw [decide_eq_false (by omega)]; rfl), hn1.ext⟩ | exact ⟨congrArg Value.bool (by simp only [decide_eq_false_iff_not] at *; rw [List.take_of_length_le (by omega)] at hgo; unfold typM; rw [hgo, decide_eq_true (p := 1 ≤ L.length ∧ L.length ≤ 256) (by omega)]; rfl), hn1.ext.trans hE⟩ | (refine ⟨congrArg Value.bool (hbad ?_).symm, hn1.ext.trans (hE.trans hE6)⟩; clear hnext hbad; simp [eqs, eqv] at *; first | (simp [nodM, *]; done) | (simp [nodM, *]; assumption) | (simp [nodM, *]; intros; omega))
      refine Reg.gpur rfl rfl rfl rfl rfl rfl (Pur.fld _ fo65_1 rfl) ?_
      refine Reg.glod rfl rfl rfl rfl rfl rfl (Lod.ld sc3 rfl hX.blk rfl) ?_
      refine Reg.gpur rfl rfl rfl rfl rfl rfl (Pur.geq rfl rfl) ?_
      refine Reg.pur rfl rfl rfl rfl (Pur.pickF rfl rfl) ?_
      refine Reg.nil ?_
      refine At.cond rfl rfl (fun hb11 => ?_) (fun hb11 => ?_)
      · refine At.region rfl rfl ?_
        refine Reg.pur rfl rfl rfl rfl (Pur.asg rfl) ?_
        refine Reg.nil ?_
        refine At.ret rfl Tryd.func47 rfl ?_
        first | exact ⟨congrArg Value.bool (by unfold typM; simp only [decide_eq_true_eq] at *; rw [decide_eq_false (by omega)]; rfl), hn1.ext⟩ | exact ⟨congrArg Value.bool (by simp only [decide_eq_false_iff_not] at *; rw [List.take_of_length_le (by omega)] at hgo; unfold typM; rw [hgo, decide_eq_true (p := 1 ≤ L.length ∧ L.length ≤ 256) (by omega)]; rfl), hn1.ext.trans hE⟩ | (refine ⟨congrArg Value.bool (hbad ?_).symm, hn1.ext.trans (hE.trans hE6)⟩; clear hnext hbad; simp [eqs, eqv] at *; first | (simp [nodM, *]; done) | (simp [nodM, *]; assumption) | (simp [nodM, *]; intros; omega))
      refine At.region rfl rfl ?_
      refine Reg.pur rfl rfl rfl rfl (Pur.mv rfl) ?_
      first | refine Reg.pur rfl rfl rfl rfl (Pur.add64 rfl rfl (by omega)) ?_ | refine Reg.pur rfl rfl rfl rfl (Pur.add64 rfl rfl (by assumption)) ?_ | refine Reg.pur rfl rfl rfl rfl (Pur.add rfl rfl) ?_
      refine Reg.pur rfl rfl rfl rfl (Pur.asg rfl) ?_
      refine Reg.nil ?_
      refine At.via (hnext _ hE6 ?_) ⟨rfl, rfl, trivial⟩
      clear hnext hbad
      simp [eqs, eqv] at *
      simp [nodM, *]
    refine At.region rfl rfl ?_
    refine Reg.pur rfl rfl rfl rfl (Pur.eql rfl rfl) ?_
    refine Reg.pur rfl rfl rfl rfl (Pur.asg rfl) ?_
    refine Reg.nil ?_
    refine At.cond rfl rfl (fun hb12 => ?_) (fun hb12 => ?_)
    · refine At.region rfl rfl ?_
      refine Reg.pur rfl rfl rfl rfl (Pur.fld _ fo65_1 rfl) ?_
      refine Reg.lod rfl rfl rfl rfl (Lod.ld sc3 rfl hX.blk rfl) ?_
      refine Reg.pur rfl rfl rfl rfl (Pur.fld _ fo65_1 rfl) ?_
      refine Reg.op0 rfl rfl rfl (Does.st sc3 rfl rfl rfl hY (by simp)) ?_
      rintro _ H7 hu7
      refine Reg.nil ?_
      have hX := hX.upd hu7 (by omega)
      have hE6 := hE6.upd hu7 (by omega)
      have hY : Own H7 H4.size (Is [k, v, 0, 0, 0, 0, 0, 0, 0]) := hu7.own
      refine At.region rfl rfl ?_
      refine Reg.lod rfl rfl rfl rfl (Lod.ldn ag65 rfl hX.blk (whole rfl) rfl) ?_
      refine Reg.lod rfl rfl rfl rfl (Lod.ldn ag65 rfl hY.blk (whole rfl) rfl) ?_
      refine Reg.pur rfl rfl rfl rfl (Pur.neA eqt65 rfl rfl (fks_ints .i64 [_, _, _, _, _, _, _, _, _]) (fks_ints .i64 [_, _, _, _, _, _, _, _, _])) ?_
      refine Reg.pur rfl rfl rfl rfl (Pur.mv rfl) ?_
      refine Reg.case 58 rfl (fun hc13 => ?_) (fun hc13 => ?_)
      · refine Reg.skip rfl rfl rfl rfl rfl rfl rfl ?_
        refine Reg.skip rfl rfl rfl rfl rfl rfl rfl ?_
        refine Reg.skip rfl rfl rfl rfl rfl rfl rfl ?_
        refine Reg.pur rfl rfl rfl rfl (Pur.pickT rfl rfl) ?_
        refine Reg.pur rfl rfl rfl rfl (Pur.mv rfl) ?_
        refine Reg.skip rfl rfl rfl rfl rfl rfl rfl ?_
        refine Reg.skip rfl rfl rfl rfl rfl rfl rfl ?_
        refine Reg.skip rfl rfl rfl rfl rfl rfl rfl ?_
        refine Reg.pur rfl rfl rfl rfl (Pur.pickT rfl rfl) ?_
        refine Reg.nil ?_
        refine At.condT rfl rfl rfl ?_
        refine At.region rfl rfl ?_
        refine Reg.pur rfl rfl rfl rfl (Pur.asg rfl) ?_
        refine Reg.nil ?_
        refine At.ret rfl Tryd.func47 rfl ?_
        first | exact ⟨congrArg Value.bool (by unfold typM; simp only [decide_eq_true_eq] at *; rw [decide_eq_false (by omega)]; rfl), hn1.ext⟩ | exact ⟨congrArg Value.bool (by simp only [decide_eq_false_iff_not] at *; rw [List.take_of_length_le (by omega)] at hgo; unfold typM; rw [hgo, decide_eq_true (p := 1 ≤ L.length ∧ L.length ≤ 256) (by omega)]; rfl), hn1.ext.trans hE⟩ | (refine ⟨congrArg Value.bool (hbad ?_).symm, hn1.ext.trans (hE.trans hE6)⟩; clear hnext hbad; simp [eqs, eqv] at *; first | (simp [nodM, *]; done) | (simp [nodM, *]; assumption) | (simp [nodM, *]; intros; omega))
      refine Reg.gpur rfl rfl rfl rfl rfl rfl (Pur.fld _ fo65_1 rfl) ?_
      refine Reg.glod rfl rfl rfl rfl rfl rfl (Lod.ld sc3 rfl hX.blk rfl) ?_
      refine Reg.gpur rfl rfl rfl rfl rfl rfl (Pur.lss rfl rfl) ?_
      refine Reg.pur rfl rfl rfl rfl (Pur.pickF rfl rfl) ?_
      refine Reg.pur rfl rfl rfl rfl (Pur.mv rfl) ?_
      refine Reg.case 63 rfl (fun hc14 => ?_) (fun hc14 => ?_)
      · refine Reg.skip rfl rfl rfl rfl rfl rfl rfl ?_
        refine Reg.skip rfl rfl rfl rfl rfl rfl rfl ?_
        refine Reg.skip rfl rfl rfl rfl rfl rfl rfl ?_
        refine Reg.pur rfl rfl rfl rfl (Pur.pickT rfl rfl) ?_
        refine Reg.nil ?_
        refine At.condT rfl rfl rfl ?_
        refine At.region rfl rfl ?_
        refine Reg.pur rfl rfl rfl rfl (Pur.asg rfl) ?_
        refine Reg.nil ?_
        refine At.ret rfl Tryd.func47 rfl ?_
        first | exact ⟨congrArg Value.bool (by unfold typM; simp only [decide_eq_true_eq] at *; rw [decide_eq_false (by omega)]; rfl), hn1.ext⟩ | exact ⟨congrArg Value.bool (by simp only [decide_eq_false_iff_not] at *; rw [List.take_of_length_le (by omega)] at hgo; unfold typM; rw [hgo, decide_eq_true (p := 1 ≤ L.length ∧ L.length ≤ 256) (by omega)]; rfl), hn1.ext.trans hE⟩ | (refine ⟨congrArg Value.bool (hbad ?_).symm, hn1.ext.trans (hE.trans hE6)⟩; clear hnext hbad; simp [eqs, eqv] at *; first | (simp [nodM, *]; done) | (simp [nodM, *]; assumption) | (simp [nodM, *]; intros; omega))
      refine Reg.gpur rfl rfl rfl rfl rfl rfl (Pur.fld _ fo65_1 rfl) ?_
      refine Reg.glod rfl rfl rfl rfl rfl rfl (Lod.ld sc3 rfl hX.blk rfl) ?_
      refine Reg.gpur rfl rfl rfl rfl rfl rfl (Pur.geq rfl rfl) ?_
      refine Reg.pur rfl rfl rfl rfl (Pur.pickF rfl rfl) ?_
      refine Reg.nil ?_
      refine At.cond rfl rfl (fun hb15 => ?_) (fun hb15 => ?_)
      · refine At.region rfl rfl ?_
        refine Reg.pur rfl rfl rfl rfl (Pur.asg rfl) ?_
        refine Reg.nil ?_
        refine At.ret rfl Tryd.func47 rfl ?_
        first | exact ⟨congrArg Value.bool (by unfold typM; simp only [decide_eq_true_eq] at *; rw [decide_eq_false (by omega)]; rfl), hn1.ext⟩ | exact ⟨congrArg Value.bool (by simp only [decide_eq_false_iff_not] at *; rw [List.take_of_length_le (by omega)] at hgo; unfold typM; rw [hgo, decide_eq_true (p := 1 ≤ L.length ∧ L.length ≤ 256) (by omega)]; rfl), hn1.ext.trans hE⟩ | (refine ⟨congrArg Value.bool (hbad ?_).symm, hn1.ext.trans (hE.trans hE6)⟩; clear hnext hbad; simp [eqs, eqv] at *; first | (simp [nodM, *]; done) | (simp [nodM, *]; assumption) | (simp [nodM, *]; intros; omega))
      refine At.region rfl rfl ?_
      refine Reg.pur rfl rfl rfl rfl (Pur.mv rfl) ?_
      first | refine Reg.pur rfl rfl rfl rfl (Pur.add64 rfl rfl (by omega)) ?_ | refine Reg.pur rfl rfl rfl rfl (Pur.add64 rfl rfl (by assumption)) ?_ | refine Reg.pur rfl rfl rfl rfl (Pur.add rfl rfl) ?_
      refine Reg.pur rfl rfl rfl rfl (Pur.asg rfl) ?_
      refine Reg.nil ?_
      refine At.via (hnext _ hE6 ?_) ⟨rfl, rfl, trivial⟩
      clear hnext hbad
      simp [eqs, eqv] at *
      simp [nodM, *]
    refine At.region rfl rfl ?_
    refine Reg.pur rfl rfl rfl rfl (Pur.eql rfl rfl) ?_
    refine Reg.pur rfl rfl rfl rfl (Pur.asg rfl) ?_
    refine Reg.nil ?_
    refine At.cond rfl rfl (fun hb16 => ?_) (fun hb16 => ?_)
    · refine At.region rfl rfl ?_
      refine Reg.pur rfl rfl rfl rfl (Pur.fld _ fo65_2 rfl) ?_
      refine Reg.lod rfl rfl rfl rfl (Lod.ld sc3 rfl hX.blk rfl) ?_
      refine Reg.pur rfl rfl rfl rfl (Pur.fld _ fo65_2 rfl) ?_
      refine Reg.op0 rfl rfl rfl (Does.st sc3 rfl rfl rfl hY (by simp)) ?_
      rintro _ H7 hu7
      refine Reg.nil ?_
      have hX := hX.upd hu7 (by omega)
      have hE6 := hE6.upd hu7 (by omega)
      have hY : Own H7 H4.size (Is [k, 0, p, 0, 0, 0, 0, 0, 0]) := hu7.own
      refine At.region rfl rfl ?_
      refine Reg.pur rfl rfl rfl rfl (Pur.fld _ fo65_3 rfl) ?_
      refine Reg.lod rfl rfl rfl rfl (Lod.ld sc3 rfl hX.blk rfl) ?_
      refine Reg.pur rfl rfl rfl rfl (Pur.fld _ fo65_3 rfl) ?_
      refine Reg.op0 rfl rfl rfl (Does.st sc3 rfl rfl rfl hY (by simp)) ?_
      rintro _ H8 hu8
      refine Reg.nil ?_
      have hX := hX.upd hu8 (by omega)
      have hE6 := hE6.upd hu8 (by omega)
      have hY : Own H8 H4.size (Is [k, 0, p, q, 0, 0, 0, 0, 0]) := hu8.own
      refine At.region rfl rfl ?_
      refine Reg.pur rfl rfl rfl rfl (Pur.fld _ fo65_4 rfl) ?_
      refine Reg.lod rfl rfl rfl rfl (Lod.ldn ag24 rfl hX.blk (show _ = Is [c0, c1, c2, c3, t] from rfl) rfl) ?_
      refine Reg.pur rfl rfl rfl rfl (Pur.fld _ fo65_4 rfl) ?_
      refine Reg.op0 rfl rfl rfl (Does.stn ag24 rfl rfl (ones_Is _) rfl hY (by simp)) ?_
      rintro _ H9 hu9
      refine Reg.nil ?_
      have hX := hX.upd hu9 (by omega)
      have hE6 := hE6.upd hu9 (by omega)
      have hY : Own H9 H4.size (Is [k, 0, p, q, c0, c1, c2, c3, t]) := hu9.own
      refine At.region rfl rfl ?_
      refine Reg.pur rfl rfl rfl rfl (Pur.fld _ fo65_4 rfl) ?_
      refine Reg.lod rfl rfl rfl rfl (Lod.ldn ag24 rfl hX.blk (show _ = Is [c0, c1, c2, c3, t] from rfl) rfl) ?_
      refine Reg.op rfl rfl rfl rfl (Does.call rfl (rowMayR_ok [c0, c1, c2, c3, t] rfl _)) ?_
      rintro _ H10 ⟨rfl, hE10⟩
      refine Reg.pur rfl rfl rfl rfl (Pur.not rfl) ?_
      refine Reg.nil ?_
      have hX := hX.ext hE10
      have hY := hY.ext hE10
      have hE6 := hE6.trans hE10
      refine At.cond rfl rfl (fun hb17 => ?_) (fun hb17 => ?_)
      · refine At.region rfl rfl ?_
        refine Reg.pur rfl rfl rfl rfl (Pur.asg rfl) ?_
        refine Reg.nil ?_
        refine At.ret rfl Tryd.func47 rfl ?_
        first | exact ⟨congrArg Value.bool (by unfold typM; simp only [decide_eq_true_eq] at *; rw [decide_eq_false (by omega)]; rfl), hn1.ext⟩ | exact ⟨congrArg Value.bool (by simp only [decide_eq_false_iff_not] at *; rw [List.take_of_length_le (by omega)] at hgo; unfold typM; rw [hgo, decide_eq_true (p := 1 ≤ L.length ∧ L.length ≤ 256) (by omega)]; rfl), hn1.ext.trans hE⟩ | (refine ⟨congrArg Value.bool (hbad ?_).symm, hn1.ext.trans (hE.trans hE6)⟩; clear hnext hbad; simp [eqs, eqv] at *; first | (simp [nodM, *]; done) | (simp [nodM, *]; assumption) | (simp [nodM, *]; intros; omega))
      refine At.region rfl rfl ?_
      refine Reg.lod rfl rfl rfl rfl (Lod.ldn ag65 rfl hX.blk (whole rfl) rfl) ?_
      refine Reg.lod rfl rfl rfl rfl (Lod.ldn ag65 rfl hY.blk (whole rfl) rfl) ?_
      refine Reg.pur rfl rfl rfl rfl (Pur.neA eqt65 rfl rfl (fks_ints .i64 [_, _, _, _, _, _, _, _, _]) (fks_ints .i64 [_, _, _, _, _, _, _, _, _])) ?_
      refine Reg.pur rfl rfl rfl rfl (Pur.mv rfl) ?_
      refine Reg.case 58 rfl (fun hc18 => ?_) (fun hc18 => ?_)
      · refine Reg.skip rfl rfl rfl rfl rfl rfl rfl ?_
        refine Reg.skip rfl rfl rfl rfl rfl rfl rfl ?_
        refine Reg.skip rfl rfl rfl rfl rfl rfl rfl ?_
        refine Reg.pur rfl rfl rfl rfl (Pur.pickT rfl rfl) ?_
        refine Reg.pur rfl rfl rfl rfl (Pur.mv rfl) ?_
        refine Reg.skip rfl rfl rfl rfl rfl rfl rfl ?_
        refine Reg.skip rfl rfl rfl rfl rfl rfl rfl ?_
        refine Reg.skip rfl rfl rfl rfl rfl rfl rfl ?_
        refine Reg.pur rfl rfl rfl rfl (Pur.pickT rfl rfl) ?_
        refine Reg.nil ?_
        refine At.condT rfl rfl rfl ?_
        refine At.region rfl rfl ?_
        refine Reg.pur rfl rfl rfl rfl (Pur.asg rfl) ?_
        refine Reg.nil ?_
        refine At.ret rfl Tryd.func47 rfl ?_
        first | exact ⟨congrArg Value.bool (by unfold typM; simp only [decide_eq_true_eq] at *; rw [decide_eq_false (by omega)]; rfl), hn1.ext⟩ | exact ⟨congrArg Value.bool (by simp only [decide_eq_false_iff_not] at *; rw [List.take_of_length_le (by omega)] at hgo; unfold typM; rw [hgo, decide_eq_true (p := 1 ≤ L.length ∧ L.length ≤ 256) (by omega)]; rfl), hn1.ext.trans hE⟩ | (refine ⟨congrArg Value.bool (hbad ?_).symm, hn1.ext.trans (hE.trans hE6)⟩; clear hnext hbad; simp [eqs, eqv] at *; first | (simp [nodM, *]; done) | (simp [nodM, *]; assumption) | (simp [nodM, *]; intros; omega))
      refine Reg.gpur rfl rfl rfl rfl rfl rfl (Pur.fld _ fo65_1 rfl) ?_
      refine Reg.glod rfl rfl rfl rfl rfl rfl (Lod.ld sc3 rfl hX.blk rfl) ?_
      refine Reg.gpur rfl rfl rfl rfl rfl rfl (Pur.lss rfl rfl) ?_
      refine Reg.pur rfl rfl rfl rfl (Pur.pickF rfl rfl) ?_
      refine Reg.pur rfl rfl rfl rfl (Pur.mv rfl) ?_
      refine Reg.case 63 rfl (fun hc19 => ?_) (fun hc19 => ?_)
      · refine Reg.skip rfl rfl rfl rfl rfl rfl rfl ?_
        refine Reg.skip rfl rfl rfl rfl rfl rfl rfl ?_
        refine Reg.skip rfl rfl rfl rfl rfl rfl rfl ?_
        refine Reg.pur rfl rfl rfl rfl (Pur.pickT rfl rfl) ?_
        refine Reg.nil ?_
        refine At.condT rfl rfl rfl ?_
        refine At.region rfl rfl ?_
        refine Reg.pur rfl rfl rfl rfl (Pur.asg rfl) ?_
        refine Reg.nil ?_
        refine At.ret rfl Tryd.func47 rfl ?_
        first | exact ⟨congrArg Value.bool (by unfold typM; simp only [decide_eq_true_eq] at *; rw [decide_eq_false (by omega)]; rfl), hn1.ext⟩ | exact ⟨congrArg Value.bool (by simp only [decide_eq_false_iff_not] at *; rw [List.take_of_length_le (by omega)] at hgo; unfold typM; rw [hgo, decide_eq_true (p := 1 ≤ L.length ∧ L.length ≤ 256) (by omega)]; rfl), hn1.ext.trans hE⟩ | (refine ⟨congrArg Value.bool (hbad ?_).symm, hn1.ext.trans (hE.trans hE6)⟩; clear hnext hbad; simp [eqs, eqv] at *; first | (simp [nodM, *]; done) | (simp [nodM, *]; assumption) | (simp [nodM, *]; intros; omega))
      refine Reg.gpur rfl rfl rfl rfl rfl rfl (Pur.fld _ fo65_1 rfl) ?_
      refine Reg.glod rfl rfl rfl rfl rfl rfl (Lod.ld sc3 rfl hX.blk rfl) ?_
      refine Reg.gpur rfl rfl rfl rfl rfl rfl (Pur.geq rfl rfl) ?_
      refine Reg.pur rfl rfl rfl rfl (Pur.pickF rfl rfl) ?_
      refine Reg.nil ?_
      refine At.cond rfl rfl (fun hb20 => ?_) (fun hb20 => ?_)
      · refine At.region rfl rfl ?_
        refine Reg.pur rfl rfl rfl rfl (Pur.asg rfl) ?_
        refine Reg.nil ?_
        refine At.ret rfl Tryd.func47 rfl ?_
        first | exact ⟨congrArg Value.bool (by unfold typM; simp only [decide_eq_true_eq] at *; rw [decide_eq_false (by omega)]; rfl), hn1.ext⟩ | exact ⟨congrArg Value.bool (by simp only [decide_eq_false_iff_not] at *; rw [List.take_of_length_le (by omega)] at hgo; unfold typM; rw [hgo, decide_eq_true (p := 1 ≤ L.length ∧ L.length ≤ 256) (by omega)]; rfl), hn1.ext.trans hE⟩ | (refine ⟨congrArg Value.bool (hbad ?_).symm, hn1.ext.trans (hE.trans hE6)⟩; clear hnext hbad; simp [eqs, eqv] at *; first | (simp [nodM, *]; done) | (simp [nodM, *]; assumption) | (simp [nodM, *]; intros; omega))
      refine At.region rfl rfl ?_
      refine Reg.pur rfl rfl rfl rfl (Pur.mv rfl) ?_
      first | refine Reg.pur rfl rfl rfl rfl (Pur.add64 rfl rfl (by omega)) ?_ | refine Reg.pur rfl rfl rfl rfl (Pur.add64 rfl rfl (by assumption)) ?_ | refine Reg.pur rfl rfl rfl rfl (Pur.add rfl rfl) ?_
      refine Reg.pur rfl rfl rfl rfl (Pur.asg rfl) ?_
      refine Reg.nil ?_
      refine At.via (hnext _ hE6 ?_) ⟨rfl, rfl, trivial⟩
      clear hnext hbad
      simp [eqs, eqv] at *
      simp [nodM, *]
    refine At.region rfl rfl ?_
    refine Reg.pur rfl rfl rfl rfl (Pur.asg rfl) ?_
    refine Reg.nil ?_
    refine At.ret rfl Tryd.func47 rfl ?_
    first | exact ⟨congrArg Value.bool (by unfold typM; simp only [decide_eq_true_eq] at *; rw [decide_eq_false (by omega)]; rfl), hn1.ext⟩ | exact ⟨congrArg Value.bool (by simp only [decide_eq_false_iff_not] at *; rw [List.take_of_length_le (by omega)] at hgo; unfold typM; rw [hgo, decide_eq_true (p := 1 ≤ L.length ∧ L.length ≤ 256) (by omega)]; rfl), hn1.ext.trans hE⟩ | (refine ⟨congrArg Value.bool (hbad ?_).symm, hn1.ext.trans (hE.trans hE6)⟩; clear hnext hbad; simp [eqs, eqv] at *; first | (simp [nodM, *]; done) | (simp [nodM, *]; assumption) | (simp [nodM, *]; intros; omega))
  have hlen : 1 ≤ L.length ∧ L.length ≤ 256 := by simp only [decide_eq_false_iff_not] at *; omega
  refine At.region rfl rfl ?_
  refine Reg.pur rfl rfl rfl rfl (Pur.mv rfl) ?_
  refine Reg.pur rfl rfl rfl rfl (Pur.mv rfl) ?_
  refine Reg.pur rfl rfl rfl rfl (Pur.lenS isl53 rfl) ?_
  first | refine Reg.pur rfl rfl rfl rfl (Pur.sub64 rfl rfl (by omega)) ?_ | refine Reg.pur rfl rfl rfl rfl (Pur.sub64 rfl rfl (by assumption)) ?_ | refine Reg.pur rfl rfl rfl rfl (Pur.sub rfl rfl) ?_
  refine Reg.op rfl rfl rfl rfl (Does.call rfl (beginR_ok L hL (hS1.ext hE) hm L.length _ (by omega) (by omega) (by omega))) ?_
  rintro _ H2 ⟨rfl, rfl⟩
  refine Reg.pur rfl rfl rfl rfl (Pur.eql rfl rfl) ?_
  refine Reg.pur rfl rfl rfl rfl (Pur.asg rfl) ?_
  refine Reg.nil ?_
  refine At.ret rfl Tryd.func47 rfl ?_
  first | exact ⟨congrArg Value.bool (by unfold typM; simp only [decide_eq_true_eq] at *; rw [decide_eq_false (by omega)]; rfl), hn1.ext⟩ | exact ⟨congrArg Value.bool (by simp only [decide_eq_false_iff_not] at *; rw [List.take_of_length_le (by omega)] at hgo; unfold typM; rw [hgo, decide_eq_true (p := 1 ≤ L.length ∧ L.length ≤ 256) (by omega)]; rfl), hn1.ext.trans hE⟩ | (refine ⟨congrArg Value.bool (hbad ?_).symm, hn1.ext.trans (hE.trans hE6)⟩; clear hnext hbad; simp [eqs, eqv] at *; first | (simp [nodM, *]; done) | (simp [nodM, *]; assumption) | (simp [nodM, *]; intros; omega))
end Go.Proofs.YtlfillhffpiffaaDoor

namespace Go.Proofs.YtlfillhffpiffaaDoor
set_option linter.unusedSimpArgs false
set_option linter.unusedVariables false
set_option maxRecDepth 8000
open Go Go.Fx Go.Proofs
namespace FactsSubA
theorem ag24 : ag Tryd.prog 24 = some 5 := by kernel_rfl
theorem ag55 : ag Tryd.prog 55 = some 1 := by kernel_rfl
theorem fo55_0 : foff Tryd.prog 55 0 = some 0 := by kernel_rfl
theorem isl53 : isSl Tryd.prog 53 = true := by kernel_rfl
theorem pl24 : places Tryd.prog 24 = some [(0, 4), (4, 1)] := by kernel_rfl
theorem sc3 : sc Tryd.prog 3 = true := by kernel_rfl
theorem sc53 : sc Tryd.prog 53 = true := by kernel_rfl
theorem zc24 : zc Tryd.prog 24 = some [.int .i64 0, .int .i64 0, .int .i64 0, .int .i64 0, .int .i64 0] := by kernel_rfl
end FactsSubA
open FactsSubA

structure Bd where
  var : Int
  isRow : Bool
  A : Option Addr
  cap : Nat
  nodes : List (List Int)
  row : List Int
abbrev Bd.sl (b : Bd) : Value := .slice b.A b.nodes.length b.cap
abbrev encB (b : Bd) : List Value := I b.var :: .bool b.isRow :: b.sl :: Is b.row
structure Bd.Ok (H : Heap) (b : Bd) : Prop where
  sl : SlT H Is 9 b.sl b.nodes
  nine : Nine b.nodes
  row : b.row.length = 5
  fits : b.nodes.length * 72 ≤ 140737488351232
end Go.Proofs.YtlfillhffpiffaaDoor

namespace Go.Proofs.YtlfillhffpiffaaDoor
set_option linter.unusedSimpArgs false
set_option linter.unusedVariables false
set_option maxRecDepth 8000
open Go Go.Fx Go.Proofs
namespace FactsSubB
theorem sc3 : sc Tryd.prog 3 = true := by kernel_rfl
end FactsSubB
open FactsSubB

structure Bds (H : Heap) (v : Value) (L : List Bd) : Prop where
  sl : SlT H encB 8 v L
  ok : ∀ b ∈ L, b.Ok H
  fits : L.length * 80 ≤ 140737488351232
end Go.Proofs.YtlfillhffpiffaaDoor

namespace Go.Proofs.YtlfillhffpiffaaDoor
set_option linter.unusedSimpArgs false
set_option linter.unusedVariables false
set_option maxRecDepth 8000
open Go Go.Fx Go.Proofs
namespace FactsSubC
theorem ag22 : ag Tryd.prog 22 = some 4 := by kernel_rfl
theorem ag24 : ag Tryd.prog 24 = some 5 := by kernel_rfl
theorem arr1_22 : arr1 Tryd.prog 22 = some 4 := by kernel_rfl
theorem arr22 : arr Tryd.prog 22 = some (4, 1) := by kernel_rfl
theorem fo24_0 : foff Tryd.prog 24 0 = some 0 := by kernel_rfl
theorem fo24_1 : foff Tryd.prog 24 1 = some 4 := by kernel_rfl
theorem pl24 : places Tryd.prog 24 = some [(0, 4), (4, 1)] := by kernel_rfl
theorem sc3 : sc Tryd.prog 3 = true := by kernel_rfl
theorem zc24 : zc Tryd.prog 24 = some [.int .i64 0, .int .i64 0, .int .i64 0, .int .i64 0, .int .i64 0] := by kernel_rfl
end FactsSubC
open FactsSubC

end Go.Proofs.YtlfillhffpiffaaDoor

namespace Go.Proofs.YtlfillhffpiffaaDoor
set_option linter.unusedSimpArgs false
set_option linter.unusedVariables false
set_option maxRecDepth 8000
open Go Go.Fx Go.Proofs
namespace FactsSubE
theorem apt53 : appT Tryd.prog 53 = some (65, 9, 72) := by kernel_rfl
theorem isSlN53 : isSl' Tryd.prog 53 = true := by kernel_rfl
theorem slA53 : slA Tryd.prog 53 = some (65, 9) := by kernel_rfl
end FactsSubE
open FactsSubE

theorem flat_set : ∀ {M : List (List Int)} (hM : Nine M) {i j : Nat} (hi : i < M.length) (hj : j < 9) (v : Int), (M.flatMap Is).set (i * 9 + j) (I v) = (M.set i ((M.getD i []).set j v)).flatMap Is
  | [], _, _, _, hi, _, _ => by simp at hi
  | x :: M, hM, 0, j, _, hj, v => by
    have h9 : x.length = 9 := hM x List.mem_cons_self
    rw [List.flatMap_cons, List.set_cons_zero, List.flatMap_cons, Nat.zero_mul, Nat.zero_add, List.set_append_left _ _ (by simp [h9]; omega), Is_set]
    rfl
  | x :: M, hM, i + 1, j, hi, hj, v => by
    have h9 : x.length = 9 := hM x List.mem_cons_self
    have ih := flat_set (M := M) (fun y hy => hM y (List.mem_cons_of_mem _ hy)) (i := i) (by simpa using hi) hj v
    rw [List.flatMap_cons, List.set_cons_succ, List.flatMap_cons, List.set_append_right _ _ (by simp [h9]; omega), show (i + 1) * 9 + j - (Is x).length = i * 9 + j by simp [h9]; omega, ih]
    rfl

theorem cloneT_ok {A : Option Addr} {cap : Nat} {L : List (List Int)} (hL : Nine L) {H : Heap} (hS : SlT H Is 9 (.slice A L.length cap) L) (hb : L.length * 72 ≤ 140737488351232) :
    Ret Tryd.prog 106 [.slice A L.length cap] H (fun v H' => OwnS H' H.size 65 9 v L.length (L.flatMap Is) ∧ Ext H H') := by
  refine Ret.of_at (N := 8) Tryd.call106 Tryd.func106 rfl rfl rfl ?_
  refine At.region rfl rfl ?_
  refine Reg.pur rfl rfl rfl rfl (Pur.asg rfl) ?_
  refine Reg.nil ?_
  refine At.region rfl rfl ?_
  refine Reg.pur rfl rfl rfl rfl (Pur.mv rfl) ?_
  refine Reg.pur rfl rfl rfl rfl (Pur.eqSN isSlN53 rfl rfl) ?_
  refine Reg.nil ?_
  refine At.cond rfl rfl (fun hb1 => ?_) (fun hb1 => ?_)
  · refine At.region rfl rfl ?_
    refine Reg.pur rfl rfl rfl rfl (Pur.asg rfl) ?_
    refine Reg.nil ?_
    refine At.ret rfl Tryd.func106 rfl ?_
    first | (refine ⟨by simpa using ho, ?_⟩; exact (New.of_push (xs := []).ext).trBut hbut (fun b hb h => by simp only [Value.ownBlock, Option.some.injEq] at h; omega)) | (obtain ⟨A', cap', e, h1, _, h0, _⟩ := hS; cases e; have hA : A = none := by { cases A with | none => rfl | some _ => cases hb1 }; have hc := h0 hA; have hl : L = [] := List.length_eq_zero_iff.1 (by omega); subst hl; exact ⟨OwnS.nil _ _ _ _, Ext.refl _⟩)
  refine At.region rfl rfl ?_
  refine Reg.op rfl rfl rfl rfl (Does.bslA ([]) slA53 rfl rfl rfl rfl rfl rfl) ?_
  rintro _ H1 ⟨rfl, rfl⟩
  refine Reg.pur rfl rfl rfl rfl (Pur.mv rfl) ?_
  refine Reg.op rfl rfl rfl rfl (Does.app apt53 rfl rfl (OwnS.new (xs := []) (n := 0) (H := H) (B := H.size) rfl (by decide) (Nat.le_refl _)) (sl_src (wide9 hL) (hS.ext New.of_push.ext)) (ones_flat L) (by rw [show maxLen = 9223372036854775807 from rfl]; omega) (by omega) (by simp)) ?_
  rintro v H2 ⟨ho, hbut, _, _⟩
  refine Reg.pur rfl rfl rfl rfl (Pur.asg rfl) ?_
  refine Reg.nil ?_
  refine At.ret rfl Tryd.func106 rfl ?_
  first | (refine ⟨by simpa using ho, ?_⟩; exact (New.of_push (xs := []).ext).trBut hbut (fun b hb h => by simp only [Value.ownBlock, Option.some.injEq] at h; omega)) | (obtain ⟨A', cap', e, h1, _, h0, _⟩ := hS; cases e; have hA : A = none := by { cases A with | none => rfl | some _ => cases hb1 }; have hc := h0 hA; have hl : L = [] := List.length_eq_zero_iff.1 (by omega); subst hl; exact ⟨OwnS.nil _ _ _ _, Ext.refl _⟩)
end Go.Proofs.YtlfillhffpiffaaDoor

namespace Go.Proofs.YtlfillhffpiffaaDoor
set_option linter.unusedSimpArgs false
set_option linter.unusedVariables false
set_option maxRecDepth 8000
open Go Go.Fx Go.Proofs
namespace FactsSubF
theorem es53 : esz Tryd.prog 53 = some 9 := by kernel_rfl
theorem fo65_0 : foff Tryd.prog 65 0 = some 0 := by kernel_rfl
theorem fo65_2 : foff Tryd.prog 65 2 = some 2 := by kernel_rfl
theorem fo65_3 : foff Tryd.prog 65 3 = some 3 := by kernel_rfl
theorem isl53 : isSl Tryd.prog 53 = true := by kernel_rfl
theorem sc3 : sc Tryd.prog 3 = true := by kernel_rfl
end FactsSubF
open FactsSubF

def movS (by' : Int) (x : List Int) : List Int := if x.getD 0 0 = 3 then (x.set 2 (IntKind.i64.wrap (x.getD 2 0 + by'))).set 3 (IntKind.i64.wrap (x.getD 3 0 + by')) else x
theorem movS_len (by' : Int) (x : List Int) : (movS by' x).length = x.length := by unfold movS; split <;> simp
theorem nine_mov {by' : Int} {L : List (List Int)} (h : Nine L) : Nine (L.map (movS by')) := by
  intro x hx
  obtain ⟨y, hy, rfl⟩ := List.mem_map.1 hx
  rw [movS_len]; exact h y hy
def mid (by' : Int) (L : List (List Int)) (i : Nat) : List (List Int) := (L.take i).map (movS by') ++ L.drop i
theorem mid_len (by' : Int) (L : List (List Int)) (i : Nat) : (mid by' L i).length = L.length := by
  unfold mid; simp; omega
theorem mid_nine {by' : Int} {L : List (List Int)} (h : Nine L) (i : Nat) : Nine (mid by' L i) := by
  intro x hx
  unfold mid at hx
  rcases List.mem_append.1 hx with hx | hx
  · exact nine_mov (fun y hy => h y (List.mem_of_mem_take hy)) x hx
  · exact h x (List.mem_of_mem_drop hx)
theorem mid_get (by' : Int) {L : List (List Int)} {i : Nat} (h : i < L.length) : (mid by' L i).getD i [] = L[i] := by
  unfold mid
  rw [List.getD_eq_getElem?_getD, List.getElem?_append_right (by simp; omega)]
  simp [Nat.min_eq_left (Nat.le_of_lt h), List.getElem?_eq_getElem h]
theorem mid_set (by' : Int) {L : List (List Int)} {i : Nat} (h : i < L.length) : (mid by' L i).set i (movS by' L[i]) = mid by' L (i + 1) := by
  unfold mid
  rw [List.set_append_right _ _ (by simp; omega), List.take_succ_eq_append_getElem h, List.map_append, List.append_assoc]
  congr 1
  simp only [List.length_map, List.length_take, Nat.min_eq_left (Nat.le_of_lt h), Nat.sub_self]
  rw [dropL h]; rfl
theorem mid_same (by' : Int) {L : List (List Int)} {i : Nat} (h : i < L.length) (hm : movS by' L[i] = L[i]) : mid by' L (i + 1) = mid by' L i := by
  unfold mid
  rw [List.take_succ_eq_append_getElem h, List.map_append, List.append_assoc, dropL h]
  simp only [List.map_cons, List.map_nil, hm, List.singleton_append]
theorem mid_all (by' : Int) (L : List (List Int)) {i : Nat} (h : L.length ≤ i) : mid by' L i = L.map (movS by') := by
  unfold mid; rw [List.take_of_length_le h, List.drop_of_length_le h, List.append_nil]
theorem rd {c : List Value} {M : List (List Int)} {n i j : Nat} (h : c.take (n * 9) = M.flatMap Is) (hM : Nine M) (hl : M.length = n) (hi : i < n) (hj : j < 9) : c[0 + (i : Int).toNat * 9 + j]? = some (I ((M.getD i []).getD j 0)) := by
  subst hl
  have h1 : (c.drop (i * 9)).take 9 = Is M[i] := by rw [take_mid h (by omega)]; exact flat_at M i (wide9 hM) hi
  have h2 : M.getD i [] = M[i] := by simp [List.getD_eq_getElem?_getD, List.getElem?_eq_getElem hi]
  rw [h2, Nat.zero_add]
  exact at_tk h1 hj (at_Is (by rw [hM _ (List.getElem_mem hi)]; exact hj))
theorem wr {c : List Value} {M : List (List Int)} {n i j : Nat} (h : c.take (n * 9) = M.flatMap Is) (hM : Nine M) (hl : M.length = n) (hi : i < n) (hj : j < 9) (v : Int) : (c.set (0 + (i : Int).toNat * 9 + j) (I v)).take (n * 9) = (M.set i ((M.getD i []).set j v)).flatMap Is := by
  subst hl
  rw [Nat.zero_add, List.take_set, h]
  exact flat_set hM hi hj v
theorem len_of {c : List Value} {M : List (List Int)} {n : Nat} (h : c.take (n * 9) = M.flatMap Is) (hM : Nine M) (hl : M.length = n) : n * 9 ≤ c.length := by
  have := congrArg List.length h
  rw [List.length_take, flat_len (wide9 hM), hl] at this; omega
theorem nine_set {M : List (List Int)} (hM : Nine M) (i j : Nat) (v : Int) : Nine (M.set i ((M.getD i []).set j v)) := by
  intro x hx
  by_cases hi : i < M.length
  · rcases List.mem_or_eq_of_mem_set hx with h | h
    · exact hM x h
    · subst h
      rw [List.length_set, List.getD_eq_getElem?_getD, List.getElem?_eq_getElem hi]; exact hM _ (List.getElem_mem hi)
  · rw [List.set_eq_of_length_le (by omega)] at hx; exact hM x hx

theorem moved_ok {A : Option Addr} {cap : Nat} {L : List (List Int)} (hL : Nine L) {H : Heap} (hS : SlT H Is 9 (.slice A L.length cap) L) (hb : L.length * 72 ≤ 140737488351232) (by' : Int) :
    Ret Tryd.prog 92 [.slice A L.length cap, I by'] H (fun v H' => (∃ A' cap', v = .slice A' L.length cap' ∧ (L.length = 0 ∨ ∃ g, H.size ≤ g ∧ A' = some ⟨g, 0, none⟩)) ∧ SlT H' Is 9 v (L.map (movS by')) ∧ Ext H H') := by
  refine Ret.of_at (N := 40) Tryd.call92 Tryd.func92 rfl rfl rfl ?_
  refine At.region rfl rfl ?_
  refine Reg.pur rfl rfl rfl rfl (Pur.asg rfl) ?_
  refine Reg.nil ?_
  refine At.region rfl rfl ?_
  refine Reg.pur rfl rfl rfl rfl (Pur.mv rfl) ?_
  refine Reg.op rfl rfl rfl rfl (Does.call rfl (cloneT_ok hL hS hb)) ?_
  rintro v H1 ⟨ho, hE1⟩
  refine Reg.pur rfl rfl rfl rfl (Pur.asg rfl) ?_
  refine Reg.nil ?_
  obtain ⟨A', cap', rfl, hc1, hc2, hc3, g, c0, hg⟩ : ∃ A' cap', v = .slice A' L.length cap' ∧ L.length ≤ cap' ∧ cap' ≤ maxLen ∧ (A' = none → cap' = 0) ∧ ∃ g c, L.length = 0 ∨ (H.size ≤ g ∧ A' = some ⟨g, 0, none⟩ ∧ Own H1 g c ∧ c.take (L.length * 9) = (mid by' L 0).flatMap Is) := by
    obtain ⟨_, ⟨rfl, h0⟩ | ⟨g, cap, cur, rfl, h2, h3, h4, h5, h6, h7⟩⟩ := ho
    · exact ⟨none, 0, by rw [h0], by omega, by decide, fun _ => rfl, 0, [], .inl h0⟩
    · exact ⟨_, cap, rfl, h4, h5, (fun h => by cases h), g, cur.toList, .inr ⟨h2, rfl, ⟨_, by simpa using h3⟩, h7⟩⟩
  refine At.region rfl rfl ?_
  refine Reg.pur rfl rfl rfl rfl (Pur.mv rfl) ?_
  refine Reg.pur rfl rfl rfl rfl (Pur.lenS isl53 rfl) ?_
  refine Reg.pur rfl rfl rfl rfl (Pur.mv rfl) ?_
  refine Reg.nil ?_
  refine At.loop (σ := Nat × List Value) (fun s => [(11, I s.1), (10, I L.length), (5, .slice A' L.length cap'), (1, I by')]) (fun s H' => s.1 ≤ L.length ∧ Ext H H' ∧ (L.length = 0 ∨ (H.size ≤ g ∧ A' = some ⟨g, 0, none⟩ ∧ Own H' g s.2 ∧ s.2.take (L.length * 9) = (mid by' L s.1).flatMap Is))) (fun s => L.length - s.1) (0, c0) rfl ⟨rfl, rfl, rfl, rfl, trivial⟩ ⟨by omega, hE1, hg⟩ ?_
  clear hg ho
  rintro ⟨i, c⟩ H2 ⟨hi, hE, hI⟩ ih
  dsimp only at hi hE hI ⊢
  refine At.region rfl rfl ?_
  refine Reg.pur rfl rfl rfl rfl (Pur.lss rfl rfl) ?_
  refine Reg.nil ?_
  refine At.cond rfl rfl (fun hb1 => ?_) (fun hb1 => ?_)
  · refine At.region rfl rfl ?_
    refine Reg.pur rfl rfl rfl rfl (Pur.mv rfl) ?_
    refine Reg.pur rfl rfl rfl rfl (Pur.asg rfl) ?_
    refine Reg.nil ?_
    simp only [decide_eq_true_eq] at hb1
    have hlt : i < L.length := by omega
    obtain ⟨hgH, rfl, hO, htk⟩ := hI.resolve_left (by omega)
    have hN := mid_nine (by' := by') hL i
    have hln := mid_len by' L i
    have hcl := len_of htk hN hln
    have r0 := rd htk hN hln hlt (j := 0) (by omega)
    have r2 := rd htk hN hln hlt (j := 2) (by omega)
    have hx9 := hL _ (List.getElem_mem hlt)
    have hms := mid_set by' hlt
    rw [mid_get by' hlt] at r0 r2
    refine At.region rfl rfl ?_
    refine Reg.pur rfl rfl rfl rfl (Pur.mv rfl) ?_
    refine Reg.pur rfl rfl rfl rfl (Pur.mv rfl) ?_
    refine Reg.pur rfl rfl rfl rfl (Pur.idx _ es53 rfl rfl (by omega) hb1) ?_
    refine Reg.pur rfl rfl rfl rfl (Pur.fld _ fo65_0 rfl) ?_
    refine Reg.lod rfl rfl rfl rfl (Lod.ld sc3 rfl hO.blk r0) ?_
    refine Reg.pur rfl rfl rfl rfl (Pur.eql rfl rfl) ?_
    refine Reg.nil ?_
    refine At.cond rfl rfl (fun hb2 => ?_) (fun hb2 => ?_)
    · refine At.region rfl rfl ?_
      refine Reg.pur rfl rfl rfl rfl (Pur.mv rfl) ?_
      refine Reg.pur rfl rfl rfl rfl (Pur.mv rfl) ?_
      refine Reg.pur rfl rfl rfl rfl (Pur.idx _ es53 rfl rfl (by omega) (by omega)) ?_
      refine Reg.pur rfl rfl rfl rfl (Pur.fld _ fo65_2 rfl) ?_
      refine Reg.lod rfl rfl rfl rfl (Lod.ld sc3 rfl hO.blk r2) ?_
      refine Reg.pur rfl rfl rfl rfl (Pur.mv rfl) ?_
      first | refine Reg.pur rfl rfl rfl rfl (Pur.add64 rfl rfl (by omega)) ?_ | refine Reg.pur rfl rfl rfl rfl (Pur.add64 rfl rfl (by assumption)) ?_ | refine Reg.pur rfl rfl rfl rfl (Pur.add rfl rfl) ?_
      refine Reg.pur rfl rfl rfl rfl (Pur.idx _ es53 rfl rfl (by omega) (by omega)) ?_
      refine Reg.pur rfl rfl rfl rfl (Pur.fld _ fo65_2 rfl) ?_
      refine Reg.op0 rfl rfl rfl (Does.st sc3 rfl rfl rfl hO (by omega)) ?_
      rintro _ H3 hu3
      refine Reg.nil ?_
      have t3 := wr htk hN hln hlt (j := 2) (by omega) (IntKind.i64.wrap (L[i].getD 2 0 + by'))
      have N3 := nine_set hN i 2 (IntKind.i64.wrap (L[i].getD 2 0 + by'))
      have l3 : ((mid by' L i).set i (((mid by' L i).getD i []).set 2 (IntKind.i64.wrap (L[i].getD 2 0 + by')))).length = L.length := by rw [List.length_set]; exact hln
      have g3 : ((mid by' L i).set i (((mid by' L i).getD i []).set 2 (IntKind.i64.wrap (L[i].getD 2 0 + by')))).getD i [] = L[i].set 2 (IntKind.i64.wrap (L[i].getD 2 0 + by')) := by rw [mid_get by' hlt, List.getD_eq_getElem?_getD, List.getElem?_set]; simp [hln, hlt]
      have r3 := rd t3 N3 l3 hlt (j := 3) (by omega)
      rw [g3, show (L[i].set 2 (IntKind.i64.wrap (L[i].getD 2 0 + by'))).getD 3 0 = L[i].getD 3 0 by simp [List.getD_eq_getElem?_getD, List.getElem?_set]] at r3
      refine At.region rfl rfl ?_
      refine Reg.pur rfl rfl rfl rfl (Pur.mv rfl) ?_
      refine Reg.pur rfl rfl rfl rfl (Pur.mv rfl) ?_
      refine Reg.pur rfl rfl rfl rfl (Pur.idx _ es53 rfl rfl (by omega) (by omega)) ?_
      refine Reg.pur rfl rfl rfl rfl (Pur.fld _ fo65_3 rfl) ?_
      refine Reg.lod rfl rfl rfl rfl (Lod.ld sc3 rfl hu3.own.blk r3) ?_
      refine Reg.pur rfl rfl rfl rfl (Pur.mv rfl) ?_
      first | refine Reg.pur rfl rfl rfl rfl (Pur.add64 rfl rfl (by omega)) ?_ | refine Reg.pur rfl rfl rfl rfl (Pur.add64 rfl rfl (by assumption)) ?_ | refine Reg.pur rfl rfl rfl rfl (Pur.add rfl rfl) ?_
      refine Reg.pur rfl rfl rfl rfl (Pur.idx _ es53 rfl rfl (by omega) (by omega)) ?_
      refine Reg.pur rfl rfl rfl rfl (Pur.fld _ fo65_3 rfl) ?_
      refine Reg.op0 rfl rfl rfl (Does.st sc3 rfl rfl rfl hu3.own (by rw [List.length_set]; omega)) ?_
      rintro _ H4 hu4
      refine Reg.nil ?_
      have t4 := wr t3 N3 l3 hlt (j := 3) (by omega) (IntKind.i64.wrap (L[i].getD 3 0 + by'))
      refine At.region rfl rfl ?_
      first | refine Reg.pur rfl rfl rfl rfl (Pur.add64 rfl rfl (by omega)) ?_ | refine Reg.pur rfl rfl rfl rfl (Pur.add64 rfl rfl (by assumption)) ?_ | refine Reg.pur rfl rfl rfl rfl (Pur.add rfl rfl) ?_
      refine Reg.pur rfl rfl rfl rfl (Pur.mv rfl) ?_
      refine Reg.nil ?_
      first | (rw [g3, List.set_set, show (L[i].set 2 (IntKind.i64.wrap (L[i].getD 2 0 + by'))).set 3 (IntKind.i64.wrap (L[i].getD 3 0 + by')) = movS by' L[i] by unfold movS; rw [if_pos (of_decide_eq_true hb2)], hms] at t4; exact At.via (ih (i + 1, _) H4 ⟨by omega, (hE.upd hu3 hgH).upd hu4 hgH, .inr ⟨hgH, rfl, hu4.own, t4⟩⟩ (by simp only; omega)) ⟨rfl, rfl, rfl, rfl, trivial⟩) | (rw [← mid_same by' hlt (by unfold movS; rw [if_neg (of_decide_eq_false hb2)])] at htk; exact At.via (ih (i + 1, c) _ ⟨by omega, hE, .inr ⟨hgH, rfl, hO, htk⟩⟩ (by simp only; omega)) ⟨rfl, rfl, rfl, rfl, trivial⟩)
    refine At.region rfl rfl ?_
    first | refine Reg.pur rfl rfl rfl rfl (Pur.add64 rfl rfl (by omega)) ?_ | refine Reg.pur rfl rfl rfl rfl (Pur.add64 rfl rfl (by assumption)) ?_ | refine Reg.pur rfl rfl rfl rfl (Pur.add rfl rfl) ?_
    refine Reg.pur rfl rfl rfl rfl (Pur.mv rfl) ?_
    refine Reg.nil ?_
    first | (rw [g3, List.set_set, show (L[i].set 2 (IntKind.i64.wrap (L[i].getD 2 0 + by'))).set 3 (IntKind.i64.wrap (L[i].getD 3 0 + by')) = movS by' L[i] by unfold movS; rw [if_pos (of_decide_eq_true hb2)], hms] at t4; exact At.via (ih (i + 1, _) H4 ⟨by omega, (hE.upd hu3 hgH).upd hu4 hgH, .inr ⟨hgH, rfl, hu4.own, t4⟩⟩ (by simp only; omega)) ⟨rfl, rfl, rfl, rfl, trivial⟩) | (rw [← mid_same by' hlt (by unfold movS; rw [if_neg (of_decide_eq_false hb2)])] at htk; exact At.via (ih (i + 1, c) _ ⟨by omega, hE, .inr ⟨hgH, rfl, hO, htk⟩⟩ (by simp only; omega)) ⟨rfl, rfl, rfl, rfl, trivial⟩)
  refine At.region rfl rfl ?_
  refine Reg.pur rfl rfl rfl rfl (Pur.mv rfl) ?_
  refine Reg.pur rfl rfl rfl rfl (Pur.asg rfl) ?_
  refine Reg.nil ?_
  refine At.ret rfl Tryd.func92 rfl ?_
  simp only [decide_eq_false_iff_not] at hb1
  refine ⟨⟨A', cap', rfl, hI.imp id (fun ⟨h1, h2, _⟩ => ⟨g, h1, h2⟩)⟩, ?_, hE⟩
  rcases hI with h0 | ⟨h1, rfl, hO, htk⟩
  · obtain rfl : L = [] := List.length_eq_zero_iff.1 h0
    exact ⟨A', cap', rfl, by simp, hc2, hc3, .inl rfl⟩
  · rw [mid_all by' L (by omega)] at htk
    have := sl_of (L := L.map (movS by')) (o := 0) (wide9 (nine_mov hL)) (by decide) hO.blk (by rw [List.drop_zero, List.length_map]; exact htk) (by rw [List.length_map]; exact hc1) hc2
    rw [List.length_map] at this
    exact this
end Go.Proofs.YtlfillhffpiffaaDoor

namespace Go.Proofs.YtlfillhffpiffaaDoor
set_option linter.unusedSimpArgs false
set_option linter.unusedVariables false
set_option maxRecDepth 8000
open Go Go.Fx Go.Proofs
namespace FactsSubG
theorem ag55 : ag Tryd.prog 55 = some 1 := by kernel_rfl
theorem ag65 : ag Tryd.prog 65 = some 9 := by kernel_rfl
theorem apt53 : appT Tryd.prog 53 = some (65, 9, 72) := by kernel_rfl
theorem eqt65 : eqT Tryd.prog 65 = some [.int .i64, .int .i64, .int .i64, .int .i64, .int .i64, .int .i64, .int .i64, .int .i64, .int .i64] := by kernel_rfl
theorem es53 : esz Tryd.prog 53 = some 9 := by kernel_rfl
theorem fo55_0 : foff Tryd.prog 55 0 = some 0 := by kernel_rfl
theorem isl53 : isSl Tryd.prog 53 = true := by kernel_rfl
theorem mixed : Tryd.prog.follows .mixedOrders = true := by kernel_rfl
theorem pl55 : places Tryd.prog 55 = some [(0, 1)] := by kernel_rfl
theorem sc53 : sc Tryd.prog 53 = true := by kernel_rfl
theorem slA53 : slA Tryd.prog 53 = some (65, 9) := by kernel_rfl
theorem zc55 : zc Tryd.prog 55 = some [.slice none 0 0] := by kernel_rfl
end FactsSubG
open FactsSubG

theorem copyN_ok {A : Option Addr} {cap : Nat} {L : List (List Int)} (hL : Nine L) {H : Heap} (hS : SlT H Is 9 (.slice A L.length cap) L) (hb : L.length * 72 ≤ 140737488351232) :
    Ret Tryd.prog 58 [.slice A L.length cap] H (fun v H' => OwnS H' H.size 65 9 v L.length (L.flatMap Is) ∧ Ext H H') := by
  refine Ret.of_at (N := 6) Tryd.call58 Tryd.func58 rfl rfl rfl ?_
  refine At.region rfl rfl ?_
  refine Reg.pur rfl rfl rfl rfl (Pur.asg rfl) ?_
  refine Reg.nil ?_
  refine At.region rfl rfl ?_
  refine Reg.op rfl rfl rfl rfl (Does.bslA ([]) slA53 rfl rfl rfl rfl rfl rfl) ?_
  rintro _ H1 ⟨rfl, rfl⟩
  refine Reg.pur rfl rfl rfl rfl (Pur.mv rfl) ?_
  refine Reg.op rfl rfl rfl rfl (Does.app apt53 rfl rfl (OwnS.new (xs := []) (n := 0) (H := H) (B := H.size) rfl (by decide) (Nat.le_refl _)) (sl_src (wide9 hL) (hS.ext New.of_push.ext)) (ones_flat L) (by rw [show maxLen = 9223372036854775807 from rfl]; omega) (by omega) (by simp)) ?_
  rintro v H2 ⟨ho, hbut, _, _⟩
  refine Reg.pur rfl rfl rfl rfl (Pur.asg rfl) ?_
  refine Reg.nil ?_
  refine At.ret rfl Tryd.func58 rfl ?_
  refine ⟨by simpa using ho, ?_⟩
  exact (New.of_push (xs := []).ext).trBut hbut (fun b hb h => by simp only [Value.ownBlock, Option.some.injEq] at h; omega)

theorem own_slice {H : Heap} {B : Nat} {ty : TypeId} {v : Value} {n s : Nat} {xs : List Value} (h : OwnS H B ty s v n xs) : ∃ A cap, v = .slice A n cap ∧ (∀ g, v.ownBlock = some g → B ≤ g) := by
  obtain ⟨_, ⟨rfl, rfl⟩ | ⟨g, cap, cur, rfl, h2, _⟩⟩ := h
  · exact ⟨none, 0, rfl, fun g h => by cases h⟩
  · exact ⟨_, _, rfl, fun g' h => by simp only [Value.ownBlock, Option.some.injEq] at h; omega⟩

theorem copyType_ok {A : Option Addr} {cap : Nat} {L : List (List Int)} (hL : Nine L) {H : Heap} (hS : SlT H Is 9 (.slice A L.length cap) L) (hb : L.length * 72 ≤ 140737488351232) :
    Ret Tryd.prog 32 [Ty A L.length cap] H (fun v H' => ∃ A' cap', v = Ty A' L.length cap' ∧ OwnS H' H.size 65 9 (.slice A' L.length cap') L.length (L.flatMap Is) ∧ Ext H H') := by
  refine Ret.of_at (N := 7) Tryd.call32 Tryd.func32 rfl rfl rfl ?_
  refine At.region rfl rfl ?_
  refine Reg.op rfl rfl rfl rfl (Does.box rfl rfl) ?_
  rintro _ H1 ⟨rfl, hn1⟩
  refine Reg.op rfl rfl rfl rfl (Does.alloc zc55) ?_
  rintro _ H2 ⟨rfl, hn2⟩
  refine Reg.nil ?_
  have hlt := hn1.own.lt
  have hlt2 := hn1.ext.1
  have hE2 := hn1.ext.trans hn2.ext
  refine At.region rfl rfl ?_
  refine Reg.pur rfl rfl rfl rfl (Pur.fld _ fo55_0 rfl) ?_
  refine Reg.lod rfl rfl rfl rfl (Lod.ld sc53 rfl ((hn1.own.ext hn2.ext).blk) rfl) ?_
  refine Reg.op rfl rfl rfl rfl (Does.call rfl (copyN_ok hL (hS.ext hE2) hb)) ?_
  rintro v H3 ⟨ho, hE3⟩
  obtain ⟨A', cap', rfl, hB⟩ := own_slice ho
  refine Reg.pur rfl rfl rfl rfl (Pur.bld (cs := [_]) pl55 zc55 rfl rfl ⟨rfl, rfl⟩) ?_
  refine Reg.op0 rfl rfl rfl (Does.stn ag55 rfl rfl rfl rfl (hn2.own.ext hE3) (by decide)) ?_
  rintro _ H4 hu4
  refine Reg.nil ?_
  have hR : Own H4 H1.size [.slice A' L.length cap'] := hu4.own
  have hRl : ([.slice A' L.length cap'] : List Value).length = 1 := rfl
  have hs2 := hn2.own.lt
  refine At.retC rfl Tryd.func32 ⟨_, _, _, _, rfl, rfl, ⟨_, hR.blk, .inr ⟨_, _, ag55, (whole hRl), hRl, rfl⟩⟩, rfl⟩ ?_
  refine ⟨A', cap', rfl, (ho.mono (by have := hE2.1; omega)).but hu4.but (fun g hg he => by have := hB g hg; omega), (hE2.trans hE3).upd hu4 (by omega)⟩

theorem sameN_ok {A A' : Option Addr} {cap cap' : Nat} {L L' : List (List Int)} (hL : Nine L) (hL' : Nine L') {H : Heap} (hS : SlT H Is 9 (.slice A L.length cap) L) (hS' : SlT H Is 9 (.slice A' L'.length cap') L') (hm : L.length ≤ 9223372036854775807) :
    Ret Tryd.prog 61 [.slice A L.length cap, .slice A' L'.length cap'] H (fun v H' => v = .bool (decide (L = L')) ∧ H' = H) := by
  refine Ret.of_at (N := 26) Tryd.call61 Tryd.func61 rfl rfl rfl ?_
  refine At.region rfl rfl ?_
  refine Reg.pur rfl rfl rfl rfl (Pur.asg rfl) ?_
  refine Reg.nil ?_
  refine At.region rfl rfl ?_
  refine Reg.pur rfl rfl rfl rfl (Pur.mv rfl) ?_
  refine Reg.pur rfl rfl rfl rfl (Pur.lenS isl53 rfl) ?_
  refine Reg.pur rfl rfl rfl rfl (Pur.mv rfl) ?_
  refine Reg.pur rfl rfl rfl rfl (Pur.lenS isl53 rfl) ?_
  refine Reg.pur rfl rfl rfl rfl (Pur.neq rfl rfl) ?_
  refine Reg.nil ?_
  refine At.cond rfl rfl (fun hb1 => ?_) (fun hb1 => ?_)
  · refine At.region rfl rfl ?_
    refine Reg.pur rfl rfl rfl rfl (Pur.asg rfl) ?_
    refine Reg.nil ?_
    refine At.ret rfl Tryd.func61 rfl ?_
    first | exact ⟨congrArg Value.bool (decide_eq_false (fun h => by subst h; rw [hq] at hb3; simp at hb3)).symm, rfl⟩ | exact ⟨congrArg Value.bool (decide_eq_true (by simp only [decide_eq_false_iff_not] at hb2; rwa [List.take_of_length_le (by omega), List.take_of_length_le (by omega)] at hgo)).symm, rfl⟩ | exact ⟨congrArg Value.bool (decide_eq_false (fun h => by subst h; simp at hb1)).symm, rfl⟩
  refine At.region rfl rfl ?_
  refine Reg.pur rfl rfl rfl rfl (Pur.asg rfl) ?_
  refine Reg.nil ?_
  have hll : L.length = L'.length := by simp at hb1; omega
  refine At.loop (σ := Nat) (fun i => [(5, I i), (0, .slice A L.length cap), (1, .slice A' L'.length cap')]) (fun i H' => i ≤ L.length ∧ H' = H ∧ L.take i = L'.take i) (fun i => L.length - i) 0 rfl ⟨rfl, rfl, rfl, trivial⟩ ⟨by omega, rfl, rfl⟩ ?_
  rintro i H1 ⟨hi, rfl, hgo⟩ ih
  refine At.region rfl rfl ?_
  refine Reg.pur rfl rfl rfl rfl (Pur.mv rfl) ?_
  refine Reg.pur rfl rfl rfl rfl (Pur.mv rfl) ?_
  refine Reg.pur rfl rfl rfl rfl (Pur.lenS isl53 rfl) ?_
  refine Reg.pur rfl rfl rfl rfl (Pur.lss rfl rfl) ?_
  refine Reg.nil ?_
  refine At.cond rfl rfl (fun hb2 => ?_) (fun hb2 => ?_)
  · simp only [decide_eq_true_eq] at hb2
    have hlt : i < L.length := by omega
    have hlt' : i < L'.length := by omega
    obtain ⟨b, o, c, rfl, hB, hd, h9⟩ := sl_at (wide9 hL) hS hlt
    obtain ⟨b', o', c', rfl, hB', hd', h9'⟩ := sl_at (wide9 hL') hS' hlt'
    have hf := fks_ints .i64 L[i]
    have hf' := fks_ints .i64 L'[i]
    rw [hL _ (List.getElem_mem hlt)] at hf
    rw [hL' _ (List.getElem_mem hlt')] at hf'
    have hq := eqs_ints .i64 L[i] L'[i]
    refine At.draw (fun H' => Blk H' b c ∧ Blk H' b' c') [] mixed rfl rfl ?_
    refine RegD.tpur (i := 0) rfl rfl rfl rfl (by kernel_rfl) (Pur.mv rfl) ?_
    refine RegD.tpur (i := 1) rfl rfl rfl rfl (by kernel_rfl) (Pur.mv rfl) ?_
    refine RegD.tpur (i := 2) rfl rfl rfl rfl (by kernel_rfl) (Pur.idx _ es53 rfl rfl (by omega) hb2) ?_
    refine RegD.take (i := 3) rfl rfl rfl rfl (by kernel_rfl) ⟨hB, hB'⟩ (fun H hS => Lod.ldn ag65 rfl hS.1 hd h9) ?_
    refine RegD.tpur (i := 4) rfl rfl rfl rfl (by kernel_rfl) (Pur.mv rfl) ?_
    refine RegD.tpur (i := 5) rfl rfl rfl rfl (by kernel_rfl) (Pur.mv rfl) ?_
    refine RegD.tpur (i := 6) rfl rfl rfl rfl (by kernel_rfl) (Pur.idx _ es53 rfl rfl (by omega) (by omega)) ?_
    refine RegD.take (i := 7) rfl rfl rfl rfl (by kernel_rfl) ⟨hB, hB'⟩ (fun H hS => Lod.ldn ag65 rfl hS.2 hd' h9') ?_
    refine RegD.tpur (i := 8) rfl rfl rfl rfl (by kernel_rfl) (Pur.neA eqt65 rfl rfl hf hf') ?_
    refine RegD.done (by kernel_rfl) ?_
    refine At.cond rfl rfl (fun hb3 => ?_) (fun hb3 => ?_)
    · refine At.region rfl rfl ?_
      refine Reg.pur rfl rfl rfl rfl (Pur.asg rfl) ?_
      refine Reg.nil ?_
      refine At.ret rfl Tryd.func61 rfl ?_
      first | exact ⟨congrArg Value.bool (decide_eq_false (fun h => by subst h; rw [hq] at hb3; simp at hb3)).symm, rfl⟩ | exact ⟨congrArg Value.bool (decide_eq_true (by simp only [decide_eq_false_iff_not] at hb2; rwa [List.take_of_length_le (by omega), List.take_of_length_le (by omega)] at hgo)).symm, rfl⟩ | exact ⟨congrArg Value.bool (decide_eq_false (fun h => by subst h; simp at hb1)).symm, rfl⟩
    refine At.region rfl rfl ?_
    refine Reg.pur rfl rfl rfl rfl (Pur.mv rfl) ?_
    first | refine Reg.pur rfl rfl rfl rfl (Pur.add64 rfl rfl (by omega)) ?_ | refine Reg.pur rfl rfl rfl rfl (Pur.add64 rfl rfl (by assumption)) ?_ | refine Reg.pur rfl rfl rfl rfl (Pur.add rfl rfl) ?_
    refine Reg.pur rfl rfl rfl rfl (Pur.asg rfl) ?_
    refine Reg.nil ?_
    refine At.via (ih (i + 1) _ ⟨by omega, rfl, ?_⟩ (by omega)) ⟨rfl, rfl, rfl, trivial⟩
    rw [hq] at hb3
    rw [List.take_succ_eq_append_getElem hlt, List.take_succ_eq_append_getElem hlt', hgo, show L[i] = L'[i] by simpa using hb3]
  refine At.region rfl rfl ?_
  refine Reg.pur rfl rfl rfl rfl (Pur.asg rfl) ?_
  refine Reg.nil ?_
  refine At.ret rfl Tryd.func61 rfl ?_
  first | exact ⟨congrArg Value.bool (decide_eq_false (fun h => by subst h; rw [hq] at hb3; simp at hb3)).symm, rfl⟩ | exact ⟨congrArg Value.bool (decide_eq_true (by simp only [decide_eq_false_iff_not] at hb2; rwa [List.take_of_length_le (by omega), List.take_of_length_le (by omega)] at hgo)).symm, rfl⟩ | exact ⟨congrArg Value.bool (decide_eq_false (fun h => by subst h; simp at hb1)).symm, rfl⟩

theorem sameType_ok {A A' : Option Addr} {cap cap' : Nat} {L L' : List (List Int)} (hL : Nine L) (hL' : Nine L') {H : Heap} (hS : SlT H Is 9 (.slice A L.length cap) L) (hS' : SlT H Is 9 (.slice A' L'.length cap') L') (hm : L.length ≤ 9223372036854775807) :
    Ret Tryd.prog 37 [Ty A L.length cap, Ty A' L'.length cap'] H (fun v H' => v = .bool (decide (L = L')) ∧ Ext H H') := by
  refine Ret.of_at (N := 10) Tryd.call37 Tryd.func37 rfl rfl rfl ?_
  refine At.region rfl rfl ?_
  refine Reg.op rfl rfl rfl rfl (Does.box rfl rfl) ?_
  rintro _ H1 ⟨rfl, hn1⟩
  refine Reg.op rfl rfl rfl rfl (Does.box rfl rfl) ?_
  rintro _ H2 ⟨rfl, hn2⟩
  refine Reg.pur rfl rfl rfl rfl (Pur.asg rfl) ?_
  refine Reg.nil ?_
  refine At.region rfl rfl ?_
  refine Reg.pur rfl rfl rfl rfl (Pur.fld _ fo55_0 rfl) ?_
  refine Reg.lod rfl rfl rfl rfl (Lod.ld sc53 rfl ((hn1.own.ext hn2.ext).blk) rfl) ?_
  refine Reg.pur rfl rfl rfl rfl (Pur.fld _ fo55_0 rfl) ?_
  refine Reg.lod rfl rfl rfl rfl (Lod.ld sc53 rfl hn2.own.blk rfl) ?_
  refine Reg.op rfl rfl rfl rfl (Does.call rfl (sameN_ok hL hL' (hS.ext (hn1.ext.trans hn2.ext)) (hS'.ext (hn1.ext.trans hn2.ext)) hm)) ?_
  rintro _ H2 ⟨rfl, rfl⟩
  refine Reg.pur rfl rfl rfl rfl (Pur.asg rfl) ?_
  refine Reg.nil ?_
  refine At.ret rfl Tryd.func37 rfl ?_
  exact ⟨rfl, hn1.ext.trans hn2.ext⟩
end Go.Proofs.YtlfillhffpiffaaDoor

namespace Go.Proofs.YtlfillhffpiffaaDoor
set_option linter.unusedSimpArgs false
set_option linter.unusedVariables false
set_option maxRecDepth 8000
open Go Go.Fx Go.Proofs
namespace FactsSubH
theorem es53 : esz Tryd.prog 53 = some 9 := by kernel_rfl
theorem fo55_0 : foff Tryd.prog 55 0 = some 0 := by kernel_rfl
theorem fo65_1 : foff Tryd.prog 65 1 = some 1 := by kernel_rfl
theorem isl53 : isSl Tryd.prog 53 = true := by kernel_rfl
theorem sc3 : sc Tryd.prog 3 = true := by kernel_rfl
theorem sc53 : sc Tryd.prog 53 = true := by kernel_rfl
end FactsSubH
open FactsSubH

theorem spoilN_ok {A : Option Addr} {cap g : Nat} {L : List (List Int)} (hL : Nine L) {H : Heap} {c0 : List Value} (hm : L.length ≤ 9223372036854775807) (hI : L.length = 0 ∨ (A = some ⟨g, 0, none⟩ ∧ Own H g c0 ∧ c0.take (L.length * 9) = L.flatMap Is)) :
    Ret Tryd.prog 71 [.slice A L.length cap] H (fun v H' => (L.length = 0 ∧ H' = H) ∨ But (· = g) H H') := by
  refine Ret.of_at (N := 19) Tryd.call71 Tryd.func71 rfl rfl rfl ?_
  refine At.region rfl rfl ?_
  refine Reg.pur rfl rfl rfl rfl (Pur.asg rfl) ?_
  refine Reg.nil ?_
  refine At.loop (σ := Nat × List (List Int) × List Value) (fun s => [(2, I s.1), (0, .slice A L.length cap)]) (fun s H' => s.1 ≤ L.length ∧ s.2.1.length = L.length ∧ Nine s.2.1 ∧ ((L.length = 0 ∧ H' = H) ∨ (A = some ⟨g, 0, none⟩ ∧ Own H' g s.2.2 ∧ s.2.2.take (L.length * 9) = s.2.1.flatMap Is ∧ But (· = g) H H'))) (fun s => L.length - s.1) (0, L, c0) rfl ⟨rfl, rfl, trivial⟩ ⟨by omega, rfl, hL, hI.imp (fun h => ⟨h, rfl⟩) (fun ⟨h1, h2, h3⟩ => ⟨h1, h2, h3, But.refl _ _⟩)⟩ ?_
  clear hI
  rintro ⟨i, M, c⟩ H2 ⟨hi, hl, hM, hI⟩ ih
  dsimp only at hi hl hM hI ⊢
  refine At.region rfl rfl ?_
  refine Reg.pur rfl rfl rfl rfl (Pur.mv rfl) ?_
  refine Reg.pur rfl rfl rfl rfl (Pur.mv rfl) ?_
  refine Reg.pur rfl rfl rfl rfl (Pur.lenS isl53 rfl) ?_
  refine Reg.pur rfl rfl rfl rfl (Pur.lss rfl rfl) ?_
  refine Reg.nil ?_
  refine At.cond rfl rfl (fun hb1 => ?_) (fun hb1 => ?_)
  · simp only [decide_eq_true_eq] at hb1
    have hlt : i < L.length := by omega
    obtain ⟨rfl, hO, htk, hB⟩ := hI.resolve_left (by omega)
    have r1 := rd htk hM hl hlt (j := 1) (by omega)
    have hcl := len_of htk hM hl
    refine At.region rfl rfl ?_
    refine Reg.pur rfl rfl rfl rfl (Pur.mv rfl) ?_
    refine Reg.pur rfl rfl rfl rfl (Pur.mv rfl) ?_
    refine Reg.pur rfl rfl rfl rfl (Pur.mv rfl) ?_
    refine Reg.pur rfl rfl rfl rfl (Pur.mv rfl) ?_
    refine Reg.pur rfl rfl rfl rfl (Pur.idx _ es53 rfl rfl (by omega) hb1) ?_
    refine Reg.pur rfl rfl rfl rfl (Pur.fld _ fo65_1 rfl) ?_
    refine Reg.lod rfl rfl rfl rfl (Lod.ld sc3 rfl hO.blk r1) ?_
    refine Reg.pur rfl rfl rfl rfl (Pur.xor rfl rfl) ?_
    refine Reg.pur rfl rfl rfl rfl (Pur.idx _ es53 rfl rfl (by omega) hb1) ?_
    refine Reg.pur rfl rfl rfl rfl (Pur.fld _ fo65_1 rfl) ?_
    refine Reg.op0 rfl rfl rfl (Does.st sc3 rfl rfl rfl hO (by omega)) ?_
    rintro _ H3 hu3
    refine Reg.nil ?_
    refine At.region rfl rfl ?_
    refine Reg.pur rfl rfl rfl rfl (Pur.mv rfl) ?_
    first | refine Reg.pur rfl rfl rfl rfl (Pur.add64 rfl rfl (by omega)) ?_ | refine Reg.pur rfl rfl rfl rfl (Pur.add64 rfl rfl (by assumption)) ?_ | refine Reg.pur rfl rfl rfl rfl (Pur.add rfl rfl) ?_
    refine Reg.pur rfl rfl rfl rfl (Pur.asg rfl) ?_
    refine Reg.nil ?_
    exact At.via (ih (i + 1, _, _) H3 ⟨by omega, by simp only [List.length_set]; exact hl, nine_set hM i 1 _, .inr ⟨rfl, hu3.own, wr htk hM hl hlt (j := 1) (by omega) _, hB.trans hu3.but⟩⟩ (by simp only; omega)) ⟨rfl, rfl, trivial⟩
  refine At.fall rfl Tryd.func71 rfl ?_
  exact hI.imp id (fun h => h.2.2.2)

theorem spoilT_ok {A : Option Addr} {cap g : Nat} {L : List (List Int)} (hL : Nine L) {H : Heap} {c0 : List Value} (hm : L.length ≤ 9223372036854775807) (hI : L.length = 0 ∨ (A = some ⟨g, 0, none⟩ ∧ Own H g c0 ∧ c0.take (L.length * 9) = L.flatMap Is)) :
    Ret Tryd.prog 48 [Ty A L.length cap] H (fun v H' => (L.length = 0 ∧ Ext H H') ∨ But (· = g) H H') := by
  refine Ret.of_at (N := 5) Tryd.call48 Tryd.func48 rfl rfl rfl ?_
  refine At.region rfl rfl ?_
  refine Reg.op rfl rfl rfl rfl (Does.box rfl rfl) ?_
  rintro _ H1 ⟨rfl, hn1⟩
  refine Reg.nil ?_
  refine At.region rfl rfl ?_
  refine Reg.pur rfl rfl rfl rfl (Pur.fld _ fo55_0 rfl) ?_
  refine Reg.lod rfl rfl rfl rfl (Lod.ld sc53 rfl hn1.own.blk rfl) ?_
  refine Reg.op rfl rfl rfl rfl (Does.call rfl (spoilN_ok (g := g) (c0 := c0) hL hm (hI.imp id (fun ⟨h1, h2, h3⟩ ↦ ⟨h1, h2.ext hn1.ext, h3⟩)))) ?_
  rintro _ H2 hr
  refine Reg.nil ?_
  refine At.fall rfl Tryd.func48 rfl ?_
  exact hr.imp (fun ⟨h1, h2⟩ => ⟨h1, h2 ▸ hn1.ext⟩) (fun h => hn1.ext.but.trans h)
end Go.Proofs.YtlfillhffpiffaaDoor

namespace Go.Proofs.YtlfillhffpiffaaDoor
set_option linter.unusedSimpArgs false
set_option linter.unusedVariables false
set_option maxRecDepth 8000
open Go Go.Fx Go.Proofs
namespace FactsSchC
theorem apt50 : appT Tryd.prog 50 = some (3, 1, 8) := by kernel_rfl
theorem es50 : esz Tryd.prog 50 = some 1 := by kernel_rfl
theorem fo109_0 : foff Tryd.prog 109 0 = some 0 := by kernel_rfl
theorem fo109_1 : foff Tryd.prog 109 1 = some 1 := by kernel_rfl
theorem fo91_0 : foff Tryd.prog 91 0 = some 0 := by kernel_rfl
theorem fo91_1 : foff Tryd.prog 91 1 = some 1 := by kernel_rfl
theorem isl50 : isSl Tryd.prog 50 = true := by kernel_rfl
theorem sc3 : sc Tryd.prog 3 = true := by kernel_rfl
theorem sc50 : sc Tryd.prog 50 = true := by kernel_rfl
theorem sl1_50 : Go.Fx.sl1 Tryd.prog 50 = true := by kernel_rfl
end FactsSchC
open FactsSchC

def addL (T : List Int) (v : Int) : List Int := if inL T v then T else T ++ [v]
theorem addL_len (T : List Int) (v : Int) : (addL T v).length ≤ T.length + 1 := by unfold addL; split <;> simp
structure Nm (H : Heap) (nb B : Nat) (A1 : Option Addr) (c1 : Nat) (T : List Int) (A2 : Option Addr) (c2 : Nat) (R : List Int) : Prop where
  own : Own H nb [.slice A1 T.length c1, .slice A2 R.length c2]
  g1 : Gs H B 3 1 A1 c1 T.length (T.flatMap e1)
  g2 : Gs H B 3 1 A2 c2 R.length (R.flatMap e1)
  d1 : ob A1 = -1 ∨ ob A1 ≠ ob A2
  d2 : ob A1 ≠ nb
  d3 : ob A2 ≠ nb
  lo : B ≤ H.size
def Mod (nb : Nat) (A1 A2 A1' A2' : Option Addr) (H H' : Heap) : Prop :=
  But (fun g => g = nb ∨ (g : Int) = ob A1 ∨ (g : Int) = ob A2) H H' ∧ (ob A1' = ob A1 ∨ (H.size : Int) ≤ ob A1') ∧ (ob A2' = ob A2 ∨ (H.size : Int) ≤ ob A2')
theorem Mod.refl (nb : Nat) (A1 A2 : Option Addr) (H : Heap) : Mod nb A1 A2 A1 A2 H H := ⟨But.refl _ _, .inl rfl, .inl rfl⟩
theorem Mod.trans {nb : Nat} {A1 A2 B1 B2 C1 C2 : Option Addr} {H H' H'' : Heap} (h : Mod nb A1 A2 B1 B2 H H') (k : Mod nb B1 B2 C1 C2 H' H'') : Mod nb A1 A2 C1 C2 H H'' := by
  obtain ⟨h1, h2, h3⟩ := h
  obtain ⟨k1, k2, k3⟩ := k
  have hs := h1.1
  refine ⟨⟨Nat.le_trans h1.1 k1.1, fun b hb hS => ?_⟩, by omega, by omega⟩
  rw [k1.2 b (by omega) (fun hk => hS (by dsimp only at hk ⊢; omega)), h1.2 b hb hS]
theorem Mod.ext {nb : Nat} {A1 A2 B1 B2 : Option Addr} {H H' H'' : Heap} (h : Mod nb A1 A2 B1 B2 H H') (k : Ext H' H'') : Mod nb A1 A2 B1 B2 H H'' :=
  ⟨h.1.trans k.but, h.2⟩
theorem Nm.ext {H H' : Heap} {nb B : Nat} {A1 A2 : Option Addr} {c1 c2 : Nat} {T R : List Int} (h : Nm H nb B A1 c1 T A2 c2 R) (he : Ext H H') : Nm H' nb B A1 c1 T A2 c2 R :=
  ⟨h.own.ext he, h.g1.ext he, h.g2.ext he, h.d1, h.d2, h.d3, Nat.le_trans h.lo he.1⟩

theorem set_same {α : Type} {cs : List α} {o : Nat} {v : α} (hc : cs[o]? = some v) : cs.set o v = cs := by
  apply List.ext_getElem?
  intro j
  by_cases h : o = j
  · subst h
    have : o < cs.length := by
      rcases Nat.lt_or_ge o cs.length with h | h
      · exact h
      · rw [List.getElem?_eq_none h] at hc; cases hc
    rw [List.getElem?_set_self this, hc]
  · rw [List.getElem?_set_ne h]
theorem name_ok {nb o B cap : Nat} {A : Option Addr} {cs : List Value} (T : List Int) (v : Int) {H : Heap} (ho : Own H nb cs) (hc : cs[o]? = some (.slice A T.length cap)) (hg : Gs H B 3 1 A cap T.length (T.flatMap e1)) (hd : ob A ≠ nb) (hB : B ≤ H.size) (hm : T.length ≤ 1000000) :
    Ret Tryd.prog 104 [ptr nb o, I v] H (fun r H' => ∃ A' cap', r = I (ixL T v) ∧ Own H' nb (cs.set o (.slice A' (addL T v).length cap')) ∧ Gs H' B 3 1 A' cap' (addL T v).length ((addL T v).flatMap e1) ∧ But (fun g => g = nb ∨ (g : Int) = ob A) H H' ∧ (ob A' = ob A ∨ (H.size : Int) ≤ ob A')) := by
  have hol : o < cs.length := by
    rcases Nat.lt_or_ge o cs.length with h | h
    · exact h
    · rw [List.getElem?_eq_none h] at hc; cases hc
  refine Ret.of_at (N := 26) Tryd.call104 Tryd.func104 rfl rfl rfl ?_
  have hE := Ext.refl H
  have z_ho := ho.lt
  have z_hg := hg.lt
  refine At.region rfl rfl ?_
  refine Reg.pur rfl rfl rfl rfl (Pur.asg rfl) ?_
  refine Reg.nil ?_
  refine At.region rfl rfl ?_
  refine Reg.pur rfl rfl rfl rfl (Pur.mv rfl) ?_
  refine Reg.pur rfl rfl rfl rfl (Pur.nilc rfl) ?_
  refine Reg.lod rfl rfl rfl rfl (Lod.ld sc50 rfl ho.blk hc) ?_
  refine Reg.pur rfl rfl rfl rfl (Pur.mv rfl) ?_
  refine Reg.op rfl rfl rfl rfl (Does.call rfl (index_ok T (own_sl (wide1 T) (by decide) hg) (by omega) v)) ?_
  rintro _ H ⟨rfl, rfl⟩
  refine Reg.pur rfl rfl rfl rfl (Pur.asg rfl) ?_
  refine Reg.nil ?_
  refine At.region rfl rfl ?_
  refine Reg.pur rfl rfl rfl rfl (Pur.mv rfl) ?_
  refine Reg.pur rfl rfl rfl rfl (Pur.lss rfl rfl) ?_
  refine Reg.nil ?_
  refine At.cond rfl rfl (fun q12 => ?_) (fun q12 => ?_)
  · first | (simp only [decide_eq_true_eq, decide_eq_false_iff_not, Bool.not_eq_true', Bool.not_eq_false', ne_eq, Decidable.not_not, Bool.not_eq_true, Bool.not_eq_false] at q12) | (dsimp only at q12) | skip
    have hni : inL T v = false := by { cases h : inL T v with | false => rfl | true => rw [h] at q12; simp at q12; omega }
    have hix : ixL T v = T.length := by { have := ixL_le T v; simp [inL] at hni; omega }
    have had : addL T v = T ++ [v] := by unfold addL; rw [hni]; rfl
    refine At.region rfl rfl ?_
    refine Reg.pur rfl rfl rfl rfl (Pur.mv rfl) ?_
    refine Reg.pur rfl rfl rfl rfl (Pur.nilc rfl) ?_
    refine Reg.lod rfl rfl rfl rfl (Lod.ld sc50 rfl ho.blk hc) ?_
    refine Reg.pur rfl rfl rfl rfl (Pur.lenS isl50 rfl) ?_
    refine Reg.pur rfl rfl rfl rfl (Pur.asg rfl) ?_
    refine Reg.nil ?_
    refine At.region rfl rfl ?_
    refine Reg.pur rfl rfl rfl rfl (Pur.mv rfl) ?_
    refine Reg.pur rfl rfl rfl rfl (Pur.mv rfl) ?_
    refine Reg.pur rfl rfl rfl rfl (Pur.nilc rfl) ?_
    refine Reg.lod rfl rfl rfl rfl (Lod.ld sc50 rfl ho.blk hc) ?_
    refine Reg.pur rfl rfl rfl rfl (Pur.mv rfl) ?_
    refine Reg.op rfl rfl rfl rfl (Does.bsl1T sl1_50 Tryd.underlying50 rfl rfl rfl rfl rfl) ?_
    rintro _ H4_5 ⟨rfl, hp4_5⟩
    have hn4_5 := New.of_eq hp4_5
    have z4_5 := hn4_5.size
    replace ho := ho.ext hn4_5.ext
    replace hg := hg.ext hn4_5.ext
    have o4_5 := hn4_5.own
    refine Reg.op rfl rfl rfl rfl (Does.appL apt50 rfl rfl (by decide) hg (wide1 _) (sl_new (L := [v]) (wide1 _) (by decide) hn4_5 (by simp)) (ones_e1 _) (by simp; omega) (by omega)) ?_
    rintro _ H4_6 ⟨A4_6, cap4_6, rfl, g4_6, hbut4_6, ha4_6⟩
    have z4_6 := hbut4_6.lt
    replace ho := ho.via hbut4_6 (by first | omega | (intro g; omega) | (intro g hg; omega) | (intro g hg h; omega))
    replace o4_5 := o4_5.via hbut4_6 (by first | omega | (intro g; omega) | (intro g hg; omega) | (intro g hg h; omega))
    replace hg := g4_6
    have zg4_6 := g4_6.lt
    refine Reg.pur rfl rfl rfl rfl (Pur.nilc rfl) ?_
    refine Reg.op0 rfl rfl rfl (Does.st sc50 rfl rfl rfl ho hol) ?_
    rintro _ H4_8 hu4_8
    have z4_8 := hu4_8.size
    replace hg := hg.upw hu4_8 (by omega)
    replace o4_5 := o4_5.upw hu4_8 (by omega)
    replace ho := hu4_8.own
    refine Reg.nil ?_
    refine At.region rfl rfl ?_
    refine Reg.pur rfl rfl rfl rfl (Pur.mv rfl) ?_
    refine Reg.pur rfl rfl rfl rfl (Pur.asg rfl) ?_
    refine Reg.nil ?_
    refine At.ret rfl Tryd.func104 rfl ?_
    rw [← had] at hg ho
    refine ⟨A4_6, cap4_6, ?_, ho, hg, (hn4_5.ext.but (S := fun g => g = nb ∨ (g : Int) = ob A)).trans ((hbut4_6.mono (fun b hb h => Or.inr h)).trans (hu4_8.but.mono (fun b hb h => Or.inl h))), by omega⟩
    rw [hix]
  first | (simp only [decide_eq_true_eq, decide_eq_false_iff_not, Bool.not_eq_true', Bool.not_eq_false', ne_eq, Decidable.not_not, Bool.not_eq_true, Bool.not_eq_false] at q12) | (dsimp only at q12) | skip
  refine At.region rfl rfl ?_
  refine Reg.pur rfl rfl rfl rfl (Pur.mv rfl) ?_
  refine Reg.pur rfl rfl rfl rfl (Pur.asg rfl) ?_
  refine Reg.nil ?_
  refine At.ret rfl Tryd.func104 rfl ?_
  have hin : inL T v = true := by { cases h : inL T v with | true => rfl | false => exact absurd (by rw [h]; simp) q12 }
  have had : addL T v = T := by unfold addL; rw [hin]; rfl
  rw [had]
  exact ⟨A, cap, by rw [hin]; rfl, ho.of (set_same hc).symm, hg, But.refl _ _, .inl rfl⟩

theorem nm_Type {nb B c1 c2 : Nat} {A1 A2 : Option Addr} {T R : List Int} (v : Int) {H : Heap} (h : Nm H nb B A1 c1 T A2 c2 R) (hm : T.length ≤ 1000000) :
    Ret Tryd.prog 84 [ptr nb 0, I v] H (fun r H' => r = I (ixL T v) ∧ ∃ A1' c1', Nm H' nb B A1' c1' (addL T v) A2 c2 R ∧ Mod nb A1 A2 A1' A2 H H') := by
  obtain ⟨ho, hg1, hg2, hd1, hd2, hd3, hlo⟩ := h
  have z1 := hg1.lt
  have z2 := hg2.lt
  have hnb := ho.lt
  refine Ret.of_at (N := 10) Tryd.call84 Tryd.func84 rfl rfl rfl ?_
  have hE := Ext.refl H

  refine At.region rfl rfl ?_
  refine Reg.pur rfl rfl rfl rfl (Pur.asg rfl) ?_
  refine Reg.nil ?_
  refine At.region rfl rfl ?_
  refine Reg.pur rfl rfl rfl rfl (Pur.mv rfl) ?_
  refine Reg.pur rfl rfl rfl rfl (Pur.nilc rfl) ?_
  refine Reg.pur rfl rfl rfl rfl (Pur.fld _ fo109_0 rfl) ?_
  refine Reg.pur rfl rfl rfl rfl (Pur.mv rfl) ?_
  refine Reg.op rfl rfl rfl rfl (Does.call rfl (name_ok T v ho rfl hg1 hd2 hlo hm)) ?_
  rintro _ H1_4 ⟨A', cap', rfl, ho1_4, hg1_4, hbut1_4, ha1_4⟩
  have z1_4 := hbut1_4.lt
  refine Reg.pur rfl rfl rfl rfl (Pur.asg rfl) ?_
  refine Reg.nil ?_
  refine At.ret rfl Tryd.func84 rfl ?_
  refine ⟨rfl, A', cap', ⟨ho1_4, hg1_4, hg2.via hbut1_4 (fun g hg h => by omega), by omega, by omega, hd3, by have := hbut1_4.lt; omega⟩, ⟨hbut1_4.mono (fun b hb h => by omega), ha1_4, .inl rfl⟩⟩
theorem nm_Row {nb B c1 c2 : Nat} {A1 A2 : Option Addr} {T R : List Int} (v : Int) {H : Heap} (h : Nm H nb B A1 c1 T A2 c2 R) (hm : R.length ≤ 1000000) :
    Ret Tryd.prog 86 [ptr nb 0, I v] H (fun r H' => r = I (ixL R v) ∧ ∃ A2' c2', Nm H' nb B A1 c1 T A2' c2' (addL R v) ∧ Mod nb A1 A2 A1 A2' H H') := by
  obtain ⟨ho, hg1, hg2, hd1, hd2, hd3, hlo⟩ := h
  have z1 := hg1.lt
  have z2 := hg2.lt
  have hnb := ho.lt
  refine Ret.of_at (N := 10) Tryd.call86 Tryd.func86 rfl rfl rfl ?_
  have hE := Ext.refl H

  refine At.region rfl rfl ?_
  refine Reg.pur rfl rfl rfl rfl (Pur.asg rfl) ?_
  refine Reg.nil ?_
  refine At.region rfl rfl ?_
  refine Reg.pur rfl rfl rfl rfl (Pur.mv rfl) ?_
  refine Reg.pur rfl rfl rfl rfl (Pur.nilc rfl) ?_
  refine Reg.pur rfl rfl rfl rfl (Pur.fld _ fo109_1 rfl) ?_
  refine Reg.pur rfl rfl rfl rfl (Pur.mv rfl) ?_
  refine Reg.op rfl rfl rfl rfl (Does.call rfl (name_ok R v ho rfl hg2 hd3 hlo hm)) ?_
  rintro _ H1_4 ⟨A', cap', rfl, ho1_4, hg1_4, hbut1_4, ha1_4⟩
  have z1_4 := hbut1_4.lt
  refine Reg.pur rfl rfl rfl rfl (Pur.asg rfl) ?_
  refine Reg.nil ?_
  refine At.ret rfl Tryd.func86 rfl ?_
  refine ⟨rfl, A', cap', ⟨ho1_4, hg1.via hbut1_4 (fun g hg h => by omega), hg1_4, by omega, hd2, by omega, by have := hbut1_4.lt; omega⟩, ⟨hbut1_4.mono (fun b hb h => by omega), .inl rfl, ha1_4⟩⟩

theorem at_ok {B cap : Nat} {A : Option Addr} (T : List Int) (v : Int) {H : Heap} (hg : Gs H B 3 1 A cap T.length (T.flatMap e1)) (hB : B ≤ H.size) (hm : T.length ≤ 1000000) :
    Ret Tryd.prog 101 [.slice A T.length cap, I v] H (fun r H' => ∃ A' cap', r = .tuple #[.slice A' (addL T v).length cap', I (ixL T v)] ∧ Gs H' B 3 1 A' cap' (addL T v).length ((addL T v).flatMap e1) ∧ But (fun g => (g : Int) = ob A) H H' ∧ (ob A' = ob A ∨ (H.size : Int) ≤ ob A')) := by
  have hS := own_sl (wide1 T) (by decide) hg
  have z1 := hg.lt
  refine Ret.of_at (N := 29) Tryd.call101 Tryd.func101 rfl rfl rfl ?_
  have hE := Ext.refl H
  have z_hg := hg.lt
  refine At.region rfl rfl ?_
  refine Reg.pur rfl rfl rfl rfl (Pur.asg rfl) ?_
  refine Reg.pur rfl rfl rfl rfl (Pur.asg rfl) ?_
  refine Reg.nil ?_
  refine At.region rfl rfl ?_
  refine Reg.pur rfl rfl rfl rfl (Pur.asg rfl) ?_
  refine Reg.nil ?_
  refine At.loop (σ := Nat) (fun i => [(6, I i), (0, .slice A T.length cap), (1, I v)]) (fun i H' => i ≤ T.length ∧ H' = H ∧ ixL T v = i + ixL (T.drop i) v) (fun i => T.length - i) 0 rfl ⟨rfl, rfl, rfl, trivial⟩ ⟨by omega, rfl, by simp⟩ ?_
  rintro i H ⟨hi, rfl, hgo⟩ ih
  refine At.region rfl rfl ?_
  refine Reg.pur rfl rfl rfl rfl (Pur.mv rfl) ?_
  refine Reg.pur rfl rfl rfl rfl (Pur.mv rfl) ?_
  refine Reg.pur rfl rfl rfl rfl (Pur.lenS isl50 rfl) ?_
  refine Reg.pur rfl rfl rfl rfl (Pur.lss rfl rfl) ?_
  refine Reg.nil ?_
  refine At.cond rfl rfl (fun q10 => ?_) (fun q10 => ?_)
  · first | (simp only [decide_eq_true_eq, decide_eq_false_iff_not, Bool.not_eq_true', Bool.not_eq_false', ne_eq, Decidable.not_not, Bool.not_eq_true, Bool.not_eq_false] at q10) | (dsimp only at q10) | skip
    have hlt : i < T.length := by omega
    obtain ⟨b, o, c, rfl, hB, hc⟩ := int_at hS hlt
    rw [ix_drop hlt] at hgo
    refine At.region rfl rfl ?_
    refine Reg.pur rfl rfl rfl rfl (Pur.mv rfl) ?_
    refine Reg.pur rfl rfl rfl rfl (Pur.mv rfl) ?_
    refine Reg.pur rfl rfl rfl rfl (Pur.idx _ es50 rfl rfl (by omega) (by omega)) ?_
    refine Reg.lod rfl rfl rfl rfl (Lod.ld sc3 rfl hB hc) ?_
    refine Reg.pur rfl rfl rfl rfl (Pur.mv rfl) ?_
    refine Reg.pur rfl rfl rfl rfl (Pur.eql rfl rfl) ?_
    refine Reg.nil ?_
    refine At.cond rfl rfl (fun q18 => ?_) (fun q18 => ?_)
    · first | (simp only [decide_eq_true_eq, decide_eq_false_iff_not, Bool.not_eq_true', Bool.not_eq_false', ne_eq, Decidable.not_not, Bool.not_eq_true, Bool.not_eq_false] at q18) | (dsimp only at q18) | skip
      refine At.region rfl rfl ?_
      refine Reg.pur rfl rfl rfl rfl (Pur.mv rfl) ?_
      refine Reg.pur rfl rfl rfl rfl (Pur.mv rfl) ?_
      refine Reg.pur rfl rfl rfl rfl (Pur.asg rfl) ?_
      refine Reg.pur rfl rfl rfl rfl (Pur.asg rfl) ?_
      refine Reg.nil ?_
      refine At.ret rfl Tryd.func101 rfl ?_
      rw [if_pos q18] at hgo
      have hin : inL T v = true := by simp [inL]; omega
      have had : addL T v = T := by unfold addL; rw [hin]; rfl
      rw [had]
      exact ⟨_, cap, by rw [show ixL T v = i by omega], hg, But.refl _ _, .inl rfl⟩
    first | (simp only [decide_eq_true_eq, decide_eq_false_iff_not, Bool.not_eq_true', Bool.not_eq_false', ne_eq, Decidable.not_not, Bool.not_eq_true, Bool.not_eq_false] at q18) | (dsimp only at q18) | skip
    refine At.region rfl rfl ?_
    refine Reg.pur rfl rfl rfl rfl (Pur.mv rfl) ?_
    first | refine Reg.pur rfl rfl rfl rfl (Pur.add64 rfl rfl (by omega)) ?_ | refine Reg.pur rfl rfl rfl rfl (Pur.add64 rfl rfl (by assumption)) ?_ | refine Reg.pur rfl rfl rfl rfl (Pur.add rfl rfl) ?_
    refine Reg.pur rfl rfl rfl rfl (Pur.asg rfl) ?_
    refine Reg.nil ?_
    rw [if_neg q18] at hgo
    exact At.via (ih (i + 1) _ ⟨by omega, rfl, by omega⟩ (by omega)) ⟨rfl, rfl, rfl, trivial⟩
  first | (simp only [decide_eq_true_eq, decide_eq_false_iff_not, Bool.not_eq_true', Bool.not_eq_false', ne_eq, Decidable.not_not, Bool.not_eq_true, Bool.not_eq_false] at q10) | (dsimp only at q10) | skip
  rw [ix_end (by omega)] at hgo
  have hni : inL T v = false := by simp [inL]; omega
  have had : addL T v = T ++ [v] := by unfold addL; rw [hni]; rfl
  refine At.region rfl rfl ?_
  refine Reg.pur rfl rfl rfl rfl (Pur.mv rfl) ?_
  refine Reg.pur rfl rfl rfl rfl (Pur.mv rfl) ?_
  refine Reg.op rfl rfl rfl rfl (Does.bsl1T sl1_50 Tryd.underlying50 rfl rfl rfl rfl rfl) ?_
  rintro _ H6_2 ⟨rfl, hp6_2⟩
  have hn6_2 := New.of_eq hp6_2
  have z6_2 := hn6_2.size
  replace hg := hg.ext hn6_2.ext
  have o6_2 := hn6_2.own
  refine Reg.op rfl rfl rfl rfl (Does.appL apt50 rfl rfl (by decide) hg (wide1 _) (sl_new (L := [v]) (wide1 _) (by decide) hn6_2 (by simp)) (ones_e1 _) (by simp; omega) (by omega)) ?_
  rintro _ H6_3 ⟨A6_3, cap6_3, rfl, g6_3, hbut6_3, ha6_3⟩
  have z6_3 := hbut6_3.lt
  replace o6_2 := o6_2.via hbut6_3 (by first | omega | (intro g; omega) | (intro g hg; omega) | (intro g hg h; omega))
  replace hg := g6_3
  have zg6_3 := g6_3.lt
  refine Reg.pur rfl rfl rfl rfl (Pur.asg rfl) ?_
  refine Reg.nil ?_
  refine At.region rfl rfl ?_
  refine Reg.pur rfl rfl rfl rfl (Pur.mv rfl) ?_
  refine Reg.pur rfl rfl rfl rfl (Pur.mv rfl) ?_
  refine Reg.pur rfl rfl rfl rfl (Pur.lenS isl50 rfl) ?_
  refine Reg.pur rfl rfl rfl rfl (Pur.sub64 rfl rfl (by simp; omega)) ?_
  refine Reg.pur rfl rfl rfl rfl (Pur.asg rfl) ?_
  refine Reg.pur rfl rfl rfl rfl (Pur.asg rfl) ?_
  refine Reg.nil ?_
  refine At.ret rfl Tryd.func101 rfl ?_
  rw [had]
  exact ⟨A6_3, cap6_3, by rw [show ixL T v = T.length by omega]; simp [tupl], hg, (hn6_2.ext.but (S := fun g => (g : Int) = ob A)).trans hbut6_3, by omega⟩
theorem nm_kind {nb B c1 c2 : Nat} {A1 A2 : Option Addr} {T R : List Int} (v : Int) {H : Heap} (h : Nm H nb B A1 c1 T A2 c2 R) (hm : T.length ≤ 1000000) :
    Ret Tryd.prog 87 [ptr nb 0, I v] H (fun r H' => r = I (ixL T v) ∧ ∃ A1' c1', Nm H' nb B A1' c1' (addL T v) A2 c2 R ∧ Mod nb A1 A2 A1' A2 H H') := by
  obtain ⟨ho, hg1, hg2, hd1, hd2, hd3, hlo⟩ := h
  have z1 := hg1.lt
  have z2 := hg2.lt
  have hnb := ho.lt
  refine Ret.of_at (N := 21) Tryd.call87 Tryd.func87 rfl rfl rfl ?_
  have hE := Ext.refl H
  have z_ho := ho.lt
  have z_hg2 := hg2.lt
  refine At.region rfl rfl ?_
  refine Reg.pur rfl rfl rfl rfl (Pur.asg rfl) ?_
  refine Reg.nil ?_
  refine At.region rfl rfl ?_
  refine Reg.pur rfl rfl rfl rfl (Pur.mv rfl) ?_
  refine Reg.pur rfl rfl rfl rfl (Pur.nilc rfl) ?_
  refine Reg.pur rfl rfl rfl rfl (Pur.fld _ fo91_0 rfl) ?_
  refine Reg.lod rfl rfl rfl rfl (Lod.ld sc50 rfl ho.blk rfl) ?_
  refine Reg.pur rfl rfl rfl rfl (Pur.mv rfl) ?_
  refine Reg.op rfl rfl rfl rfl (Does.call rfl (at_ok T v hg1 hlo hm)) ?_
  rintro _ H1_5 ⟨A', cap', rfl, hg1_5, hbut1_5, ha1_5⟩
  have z1_5 := hbut1_5.lt
  replace ho := ho.via hbut1_5 (by first | omega | (intro g; omega) | (intro g hg; omega) | (intro g hg h; omega))
  replace hg2 := hg2.via hbut1_5 (by first | omega | (intro g; omega) | (intro g hg; omega) | (intro g hg h; omega))
  have z_hg1_5 := hg1_5.lt
  refine Reg.pur rfl rfl rfl rfl (Pur.mv rfl) ?_
  refine Reg.pur rfl rfl rfl rfl (Pur.ext rfl rfl) ?_
  refine Reg.pur rfl rfl rfl rfl (Pur.ext rfl rfl) ?_
  refine Reg.pur rfl rfl rfl rfl (Pur.asg rfl) ?_
  refine Reg.pur rfl rfl rfl rfl (Pur.asg rfl) ?_
  refine Reg.nil ?_
  refine At.region rfl rfl ?_
  refine Reg.pur rfl rfl rfl rfl (Pur.mv rfl) ?_
  refine Reg.pur rfl rfl rfl rfl (Pur.mv rfl) ?_
  refine Reg.pur rfl rfl rfl rfl (Pur.nilc rfl) ?_
  refine Reg.pur rfl rfl rfl rfl (Pur.fld _ fo91_0 rfl) ?_
  refine Reg.op0 rfl rfl rfl (Does.st sc50 rfl rfl rfl ho (by simp)) ?_
  rintro _ H2_4 hu2_4
  have z2_4 := hu2_4.size
  replace hg2 := hg2.upw hu2_4 (by omega)
  replace hg1_5 := hg1_5.upw hu2_4 (by omega)
  replace ho := hu2_4.own
  refine Reg.nil ?_
  refine At.region rfl rfl ?_
  refine Reg.pur rfl rfl rfl rfl (Pur.mv rfl) ?_
  refine Reg.pur rfl rfl rfl rfl (Pur.asg rfl) ?_
  refine Reg.nil ?_
  refine At.ret rfl Tryd.func87 rfl ?_
  refine ⟨rfl, A', cap', ⟨ho, hg1_5, hg2, by omega, by omega, hd3, by omega⟩, ⟨(hbut1_5.mono (fun b hb h => Or.inr (Or.inl h))).trans (hu2_4.but.mono (fun b hb h => Or.inl h)), by omega, .inl rfl⟩⟩
theorem nm_row {nb B c1 c2 : Nat} {A1 A2 : Option Addr} {T R : List Int} (v : Int) {H : Heap} (h : Nm H nb B A1 c1 T A2 c2 R) (hm : R.length ≤ 1000000) :
    Ret Tryd.prog 76 [ptr nb 0, I v] H (fun r H' => r = I (ixL R v) ∧ ∃ A2' c2', Nm H' nb B A1 c1 T A2' c2' (addL R v) ∧ Mod nb A1 A2 A1 A2' H H') := by
  obtain ⟨ho, hg1, hg2, hd1, hd2, hd3, hlo⟩ := h
  have z1 := hg1.lt
  have z2 := hg2.lt
  have hnb := ho.lt
  refine Ret.of_at (N := 21) Tryd.call76 Tryd.func76 rfl rfl rfl ?_
  have hE := Ext.refl H
  have z_ho := ho.lt
  have z_hg1 := hg1.lt
  refine At.region rfl rfl ?_
  refine Reg.pur rfl rfl rfl rfl (Pur.asg rfl) ?_
  refine Reg.nil ?_
  refine At.region rfl rfl ?_
  refine Reg.pur rfl rfl rfl rfl (Pur.mv rfl) ?_
  refine Reg.pur rfl rfl rfl rfl (Pur.nilc rfl) ?_
  refine Reg.pur rfl rfl rfl rfl (Pur.fld _ fo91_1 rfl) ?_
  refine Reg.lod rfl rfl rfl rfl (Lod.ld sc50 rfl ho.blk rfl) ?_
  refine Reg.pur rfl rfl rfl rfl (Pur.mv rfl) ?_
  refine Reg.op rfl rfl rfl rfl (Does.call rfl (at_ok R v hg2 hlo hm)) ?_
  rintro _ H1_5 ⟨A', cap', rfl, hg1_5, hbut1_5, ha1_5⟩
  have z1_5 := hbut1_5.lt
  replace ho := ho.via hbut1_5 (by first | omega | (intro g; omega) | (intro g hg; omega) | (intro g hg h; omega))
  replace hg1 := hg1.via hbut1_5 (by first | omega | (intro g; omega) | (intro g hg; omega) | (intro g hg h; omega))
  have z_hg1_5 := hg1_5.lt
  refine Reg.pur rfl rfl rfl rfl (Pur.mv rfl) ?_
  refine Reg.pur rfl rfl rfl rfl (Pur.ext rfl rfl) ?_
  refine Reg.pur rfl rfl rfl rfl (Pur.ext rfl rfl) ?_
  refine Reg.pur rfl rfl rfl rfl (Pur.asg rfl) ?_
  refine Reg.pur rfl rfl rfl rfl (Pur.asg rfl) ?_
  refine Reg.nil ?_
  refine At.region rfl rfl ?_
  refine Reg.pur rfl rfl rfl rfl (Pur.mv rfl) ?_
  refine Reg.pur rfl rfl rfl rfl (Pur.mv rfl) ?_
  refine Reg.pur rfl rfl rfl rfl (Pur.nilc rfl) ?_
  refine Reg.pur rfl rfl rfl rfl (Pur.fld _ fo91_1 rfl) ?_
  refine Reg.op0 rfl rfl rfl (Does.st sc50 rfl rfl rfl ho (by simp)) ?_
  rintro _ H2_4 hu2_4
  have z2_4 := hu2_4.size
  replace hg1 := hg1.upw hu2_4 (by omega)
  replace hg1_5 := hg1_5.upw hu2_4 (by omega)
  replace ho := hu2_4.own
  refine Reg.nil ?_
  refine At.region rfl rfl ?_
  refine Reg.pur rfl rfl rfl rfl (Pur.mv rfl) ?_
  refine Reg.pur rfl rfl rfl rfl (Pur.asg rfl) ?_
  refine Reg.nil ?_
  refine At.ret rfl Tryd.func76 rfl ?_
  refine ⟨rfl, A', cap', ⟨ho, hg1, hg1_5, by omega, hd2, by omega, by omega⟩, ⟨(hbut1_5.mono (fun b hb h => Or.inr (Or.inr h))).trans (hu2_4.but.mono (fun b hb h => Or.inl h)), .inl rfl, by omega⟩⟩
end Go.Proofs.YtlfillhffpiffaaDoor

namespace Go.Proofs.YtlfillhffpiffaaDoor
set_option linter.unusedSimpArgs false
set_option linter.unusedVariables false
set_option maxRecDepth 8000
open Go Go.Fx Go.Proofs
namespace FactsSchD
theorem fo24_1 : foff Tryd.prog 24 1 = some 4 := by kernel_rfl
theorem fo65_0 : foff Tryd.prog 65 0 = some 0 := by kernel_rfl
theorem fo65_1 : foff Tryd.prog 65 1 = some 1 := by kernel_rfl
theorem fo65_4 : foff Tryd.prog 65 4 = some 4 := by kernel_rfl
theorem mixed : Tryd.prog.follows .mixedOrders = true := by kernel_rfl
theorem sc108 : sc Tryd.prog 108 = true := by kernel_rfl
theorem sc3 : sc Tryd.prog 3 = true := by kernel_rfl
end FactsSchD
open FactsSchD

abbrev Nms := List Int × List Int
def see (n : Nms) (x : List Int) : Nms := if x.getD 0 0 = 2 then (addL n.1 (x.getD 1 0), n.2) else if x.getD 0 0 = 3 ∧ x.getD 8 0 ≠ -1 then (n.1, addL n.2 (x.getD 8 0)) else n
def ord (L : List (List Int)) : Nat → Int → List (List Int)
  | 0, _ => []
  | f + 1, z => if (el L z).getD 0 0 ≠ 3 then [el L z] else ord L f ((el L z).getD 2 0) ++ el L z :: ord L f ((el L z).getD 3 0)
theorem ord_succ (L : List (List Int)) (f : Nat) (z : Int) : ord L (f + 1) z = if (el L z).getD 0 0 ≠ 3 then [el L z] else ord L f ((el L z).getD 2 0) ++ el L z :: ord L f ((el L z).getD 3 0) := rfl
def nms (n : Nms) (l : List (List Int)) : Nms := l.foldl see n
theorem see_len (n : Nms) (x : List Int) : (see n x).1.length + (see n x).2.length ≤ n.1.length + n.2.length + 1 := by
  have h1 := addL_len n.1 (x.getD 1 0)
  have h2 := addL_len n.2 (x.getD 8 0)
  unfold see; split
  · dsimp only; omega
  · split
    · dsimp only; omega
    · omega
theorem nms_len : ∀ (l : List (List Int)) (n : Nms), (nms n l).1.length + (nms n l).2.length ≤ n.1.length + n.2.length + l.length
  | [], n => by simp [nms]
  | x :: l, n => by
    have h1 := see_len n x
    have h2 := nms_len l (see n x)
    simp only [nms, List.foldl_cons, List.length_cons] at h2 ⊢
    omega
theorem nms_app (n : Nms) (l m : List (List Int)) : nms n (l ++ m) = nms (nms n l) m := List.foldl_append
theorem nms_cons (n : Nms) (x : List Int) (l : List (List Int)) : nms n (x :: l) = nms (see n x) l := rfl
theorem ord_len (L : List (List Int)) : ∀ (f : Nat) (z : Int), 0 ≤ z → 0 ≤ bgn L f z → ((ord L f z).length : Int) = z - bgn L f z + 1
  | 0, z, h0, h => by simp only [bgn] at h; omega
  | f + 1, z, h0, h => by
    rw [bgn_succ] at h ⊢
    rw [ord_succ]
    by_cases hk : (el L z).getD 0 0 ≠ 3
    · rw [if_pos hk, if_pos hk]; simp
    · rw [if_neg hk] at h
      rw [if_neg hk, if_neg hk]
      by_cases hb : z = 0 ∨ (el L z).getD 3 0 ≠ z - 1
      · rw [if_pos hb] at h; omega
      · rw [if_neg hb] at h ⊢
        by_cases hc : bgn L f ((el L z).getD 3 0) < 1 ∨ (el L z).getD 2 0 ≠ bgn L f ((el L z).getD 3 0) - 1
        · rw [if_pos hc] at h; omega
        · rw [if_neg hc] at h ⊢
          have e1 := ord_len L f ((el L z).getD 3 0) (by omega) (by omega)
          have e2 := ord_len L f ((el L z).getD 2 0) (by omega) h
          rw [List.length_append, List.length_cons]
          omega
theorem bgn_fun {L : List (List Int)} {f : Nat} {z : Int} (h : 0 ≤ bgn L (f + 1) z) (hk : (el L z).getD 0 0 = 3) :
    z ≠ 0 ∧ (el L z).getD 3 0 = z - 1 ∧ 1 ≤ bgn L f ((el L z).getD 3 0) ∧ (el L z).getD 2 0 = bgn L f ((el L z).getD 3 0) - 1 ∧ 0 ≤ bgn L f ((el L z).getD 2 0) := by
  rw [bgn_succ, if_neg (by omega)] at h
  by_cases hb : z = 0 ∨ (el L z).getD 3 0 ≠ z - 1
  · rw [if_pos hb] at h; omega
  · rw [if_neg hb] at h
    by_cases hc : bgn L f ((el L z).getD 3 0) < 1 ∨ (el L z).getD 2 0 ≠ bgn L f ((el L z).getD 3 0) - 1
    · rw [if_pos hc] at h; omega
    · rw [if_neg hc] at h; omega

theorem see1_ok {xb xo tb nb B c1 c2 : Nat} {A1 A2 : Option Addr} {T R : List Int} {c : List Value} (x : List Int) {H : Heap} (hX : Blk H xb c) (hx : ∀ j, j < 9 → c[xo + j]? = some (I (x.getD j 0))) (hT : Blk H tb [ptr nb 0]) (h : Nm H nb B A1 c1 T A2 c2 R) (hm : T.length + R.length ≤ 1000000) :
    Ret Tryd.prog 89 [ptr xb xo, ptr tb 0] H (fun _ H' => ∃ A1' c1' A2' c2', Nm H' nb B A1' c1' (see (T, R) x).1 A2' c2' (see (T, R) x).2 ∧ Mod nb A1 A2 A1' A2' H H') := by
  refine Ret.of_at (N := 36) Tryd.call89 Tryd.func89 rfl rfl rfl ?_
  have hE := Ext.refl H

  refine At.region rfl rfl ?_
  refine Reg.pur rfl rfl rfl rfl (Pur.mv rfl) ?_
  refine Reg.pur rfl rfl rfl rfl (Pur.nilc rfl) ?_
  refine Reg.pur rfl rfl rfl rfl (Pur.fld _ fo65_0 rfl) ?_
  refine Reg.lod rfl rfl rfl rfl (Lod.ld sc3 rfl hX (hx 0 (by omega))) ?_
  refine Reg.pur rfl rfl rfl rfl (Pur.eql rfl rfl) ?_
  refine Reg.pur rfl rfl rfl rfl (Pur.asg rfl) ?_
  refine Reg.nil ?_
  refine At.cond rfl rfl (fun q3 => ?_) (fun q3 => ?_)
  · first | (simp only [decide_eq_true_eq, decide_eq_false_iff_not, Bool.not_eq_true', Bool.not_eq_false', ne_eq, Decidable.not_not, Bool.not_eq_true, Bool.not_eq_false] at q3) | (dsimp only at q3) | skip
    refine At.drawE ((Bks.cons hT.blk (Bks.cons hX.blk Bks.nil))) [5] mixed rfl rfl ?_
    refine RegD.take (i := 0) rfl rfl rfl rfl (by kernel_rfl) (Bks.cons hT.blk (Bks.cons hX.blk Bks.nil)) (fun H hS => Lod.ld sc108 rfl hS.hd rfl) ?_
    refine RegD.tpur (i := 1) rfl rfl rfl rfl (by kernel_rfl) (Pur.mv rfl) ?_
    refine RegD.tpur (i := 2) rfl rfl rfl rfl (by kernel_rfl) (Pur.nilc rfl) ?_
    refine RegD.tpur (i := 3) rfl rfl rfl rfl (by kernel_rfl) (Pur.fld _ fo65_1 rfl) ?_
    refine RegD.take (i := 4) rfl rfl rfl rfl (by kernel_rfl) (Bks.cons hT.blk (Bks.cons hX.blk Bks.nil)) (fun H hS => Lod.ld sc3 rfl hS.tl.hd (hx 1 (by omega))) ?_
    skip
    refine RegD.one (i := 5) (by kernel_rfl) rfl rfl rfl rfl (Does.call rfl (nm_Type _ h (by omega))) ?_
    rintro _ H1_5 ⟨rfl, A1', c1', hN1_5, hM1_5⟩
    refine ⟨fun h => (by cases h), ?_⟩
    refine RegD.done (by kernel_rfl) ?_
    refine At.fall rfl Tryd.func89 rfl ?_
    have hs : see (T, R) x = (addL T (x.getD 1 0), R) := by unfold see; rw [if_pos q3]
    rw [hs]; exact ⟨A1', c1', A2, c2, hN1_5, hM1_5⟩
  first | (simp only [decide_eq_true_eq, decide_eq_false_iff_not, Bool.not_eq_true', Bool.not_eq_false', ne_eq, Decidable.not_not, Bool.not_eq_true, Bool.not_eq_false] at q3) | (dsimp only at q3) | skip
  refine At.region rfl rfl ?_
  refine Reg.pur rfl rfl rfl rfl (Pur.mv rfl) ?_
  refine Reg.pur rfl rfl rfl rfl (Pur.nilc rfl) ?_
  refine Reg.pur rfl rfl rfl rfl (Pur.fld _ fo65_0 rfl) ?_
  refine Reg.lod rfl rfl rfl rfl (Lod.ld sc3 rfl hX (hx 0 (by omega))) ?_
  refine Reg.pur rfl rfl rfl rfl (Pur.eql rfl rfl) ?_
  refine Reg.pur rfl rfl rfl rfl (Pur.mv rfl) ?_
  refine Reg.case 21 rfl (fun q21 => ?_) (fun q21 => ?_)
  · first | (simp only [decide_eq_true_eq, decide_eq_false_iff_not, Bool.not_eq_true', Bool.not_eq_false', ne_eq, Decidable.not_not, Bool.not_eq_true, Bool.not_eq_false] at q21) | (dsimp only at q21) | skip
    refine Reg.gpur rfl rfl rfl rfl rfl rfl (Pur.mv rfl) ?_
    refine Reg.gpur rfl rfl rfl rfl rfl rfl (Pur.nilc rfl) ?_
    refine Reg.gpur rfl rfl rfl rfl rfl rfl (Pur.fld _ fo65_4 rfl) ?_
    refine Reg.gpur rfl rfl rfl rfl rfl rfl (Pur.fld _ fo24_1 rfl) ?_
    refine Reg.glod rfl rfl rfl rfl rfl rfl (Lod.ld sc3 rfl hX (by rw [show xo + 4 + 4 = xo + 8 by omega]; exact hx 8 (by omega))) ?_
    refine Reg.gpur rfl rfl rfl rfl rfl rfl (Pur.neq rfl rfl) ?_
    refine Reg.pur rfl rfl rfl rfl (Pur.pickT rfl rfl) ?_
    refine Reg.pur rfl rfl rfl rfl (Pur.asg rfl) ?_
    refine Reg.nil ?_
    refine At.cond rfl rfl (fun q15 => ?_) (fun q15 => ?_)
    · first | (simp only [decide_eq_true_eq, decide_eq_false_iff_not, Bool.not_eq_true', Bool.not_eq_false', ne_eq, Decidable.not_not, Bool.not_eq_true, Bool.not_eq_false] at q15) | (dsimp only at q15) | skip
      refine At.drawE ((Bks.cons hT.blk (Bks.cons hX.blk Bks.nil))) [6] mixed rfl rfl ?_
      refine RegD.take (i := 0) rfl rfl rfl rfl (by kernel_rfl) (Bks.cons hT.blk (Bks.cons hX.blk Bks.nil)) (fun H hS => Lod.ld sc108 rfl hS.hd rfl) ?_
      refine RegD.tpur (i := 1) rfl rfl rfl rfl (by kernel_rfl) (Pur.mv rfl) ?_
      refine RegD.tpur (i := 2) rfl rfl rfl rfl (by kernel_rfl) (Pur.nilc rfl) ?_
      refine RegD.tpur (i := 3) rfl rfl rfl rfl (by kernel_rfl) (Pur.fld _ fo65_4 rfl) ?_
      refine RegD.tpur (i := 4) rfl rfl rfl rfl (by kernel_rfl) (Pur.fld _ fo24_1 rfl) ?_
      refine RegD.take (i := 5) rfl rfl rfl rfl (by kernel_rfl) (Bks.cons hT.blk (Bks.cons hX.blk Bks.nil)) (fun H hS => Lod.ld sc3 rfl hS.tl.hd (by rw [show xo + 4 + 4 = xo + 8 by omega]; exact hx 8 (by omega))) ?_
      refine RegD.one (i := 6) (by kernel_rfl) rfl rfl rfl rfl (Does.call rfl (nm_Row _ h (by omega))) ?_
      rintro _ H3_6 ⟨rfl, A2', c2', hN3_6, hM3_6⟩
      refine ⟨fun h => (by cases h), ?_⟩
      refine RegD.done (by kernel_rfl) ?_
      refine At.fall rfl Tryd.func89 rfl ?_
      have hs : see (T, R) x = (T, addL R (x.getD 8 0)) := by unfold see; rw [if_neg q3, if_pos ⟨q21, q15⟩]
      rw [hs]; exact ⟨A1, c1, A2', c2', hN3_6, hM3_6⟩
    first | (simp only [decide_eq_true_eq, decide_eq_false_iff_not, Bool.not_eq_true', Bool.not_eq_false', ne_eq, Decidable.not_not, Bool.not_eq_true, Bool.not_eq_false] at q15) | (dsimp only at q15) | skip
    refine At.fall rfl Tryd.func89 rfl ?_
    have hs : see (T, R) x = (T, R) := by unfold see; rw [if_neg q3, if_neg (by simp_all)]
    rw [hs]; exact ⟨A1, c1, A2, c2, h, Mod.refl _ _ _ _⟩
  first | (simp only [decide_eq_true_eq, decide_eq_false_iff_not, Bool.not_eq_true', Bool.not_eq_false', ne_eq, Decidable.not_not, Bool.not_eq_true, Bool.not_eq_false] at q21) | (dsimp only at q21) | skip
  refine Reg.skip rfl rfl rfl rfl rfl rfl rfl ?_
  refine Reg.skip rfl rfl rfl rfl rfl rfl rfl ?_
  refine Reg.skip rfl rfl rfl rfl rfl rfl rfl ?_
  refine Reg.skip rfl rfl rfl rfl rfl rfl rfl ?_
  refine Reg.skip rfl rfl rfl rfl rfl rfl rfl ?_
  refine Reg.skip rfl rfl rfl rfl rfl rfl rfl ?_
  refine Reg.pur rfl rfl rfl rfl (Pur.pickF rfl rfl) ?_
  refine Reg.pur rfl rfl rfl rfl (Pur.asg rfl) ?_
  refine Reg.nil ?_
  refine At.condF rfl rfl rfl ?_
  refine At.fall rfl Tryd.func89 rfl ?_
  have hs : see (T, R) x = (T, R) := by unfold see; rw [if_neg q3, if_neg (by simp_all)]
  rw [hs]; exact ⟨A1, c1, A2, c2, h, Mod.refl _ _ _ _⟩
end Go.Proofs.YtlfillhffpiffaaDoor

namespace Go.Proofs.YtlfillhffpiffaaDoor
set_option linter.unusedSimpArgs false
set_option linter.unusedVariables false
set_option maxRecDepth 8000
open Go Go.Fx Go.Proofs
namespace FactsSchE
theorem es53 : esz Tryd.prog 53 = some 9 := by kernel_rfl
theorem fo55_0 : foff Tryd.prog 55 0 = some 0 := by kernel_rfl
theorem fo65_0 : foff Tryd.prog 65 0 = some 0 := by kernel_rfl
theorem fo65_2 : foff Tryd.prog 65 2 = some 2 := by kernel_rfl
theorem fo65_3 : foff Tryd.prog 65 3 = some 3 := by kernel_rfl
theorem isl53 : isSl Tryd.prog 53 = true := by kernel_rfl
theorem sc3 : sc Tryd.prog 3 = true := by kernel_rfl
theorem sc53 : sc Tryd.prog 53 = true := by kernel_rfl
end FactsSchE
open FactsSchE

abbrev seeF (tb : Nat) : Value := .func (.func 89) #[] #[ptr tb 0]
structure Off (nb : Nat) (A1 A2 : Option Addr) (b : Int) : Prop where
  h1 : b ≠ nb
  h2 : b ≠ ob A1
  h3 : b ≠ ob A2
theorem Off.not {nb : Nat} {A1 A2 : Option Addr} {b : Nat} (h : Off nb A1 A2 b) : ¬ (b = nb ∨ (b : Int) = ob A1 ∨ (b : Int) = ob A2) := by
  rintro (e | e | e)
  · exact h.h1 (by rw [e])
  · exact h.h2 e
  · exact h.h3 e
theorem Off.mod {nb : Nat} {A1 A2 A1' A2' : Option Addr} {b : Int} {H H' : Heap} (h : Off nb A1 A2 b) (hb : b < H.size) (hM : Mod nb A1 A2 A1' A2' H H') : Off nb A1' A2' b := by
  obtain ⟨_, h1, h2⟩ := hM
  obtain ⟨k1, k2, k3⟩ := h
  exact ⟨k1, by omega, by omega⟩
theorem walk_ok {L : List (List Int)} (hL : Nine L) {A : Option Addr} {cap yb yo tb nb B : Nat} {cy : List Value} (hcy : cy[yo]? = some (.slice A L.length cap)) (hm : L.length ≤ 9223372036854775807) : ∀ (f : Nat) (z : Int), 0 ≤ z → z < L.length → z.toNat < f → 0 ≤ bgn L f z →
    ∀ {H : Heap} {A1 A2 : Option Addr} {c1 c2 : Nat} {T R : List Int}, SlT H Is 9 (.slice A L.length cap) L → Blk H yb cy → Blk H tb [ptr nb 0] → Nm H nb B A1 c1 T A2 c2 R → T.length + R.length + (ord L f z).length ≤ 1000000 →
    Off nb A1 A2 yb → Off nb A1 A2 tb → Off nb A1 A2 (ob A) →
    Ret Tryd.prog 88 [ptr yb yo, I z, seeF tb] H (fun _ H' => ∃ A1' c1' A2' c2', Nm H' nb B A1' c1' (nms (T, R) (ord L f z)).1 A2' c2' (nms (T, R) (ord L f z)).2 ∧ Mod nb A1 A2 A1' A2' H H') := by
  intro f
  induction f with
  | zero => intro z _ _ h; omega
  | succ f ihf =>
  intro z hz0 hzl hzf hbg H A1 A2 c1 c2 T R hS hY hT hN hlen hoY hoT hoA
  obtain ⟨b, o, c, rfl, hB, hd, hx9, hat⟩ := el_cells hL hS hz0 hzl
  have hfin := ord_succ L f z
  have hfun := bgn_fun hbg
  have hnl := nms_len (ord L f ((el L z).getD 2 0)) (T, R)
  have hsl := see_len ((nms (T, R) (ord L f ((el L z).getD 2 0))).1, (nms (T, R) (ord L f ((el L z).getD 2 0))).2) (el L z)
  generalize el L z = x at hfin hfun hd hx9 hat hnl hsl
  have hob : ob (some ⟨b, o, none⟩) = b := ob_some b o
  rw [hob] at hoA
  have zY := Int.ofNat_lt.2 hY.lt
  have zT := Int.ofNat_lt.2 hT.lt
  have zB := Int.ofNat_lt.2 hB.lt
  refine Ret.of_at (N := 38) Tryd.call88 Tryd.func88 rfl rfl rfl ?_
  have hE := Ext.refl H

  refine At.region rfl rfl ?_
  refine Reg.pur rfl rfl rfl rfl (Pur.mv rfl) ?_
  refine Reg.pur rfl rfl rfl rfl (Pur.nilc rfl) ?_
  refine Reg.pur rfl rfl rfl rfl (Pur.fld _ fo55_0 rfl) ?_
  refine Reg.lod rfl rfl rfl rfl (Lod.ld sc53 rfl hY hcy) ?_
  refine Reg.pur rfl rfl rfl rfl (Pur.mv rfl) ?_
  refine Reg.pur rfl rfl rfl rfl (Pur.idx _ es53 rfl rfl (by omega) (by omega)) ?_
  refine Reg.pur rfl rfl rfl rfl (Pur.asg rfl) ?_
  refine Reg.nil ?_
  refine At.region rfl rfl ?_
  refine Reg.pur rfl rfl rfl rfl (Pur.mv rfl) ?_
  refine Reg.pur rfl rfl rfl rfl (Pur.nilc rfl) ?_
  refine Reg.pur rfl rfl rfl rfl (Pur.fld _ fo65_0 rfl) ?_
  refine Reg.lod rfl rfl rfl rfl (Lod.ld sc3 rfl hB (hat 0 (by omega))) ?_
  refine Reg.pur rfl rfl rfl rfl (Pur.neq rfl rfl) ?_
  refine Reg.nil ?_
  refine At.cond rfl rfl (fun q17 => ?_) (fun q17 => ?_)
  · first | (simp only [decide_eq_true_eq, decide_eq_false_iff_not, Bool.not_eq_true', Bool.not_eq_false', ne_eq, Decidable.not_not, Bool.not_eq_true, Bool.not_eq_false] at q17) | (dsimp only at q17) | skip
    refine At.region rfl rfl ?_
    refine Reg.pur rfl rfl rfl rfl (Pur.mv rfl) ?_
    refine Reg.pur rfl rfl rfl rfl (Pur.mv rfl) ?_
    refine Reg.op rfl rfl rfl rfl (Does.callv rfl rfl (see1_ok x hB hat hT hN (by omega))) ?_
    rintro _ H2_2 ⟨A1a, c1a, A2a, c2a, hN2_2, hM2_2⟩
    refine Reg.nil ?_
    refine At.ret rfl Tryd.func88 rfl ?_
    rw [hfin, if_pos q17] at hlen ⊢
    exact ⟨A1a, c1a, A2a, c2a, hN2_2, hM2_2⟩
  first | (simp only [decide_eq_true_eq, decide_eq_false_iff_not, Bool.not_eq_true', Bool.not_eq_false', ne_eq, Decidable.not_not, Bool.not_eq_true, Bool.not_eq_false] at q17) | (dsimp only at q17) | skip
  obtain ⟨hz, hB3, hb3, hA2, hbA⟩ := hfun q17
  have hle := bgn_le L f (x.getD 3 0) (by omega)
  rw [hfin, if_neg (fun h => h q17), List.length_append, List.length_cons] at hlen
  refine At.region rfl rfl ?_
  refine Reg.pur rfl rfl rfl rfl (Pur.mv rfl) ?_
  refine Reg.pur rfl rfl rfl rfl (Pur.mv rfl) ?_
  refine Reg.pur rfl rfl rfl rfl (Pur.nilc rfl) ?_
  refine Reg.pur rfl rfl rfl rfl (Pur.fld _ fo65_2 rfl) ?_
  refine Reg.lod rfl rfl rfl rfl (Lod.ld sc3 rfl hB (hat 2 (by omega))) ?_
  refine Reg.pur rfl rfl rfl rfl (Pur.mv rfl) ?_
  refine Reg.op rfl rfl rfl rfl (Does.call rfl (ihf (x.getD 2 0) (by omega) (by omega) (by omega) hbA hS hY hT hN (by omega) hoY hoT (by rw [hob]; exact hoA))) ?_
  rintro _ H3_6 ⟨A1a, c1a, A2a, c2a, hN3_6, hM3_6⟩
  replace hY := hY.via hM3_6.1 hoY.not
  replace hT := hT.via hM3_6.1 hoT.not
  replace hB := hB.via hM3_6.1 hoA.not
  replace hS := hS.via hM3_6.1 (fun _ g hg => by rw [hob] at hg; obtain rfl : g = b := (by omega); exact hoA.not)
  replace hoY := hoY.mod zY hM3_6
  replace hoT := hoT.mod zT hM3_6
  replace hoA := hoA.mod zB hM3_6
  replace zY := Int.ofNat_lt.2 hY.lt
  replace zT := Int.ofNat_lt.2 hT.lt
  replace zB := Int.ofNat_lt.2 hB.lt
  refine Reg.nil ?_
  refine At.region rfl rfl ?_
  refine Reg.pur rfl rfl rfl rfl (Pur.mv rfl) ?_
  refine Reg.pur rfl rfl rfl rfl (Pur.mv rfl) ?_
  refine Reg.op rfl rfl rfl rfl (Does.callv rfl rfl (see1_ok x hB hat hT hN3_6 (by dsimp only at hnl; omega))) ?_
  rintro _ H4_2 ⟨A1b, c1b, A2b, c2b, hN4_2, hM4_2⟩
  replace hY := hY.via hM4_2.1 hoY.not
  replace hT := hT.via hM4_2.1 hoT.not
  replace hB := hB.via hM4_2.1 hoA.not
  replace hS := hS.via hM4_2.1 (fun _ g hg => by rw [hob] at hg; obtain rfl : g = b := (by omega); exact hoA.not)
  replace hoY := hoY.mod zY hM4_2
  replace hoT := hoT.mod zT hM4_2
  replace hoA := hoA.mod zB hM4_2
  replace zY := Int.ofNat_lt.2 hY.lt
  replace zT := Int.ofNat_lt.2 hT.lt
  replace zB := Int.ofNat_lt.2 hB.lt
  refine Reg.nil ?_
  refine At.region rfl rfl ?_
  refine Reg.pur rfl rfl rfl rfl (Pur.mv rfl) ?_
  refine Reg.pur rfl rfl rfl rfl (Pur.mv rfl) ?_
  refine Reg.pur rfl rfl rfl rfl (Pur.nilc rfl) ?_
  refine Reg.pur rfl rfl rfl rfl (Pur.fld _ fo65_3 rfl) ?_
  refine Reg.lod rfl rfl rfl rfl (Lod.ld sc3 rfl hB (hat 3 (by omega))) ?_
  refine Reg.pur rfl rfl rfl rfl (Pur.mv rfl) ?_
  refine Reg.op rfl rfl rfl rfl (Does.call rfl (ihf (x.getD 3 0) (by omega) (by omega) (by omega) (by omega) hS hY hT hN4_2 (by dsimp only at hnl hsl ⊢; omega) hoY hoT (by rw [hob]; exact hoA))) ?_
  rintro _ H5_6 ⟨A1d, c1d, A2d, c2d, hN5_6, hM5_6⟩
  refine Reg.nil ?_
  refine At.fall rfl Tryd.func88 rfl ?_
  rw [hfin, if_neg (fun h => h q17), nms_app, nms_cons]
  exact ⟨A1d, c1d, A2d, c2d, hN5_6, (hM3_6.trans hM4_2).trans hM5_6⟩

theorem typM_bgn {L : List (List Int)} (h : typM L = true) : (1 ≤ L.length ∧ L.length ≤ 256) ∧ bgn L L.length ((L.length : Int) - 1) = 0 := by
  unfold typM at h
  simp only [Bool.and_eq_true, decide_eq_true_eq] at h
  exact ⟨h.1.1, h.2⟩
def varsS (L : List (List Int)) (n : Nms) : Nms := nms n (ord L L.length ((L.length : Int) - 1))
theorem ord_256 {L : List (List Int)} (h : typM L = true) : (ord L L.length ((L.length : Int) - 1)).length = L.length := by
  obtain ⟨h1, h2⟩ := typM_bgn h
  have := ord_len L L.length ((L.length : Int) - 1) (by omega) (by omega)
  omega
theorem varsS_len {L : List (List Int)} (h : typM L = true) (n : Nms) : (varsS L n).1.length + (varsS L n).2.length ≤ n.1.length + n.2.length + L.length := by
  have := nms_len (ord L L.length ((L.length : Int) - 1)) n
  rw [ord_256 h] at this; exact this

theorem namesVars_ok {L : List (List Int)} (hL : Nine L) (hM : typM L = true) {A : Option Addr} {cap yb yo nb B : Nat} {cy : List Value} (hcy : cy[yo]? = some (.slice A L.length cap)) {H : Heap} {A1 A2 : Option Addr} {c1 c2 : Nat} {T R : List Int} (hS : SlT H Is 9 (.slice A L.length cap) L) (hY : Blk H yb cy) (hN : Nm H nb B A1 c1 T A2 c2 R)
    (hlen : T.length + R.length ≤ 900000) (hoY : Off nb A1 A2 yb) (hoA : Off nb A1 A2 (ob A)) :
    Ret Tryd.prog 64 [ptr nb 0, ptr yb yo] H (fun _ H' => ∃ A1' c1' A2' c2', Nm H' nb B A1' c1' (varsS L (T, R)).1 A2' c2' (varsS L (T, R)).2 ∧ Mod nb A1 A2 A1' A2' H H') := by
  obtain ⟨⟨hl1, hl2⟩, hb⟩ := typM_bgn hM
  have hol := ord_256 hM
  have zN := hN.own.lt
  have z1 := hN.g1.lt
  have z2 := hN.g2.lt
  refine Ret.of_at (N := 13) Tryd.call64 Tryd.func64 rfl rfl rfl ?_
  have hE := Ext.refl H
  have z_hE := hE.lt
  have z_hY := hY.lt
  have z_hS := hS.lt
  refine At.region rfl rfl ?_
  refine Reg.op rfl rfl rfl rfl (Does.box rfl rfl) ?_
  rintro _ H0_0 ⟨rfl, hn0_0⟩
  have z0_0 := hn0_0.size
  replace hE := hE.ext hn0_0.ext
  replace hY := hY.ext hn0_0.ext
  replace hS := hS.ext hn0_0.ext
  have o0_0 := hn0_0.own
  refine Reg.nil ?_
  refine At.region rfl rfl ?_
  refine Reg.pur rfl rfl rfl rfl (Pur.mv rfl) ?_
  refine Reg.pur rfl rfl rfl rfl (Pur.mv rfl) ?_
  refine Reg.pur rfl rfl rfl rfl (Pur.nilc rfl) ?_
  refine Reg.pur rfl rfl rfl rfl (Pur.fld _ fo55_0 rfl) ?_
  refine Reg.lod rfl rfl rfl rfl (Lod.ld sc53 rfl hY hcy) ?_
  refine Reg.pur rfl rfl rfl rfl (Pur.lenS isl53 rfl) ?_
  refine Reg.pur rfl rfl rfl rfl (Pur.sub64 rfl rfl (by omega)) ?_
  refine Reg.pur rfl rfl rfl rfl (Pur.mkf rfl rfl) ?_
  refine Reg.op rfl rfl rfl rfl (Does.call rfl (walk_ok hL hcy (by omega) L.length _ (by omega) (by omega) (by omega) (by omega) hS hY o0_0.blk (hN.ext hE) (by omega) hoY ⟨by omega, by omega, by omega⟩ hoA)) ?_
  rintro _ H1_8 ⟨A1a, c1a, A2a, c2a, hN1_8, hM1_8⟩
  refine Reg.nil ?_
  refine At.fall rfl Tryd.func64 rfl ?_
  exact ⟨A1a, c1a, A2a, c2a, hN1_8, ⟨(hn0_0.ext.but (S := fun g => g = nb ∨ (g : Int) = ob A1 ∨ (g : Int) = ob A2)).trans hM1_8.1, by have := hM1_8.2; omega⟩⟩
end Go.Proofs.YtlfillhffpiffaaDoor

namespace Go.Proofs.YtlfillhffpiffaaDoor
set_option linter.unusedSimpArgs false
set_option linter.unusedVariables false
set_option maxRecDepth 8000
open Go Go.Fx Go.Proofs
namespace FactsSchF
theorem ag55 : ag Tryd.prog 55 = some 1 := by kernel_rfl
theorem ag65 : ag Tryd.prog 65 = some 9 := by kernel_rfl
theorem es53 : esz Tryd.prog 53 = some 9 := by kernel_rfl
theorem fo109_0 : foff Tryd.prog 109 0 = some 0 := by kernel_rfl
theorem fo109_1 : foff Tryd.prog 109 1 = some 1 := by kernel_rfl
theorem fo24_1 : foff Tryd.prog 24 1 = some 4 := by kernel_rfl
theorem fo55_0 : foff Tryd.prog 55 0 = some 0 := by kernel_rfl
theorem fo65_0 : foff Tryd.prog 65 0 = some 0 := by kernel_rfl
theorem fo65_1 : foff Tryd.prog 65 1 = some 1 := by kernel_rfl
theorem fo65_2 : foff Tryd.prog 65 2 = some 2 := by kernel_rfl
theorem fo65_3 : foff Tryd.prog 65 3 = some 3 := by kernel_rfl
theorem fo65_4 : foff Tryd.prog 65 4 = some 4 := by kernel_rfl
theorem fo91_0 : foff Tryd.prog 91 0 = some 0 := by kernel_rfl
theorem fo91_1 : foff Tryd.prog 91 1 = some 1 := by kernel_rfl
theorem isl53 : isSl Tryd.prog 53 = true := by kernel_rfl
theorem mixed : Tryd.prog.follows .mixedOrders = true := by kernel_rfl
theorem pl109 : places Tryd.prog 109 = some [(0, 1), (1, 1)] := by kernel_rfl
theorem pl91 : places Tryd.prog 91 = some [(0, 1), (1, 1)] := by kernel_rfl
theorem sc3 : sc Tryd.prog 3 = true := by kernel_rfl
theorem sc50 : sc Tryd.prog 50 = true := by kernel_rfl
theorem sc53 : sc Tryd.prog 53 = true := by kernel_rfl
theorem zc109 : zc Tryd.prog 109 = some [.slice none 0 0, .slice none 0 0] := by kernel_rfl
theorem zc65 : zc Tryd.prog 65 = some [.int .i64 0, .int .i64 0, .int .i64 0, .int .i64 0, .int .i64 0, .int .i64 0, .int .i64 0, .int .i64 0, .int .i64 0] := by kernel_rfl
theorem zc91 : zc Tryd.prog 91 = some [.slice none 0 0, .slice none 0 0] := by kernel_rfl
end FactsSchF
open FactsSchF

theorem nm_new {H H' : Heap} {B : Nat} (h : Own H' H.size [.slice none 0 0, .slice none 0 0]) (hB : B ≤ H'.size) : Nm H' H.size B none 0 [] none 0 [] :=
  ⟨h, OwnS.nilG, OwnS.nilG, .inl rfl, by rw [ob_none]; omega, by rw [ob_none]; omega, hB⟩
theorem off_none {nb : Nat} {b : Int} (h : b ≠ nb) (h0 : 0 ≤ b) : Off nb none none b := ⟨h, by rw [ob_none]; omega, by rw [ob_none]; omega⟩
theorem mod_ext {nb : Nat} {A1' A2' : Option Addr} {H0 H H' : Heap} (h : Mod nb none none A1' A2' H H') (hE : Ext H0 H) (hn : H0.size ≤ nb) : Ext H0 H' :=
  hE.via h.1 (fun g hg hS => by rw [ob_none] at hS; omega)
def varsT (L : List (List Int)) : Nms := if typM L then varsS L ([], []) else ([], [])

theorem typVars_ok {A : Option Addr} {cap : Nat} {L : List (List Int)} (hL : Nine L) {H : Heap} (hS : SlT H Is 9 (.slice A L.length cap) L) (hm : L.length ≤ 9223372036854775807) :
    Ret Tryd.prog 41 [Ty A L.length cap] H (fun v H' => Ext H H' ∧ ∃ A1 c1 A2 c2, v = .tuple #[.slice A1 (varsT L).1.length c1, .slice A2 (varsT L).2.length c2, I (if typM L then 0 else 700)] ∧
      Gs H' H.size 3 1 A1 c1 (varsT L).1.length ((varsT L).1.flatMap e1) ∧ Gs H' H.size 3 1 A2 c2 (varsT L).2.length ((varsT L).2.flatMap e1)) := by
  refine Ret.of_at (N := 21) Tryd.call41 Tryd.func41 rfl rfl rfl ?_
  have hE := Ext.refl H
  refine At.region rfl rfl ?_
  refine Reg.op rfl rfl rfl rfl (Does.box rfl rfl) ?_
  rintro _ H0_0 ⟨rfl, hn0_0⟩
  have z0_0 := hn0_0.size
  replace hE := hE.ext hn0_0.ext
  have o0_0 := hn0_0.own
  refine Reg.pur rfl rfl rfl rfl (Pur.asg rfl) ?_
  refine Reg.pur rfl rfl rfl rfl (Pur.asg rfl) ?_
  refine Reg.pur rfl rfl rfl rfl (Pur.asg rfl) ?_
  refine Reg.nil ?_
  refine At.region rfl rfl ?_
  refine Reg.lod rfl rfl rfl rfl (Lod.ldn ag55 rfl o0_0.blk (by first | exact whole rfl | rfl | (simp only [List.drop_succ_cons, List.drop_zero, List.take_succ_cons, List.take_zero]; rfl)) (by first | rfl | (simp [*]; done))) ?_
  refine Reg.op rfl rfl rfl rfl (Does.call rfl (typMay_ok L hL (hS.ext hE) hm)) ?_
  rintro _ H1_1 ⟨rfl, hE1_1⟩
  have z1_1 := hE1_1.lt
  replace hE := hE.ext hE1_1
  replace o0_0 := o0_0.ext hE1_1
  refine Reg.pur rfl rfl rfl rfl (Pur.not rfl) ?_
  refine Reg.nil ?_
  refine At.cond rfl rfl (fun q8 => ?_) (fun q8 => ?_)
  · first | (simp only [decide_eq_true_eq, decide_eq_false_iff_not, Bool.not_eq_true', Bool.not_eq_false', ne_eq, Decidable.not_not, Bool.not_eq_true, Bool.not_eq_false] at q8) | (dsimp only at q8) | skip
    refine At.region rfl rfl ?_
    refine Reg.pur rfl rfl rfl rfl (Pur.asg rfl) ?_
    refine Reg.pur rfl rfl rfl rfl (Pur.asg rfl) ?_
    refine Reg.pur rfl rfl rfl rfl (Pur.asg rfl) ?_
    refine Reg.nil ?_
    refine At.ret rfl Tryd.func41 rfl ?_
    have hv : varsT L = ([], []) := by unfold varsT; rw [q8]; rfl
    rw [hv, q8]; exact ⟨hE, none, 0, none, 0, rfl, OwnS.nilG, OwnS.nilG⟩
  first | (simp only [decide_eq_true_eq, decide_eq_false_iff_not, Bool.not_eq_true', Bool.not_eq_false', ne_eq, Decidable.not_not, Bool.not_eq_true, Bool.not_eq_false] at q8) | (dsimp only at q8) | skip
  obtain ⟨⟨hl1, hl2⟩, _⟩ := typM_bgn q8
  refine At.region rfl rfl ?_
  refine Reg.pur rfl rfl rfl rfl (Pur.bld (cs := [_, _]) pl109 zc109 rfl rfl ⟨rfl, rfl, rfl⟩) ?_
  refine Reg.op rfl rfl rfl rfl (Does.box rfl rfl) ?_
  rintro _ H3_1 ⟨rfl, hn3_1⟩
  have z3_1 := hn3_1.size
  replace hE := hE.ext hn3_1.ext
  replace o0_0 := o0_0.ext hn3_1.ext
  have o3_1 := hn3_1.own
  refine Reg.pur rfl rfl rfl rfl (Pur.asg rfl) ?_
  refine Reg.nil ?_
  refine At.region rfl rfl ?_
  refine Reg.pur rfl rfl rfl rfl (Pur.mv rfl) ?_
  refine Reg.op rfl rfl rfl rfl (Does.call rfl (namesVars_ok hL q8 rfl (hS.ext hE) o0_0.blk (nm_new (B := H.size) o3_1 (by omega)) (by simp) (off_none (by omega) (by omega)) (off_none (by have := hS.lt; omega) (by have := hS.lt; omega)))) ?_
  rintro _ H4_1 ⟨A1, c1, A2, c2, hN4_1, hM4_1⟩
  have hE4 := mod_ext hM4_1 hE (by omega)
  refine Reg.nil ?_
  refine At.drawE ((Bks.cons hN4_1.own.blk Bks.nil)) [] mixed rfl rfl ?_
  refine RegD.tpur (i := 0) rfl rfl rfl rfl (by kernel_rfl) (Pur.mv rfl) ?_
  refine RegD.tpur (i := 1) rfl rfl rfl rfl (by kernel_rfl) (Pur.nilc rfl) ?_
  refine RegD.tpur (i := 2) rfl rfl rfl rfl (by kernel_rfl) (Pur.fld _ fo109_0 rfl) ?_
  refine RegD.take (i := 3) rfl rfl rfl rfl (by kernel_rfl) (Bks.cons hN4_1.own.blk Bks.nil) (fun H hS => Lod.ld sc50 rfl hS.hd rfl) ?_
  refine RegD.tpur (i := 4) rfl rfl rfl rfl (by kernel_rfl) (Pur.mv rfl) ?_
  refine RegD.tpur (i := 5) rfl rfl rfl rfl (by kernel_rfl) (Pur.nilc rfl) ?_
  refine RegD.tpur (i := 6) rfl rfl rfl rfl (by kernel_rfl) (Pur.fld _ fo109_1 rfl) ?_
  refine RegD.take (i := 7) rfl rfl rfl rfl (by kernel_rfl) (Bks.cons hN4_1.own.blk Bks.nil) (fun H hS => Lod.ld sc50 rfl hS.hd rfl) ?_
  refine RegD.tpur (i := 8) rfl rfl rfl rfl (by kernel_rfl) (Pur.asg rfl) ?_
  refine RegD.tpur (i := 9) rfl rfl rfl rfl (by kernel_rfl) (Pur.asg rfl) ?_
  refine RegD.tpur (i := 10) rfl rfl rfl rfl (by kernel_rfl) (Pur.asg rfl) ?_
  refine RegD.done (by kernel_rfl) ?_
  refine At.ret rfl Tryd.func41 rfl ?_
  have hv : varsT L = varsS L ([], []) := by unfold varsT; rw [q8]; rfl
  rw [hv, q8]; exact ⟨hE4, A1, c1, A2, c2, rfl, hN4_1.g1, hN4_1.g2⟩

theorem walkVars_ok {L : List (List Int)} (hL : Nine L) (htl : ∀ x ∈ L, x.getD 0 0 = 3 → -1 ≤ x.getD 8 0) {A : Option Addr} {cap nb B : Nat} (hm : L.length ≤ 9223372036854775807) : ∀ (f : Nat) (z : Int), 0 ≤ z → z < L.length → z.toNat < f → 0 ≤ bgn L f z →
    ∀ {H : Heap} {A1 A2 : Option Addr} {c1 c2 : Nat} {T R : List Int}, SlT H Is 9 (.slice A L.length cap) L → Nm H nb B A1 c1 T A2 c2 R → T.length + R.length + (ord L f z).length ≤ 1000000 → Off nb A1 A2 (ob A) →
    Ret Tryd.prog 90 [ptr nb 0, .slice A L.length cap, I z] H (fun _ H' => ∃ A1' c1' A2' c2', Nm H' nb B A1' c1' (nms (T, R) (ord L f z)).1 A2' c2' (nms (T, R) (ord L f z)).2 ∧ Mod nb A1 A2 A1' A2' H H') := by
  intro f
  induction f with
  | zero => intro z _ _ h; omega
  | succ f ihf =>
  intro z hz0 hzl hzf hbg H A1 A2 c1 c2 T R hS hN hlen hoA
  have htx : (el L z).getD 0 0 = 3 → -1 ≤ (el L z).getD 8 0 := by
    have he : el L z = L[z.toNat]'(by omega) := by simp [el, List.getD_eq_getElem?_getD, List.getElem?_eq_getElem (show z.toNat < L.length by omega)]
    rw [he]; exact htl _ (List.getElem_mem _)
  obtain ⟨b, o, c, rfl, hB, hd, hx9, hat⟩ := el_cells hL hS hz0 hzl
  have hfin := ord_succ L f z
  have hfun := bgn_fun hbg
  have hnl := nms_len (ord L f ((el L z).getD 2 0)) (T, R)
  have hsl := see_len ((nms (T, R) (ord L f ((el L z).getD 2 0))).1, (nms (T, R) (ord L f ((el L z).getD 2 0))).2) (el L z)
  generalize el L z = x at hfin hfun hd hx9 hat hnl hsl htx
  have hob : ob (some ⟨b, o, none⟩) = b := ob_some b o
  have hat' : ∀ j, j < 9 → (Is x)[j]? = some (I (x.getD j 0)) := fun j hj => at_Is (by omega)
  have zB := Int.ofNat_lt.2 hB.lt
  have zN := hN.own.lt
  have hx9' : (Is x).length = 9 := by simp [hx9]
  rw [hob] at hoA
  refine Ret.of_at (N := 40) Tryd.call90 Tryd.func90 rfl rfl rfl ?_
  have hE := Ext.refl H

  refine At.region rfl rfl ?_
  refine Reg.pur rfl rfl rfl rfl (Pur.mv rfl) ?_
  refine Reg.pur rfl rfl rfl rfl (Pur.mv rfl) ?_
  refine Reg.pur rfl rfl rfl rfl (Pur.idx _ es53 rfl rfl (by omega) (by omega)) ?_
  refine Reg.lod rfl rfl rfl rfl (Lod.ldn ag65 rfl hB hd hx9') ?_
  refine Reg.op rfl rfl rfl rfl (Does.alloc zc65) ?_
  rintro _ H0_4 ⟨rfl, hn0_4⟩
  have z0_4 := hn0_4.size
  have o0_4 := hn0_4.own
  refine Reg.op0 rfl rfl rfl (Does.stn ag65 rfl rfl (by first | rfl | exact ones_Is _) (by first | rfl | (simp [*]; done)) o0_4 (by first | decide | (simp; done) | (simp; omega) | omega)) ?_
  rintro _ H0_5 hu0_5
  have z0_5 := hu0_5.size
  replace o0_4 := hu0_5.own
  first | rw [over (by first | rfl | (simp; done))] at o0_4 | skip
  refine Reg.nil ?_

  have hX : Own H0_5 H.size (Is x) := o0_4
  have hE0 : Ext H H0_5 := hn0_4.ext.upd hu0_5 (Nat.le_refl _)
  have hN0 := hN.ext hE0
  have hS0 := hS.ext hE0
  have hoX : Off nb A1 A2 H.size := ⟨by omega, by have := hN.g1.lt; omega, by have := hN.g2.lt; omega⟩
  have zX := Int.ofNat_lt.2 hX.lt
  have hM0 : Mod nb A1 A2 A1 A2 H H0_5 := (Mod.refl nb A1 A2 H).ext hE0
  have zB0 : (b : Int) < H0_5.size := by have := hE0.1; omega
  refine At.region rfl rfl ?_
  refine Reg.pur rfl rfl rfl rfl (Pur.fld _ fo65_0 rfl) ?_
  refine Reg.lod rfl rfl rfl rfl (Lod.ld sc3 rfl hX.blk (hat' 0 (by omega))) ?_
  refine Reg.nil ?_
  refine At.region rfl rfl ?_
  refine Reg.pur rfl rfl rfl rfl (Pur.eql rfl rfl) ?_
  refine Reg.pur rfl rfl rfl rfl (Pur.asg rfl) ?_
  refine Reg.nil ?_
  refine At.cond rfl rfl (fun q13 => ?_) (fun q13 => ?_)
  · first | (simp only [decide_eq_true_eq, decide_eq_false_iff_not, Bool.not_eq_true', Bool.not_eq_false', ne_eq, Decidable.not_not, Bool.not_eq_true, Bool.not_eq_false] at q13) | (dsimp only at q13) | skip
    refine At.region rfl rfl ?_
    refine Reg.pur rfl rfl rfl rfl (Pur.mv rfl) ?_
    refine Reg.pur rfl rfl rfl rfl (Pur.fld _ fo65_1 rfl) ?_
    refine Reg.lod rfl rfl rfl rfl (Lod.ld sc3 rfl hX.blk (hat' 1 (by omega))) ?_
    refine Reg.op rfl rfl rfl rfl (Does.call rfl (nm_kind _ hN0 (by omega))) ?_
    rintro _ H3_3 ⟨rfl, A1a, c1a, hN3_3, hM3_3⟩
    refine Reg.nil ?_
    refine At.fall rfl Tryd.func90 rfl ?_
    rw [hfin, if_pos (by omega), show nms (T, R) [x] = (addL T (x.getD 1 0), R) by unfold nms see; simp only [List.foldl_cons, List.foldl_nil]; rw [if_pos q13]]
    exact ⟨A1a, c1a, A2, c2, hN3_3, hM0.trans hM3_3⟩
  first | (simp only [decide_eq_true_eq, decide_eq_false_iff_not, Bool.not_eq_true', Bool.not_eq_false', ne_eq, Decidable.not_not, Bool.not_eq_true, Bool.not_eq_false] at q13) | (dsimp only at q13) | skip
  refine At.region rfl rfl ?_
  refine Reg.pur rfl rfl rfl rfl (Pur.eql rfl rfl) ?_
  refine Reg.pur rfl rfl rfl rfl (Pur.asg rfl) ?_
  refine Reg.nil ?_
  refine At.cond rfl rfl (fun q19 => ?_) (fun q19 => ?_)
  · first | (simp only [decide_eq_true_eq, decide_eq_false_iff_not, Bool.not_eq_true', Bool.not_eq_false', ne_eq, Decidable.not_not, Bool.not_eq_true, Bool.not_eq_false] at q19) | (dsimp only at q19) | skip
    obtain ⟨hz, hB3, hb3, hA2, hbA⟩ := hfun q19
    have hle := bgn_le L f (x.getD 3 0) (by omega)
    rw [hfin, if_neg (fun h => h q19), List.length_append, List.length_cons] at hlen
    refine At.region rfl rfl ?_
    refine Reg.pur rfl rfl rfl rfl (Pur.mv rfl) ?_
    refine Reg.pur rfl rfl rfl rfl (Pur.mv rfl) ?_
    refine Reg.pur rfl rfl rfl rfl (Pur.fld _ fo65_2 rfl) ?_
    refine Reg.lod rfl rfl rfl rfl (Lod.ld sc3 rfl hX.blk (hat' 2 (by omega))) ?_
    refine Reg.op rfl rfl rfl rfl (Does.call rfl (ihf (x.getD 2 0) (by omega) (by omega) (by omega) hbA hS0 hN0 (by omega) (by rw [hob]; exact hoA))) ?_
    rintro _ H5_4 ⟨A1a, c1a, A2a, c2a, hN5_4, hM5_4⟩
    replace hX := hX.via hM5_4.1 hoX.not
    have hS1 := hS0.via hM5_4.1 (fun _ g hg => by rw [hob] at hg; obtain rfl : g = b := (by omega); exact hoA.not)
    replace hoX := hoX.mod zX hM5_4
    replace hoA := hoA.mod zB0 hM5_4
    replace zX := Int.ofNat_lt.2 hX.lt
    have zB1 : (b : Int) < H5_4.size := by have := hM5_4.1.1; omega
    refine Reg.nil ?_
    refine At.region rfl rfl ?_
    refine Reg.pur rfl rfl rfl rfl (Pur.fld _ fo65_4 rfl) ?_
    refine Reg.pur rfl rfl rfl rfl (Pur.fld _ fo24_1 rfl) ?_
    refine Reg.lod rfl rfl rfl rfl (Lod.ld sc3 rfl hX.blk (hat' 8 (by omega))) ?_
    refine Reg.pur rfl rfl rfl rfl (Pur.geq rfl rfl) ?_
    refine Reg.nil ?_
    refine At.joinc (σ := Option Addr × Nat × Option Addr × Nat) (fun _ => [(0, ptr nb 0), (1, .slice (some ⟨b, o, none⟩) L.length cap), (6, ptr H.size 0)]) (fun (A1b, c1b, A2b, c2b) H' => Nm H' nb B A1b c1b (see ((nms (T, R) (ord L f (x.getD 2 0))).1, (nms (T, R) (ord L f (x.getD 2 0))).2) x).1 A2b c2b (see ((nms (T, R) (ord L f (x.getD 2 0))).1, (nms (T, R) (ord L f (x.getD 2 0))).2) x).2 ∧ Mod nb A1a A2a A1b A2b H5_4 H') rfl (fun hJ => ?_) (fun s H7 hs => ?_)
    · refine At.cond rfl rfl (fun q29 => ?_) (fun q29 => ?_)
      · first | (simp only [decide_eq_true_eq, decide_eq_false_iff_not, Bool.not_eq_true', Bool.not_eq_false', ne_eq, Decidable.not_not, Bool.not_eq_true, Bool.not_eq_false] at q29) | (dsimp only at q29) | skip
        refine At.region rfl rfl ?_
        refine Reg.pur rfl rfl rfl rfl (Pur.mv rfl) ?_
        refine Reg.pur rfl rfl rfl rfl (Pur.fld _ fo65_4 rfl) ?_
        refine Reg.pur rfl rfl rfl rfl (Pur.fld _ fo24_1 rfl) ?_
        refine Reg.lod rfl rfl rfl rfl (Lod.ld sc3 rfl hX.blk (hat' 8 (by omega))) ?_
        refine Reg.op rfl rfl rfl rfl (Does.call rfl (nm_row _ hN5_4 (by dsimp only at hnl; omega))) ?_
        rintro _ H7_4 ⟨rfl, A2b, c2b, hN7_4, hM7_4⟩
        refine Reg.nil ?_
        first | exact At.meets rfl (hJ (A1a, c1a, A2b, c2b) _ ⟨by rw [show see ((nms (T, R) (ord L f (x.getD 2 0))).1, (nms (T, R) (ord L f (x.getD 2 0))).2) x = ((nms (T, R) (ord L f (x.getD 2 0))).1, addL (nms (T, R) (ord L f (x.getD 2 0))).2 (x.getD 8 0)) by unfold see; rw [if_neg (by omega), if_pos ⟨q19, by omega⟩]]; exact hN7_4, hM7_4⟩) ⟨rfl, rfl, rfl, trivial⟩ | exact At.meets rfl (hJ (A1a, c1a, A2a, c2a) _ ⟨by rw [show see ((nms (T, R) (ord L f (x.getD 2 0))).1, (nms (T, R) (ord L f (x.getD 2 0))).2) x = ((nms (T, R) (ord L f (x.getD 2 0))).1, (nms (T, R) (ord L f (x.getD 2 0))).2) by unfold see; rw [if_neg (by omega), if_neg (by have := htx q19; omega)]]; exact hN5_4, Mod.refl _ _ _ _⟩) ⟨rfl, rfl, rfl, trivial⟩
      first | (simp only [decide_eq_true_eq, decide_eq_false_iff_not, Bool.not_eq_true', Bool.not_eq_false', ne_eq, Decidable.not_not, Bool.not_eq_true, Bool.not_eq_false] at q29) | (dsimp only at q29) | skip
      first | exact At.meets rfl (hJ (A1a, c1a, A2b, c2b) _ ⟨by rw [show see ((nms (T, R) (ord L f (x.getD 2 0))).1, (nms (T, R) (ord L f (x.getD 2 0))).2) x = ((nms (T, R) (ord L f (x.getD 2 0))).1, addL (nms (T, R) (ord L f (x.getD 2 0))).2 (x.getD 8 0)) by unfold see; rw [if_neg (by omega), if_pos ⟨q19, by omega⟩]]; exact hN7_4, hM7_4⟩) ⟨rfl, rfl, rfl, trivial⟩ | exact At.meets rfl (hJ (A1a, c1a, A2a, c2a) _ ⟨by rw [show see ((nms (T, R) (ord L f (x.getD 2 0))).1, (nms (T, R) (ord L f (x.getD 2 0))).2) x = ((nms (T, R) (ord L f (x.getD 2 0))).1, (nms (T, R) (ord L f (x.getD 2 0))).2) by unfold see; rw [if_neg (by omega), if_neg (by have := htx q19; omega)]]; exact hN5_4, Mod.refl _ _ _ _⟩) ⟨rfl, rfl, rfl, trivial⟩
    obtain ⟨A1b, c1b, A2b, c2b⟩ := s
    obtain ⟨hN7, hM7⟩ := hs
    replace hX := hX.via hM7.1 hoX.not
    have hS2 := hS1.via hM7.1 (fun _ g hg => by rw [hob] at hg; obtain rfl : g = b := (by omega); exact hoA.not)
    replace hoA := hoA.mod zB1 hM7

    refine At.region rfl rfl ?_
    refine Reg.pur rfl rfl rfl rfl (Pur.mv rfl) ?_
    refine Reg.pur rfl rfl rfl rfl (Pur.mv rfl) ?_
    refine Reg.pur rfl rfl rfl rfl (Pur.fld _ fo65_3 rfl) ?_
    refine Reg.lod rfl rfl rfl rfl (Lod.ld sc3 rfl hX.blk (hat' 3 (by omega))) ?_
    refine Reg.op rfl rfl rfl rfl (Does.call rfl (ihf (x.getD 3 0) (by omega) (by omega) (by omega) (by omega) hS2 hN7 (by dsimp only at hnl hsl ⊢; omega) (by rw [hob]; exact hoA))) ?_
    rintro _ H8_4 ⟨A1d, c1d, A2d, c2d, hN8_4, hM8_4⟩
    refine Reg.nil ?_
    refine At.fall rfl Tryd.func90 rfl ?_
    rw [hfin, if_neg (fun h => h q19), nms_app, nms_cons]
    exact ⟨A1d, c1d, A2d, c2d, hN8_4, ((hM0.trans hM5_4).trans hM7).trans hM8_4⟩
  first | (simp only [decide_eq_true_eq, decide_eq_false_iff_not, Bool.not_eq_true', Bool.not_eq_false', ne_eq, Decidable.not_not, Bool.not_eq_true, Bool.not_eq_false] at q19) | (dsimp only at q19) | skip
  refine At.fall rfl Tryd.func90 rfl ?_
  rw [hfin, if_pos q19, show nms (T, R) [x] = (T, R) by unfold nms see; simp only [List.foldl_cons, List.foldl_nil]; rw [if_neg q13, if_neg (fun h => q19 h.1)]]
  exact ⟨A1, c1, A2, c2, hN0, hM0⟩

theorem row_tail' {r : List Int} (h : rowM r = true) : -1 ≤ r.getD 4 0 := by
  unfold rowM at h; simp only [Bool.and_eq_true, decide_eq_true_eq] at h; exact h.2.1
theorem drop4_tail' {x : List Int} (hx : x.length = 9) : (x.drop 4).getD 4 0 = x.getD 8 0 := by
  match x, hx with
  | [k, v, a, b, c0, c1, c2, c3, t], _ => rfl
theorem typM_tails {L : List (List Int)} (hL : Nine L) (h : typM L = true) : ∀ x ∈ L, x.getD 0 0 = 3 → -1 ≤ x.getD 8 0 := by
  intro x hx h3
  have hn : nodM x = true := by
    unfold typM at h; simp only [Bool.and_eq_true, List.all_eq_true] at h; exact h.1.2 x hx
  unfold nodM at hn
  rw [if_pos h3] at hn
  simp only [Bool.and_eq_true] at hn
  have := row_tail' hn.1
  rwa [drop4_tail' (hL x hx)] at this
theorem varsOf_ok {A : Option Addr} {cap : Nat} {L : List (List Int)} (hL : Nine L) (hM : typM L = true) {H : Heap} (hS : SlT H Is 9 (.slice A L.length cap) L) :
    Ret Tryd.prog 65 [Ty A L.length cap] H (fun v H' => Ext H H' ∧ ∃ A1 c1 A2 c2, v = .tuple #[.slice A1 (varsT L).1.length c1, .slice A2 (varsT L).2.length c2] ∧
      Gs H' H.size 3 1 A1 c1 (varsT L).1.length ((varsT L).1.flatMap e1) ∧ Gs H' H.size 3 1 A2 c2 (varsT L).2.length ((varsT L).2.flatMap e1)) := by
  obtain ⟨⟨hl1, hl2⟩, hb⟩ := typM_bgn hM
  have hol := ord_256 hM
  refine Ret.of_at (N := 23) Tryd.call65 Tryd.func65 rfl rfl rfl ?_
  have hE := Ext.refl H
  refine At.region rfl rfl ?_
  refine Reg.op rfl rfl rfl rfl (Does.box rfl rfl) ?_
  rintro _ H0_0 ⟨rfl, hn0_0⟩
  have z0_0 := hn0_0.size
  replace hE := hE.ext hn0_0.ext
  have o0_0 := hn0_0.own
  refine Reg.pur rfl rfl rfl rfl (Pur.asg rfl) ?_
  refine Reg.pur rfl rfl rfl rfl (Pur.asg rfl) ?_
  refine Reg.nil ?_
  refine At.region rfl rfl ?_
  refine Reg.pur rfl rfl rfl rfl (Pur.bld (cs := [_, _]) pl91 zc91 rfl rfl ⟨rfl, rfl, rfl⟩) ?_
  refine Reg.op rfl rfl rfl rfl (Does.box rfl rfl) ?_
  rintro _ H1_1 ⟨rfl, hn1_1⟩
  have z1_1 := hn1_1.size
  replace hE := hE.ext hn1_1.ext
  replace o0_0 := o0_0.ext hn1_1.ext
  have o1_1 := hn1_1.own
  refine Reg.pur rfl rfl rfl rfl (Pur.asg rfl) ?_
  refine Reg.nil ?_
  refine At.region rfl rfl ?_
  refine Reg.pur rfl rfl rfl rfl (Pur.mv rfl) ?_
  refine Reg.pur rfl rfl rfl rfl (Pur.fld _ fo55_0 rfl) ?_
  refine Reg.lod rfl rfl rfl rfl (Lod.ld sc53 rfl o0_0.blk (by first | rfl | (simp; done))) ?_
  refine Reg.pur rfl rfl rfl rfl (Pur.fld _ fo55_0 rfl) ?_
  refine Reg.lod rfl rfl rfl rfl (Lod.ld sc53 rfl o0_0.blk (by first | rfl | (simp; done))) ?_
  refine Reg.pur rfl rfl rfl rfl (Pur.lenS isl53 rfl) ?_
  refine Reg.pur rfl rfl rfl rfl (Pur.sub64 rfl rfl (by omega)) ?_
  refine Reg.op rfl rfl rfl rfl (Does.call rfl (walkVars_ok hL (typM_tails hL hM) (by omega) L.length _ (by omega) (by omega) (by omega) (by omega) (hS.ext hE) (nm_new (B := H.size) o1_1 (by omega)) (by simp; omega) (off_none (by have := hS.lt; omega) (by have := hS.lt; omega)))) ?_
  rintro _ H2_7 ⟨A1, c1, A2, c2, hN2_7, hM2_7⟩
  have hE4 := mod_ext hM2_7 hE (by omega)
  refine Reg.nil ?_
  refine At.drawE ((Bks.cons hN2_7.own.blk Bks.nil)) [] mixed rfl rfl ?_
  refine RegD.tpur (i := 0) rfl rfl rfl rfl (by kernel_rfl) (Pur.mv rfl) ?_
  refine RegD.tpur (i := 1) rfl rfl rfl rfl (by kernel_rfl) (Pur.nilc rfl) ?_
  refine RegD.tpur (i := 2) rfl rfl rfl rfl (by kernel_rfl) (Pur.fld _ fo91_0 rfl) ?_
  refine RegD.take (i := 3) rfl rfl rfl rfl (by kernel_rfl) (Bks.cons hN2_7.own.blk Bks.nil) (fun H hS => Lod.ld sc50 rfl hS.hd rfl) ?_
  refine RegD.tpur (i := 4) rfl rfl rfl rfl (by kernel_rfl) (Pur.mv rfl) ?_
  refine RegD.tpur (i := 5) rfl rfl rfl rfl (by kernel_rfl) (Pur.nilc rfl) ?_
  refine RegD.tpur (i := 6) rfl rfl rfl rfl (by kernel_rfl) (Pur.fld _ fo91_1 rfl) ?_
  refine RegD.take (i := 7) rfl rfl rfl rfl (by kernel_rfl) (Bks.cons hN2_7.own.blk Bks.nil) (fun H hS => Lod.ld sc50 rfl hS.hd rfl) ?_
  refine RegD.tpur (i := 8) rfl rfl rfl rfl (by kernel_rfl) (Pur.asg rfl) ?_
  refine RegD.tpur (i := 9) rfl rfl rfl rfl (by kernel_rfl) (Pur.asg rfl) ?_
  refine RegD.done (by kernel_rfl) ?_
  refine At.ret rfl Tryd.func65 rfl ?_
  have hv : varsT L = varsS L ([], []) := by unfold varsT; rw [hM]; rfl
  rw [hv]; exact ⟨hE4, A1, c1, A2, c2, rfl, hN2_7.g1, hN2_7.g2⟩
end Go.Proofs.YtlfillhffpiffaaDoor

namespace Go.Proofs.YtlfillhffpiffaaDoor
set_option linter.unusedSimpArgs false
set_option linter.unusedVariables false
set_option maxRecDepth 8000
open Go Go.Fx Go.Proofs
namespace FactsSchG

end FactsSchG
open FactsSchG

def cs (b : Bool) : Int := if b then 0 else 1200
end Go.Proofs.YtlfillhffpiffaaDoor

namespace Go.Proofs.YtlfillhffpiffaaDoor
set_option linter.unusedSimpArgs false
set_option linter.unusedVariables false
set_option maxRecDepth 8000
open Go Go.Fx Go.Proofs
namespace FactsSubK
theorem ag24 : ag Tryd.prog 24 = some 5 := by kernel_rfl
theorem ag55 : ag Tryd.prog 55 = some 1 := by kernel_rfl
theorem ag65 : ag Tryd.prog 65 = some 9 := by kernel_rfl
theorem apt53 : appT Tryd.prog 53 = some (65, 9, 72) := by kernel_rfl
theorem es50 : esz Tryd.prog 50 = some 1 := by kernel_rfl
theorem es53 : esz Tryd.prog 53 = some 9 := by kernel_rfl
theorem fo55_0 : foff Tryd.prog 55 0 = some 0 := by kernel_rfl
theorem fo65_0 : foff Tryd.prog 65 0 = some 0 := by kernel_rfl
theorem fo65_1 : foff Tryd.prog 65 1 = some 1 := by kernel_rfl
theorem fo65_2 : foff Tryd.prog 65 2 = some 2 := by kernel_rfl
theorem fo65_3 : foff Tryd.prog 65 3 = some 3 := by kernel_rfl
theorem fo65_4 : foff Tryd.prog 65 4 = some 4 := by kernel_rfl
theorem isl53 : isSl Tryd.prog 53 = true := by kernel_rfl
theorem mixed : Tryd.prog.follows .mixedOrders = true := by kernel_rfl
theorem pl55 : places Tryd.prog 55 = some [(0, 1)] := by kernel_rfl
theorem sc3 : sc Tryd.prog 3 = true := by kernel_rfl
theorem sc53 : sc Tryd.prog 53 = true := by kernel_rfl
theorem slA53 : slA Tryd.prog 53 = some (65, 9) := by kernel_rfl
theorem zc24 : zc Tryd.prog 24 = some [.int .i64 0, .int .i64 0, .int .i64 0, .int .i64 0, .int .i64 0] := by kernel_rfl
theorem zc55 : zc Tryd.prog 55 = some [.slice none 0 0] := by kernel_rfl
theorem zc65 : zc Tryd.prog 65 = some [.int .i64 0, .int .i64 0, .int .i64 0, .int .i64 0, .int .i64 0, .int .i64 0, .int .i64 0, .int .i64 0, .int .i64 0] := by kernel_rfl
end FactsSubK
open FactsSubK

theorem nine1 {x : List Int} (h : x.length = 9) : Nine [x] := by intro y hy; simp at hy; subst hy; exact h
end Go.Proofs.YtlfillhffpiffaaDoor

namespace Go.Proofs.YtlfillhffpiffaaDoor
set_option linter.unusedSimpArgs false
set_option linter.unusedVariables false
set_option maxRecDepth 8000
open Go Go.Fx Go.Proofs
namespace FactsSubL

end FactsSubL
open FactsSubL

theorem movS_not3 {k : Int} {x : List Int} (h : ¬ x.getD 0 0 = 3) : movS k x = x := by unfold movS; rw [if_neg h]
theorem map1_mov {k : Int} {U : List (List Int)} {j : Nat} (h : j < U.length) : (U.take (j + 1)).map (movS k) = (U.take j).map (movS k) ++ [movS k U[j]] := by
  rw [List.take_succ_eq_append_getElem h, List.map_append]; rfl
theorem nine_app {L M : List (List Int)} (h : Nine L) (h' : Nine M) : Nine (L ++ M) := fun x hx => (List.mem_append.1 hx).elim (h x) (h' x)

end Go.Proofs.YtlfillhffpiffaaDoor

namespace Go.Proofs.YtlfillhffpiffaaDoor
set_option linter.unusedSimpArgs false
set_option linter.unusedVariables false
set_option maxRecDepth 8000
open Go Go.Fx Go.Proofs
namespace FactsSubM
theorem ag55 : ag Tryd.prog 55 = some 1 := by kernel_rfl
theorem pl55 : places Tryd.prog 55 = some [(0, 1)] := by kernel_rfl
theorem zc55 : zc Tryd.prog 55 = some [.slice none 0 0] := by kernel_rfl
end FactsSubM
open FactsSubM

end Go.Proofs.YtlfillhffpiffaaDoor

namespace Go.Proofs.YtlfillhffpiffaaDoor
set_option linter.unusedSimpArgs false
set_option linter.unusedVariables false
set_option maxRecDepth 8000
open Go Go.Fx Go.Proofs
namespace FactsSubN
theorem ag24 : ag Tryd.prog 24 = some 5 := by kernel_rfl
theorem ag55 : ag Tryd.prog 55 = some 1 := by kernel_rfl
theorem mixed : Tryd.prog.follows .mixedOrders = true := by kernel_rfl
theorem sc3 : sc Tryd.prog 3 = true := by kernel_rfl
end FactsSubN
open FactsSubN

def pl (b : Bd) : Int × Bool × List (List Int) × List Int := (b.var, b.isRow, b.nodes, b.row)
theorem spoilO_ok {A : Option Addr} {cap B : Nat} {L : List (List Int)} (hL : Nine L) {H : Heap} (hm : L.length ≤ 9223372036854775807) (ho : OwnS H B 65 9 (.slice A L.length cap) L.length (L.flatMap Is)) :
    Ret Tryd.prog 48 [Ty A L.length cap] H (fun v H' => But (fun g => (g : Int) = ob A) H H') := by
  by_cases h0 : L.length = 0
  · refine (spoilT_ok (g := H.size) (c0 := []) hL hm (.inl h0)).mono ?_
    rintro v H' (⟨_, h⟩ | h)
    · exact h.but
    · exact h.mono (fun b hb e => by omega)
  · obtain ⟨g, c, rfl, h1, h2, h3⟩ := ho.blk (by omega)
    refine (spoilT_ok (g := g) hL hm (.inr ⟨rfl, h1, h2⟩)).mono ?_
    rintro v H' (⟨_, h⟩ | h)
    · exact h.but
    · exact h.mono (fun b hb e => by subst e; rfl)

end Go.Proofs.YtlfillhffpiffaaDoor

namespace Go.Proofs.YtlfillhffpiffaaDoor
set_option linter.unusedSimpArgs false
set_option linter.unusedVariables false
set_option maxRecDepth 8000
open Go Go.Fx Go.Proofs
namespace FactsSchI
theorem es50 : esz Tryd.prog 50 = some 1 := by kernel_rfl
theorem isl50 : isSl Tryd.prog 50 = true := by kernel_rfl
theorem mixed : Tryd.prog.follows .mixedOrders = true := by kernel_rfl
theorem sc3 : sc Tryd.prog 3 = true := by kernel_rfl
end FactsSchI
open FactsSchI

theorem sameI_ok {A A' : Option Addr} {cap cap' : Nat} (l m : List Int) {H : Heap} (hS : SlT H e1 1 (.slice A l.length cap) l) (hS' : SlT H e1 1 (.slice A' m.length cap') m) (hm : l.length ≤ 9223372036854775807) :
    Ret Tryd.prog 45 [.slice A l.length cap, .slice A' m.length cap'] H (fun v H' => v = .bool (decide (l = m)) ∧ H' = H) := by
  refine Ret.of_at (N := 26) Tryd.call45 Tryd.func45 rfl rfl rfl ?_
  have hE := Ext.refl H
  refine At.region rfl rfl ?_
  refine Reg.pur rfl rfl rfl rfl (Pur.asg rfl) ?_
  refine Reg.nil ?_
  refine At.region rfl rfl ?_
  refine Reg.pur rfl rfl rfl rfl (Pur.mv rfl) ?_
  refine Reg.pur rfl rfl rfl rfl (Pur.lenS isl50 rfl) ?_
  refine Reg.pur rfl rfl rfl rfl (Pur.mv rfl) ?_
  refine Reg.pur rfl rfl rfl rfl (Pur.lenS isl50 rfl) ?_
  refine Reg.pur rfl rfl rfl rfl (Pur.neq rfl rfl) ?_
  refine Reg.nil ?_
  refine At.cond rfl rfl (fun q10 => ?_) (fun q10 => ?_)
  · first | (simp only [decide_eq_true_eq, decide_eq_false_iff_not, Bool.not_eq_true', Bool.not_eq_false', ne_eq, Decidable.not_not, Bool.not_eq_true, Bool.not_eq_false] at q10) | (dsimp only at q10) | skip
    refine At.region rfl rfl ?_
    refine Reg.pur rfl rfl rfl rfl (Pur.asg rfl) ?_
    refine Reg.nil ?_
    refine At.ret rfl Tryd.func45 rfl ?_
    exact ⟨congrArg Value.bool (decide_eq_false fun e => by subst e; exact q10 rfl).symm, rfl⟩
  first | (simp only [decide_eq_true_eq, decide_eq_false_iff_not, Bool.not_eq_true', Bool.not_eq_false', ne_eq, Decidable.not_not, Bool.not_eq_true, Bool.not_eq_false] at q10) | (dsimp only at q10) | skip
  refine At.region rfl rfl ?_
  refine Reg.pur rfl rfl rfl rfl (Pur.asg rfl) ?_
  refine Reg.nil ?_
  have hll : l.length = m.length := by omega
  refine At.loop (σ := Nat) (fun i => [(5, I i), (0, .slice A l.length cap), (1, .slice A' m.length cap')]) (fun i H' => i ≤ l.length ∧ H' = H ∧ l.take i = m.take i) (fun i => l.length - i) 0 rfl ⟨rfl, rfl, rfl, trivial⟩ ⟨by omega, rfl, rfl⟩ ?_
  rintro i H ⟨hi, rfl, hgo⟩ ih
  refine At.region rfl rfl ?_
  refine Reg.pur rfl rfl rfl rfl (Pur.mv rfl) ?_
  refine Reg.pur rfl rfl rfl rfl (Pur.mv rfl) ?_
  refine Reg.pur rfl rfl rfl rfl (Pur.lenS isl50 rfl) ?_
  refine Reg.pur rfl rfl rfl rfl (Pur.lss rfl rfl) ?_
  refine Reg.nil ?_
  refine At.cond rfl rfl (fun q14 => ?_) (fun q14 => ?_)
  · first | (simp only [decide_eq_true_eq, decide_eq_false_iff_not, Bool.not_eq_true', Bool.not_eq_false', ne_eq, Decidable.not_not, Bool.not_eq_true, Bool.not_eq_false] at q14) | (dsimp only at q14) | skip
    have hlt : i < l.length := by omega
    have hlt' : i < m.length := by omega
    obtain ⟨b, o, c, rfl, hB, hc⟩ := int_at hS hlt
    obtain ⟨b', o', c', rfl, hB', hc'⟩ := int_at hS' hlt'
    refine At.drawE ((Bks.cons hB.blk (Bks.cons hB'.blk Bks.nil))) [] mixed rfl rfl ?_
    refine RegD.tpur (i := 0) rfl rfl rfl rfl (by kernel_rfl) (Pur.mv rfl) ?_
    refine RegD.tpur (i := 1) rfl rfl rfl rfl (by kernel_rfl) (Pur.mv rfl) ?_
    refine RegD.tpur (i := 2) rfl rfl rfl rfl (by kernel_rfl) (Pur.idx _ es50 rfl rfl (by omega) (by omega)) ?_
    refine RegD.take (i := 3) rfl rfl rfl rfl (by kernel_rfl) (Bks.cons hB.blk (Bks.cons hB'.blk Bks.nil)) (fun H hS => Lod.ld sc3 rfl hS.hd hc) ?_
    refine RegD.tpur (i := 4) rfl rfl rfl rfl (by kernel_rfl) (Pur.mv rfl) ?_
    refine RegD.tpur (i := 5) rfl rfl rfl rfl (by kernel_rfl) (Pur.mv rfl) ?_
    refine RegD.tpur (i := 6) rfl rfl rfl rfl (by kernel_rfl) (Pur.idx _ es50 rfl rfl (by omega) (by omega)) ?_
    refine RegD.take (i := 7) rfl rfl rfl rfl (by kernel_rfl) (Bks.cons hB.blk (Bks.cons hB'.blk Bks.nil)) (fun H hS => Lod.ld sc3 rfl hS.tl.hd hc') ?_
    refine RegD.tpur (i := 8) rfl rfl rfl rfl (by kernel_rfl) (Pur.neq rfl rfl) ?_
    refine RegD.done (by kernel_rfl) ?_
    refine At.cond rfl rfl (fun q25 => ?_) (fun q25 => ?_)
    · first | (simp only [decide_eq_true_eq, decide_eq_false_iff_not, Bool.not_eq_true', Bool.not_eq_false', ne_eq, Decidable.not_not, Bool.not_eq_true, Bool.not_eq_false] at q25) | (dsimp only at q25) | skip
      refine At.region rfl rfl ?_
      refine Reg.pur rfl rfl rfl rfl (Pur.asg rfl) ?_
      refine Reg.nil ?_
      refine At.ret rfl Tryd.func45 rfl ?_
      exact ⟨congrArg Value.bool (decide_eq_false fun e => by subst e; exact q25 rfl).symm, rfl⟩
    first | (simp only [decide_eq_true_eq, decide_eq_false_iff_not, Bool.not_eq_true', Bool.not_eq_false', ne_eq, Decidable.not_not, Bool.not_eq_true, Bool.not_eq_false] at q25) | (dsimp only at q25) | skip
    refine At.region rfl rfl ?_
    refine Reg.pur rfl rfl rfl rfl (Pur.mv rfl) ?_
    first | refine Reg.pur rfl rfl rfl rfl (Pur.add64 rfl rfl (by omega)) ?_ | refine Reg.pur rfl rfl rfl rfl (Pur.add64 rfl rfl (by assumption)) ?_ | refine Reg.pur rfl rfl rfl rfl (Pur.add rfl rfl) ?_
    refine Reg.pur rfl rfl rfl rfl (Pur.asg rfl) ?_
    refine Reg.nil ?_
    exact At.via (ih (i + 1) _ ⟨by omega, rfl, by rw [List.take_succ_eq_append_getElem hlt, List.take_succ_eq_append_getElem hlt', hgo, q25]⟩ (by omega)) ⟨rfl, rfl, rfl, trivial⟩
  first | (simp only [decide_eq_true_eq, decide_eq_false_iff_not, Bool.not_eq_true', Bool.not_eq_false', ne_eq, Decidable.not_not, Bool.not_eq_true, Bool.not_eq_false] at q14) | (dsimp only at q14) | skip
  refine At.region rfl rfl ?_
  refine Reg.pur rfl rfl rfl rfl (Pur.asg rfl) ?_
  refine Reg.nil ?_
  refine At.ret rfl Tryd.func45 rfl ?_
  rw [List.take_of_length_le (by omega), List.take_of_length_le (by omega)] at hgo
  exact ⟨congrArg Value.bool (decide_eq_true hgo).symm, rfl⟩

theorem spoilI_ok {A : Option Addr} {cap B : Nat} (l : List Int) {H : Heap} (hg : Gw H B 1 A cap l.length (l.flatMap e1)) (hm : l.length ≤ 9223372036854775807) :
    Ret Tryd.prog 49 [.slice A l.length cap] H (fun v H' => But (fun g => l.length ≠ 0 ∧ (g : Int) = ob A) H H') := by
  refine Ret.of_at (N := 17) Tryd.call49 Tryd.func49 rfl rfl rfl ?_
  have hE := Ext.refl H
  refine At.region rfl rfl ?_
  refine Reg.pur rfl rfl rfl rfl (Pur.asg rfl) ?_
  refine Reg.nil ?_
  obtain ⟨g, c0, hI⟩ : ∃ g c0, l.length = 0 ∨ (A = some ⟨g, 0, none⟩ ∧ Own H g c0 ∧ c0.take l.length = Is l) := by { obtain ⟨_, _, _, _, h | ⟨g, c, h1, h2, h3, h4⟩⟩ := hg; exact ⟨0, [], .inl h⟩; exact ⟨g, c, .inr ⟨h1, h3, by rw [Nat.mul_one, flat_e1] at h4; exact h4⟩⟩ }
  refine At.loop (σ := Nat × List Int × List Value) (fun (i, M, c) => [(2, I i), (0, .slice A l.length cap)]) (fun (i, M, c) H' => i ≤ l.length ∧ M.length = l.length ∧ But (fun g => l.length ≠ 0 ∧ (g : Int) = ob A) H H' ∧ (l.length = 0 ∨ (A = some ⟨g, 0, none⟩ ∧ Own H' g c ∧ c.take l.length = Is M))) (fun s => l.length - s.1) (0, l, c0) rfl ⟨rfl, rfl, trivial⟩ ⟨by omega, rfl, But.refl _ _, hI⟩ ?_
  clear hI hg
  rintro ⟨i, M, c⟩ H3 ⟨hi, hMl, hbt, hI⟩ ih
  dsimp only at hi hMl hI ⊢

  refine At.region rfl rfl ?_
  refine Reg.pur rfl rfl rfl rfl (Pur.mv rfl) ?_
  refine Reg.pur rfl rfl rfl rfl (Pur.mv rfl) ?_
  refine Reg.pur rfl rfl rfl rfl (Pur.lenS isl50 rfl) ?_
  refine Reg.pur rfl rfl rfl rfl (Pur.lss rfl rfl) ?_
  refine Reg.nil ?_
  refine At.cond rfl rfl (fun q6 => ?_) (fun q6 => ?_)
  · first | (simp only [decide_eq_true_eq, decide_eq_false_iff_not, Bool.not_eq_true', Bool.not_eq_false', ne_eq, Decidable.not_not, Bool.not_eq_true, Bool.not_eq_false] at q6) | (dsimp only at q6) | skip
    obtain ⟨rfl, ho, hc⟩ := hI.resolve_left (by omega)
    have z_ho := ho.lt
    have hrd := rd1 hc (i := i) (by omega)
    have hcl := tk_len hc hMl
    refine At.region rfl rfl ?_
    refine Reg.pur rfl rfl rfl rfl (Pur.mv rfl) ?_
    refine Reg.pur rfl rfl rfl rfl (Pur.mv rfl) ?_
    refine Reg.pur rfl rfl rfl rfl (Pur.mv rfl) ?_
    refine Reg.pur rfl rfl rfl rfl (Pur.mv rfl) ?_
    refine Reg.pur rfl rfl rfl rfl (Pur.idx _ es50 rfl rfl (by omega) (by omega)) ?_
    refine Reg.lod rfl rfl rfl rfl (Lod.ld sc3 rfl ho.blk hrd) ?_
    first | refine Reg.pur rfl rfl rfl rfl (Pur.sub64 rfl rfl (by omega)) ?_ | refine Reg.pur rfl rfl rfl rfl (Pur.sub64 rfl rfl (by assumption)) ?_ | refine Reg.pur rfl rfl rfl rfl (Pur.sub rfl rfl) ?_
    refine Reg.pur rfl rfl rfl rfl (Pur.idx _ es50 rfl rfl (by omega) (by omega)) ?_
    refine Reg.op0 rfl rfl rfl (Does.st sc3 rfl rfl rfl ho (by first | decide | (simp; done) | (simp; omega) | omega)) ?_
    rintro _ H3_8 hu3_8
    have z3_8 := hu3_8.size
    replace ho := hu3_8.own
    refine Reg.nil ?_
    refine At.region rfl rfl ?_
    refine Reg.pur rfl rfl rfl rfl (Pur.mv rfl) ?_
    first | refine Reg.pur rfl rfl rfl rfl (Pur.add64 rfl rfl (by omega)) ?_ | refine Reg.pur rfl rfl rfl rfl (Pur.add64 rfl rfl (by assumption)) ?_ | refine Reg.pur rfl rfl rfl rfl (Pur.add rfl rfl) ?_
    refine Reg.pur rfl rfl rfl rfl (Pur.asg rfl) ?_
    refine Reg.nil ?_
    exact At.via (ih (i + 1, M.set i _, _) _ ⟨by omega, by simp [hMl], hbt.trans (hu3_8.but.mono (fun b hb e => ⟨by omega, by subst e; rw [ob_some]⟩)), .inr ⟨rfl, ho, wr1 hc _⟩⟩ (by simp only; omega)) ⟨rfl, rfl, trivial⟩
  first | (simp only [decide_eq_true_eq, decide_eq_false_iff_not, Bool.not_eq_true', Bool.not_eq_false', ne_eq, Decidable.not_not, Bool.not_eq_true, Bool.not_eq_false] at q6) | (dsimp only at q6) | skip
  refine At.fall rfl Tryd.func49 rfl ?_
  exact hbt
end Go.Proofs.YtlfillhffpiffaaDoor

namespace Go.Proofs.YtlfillhffpiffaaDoor
set_option linter.unusedSimpArgs false
set_option linter.unusedVariables false
set_option maxRecDepth 8000
open Go Go.Fx Go.Proofs
namespace FactsSchL

end FactsSchL
open FactsSchL

structure Td where
  A : Option Addr
  cap : Nat
  nodes : List (List Int)
abbrev encT (t : Td) : List Value := [.slice t.A t.nodes.length t.cap]
structure Td.Ok (H : Heap) (t : Td) : Prop where
  sl : SlT H Is 9 (.slice t.A t.nodes.length t.cap) t.nodes
  nine : Nine t.nodes
  fits : t.nodes.length * 72 ≤ 140737488351232
structure Tds (H : Heap) (v : Value) (L : List Td) : Prop where
  sl : SlT H encT 1 v L
  ok : ∀ t ∈ L, t.Ok H
  fits : L.length ≤ 9223372036854775807
abbrev Five (L : List (List Int)) : Prop := ∀ x ∈ L, x.length = 5
end Go.Proofs.YtlfillhffpiffaaDoor

namespace Go.Proofs.YtlfillhffpiffaaDoor
set_option linter.unusedSimpArgs false
set_option linter.unusedVariables false
set_option maxRecDepth 8000
open Go Go.Fx Go.Proofs
namespace FactsSubO

end FactsSubO
open FactsSubO

theorem numE_ok (n : Int) (H : Heap) : Ret Tryd.prog 25 [I n] H (fun v H' => v = I n ∧ H' = H) := by
  refine Ret.of_at (N := 4) Tryd.call25 Tryd.func25 rfl rfl rfl ?_
  refine At.region rfl rfl ?_
  refine Reg.pur rfl rfl rfl rfl (Pur.asg rfl) ?_
  refine Reg.nil ?_
  refine At.region rfl rfl ?_
  refine Reg.pur rfl rfl rfl rfl (Pur.mv rfl) ?_
  refine Reg.pur rfl rfl rfl rfl (Pur.asg rfl) ?_
  refine Reg.nil ?_
  refine At.ret rfl Tryd.func25 rfl ?_
  exact ⟨rfl, rfl⟩
end Go.Proofs.YtlfillhffpiffaaDoor

namespace Go.Proofs.YtlfillhffpiffaaDoor
set_option linter.unusedSimpArgs false
set_option linter.unusedVariables false
set_option maxRecDepth 8000
open Go Go.Fx Go.Proofs
namespace FactsSubP

end FactsSubP
open FactsSubP

theorem nine_lit {L : List (List Int)} (h : (L.all fun x => x.length == 9) = true) : Nine L := by
  intro x hx
  have := List.all_eq_true.1 h x hx
  simpa using this
end Go.Proofs.YtlfillhffpiffaaDoor

namespace Go.Proofs.YtlfillhffpiffaaDoor
set_option linter.unusedSimpArgs false
set_option linter.unusedVariables false
set_option maxRecDepth 8000
set_option maxHeartbeats 2000000
open Go Go.Fx Go.Proofs
namespace FactsSchR

end FactsSchR
open FactsSchR

theorem sl_own {α : Type} {enc : α → List Value} {n b : Nat} {L : List α} {H : Heap} (hL : Wide enc n L) (hn : 0 < n) (h : Own H b (L.flatMap enc)) (hl : L.length ≤ 1000) : SlT H enc n (.slice (some ⟨b, 0, none⟩) L.length L.length) L :=
  sl_of hL hn h.blk (by rw [List.drop_zero, List.take_of_length_le (by rw [flat_len hL]; exact Nat.le_refl _)]) (Nat.le_refl _) (by omega)
end Go.Proofs.YtlfillhffpiffaaDoor

namespace Go.Proofs.YtlfillhffpiffaaDoor
set_option linter.unusedSimpArgs false
set_option linter.unusedVariables false
set_option maxRecDepth 8000
open Go Go.Fx Go.Proofs
namespace FactsSubQ

end FactsSubQ
open FactsSubQ

theorem type_of_fits {H : Heap} {v : Value} (h : fitc H (.sl 72 (List.replicate 9 (.int .i64))) v) : ∃ (A : Option Addr) (cap : Nat) (L : List (List Int)), v = .slice A L.length cap ∧ Nine L ∧ SlT H Is 9 (.slice A L.length cap) L ∧ L.length * 72 ≤ 140737488351232 := by
  obtain ⟨L, hL, hS, hb⟩ := SlT.of_fits (p := fun x : List Int => x.length = 9) (enc := Is) h (fun cs h => by obtain ⟨xs, rfl, hl, _⟩ := fit_ints h; exact ⟨xs, hl, rfl⟩)
  have hS' := hS
  obtain ⟨A, cap, rfl, _⟩ := hS'
  exact ⟨A, cap, L, rfl, hL, hS, by rw [show reachBytes = 140737488351232 from rfl] at hb; omega⟩
theorem bd_of_fits {H : Heap} {cs : List Value} (h : fits H (.int .i64 :: .bool :: .sl 72 (List.replicate 9 (.int .i64)) :: List.replicate 5 (.int .i64)) cs) : ∃ b : Bd, b.Ok H ∧ cs = encB b := by
  simp only [fits] at h
  obtain ⟨v1, r1, rfl, h1, v2, r2, rfl, h2, v3, r3, rfl, h3, h4⟩ := h
  simp only [fitc] at h1 h2
  obtain ⟨n, rfl, _⟩ := h1
  obtain ⟨b, rfl⟩ := h2
  obtain ⟨A, cap, L, rfl, hL, hS, hb⟩ := type_of_fits h3
  obtain ⟨xs, rfl, hl, _⟩ := fit_ints h4
  exact ⟨⟨n, b, A, cap, L, xs⟩, ⟨hS, hL, hl, hb⟩, rfl⟩
theorem binds_of_fits {H : Heap} {v : Value} (h : fitc H (.sl 80 (.int .i64 :: .bool :: .sl 72 (List.replicate 9 (.int .i64)) :: List.replicate 5 (.int .i64))) v) : ∃ (A : Option Addr) (cap : Nat) (Bs : List Bd), v = .slice A Bs.length cap ∧ Bds H (.slice A Bs.length cap) Bs := by
  obtain ⟨L, hL, hS, hb⟩ := SlT.of_fits (p := fun b : Bd => b.Ok H) (enc := encB) h (fun cs h => bd_of_fits h)
  have hS' := hS
  obtain ⟨A, cap, rfl, _⟩ := hS'
  exact ⟨A, cap, L, rfl, ⟨hS, hL, by rw [show reachBytes = 140737488351232 from rfl] at hb; omega⟩⟩

end Go.Proofs.YtlfillhffpiffaaDoor

namespace Go.Proofs.YtlfillhffpiffaaDoor
set_option linter.unusedSimpArgs false
set_option linter.unusedVariables false
set_option maxRecDepth 8000
set_option maxHeartbeats 1000000
open Go Go.Fx Go.Proofs
namespace FactsSchS
theorem ag24 : ag Tryd.prog 24 = some 5 := by kernel_rfl
theorem ag55 : ag Tryd.prog 55 = some 1 := by kernel_rfl
theorem ag65 : ag Tryd.prog 65 = some 9 := by kernel_rfl
theorem apt53 : appT Tryd.prog 53 = some (65, 9, 72) := by kernel_rfl
theorem es53 : esz Tryd.prog 53 = some 9 := by kernel_rfl
theorem fo55_0 : foff Tryd.prog 55 0 = some 0 := by kernel_rfl
theorem fo65_0 : foff Tryd.prog 65 0 = some 0 := by kernel_rfl
theorem fo65_2 : foff Tryd.prog 65 2 = some 2 := by kernel_rfl
theorem fo65_3 : foff Tryd.prog 65 3 = some 3 := by kernel_rfl
theorem isl53 : isSl Tryd.prog 53 = true := by kernel_rfl
theorem pl55 : places Tryd.prog 55 = some [(0, 1)] := by kernel_rfl
theorem pl65 : places Tryd.prog 65 = some [(0, 1), (1, 1), (2, 1), (3, 1), (4, 5)] := by kernel_rfl
theorem sc3 : sc Tryd.prog 3 = true := by kernel_rfl
theorem sc53 : sc Tryd.prog 53 = true := by kernel_rfl
theorem slA53 : slA Tryd.prog 53 = some (65, 9) := by kernel_rfl
theorem zc55 : zc Tryd.prog 55 = some [.slice none 0 0] := by kernel_rfl
theorem zc65 : zc Tryd.prog 65 = some [.int .i64 0, .int .i64 0, .int .i64 0, .int .i64 0, .int .i64 0, .int .i64 0, .int .i64 0, .int .i64 0, .int .i64 0] := by kernel_rfl
end FactsSchS
open FactsSchS

def arrN (a b : Int) (r : List Int) : List Int := [3, 0, a - 1, a + b - 1] ++ r
def arr2 (La : List (List Int)) (r : List Int) (Lb : List (List Int)) : List (List Int) := La ++ Lb.map (movS La.length) ++ [arrN La.length Lb.length r]
theorem arrow_ok {A B : Option Addr} {ca cb : Nat} {La Lb : List (List Int)} {r : List Int} (ha : Nine La) (hb : Nine Lb) (hr : r.length = 5) {H : Heap} (hS : SlT H Is 9 (.slice A La.length ca) La) (hT : SlT H Is 9 (.slice B Lb.length cb) Lb) (hla : La.length ≤ 100000) (hlb : Lb.length ≤ 100000) :
    Ret Tryd.prog 67 [Ty A La.length ca, .agg (Is r).toArray, Ty B Lb.length cb] H (fun v H' => (∃ A' cap', v = Ty A' (arr2 La r Lb).length cap' ∧ Gs H' H.size 65 9 A' cap' (arr2 La r Lb).length ((arr2 La r Lb).flatMap Is)) ∧ Ext H H') := by
  obtain ⟨ra, rb, rc, rd, re, rfl⟩ : ∃ a b c d e, r = [a, b, c, d, e] := by match r, hr with | [a, b, c, d, e], _ => exact ⟨_, _, _, _, _, rfl⟩
  refine Ret.of_at (N := 62) Tryd.call67 Tryd.func67 rfl rfl rfl ?_
  have hE := Ext.refl H
  refine At.region rfl rfl ?_
  refine Reg.op rfl rfl rfl rfl (Does.box rfl rfl) ?_
  rintro _ H0_0 ⟨rfl, hn0_0⟩
  have z0_0 := hn0_0.size
  replace hE := hE.ext hn0_0.ext
  have o0_0 := hn0_0.own
  refine Reg.op rfl rfl rfl rfl (Does.box rfl rfl) ?_
  rintro _ H0_1 ⟨rfl, hn0_1⟩
  have z0_1 := hn0_1.size
  replace hE := hE.ext hn0_1.ext
  replace o0_0 := o0_0.ext hn0_1.ext
  have o0_1 := hn0_1.own
  refine Reg.op rfl rfl rfl rfl (Does.box rfl rfl) ?_
  rintro _ H0_2 ⟨rfl, hn0_2⟩
  have z0_2 := hn0_2.size
  replace hE := hE.ext hn0_2.ext
  replace o0_0 := o0_0.ext hn0_2.ext
  replace o0_1 := o0_1.ext hn0_2.ext
  have o0_2 := hn0_2.own
  refine Reg.op rfl rfl rfl rfl (Does.alloc zc55) ?_
  rintro _ H0_3 ⟨rfl, hn0_3⟩
  have z0_3 := hn0_3.size
  replace hE := hE.ext hn0_3.ext
  replace o0_0 := o0_0.ext hn0_3.ext
  replace o0_1 := o0_1.ext hn0_3.ext
  replace o0_2 := o0_2.ext hn0_3.ext
  have o0_3 := hn0_3.own
  refine Reg.nil ?_
  refine At.region rfl rfl ?_
  refine Reg.pur rfl rfl rfl rfl (Pur.fld _ fo55_0 rfl) ?_
  refine Reg.lod rfl rfl rfl rfl (Lod.ld sc53 rfl o0_0.blk (by first | rfl | (simp; done))) ?_
  refine Reg.pur rfl rfl rfl rfl (Pur.lenS isl53 rfl) ?_
  refine Reg.pur rfl rfl rfl rfl (Pur.asg rfl) ?_
  refine Reg.nil ?_
  refine At.region rfl rfl ?_
  refine Reg.op rfl rfl rfl rfl (Does.bslA ([]) slA53 rfl rfl rfl rfl rfl rfl) ?_
  rintro _ H2_0 ⟨rfl, hp2_0⟩
  have hn2_0 := New.of_eq hp2_0
  have z2_0 := hn2_0.size
  replace hE := hE.ext hn2_0.ext
  replace o0_0 := o0_0.ext hn2_0.ext
  replace o0_1 := o0_1.ext hn2_0.ext
  replace o0_2 := o0_2.ext hn2_0.ext
  replace o0_3 := o0_3.ext hn2_0.ext
  have o2_0 := hn2_0.own
  have hg : Gs H2_0 H0_3.size 65 9 (some ⟨H0_3.size, 0, none⟩) 0 ([] : List (List Int)).length (([] : List (List Int)).flatMap Is) := by rw [hp2_0]; exact OwnS.new (xs := []) (n := 0) rfl (by decide) (Nat.le_refl _)
  refine Reg.pur rfl rfl rfl rfl (Pur.fld _ fo55_0 rfl) ?_
  refine Reg.lod rfl rfl rfl rfl (Lod.ld sc53 rfl o0_0.blk (by first | rfl | (simp; done))) ?_

  have z_hg := hg.lt
  refine Reg.op rfl rfl rfl rfl (Does.appL apt53 rfl rfl (by decide) hg (wide9 ha) (hS.ext hE) (ones_flat La) (by simp; omega) (by omega)) ?_
  rintro _ H2_3 ⟨A2_3, cap2_3, rfl, g2_3, hbut2_3, ha2_3⟩
  have z2_3 := hbut2_3.lt
  replace hE := hE.via hbut2_3 (by first | omega | (intro g; omega) | (intro g hg; omega) | (intro g hg h; omega))
  replace o0_0 := o0_0.via hbut2_3 (by first | omega | (intro g; omega) | (intro g hg; omega) | (intro g hg h; omega))
  replace o0_1 := o0_1.via hbut2_3 (by first | omega | (intro g; omega) | (intro g hg; omega) | (intro g hg h; omega))
  replace o0_2 := o0_2.via hbut2_3 (by first | omega | (intro g; omega) | (intro g hg; omega) | (intro g hg h; omega))
  replace o0_3 := o0_3.via hbut2_3 (by first | omega | (intro g; omega) | (intro g hg; omega) | (intro g hg h; omega))
  replace hg := g2_3
  have zg2_3 := g2_3.lt
  refine Reg.pur rfl rfl rfl rfl (Pur.asg rfl) ?_
  refine Reg.nil ?_
  refine At.region rfl rfl ?_
  refine Reg.pur rfl rfl rfl rfl (Pur.asg rfl) ?_
  refine Reg.nil ?_
  refine At.loop (σ := Nat × List (List Int) × Option Addr × Nat) (fun (j, out', A', cap') => [(9, I j), (8, .slice A' out'.length cap'), (7, I La.length), (4, ptr H0_0.size 0), (5, ptr H0_1.size 0), (6, ptr H0_2.size 0)]) (fun (j, out', A', cap') H' => j ≤ Lb.length ∧ out' = La ++ (Lb.take j).map (movS La.length) ∧ Gs H' H0_3.size 65 9 A' cap' out'.length (out'.flatMap Is) ∧ Own H' H0_0.size (Is [ra, rb, rc, rd, re]) ∧ Own H' H0_1.size [.slice B Lb.length cb] ∧ Own H' H0_2.size [.slice none 0 0] ∧ Ext H H') (fun s => Lb.length - s.1) (0, [] ++ La, A2_3, cap2_3) rfl ⟨rfl, rfl, rfl, rfl, rfl, rfl, trivial⟩ ⟨by omega, by simp, hg, o0_1, o0_2, o0_3, hE⟩ ?_
  clear hg o0_0 o0_1 o0_2 o0_3 hE
  rintro ⟨j, out', A', cap'⟩ H8 ⟨hj, hout', hg, o0_1, o0_2, o0_3, hE⟩ ihj
  dsimp only at hj hout' hg ⊢
  have z_hE := hE.lt
  have z_hg := hg.lt
  have z_o0_1 := o0_1.lt
  have z_o0_2 := o0_2.lt
  have z_o0_3 := o0_3.lt
  have hol : out'.length = La.length + j := by rw [hout', List.length_append, List.length_map, List.length_take]; omega
  refine At.region rfl rfl ?_
  refine Reg.pur rfl rfl rfl rfl (Pur.mv rfl) ?_
  refine Reg.pur rfl rfl rfl rfl (Pur.fld _ fo55_0 rfl) ?_
  refine Reg.lod rfl rfl rfl rfl (Lod.ld sc53 rfl o0_2.blk (by first | rfl | (simp; done))) ?_
  refine Reg.pur rfl rfl rfl rfl (Pur.lenS isl53 rfl) ?_
  refine Reg.pur rfl rfl rfl rfl (Pur.lss rfl rfl) ?_
  refine Reg.nil ?_
  refine At.cond rfl rfl (fun q22 => ?_) (fun q22 => ?_)
  · first | (simp only [decide_eq_true_eq, decide_eq_false_iff_not, Bool.not_eq_true', Bool.not_eq_false', ne_eq, Decidable.not_not, Bool.not_eq_true, Bool.not_eq_false] at q22) | (dsimp only at q22) | skip
    have hlj : j < Lb.length := by omega
    obtain ⟨b', o', c', rfl, hB', hd', h9j⟩ := sl_at (wide9 hb) (hT.ext hE) hlj
    have h9j' := hb _ (List.getElem_mem hlj)
    have hnx := map1_mov (k := La.length) hlj
    generalize Lb[j] = y at hnx hd' h9j h9j'
    obtain ⟨k', v', p', q', d0, d1, d2, d3, t', rfl⟩ : ∃ k v p q c0 c1 c2 c3 t, y = [k, v, p, q, c0, c1, c2, c3, t] := by match y, h9j' with | [k, v, p, q, c0, c1, c2, c3, t], _ => exact ⟨_, _, _, _, _, _, _, _, _, rfl⟩
    refine At.region rfl rfl ?_
    refine Reg.pur rfl rfl rfl rfl (Pur.fld _ fo55_0 rfl) ?_
    refine Reg.lod rfl rfl rfl rfl (Lod.ld sc53 rfl o0_2.blk (by first | rfl | (simp; done))) ?_
    refine Reg.pur rfl rfl rfl rfl (Pur.mv rfl) ?_
    refine Reg.pur rfl rfl rfl rfl (Pur.idx _ es53 rfl rfl (by omega) (by omega)) ?_
    refine Reg.lod rfl rfl rfl rfl (Lod.ldn ag65 rfl hB' hd' h9j) ?_
    refine Reg.op rfl rfl rfl rfl (Does.alloc zc65) ?_
    rintro _ H6_5 ⟨rfl, hn6_5⟩
    have z6_5 := hn6_5.size
    replace hE := hE.ext hn6_5.ext
    replace hg := hg.ext hn6_5.ext
    replace o0_1 := o0_1.ext hn6_5.ext
    replace o0_2 := o0_2.ext hn6_5.ext
    replace o0_3 := o0_3.ext hn6_5.ext
    have o6_5 := hn6_5.own
    refine Reg.op0 rfl rfl rfl (Does.stn ag65 rfl rfl (by first | rfl | exact ones_Is _) (by first | rfl | (simp [*]; done)) o6_5 (by first | decide | (simp; done) | (simp; omega) | omega)) ?_
    rintro _ H6_6 hu6_6
    have z6_6 := hu6_6.size
    replace hE := hE.upw hu6_6 (by omega)
    replace hg := hg.upw hu6_6 (by omega)
    replace o0_1 := o0_1.upw hu6_6 (by omega)
    replace o0_2 := o0_2.upw hu6_6 (by omega)
    replace o0_3 := o0_3.upw hu6_6 (by omega)
    replace o6_5 := hu6_6.own
    first | rw [over (by first | rfl | (simp; done))] at o6_5 | skip
    refine Reg.nil ?_
    refine At.region rfl rfl ?_
    refine Reg.pur rfl rfl rfl rfl (Pur.fld _ fo65_0 rfl) ?_
    refine Reg.lod rfl rfl rfl rfl (Lod.ld sc3 rfl o6_5.blk (by first | rfl | (simp; done))) ?_
    refine Reg.pur rfl rfl rfl rfl (Pur.eql rfl rfl) ?_
    refine Reg.nil ?_
    refine At.cond rfl rfl (fun q32 => ?_) (fun q32 => ?_)
    · first | (simp only [decide_eq_true_eq, decide_eq_false_iff_not, Bool.not_eq_true', Bool.not_eq_false', ne_eq, Decidable.not_not, Bool.not_eq_true, Bool.not_eq_false] at q32) | (dsimp only at q32) | skip
      refine At.region rfl rfl ?_
      refine Reg.pur rfl rfl rfl rfl (Pur.fld _ fo65_2 rfl) ?_
      refine Reg.lod rfl rfl rfl rfl (Lod.ld sc3 rfl o6_5.blk (by first | rfl | (simp; done))) ?_
      refine Reg.pur rfl rfl rfl rfl (Pur.mv rfl) ?_
      first | refine Reg.pur rfl rfl rfl rfl (Pur.add64 rfl rfl (by omega)) ?_ | refine Reg.pur rfl rfl rfl rfl (Pur.add64 rfl rfl (by assumption)) ?_ | refine Reg.pur rfl rfl rfl rfl (Pur.add rfl rfl) ?_
      refine Reg.pur rfl rfl rfl rfl (Pur.fld _ fo65_2 rfl) ?_
      refine Reg.op0 rfl rfl rfl (Does.st sc3 rfl rfl rfl o6_5 (by first | decide | (simp; done) | (simp; omega) | omega)) ?_
      rintro _ H8_5 hu8_5
      have z8_5 := hu8_5.size
      replace hE := hE.upw hu8_5 (by omega)
      replace hg := hg.upw hu8_5 (by omega)
      replace o0_1 := o0_1.upw hu8_5 (by omega)
      replace o0_2 := o0_2.upw hu8_5 (by omega)
      replace o0_3 := o0_3.upw hu8_5 (by omega)
      replace o6_5 := hu8_5.own
      refine Reg.nil ?_
      refine At.region rfl rfl ?_
      refine Reg.pur rfl rfl rfl rfl (Pur.fld _ fo65_3 rfl) ?_
      refine Reg.lod rfl rfl rfl rfl (Lod.ld sc3 rfl o6_5.blk (by first | rfl | (simp; done))) ?_
      refine Reg.pur rfl rfl rfl rfl (Pur.mv rfl) ?_
      first | refine Reg.pur rfl rfl rfl rfl (Pur.add64 rfl rfl (by omega)) ?_ | refine Reg.pur rfl rfl rfl rfl (Pur.add64 rfl rfl (by assumption)) ?_ | refine Reg.pur rfl rfl rfl rfl (Pur.add rfl rfl) ?_
      refine Reg.pur rfl rfl rfl rfl (Pur.fld _ fo65_3 rfl) ?_
      refine Reg.op0 rfl rfl rfl (Does.st sc3 rfl rfl rfl o6_5 (by first | decide | (simp; done) | (simp; omega) | omega)) ?_
      rintro _ H9_5 hu9_5
      have z9_5 := hu9_5.size
      replace hE := hE.upw hu9_5 (by omega)
      replace hg := hg.upw hu9_5 (by omega)
      replace o0_1 := o0_1.upw hu9_5 (by omega)
      replace o0_2 := o0_2.upw hu9_5 (by omega)
      replace o0_3 := o0_3.upw hu9_5 (by omega)
      replace o6_5 := hu9_5.own
      refine Reg.nil ?_
      have hy : Own H9_5 H8.size (Is (movS La.length [k', v', p', q', d0, d1, d2, d3, t'])) := by first | exact o6_5 | (rw [movS_not3 (x := [k', v', p', q', d0, d1, d2, d3, t']) q32]; exact o6_5) | (rw [show movS La.length [k', v', p', q', d0, d1, d2, d3, t'] = [k', v', IntKind.i64.wrap (p' + La.length), IntKind.i64.wrap (q' + La.length), d0, d1, d2, d3, t'] by subst q32; rfl]; exact o6_5)
      have hyl : (movS La.length [k', v', p', q', d0, d1, d2, d3, t']).length = 9 := movS_len _ _
      have hyl' : (Is (movS La.length [k', v', p', q', d0, d1, d2, d3, t'])).length = 9 := by simp [hyl]
      generalize hyy : movS La.length [k', v', p', q', d0, d1, d2, d3, t'] = y' at hy hyl hyl' hnx
      refine At.region rfl rfl ?_
      refine Reg.pur rfl rfl rfl rfl (Pur.mv rfl) ?_
      refine Reg.lod rfl rfl rfl rfl (Lod.ldn ag65 rfl hy.blk (whole hyl') hyl') ?_
      refine Reg.op rfl rfl rfl rfl (Does.bslA ([Is y']) slA53 rfl rfl rfl (by simp [hyl]) rfl rfl) ?_
      rintro _ H10_2 ⟨rfl, hp10_2⟩
      have hn10_2 := New.of_eq hp10_2
      have z10_2 := hn10_2.size
      replace hE := hE.ext hn10_2.ext
      replace hg := hg.ext hn10_2.ext
      replace o0_1 := o0_1.ext hn10_2.ext
      replace o0_2 := o0_2.ext hn10_2.ext
      replace o0_3 := o0_3.ext hn10_2.ext
      replace o6_5 := o6_5.ext hn10_2.ext
      have o10_2 := hn10_2.own
      refine Reg.op rfl rfl rfl rfl (Does.appL apt53 rfl rfl (by decide) hg (wide9 (nine1 hyl)) (sl_one (x := y') hyl' (by decide) hn10_2) (ones_flat _) (by simp; omega) (by omega)) ?_
      rintro _ H10_3 ⟨A10_3, cap10_3, rfl, g10_3, hbut10_3, ha10_3⟩
      have z10_3 := hbut10_3.lt
      replace hE := hE.via hbut10_3 (by first | omega | (intro g; omega) | (intro g hg; omega) | (intro g hg h; omega))
      replace o0_1 := o0_1.via hbut10_3 (by first | omega | (intro g; omega) | (intro g hg; omega) | (intro g hg h; omega))
      replace o0_2 := o0_2.via hbut10_3 (by first | omega | (intro g; omega) | (intro g hg; omega) | (intro g hg h; omega))
      replace o0_3 := o0_3.via hbut10_3 (by first | omega | (intro g; omega) | (intro g hg; omega) | (intro g hg h; omega))
      replace o6_5 := o6_5.via hbut10_3 (by first | omega | (intro g; omega) | (intro g hg; omega) | (intro g hg h; omega))
      replace o10_2 := o10_2.via hbut10_3 (by first | omega | (intro g; omega) | (intro g hg; omega) | (intro g hg h; omega))
      replace hg := g10_3
      have zg10_3 := g10_3.lt
      refine Reg.pur rfl rfl rfl rfl (Pur.asg rfl) ?_
      refine Reg.nil ?_
      refine At.region rfl rfl ?_
      refine Reg.pur rfl rfl rfl rfl (Pur.mv rfl) ?_
      first | refine Reg.pur rfl rfl rfl rfl (Pur.add64 rfl rfl (by omega)) ?_ | refine Reg.pur rfl rfl rfl rfl (Pur.add64 rfl rfl (by assumption)) ?_ | refine Reg.pur rfl rfl rfl rfl (Pur.add rfl rfl) ?_
      refine Reg.pur rfl rfl rfl rfl (Pur.asg rfl) ?_
      refine Reg.nil ?_
      exact At.via (ihj (j + 1, out' ++ [y'], A10_3, cap10_3) _ ⟨by omega, by rw [hnx, hout', List.append_assoc], hg, o0_1, o0_2, o0_3, hE⟩ (by simp only; omega)) ⟨rfl, rfl, rfl, rfl, rfl, rfl, trivial⟩
    first | (simp only [decide_eq_true_eq, decide_eq_false_iff_not, Bool.not_eq_true', Bool.not_eq_false', ne_eq, Decidable.not_not, Bool.not_eq_true, Bool.not_eq_false] at q32) | (dsimp only at q32) | skip
    have hy : Own H6_6 H8.size (Is (movS La.length [k', v', p', q', d0, d1, d2, d3, t'])) := by first | exact o6_5 | (rw [movS_not3 (x := [k', v', p', q', d0, d1, d2, d3, t']) q32]; exact o6_5) | (rw [show movS La.length [k', v', p', q', d0, d1, d2, d3, t'] = [k', v', IntKind.i64.wrap (p' + La.length), IntKind.i64.wrap (q' + La.length), d0, d1, d2, d3, t'] by subst q32; rfl]; exact o6_5)
    have hyl : (movS La.length [k', v', p', q', d0, d1, d2, d3, t']).length = 9 := movS_len _ _
    have hyl' : (Is (movS La.length [k', v', p', q', d0, d1, d2, d3, t'])).length = 9 := by simp [hyl]
    generalize hyy : movS La.length [k', v', p', q', d0, d1, d2, d3, t'] = y' at hy hyl hyl' hnx
    refine At.region rfl rfl ?_
    refine Reg.pur rfl rfl rfl rfl (Pur.mv rfl) ?_
    refine Reg.lod rfl rfl rfl rfl (Lod.ldn ag65 rfl hy.blk (whole hyl') hyl') ?_
    refine Reg.op rfl rfl rfl rfl (Does.bslA ([Is y']) slA53 rfl rfl rfl (by simp [hyl]) rfl rfl) ?_
    rintro _ H10_2 ⟨rfl, hp10_2⟩
    have hn10_2 := New.of_eq hp10_2
    have z10_2 := hn10_2.size
    replace hE := hE.ext hn10_2.ext
    replace hg := hg.ext hn10_2.ext
    replace o0_1 := o0_1.ext hn10_2.ext
    replace o0_2 := o0_2.ext hn10_2.ext
    replace o0_3 := o0_3.ext hn10_2.ext
    replace o6_5 := o6_5.ext hn10_2.ext
    have o10_2 := hn10_2.own
    refine Reg.op rfl rfl rfl rfl (Does.appL apt53 rfl rfl (by decide) hg (wide9 (nine1 hyl)) (sl_one (x := y') hyl' (by decide) hn10_2) (ones_flat _) (by simp; omega) (by omega)) ?_
    rintro _ H10_3 ⟨A10_3, cap10_3, rfl, g10_3, hbut10_3, ha10_3⟩
    have z10_3 := hbut10_3.lt
    replace hE := hE.via hbut10_3 (by first | omega | (intro g; omega) | (intro g hg; omega) | (intro g hg h; omega))
    replace o0_1 := o0_1.via hbut10_3 (by first | omega | (intro g; omega) | (intro g hg; omega) | (intro g hg h; omega))
    replace o0_2 := o0_2.via hbut10_3 (by first | omega | (intro g; omega) | (intro g hg; omega) | (intro g hg h; omega))
    replace o0_3 := o0_3.via hbut10_3 (by first | omega | (intro g; omega) | (intro g hg; omega) | (intro g hg h; omega))
    replace o6_5 := o6_5.via hbut10_3 (by first | omega | (intro g; omega) | (intro g hg; omega) | (intro g hg h; omega))
    replace o10_2 := o10_2.via hbut10_3 (by first | omega | (intro g; omega) | (intro g hg; omega) | (intro g hg h; omega))
    replace hg := g10_3
    have zg10_3 := g10_3.lt
    refine Reg.pur rfl rfl rfl rfl (Pur.asg rfl) ?_
    refine Reg.nil ?_
    refine At.region rfl rfl ?_
    refine Reg.pur rfl rfl rfl rfl (Pur.mv rfl) ?_
    first | refine Reg.pur rfl rfl rfl rfl (Pur.add64 rfl rfl (by omega)) ?_ | refine Reg.pur rfl rfl rfl rfl (Pur.add64 rfl rfl (by assumption)) ?_ | refine Reg.pur rfl rfl rfl rfl (Pur.add rfl rfl) ?_
    refine Reg.pur rfl rfl rfl rfl (Pur.asg rfl) ?_
    refine Reg.nil ?_
    exact At.via (ihj (j + 1, out' ++ [y'], A10_3, cap10_3) _ ⟨by omega, by rw [hnx, hout', List.append_assoc], hg, o0_1, o0_2, o0_3, hE⟩ (by simp only; omega)) ⟨rfl, rfl, rfl, rfl, rfl, rfl, trivial⟩
  first | (simp only [decide_eq_true_eq, decide_eq_false_iff_not, Bool.not_eq_true', Bool.not_eq_false', ne_eq, Decidable.not_not, Bool.not_eq_true, Bool.not_eq_false] at q22) | (dsimp only at q22) | skip
  refine At.region rfl rfl ?_
  refine Reg.pur rfl rfl rfl rfl (Pur.mv rfl) ?_
  refine Reg.pur rfl rfl rfl rfl (Pur.mv rfl) ?_
  refine Reg.pur rfl rfl rfl rfl (Pur.sub64 rfl rfl (by omega)) ?_
  refine Reg.pur rfl rfl rfl rfl (Pur.mv rfl) ?_
  refine Reg.pur rfl rfl rfl rfl (Pur.fld _ fo55_0 rfl) ?_
  refine Reg.lod rfl rfl rfl rfl (Lod.ld sc53 rfl o0_2.blk (by first | rfl | (simp; done))) ?_
  refine Reg.pur rfl rfl rfl rfl (Pur.lenS isl53 rfl) ?_
  refine Reg.pur rfl rfl rfl rfl (Pur.add64 rfl rfl (by omega)) ?_
  refine Reg.pur rfl rfl rfl rfl (Pur.sub64 rfl rfl (by omega)) ?_
  refine Reg.lod rfl rfl rfl rfl (Lod.ldn ag24 rfl o0_1.blk (by first | exact whole rfl | rfl | (simp only [List.drop_succ_cons, List.drop_zero, List.take_succ_cons, List.take_zero]; rfl)) (by first | rfl | (simp [*]; done))) ?_
  refine Reg.pur rfl rfl rfl rfl (Pur.bld (cs := [_, _, _, _, _, _, _, _, _]) pl65 zc65 rfl rfl ⟨rfl, rfl, rfl, rfl, rfl, rfl, rfl, rfl, rfl, rfl⟩) ?_
  refine Reg.op rfl rfl rfl rfl (Does.bslA ([[_, _, _, _, _, _, _, _, _]]) slA53 rfl rfl rfl rfl rfl rfl) ?_
  rintro _ H11_11 ⟨rfl, hp11_11⟩
  have hn11_11 := New.of_eq hp11_11
  have z11_11 := hn11_11.size
  replace hE := hE.ext hn11_11.ext
  replace hg := hg.ext hn11_11.ext
  replace o0_1 := o0_1.ext hn11_11.ext
  replace o0_2 := o0_2.ext hn11_11.ext
  replace o0_3 := o0_3.ext hn11_11.ext
  have o11_11 := hn11_11.own
  refine Reg.op rfl rfl rfl rfl (Does.appL apt53 rfl rfl (by decide) hg (wide9 (nine1 (x := arrN La.length Lb.length [ra, rb, rc, rd, re]) rfl)) (sl_one (x := arrN La.length Lb.length [ra, rb, rc, rd, re]) rfl (by decide) hn11_11) (ones_flat _) (by simp; omega) (by omega)) ?_
  rintro _ H11_12 ⟨A11_12, cap11_12, rfl, g11_12, hbut11_12, ha11_12⟩
  have z11_12 := hbut11_12.lt
  replace hE := hE.via hbut11_12 (by first | omega | (intro g; omega) | (intro g hg; omega) | (intro g hg h; omega))
  replace o0_1 := o0_1.via hbut11_12 (by first | omega | (intro g; omega) | (intro g hg; omega) | (intro g hg h; omega))
  replace o0_2 := o0_2.via hbut11_12 (by first | omega | (intro g; omega) | (intro g hg; omega) | (intro g hg h; omega))
  replace o0_3 := o0_3.via hbut11_12 (by first | omega | (intro g; omega) | (intro g hg; omega) | (intro g hg h; omega))
  replace o11_11 := o11_11.via hbut11_12 (by first | omega | (intro g; omega) | (intro g hg; omega) | (intro g hg h; omega))
  replace hg := g11_12
  have zg11_12 := g11_12.lt
  refine Reg.pur rfl rfl rfl rfl (Pur.asg rfl) ?_
  refine Reg.nil ?_
  refine At.region rfl rfl ?_
  refine Reg.pur rfl rfl rfl rfl (Pur.mv rfl) ?_
  refine Reg.pur rfl rfl rfl rfl (Pur.bld (cs := [_]) pl55 zc55 rfl rfl ⟨rfl, rfl⟩) ?_
  refine Reg.op0 rfl rfl rfl (Does.stn ag55 rfl rfl (by first | rfl | exact ones_Is _) (by first | rfl | (simp [*]; done)) o0_3 (by first | decide | (simp; done) | (simp; omega) | omega)) ?_
  rintro _ H12_2 hu12_2
  have z12_2 := hu12_2.size
  replace hE := hE.upw hu12_2 (by omega)
  replace hg := hg.upw hu12_2 (by omega)
  replace o0_1 := o0_1.upw hu12_2 (by omega)
  replace o0_2 := o0_2.upw hu12_2 (by omega)
  replace o11_11 := o11_11.upw hu12_2 (by omega)
  replace o0_3 := hu12_2.own
  first | rw [over (by first | rfl | (simp; done))] at o0_3 | skip
  refine Reg.nil ?_
  refine At.retC rfl Tryd.func67 ⟨_, _, _, _, rfl, rfl, ⟨_, o0_3.blk, .inr ⟨_, _, ag55, (by first | exact whole rfl | exact whole (by simp [*])), (by first | rfl | simp [*]), rfl⟩⟩, rfl⟩ ?_
  have hall : out' ++ [arrN La.length Lb.length [ra, rb, rc, rd, re]] = arr2 La [ra, rb, rc, rd, re] Lb := by rw [hout', List.take_of_length_le (by omega)]; rfl
  rw [← hall]
  exact ⟨⟨A11_12, cap11_12, rfl, hg.mono (by omega)⟩, hE⟩

end Go.Proofs.YtlfillhffpiffaaDoor

namespace Go.Proofs.YtlfillhffpiffaaDoor
set_option linter.unusedSimpArgs false
set_option linter.unusedVariables false
set_option maxRecDepth 8000
open Go Go.Fx Go.Proofs

inductive Tm where
  | bas (k : Bool)
  | var (v : Int)
  | fn (a : Tm) (r : List Int) (b : Tm)
deriving DecidableEq
def Tm.sz : Tm → Nat
  | .bas _ => 1
  | .var _ => 1
  | .fn a _ b => a.sz + b.sz + 1
theorem Tm.sz_pos : ∀ t : Tm, 1 ≤ t.sz
  | .bas _ => Nat.le_refl 1
  | .var _ => Nat.le_refl 1
  | .fn a _ b => by simp only [Tm.sz]; omega
def Tm.ok : Tm → Prop
  | .bas _ => True
  | .var v => 0 ≤ v ∧ v < 4096
  | .fn a r b => a.ok ∧ r.length = 5 ∧ rowM r = true ∧ b.ok
abbrev bNode (k : Bool) : List Int := [if k then 1 else 0, 0, 0, 0, 0, 0, 0, 0, 0]
abbrev vNode (v : Int) : List Int := [2, v, 0, 0, 0, 0, 0, 0, 0]
abbrev fNode (a b : Int) (r : List Int) : List Int := [3, 0, a, b] ++ r
def Tm.enc (k : Int) : Tm → List (List Int)
  | .bas b => [bNode b]
  | .var v => [vNode v]
  | .fn a r b => a.enc k ++ b.enc (k + a.sz) ++ [fNode (k + a.sz - 1) (k + a.sz + b.sz - 1) r]
theorem Tm.enc_len : ∀ (t : Tm) (k : Int), (t.enc k).length = t.sz
  | .bas _, _ => rfl
  | .var _, _ => rfl
  | .fn a r b, k => by simp only [Tm.enc, List.length_append, Tm.enc_len a, Tm.enc_len b, Tm.sz, List.length_singleton]
theorem Tm.enc_nine : ∀ (t : Tm) (k : Int), t.ok → Nine (t.enc k)
  | .bas _, _, _ => nine1 rfl
  | .var _, _, _ => nine1 rfl
  | .fn a r b, k, h => nine_app (nine_app (a.enc_nine k h.1) (b.enc_nine _ h.2.2.2)) (nine1 (by simp [h.2.1]))
theorem mov_fn {j a b : Int} {r : List Int} (h1 : -9223372036854775808 ≤ a + j ∧ a + j ≤ 9223372036854775807) (h2 : -9223372036854775808 ≤ b + j ∧ b + j ≤ 9223372036854775807) : movS j (fNode a b r) = fNode (a + j) (b + j) r := by
  unfold movS
  rw [if_pos (by rfl)]
  show [3, 0, IntKind.i64.wrap (a + j), IntKind.i64.wrap (b + j)] ++ r = _
  rw [wrap_in h1, wrap_in h2]
theorem Tm.enc_mov : ∀ (t : Tm) (k j : Int), -1000000 ≤ k → -1000000 ≤ k + j → k ≤ 1000000 → k + j ≤ 1000000 → k + t.sz ≤ 1000000 → k + j + t.sz ≤ 1000000 → (t.enc k).map (movS j) = t.enc (k + j)
  | .bas b, _, _, _, _, _, _, _, _ => by cases b <;> rfl
  | .var _, _, _, _, _, _, _, _, _ => rfl
  | .fn a r b, k, j, h1, h2, h3, h4, h5, h6 => by
    have ha := a.sz_pos
    have hb := b.sz_pos
    simp only [Tm.sz, Int.natCast_add] at h5 h6
    simp only [Tm.enc, List.map_append, List.map_cons, List.map_nil]
    rw [Tm.enc_mov a k j h1 h2 h3 h4 (by omega) (by omega), Tm.enc_mov b (k + a.sz) j (by omega) (by omega) (by omega) (by omega) (by omega) (by omega), mov_fn (by omega) (by omega)]
    rw [show k + (a.sz : Int) + j = k + j + a.sz by omega, show k + (a.sz : Int) - 1 + j = k + j + a.sz - 1 by omega, show k + (a.sz : Int) + b.sz - 1 + j = k + j + a.sz + b.sz - 1 by omega]

theorem nod_fn {x : List Int} (h9 : x.length = 9) (hn : nodM x = true) (hk : x.getD 0 0 = 3) : ∃ r, r.length = 5 ∧ rowM r = true ∧ x = fNode (x.getD 2 0) (x.getD 3 0) r := by
  match x, h9 with
  | [k, v, p, q, c0, c1, c2, c3, t], _ =>
    unfold nodM at hn
    rw [if_pos hk] at hn
    simp only [Bool.and_eq_true, decide_eq_true_eq] at hn
    obtain ⟨h1, h2⟩ := hn
    change k = 3 at hk
    change v = 0 at h2
    subst hk h2
    exact ⟨[c0, c1, c2, c3, t], rfl, h1, rfl⟩
theorem nod_else {x : List Int} (hn : nodM x = true) (hk : x.getD 0 0 ≠ 3) : (∃ b, x = bNode b) ∨ ∃ v, 0 ≤ v ∧ v < 4096 ∧ x = vNode v := by
  unfold nodM at hn
  rw [if_neg hk] at hn
  split at hn
  · simp only [Bool.and_eq_true, decide_eq_true_eq] at hn
    exact .inr ⟨_, hn.1.1, hn.1.2, hn.2⟩
  · split at hn
    · rename_i h
      rw [decide_eq_true_eq] at hn
      rcases h with h | h
      · rw [h] at hn; exact .inl ⟨false, hn⟩
      · rw [h] at hn; exact .inl ⟨true, hn⟩
    · cases hn
theorem el_nat {L : List (List Int)} {n : Nat} (h : n < L.length) : el L (n : Int) = L[n] := by
  simp [el, List.getD_eq_getElem?_getD, List.getElem?_eq_getElem h]
abbrev seg (L : List (List Int)) (p z : Int) : List (List Int) := (L.drop p.toNat).take (z + 1 - p).toNat
theorem seg_app {L : List (List Int)} {p q z : Int} (h0 : 0 ≤ p) (h1 : p ≤ q) (h2 : q ≤ z + 1) : seg L p (q - 1) ++ seg L q z = seg L p z := by
  have h : (z + 1 - p).toNat = (q - 1 + 1 - p).toNat + (z + 1 - q).toNat := by omega
  unfold seg
  rw [h, List.take_add, List.drop_drop, show p.toNat + (q - 1 + 1 - p).toNat = q.toNat by omega]
theorem seg_one {L : List (List Int)} {z : Int} (h0 : 0 ≤ z) (h1 : z < L.length) : seg L z z = [el L z] := by
  obtain ⟨n, rfl⟩ := Int.eq_ofNat_of_zero_le h0
  unfold seg
  rw [show ((n : Int) + 1 - n).toNat = 1 by omega, el_nat (by omega), Int.toNat_natCast, List.drop_eq_getElem_cons (by omega)]
  rfl
theorem dec_at {L : List (List Int)} (h9 : Nine L) (hn : L.all nodM = true) : ∀ (f : Nat) (z : Int), 0 ≤ z → z < L.length → 0 ≤ bgn L f z → ∃ t : Tm, t.ok ∧ seg L (bgn L f z) z = t.enc (bgn L f z) ∧ (t.sz : Int) = z + 1 - bgn L f z
  | 0, z, _, _, h => by simp only [bgn] at h; omega
  | f + 1, z, h0, h1, h => by
    have hx : el L z ∈ L := by
      obtain ⟨n, rfl⟩ := Int.eq_ofNat_of_zero_le h0
      rw [el_nat (by omega)]; exact List.getElem_mem _
    have hx9 := h9 _ hx
    have hxn := List.all_eq_true.1 hn _ hx
    by_cases hk : (el L z).getD 0 0 = 3
    · obtain ⟨hz, hB, hb, hA, hbA⟩ := bgn_fun h hk
      have hle := bgn_le L f ((el L z).getD 3 0) (by omega)
      have hle2 := bgn_le L f ((el L z).getD 2 0) (by omega)
      have hq : bgn L (f + 1) z = bgn L f ((el L z).getD 2 0) := by
        rw [bgn_succ, if_neg (by omega), if_neg (by omega), if_neg (by omega)]
      obtain ⟨a, ha, hsa, hza⟩ := dec_at h9 hn f ((el L z).getD 2 0) (by omega) (by omega) hbA
      obtain ⟨b, hb', hsb, hzb⟩ := dec_at h9 hn f ((el L z).getD 3 0) (by omega) (by omega) (by omega)
      obtain ⟨r, hr5, hrm, hx⟩ := nod_fn hx9 hxn hk
      have e0 := seg_one h0 h1
      rw [hx] at e0
      rw [hq]
      clear h hq hxn hx9 hx hk hn h9
      generalize (el L z).getD 2 0 = A at *
      generalize (el L z).getD 3 0 = B at *
      generalize bgn L f A = p at *
      generalize bgn L f B = q at *
      subst hA hB
      refine ⟨.fn a r b, ⟨ha, hr5, hrm, hb'⟩, ?_, by simp only [Tm.sz]; omega⟩
      rw [← seg_app (L := L) (p := p) (q := z) (z := z) (by omega) (by omega) (by omega), ← seg_app (L := L) (p := p) (q := q) (z := z - 1) (by omega) (by omega) (by omega), hsa, hsb, e0]
      simp only [Tm.enc]
      rw [show p + (a.sz : Int) = q by omega, show q + (b.sz : Int) - 1 = z - 1 by omega]
    · have hq : bgn L (f + 1) z = z := by rw [bgn_succ, if_pos hk]
      rw [hq, seg_one h0 h1]
      rcases nod_else hxn hk with ⟨b, hb⟩ | ⟨v, hv1, hv2, hv⟩
      · exact ⟨.bas b, trivial, by rw [hb]; rfl, by simp only [Tm.sz]; omega⟩
      · exact ⟨.var v, ⟨hv1, hv2⟩, by rw [hv]; rfl, by simp only [Tm.sz]; omega⟩

theorem el_mid {pre post : List (List Int)} {x : List Int} : el (pre ++ x :: post) (pre.length : Int) = x := by
  simp [el, List.getD_eq_getElem?_getD]
theorem enc_bgn : ∀ (t : Tm) (f : Nat) (pre post : List (List Int)), t.sz ≤ f → bgn (pre ++ t.enc pre.length ++ post) f ((pre.length : Int) + t.sz - 1) = pre.length
  | t, 0, _, _, h => by have := t.sz_pos; omega
  | .bas b, f + 1, pre, post, h => by
    rw [bgn_succ, if_pos]
    · simp only [Tm.sz]; omega
    · rw [show (pre.length : Int) + (Tm.bas b).sz - 1 = pre.length by simp only [Tm.sz]; omega]
      simp only [Tm.enc, List.append_assoc, List.singleton_append]
      rw [el_mid]
      cases b <;> decide
  | .var v, f + 1, pre, post, h => by
    rw [bgn_succ, if_pos]
    · simp only [Tm.sz]; omega
    · rw [show (pre.length : Int) + (Tm.var v).sz - 1 = pre.length by simp only [Tm.sz]; omega]
      simp only [Tm.enc, List.append_assoc, List.singleton_append]
      rw [el_mid]
      show (2 : Int) ≠ 3
      decide
  | .fn a r b, f + 1, pre, post, h => by
    have ha := a.sz_pos
    have hb := b.sz_pos
    simp only [Tm.sz] at h ⊢
    have hp : ((pre ++ a.enc pre.length).length : Int) = (pre.length : Int) + a.sz := by rw [List.length_append, Tm.enc_len]; omega
    have hp2 : ((pre ++ a.enc pre.length ++ b.enc ((pre.length : Int) + a.sz)).length : Int) = (pre.length : Int) + a.sz + b.sz := by rw [List.length_append, List.length_append, Tm.enc_len, Tm.enc_len]; omega
    have hL1 : pre ++ (Tm.fn a r b).enc pre.length ++ post = (pre ++ a.enc pre.length ++ b.enc ((pre.length : Int) + a.sz)) ++ fNode ((pre.length : Int) + a.sz - 1) ((pre.length : Int) + a.sz + b.sz - 1) r :: post := by
      simp only [Tm.enc, List.append_assoc, List.singleton_append]
    have hL2 : pre ++ (Tm.fn a r b).enc pre.length ++ post = (pre ++ a.enc pre.length) ++ b.enc ((pre ++ a.enc pre.length).length : Int) ++ (fNode ((pre.length : Int) + a.sz - 1) ((pre.length : Int) + a.sz + b.sz - 1) r :: post) := by
      rw [hp]; simp only [Tm.enc, List.append_assoc, List.singleton_append]
    have hL3 : pre ++ (Tm.fn a r b).enc pre.length ++ post = pre ++ a.enc pre.length ++ (b.enc ((pre.length : Int) + a.sz) ++ fNode ((pre.length : Int) + a.sz - 1) ((pre.length : Int) + a.sz + b.sz - 1) r :: post) := by
      simp only [Tm.enc, List.append_assoc, List.singleton_append]
    have hel : el (pre ++ (Tm.fn a r b).enc pre.length ++ post) ((pre.length : Int) + (a.sz + b.sz + 1 : Nat) - 1) = fNode ((pre.length : Int) + a.sz - 1) ((pre.length : Int) + a.sz + b.sz - 1) r := by
      rw [hL1, show (pre.length : Int) + (a.sz + b.sz + 1 : Nat) - 1 = ((pre ++ a.enc pre.length ++ b.enc ((pre.length : Int) + a.sz)).length : Int) by rw [hp2]; omega, el_mid]
    have hb1 : bgn (pre ++ (Tm.fn a r b).enc pre.length ++ post) f ((pre.length : Int) + a.sz + b.sz - 1) = (pre.length : Int) + a.sz := by
      rw [hL2, ← hp, enc_bgn b f _ _ (by omega)]
    have hb2 : bgn (pre ++ (Tm.fn a r b).enc pre.length ++ post) f ((pre.length : Int) + a.sz - 1) = pre.length := by
      rw [hL3, enc_bgn a f _ _ (by omega)]
    have e2 : (fNode ((pre.length : Int) + a.sz - 1) ((pre.length : Int) + a.sz + b.sz - 1) r).getD 2 0 = (pre.length : Int) + a.sz - 1 := rfl
    have e3 : (fNode ((pre.length : Int) + a.sz - 1) ((pre.length : Int) + a.sz + b.sz - 1) r).getD 3 0 = (pre.length : Int) + a.sz + b.sz - 1 := rfl
    have e0 : (fNode ((pre.length : Int) + a.sz - 1) ((pre.length : Int) + a.sz + b.sz - 1) r).getD 0 0 = 3 := rfl
    rw [bgn_succ, hel, e0, e2, e3, hb1, hb2, if_neg (by decide), if_neg (by omega), if_neg (by omega)]
theorem enc_nod : ∀ (t : Tm) (k : Int), t.ok → ∀ x ∈ t.enc k, nodM x = true
  | .bas b, _, _, x, h => by rw [List.mem_singleton.1 h]; cases b <;> decide
  | .var v, _, hk, x, h => by
    rw [List.mem_singleton.1 h]
    unfold nodM
    rw [if_neg (by show ¬ (2 : Int) = 3; decide), if_pos (by rfl)]
    simp only [Bool.and_eq_true, decide_eq_true_eq]
    exact ⟨hk, rfl⟩
  | .fn a r b, k, hk, x, h => by
    simp only [Tm.enc, List.mem_append, List.mem_singleton] at h
    rcases h with (h | h) | h
    · exact enc_nod a _ hk.1 x h
    · exact enc_nod b _ hk.2.2.2 x h
    · subst h
      unfold nodM
      rw [if_pos (by rfl)]
      simp only [Bool.and_eq_true, decide_eq_true_eq]
      exact ⟨hk.2.2.1, rfl⟩
theorem enc_typ {t : Tm} (h : t.ok) (hs : t.sz ≤ 256) : typM (t.enc 0) = true := by
  have := t.sz_pos
  unfold typM
  rw [Tm.enc_len]
  simp only [Bool.and_eq_true, decide_eq_true_eq, List.all_eq_true]
  have hb := enc_bgn t t.sz [] [] (Nat.le_refl _)
  simp only [List.nil_append, List.append_nil, List.length_nil, Int.natCast_zero, Int.zero_add] at hb
  exact ⟨⟨⟨by omega, hs⟩, enc_nod t 0 h⟩, hb⟩
theorem typ_dec {L : List (List Int)} (h9 : Nine L) (h : typM L = true) : ∃ t : Tm, t.ok ∧ L = t.enc 0 ∧ t.sz ≤ 256 := by
  obtain ⟨⟨h1, h2⟩, hb⟩ := typM_bgn h
  unfold typM at h
  simp only [Bool.and_eq_true] at h
  obtain ⟨t, ht, hs, hz⟩ := dec_at h9 h.1.2 L.length ((L.length : Int) - 1) (by omega) (by omega) (by omega)
  rw [hb] at hs hz
  refine ⟨t, ht, ?_, by omega⟩
  rw [← hs]
  unfold seg
  rw [List.take_of_length_le (by simp)]
  rfl
end Go.Proofs.YtlfillhffpiffaaDoor

namespace Go.Fx
open Go
set_option linter.unusedSimpArgs false
set_option linter.unusedVariables false
end Go.Fx
namespace Go.Proofs.YtlfillhffpiffaaDoor
set_option linter.unusedSimpArgs false
set_option linter.unusedVariables false
set_option maxRecDepth 8000
open Go Go.Fx Go.Proofs
namespace FactsUniC
theorem ag55 : ag Tryd.prog 55 = some 1 := by kernel_rfl
theorem es53 : esz Tryd.prog 53 = some 9 := by kernel_rfl
theorem fo55_0 : foff Tryd.prog 55 0 = some 0 := by kernel_rfl
theorem fo65_2 : foff Tryd.prog 65 2 = some 2 := by kernel_rfl
theorem fo65_3 : foff Tryd.prog 65 3 = some 3 := by kernel_rfl
theorem isl53 : isSl Tryd.prog 53 = true := by kernel_rfl
theorem mixed : Tryd.prog.follows .mixedOrders = true := by kernel_rfl
theorem pl55 : places Tryd.prog 55 = some [(0, 1)] := by kernel_rfl
theorem sc3 : sc Tryd.prog 3 = true := by kernel_rfl
theorem sc53 : sc Tryd.prog 53 = true := by kernel_rfl
theorem zc55 : zc Tryd.prog 55 = some [.slice none 0 0] := by kernel_rfl
end FactsUniC
open FactsUniC

end Go.Proofs.YtlfillhffpiffaaDoor

namespace Go.Proofs.YtlfillhffpiffaaDoor
set_option linter.unusedSimpArgs false
set_option linter.unusedVariables false
set_option maxRecDepth 8000
open Go Go.Fx Go.Proofs

def zv (P : Program) (t : TypeId) : Option Value := (P.info? t).bind (·.zero)
section rules
variable {P : Program} {dst : Option Tmp} {ty : TypeId} {pos : String} {aft : Array Edge} {gd : Option (Nat × Bool)} {e : Env} {H : Heap}
end rules
section chg
variable {b1 b2 : Nat} {A B C : Heap}
end chg
end Go.Proofs.YtlfillhffpiffaaDoor

namespace Go.Proofs.YtlfillhffpiffaaDoor
set_option linter.unusedSimpArgs false
set_option linter.unusedVariables false
set_option maxRecDepth 8000
open Go Go.Fx Go.Proofs
namespace FactsUniA
theorem ag22 : ag Tryd.prog 22 = some 4 := by kernel_rfl
theorem arr22 : arr Tryd.prog 22 = some (4, 1) := by kernel_rfl
theorem fo24_0 : foff Tryd.prog 24 0 = some 0 := by kernel_rfl
theorem pl24 : places Tryd.prog 24 = some [(0, 4), (4, 1)] := by kernel_rfl
theorem sc3 : sc Tryd.prog 3 = true := by kernel_rfl
theorem zc24 : zc Tryd.prog 24 = some [.int .i64 0, .int .i64 0, .int .i64 0, .int .i64 0, .int .i64 0] := by kernel_rfl
end FactsUniA
open FactsUniA

theorem rowM_t {r : List Int} (h : rowM r = true) : -1 ≤ r.getD 4 0 ∧ r.getD 4 0 < 4096 := by
  unfold rowM at h
  simp only [Bool.and_eq_true, decide_eq_true_eq] at h
  exact h.2

end Go.Proofs.YtlfillhffpiffaaDoor

namespace Go.Proofs.YtlfillhffpiffaaDoor
set_option linter.unusedSimpArgs false
set_option linter.unusedVariables false
set_option maxRecDepth 8000
open Go Go.Fx Go.Proofs
namespace FactsUniB
theorem ag22 : ag Tryd.prog 22 = some 4 := by kernel_rfl
theorem ag24 : ag Tryd.prog 24 = some 5 := by kernel_rfl
theorem arr22 : arr Tryd.prog 22 = some (4, 1) := by kernel_rfl
theorem fo24_0 : foff Tryd.prog 24 0 = some 0 := by kernel_rfl
theorem fo24_1 : foff Tryd.prog 24 1 = some 4 := by kernel_rfl
theorem mixed : Tryd.prog.follows .mixedOrders = true := by kernel_rfl
theorem sc3 : sc Tryd.prog 3 = true := by kernel_rfl
end FactsUniB
open FactsUniB

end Go.Proofs.YtlfillhffpiffaaDoor

namespace Go.Proofs.YtlfillhffpiffaaDoor
set_option linter.unusedSimpArgs false
set_option linter.unusedVariables false
set_option maxRecDepth 8000
open Go Go.Fx Go.Proofs

theorem row_five {r : List Int} (h : r.length = 5) : ∃ a b c d e, r = [a, b, c, d, e] := by
  match r, h with
  | [a, b, c, d, e], _ => exact ⟨a, b, c, d, e, rfl⟩
end Go.Proofs.YtlfillhffpiffaaDoor

namespace Go.Fx
open Go
set_option linter.unusedSimpArgs false
set_option linter.unusedVariables false
section
variable {P : Program} {dst : Option Tmp} {ty : TypeId} {pos : String} {aft : Array Edge} {gd : Option (Nat × Bool)} {e : Env} {H H' : Heap}
end
end Go.Fx
namespace Go.Proofs.YtlfillhffpiffaaDoor
set_option linter.unusedSimpArgs false
set_option linter.unusedVariables false
set_option maxRecDepth 8000
open Go Go.Fx Go.Proofs

theorem flat_at {α : Type} {enc : α → List Value} {n : Nat} {L : List α} (hL : Wide enc n L) {i : Nat} (hi : i < L.length) :
    ∃ p q, L.flatMap enc = p ++ enc L[i] ++ q ∧ p.length = i * n ∧ ∀ x, (L.set i x).flatMap enc = p ++ enc x ++ q := by
  refine ⟨(L.take i).flatMap enc, (L.drop (i + 1)).flatMap enc, ?_, ?_, fun x => ?_⟩
  · have h : L = L.take i ++ L[i] :: L.drop (i + 1) := by rw [← List.drop_eq_getElem_cons hi, List.take_append_drop]
    have h2 : L.flatMap enc = (L.take i ++ L[i] :: L.drop (i + 1)).flatMap enc := congrArg (·.flatMap enc) h
    rw [h2]
    simp only [List.flatMap_append, List.flatMap_cons, List.append_assoc]
  · rw [flat_len (fun x hx => hL x (List.mem_of_mem_take hx)), List.length_take]; congr 1; omega
  · rw [List.set_eq_take_append_cons_drop, if_pos hi]
    simp [List.flatMap_append, List.flatMap_cons]
end Go.Proofs.YtlfillhffpiffaaDoor

namespace Go.Proofs.YtlfillhffpiffaaDoor
set_option linter.unusedSimpArgs false
set_option linter.unusedVariables false
set_option maxRecDepth 8000
set_option maxHeartbeats 4000000
open Go Go.Fx Go.Proofs
namespace FactsUniY

end FactsUniY
open FactsUniY

theorem nod_row {c : List Value} {o : Nat} {a b : Int} {r : List Int} (h : (c.drop o).take 9 = Is (fNode a b r)) (hr : r.length = 5) : (c.drop (o + 4)).take 5 = Is r := by
  rw [← List.drop_drop, take_mid h (by decide)]
  simp [Is]
  rw [List.take_of_length_le (by simp [hr])]
end Go.Proofs.YtlfillhffpiffaaDoor

namespace Go.Proofs.YtlfillhffpiffaaDoor
set_option linter.unusedSimpArgs false
set_option linter.unusedVariables false
set_option maxRecDepth 8000
open Go Go.Fx Go.Proofs
namespace FactsUniD
theorem ag55 : ag Tryd.prog 55 = some 1 := by kernel_rfl
theorem ag65 : ag Tryd.prog 65 = some 9 := by kernel_rfl
theorem apt53 : appT Tryd.prog 53 = some (65, 9, 72) := by kernel_rfl
theorem es53 : esz Tryd.prog 53 = some 9 := by kernel_rfl
theorem fo55_0 : foff Tryd.prog 55 0 = some 0 := by kernel_rfl
theorem fo65_0 : foff Tryd.prog 65 0 = some 0 := by kernel_rfl
theorem fo65_2 : foff Tryd.prog 65 2 = some 2 := by kernel_rfl
theorem fo65_3 : foff Tryd.prog 65 3 = some 3 := by kernel_rfl
theorem pl55 : places Tryd.prog 55 = some [(0, 1)] := by kernel_rfl
theorem sc3 : sc Tryd.prog 3 = true := by kernel_rfl
theorem sc53 : sc Tryd.prog 53 = true := by kernel_rfl
theorem slA53 : slA Tryd.prog 53 = some (65, 9) := by kernel_rfl
theorem zc55 : zc Tryd.prog 55 = some [.slice none 0 0] := by kernel_rfl
theorem zc65 : zc Tryd.prog 65 = some [.int .i64 0, .int .i64 0, .int .i64 0, .int .i64 0, .int .i64 0, .int .i64 0, .int .i64 0, .int .i64 0, .int .i64 0] := by kernel_rfl
end FactsUniD
open FactsUniD

end Go.Proofs.YtlfillhffpiffaaDoor

namespace Go.Proofs.YtlfillhffpiffaaDoor
set_option linter.unusedSimpArgs false
set_option linter.unusedVariables false
set_option maxRecDepth 8000
set_option maxHeartbeats 1000000
open Go Go.Fx Go.Proofs
namespace FactsUniMA
theorem ag22 : ag Tryd.prog 22 = some 4 := by kernel_rfl
theorem ag24 : ag Tryd.prog 24 = some 5 := by kernel_rfl
theorem ag65 : ag Tryd.prog 65 = some 9 := by kernel_rfl
theorem arr22 : arr Tryd.prog 22 = some (4, 1) := by kernel_rfl
theorem eqt65 : eqT Tryd.prog 65 = some [.int .i64, .int .i64, .int .i64, .int .i64, .int .i64, .int .i64, .int .i64, .int .i64, .int .i64] := by kernel_rfl
theorem es53 : esz Tryd.prog 53 = some 9 := by kernel_rfl
theorem fo24_0 : foff Tryd.prog 24 0 = some 0 := by kernel_rfl
theorem fo24_1 : foff Tryd.prog 24 1 = some 4 := by kernel_rfl
theorem fo55_0 : foff Tryd.prog 55 0 = some 0 := by kernel_rfl
theorem isl53 : isSl Tryd.prog 53 = true := by kernel_rfl
theorem mixed : Tryd.prog.follows .mixedOrders = true := by kernel_rfl
theorem sc3 : sc Tryd.prog 3 = true := by kernel_rfl
theorem sc53 : sc Tryd.prog 53 = true := by kernel_rfl
end FactsUniMA
open FactsUniMA

end Go.Proofs.YtlfillhffpiffaaDoor

namespace Go.Proofs.YtlfillhffpiffaaDoor
set_option linter.unusedSimpArgs false
set_option linter.unusedVariables false
set_option maxRecDepth 8000
set_option maxHeartbeats 1000000
open Go Go.Fx Go.Proofs
namespace FactsUniNB
theorem ag65 : ag Tryd.prog 65 = some 9 := by kernel_rfl
theorem eqt65 : eqT Tryd.prog 65 = some [.int .i64, .int .i64, .int .i64, .int .i64, .int .i64, .int .i64, .int .i64, .int .i64, .int .i64] := by kernel_rfl
theorem es53 : esz Tryd.prog 53 = some 9 := by kernel_rfl
theorem fo55_0 : foff Tryd.prog 55 0 = some 0 := by kernel_rfl
theorem isl53 : isSl Tryd.prog 53 = true := by kernel_rfl
theorem mixed : Tryd.prog.follows .mixedOrders = true := by kernel_rfl
theorem sc53 : sc Tryd.prog 53 = true := by kernel_rfl
end FactsUniNB
open FactsUniNB

end Go.Proofs.YtlfillhffpiffaaDoor

namespace Go.Proofs.YtlfillhffpiffaaDoor
set_option linter.unusedSimpArgs false
set_option linter.unusedVariables false
set_option maxRecDepth 8000
set_option maxHeartbeats 1000000
open Go Go.Fx Go.Proofs
namespace FactsUniNC
theorem ag22 : ag Tryd.prog 22 = some 4 := by kernel_rfl
theorem ag24 : ag Tryd.prog 24 = some 5 := by kernel_rfl
theorem arr1_22 : arr1 Tryd.prog 22 = some 4 := by kernel_rfl
theorem arr22 : arr Tryd.prog 22 = some (4, 1) := by kernel_rfl
theorem fo24_0 : foff Tryd.prog 24 0 = some 0 := by kernel_rfl
theorem fo24_1 : foff Tryd.prog 24 1 = some 4 := by kernel_rfl
theorem mixed : Tryd.prog.follows .mixedOrders = true := by kernel_rfl
theorem pl24 : places Tryd.prog 24 = some [(0, 4), (4, 1)] := by kernel_rfl
theorem sc3 : sc Tryd.prog 3 = true := by kernel_rfl
theorem zc24 : zc Tryd.prog 24 = some [.int .i64 0, .int .i64 0, .int .i64 0, .int .i64 0, .int .i64 0] := by kernel_rfl
end FactsUniNC
open FactsUniNC

end Go.Proofs.YtlfillhffpiffaaDoor

namespace Go.Proofs.YtlfillhffpiffaaDoor
set_option linter.unusedSimpArgs false
set_option linter.unusedVariables false
set_option maxRecDepth 8000
set_option maxHeartbeats 1000000
open Go Go.Fx Go.Proofs
namespace FactsUniZ

end FactsUniZ
open FactsUniZ

theorem enc_inj {t u : Tm} (ht : t.ok) (hu : u.ok) (htz : t.sz ≤ 256) (h : t.enc 0 = u.enc 0) : t = u := by
  suffices key : ∀ (t u : Tm) (k : Int), t.ok → u.ok → t.enc k = u.enc k → t = u from key t u 0 ht hu h
  intro t
  induction t with
  | bas k =>
    intro u j _ _ h
    cases u with
    | bas l => cases k <;> cases l <;> first | rfl | (simp [Tm.enc] at h)
    | var v => cases k <;> simp [Tm.enc] at h
    | fn a r b =>
      have := congrArg List.length h
      rw [Tm.enc_len, Tm.enc_len] at this
      have := a.sz_pos; have := b.sz_pos
      simp only [Tm.sz] at *; omega
  | var v =>
    intro u j _ _ h
    cases u with
    | bas l => cases l <;> simp [Tm.enc] at h
    | var w => simp [Tm.enc] at h; rw [h]
    | fn a r b =>
      have := congrArg List.length h
      rw [Tm.enc_len, Tm.enc_len] at this
      have := a.sz_pos; have := b.sz_pos
      simp only [Tm.sz] at *; omega
  | fn a r b iha ihb =>
    intro u j ht hu h
    cases u with
    | bas l =>
      have := congrArg List.length h
      rw [Tm.enc_len, Tm.enc_len] at this
      have := a.sz_pos; have := b.sz_pos
      simp only [Tm.sz] at *; omega
    | var w =>
      have := congrArg List.length h
      rw [Tm.enc_len, Tm.enc_len] at this
      have := a.sz_pos; have := b.sz_pos
      simp only [Tm.sz] at *; omega
    | fn a' r' b' =>
      simp only [Tm.enc] at h
      have hlen := congrArg List.length h
      simp only [List.length_append, Tm.enc_len, List.length_singleton] at hlen
      have h2 := List.append_inj_right' h rfl
      have h1 := List.append_inj_left' h rfl
      simp only [List.cons.injEq, and_true, List.cons_append, List.nil_append] at h2
      have hsz : a.sz = a'.sz := by have := h2.2.2.1; omega
      have e1 := List.append_inj_left h1 (by rw [Tm.enc_len, Tm.enc_len, hsz])
      have e2 := List.append_inj_right h1 (by rw [Tm.enc_len, Tm.enc_len, hsz])
      rw [← hsz] at e2
      rw [iha a' j ht.1 hu.1 e1, ihb b' _ ht.2.2.2 hu.2.2.2 e2, h2.2.2.2.2]
end Go.Proofs.YtlfillhffpiffaaDoor

namespace Go.Proofs.YtlfillhffpiffaaDoor
set_option linter.unusedSimpArgs false
set_option linter.unusedVariables false
set_option maxRecDepth 8000
set_option maxHeartbeats 600000
open Go Go.Fx Go.Proofs
namespace FactsUniND
theorem ag55 : ag Tryd.prog 55 = some 1 := by kernel_rfl
theorem fo65_0 : foff Tryd.prog 65 0 = some 0 := by kernel_rfl
theorem fo65_1 : foff Tryd.prog 65 1 = some 1 := by kernel_rfl
theorem fo65_4 : foff Tryd.prog 65 4 = some 4 := by kernel_rfl
theorem mixed : Tryd.prog.follows .mixedOrders = true := by kernel_rfl
theorem sc3 : sc Tryd.prog 3 = true := by kernel_rfl
theorem zc55 : zc Tryd.prog 55 = some [.slice none 0 0] := by kernel_rfl
end FactsUniND
open FactsUniND

theorem at0 (v : Value) : ([v] : List Value)[0]? = some v := rfl
end Go.Proofs.YtlfillhffpiffaaDoor

namespace Go.Proofs.YtlfillhffpiffaaDoor
set_option linter.unusedSimpArgs false
set_option linter.unusedVariables false
set_option maxRecDepth 8000
set_option maxHeartbeats 600000
open Go Go.Fx Go.Proofs
namespace FactsUniNE
theorem ag55 : ag Tryd.prog 55 = some 1 := by kernel_rfl
end FactsUniNE
open FactsUniNE

end Go.Proofs.YtlfillhffpiffaaDoor

namespace Go.Proofs.YtlfillhffpiffaaDoor
set_option linter.unusedSimpArgs false
set_option linter.unusedVariables false
set_option maxRecDepth 8000
set_option maxHeartbeats 4000000
open Go Go.Fx Go.Proofs
namespace FactsUniMB
theorem ag24 : ag Tryd.prog 24 = some 5 := by kernel_rfl
theorem ag55 : ag Tryd.prog 55 = some 1 := by kernel_rfl
theorem ag65 : ag Tryd.prog 65 = some 9 := by kernel_rfl
theorem es53 : esz Tryd.prog 53 = some 9 := by kernel_rfl
theorem fo55_0 : foff Tryd.prog 55 0 = some 0 := by kernel_rfl
theorem fo65_0 : foff Tryd.prog 65 0 = some 0 := by kernel_rfl
theorem fo65_1 : foff Tryd.prog 65 1 = some 1 := by kernel_rfl
theorem fo65_2 : foff Tryd.prog 65 2 = some 2 := by kernel_rfl
theorem fo65_3 : foff Tryd.prog 65 3 = some 3 := by kernel_rfl
theorem fo65_4 : foff Tryd.prog 65 4 = some 4 := by kernel_rfl
theorem mixed : Tryd.prog.follows .mixedOrders = true := by kernel_rfl
theorem sc3 : sc Tryd.prog 3 = true := by kernel_rfl
theorem sc53 : sc Tryd.prog 53 = true := by kernel_rfl
theorem zc55 : zc Tryd.prog 55 = some [.slice none 0 0] := by kernel_rfl
theorem zc65 : zc Tryd.prog 65 = some [.int .i64 0, .int .i64 0, .int .i64 0, .int .i64 0, .int .i64 0, .int .i64 0, .int .i64 0, .int .i64 0, .int .i64 0] := by kernel_rfl
end FactsUniMB
open FactsUniMB

end Go.Proofs.YtlfillhffpiffaaDoor

namespace Go.Proofs.YtlfillhffpiffaaDoor
set_option linter.unusedSimpArgs false
set_option linter.unusedVariables false
set_option maxRecDepth 8000
set_option maxHeartbeats 1000000
open Go Go.Fx Go.Proofs
namespace FactsUniAA
theorem ag55 : ag Tryd.prog 55 = some 1 := by kernel_rfl
theorem sc3 : sc Tryd.prog 3 = true := by kernel_rfl
end FactsUniAA
open FactsUniAA

end Go.Proofs.YtlfillhffpiffaaDoor

namespace Go.Proofs.YtlfillhffpiffaaDoor
set_option linter.unusedSimpArgs false
set_option linter.unusedVariables false
set_option maxRecDepth 8000
set_option maxHeartbeats 1000000
open Go Go.Fx Go.Proofs
namespace FactsUniMC
theorem ag55 : ag Tryd.prog 55 = some 1 := by kernel_rfl
theorem fo55_0 : foff Tryd.prog 55 0 = some 0 := by kernel_rfl
theorem isl53 : isSl Tryd.prog 53 = true := by kernel_rfl
theorem sc53 : sc Tryd.prog 53 = true := by kernel_rfl
end FactsUniMC
open FactsUniMC

end Go.Proofs.YtlfillhffpiffaaDoor

