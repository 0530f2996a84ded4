/-
  target.May, the reference's TargetMay.
-/
import Derived.Test.YtjhkmebmbopfoaaTgtF
namespace Go.Proofs.Ytjhkmebmbopfoaa
set_option linter.unusedSimpArgs false
set_option linter.unusedVariables false
set_option maxRecDepth 8000
open Go Go.Fx Go.Proofs
namespace FactsTgtG
theorem ag37 : ag Try.prog 37 = some 9 := by kernel_rfl
theorem es22 : esz Try.prog 22 = some 9 := by kernel_rfl
theorem isl22 : isSl Try.prog 22 = true := by kernel_rfl
end FactsTgtG
open FactsTgtG

theorem tfields_ok9 {x : List Int} (hx : x.length = 9) (H : Heap) : Ret Try.prog 31 [.agg (Is x).toArray] H (fun v H' => v = .bool (mayT x) ∧ Ext H H') := by
  match x, hx with
  | [k, a, b, c, d, e, f, g, h], _ => exact tfields_ok k a b c d e f g h H

def mayS (L : List (List Int)) : Bool := decide (1 ≤ L.length ∧ L.length ≤ 8192) && L.all mayT && decide (bg L L.length ((L.length : Int) - 1) = 0)

/-- a slice's element at an int -/
theorem sl_at {L : List (List Int)} (hL : ∀ x ∈ L, x.length = 9) {H : Heap} {A : Option Addr} {cap : Nat} (hS : SlT H Is 9 (.slice A L.length cap) L) {i : Nat} (hi : i < L.length) :
    ∃ b o c, A = some ⟨b, o, none⟩ ∧ Blk H b c ∧ (c.drop (o + i * 9)).take 9 = Is L[i] ∧ L[i].length = 9 := by
  obtain ⟨b, o, c, h1, h2, h3, h4⟩ := hS.at hi
  exact ⟨b, o, c, h1, h2, h4, hL _ (List.getElem_mem hi)⟩
theorem all_take {L : List (List Int)} {p : List Int → Bool} {i : Nat} (hi : i < L.length) : (L.take (i + 1)).all p = ((L.take i).all p && p L[i]) := by
  rw [List.take_succ_eq_append_getElem hi, List.all_append]; simp
theorem all_of_take {L : List (List Int)} {p : List Int → Bool} {i : Nat} (hi : i < L.length) (h : p L[i] = false) : L.all p = false := by
  cases hh : L.all p with
  | false => rfl
  | true => rw [List.all_eq_true] at hh; rw [hh _ (List.getElem_mem hi)] at h; cases h

theorem targetMay_ok {A : Option Addr} {cap : Nat} (L : List (List Int)) (hL : ∀ x ∈ L, x.length = 9) {H : Heap} (hS : SlT H Is 9 (.slice A L.length cap) L) (hm : L.length ≤ 9223372036854775807) :
    Ret Try.prog 18 [.slice A L.length cap] H (fun v H' => v = .bool (mayS L) ∧ Ext H H') := by
  refine Ret.of_at (N := 30) Try.call18 Try.func18 rfl rfl rfl ?_
  refine At.region rfl rfl ?_
  refine Reg.pur rfl rfl rfl rfl (Pur.asg rfl) ?_
  refine Reg.nil ?_
  refine At.region rfl rfl ?_
  refine Reg.pur rfl rfl rfl rfl (Pur.mv rfl) ?_
  refine Reg.pur rfl rfl rfl rfl (Pur.lenS isl22 rfl) ?_
  refine Reg.pur rfl rfl rfl rfl (Pur.lss rfl rfl) ?_
  refine Reg.pur rfl rfl rfl rfl (Pur.mv rfl) ?_
  refine Reg.case 7 rfl (fun hc1 => ?_) (fun hc1 => ?_)
  · refine Reg.skip rfl rfl rfl rfl rfl rfl rfl ?_
    refine Reg.skip rfl rfl rfl rfl rfl rfl rfl ?_
    refine Reg.skip rfl rfl rfl rfl rfl rfl rfl ?_
    refine Reg.pur rfl rfl rfl rfl (Pur.pickT rfl rfl) ?_
    refine Reg.nil ?_
    refine At.condT rfl rfl rfl ?_
    refine At.region rfl rfl ?_
    refine Reg.pur rfl rfl rfl rfl (Pur.asg rfl) ?_
    refine Reg.nil ?_
    refine At.ret rfl Try.func18 rfl ?_
    first | exact ⟨congrArg Value.bool (by unfold mayS; simp only [decide_eq_true_eq] at *; rw [decide_eq_false (by omega)]; rfl), Ext.refl _⟩ | exact ⟨congrArg Value.bool (by unfold mayS; rw [all_of_take hlt (by simpa using hb4)]; simp), hE.trans hE2⟩ | exact ⟨congrArg Value.bool (by simp only [decide_eq_false_iff_not] at *; rw [List.take_of_length_le (by omega)] at hgo; unfold mayS; rw [hgo, decide_eq_true (p := 1 ≤ L.length ∧ L.length ≤ 8192) (by omega)]; rfl), hE⟩
  refine Reg.gpur rfl rfl rfl rfl rfl rfl (Pur.mv rfl) ?_
  refine Reg.gpur rfl rfl rfl rfl rfl rfl (Pur.lenS isl22 rfl) ?_
  refine Reg.gpur rfl rfl rfl rfl rfl rfl (Pur.gtr rfl rfl) ?_
  refine Reg.pur rfl rfl rfl rfl (Pur.pickF rfl rfl) ?_
  refine Reg.nil ?_
  refine At.cond rfl rfl (fun hb2 => ?_) (fun hb2 => ?_)
  · refine At.region rfl rfl ?_
    refine Reg.pur rfl rfl rfl rfl (Pur.asg rfl) ?_
    refine Reg.nil ?_
    refine At.ret rfl Try.func18 rfl ?_
    first | exact ⟨congrArg Value.bool (by unfold mayS; simp only [decide_eq_true_eq] at *; rw [decide_eq_false (by omega)]; rfl), Ext.refl _⟩ | exact ⟨congrArg Value.bool (by unfold mayS; rw [all_of_take hlt (by simpa using hb4)]; simp), hE.trans hE2⟩ | exact ⟨congrArg Value.bool (by simp only [decide_eq_false_iff_not] at *; rw [List.take_of_length_le (by omega)] at hgo; unfold mayS; rw [hgo, decide_eq_true (p := 1 ≤ L.length ∧ L.length ≤ 8192) (by omega)]; rfl), hE⟩
  refine At.region rfl rfl ?_
  refine Reg.pur rfl rfl rfl rfl (Pur.asg rfl) ?_
  refine Reg.nil ?_
  refine At.loop (σ := Nat) (fun i => [(3, I i), (0, .slice A L.length cap)]) (fun i H' => i ≤ L.length ∧ Ext H H' ∧ (L.take i).all mayT = true) (fun i => L.length - i) 0 rfl ⟨rfl, rfl, trivial⟩ ⟨by omega, Ext.refl _, rfl⟩ ?_
  rintro i H1 ⟨hi, hE, hgo⟩ ih
  refine At.region rfl rfl ?_
  refine Reg.pur rfl rfl rfl rfl (Pur.mv rfl) ?_
  refine Reg.pur rfl rfl rfl rfl (Pur.mv rfl) ?_
  refine Reg.pur rfl rfl rfl rfl (Pur.lenS isl22 rfl) ?_
  refine Reg.pur rfl rfl rfl rfl (Pur.lss rfl rfl) ?_
  refine Reg.nil ?_
  refine At.cond rfl rfl (fun hb3 => ?_) (fun hb3 => ?_)
  · simp only [decide_eq_true_eq] at hb3
    have hlt : i < L.length := by omega
    obtain ⟨b, o, c, rfl, hB, hd, h9⟩ := sl_at hL (hS.ext hE) hlt
    refine At.region rfl rfl ?_
    refine Reg.pur rfl rfl rfl rfl (Pur.mv rfl) ?_
    refine Reg.pur rfl rfl rfl rfl (Pur.mv rfl) ?_
    refine Reg.pur rfl rfl rfl rfl (Pur.idx _ es22 rfl rfl (by omega) hb3) ?_
    refine Reg.lod rfl rfl rfl rfl (Lod.ldn ag37 rfl hB hd (by simp [Is, h9])) ?_
    refine Reg.op rfl rfl rfl rfl (Does.call rfl (tfields_ok9 h9 _)) ?_
    rintro _ H2 ⟨rfl, hE2⟩
    refine Reg.pur rfl rfl rfl rfl (Pur.not rfl) ?_
    refine Reg.nil ?_
    refine At.cond rfl rfl (fun hb4 => ?_) (fun hb4 => ?_)
    · refine At.region rfl rfl ?_
      refine Reg.pur rfl rfl rfl rfl (Pur.asg rfl) ?_
      refine Reg.nil ?_
      refine At.ret rfl Try.func18 rfl ?_
      first | exact ⟨congrArg Value.bool (by unfold mayS; simp only [decide_eq_true_eq] at *; rw [decide_eq_false (by omega)]; rfl), Ext.refl _⟩ | exact ⟨congrArg Value.bool (by unfold mayS; rw [all_of_take hlt (by simpa using hb4)]; simp), hE.trans hE2⟩ | exact ⟨congrArg Value.bool (by simp only [decide_eq_false_iff_not] at *; rw [List.take_of_length_le (by omega)] at hgo; unfold mayS; rw [hgo, decide_eq_true (p := 1 ≤ L.length ∧ L.length ≤ 8192) (by omega)]; rfl), hE⟩
    refine At.region rfl rfl ?_
    refine Reg.pur rfl rfl rfl rfl (Pur.mv rfl) ?_
    first | refine Reg.pur rfl rfl rfl rfl (Pur.add64 rfl rfl (by omega)) ?_ | refine Reg.pur rfl rfl rfl rfl (Pur.add64 rfl rfl (by assumption)) ?_ | refine Reg.pur rfl rfl rfl rfl (Pur.add rfl rfl) ?_
    refine Reg.pur rfl rfl rfl rfl (Pur.asg rfl) ?_
    refine Reg.nil ?_
    refine At.via (ih (i + 1) H2 ⟨by omega, hE.trans hE2, ?_⟩ (by omega)) ⟨rfl, rfl, trivial⟩
    rw [all_take hlt, hgo]; simpa using hb4
  have hlen : 1 ≤ L.length ∧ L.length ≤ 8192 := by simp only [decide_eq_false_iff_not] at *; omega
  refine At.region rfl rfl ?_
  refine Reg.pur rfl rfl rfl rfl (Pur.mv rfl) ?_
  refine Reg.pur rfl rfl rfl rfl (Pur.mv rfl) ?_
  refine Reg.pur rfl rfl rfl rfl (Pur.lenS isl22 rfl) ?_
  first | refine Reg.pur rfl rfl rfl rfl (Pur.sub64 rfl rfl (by omega)) ?_ | refine Reg.pur rfl rfl rfl rfl (Pur.sub64 rfl rfl (by assumption)) ?_ | refine Reg.pur rfl rfl rfl rfl (Pur.sub rfl rfl) ?_
  refine Reg.op rfl rfl rfl rfl (Does.call rfl (tbegin_ok L hL (hS.ext hE) hm L.length _ (by omega) (by omega) (by omega))) ?_
  rintro _ H1 ⟨rfl, rfl⟩
  refine Reg.pur rfl rfl rfl rfl (Pur.eql rfl rfl) ?_
  refine Reg.pur rfl rfl rfl rfl (Pur.asg rfl) ?_
  refine Reg.nil ?_
  refine At.ret rfl Try.func18 rfl ?_
  first | exact ⟨congrArg Value.bool (by unfold mayS; simp only [decide_eq_true_eq] at *; rw [decide_eq_false (by omega)]; rfl), Ext.refl _⟩ | exact ⟨congrArg Value.bool (by unfold mayS; rw [all_of_take hlt (by simpa using hb4)]; simp), hE.trans hE2⟩ | exact ⟨congrArg Value.bool (by simp only [decide_eq_false_iff_not] at *; rw [List.take_of_length_le (by omega)] at hgo; unfold mayS; rw [hgo, decide_eq_true (p := 1 ≤ L.length ∧ L.length ≤ 8192) (by omega)]; rfl), hE⟩

theorem may1_ok {x : List Int} (hx : x.length = 9) (H : Heap) : Ret Try.prog 24 [.agg (Is x).toArray] H (fun v H' => v = .bool (!mayT x) ∧ Ext H H') := by
  refine Ret.of_at (N := 6) Try.call24 Try.func24 rfl rfl rfl ?_
  refine At.region rfl rfl ?_
  refine Reg.op rfl rfl rfl rfl (Does.box rfl rfl) ?_
  rintro _ H1 ⟨rfl, hn1⟩
  refine Reg.pur rfl rfl rfl rfl (Pur.asg rfl) ?_
  refine Reg.nil ?_
  refine At.region rfl rfl ?_
  refine Reg.lod rfl rfl rfl rfl (Lod.ldn ag37 rfl hn1.own.blk (by rw [List.drop_zero, List.take_of_length_le (by simp [Is, hx])]) (by simp [Is, hx])) ?_
  refine Reg.op rfl rfl rfl rfl (Does.call rfl (may_ok x hx _)) ?_
  rintro _ H2 ⟨rfl, hE2⟩
  refine Reg.pur rfl rfl rfl rfl (Pur.not rfl) ?_
  refine Reg.pur rfl rfl rfl rfl (Pur.asg rfl) ?_
  refine Reg.nil ?_
  refine At.ret rfl Try.func24 rfl ?_
  exact ⟨rfl, hn1.ext.trans hE2⟩

theorem indexFunc_ok {A : Option Addr} {cap : Nat} (L : List (List Int)) (hL : ∀ x ∈ L, x.length = 9) {H : Heap} (hS : SlT H Is 9 (.slice A L.length cap) L) (hm : L.length ≤ 9223372036854775807) :
    Ret Try.prog 36 [.slice A L.length cap, .func (.func 24) #[] #[]] H (fun v H' => (∃ r, v = I r ∧ decide (0 ≤ r) = !L.all mayT) ∧ Ext H H') := by
  refine Ret.of_at (N := 19) Try.call36 Try.func36 rfl rfl rfl ?_
  refine At.region rfl rfl ?_
  refine Reg.pur rfl rfl rfl rfl (Pur.asg rfl) ?_
  refine Reg.nil ?_
  refine At.region rfl rfl ?_
  refine Reg.pur rfl rfl rfl rfl (Pur.mv rfl) ?_
  refine Reg.pur rfl rfl rfl rfl (Pur.lenS isl22 rfl) ?_
  refine Reg.pur rfl rfl rfl rfl (Pur.mv rfl) ?_
  refine Reg.nil ?_
  refine At.loop (σ := Nat) (fun i => [(8, I i), (7, I L.length), (0, .slice A L.length cap), (1, .func (.func 24) #[] #[])]) (fun i H' => i ≤ L.length ∧ Ext H H' ∧ (L.take i).all mayT = true) (fun i => L.length - i) 0 rfl ⟨rfl, rfl, rfl, rfl, trivial⟩ ⟨by omega, Ext.refl _, rfl⟩ ?_
  rintro i H1 ⟨hi, hE, hgo⟩ ih
  refine At.region rfl rfl ?_
  refine Reg.pur rfl rfl rfl rfl (Pur.lss rfl rfl) ?_
  refine Reg.nil ?_
  refine At.cond rfl rfl (fun hb1 => ?_) (fun hb1 => ?_)
  · refine At.region rfl rfl ?_
    refine Reg.pur rfl rfl rfl rfl (Pur.mv rfl) ?_
    refine Reg.pur rfl rfl rfl rfl (Pur.asg rfl) ?_
    refine Reg.nil ?_
    simp only [decide_eq_true_eq] at hb1
    have hlt : i < L.length := by omega
    obtain ⟨b, o, c, rfl, hB, hd, h9⟩ := sl_at hL (hS.ext hE) hlt
    refine At.region rfl rfl ?_
    refine Reg.pur rfl rfl rfl rfl (Pur.mv rfl) ?_
    refine Reg.pur rfl rfl rfl rfl (Pur.mv rfl) ?_
    refine Reg.pur rfl rfl rfl rfl (Pur.mv rfl) ?_
    refine Reg.pur rfl rfl rfl rfl (Pur.idx _ es22 rfl rfl (by omega) hb1) ?_
    refine Reg.lod rfl rfl rfl rfl (Lod.ldn ag37 rfl hB hd (by simp [Is, h9])) ?_
    refine Reg.op rfl rfl rfl rfl (Does.callv rfl rfl (may1_ok h9 _)) ?_
    rintro _ H2 ⟨rfl, hE2⟩
    refine Reg.nil ?_
    refine At.cond rfl rfl (fun hb2 => ?_) (fun hb2 => ?_)
    · refine At.region rfl rfl ?_
      refine Reg.pur rfl rfl rfl rfl (Pur.mv rfl) ?_
      refine Reg.pur rfl rfl rfl rfl (Pur.asg rfl) ?_
      refine Reg.nil ?_
      refine At.ret rfl Try.func36 rfl ?_
      first | exact ⟨⟨_, rfl, by rw [all_of_take hlt (by simpa using hb2)]; simp⟩, hE.trans hE2⟩ | exact ⟨⟨_, rfl, by simp only [decide_eq_false_iff_not] at *; rw [List.take_of_length_le (by omega)] at hgo; rw [hgo]; rfl⟩, hE⟩
    refine At.region rfl rfl ?_
    first | refine Reg.pur rfl rfl rfl rfl (Pur.add64 rfl rfl (by omega)) ?_ | refine Reg.pur rfl rfl rfl rfl (Pur.add64 rfl rfl (by assumption)) ?_ | refine Reg.pur rfl rfl rfl rfl (Pur.add rfl rfl) ?_
    refine Reg.pur rfl rfl rfl rfl (Pur.mv rfl) ?_
    refine Reg.nil ?_
    refine At.via (ih (i + 1) H2 ⟨by omega, hE.trans hE2, ?_⟩ (by omega)) ⟨rfl, rfl, rfl, rfl, trivial⟩
    rw [all_take hlt, hgo]; simpa using hb2
  refine At.region rfl rfl ?_
  refine Reg.pur rfl rfl rfl rfl (Pur.asg rfl) ?_
  refine Reg.nil ?_
  refine At.ret rfl Try.func36 rfl ?_
  first | exact ⟨⟨_, rfl, by rw [all_of_take hlt (by simpa using hb2)]; simp⟩, hE.trans hE2⟩ | exact ⟨⟨_, rfl, by simp only [decide_eq_false_iff_not] at *; rw [List.take_of_length_le (by omega)] at hgo; rw [hgo]; rfl⟩, hE⟩

theorem containsFunc_ok {A : Option Addr} {cap : Nat} (L : List (List Int)) (hL : ∀ x ∈ L, x.length = 9) {H : Heap} (hS : SlT H Is 9 (.slice A L.length cap) L) (hm : L.length ≤ 9223372036854775807) :
    Ret Try.prog 23 [.slice A L.length cap, .func (.func 24) #[] #[]] H (fun v H' => v = .bool (!L.all mayT) ∧ Ext H H') := by
  refine Ret.of_at (N := 9) Try.call23 Try.func23 rfl rfl rfl ?_
  refine At.region rfl rfl ?_
  refine Reg.pur rfl rfl rfl rfl (Pur.asg rfl) ?_
  refine Reg.nil ?_
  refine At.region rfl rfl ?_
  refine Reg.pur rfl rfl rfl rfl (Pur.mv rfl) ?_
  refine Reg.pur rfl rfl rfl rfl (Pur.mv rfl) ?_
  refine Reg.op rfl rfl rfl rfl (Does.call rfl (indexFunc_ok L hL hS hm)) ?_
  rintro _ H1 ⟨⟨r, rfl, hr⟩, hE⟩
  refine Reg.pur rfl rfl rfl rfl (Pur.geq rfl rfl) ?_
  refine Reg.pur rfl rfl rfl rfl (Pur.asg rfl) ?_
  refine Reg.nil ?_
  refine At.ret rfl Try.func23 rfl ?_
  exact ⟨congrArg Value.bool hr, hE⟩

theorem mayP_ok {A : Option Addr} {cap : Nat} (L : List (List Int)) (hL : ∀ x ∈ L, x.length = 9) {H : Heap} (hS : SlT H Is 9 (.slice A L.length cap) L) (hm : L.length ≤ 9223372036854775807) :
    Ret Try.prog 15 [.slice A L.length cap] H (fun v H' => v = .bool (mayS L) ∧ Ext H H') := by
  refine Ret.of_at (N := 24) Try.call15 Try.func15 rfl rfl rfl ?_
  refine At.region rfl rfl ?_
  refine Reg.pur rfl rfl rfl rfl (Pur.asg rfl) ?_
  refine Reg.nil ?_
  refine At.region rfl rfl ?_
  refine Reg.pur rfl rfl rfl rfl (Pur.mv rfl) ?_
  refine Reg.pur rfl rfl rfl rfl (Pur.lenS isl22 rfl) ?_
  refine Reg.pur rfl rfl rfl rfl (Pur.asg rfl) ?_
  refine Reg.nil ?_
  refine At.region rfl rfl ?_
  refine Reg.pur rfl rfl rfl rfl (Pur.mv rfl) ?_
  refine Reg.pur rfl rfl rfl rfl (Pur.geq rfl rfl) ?_
  refine Reg.pur rfl rfl rfl rfl (Pur.mv rfl) ?_
  refine Reg.case 8 rfl (fun hc1 => ?_) (fun hc1 => ?_)
  · refine Reg.gpur rfl rfl rfl rfl rfl rfl (Pur.mv rfl) ?_
    refine Reg.gpur rfl rfl rfl rfl rfl rfl (Pur.leq rfl rfl) ?_
    refine Reg.pur rfl rfl rfl rfl (Pur.pickT rfl rfl) ?_
    refine Reg.pur rfl rfl rfl rfl (Pur.mv rfl) ?_
    refine Reg.case 12 rfl (fun hc2 => ?_) (fun hc2 => ?_)
    · refine Reg.gpur rfl rfl rfl rfl rfl rfl (Pur.mv rfl) ?_
      refine Reg.gop rfl rfl rfl rfl rfl rfl (Does.call rfl (containsFunc_ok L hL hS hm)) ?_
      rintro _ H1 ⟨rfl, hE⟩
      refine Reg.gpur rfl rfl rfl rfl rfl rfl (Pur.not rfl) ?_
      refine Reg.pur rfl rfl rfl rfl (Pur.pickT rfl rfl) ?_
      refine Reg.pur rfl rfl rfl rfl (Pur.mv rfl) ?_
      refine Reg.case 17 rfl (fun hc3 => ?_) (fun hc3 => ?_)
      · refine Reg.gpur rfl rfl rfl rfl rfl rfl (Pur.mv rfl) ?_
        refine Reg.gpur rfl rfl rfl rfl rfl rfl (Pur.mv rfl) ?_
        first | refine Reg.gpur rfl rfl rfl rfl rfl rfl (Pur.sub64 rfl rfl (by omega)) ?_ | refine Reg.gpur rfl rfl rfl rfl rfl rfl (Pur.sub64 rfl rfl (by assumption)) ?_ | refine Reg.gpur rfl rfl rfl rfl rfl rfl (Pur.sub rfl rfl) ?_
        refine Reg.gop rfl rfl rfl rfl rfl rfl (Does.call rfl (begin_ok L hL L.length _ _ (hS.ext hE) (by simp only [decide_eq_true_eq] at *; omega) (by omega) (by simp only [decide_eq_true_eq] at *; omega) hm)) ?_
        rintro _ H2 ⟨rfl, hE2⟩
        refine Reg.gpur rfl rfl rfl rfl rfl rfl (Pur.eql rfl rfl) ?_
        refine Reg.pur rfl rfl rfl rfl (Pur.pickT rfl rfl) ?_
        refine Reg.pur rfl rfl rfl rfl (Pur.asg rfl) ?_
        refine Reg.nil ?_
        refine At.ret rfl Try.func15 rfl ?_
        refine ⟨congrArg Value.bool ?_, by first | exact hE.trans hE2 | exact hE | exact Ext.refl _⟩
        simp only [decide_eq_true_eq, decide_eq_false_iff_not, Bool.not_not] at *
        unfold mayS
        first | (rw [decide_eq_false (p := 1 ≤ L.length ∧ L.length ≤ 8192) (by omega)]; rfl) | (rw [decide_eq_true (p := 1 ≤ L.length ∧ L.length ≤ 8192) (by omega)]; simp_all; done) | (rw [decide_eq_true (p := 1 ≤ L.length ∧ L.length ≤ 8192) (by omega)]; simp_all; obtain ⟨x, hx, hf⟩ := hc3; intro h; rw [h x hx] at hf; cases hf)
      refine Reg.skip rfl rfl rfl rfl rfl rfl rfl ?_
      refine Reg.skip rfl rfl rfl rfl rfl rfl rfl ?_
      refine Reg.skip rfl rfl rfl rfl rfl rfl rfl ?_
      refine Reg.skip rfl rfl rfl rfl rfl rfl rfl ?_
      refine Reg.skip rfl rfl rfl rfl rfl rfl rfl ?_
      refine Reg.pur rfl rfl rfl rfl (Pur.pickF rfl rfl) ?_
      refine Reg.pur rfl rfl rfl rfl (Pur.asg rfl) ?_
      refine Reg.nil ?_
      refine At.ret rfl Try.func15 rfl ?_
      refine ⟨congrArg Value.bool ?_, by first | exact hE.trans hE2 | exact hE | exact Ext.refl _⟩
      simp only [decide_eq_true_eq, decide_eq_false_iff_not, Bool.not_not] at *
      unfold mayS
      first | (rw [decide_eq_false (p := 1 ≤ L.length ∧ L.length ≤ 8192) (by omega)]; rfl) | (rw [decide_eq_true (p := 1 ≤ L.length ∧ L.length ≤ 8192) (by omega)]; simp_all; done) | (rw [decide_eq_true (p := 1 ≤ L.length ∧ L.length ≤ 8192) (by omega)]; simp_all; obtain ⟨x, hx, hf⟩ := hc3; intro h; rw [h x hx] at hf; cases hf)
    refine Reg.skip rfl rfl rfl rfl rfl rfl rfl ?_
    refine Reg.skip rfl rfl rfl rfl rfl rfl rfl ?_
    refine Reg.skip rfl rfl rfl rfl rfl rfl rfl ?_
    refine Reg.pur rfl rfl rfl rfl (Pur.pickF rfl rfl) ?_
    refine Reg.pur rfl rfl rfl rfl (Pur.mv rfl) ?_
    refine Reg.skip rfl rfl rfl rfl rfl rfl rfl ?_
    refine Reg.skip rfl rfl rfl rfl rfl rfl rfl ?_
    refine Reg.skip rfl rfl rfl rfl rfl rfl rfl ?_
    refine Reg.skip rfl rfl rfl rfl rfl rfl rfl ?_
    refine Reg.skip rfl rfl rfl rfl rfl rfl rfl ?_
    refine Reg.pur rfl rfl rfl rfl (Pur.pickF rfl rfl) ?_
    refine Reg.pur rfl rfl rfl rfl (Pur.asg rfl) ?_
    refine Reg.nil ?_
    refine At.ret rfl Try.func15 rfl ?_
    refine ⟨congrArg Value.bool ?_, by first | exact hE.trans hE2 | exact hE | exact Ext.refl _⟩
    simp only [decide_eq_true_eq, decide_eq_false_iff_not, Bool.not_not] at *
    unfold mayS
    first | (rw [decide_eq_false (p := 1 ≤ L.length ∧ L.length ≤ 8192) (by omega)]; rfl) | (rw [decide_eq_true (p := 1 ≤ L.length ∧ L.length ≤ 8192) (by omega)]; simp_all; done) | (rw [decide_eq_true (p := 1 ≤ L.length ∧ L.length ≤ 8192) (by omega)]; simp_all; obtain ⟨x, hx, hf⟩ := hc3; intro h; rw [h x hx] at hf; cases hf)
  refine Reg.skip rfl rfl rfl rfl rfl rfl rfl ?_
  refine Reg.skip rfl rfl rfl rfl rfl rfl rfl ?_
  refine Reg.pur rfl rfl rfl rfl (Pur.pickF rfl rfl) ?_
  refine Reg.pur rfl rfl rfl rfl (Pur.mv rfl) ?_
  refine Reg.skip rfl rfl rfl rfl rfl rfl rfl ?_
  refine Reg.skip rfl rfl rfl rfl rfl rfl rfl ?_
  refine Reg.skip rfl rfl rfl rfl rfl rfl rfl ?_
  refine Reg.pur rfl rfl rfl rfl (Pur.pickF rfl rfl) ?_
  refine Reg.pur rfl rfl rfl rfl (Pur.mv rfl) ?_
  refine Reg.skip rfl rfl rfl rfl rfl rfl rfl ?_
  refine Reg.skip rfl rfl rfl rfl rfl rfl rfl ?_
  refine Reg.skip rfl rfl rfl rfl rfl rfl rfl ?_
  refine Reg.skip rfl rfl rfl rfl rfl rfl rfl ?_
  refine Reg.skip rfl rfl rfl rfl rfl rfl rfl ?_
  refine Reg.pur rfl rfl rfl rfl (Pur.pickF rfl rfl) ?_
  refine Reg.pur rfl rfl rfl rfl (Pur.asg rfl) ?_
  refine Reg.nil ?_
  refine At.ret rfl Try.func15 rfl ?_
  refine ⟨congrArg Value.bool ?_, by first | exact hE.trans hE2 | exact hE | exact Ext.refl _⟩
  simp only [decide_eq_true_eq, decide_eq_false_iff_not, Bool.not_not] at *
  unfold mayS
  first | (rw [decide_eq_false (p := 1 ≤ L.length ∧ L.length ≤ 8192) (by omega)]; rfl) | (rw [decide_eq_true (p := 1 ≤ L.length ∧ L.length ≤ 8192) (by omega)]; simp_all; done) | (rw [decide_eq_true (p := 1 ≤ L.length ∧ L.length ≤ 8192) (by omega)]; simp_all; obtain ⟨x, hx, hf⟩ := hc3; intro h; rw [h x hx] at hf; cases hf)
end Go.Proofs.Ytjhkmebmbopfoaa
