/-
  Nodes: direct.Direct; the reference's kids, Begin.
-/
import Derived.Test.YtjhkmebmbopfoaaDoorNodE
namespace Go.Proofs.YtjhkmebmbopfoaaDoor
set_option linter.unusedSimpArgs false
set_option linter.unusedVariables false
set_option maxRecDepth 8000
set_option maxHeartbeats 1000000
open Go Go.Fx Go.Proofs
namespace FactsNodF

end FactsNodF
open FactsNodF

abbrev drV (L : List Nd) (z : Int) : Value := .tuple #[.bool (thrN L z && drN L 1000 z), I (if thrN L z then 0 else 1800)]
theorem direct_ok {A : Option Addr} {cap : Nat} (L : List Nd) (hL : Shs L) (z : Int) {H : Heap} (hS : SlT H eN 10 (.slice A L.length cap) L) (hm : L.length ≤ 9223372036854775807) :
    Ret Tryd.prog 11 [.slice A L.length cap, I z] H (fun v H' => v = drV L z ∧ Ext H H') := by
  cases hth : thrN L z with
  | false =>
    refine Ret.of_at (N := 19) Tryd.call11 Tryd.func11 rfl rfl rfl ?_
    have hE := Ext.refl H
    refine At.region rfl rfl ?_
    refine Reg.pur rfl rfl rfl rfl (Pur.asg rfl) ?_
    refine Reg.pur rfl rfl rfl rfl (Pur.asg rfl) ?_
    refine Reg.nil ?_
    refine At.region rfl rfl ?_
    refine Reg.pur rfl rfl rfl rfl (Pur.mv rfl) ?_
    refine Reg.pur rfl rfl rfl rfl (Pur.mv rfl) ?_
    refine Reg.op rfl rfl rfl rfl (Does.call rfl (depthT_ok L hL z hS hm)) ?_
    rintro _ H1_2 ⟨rfl, hE1_2⟩
    have z1_2 := hE1_2.lt
    replace hE := hE.ext hE1_2
    simp only [depV, hth]
    refine Reg.pur rfl rfl rfl rfl (Pur.mv rfl) ?_
    refine Reg.pur rfl rfl rfl rfl (Pur.ext rfl rfl) ?_
    refine Reg.pur rfl rfl rfl rfl (Pur.ext rfl rfl) ?_
    refine Reg.pur rfl rfl rfl rfl (Pur.asg rfl) ?_
    refine Reg.pur rfl rfl rfl rfl (Pur.asg rfl) ?_
    refine Reg.nil ?_
    refine At.region rfl rfl ?_
    refine Reg.pur rfl rfl rfl rfl (Pur.mv rfl) ?_
    refine Reg.pur rfl rfl rfl rfl (Pur.neq rfl rfl) ?_
    refine Reg.nil ?_
    refine At.condT rfl rfl (by decide) ?_
    refine At.region rfl rfl ?_
    refine Reg.pur rfl rfl rfl rfl (Pur.asg rfl) ?_
    refine Reg.pur rfl rfl rfl rfl (Pur.asg rfl) ?_
    refine Reg.nil ?_
    refine At.ret rfl Tryd.func11 rfl ?_
    exact ⟨by unfold drV; rw [hth]; rfl, hE⟩
  | true =>
    obtain ⟨hT, hz0, hz1⟩ := tn_of hth
    have hn2 := hT.n2
    refine Ret.of_at (N := 19) Tryd.call11 Tryd.func11 rfl rfl rfl ?_
    have hE := Ext.refl H
    refine At.region rfl rfl ?_
    refine Reg.pur rfl rfl rfl rfl (Pur.asg rfl) ?_
    refine Reg.pur rfl rfl rfl rfl (Pur.asg rfl) ?_
    refine Reg.nil ?_
    refine At.region rfl rfl ?_
    refine Reg.pur rfl rfl rfl rfl (Pur.mv rfl) ?_
    refine Reg.pur rfl rfl rfl rfl (Pur.mv rfl) ?_
    refine Reg.op rfl rfl rfl rfl (Does.call rfl (depthT_ok L hL z hS hm)) ?_
    rintro _ H1_2 ⟨rfl, hE1_2⟩
    have z1_2 := hE1_2.lt
    replace hE := hE.ext hE1_2
    simp only [depV, hth]
    refine Reg.pur rfl rfl rfl rfl (Pur.mv rfl) ?_
    refine Reg.pur rfl rfl rfl rfl (Pur.ext rfl rfl) ?_
    refine Reg.pur rfl rfl rfl rfl (Pur.ext rfl rfl) ?_
    refine Reg.pur rfl rfl rfl rfl (Pur.asg rfl) ?_
    refine Reg.pur rfl rfl rfl rfl (Pur.asg rfl) ?_
    refine Reg.nil ?_
    refine At.region rfl rfl ?_
    refine Reg.pur rfl rfl rfl rfl (Pur.mv rfl) ?_
    refine Reg.pur rfl rfl rfl rfl (Pur.neq rfl rfl) ?_
    refine Reg.nil ?_
    refine At.condF rfl rfl (by decide) ?_
    refine At.region rfl rfl ?_
    refine Reg.pur rfl rfl rfl rfl (Pur.mv rfl) ?_
    refine Reg.pur rfl rfl rfl rfl (Pur.mv rfl) ?_
    refine Reg.op rfl rfl rfl rfl (Does.call rfl (dis_ok L hT 1000 z _ (hS.ext hE) hz0 hz1 (by omega))) ?_
    rintro _ H4_2 ⟨rfl, hE4_2⟩
    have z4_2 := hE4_2.lt
    replace hE := hE.ext hE4_2
    refine Reg.pur rfl rfl rfl rfl (Pur.asg rfl) ?_
    refine Reg.pur rfl rfl rfl rfl (Pur.asg rfl) ?_
    refine Reg.nil ?_
    refine At.ret rfl Tryd.func11 rfl ?_
    exact ⟨by unfold drV; rw [hth]; rfl, hE⟩
def kidN (k : Int) : Int := if k = 0 ∨ k = 1 ∨ k = 2 then 0 else if k = 3 ∨ k = 9 then 1 else if k = 4 ∨ k = 5 ∨ k = 6 ∨ k = 8 then 2 else if k = 7 ∨ k = 10 then 3 else -1
theorem kidsR_ok (k : Int) (H : Heap) : Ret Tryd.prog 56 [I k] H (fun v H' => v = I (kidN k) ∧ H' = H) := by
  refine Ret.of_at (N := 19) Tryd.call56 Tryd.func56 rfl rfl rfl ?_
  refine At.region rfl rfl ?_
  refine Reg.pur rfl rfl rfl rfl (Pur.asg rfl) ?_
  refine Reg.nil ?_
  refine At.region rfl rfl ?_
  refine Reg.pur rfl rfl rfl rfl (Pur.mv rfl) ?_
  refine Reg.nil ?_
  refine At.region rfl rfl ?_
  refine Reg.pur rfl rfl rfl rfl (Pur.eql rfl rfl) ?_
  refine Reg.pur rfl rfl rfl rfl (Pur.asg rfl) ?_
  refine Reg.nil ?_
  refine At.cond rfl rfl (fun hb1 => ?_) (fun hb1 => ?_)
  · refine At.condT rfl rfl (by first | exact hb1 | exact decide_eq_true hb1 | exact decide_eq_false hb1 | simpa using hb1) ?_
    refine At.region rfl rfl ?_
    refine Reg.pur rfl rfl rfl rfl (Pur.asg rfl) ?_
    refine Reg.nil ?_
    refine At.ret rfl Tryd.func56 rfl ?_
    refine And.intro ?_ rfl
    simp only [decide_eq_true_eq, decide_eq_false_iff_not] at *
    simp [kidN, *]
  refine At.region rfl rfl ?_
  refine Reg.pur rfl rfl rfl rfl (Pur.eql rfl rfl) ?_
  refine Reg.pur rfl rfl rfl rfl (Pur.asg rfl) ?_
  refine Reg.nil ?_
  refine At.cond rfl rfl (fun hb2 => ?_) (fun hb2 => ?_)
  · refine At.condT rfl rfl (by first | exact hb2 | exact decide_eq_true hb2 | exact decide_eq_false hb2 | simpa using hb2) ?_
    refine At.region rfl rfl ?_
    refine Reg.pur rfl rfl rfl rfl (Pur.asg rfl) ?_
    refine Reg.nil ?_
    refine At.ret rfl Tryd.func56 rfl ?_
    refine And.intro ?_ rfl
    simp only [decide_eq_true_eq, decide_eq_false_iff_not] at *
    simp [kidN, *]
  refine At.region rfl rfl ?_
  refine Reg.pur rfl rfl rfl rfl (Pur.eql rfl rfl) ?_
  refine Reg.pur rfl rfl rfl rfl (Pur.asg rfl) ?_
  refine Reg.nil ?_
  refine At.cond rfl rfl (fun hb3 => ?_) (fun hb3 => ?_)
  · refine At.region rfl rfl ?_
    refine Reg.pur rfl rfl rfl rfl (Pur.asg rfl) ?_
    refine Reg.nil ?_
    refine At.ret rfl Tryd.func56 rfl ?_
    refine And.intro ?_ rfl
    simp only [decide_eq_true_eq, decide_eq_false_iff_not] at *
    simp [kidN, *]
  refine At.region rfl rfl ?_
  refine Reg.pur rfl rfl rfl rfl (Pur.eql rfl rfl) ?_
  refine Reg.pur rfl rfl rfl rfl (Pur.asg rfl) ?_
  refine Reg.nil ?_
  refine At.cond rfl rfl (fun hb4 => ?_) (fun hb4 => ?_)
  · refine At.condT rfl rfl (by first | exact hb4 | exact decide_eq_true hb4 | exact decide_eq_false hb4 | simpa using hb4) ?_
    refine At.region rfl rfl ?_
    refine Reg.pur rfl rfl rfl rfl (Pur.asg rfl) ?_
    refine Reg.nil ?_
    refine At.ret rfl Tryd.func56 rfl ?_
    refine And.intro ?_ rfl
    simp only [decide_eq_true_eq, decide_eq_false_iff_not] at *
    simp [kidN, *]
  refine At.region rfl rfl ?_
  refine Reg.pur rfl rfl rfl rfl (Pur.eql rfl rfl) ?_
  refine Reg.pur rfl rfl rfl rfl (Pur.asg rfl) ?_
  refine Reg.nil ?_
  refine At.cond rfl rfl (fun hb5 => ?_) (fun hb5 => ?_)
  · refine At.region rfl rfl ?_
    refine Reg.pur rfl rfl rfl rfl (Pur.asg rfl) ?_
    refine Reg.nil ?_
    refine At.ret rfl Tryd.func56 rfl ?_
    refine And.intro ?_ rfl
    simp only [decide_eq_true_eq, decide_eq_false_iff_not] at *
    simp [kidN, *]
  refine At.region rfl rfl ?_
  refine Reg.pur rfl rfl rfl rfl (Pur.eql rfl rfl) ?_
  refine Reg.pur rfl rfl rfl rfl (Pur.asg rfl) ?_
  refine Reg.nil ?_
  refine At.cond rfl rfl (fun hb6 => ?_) (fun hb6 => ?_)
  · refine At.condT rfl rfl (by first | exact hb6 | exact decide_eq_true hb6 | exact decide_eq_false hb6 | simpa using hb6) ?_
    refine At.region rfl rfl ?_
    refine Reg.pur rfl rfl rfl rfl (Pur.asg rfl) ?_
    refine Reg.nil ?_
    refine At.ret rfl Tryd.func56 rfl ?_
    refine And.intro ?_ rfl
    simp only [decide_eq_true_eq, decide_eq_false_iff_not] at *
    simp [kidN, *]
  refine At.region rfl rfl ?_
  refine Reg.pur rfl rfl rfl rfl (Pur.eql rfl rfl) ?_
  refine Reg.pur rfl rfl rfl rfl (Pur.asg rfl) ?_
  refine Reg.nil ?_
  refine At.cond rfl rfl (fun hb7 => ?_) (fun hb7 => ?_)
  · refine At.condT rfl rfl (by first | exact hb7 | exact decide_eq_true hb7 | exact decide_eq_false hb7 | simpa using hb7) ?_
    refine At.region rfl rfl ?_
    refine Reg.pur rfl rfl rfl rfl (Pur.asg rfl) ?_
    refine Reg.nil ?_
    refine At.ret rfl Tryd.func56 rfl ?_
    refine And.intro ?_ rfl
    simp only [decide_eq_true_eq, decide_eq_false_iff_not] at *
    simp [kidN, *]
  refine At.region rfl rfl ?_
  refine Reg.pur rfl rfl rfl rfl (Pur.eql rfl rfl) ?_
  refine Reg.pur rfl rfl rfl rfl (Pur.asg rfl) ?_
  refine Reg.nil ?_
  refine At.cond rfl rfl (fun hb8 => ?_) (fun hb8 => ?_)
  · refine At.condT rfl rfl (by first | exact hb8 | exact decide_eq_true hb8 | exact decide_eq_false hb8 | simpa using hb8) ?_
    refine At.region rfl rfl ?_
    refine Reg.pur rfl rfl rfl rfl (Pur.asg rfl) ?_
    refine Reg.nil ?_
    refine At.ret rfl Tryd.func56 rfl ?_
    refine And.intro ?_ rfl
    simp only [decide_eq_true_eq, decide_eq_false_iff_not] at *
    simp [kidN, *]
  refine At.region rfl rfl ?_
  refine Reg.pur rfl rfl rfl rfl (Pur.eql rfl rfl) ?_
  refine Reg.pur rfl rfl rfl rfl (Pur.asg rfl) ?_
  refine Reg.nil ?_
  refine At.cond rfl rfl (fun hb9 => ?_) (fun hb9 => ?_)
  · refine At.region rfl rfl ?_
    refine Reg.pur rfl rfl rfl rfl (Pur.asg rfl) ?_
    refine Reg.nil ?_
    refine At.ret rfl Tryd.func56 rfl ?_
    refine And.intro ?_ rfl
    simp only [decide_eq_true_eq, decide_eq_false_iff_not] at *
    simp [kidN, *]
  refine At.region rfl rfl ?_
  refine Reg.pur rfl rfl rfl rfl (Pur.eql rfl rfl) ?_
  refine Reg.pur rfl rfl rfl rfl (Pur.asg rfl) ?_
  refine Reg.nil ?_
  refine At.cond rfl rfl (fun hb10 => ?_) (fun hb10 => ?_)
  · refine At.condT rfl rfl (by first | exact hb10 | exact decide_eq_true hb10 | exact decide_eq_false hb10 | simpa using hb10) ?_
    refine At.region rfl rfl ?_
    refine Reg.pur rfl rfl rfl rfl (Pur.asg rfl) ?_
    refine Reg.nil ?_
    refine At.ret rfl Tryd.func56 rfl ?_
    refine And.intro ?_ rfl
    simp only [decide_eq_true_eq, decide_eq_false_iff_not] at *
    simp [kidN, *]
  refine At.region rfl rfl ?_
  refine Reg.pur rfl rfl rfl rfl (Pur.eql rfl rfl) ?_
  refine Reg.pur rfl rfl rfl rfl (Pur.asg rfl) ?_
  refine Reg.nil ?_
  refine At.cond rfl rfl (fun hb11 => ?_) (fun hb11 => ?_)
  · refine At.region rfl rfl ?_
    refine Reg.pur rfl rfl rfl rfl (Pur.asg rfl) ?_
    refine Reg.nil ?_
    refine At.ret rfl Tryd.func56 rfl ?_
    refine And.intro ?_ rfl
    simp only [decide_eq_true_eq, decide_eq_false_iff_not] at *
    simp [kidN, *]
  refine At.region rfl rfl ?_
  refine Reg.pur rfl rfl rfl rfl (Pur.asg rfl) ?_
  refine Reg.nil ?_
  refine At.ret rfl Tryd.func56 rfl ?_
  refine And.intro ?_ rfl
  simp only [decide_eq_true_eq, decide_eq_false_iff_not] at *
  simp [kidN, *]
def dnN : Nat → List Nat
  | 0 => []
  | c + 1 => (c + 1) :: dnN c
theorem kid_dn (k : Int) : (nkOffs k).reverse = dnN (kidN k).toNat := by
  unfold nkOffs kidN
  by_cases h1 : k = 3 ∨ k = 9
  · rw [if_pos h1, if_neg (by omega), if_pos h1]; rfl
  · rw [if_neg h1]
    by_cases h2 : k = 4 ∨ k = 5 ∨ k = 6 ∨ k = 8
    · rw [if_pos h2, if_neg (by omega), if_neg h1, if_pos h2]; rfl
    · rw [if_neg h2]
      by_cases h3 : k = 7 ∨ k = 10
      · rw [if_pos h3, if_neg (by omega), if_neg h1, if_neg h2, if_pos h3]; rfl
      · rw [if_neg h3]
        by_cases h4 : k = 0 ∨ k = 1 ∨ k = 2
        · rw [if_pos h4]; rfl
        · rw [if_neg h4, if_neg h1, if_neg h2, if_neg h3]; rfl
theorem kid_in (k : Int) : -1 ≤ kidN k ∧ kidN k ≤ 3 := by
  unfold kidN; repeat' split
  all_goals omega
end Go.Proofs.YtjhkmebmbopfoaaDoor
