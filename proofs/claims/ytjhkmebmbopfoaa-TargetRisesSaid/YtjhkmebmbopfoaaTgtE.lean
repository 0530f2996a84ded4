/-
  The reference's tkids, tbegin, name, tfields.
-/
import Derived.Test.YtjhkmebmbopfoaaTgtD
namespace Go.Proofs.Ytjhkmebmbopfoaa
set_option linter.unusedSimpArgs false
set_option linter.unusedVariables false
set_option maxRecDepth 8000
open Go Go.Fx Go.Proofs
namespace FactsTgtE
theorem es22 : esz Try.prog 22 = some 9 := by kernel_rfl
theorem fo37_0 : foff Try.prog 37 0 = some 0 := by kernel_rfl
theorem fo37_1 : foff Try.prog 37 1 = some 1 := by kernel_rfl
theorem fo37_2 : foff Try.prog 37 2 = some 2 := by kernel_rfl
theorem fo37_3 : foff Try.prog 37 3 = some 3 := by kernel_rfl
theorem sc3 : sc Try.prog 3 = true := by kernel_rfl
end FactsTgtE
open FactsTgtE

def tk (k : Int) : Int := if k = 0 ∨ k = 1 ∨ k = 2 then 0 else if k = 3 ∨ k = 4 ∨ k = 9 then 1 else if k = 5 ∨ k = 6 ∨ k = 8 ∨ k = 10 ∨ k = 11 then 2 else if k = 7 ∨ k = 12 then 3 else -1
theorem tkids_ok (k : Int) (H : Heap) : Ret Try.prog 49 [I k] H (fun v H' => v = I (tk k) ∧ H' = H) := by
  refine Ret.of_at (N := 21) Try.call49 Try.func49 rfl rfl rfl ?_
  refine At.region rfl rfl ?_
  refine Reg.pur rfl rfl rfl rfl (Pur.asg rfl) ?_
  refine Reg.nil ?_
  refine At.region rfl rfl ?_
  refine Reg.pur rfl rfl rfl rfl (Pur.mv rfl) ?_
  refine Reg.nil ?_
  refine At.region rfl rfl ?_
  refine Reg.pur rfl rfl rfl rfl (Pur.eql rfl rfl) ?_
  refine Reg.pur rfl rfl rfl rfl (Pur.asg rfl) ?_
  refine Reg.nil ?_
  refine At.cond rfl rfl (fun hb1 => ?_) (fun hb1 => ?_)
  · refine At.condT rfl rfl (by first | exact hb1 | exact decide_eq_true hb1 | exact decide_eq_false hb1 | simpa using hb1) ?_
    refine At.region rfl rfl ?_
    refine Reg.pur rfl rfl rfl rfl (Pur.asg rfl) ?_
    refine Reg.nil ?_
    refine At.ret rfl Try.func49 rfl ?_
    refine And.intro ?_ rfl
    simp only [decide_eq_true_eq, decide_eq_false_iff_not] at *
    simp [tk, *]
  refine At.region rfl rfl ?_
  refine Reg.pur rfl rfl rfl rfl (Pur.eql rfl rfl) ?_
  refine Reg.pur rfl rfl rfl rfl (Pur.asg rfl) ?_
  refine Reg.nil ?_
  refine At.cond rfl rfl (fun hb2 => ?_) (fun hb2 => ?_)
  · refine At.condT rfl rfl (by first | exact hb2 | exact decide_eq_true hb2 | exact decide_eq_false hb2 | simpa using hb2) ?_
    refine At.region rfl rfl ?_
    refine Reg.pur rfl rfl rfl rfl (Pur.asg rfl) ?_
    refine Reg.nil ?_
    refine At.ret rfl Try.func49 rfl ?_
    refine And.intro ?_ rfl
    simp only [decide_eq_true_eq, decide_eq_false_iff_not] at *
    simp [tk, *]
  refine At.region rfl rfl ?_
  refine Reg.pur rfl rfl rfl rfl (Pur.eql rfl rfl) ?_
  refine Reg.pur rfl rfl rfl rfl (Pur.asg rfl) ?_
  refine Reg.nil ?_
  refine At.cond rfl rfl (fun hb3 => ?_) (fun hb3 => ?_)
  · refine At.region rfl rfl ?_
    refine Reg.pur rfl rfl rfl rfl (Pur.asg rfl) ?_
    refine Reg.nil ?_
    refine At.ret rfl Try.func49 rfl ?_
    refine And.intro ?_ rfl
    simp only [decide_eq_true_eq, decide_eq_false_iff_not] at *
    simp [tk, *]
  refine At.region rfl rfl ?_
  refine Reg.pur rfl rfl rfl rfl (Pur.eql rfl rfl) ?_
  refine Reg.pur rfl rfl rfl rfl (Pur.asg rfl) ?_
  refine Reg.nil ?_
  refine At.cond rfl rfl (fun hb4 => ?_) (fun hb4 => ?_)
  · refine At.condT rfl rfl (by first | exact hb4 | exact decide_eq_true hb4 | exact decide_eq_false hb4 | simpa using hb4) ?_
    refine At.region rfl rfl ?_
    refine Reg.pur rfl rfl rfl rfl (Pur.asg rfl) ?_
    refine Reg.nil ?_
    refine At.ret rfl Try.func49 rfl ?_
    refine And.intro ?_ rfl
    simp only [decide_eq_true_eq, decide_eq_false_iff_not] at *
    simp [tk, *]
  refine At.region rfl rfl ?_
  refine Reg.pur rfl rfl rfl rfl (Pur.eql rfl rfl) ?_
  refine Reg.pur rfl rfl rfl rfl (Pur.asg rfl) ?_
  refine Reg.nil ?_
  refine At.cond rfl rfl (fun hb5 => ?_) (fun hb5 => ?_)
  · refine At.condT rfl rfl (by first | exact hb5 | exact decide_eq_true hb5 | exact decide_eq_false hb5 | simpa using hb5) ?_
    refine At.region rfl rfl ?_
    refine Reg.pur rfl rfl rfl rfl (Pur.asg rfl) ?_
    refine Reg.nil ?_
    refine At.ret rfl Try.func49 rfl ?_
    refine And.intro ?_ rfl
    simp only [decide_eq_true_eq, decide_eq_false_iff_not] at *
    simp [tk, *]
  refine At.region rfl rfl ?_
  refine Reg.pur rfl rfl rfl rfl (Pur.eql rfl rfl) ?_
  refine Reg.pur rfl rfl rfl rfl (Pur.asg rfl) ?_
  refine Reg.nil ?_
  refine At.cond rfl rfl (fun hb6 => ?_) (fun hb6 => ?_)
  · refine At.region rfl rfl ?_
    refine Reg.pur rfl rfl rfl rfl (Pur.asg rfl) ?_
    refine Reg.nil ?_
    refine At.ret rfl Try.func49 rfl ?_
    refine And.intro ?_ rfl
    simp only [decide_eq_true_eq, decide_eq_false_iff_not] at *
    simp [tk, *]
  refine At.region rfl rfl ?_
  refine Reg.pur rfl rfl rfl rfl (Pur.eql rfl rfl) ?_
  refine Reg.pur rfl rfl rfl rfl (Pur.asg rfl) ?_
  refine Reg.nil ?_
  refine At.cond rfl rfl (fun hb7 => ?_) (fun hb7 => ?_)
  · refine At.condT rfl rfl (by first | exact hb7 | exact decide_eq_true hb7 | exact decide_eq_false hb7 | simpa using hb7) ?_
    refine At.region rfl rfl ?_
    refine Reg.pur rfl rfl rfl rfl (Pur.asg rfl) ?_
    refine Reg.nil ?_
    refine At.ret rfl Try.func49 rfl ?_
    refine And.intro ?_ rfl
    simp only [decide_eq_true_eq, decide_eq_false_iff_not] at *
    simp [tk, *]
  refine At.region rfl rfl ?_
  refine Reg.pur rfl rfl rfl rfl (Pur.eql rfl rfl) ?_
  refine Reg.pur rfl rfl rfl rfl (Pur.asg rfl) ?_
  refine Reg.nil ?_
  refine At.cond rfl rfl (fun hb8 => ?_) (fun hb8 => ?_)
  · refine At.condT rfl rfl (by first | exact hb8 | exact decide_eq_true hb8 | exact decide_eq_false hb8 | simpa using hb8) ?_
    refine At.region rfl rfl ?_
    refine Reg.pur rfl rfl rfl rfl (Pur.asg rfl) ?_
    refine Reg.nil ?_
    refine At.ret rfl Try.func49 rfl ?_
    refine And.intro ?_ rfl
    simp only [decide_eq_true_eq, decide_eq_false_iff_not] at *
    simp [tk, *]
  refine At.region rfl rfl ?_
  refine Reg.pur rfl rfl rfl rfl (Pur.eql rfl rfl) ?_
  refine Reg.pur rfl rfl rfl rfl (Pur.asg rfl) ?_
  refine Reg.nil ?_
  refine At.cond rfl rfl (fun hb9 => ?_) (fun hb9 => ?_)
  · refine At.condT rfl rfl (by first | exact hb9 | exact decide_eq_true hb9 | exact decide_eq_false hb9 | simpa using hb9) ?_
    refine At.region rfl rfl ?_
    refine Reg.pur rfl rfl rfl rfl (Pur.asg rfl) ?_
    refine Reg.nil ?_
    refine At.ret rfl Try.func49 rfl ?_
    refine And.intro ?_ rfl
    simp only [decide_eq_true_eq, decide_eq_false_iff_not] at *
    simp [tk, *]
  refine At.region rfl rfl ?_
  refine Reg.pur rfl rfl rfl rfl (Pur.eql rfl rfl) ?_
  refine Reg.pur rfl rfl rfl rfl (Pur.asg rfl) ?_
  refine Reg.nil ?_
  refine At.cond rfl rfl (fun hb10 => ?_) (fun hb10 => ?_)
  · refine At.condT rfl rfl (by first | exact hb10 | exact decide_eq_true hb10 | exact decide_eq_false hb10 | simpa using hb10) ?_
    refine At.region rfl rfl ?_
    refine Reg.pur rfl rfl rfl rfl (Pur.asg rfl) ?_
    refine Reg.nil ?_
    refine At.ret rfl Try.func49 rfl ?_
    refine And.intro ?_ rfl
    simp only [decide_eq_true_eq, decide_eq_false_iff_not] at *
    simp [tk, *]
  refine At.region rfl rfl ?_
  refine Reg.pur rfl rfl rfl rfl (Pur.eql rfl rfl) ?_
  refine Reg.pur rfl rfl rfl rfl (Pur.asg rfl) ?_
  refine Reg.nil ?_
  refine At.cond rfl rfl (fun hb11 => ?_) (fun hb11 => ?_)
  · refine At.region rfl rfl ?_
    refine Reg.pur rfl rfl rfl rfl (Pur.asg rfl) ?_
    refine Reg.nil ?_
    refine At.ret rfl Try.func49 rfl ?_
    refine And.intro ?_ rfl
    simp only [decide_eq_true_eq, decide_eq_false_iff_not] at *
    simp [tk, *]
  refine At.region rfl rfl ?_
  refine Reg.pur rfl rfl rfl rfl (Pur.eql rfl rfl) ?_
  refine Reg.pur rfl rfl rfl rfl (Pur.asg rfl) ?_
  refine Reg.nil ?_
  refine At.cond rfl rfl (fun hb12 => ?_) (fun hb12 => ?_)
  · refine At.condT rfl rfl (by first | exact hb12 | exact decide_eq_true hb12 | exact decide_eq_false hb12 | simpa using hb12) ?_
    refine At.region rfl rfl ?_
    refine Reg.pur rfl rfl rfl rfl (Pur.asg rfl) ?_
    refine Reg.nil ?_
    refine At.ret rfl Try.func49 rfl ?_
    refine And.intro ?_ rfl
    simp only [decide_eq_true_eq, decide_eq_false_iff_not] at *
    simp [tk, *]
  refine At.region rfl rfl ?_
  refine Reg.pur rfl rfl rfl rfl (Pur.eql rfl rfl) ?_
  refine Reg.pur rfl rfl rfl rfl (Pur.asg rfl) ?_
  refine Reg.nil ?_
  refine At.cond rfl rfl (fun hb13 => ?_) (fun hb13 => ?_)
  · refine At.region rfl rfl ?_
    refine Reg.pur rfl rfl rfl rfl (Pur.asg rfl) ?_
    refine Reg.nil ?_
    refine At.ret rfl Try.func49 rfl ?_
    refine And.intro ?_ rfl
    simp only [decide_eq_true_eq, decide_eq_false_iff_not] at *
    simp [tk, *]
  refine At.region rfl rfl ?_
  refine Reg.pur rfl rfl rfl rfl (Pur.asg rfl) ?_
  refine Reg.nil ?_
  refine At.ret rfl Try.func49 rfl ?_
  refine And.intro ?_ rfl
  simp only [decide_eq_true_eq, decide_eq_false_iff_not] at *
  simp [tk, *]
def dn : Nat → List Nat
  | 0 => []
  | c + 1 => (c + 1) :: dn c
theorem kids_dn (k : Int) : (kidOffs k).reverse = dn (tk k).toNat := by
  unfold kidOffs tk
  by_cases h1 : k = 3 ∨ k = 4 ∨ k = 9
  · rw [if_pos h1, if_neg (by omega), if_pos h1]; rfl
  · rw [if_neg h1]
    by_cases h2 : k = 5 ∨ k = 6 ∨ k = 8 ∨ k = 10 ∨ k = 11
    · rw [if_pos h2, if_neg (by omega), if_neg h1, if_pos h2]; rfl
    · rw [if_neg h2]
      by_cases h3 : k = 7 ∨ k = 12
      · rw [if_pos h3, if_neg (by omega), if_neg h1, if_neg h2, if_pos h3]; rfl
      · rw [if_neg h3]
        by_cases h4 : k = 0 ∨ k = 1 ∨ k = 2
        · rw [if_pos h4]; rfl
        · rw [if_neg h4, if_neg h1, if_neg h2, if_neg h3]; rfl
theorem tk_in (k : Int) : -1 ≤ tk k ∧ tk k ≤ 3 := by
  unfold tk; repeat' split <;> try omega
theorem at_tk {c vs : List Value} {o m j : Nat} {v : Value} (h : (c.drop o).take m = vs) (hj : j < m) (hv : vs[j]? = some v) : c[o + j]? = some v := by
  rw [← h, List.getElem?_take, if_pos hj, List.getElem?_drop] at hv; exact hv

theorem tbegin_ok {A : Option Addr} {cap : Nat} (L : List (List Int)) (hL : ∀ x ∈ L, x.length = 9) {H : Heap} (hS : SlT H Is 9 (.slice A L.length cap) L) (hm : L.length ≤ 9223372036854775807) : ∀ (f : Nat) (z : Int), 0 ≤ z → z < L.length → z.toNat < f →
    Ret Try.prog 32 [.slice A L.length cap, I z] H (fun v H' => v = I (bg L f z) ∧ H' = H) := by
  intro f
  induction f with
  | zero => intro z _ _ h; omega
  | succ f ihf =>
  intro z hz0 hzl hzf
  have hzn : z.toNat < L.length := by omega
  obtain ⟨b0, o0, c0, rfl, hb0, hbl, hbd⟩ := hS.at hzn
  have hx9 := hL _ (List.getElem_mem hzn)
  have hel : el L z = L[z.toNat] := by simp [el, List.getD_eq_getElem?_getD, List.getElem?_eq_getElem hzn]
  have hfin : bg L (f + 1) z = bgK (bg L f) (kv L[z.toNat]) z := by simp only [bg]; rw [hel]
  generalize L[z.toNat] = x at hbd hx9 hfin
  have hat : ∀ j, j < 9 → c0[o0 + z.toNat * 9 + j]? = some (I (x.getD j 0)) := fun j hj => at_tk hbd hj (at_Is (by omega))
  have hkv : kv x = (dn (tk (x.getD 0 0)).toNat).map (x.getD · 0) := by rw [kv, kids_dn]
  rw [hkv] at hfin
  obtain ⟨k1, k2⟩ := tk_in (x.getD 0 0)
  clear hkv
  refine Ret.of_at (N := 53) Try.call32 Try.func32 rfl rfl rfl ?_
  refine At.region rfl rfl ?_
  refine Reg.pur rfl rfl rfl rfl (Pur.asg rfl) ?_
  refine Reg.nil ?_
  refine At.region rfl rfl ?_
  refine Reg.pur rfl rfl rfl rfl (Pur.mv rfl) ?_
  refine Reg.pur rfl rfl rfl rfl (Pur.asg rfl) ?_
  refine Reg.nil ?_
  refine At.region rfl rfl ?_
  refine Reg.pur rfl rfl rfl rfl (Pur.mv rfl) ?_
  refine Reg.pur rfl rfl rfl rfl (Pur.mv rfl) ?_
  refine Reg.pur rfl rfl rfl rfl (Pur.idx _ es22 rfl rfl (by omega) (by omega)) ?_
  refine Reg.pur rfl rfl rfl rfl (Pur.fld _ fo37_0 rfl) ?_
  refine Reg.lod rfl rfl rfl rfl (Lod.ld sc3 rfl hb0 (hat 0 (by omega))) ?_
  refine Reg.op rfl rfl rfl rfl (Does.call rfl (tkids_ok _ _)) ?_
  rintro _ H ⟨rfl, rfl⟩
  refine Reg.pur rfl rfl rfl rfl (Pur.asg rfl) ?_
  refine Reg.nil ?_
  generalize tk (x.getD 0 0) = n at *
  refine At.loop (σ := Int × Int) (fun s => [(6, I s.1), (5, I s.2), (0, .slice (some ⟨b0, o0, none⟩) L.length cap), (1, I z)]) (fun s H' => -1 ≤ s.1 ∧ s.1 ≤ 3 ∧ 0 ≤ s.2 ∧ s.2 ≤ z ∧ H' = H ∧ bgK (bg L f) ((dn s.1.toNat).map (x.getD · 0)) s.2 = bg L (f + 1) z) (fun s => (s.1 + 1).toNat) (n, z) rfl ⟨rfl, rfl, rfl, rfl, trivial⟩ ⟨k1, k2, hz0, by simp, rfl, hfin.symm⟩ ?_
  clear hfin k1 k2 n
  rintro ⟨i, y⟩ H6 ⟨hi, hi3, hy0, hyz, rfl, hgo⟩ ih
  dsimp only at hi hi3 hy0 hyz hgo ⊢
  refine At.region rfl rfl ?_
  refine Reg.pur rfl rfl rfl rfl (Pur.mv rfl) ?_
  refine Reg.pur rfl rfl rfl rfl (Pur.gtr rfl rfl) ?_
  refine Reg.nil ?_
  refine At.cond rfl rfl (fun hb1 => ?_) (fun hb1 => ?_)
  · simp only [decide_eq_true_eq] at hb1
    obtain ⟨m, rfl⟩ : ∃ m : Nat, i = m + 1 := ⟨(i - 1).toNat, by omega⟩
    have him : ((m : Int) + 1).toNat = m + 1 := by omega
    rw [him, dn, List.map_cons, bgK] at hgo
    refine At.region rfl rfl ?_
    refine Reg.pur rfl rfl rfl rfl (Pur.mv rfl) ?_
    refine Reg.pur rfl rfl rfl rfl (Pur.mv rfl) ?_
    refine Reg.pur rfl rfl rfl rfl (Pur.idx _ es22 rfl rfl (by omega) (by omega)) ?_
    refine Reg.pur rfl rfl rfl rfl (Pur.fld _ fo37_1 rfl) ?_
    refine Reg.lod rfl rfl rfl rfl (Lod.ld sc3 rfl hb0 (hat 1 (by omega))) ?_
    refine Reg.pur rfl rfl rfl rfl (Pur.asg rfl) ?_
    refine Reg.nil ?_
    refine At.region rfl rfl ?_
    refine Reg.pur rfl rfl rfl rfl (Pur.mv rfl) ?_
    refine Reg.nil ?_
    refine At.region rfl rfl ?_
    refine Reg.pur rfl rfl rfl rfl (Pur.eql rfl rfl) ?_
    refine Reg.pur rfl rfl rfl rfl (Pur.asg rfl) ?_
    refine Reg.nil ?_
    refine At.joinc (σ := Unit) (fun _ => [(7, I (x.getD (m + 1) 0)), (6, I ((m : Int) + 1)), (5, I y), (0, .slice (some ⟨b0, o0, none⟩) L.length cap), (1, I z)]) (fun _ H' => H' = H6) rfl (fun hJ => ?_) (fun _ H3 hI => ?_)
    · refine At.cond rfl rfl (fun hb2 => ?_) (fun hb2 => ?_)
      · refine At.region rfl rfl ?_
        refine Reg.pur rfl rfl rfl rfl (Pur.mv rfl) ?_
        refine Reg.pur rfl rfl rfl rfl (Pur.mv rfl) ?_
        refine Reg.pur rfl rfl rfl rfl (Pur.idx _ es22 rfl rfl (by omega) (by omega)) ?_
        refine Reg.pur rfl rfl rfl rfl (Pur.fld _ fo37_2 rfl) ?_
        refine Reg.lod rfl rfl rfl rfl (Lod.ld sc3 rfl hb0 (hat 2 (by omega))) ?_
        refine Reg.pur rfl rfl rfl rfl (Pur.asg rfl) ?_
        refine Reg.nil ?_
        simp only [decide_eq_true_eq, decide_eq_false_iff_not] at *
        first | (have hm1 : m = 0 := by omega) | (have hm1 : m = 1 := by omega) | (have hm1 : m = 2 := by omega)
        subst hm1
        exact At.meets rfl (hJ () _ rfl) ⟨rfl, rfl, rfl, rfl, rfl, trivial⟩
      refine At.region rfl rfl ?_
      refine Reg.pur rfl rfl rfl rfl (Pur.eql rfl rfl) ?_
      refine Reg.pur rfl rfl rfl rfl (Pur.asg rfl) ?_
      refine Reg.nil ?_
      refine At.cond rfl rfl (fun hb3 => ?_) (fun hb3 => ?_)
      · refine At.region rfl rfl ?_
        refine Reg.pur rfl rfl rfl rfl (Pur.mv rfl) ?_
        refine Reg.pur rfl rfl rfl rfl (Pur.mv rfl) ?_
        refine Reg.pur rfl rfl rfl rfl (Pur.idx _ es22 rfl rfl (by omega) (by omega)) ?_
        refine Reg.pur rfl rfl rfl rfl (Pur.fld _ fo37_3 rfl) ?_
        refine Reg.lod rfl rfl rfl rfl (Lod.ld sc3 rfl hb0 (hat 3 (by omega))) ?_
        refine Reg.pur rfl rfl rfl rfl (Pur.asg rfl) ?_
        refine Reg.nil ?_
        simp only [decide_eq_true_eq, decide_eq_false_iff_not] at *
        first | (have hm1 : m = 0 := by omega) | (have hm1 : m = 1 := by omega) | (have hm1 : m = 2 := by omega)
        subst hm1
        exact At.meets rfl (hJ () _ rfl) ⟨rfl, rfl, rfl, rfl, rfl, trivial⟩
      simp only [decide_eq_true_eq, decide_eq_false_iff_not] at *
      first | (have hm1 : m = 0 := by omega) | (have hm1 : m = 1 := by omega) | (have hm1 : m = 2 := by omega)
      subst hm1
      exact At.meets rfl (hJ () _ rfl) ⟨rfl, rfl, rfl, rfl, rfl, trivial⟩
    obtain rfl := hI
    refine At.region rfl rfl ?_
    refine Reg.pur rfl rfl rfl rfl (Pur.mv rfl) ?_
    refine Reg.pur rfl rfl rfl rfl (Pur.mv rfl) ?_
    first | refine Reg.pur rfl rfl rfl rfl (Pur.sub64 rfl rfl (by omega)) ?_ | refine Reg.pur rfl rfl rfl rfl (Pur.sub64 rfl rfl (by assumption)) ?_ | refine Reg.pur rfl rfl rfl rfl (Pur.sub rfl rfl) ?_
    refine Reg.pur rfl rfl rfl rfl (Pur.neq rfl rfl) ?_
    refine Reg.pur rfl rfl rfl rfl (Pur.mv rfl) ?_
    refine Reg.case 43 rfl (fun hc4 => ?_) (fun hc4 => ?_)
    · refine Reg.skip rfl rfl rfl rfl rfl rfl rfl ?_
      refine Reg.skip rfl rfl rfl rfl rfl rfl rfl ?_
      refine Reg.pur rfl rfl rfl rfl (Pur.pickT rfl rfl) ?_
      refine Reg.nil ?_
      refine At.condT rfl rfl rfl ?_
      refine At.region rfl rfl ?_
      refine Reg.pur rfl rfl rfl rfl (Pur.asg rfl) ?_
      refine Reg.nil ?_
      refine At.ret rfl Try.func32 rfl ?_
      simp only [decide_eq_true_eq, decide_eq_false_iff_not] at *
      first | exact ⟨by rw [← hgo, show i.toNat = 0 from by omega]; rfl, by trivial⟩ | exact ⟨by rw [← hgo, if_pos (by omega)], by trivial⟩
    refine Reg.gpur rfl rfl rfl rfl rfl rfl (Pur.mv rfl) ?_
    refine Reg.gpur rfl rfl rfl rfl rfl rfl (Pur.lss rfl rfl) ?_
    refine Reg.pur rfl rfl rfl rfl (Pur.pickF rfl rfl) ?_
    refine Reg.nil ?_
    refine At.cond rfl rfl (fun hb5 => ?_) (fun hb5 => ?_)
    · refine At.region rfl rfl ?_
      refine Reg.pur rfl rfl rfl rfl (Pur.asg rfl) ?_
      refine Reg.nil ?_
      refine At.ret rfl Try.func32 rfl ?_
      simp only [decide_eq_true_eq, decide_eq_false_iff_not] at *
      first | exact ⟨by rw [← hgo, show i.toNat = 0 from by omega]; rfl, by trivial⟩ | exact ⟨by rw [← hgo, if_pos (by omega)], by trivial⟩
    simp only [decide_eq_true_eq, decide_eq_false_iff_not] at *
    rw [if_neg (by omega)] at hgo
    have hp : x.getD (m + 1) 0 = y - 1 := by omega
    have ihp := ihf (y - 1) (by omega) (by omega) (by omega)
    rw [← hp] at ihp
    refine At.region rfl rfl ?_
    refine Reg.pur rfl rfl rfl rfl (Pur.mv rfl) ?_
    refine Reg.pur rfl rfl rfl rfl (Pur.mv rfl) ?_
    refine Reg.op rfl rfl rfl rfl (Does.call rfl (ihp)) ?_
    rintro _ H6 ⟨rfl, rfl⟩
    refine Reg.pur rfl rfl rfl rfl (Pur.asg rfl) ?_
    refine Reg.nil ?_
    rw [hp] at *
    refine At.region rfl rfl ?_
    refine Reg.pur rfl rfl rfl rfl (Pur.mv rfl) ?_
    refine Reg.pur rfl rfl rfl rfl (Pur.lss rfl rfl) ?_
    refine Reg.nil ?_
    refine At.cond rfl rfl (fun hb6 => ?_) (fun hb6 => ?_)
    · refine At.region rfl rfl ?_
      refine Reg.pur rfl rfl rfl rfl (Pur.asg rfl) ?_
      refine Reg.nil ?_
      refine At.ret rfl Try.func32 rfl ?_
      simp only [decide_eq_true_eq, decide_eq_false_iff_not] at *
      first | exact ⟨by rw [← hgo, show i.toNat = 0 from by omega]; rfl, by trivial⟩ | exact ⟨by rw [← hgo, if_pos (by omega)], by trivial⟩
    refine At.region rfl rfl ?_
    refine Reg.pur rfl rfl rfl rfl (Pur.mv rfl) ?_
    first | refine Reg.pur rfl rfl rfl rfl (Pur.sub64 rfl rfl (by omega)) ?_ | refine Reg.pur rfl rfl rfl rfl (Pur.sub64 rfl rfl (by assumption)) ?_ | refine Reg.pur rfl rfl rfl rfl (Pur.sub rfl rfl) ?_
    refine Reg.pur rfl rfl rfl rfl (Pur.asg rfl) ?_
    refine Reg.nil ?_
    simp only [decide_eq_true_eq, decide_eq_false_iff_not] at *
    have hle := bg_le L f (y - 1) (by omega)
    rw [if_neg (by omega)] at hgo
    refine At.via (ih (m, bg L f (y - 1)) _ ⟨by omega, by omega, by omega, by omega, rfl, hgo⟩ (by simp only; omega)) ⟨lkI rfl (by omega), rfl, rfl, rfl, trivial⟩
  refine At.region rfl rfl ?_
  refine Reg.pur rfl rfl rfl rfl (Pur.mv rfl) ?_
  refine Reg.pur rfl rfl rfl rfl (Pur.asg rfl) ?_
  refine Reg.nil ?_
  refine At.ret rfl Try.func32 rfl ?_
  simp only [decide_eq_true_eq, decide_eq_false_iff_not] at *
  first | exact ⟨by rw [← hgo, show i.toNat = 0 from by omega]; rfl, by trivial⟩ | exact ⟨by rw [← hgo, if_pos (by omega)], by trivial⟩
end Go.Proofs.Ytjhkmebmbopfoaa
