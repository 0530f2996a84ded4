/-
  Slices of addresses; slices.Reverse of a row of addresses.
-/
import Derived.Test.YtjhkmebmbopfoaaDoorFxS
import Derived.Test.YtjhkmebmbopfoaaDoorFxF
import Derived.Test.YtjhkmebmbopfoaaDoorCom
import Derived.Test.YtjhkmebmbopfoaaDoorProg
namespace Go.Proofs.YtjhkmebmbopfoaaDoor
set_option linter.unusedSimpArgs false
set_option linter.unusedVariables false
set_option maxRecDepth 8000
open Go Go.Fx Go.Proofs
namespace FactsRev
theorem es79 : esz Tryd.prog 79 = some 1 := by kernel_rfl
theorem isl79 : isSl Tryd.prog 79 = true := by kernel_rfl
theorem mixed : Tryd.prog.follows .mixedOrders = true := by kernel_rfl
theorem sc82 : sc Tryd.prog 82 = true := by kernel_rfl
end FactsRev
open FactsRev

/-- what v, over H', is: a slice of the addresses of these cells of block b, in a new block or nil -/
def PtrS (H H' : Heap) (v : Value) (b : Nat) (os : List Nat) : Prop :=
  Ext H H' ∧ ∃ A, v = .slice A os.length os.length ∧ (os.length = 0 ∨ ∃ B, H.size ≤ B ∧ A = some ⟨B, 0, none⟩ ∧ Own H' B (os.map (ptr b)))

theorem ptrS_nil {H : Heap} {b : Nat} {os : List Nat} (h : os = []) : PtrS H H (.slice none 0 0) b os := by
  subst h; exact ⟨Ext.refl _, none, rfl, .inl rfl⟩
theorem ptrS_new {H H' : Heap} {b n : Nat} {os : List Nat} {c : List Value} (hn : New H H' c) (h : os.map (ptr b) = c) (hl : os.length = n) : PtrS H H' (.slice (some ⟨H.size, 0, none⟩) n n) b os := by
  subst h; subst hl
  exact ⟨hn.ext, _, rfl, .inr ⟨_, Nat.le_refl _, rfl, hn.own⟩⟩

/-- a row of which i at both ends are turned -/
def revTo (i : Nat) (xs : List Value) : List Value := (List.range xs.length).map fun k => if k < i ∨ xs.length - i ≤ k then xs.getD (xs.length - 1 - k) undef else xs.getD k undef
theorem revTo_zero (xs : List Value) : revTo 0 xs = xs := by
  apply List.ext_getElem?; intro k
  simp only [revTo, List.getElem?_map, List.getElem?_range']
  by_cases h : k < xs.length
  · simp [h, List.getElem?_range, List.getElem?_eq_getElem h]
    intro h2; omega
  · simp [List.getElem?_eq_none (by omega : xs.length ≤ k), List.getElem?_eq_none (by simp; omega : (List.range xs.length).length ≤ k)]
theorem revTo_all (i : Nat) (xs : List Value) (h : xs.length ≤ 2 * i + 1) : revTo i xs = xs.reverse := by
  apply List.ext_getElem?; intro k
  simp only [revTo, List.getElem?_map]
  by_cases hk : k < xs.length
  · rw [List.getElem?_reverse hk]
    simp only [List.getElem?_range, hk, Option.map_some, List.getD_eq_getElem?_getD]
    rw [List.getElem?_eq_getElem (by omega : xs.length - 1 - k < xs.length)]
    split
    · simp
    · have : xs.length - 1 - k = k := by omega
      simp [this, List.getElem?_eq_getElem hk]
  · simp [List.getElem?_eq_none (by simp; omega : xs.reverse.length ≤ k), List.getElem?_eq_none (by simp; omega : (List.range xs.length).length ≤ k)]
theorem revTo_length (i : Nat) (xs : List Value) : (revTo i xs).length = xs.length := by simp [revTo]
theorem revTo_get (i k : Nat) (xs : List Value) (h : k < xs.length) : (revTo i xs)[k]? = some (if k < i ∨ xs.length - i ≤ k then xs.getD (xs.length - 1 - k) undef else xs.getD k undef) := by
  simp [revTo, List.getElem?_range, h]
theorem revTo_step (i : Nat) (xs : List Value) (h : 2 * i + 1 < xs.length) : ((revTo i xs).set i (xs.getD (xs.length - 1 - i) undef)).set (xs.length - 1 - i) (xs.getD i undef) = revTo (i + 1) xs := by
  apply List.ext_getElem?; intro k
  by_cases hk : k < xs.length
  · rw [revTo_get _ _ _ hk, List.getElem?_set, List.getElem?_set]
    simp only [List.length_set, revTo_length]
    by_cases h1 : xs.length - 1 - i = k
    · subst h1
      rw [if_pos rfl, if_pos (by omega), if_pos (by omega)]
      congr 2; omega
    · rw [if_neg h1]
      by_cases h2 : i = k
      · subst h2
        rw [if_pos rfl, if_pos (by omega), if_pos (by omega)]
      · rw [if_neg h2, revTo_get _ _ _ hk]
        congr 1
        by_cases h3 : k < i ∨ xs.length - i ≤ k
        · rw [if_pos h3, if_pos (by omega)]
        · rw [if_neg h3, if_neg (by omega)]
  · rw [List.getElem?_eq_none (by simp [revTo_length]; omega), List.getElem?_eq_none (by simp [revTo_length]; omega)]

theorem revTo_at {i k : Nat} {xs : List Value} (h : 2 * i + 1 < xs.length) (hk : i ≤ k) (hk2 : k + i < xs.length) : (revTo i xs)[k]? = some (xs.getD k undef) := by
  rw [revTo_get _ _ _ (by omega), if_neg (by omega)]
theorem reverse_ok {B n cap : Nat} {xs : List Value} {A : Option Addr} (hn : xs.length = n) (hm : n ≤ 9223372036854775807) {H : Heap} (h1 : ∀ k, k < n → (xs.getD k undef).oneCell' = true) (h : n = 0 ∨ (A = some ⟨B, 0, none⟩ ∧ Own H B xs)) :
    Ret Tryd.prog 94 [.slice A n cap] H (fun v H' => (n = 0 ∧ H' = H) ∨ (But (· = B) H H' ∧ Own H' B xs.reverse)) := by
  refine Ret.of_at (N := 28) Tryd.call94 Tryd.func94 rfl rfl rfl ?_
  refine At.region rfl rfl ?_
  refine Reg.pur rfl rfl rfl rfl (Pur.mv rfl) ?_
  refine Reg.pur rfl rfl rfl rfl (Pur.lenS isl79 rfl) ?_
  first | refine Reg.pur rfl rfl rfl rfl (Pur.sub64 rfl rfl (by omega)) ?_ | refine Reg.pur rfl rfl rfl rfl (Pur.sub64 rfl rfl (by assumption)) ?_ | refine Reg.pur rfl rfl rfl rfl (Pur.sub rfl rfl) ?_
  refine Reg.pur rfl rfl rfl rfl (Pur.asg rfl) ?_
  refine Reg.pur rfl rfl rfl rfl (Pur.asg rfl) ?_
  refine Reg.nil ?_
  refine At.loop (σ := Nat) (fun i => [(2, I i), (3, I ((n : Int) - 1 - i)), (0, .slice A n cap)]) (fun i H' => 2 * i ≤ n ∧ ((n = 0 ∧ H' = H) ∨ (A = some ⟨B, 0, none⟩ ∧ But (· = B) H H' ∧ Own H' B (revTo i xs)))) (fun i => n - i) 0 rfl ⟨rfl, (by simp; rfl), rfl, trivial⟩ ⟨by omega, ?_⟩ ?_
  · rcases h with h | ⟨h, hO⟩
    · exact .inl ⟨h, rfl⟩
    · exact .inr ⟨h, But.refl _ _, by rw [revTo_zero]; exact hO⟩
  rintro i H1 ⟨hi, hI⟩ ih
  refine At.region rfl rfl ?_
  refine Reg.pur rfl rfl rfl rfl (Pur.mv rfl) ?_
  refine Reg.pur rfl rfl rfl rfl (Pur.mv rfl) ?_
  refine Reg.pur rfl rfl rfl rfl (Pur.lss rfl rfl) ?_
  refine Reg.nil ?_
  refine At.cond rfl rfl (fun hb1 => ?_) (fun hb1 => ?_)
  · simp only [decide_eq_true_eq] at hb1
    obtain ⟨rfl, hBut, hO⟩ := hI.resolve_left (by omega)
    have hj : ((n : Int) - 1 - i).toNat = n - 1 - i := by omega
    refine At.draw (fun H' => Own H' B (revTo i xs)) [13, 15] mixed rfl rfl ?_
    refine RegD.tpur (i := 0) rfl rfl rfl rfl (by kernel_rfl) (Pur.mv rfl) ?_
    refine RegD.tpur (i := 1) rfl rfl rfl rfl (by kernel_rfl) (Pur.mv rfl) ?_
    refine RegD.tpur (i := 2) rfl rfl rfl rfl (by kernel_rfl) (Pur.mv rfl) ?_
    refine RegD.tpur (i := 3) rfl rfl rfl rfl (by kernel_rfl) (Pur.mv rfl) ?_
    refine RegD.tpur (i := 4) rfl rfl rfl rfl (by kernel_rfl) (Pur.mv rfl) ?_
    refine RegD.tpur (i := 5) rfl rfl rfl rfl (by kernel_rfl) (Pur.mv rfl) ?_
    refine RegD.tpur (i := 6) rfl rfl rfl rfl (by kernel_rfl) (Pur.idx _ es79 rfl rfl (by omega) (by omega)) ?_
    refine RegD.take (i := 7) rfl rfl rfl rfl (by kernel_rfl) hO (fun H hS => Lod.ld sc82 rfl hS.blk (revTo_at (by omega) (by omega) (by omega))) ?_
    refine RegD.tpur (i := 8) rfl rfl rfl rfl (by kernel_rfl) (Pur.mv rfl) ?_
    refine RegD.tpur (i := 9) rfl rfl rfl rfl (by kernel_rfl) (Pur.mv rfl) ?_
    refine RegD.tpur (i := 10) rfl rfl rfl rfl (by kernel_rfl) (Pur.idx _ es79 rfl rfl (by omega) (by omega)) ?_
    refine RegD.take (i := 11) rfl rfl rfl rfl (by kernel_rfl) hO (fun H hS => Lod.ld sc82 rfl hS.blk (revTo_at (by omega) (by omega) (by omega))) ?_
    refine RegD.tpur (i := 12) rfl rfl rfl rfl (by kernel_rfl) (Pur.idx _ es79 rfl rfl (by omega) (by omega)) ?_
    refine RegD.one0 (i := 13) (by kernel_rfl) rfl rfl rfl (Does.st sc82 rfl rfl (h1 _ (by omega)) hO (by simp [revTo_length]; omega)) ?_
    rintro _ H2 hu2
    refine ⟨fun h => (by cases h), ?_⟩
    refine RegD.tpur (i := 14) rfl rfl rfl rfl (by kernel_rfl) (Pur.idx _ es79 rfl rfl (by omega) (by omega)) ?_
    refine RegD.one0 (i := 15) (by kernel_rfl) rfl rfl rfl (Does.st sc82 rfl rfl (h1 _ (by omega)) hu2.own (by simp [revTo_length]; omega)) ?_
    rintro _ H3 hu3
    refine ⟨fun h => (by cases h), ?_⟩
    refine RegD.done (by kernel_rfl) ?_
    refine At.region rfl rfl ?_
    refine Reg.pur rfl rfl rfl rfl (Pur.mv rfl) ?_
    first | refine Reg.pur rfl rfl rfl rfl (Pur.add64 rfl rfl (by omega)) ?_ | refine Reg.pur rfl rfl rfl rfl (Pur.add64 rfl rfl (by assumption)) ?_ | refine Reg.pur rfl rfl rfl rfl (Pur.add rfl rfl) ?_
    refine Reg.pur rfl rfl rfl rfl (Pur.mv rfl) ?_
    first | refine Reg.pur rfl rfl rfl rfl (Pur.sub64 rfl rfl (by omega)) ?_ | refine Reg.pur rfl rfl rfl rfl (Pur.sub64 rfl rfl (by assumption)) ?_ | refine Reg.pur rfl rfl rfl rfl (Pur.sub rfl rfl) ?_
    refine Reg.pur rfl rfl rfl rfl (Pur.asg rfl) ?_
    refine Reg.pur rfl rfl rfl rfl (Pur.asg rfl) ?_
    refine Reg.nil ?_
    refine At.via (ih (i + 1) H3 ⟨by omega, .inr ⟨rfl, (hBut.trans hu2.but).trans hu3.but, ?_⟩⟩ (by omega)) ⟨lkI rfl (by omega), lkI rfl (by omega), rfl, trivial⟩
    have := hu3.own
    simp only [Int.toNat_natCast, hj, Nat.zero_add, Nat.mul_one] at this
    rw [← hn, revTo_step i xs (by omega)] at this
    exact this
  refine At.fall rfl Tryd.func94 rfl ?_
  simp only [decide_eq_false_iff_not] at hb1
  rcases hI with hI | ⟨_, h1, h2⟩
  · exact .inl hI
  · exact .inr ⟨h1, by rwa [revTo_all i xs (by omega)] at h2⟩
end Go.Proofs.YtjhkmebmbopfoaaDoor
