/-
  target.begin, and what the reference has of it.
-/
import Derived.Test.YtjhkmebmbopfoaaTgtC
namespace Go.Proofs.Ytjhkmebmbopfoaa
set_option linter.unusedSimpArgs false
set_option linter.unusedVariables false
set_option maxRecDepth 8000
open Go Go.Fx Go.Proofs
namespace FactsTgtD
theorem ag37 : ag Try.prog 37 = some 9 := by kernel_rfl
theorem es22 : esz Try.prog 22 = some 9 := by kernel_rfl
theorem es80 : esz Try.prog 80 = some 1 := by kernel_rfl
theorem isl80 : isSl Try.prog 80 = true := by kernel_rfl
theorem sc3 : sc Try.prog 3 = true := by kernel_rfl
theorem sc83 : sc Try.prog 83 = true := by kernel_rfl
theorem zc37 : zc Try.prog 37 = some [.int .i64 0, .int .i64 0, .int .i64 0, .int .i64 0, .int .i64 0, .int .i64 0, .int .i64 0, .int .i64 0, .int .i64 0] := by kernel_rfl
end FactsTgtD
open FactsTgtD

def bgK (g : Int → Int) : List Int → Int → Int
  | [], at_ => at_
  | c :: cs, at_ => if at_ - 1 < 0 ∨ c ≠ at_ - 1 then -1 else if g (at_ - 1) < 0 then -1 else bgK g cs (g (at_ - 1))
abbrev el (L : List (List Int)) (i : Int) : List Int := L.getD i.toNat []
def kv (x : List Int) : List Int := (kidOffs (x.getD 0 0)).reverse.map (x.getD · 0)
def bg (L : List (List Int)) : Nat → Int → Int
  | 0, _ => -1
  | f + 1, at_ => bgK (bg L f) (kv (el L at_)) at_
theorem bgK_le {g : Int → Int} (hg : ∀ z, 0 ≤ z → g z ≤ z) : ∀ (cs : List Int) (z : Int), 0 ≤ z → bgK g cs z ≤ z
  | [], z, _ => Int.le_refl _
  | c :: cs, z, h => by
    simp only [bgK]
    split
    · omega
    · split
      · omega
      · have h1 := hg (z - 1) (by omega)
        have h2 := bgK_le hg cs (g (z - 1)) (by omega)
        omega
theorem bg_le (L : List (List Int)) : ∀ (f : Nat) (z : Int), 0 ≤ z → bg L f z ≤ z
  | 0, z, h => by simp only [bg]; omega
  | f + 1, z, h => bgK_le (bg_le L f) _ z h
theorem ones_Is (x : List Int) : ones (Is x) = true := by simp [ones, Is, Value.oneCell']
theorem _root_.Go.Fx.Ext.trBut {A B C : Heap} {S : Nat → Prop} (h : Ext A B) (k : But S B C) (hs : ∀ b, b < A.size → ¬ S b) : Ext A C :=
  ⟨Nat.le_trans h.1 k.1, fun b hb => (k.2 b (Nat.lt_of_lt_of_le hb h.1) (hs b hb)).trans (h.2 b hb)⟩

theorem begin_ok {A : Option Addr} {cap : Nat} (L : List (List Int)) (hL : ∀ x ∈ L, x.length = 9) : ∀ (f : Nat) (z : Int) (H : Heap), SlT H Is 9 (.slice A L.length cap) L → 0 ≤ z → z < L.length → z.toNat < f → L.length ≤ 9223372036854775807 →
    Ret Try.prog 26 [.slice A L.length cap, I z] H (fun v H' => v = I (bg L f z) ∧ Ext H H') := by
  intro f
  induction f with
  | zero => intro z H _ _ _ h; omega
  | succ f ihf =>
  intro z H hS hz0 hzl hzf hm
  have hzn : z.toNat < L.length := by omega
  obtain ⟨b0, o0, c0, rfl, hb0, hbl, hbd⟩ := hS.at hzn
  have hx9 := hL _ (List.getElem_mem hzn)
  have hel : el L z = L[z.toNat] := by simp [el, List.getD_eq_getElem?_getD, List.getElem?_eq_getElem hzn]
  have hfin : bg L (f + 1) z = bgK (bg L f) (kv L[z.toNat]) z := by simp only [bg]; rw [hel]
  generalize L[z.toNat] = x at hbd hx9 hfin
  obtain ⟨k, hk0⟩ : ∃ k, k = x.getD 0 0 := ⟨_, rfl⟩
  obtain ⟨hk4, hkt9⟩ := kidOffs_lt k
  refine Ret.of_at (N := 40) Try.call26 Try.func26 rfl rfl rfl ?_
  refine At.region rfl rfl ?_
  refine Reg.pur rfl rfl rfl rfl (Pur.asg rfl) ?_
  refine Reg.nil ?_
  refine At.region rfl rfl ?_
  refine Reg.pur rfl rfl rfl rfl (Pur.mv rfl) ?_
  refine Reg.pur rfl rfl rfl rfl (Pur.mv rfl) ?_
  refine Reg.pur rfl rfl rfl rfl (Pur.idx _ es22 rfl rfl (by omega) (by omega)) ?_
  refine Reg.lod rfl rfl rfl rfl (Lod.ldn ag37 rfl hb0 hbd (by simp [Is, hx9])) ?_
  refine Reg.op rfl rfl rfl rfl (Does.alloc zc37) ?_
  rintro _ H1 ⟨rfl, hn1⟩
  refine Reg.op0 rfl rfl rfl (Does.stn ag37 rfl rfl (ones_Is x) (by simp [Is, hx9]) hn1.own (by decide)) ?_
  rintro _ H2 hu2
  refine Reg.nil ?_
  have hB : Own H2 H.size (Is x) := by have := hu2.own; rwa [List.take_zero, List.nil_append, List.drop_of_length_le (by decide), List.append_nil] at this
  have hE2 : Ext H H2 := hn1.ext.upd hu2 (Nat.le_refl _)
  refine At.region rfl rfl ?_
  refine Reg.op rfl rfl rfl rfl (Does.call rfl (kids_ok0 (k := k) hB.blk (by rw [hk0]; exact at_Is (by omega)))) ?_
  rintro _ H4 ⟨hE4, A2, rfl, hA0⟩
  refine Reg.pur rfl rfl rfl rfl (Pur.asg rfl) ?_
  refine Reg.nil ?_
  have hB := hB.ext hE4
  obtain ⟨B, hBs, hA⟩ : ∃ B, H2.size ≤ B ∧ ((kidOffs k).length = 0 ∨ (A2 = some ⟨B, 0, none⟩ ∧ Own H4 B ((kidOffs k).map (ptr H.size)))) := hA0.elim (fun h => ⟨H2.size, Nat.le_refl _, .inl h⟩) (fun ⟨B, h1, h2, h3⟩ => ⟨B, h1, .inr ⟨h2, h3⟩⟩)
  clear hA0
  refine At.region rfl rfl ?_
  refine Reg.pur rfl rfl rfl rfl (Pur.mv rfl) ?_
  refine Reg.op rfl rfl rfl rfl (Does.call rfl (reverse_ok (B := B) (xs := (kidOffs k).map (ptr H.size)) (A := A2) (by simp) (by omega) (fun i h ↦ by simp [h, Value.oneCell']) hA)) ?_
  rintro _ H5 hr5
  refine Reg.nil ?_
  have hlt2 := hn1.own.lt
  have hlt3 := hu2.own.lt
  obtain ⟨hE5, hB5, hO5⟩ : Ext H H5 ∧ Own H5 H.size (Is x) ∧ ((kidOffs k).reverse.length = 0 ∨ (A2 = some ⟨B, 0, none⟩ ∧ Own H5 B ((kidOffs k).reverse.map (ptr H.size)))) := by
    rcases hr5 with ⟨h1, rfl⟩ | ⟨h1, h2⟩
    · exact ⟨hE2.trans hE4, hB, .inl (by simpa using h1)⟩
    · refine ⟨(hE2.trans hE4).trBut h1 (fun b hb h => by omega), hB.but h1 (by omega), ?_⟩
      rcases hA with h | ⟨h, _⟩
      · exact .inl (by simpa using h)
      · exact .inr ⟨h, by rwa [List.map_reverse]⟩
  refine At.region rfl rfl ?_
  refine Reg.pur rfl rfl rfl rfl (Pur.mv rfl) ?_
  refine Reg.pur rfl rfl rfl rfl (Pur.lenS isl80 rfl) ?_
  refine Reg.pur rfl rfl rfl rfl (Pur.mv rfl) ?_
  refine Reg.nil ?_
  have hkv : kv x = (kidOffs k).reverse.map (x.getD · 0) := by rw [hk0]; rfl
  rw [hkv] at hfin
  clear hkv hA hr5
  refine At.loop (σ := Nat × Int) (fun s => [(18, I s.1), (16, .slice A2 (kidOffs k).length (kidOffs k).length), (17, I (kidOffs k).length), (1, I s.2), (0, .slice (some ⟨b0, o0, none⟩) L.length cap)]) (fun s H' => s.1 ≤ (kidOffs k).length ∧ 0 ≤ s.2 ∧ s.2 ≤ z ∧ Own H' H.size (Is x) ∧ ((kidOffs k).length = 0 ∨ (A2 = some ⟨B, 0, none⟩ ∧ Own H' B ((kidOffs k).reverse.map (ptr H.size)))) ∧ Ext H H' ∧ bgK (bg L f) (((kidOffs k).reverse.drop s.1).map (x.getD · 0)) s.2 = bg L (f + 1) z) (fun s => (kidOffs k).length - s.1) (0, z) rfl ⟨rfl, rfl, rfl, rfl, rfl, trivial⟩ ⟨by omega, hz0, by simp, hB5, by simpa using hO5, hE5, by rw [hfin]; rfl⟩ ?_
  rintro ⟨i, y⟩ H6 ⟨hi, hy0, hyz, hB, hA, hE, hgo⟩ ih
  dsimp only at hi hy0 hyz hB hA hE hgo ⊢
  refine At.region rfl rfl ?_
  refine Reg.pur rfl rfl rfl rfl (Pur.lss rfl rfl) ?_
  refine Reg.nil ?_
  refine At.cond rfl rfl (fun hb1 => ?_) (fun hb1 => ?_)
  · simp only [decide_eq_true_eq] at hb1
    have hlt : i < (kidOffs k).length := by omega
    obtain ⟨rfl, hO⟩ := hA.resolve_left (by omega)
    have hlr : i < (kidOffs k).reverse.length := by simpa using hlt
    have ho9 : (kidOffs k).reverse.getD i 0 < 9 := by rw [List.getD_eq_getElem?_getD, List.getElem?_reverse hlt, ← List.getD_eq_getElem?_getD]; exact (hkt9 _ (by omega)).1
    rw [drop_getD hlr, List.map_cons, bgK] at hgo
    refine At.region rfl rfl ?_
    refine Reg.pur rfl rfl rfl rfl (Pur.idx _ es80 rfl rfl (by omega) hb1) ?_
    refine Reg.lod rfl rfl rfl rfl (Lod.ld sc83 rfl hO.blk (ptr_at hlr)) ?_
    refine Reg.pur rfl rfl rfl rfl (Pur.asg rfl) ?_
    refine Reg.nil ?_
    refine At.region rfl rfl ?_
    refine Reg.pur rfl rfl rfl rfl (Pur.mv rfl) ?_
    first | refine Reg.pur rfl rfl rfl rfl (Pur.sub64 rfl rfl (by omega)) ?_ | refine Reg.pur rfl rfl rfl rfl (Pur.sub64 rfl rfl (by assumption)) ?_ | refine Reg.pur rfl rfl rfl rfl (Pur.sub rfl rfl) ?_
    refine Reg.pur rfl rfl rfl rfl (Pur.asg rfl) ?_
    refine Reg.nil ?_
    refine At.region rfl rfl ?_
    refine Reg.pur rfl rfl rfl rfl (Pur.mv rfl) ?_
    refine Reg.pur rfl rfl rfl rfl (Pur.lss rfl rfl) ?_
    refine Reg.pur rfl rfl rfl rfl (Pur.mv rfl) ?_
    refine Reg.case 26 rfl (fun hc2 => ?_) (fun hc2 => ?_)
    · refine Reg.skip rfl rfl rfl rfl rfl rfl rfl ?_
      refine Reg.skip rfl rfl rfl rfl rfl rfl rfl ?_
      refine Reg.skip rfl rfl rfl rfl rfl rfl rfl ?_
      refine Reg.skip rfl rfl rfl rfl rfl rfl rfl ?_
      refine Reg.skip rfl rfl rfl rfl rfl rfl rfl ?_
      refine Reg.pur rfl rfl rfl rfl (Pur.pickT rfl rfl) ?_
      refine Reg.nil ?_
      refine At.condT rfl rfl rfl ?_
      refine At.region rfl rfl ?_
      refine Reg.pur rfl rfl rfl rfl (Pur.asg rfl) ?_
      refine Reg.nil ?_
      refine At.ret rfl Try.func26 rfl ?_
      first | exact ⟨by rw [← hgo, List.drop_of_length_le (by simp only [decide_eq_false_iff_not] at *; simp; omega)]; rfl, hE⟩ | exact ⟨by rw [← hgo, if_pos (by simp only [decide_eq_true_eq] at *; omega)], hE⟩ | exact ⟨by simp only [decide_eq_true_eq, decide_eq_false_iff_not] at *; rw [← hgo, if_pos (by omega)], hE.trans hE7⟩
    refine Reg.gpur rfl rfl rfl rfl rfl rfl (Pur.mv rfl) ?_
    refine Reg.gpur rfl rfl rfl rfl rfl rfl (Pur.nilc rfl) ?_
    refine Reg.glod rfl rfl rfl rfl rfl rfl (Lod.ld sc3 rfl hB.blk (at_Is (by omega))) ?_
    refine Reg.gpur rfl rfl rfl rfl rfl rfl (Pur.mv rfl) ?_
    refine Reg.gpur rfl rfl rfl rfl rfl rfl (Pur.neq rfl rfl) ?_
    refine Reg.pur rfl rfl rfl rfl (Pur.pickF rfl rfl) ?_
    refine Reg.nil ?_
    refine At.cond rfl rfl (fun hb3 => ?_) (fun hb3 => ?_)
    · refine At.region rfl rfl ?_
      refine Reg.pur rfl rfl rfl rfl (Pur.asg rfl) ?_
      refine Reg.nil ?_
      refine At.ret rfl Try.func26 rfl ?_
      first | exact ⟨by rw [← hgo, List.drop_of_length_le (by simp only [decide_eq_false_iff_not] at *; simp; omega)]; rfl, hE⟩ | exact ⟨by rw [← hgo, if_pos (by simp only [decide_eq_true_eq] at *; omega)], hE⟩ | exact ⟨by simp only [decide_eq_true_eq, decide_eq_false_iff_not] at *; rw [← hgo, if_pos (by omega)], hE.trans hE7⟩
    simp only [decide_eq_true_eq, decide_eq_false_iff_not] at *
    rw [if_neg (by omega)] at hgo
    refine At.region rfl rfl ?_
    refine Reg.pur rfl rfl rfl rfl (Pur.mv rfl) ?_
    refine Reg.pur rfl rfl rfl rfl (Pur.mv rfl) ?_
    refine Reg.op rfl rfl rfl rfl (Does.call rfl (ihf (y - 1) H6 (hS.ext hE) (by omega) (by omega) (by omega) hm)) ?_
    rintro _ H7 ⟨rfl, hE7⟩
    refine Reg.pur rfl rfl rfl rfl (Pur.asg rfl) ?_
    refine Reg.nil ?_
    refine At.region rfl rfl ?_
    refine Reg.pur rfl rfl rfl rfl (Pur.mv rfl) ?_
    refine Reg.pur rfl rfl rfl rfl (Pur.lss rfl rfl) ?_
    refine Reg.nil ?_
    refine At.cond rfl rfl (fun hb4 => ?_) (fun hb4 => ?_)
    · refine At.region rfl rfl ?_
      refine Reg.pur rfl rfl rfl rfl (Pur.asg rfl) ?_
      refine Reg.nil ?_
      refine At.ret rfl Try.func26 rfl ?_
      first | exact ⟨by rw [← hgo, List.drop_of_length_le (by simp only [decide_eq_false_iff_not] at *; simp; omega)]; rfl, hE⟩ | exact ⟨by rw [← hgo, if_pos (by simp only [decide_eq_true_eq] at *; omega)], hE⟩ | exact ⟨by simp only [decide_eq_true_eq, decide_eq_false_iff_not] at *; rw [← hgo, if_pos (by omega)], hE.trans hE7⟩
    refine At.region rfl rfl ?_
    first | refine Reg.pur rfl rfl rfl rfl (Pur.add64 rfl rfl (by omega)) ?_ | refine Reg.pur rfl rfl rfl rfl (Pur.add64 rfl rfl (by assumption)) ?_ | refine Reg.pur rfl rfl rfl rfl (Pur.add rfl rfl) ?_
    refine Reg.pur rfl rfl rfl rfl (Pur.mv rfl) ?_
    refine Reg.nil ?_
    simp only [decide_eq_true_eq, decide_eq_false_iff_not] at *
    have hle := bg_le L f (y - 1) (by omega)
    rw [if_neg (by omega)] at hgo
    refine At.via (ih (i + 1, bg L f (y - 1)) H7 ⟨by omega, by omega, by omega, hB.ext hE7, .inr ⟨by trivial, hO.ext hE7⟩, hE.trans hE7, hgo⟩ (by simp only; omega)) ⟨rfl, rfl, rfl, rfl, rfl, trivial⟩
  refine At.region rfl rfl ?_
  refine Reg.pur rfl rfl rfl rfl (Pur.mv rfl) ?_
  refine Reg.pur rfl rfl rfl rfl (Pur.asg rfl) ?_
  refine Reg.nil ?_
  refine At.ret rfl Try.func26 rfl ?_
  first | exact ⟨by rw [← hgo, List.drop_of_length_le (by simp only [decide_eq_false_iff_not] at *; simp; omega)]; rfl, hE⟩ | exact ⟨by rw [← hgo, if_pos (by simp only [decide_eq_true_eq] at *; omega)], hE⟩ | exact ⟨by simp only [decide_eq_true_eq, decide_eq_false_iff_not] at *; rw [← hgo, if_pos (by omega)], hE.trans hE7⟩
end Go.Proofs.Ytjhkmebmbopfoaa
