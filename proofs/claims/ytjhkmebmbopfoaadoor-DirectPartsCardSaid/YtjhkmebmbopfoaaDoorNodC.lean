/-
  Nodes: tree.Begin, tree.Shaped, tree.there.
-/
import Derived.Test.YtjhkmebmbopfoaaDoorNodB
namespace Go.Proofs.YtjhkmebmbopfoaaDoor
set_option linter.unusedSimpArgs false
set_option linter.unusedVariables false
set_option maxRecDepth 8000
set_option maxHeartbeats 1000000
open Go Go.Fx Go.Proofs
namespace FactsNodC
theorem ag35 : ag Tryd.prog 35 = some 10 := by kernel_rfl
theorem es23 : esz Tryd.prog 23 = some 10 := by kernel_rfl
theorem es79 : esz Tryd.prog 79 = some 1 := by kernel_rfl
theorem isl79 : isSl Tryd.prog 79 = true := by kernel_rfl
theorem sc3 : sc Tryd.prog 3 = true := by kernel_rfl
theorem sc82 : sc Tryd.prog 82 = true := by kernel_rfl
theorem zc35 : zc Tryd.prog 35 = some [.int .i64 0, .int .i64 0, .int .i64 0, .int .i64 0, .int .i64 0, .string ⟨#[]⟩, .string ⟨#[]⟩, .string ⟨#[]⟩, .string ⟨#[]⟩, .int .i64 0] := by kernel_rfl
end FactsNodC
open FactsNodC

def beK (g : Int → Int) : List Int → Int → Int
  | [], at_ => at_
  | c :: cs, at_ => if at_ - 1 < 0 ∨ c ≠ at_ - 1 then -1 else if g (at_ - 1) < 0 then -1 else beK g cs (g (at_ - 1))
def nd0 : Nd := { k := 0, a := 0, b := 0, c := 0, num := 0, nm := [], x := [], y := [], z := [], p := 0 }
abbrev eln (L : List Nd) (i : Int) : Nd := L.getD i.toNat nd0
def kvn (x : Nd) : List Int := (nkOffs x.k).reverse.map (iget x)
def beN (L : List Nd) : Nat → Int → Int
  | 0, _ => -1
  | f + 1, at_ => beK (beN L f) (kvn (eln L at_)) at_
theorem beK_le {g : Int → Int} (hg : ∀ z, 0 ≤ z → g z ≤ z) : ∀ (cs : List Int) (z : Int), 0 ≤ z → beK g cs z ≤ z
  | [], z, _ => Int.le_refl _
  | c :: cs, z, h => by
    simp only [beK]
    split
    · omega
    · split
      · omega
      · have h1 := hg (z - 1) (by omega)
        have h2 := beK_le hg cs (g (z - 1)) (by omega)
        omega
theorem beN_le (L : List Nd) : ∀ (f : Nat) (z : Int), 0 ≤ z → beN L f z ≤ z
  | 0, z, h => by simp only [beN]; omega
  | f + 1, z, h => beK_le (beN_le L f) _ z h
theorem beK_in {g : Int → Int} (hg : ∀ z, 0 ≤ z → g z ≤ z) (P : Int → Prop) (hP : ∀ z, 0 ≤ z → 0 ≤ g z → ∀ i, g z ≤ i → i ≤ z → P i) :
    ∀ (cs : List Int) (z : Int), 0 ≤ z → 0 ≤ beK g cs z → (∀ c ∈ cs, 0 ≤ c ∧ c < z) ∧ ∀ i, beK g cs z ≤ i → i < z → P i
  | [], z, h0, h => ⟨fun c hc => (by cases hc), fun i h1 h2 => by simp only [beK] at h1; omega⟩
  | c :: cs, z, h0, h => by
    simp only [beK] at h ⊢
    split at h
    · omega
    · rename_i h1
      split at h
      · omega
      · rename_i h2
        have hz := hg (z - 1) (by omega)
        rw [if_neg h1, if_neg h2]
        obtain ⟨h3, h4⟩ := beK_in hg P hP cs (g (z - 1)) (by omega) h
        refine ⟨fun d hd => ?_, fun i h5 h6 => ?_⟩
        · rcases List.mem_cons.1 hd with rfl | hd
          · omega
          · have := h3 d hd; omega
        · by_cases h7 : i < g (z - 1)
          · exact h4 i h5 h7
          · exact hP (z - 1) (by omega) (by omega) i (by omega) (by omega)
/-- every node of a part has its children ahead of it -/
theorem beN_in (L : List Nd) : ∀ (f : Nat) (z : Int), 0 ≤ z → 0 ≤ beN L f z → ∀ i, beN L f z ≤ i → i ≤ z → ∀ c ∈ kvn (eln L i), 0 ≤ c ∧ c < i
  | 0, z, h0, h => by simp only [beN] at h; omega
  | f + 1, z, h0, h => by
    intro i h1 h2
    rw [show beN L (f + 1) z = beK (beN L f) (kvn (eln L z)) z from rfl] at h h1
    obtain ⟨h3, h4⟩ := beK_in (beN_le L f) (fun i => ∀ c ∈ kvn (eln L i), 0 ≤ c ∧ c < i) (fun z h5 h6 => beN_in L f z h5 h6) (kvn (eln L z)) z h0 h
    by_cases hi : i = z
    · subst hi; exact h3
    · exact h4 i h1 (by omega)
theorem wideN (L : List Nd) : Wide eN 10 L := fun _ _ => rfl
theorem eln_get {L : List Nd} {z : Int} (h : z.toNat < L.length) : eln L z = L[z.toNat] := by simp [eln, List.getD_eq_getElem?_getD, List.getElem?_eq_getElem h]
theorem nk_rev (k : Int) {i : Nat} (h : i < (nkOffs k).length) : 1 ≤ (nkOffs k).reverse.getD i 0 ∧ (nkOffs k).reverse.getD i 0 ≤ 3 := by
  rw [List.getD_eq_getElem?_getD, List.getElem?_reverse h, ← List.getD_eq_getElem?_getD]
  exact nk_in k _ (by omega)
theorem begN_ok {A : Option Addr} {cap : Nat} (L : List Nd) : ∀ (f : Nat) (z : Int) (H : Heap), SlT H eN 10 (.slice A L.length cap) L → 0 ≤ z → z < L.length → z.toNat < f → L.length ≤ 9223372036854775807 →
    Ret Tryd.prog 66 [.slice A L.length cap, I z] H (fun v H' => v = I (beN L f z) ∧ Ext H H') := by
  intro f
  induction f with
  | zero => intro z H _ _ _ h; omega
  | succ f ihf =>
  intro z H hS hz0 hzl hzf hm
  have hzn : z.toNat < L.length := by omega
  obtain ⟨b0, o0, c0, rfl, hb0, hbl, hbd⟩ := hS.at hzn
  have hfin : beN L (f + 1) z = beK (beN L f) (kvn L[z.toNat]) z := by simp only [beN]; rw [eln_get hzn]
  generalize L[z.toNat] = x at hbd hfin
  have hk4 := nk_len x.k
  refine Ret.of_at (N := 40) Tryd.call66 Tryd.func66 rfl rfl rfl ?_
  have hE := Ext.refl H
  refine At.region rfl rfl ?_
  refine Reg.pur rfl rfl rfl rfl (Pur.asg rfl) ?_
  refine Reg.nil ?_
  refine At.region rfl rfl ?_
  refine Reg.pur rfl rfl rfl rfl (Pur.mv rfl) ?_
  refine Reg.pur rfl rfl rfl rfl (Pur.mv rfl) ?_
  refine Reg.pur rfl rfl rfl rfl (Pur.idx _ es23 rfl rfl (by omega) (by omega)) ?_
  refine Reg.lod rfl rfl rfl rfl (Lod.ldn ag35 rfl hb0 hbd rfl) ?_
  refine Reg.op rfl rfl rfl rfl (Does.alloc zc35) ?_
  rintro _ H1_4 ⟨rfl, hn1_4⟩
  have z1_4 := hn1_4.size
  replace hE := hE.ext hn1_4.ext
  have o1_4 := hn1_4.own
  refine Reg.op0 rfl rfl rfl (Does.stn ag35 rfl rfl (by first | rfl | exact ones_Is _) (by first | rfl | (simp [*]; done)) o1_4 (by first | decide | (simp; done) | (simp; omega) | omega)) ?_
  rintro _ H1_5 hu1_5
  have z1_5 := hu1_5.size
  replace hE := hE.upw hu1_5 (by omega)
  replace o1_4 := hu1_5.own
  first | rw [over (by first | rfl | (simp; done))] at o1_4 | skip
  refine Reg.nil ?_
  refine At.region rfl rfl ?_
  refine Reg.op rfl rfl rfl rfl (Does.call rfl (nkids_ok0 (k := x.k) o1_4.blk rfl)) ?_
  rintro _ H2_0 ⟨A2, rfl, hA, hE2_0⟩
  have z2_0 := hE2_0.lt
  replace hE := hE.ext hE2_0
  replace o1_4 := o1_4.ext hE2_0
  refine Reg.pur rfl rfl rfl rfl (Pur.asg rfl) ?_
  refine Reg.nil ?_
  refine At.region rfl rfl ?_
  refine Reg.pur rfl rfl rfl rfl (Pur.mv rfl) ?_
  obtain ⟨B, hBs, hA'⟩ : ∃ B, H1_5.size ≤ B ∧ ((nkOffs x.k).length = 0 ∨ (A2 = some ⟨B, 0, none⟩ ∧ Own H2_0 B ((nkOffs x.k).map (ptr H.size)))) := hA.elim (fun h => ⟨H1_5.size, Nat.le_refl _, .inl (by simpa using h)⟩) (fun ⟨B, h1, h2, h3⟩ => ⟨B, h1, .inr ⟨h2, h3⟩⟩)
  refine Reg.op rfl rfl rfl rfl (Does.call rfl (reverse_ok (B := B) (xs := (nkOffs x.k).map (ptr H.size)) (A := A2) (by simp) (by omega) (fun i h ↦ by simp [h, Value.oneCell']) hA')) ?_
  rintro _ H5 hr5
  refine Reg.nil ?_
  have hlt5 := o1_4.lt
  obtain ⟨hE5, hB5, hO5⟩ : Ext H H5 ∧ Own H5 H.size (eN x) ∧ ((nkOffs x.k).reverse.length = 0 ∨ (A2 = some ⟨B, 0, none⟩ ∧ Own H5 B ((nkOffs x.k).reverse.map (ptr H.size)))) := by
    rcases hr5 with ⟨h1, rfl⟩ | ⟨h1, h2⟩
    · exact ⟨hE, o1_4, .inl (by simpa using h1)⟩
    · refine ⟨hE.trBut h1 (fun b hb h => by omega), o1_4.but h1 (by omega), ?_⟩
      rcases hA' with h | ⟨h, _⟩
      · exact .inl (by simpa using h)
      · exact .inr ⟨h, by rwa [List.map_reverse]⟩
  refine At.region rfl rfl ?_
  refine Reg.pur rfl rfl rfl rfl (Pur.mv rfl) ?_
  refine Reg.pur rfl rfl rfl rfl (Pur.lenS isl79 rfl) ?_
  refine Reg.pur rfl rfl rfl rfl (Pur.mv rfl) ?_
  refine Reg.nil ?_
  have hkv : kvn x = (nkOffs x.k).reverse.map (iget x) := rfl
  rw [hkv] at hfin
  clear hkv hA hA' hr5 o1_4 hE
  refine At.loop (σ := Nat × Int) (fun s => [(18, I s.1), (16, .slice A2 (nkOffs x.k).length (nkOffs x.k).length), (17, I (nkOffs x.k).length), (1, I s.2), (0, .slice (some ⟨b0, o0, none⟩) L.length cap)]) (fun s H' => s.1 ≤ (nkOffs x.k).length ∧ 0 ≤ s.2 ∧ s.2 ≤ z ∧ Own H' H.size (eN x) ∧ ((nkOffs x.k).reverse.length = 0 ∨ (A2 = some ⟨B, 0, none⟩ ∧ Own H' B ((nkOffs x.k).reverse.map (ptr H.size)))) ∧ Ext H H' ∧ beK (beN L f) (((nkOffs x.k).reverse.drop s.1).map (iget x)) s.2 = beN L (f + 1) z) (fun s => (nkOffs x.k).length - s.1) (0, z) rfl ⟨rfl, rfl, rfl, rfl, rfl, trivial⟩ ⟨by omega, hz0, by simp, hB5, hO5, hE5, by rw [hfin]; rfl⟩ ?_
  rintro ⟨i, y⟩ H6 ⟨hi, hy0, hyz, o1_4, hA, hE, hgo⟩ ih
  dsimp only at hi hy0 hyz o1_4 hA hE hgo ⊢
  refine At.region rfl rfl ?_
  refine Reg.pur rfl rfl rfl rfl (Pur.lss rfl rfl) ?_
  refine Reg.nil ?_
  refine At.cond rfl rfl (fun q19 => ?_) (fun q19 => ?_)
  · first | (simp only [decide_eq_true_eq, decide_eq_false_iff_not, Bool.not_eq_true', Bool.not_eq_false', ne_eq, Decidable.not_not, Bool.not_eq_true, Bool.not_eq_false] at q19) | (dsimp only at q19) | skip
    have hlt : i < (nkOffs x.k).length := by omega
    have hlr : i < (nkOffs x.k).reverse.length := by simpa using hlt
    obtain ⟨rfl, hO⟩ := hA.resolve_left (by omega)
    have ho9 := nk_rev x.k hlt
    rw [drop_getD hlr, List.map_cons, beK] at hgo
    refine At.region rfl rfl ?_
    refine Reg.pur rfl rfl rfl rfl (Pur.idx _ es79 rfl rfl (by omega) (by omega)) ?_
    refine Reg.lod rfl rfl rfl rfl (Lod.ld sc82 rfl hO.blk (ptr_at hlr)) ?_
    refine Reg.pur rfl rfl rfl rfl (Pur.asg rfl) ?_
    refine Reg.nil ?_
    refine At.region rfl rfl ?_
    refine Reg.pur rfl rfl rfl rfl (Pur.mv rfl) ?_
    refine Reg.pur rfl rfl rfl rfl (Pur.sub64 rfl rfl (by omega)) ?_
    refine Reg.pur rfl rfl rfl rfl (Pur.asg rfl) ?_
    refine Reg.nil ?_
    refine At.region rfl rfl ?_
    refine Reg.pur rfl rfl rfl rfl (Pur.mv rfl) ?_
    refine Reg.pur rfl rfl rfl rfl (Pur.lss rfl rfl) ?_
    refine Reg.pur rfl rfl rfl rfl (Pur.mv rfl) ?_
    refine Reg.case 26 rfl (fun q26 => ?_) (fun q26 => ?_)
    · first | (simp only [decide_eq_true_eq, decide_eq_false_iff_not, Bool.not_eq_true', Bool.not_eq_false', ne_eq, Decidable.not_not, Bool.not_eq_true, Bool.not_eq_false] at q26) | (dsimp only at q26) | skip
      refine Reg.skip rfl rfl rfl rfl rfl rfl rfl ?_
      refine Reg.skip rfl rfl rfl rfl rfl rfl rfl ?_
      refine Reg.skip rfl rfl rfl rfl rfl rfl rfl ?_
      refine Reg.skip rfl rfl rfl rfl rfl rfl rfl ?_
      refine Reg.skip rfl rfl rfl rfl rfl rfl rfl ?_
      refine Reg.pur rfl rfl rfl rfl (Pur.pickT rfl rfl) ?_
      refine Reg.nil ?_
      refine At.condT rfl rfl rfl ?_
      refine At.region rfl rfl ?_
      refine Reg.pur rfl rfl rfl rfl (Pur.asg rfl) ?_
      refine Reg.nil ?_
      refine At.ret rfl Tryd.func66 rfl ?_
      exact ⟨by rw [← hgo, if_pos (by omega)], hE⟩
    first | (simp only [decide_eq_true_eq, decide_eq_false_iff_not, Bool.not_eq_true', Bool.not_eq_false', ne_eq, Decidable.not_not, Bool.not_eq_true, Bool.not_eq_false] at q26) | (dsimp only at q26) | skip
    refine Reg.gpur rfl rfl rfl rfl rfl rfl (Pur.mv rfl) ?_
    refine Reg.gpur rfl rfl rfl rfl rfl rfl (Pur.nilc rfl) ?_
    refine Reg.glod rfl rfl rfl rfl rfl rfl (Lod.ld sc3 rfl o1_4.blk (eN_int ho9)) ?_
    refine Reg.gpur rfl rfl rfl rfl rfl rfl (Pur.mv rfl) ?_
    refine Reg.gpur rfl rfl rfl rfl rfl rfl (Pur.neq rfl rfl) ?_
    refine Reg.pur rfl rfl rfl rfl (Pur.pickF rfl rfl) ?_
    refine Reg.nil ?_
    refine At.cond rfl rfl (fun q32 => ?_) (fun q32 => ?_)
    · first | (simp only [decide_eq_true_eq, decide_eq_false_iff_not, Bool.not_eq_true', Bool.not_eq_false', ne_eq, Decidable.not_not, Bool.not_eq_true, Bool.not_eq_false] at q32) | (dsimp only at q32) | skip
      refine At.region rfl rfl ?_
      refine Reg.pur rfl rfl rfl rfl (Pur.asg rfl) ?_
      refine Reg.nil ?_
      refine At.ret rfl Tryd.func66 rfl ?_
      exact ⟨by rw [← hgo, if_pos (by omega)], hE⟩
    first | (simp only [decide_eq_true_eq, decide_eq_false_iff_not, Bool.not_eq_true', Bool.not_eq_false', ne_eq, Decidable.not_not, Bool.not_eq_true, Bool.not_eq_false] at q32) | (dsimp only at q32) | skip
    rw [if_neg (by omega)] at hgo
    refine At.region rfl rfl ?_
    refine Reg.pur rfl rfl rfl rfl (Pur.mv rfl) ?_
    refine Reg.pur rfl rfl rfl rfl (Pur.mv rfl) ?_
    refine Reg.op rfl rfl rfl rfl (Does.call rfl (ihf (y - 1) H6 (hS.ext hE) (by omega) (by omega) (by omega) hm)) ?_
    rintro _ H7 ⟨rfl, hE7⟩
    have z10_2 := hE7.lt
    replace hE := hE.ext hE7
    replace o1_4 := o1_4.ext hE7
    refine Reg.pur rfl rfl rfl rfl (Pur.asg rfl) ?_
    refine Reg.nil ?_
    refine At.region rfl rfl ?_
    refine Reg.pur rfl rfl rfl rfl (Pur.mv rfl) ?_
    refine Reg.pur rfl rfl rfl rfl (Pur.lss rfl rfl) ?_
    refine Reg.nil ?_
    refine At.cond rfl rfl (fun q37 => ?_) (fun q37 => ?_)
    · first | (simp only [decide_eq_true_eq, decide_eq_false_iff_not, Bool.not_eq_true', Bool.not_eq_false', ne_eq, Decidable.not_not, Bool.not_eq_true, Bool.not_eq_false] at q37) | (dsimp only at q37) | skip
      refine At.region rfl rfl ?_
      refine Reg.pur rfl rfl rfl rfl (Pur.asg rfl) ?_
      refine Reg.nil ?_
      refine At.ret rfl Tryd.func66 rfl ?_
      exact ⟨by rw [← hgo, if_pos (by omega)], hE⟩
    first | (simp only [decide_eq_true_eq, decide_eq_false_iff_not, Bool.not_eq_true', Bool.not_eq_false', ne_eq, Decidable.not_not, Bool.not_eq_true, Bool.not_eq_false] at q37) | (dsimp only at q37) | skip
    refine At.region rfl rfl ?_
    refine Reg.pur rfl rfl rfl rfl (Pur.add64 rfl rfl (by omega)) ?_
    refine Reg.pur rfl rfl rfl rfl (Pur.mv rfl) ?_
    refine Reg.nil ?_
    have hle := beN_le L f (y - 1) (by omega)
    rw [if_neg (by omega)] at hgo
    exact At.meets rfl (ih (i + 1, beN L f (y - 1)) H7 ⟨by omega, by omega, by omega, o1_4, .inr ⟨by trivial, hO.ext hE7⟩, hE, hgo⟩ (by simp only; omega)) ⟨rfl, rfl, rfl, rfl, rfl, trivial⟩
  first | (simp only [decide_eq_true_eq, decide_eq_false_iff_not, Bool.not_eq_true', Bool.not_eq_false', ne_eq, Decidable.not_not, Bool.not_eq_true, Bool.not_eq_false] at q19) | (dsimp only at q19) | skip
  refine At.region rfl rfl ?_
  refine Reg.pur rfl rfl rfl rfl (Pur.mv rfl) ?_
  refine Reg.pur rfl rfl rfl rfl (Pur.asg rfl) ?_
  refine Reg.nil ?_
  refine At.ret rfl Tryd.func66 rfl ?_
  exact ⟨by rw [← hgo, List.drop_of_length_le (by simp; omega)]; rfl, hE⟩
end Go.Proofs.YtjhkmebmbopfoaaDoor
