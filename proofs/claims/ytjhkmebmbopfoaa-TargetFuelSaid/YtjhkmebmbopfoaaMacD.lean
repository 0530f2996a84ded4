/-
  Chapter 21, plain: a term's children stand ahead of it; what may stand stays so.
-/
import Derived.Test.YtjhkmebmbopfoaaMacA
import Derived.Test.YtjhkmebmbopfoaaTgtG
namespace Go.Proofs.Ytjhkmebmbopfoaa
set_option linter.unusedSimpArgs false
set_option linter.unusedVariables false
set_option maxRecDepth 8000
open Go Go.Fx Go.Proofs
namespace FactsMacD

end FactsMacD
open FactsMacD

theorem bgK_in {g : Int → Int} (hg : ∀ z, 0 ≤ z → g z ≤ z) (P : Int → Prop) (hP : ∀ z, 0 ≤ z → 0 ≤ g z → ∀ i, g z ≤ i → i ≤ z → P i) :
    ∀ (cs : List Int) (z : Int), 0 ≤ z → 0 ≤ bgK g cs z → (∀ c ∈ cs, 0 ≤ c ∧ c < z) ∧ ∀ i, bgK g cs z ≤ i → i < z → P i
  | [], z, h0, h => ⟨fun c hc => (by cases hc), fun i h1 h2 => by simp only [bgK] at h1; omega⟩
  | c :: cs, z, h0, h => by
    simp only [bgK] at h ⊢
    split at h
    · omega
    · rename_i h1
      split at h
      · omega
      · rename_i h2
        have hz := hg (z - 1) (by omega)
        rw [if_neg h1, if_neg h2]
        obtain ⟨h3, h4⟩ := bgK_in hg P hP cs (g (z - 1)) (by omega) h
        refine ⟨fun d hd => ?_, fun i h5 h6 => ?_⟩
        · rcases List.mem_cons.1 hd with rfl | hd
          · omega
          · have := h3 d hd; omega
        · by_cases h7 : i < g (z - 1)
          · exact h4 i h5 h7
          · exact hP (z - 1) (by omega) (by omega) i (by omega) (by omega)
/-- every node of a part has its children ahead of it -/
theorem bg_in (L : List (List Int)) : ∀ (f : Nat) (z : Int), 0 ≤ z → 0 ≤ bg L f z → ∀ i, bg L f z ≤ i → i ≤ z → ∀ c ∈ kv (el L i), 0 ≤ c ∧ c < i
  | 0, z, h0, h => by simp only [bg] at h; omega
  | f + 1, z, h0, h => by
    intro i h1 h2
    rw [show bg L (f + 1) z = bgK (bg L f) (kv (el L z)) z from rfl] at h h1
    obtain ⟨h3, h4⟩ := bgK_in (bg_le L f) (fun i => ∀ c ∈ kv (el L i), 0 ≤ c ∧ c < i) (fun z h5 h6 => bg_in L f z h5 h6) (kv (el L z)) z h0 h
    by_cases hi : i = z
    · subst hi; exact h3
    · exact h4 i h1 (by omega)
/-- a term that may be -/
structure Tm (L : List (List Int)) : Prop where
  n1 : 1 ≤ L.length
  n2 : L.length ≤ 8192
  may : ∀ i : Int, 0 ≤ i → i < L.length → mayT (el L i) = true
  kid : ∀ i : Int, 0 ≤ i → i < L.length → ∀ c ∈ kv (el L i), 0 ≤ c ∧ c < i
theorem tm_of {L : List (List Int)} (h : mayS L = true) : Tm L := by
  unfold mayS at h
  simp only [Bool.and_eq_true, decide_eq_true_eq] at h
  obtain ⟨⟨⟨h1, h2⟩, h3⟩, h4⟩ := h
  refine ⟨h1, h2, fun i hi hl => ?_, fun i hi hl => ?_⟩
  · have : i.toNat < L.length := by omega
    rw [show el L i = L[i.toNat] by simp [el, List.getD_eq_getElem?_getD, this]]
    exact List.all_eq_true.1 h3 _ (List.getElem_mem this)
  · exact bg_in L L.length ((L.length : Int) - 1) (by omega) (by omega) i (by omega) (by omega)
theorem may_kind {x : List Int} (h : mayT x = true) : 0 ≤ x.getD 0 0 ∧ x.getD 0 0 ≤ 12 := by
  unfold mayT at h
  simp only at h
  split at h
  · cases h
  · omega
theorem kidA {x : List Int} (h3 : 3 ≤ x.getD 0 0) (h12 : x.getD 0 0 ≤ 12) : x.getD 1 0 ∈ kv x := by
  unfold kv kidOffs
  split
  · simp
  · split
    · simp
    · split
      · simp
      · omega
theorem kidB {x : List Int} (h : x.getD 0 0 = 5 ∨ x.getD 0 0 = 6 ∨ x.getD 0 0 = 7 ∨ x.getD 0 0 = 8 ∨ x.getD 0 0 = 10 ∨ x.getD 0 0 = 11 ∨ x.getD 0 0 = 12) : x.getD 2 0 ∈ kv x := by
  unfold kv kidOffs
  split
  · omega
  · split
    · simp
    · split
      · simp
      · omega
theorem kidC {x : List Int} (h : x.getD 0 0 = 7 ∨ x.getD 0 0 = 12) : x.getD 3 0 ∈ kv x := by
  unfold kv kidOffs
  rw [if_neg (by omega), if_neg (by omega), if_pos h]
  simp
section tm
variable {L : List (List Int)} (hT : Tm L) {i : Int} (h0 : 0 ≤ i) (h1 : i < L.length)
include hT h0 h1
theorem Tm.kind : 0 ≤ (el L i).getD 0 0 ∧ (el L i).getD 0 0 ≤ 12 := may_kind (hT.may i h0 h1)
theorem Tm.A (h : 3 ≤ (el L i).getD 0 0) : 0 ≤ (el L i).getD 1 0 ∧ (el L i).getD 1 0 < L.length := by
  have := hT.kid i h0 h1 _ (kidA h (hT.kind h0 h1).2); omega
theorem Tm.B (h : (el L i).getD 0 0 = 5 ∨ (el L i).getD 0 0 = 6 ∨ (el L i).getD 0 0 = 7 ∨ (el L i).getD 0 0 = 8 ∨ (el L i).getD 0 0 = 10 ∨ (el L i).getD 0 0 = 11 ∨ (el L i).getD 0 0 = 12) : 0 ≤ (el L i).getD 2 0 ∧ (el L i).getD 2 0 < L.length := by
  have := hT.kid i h0 h1 _ (kidB h); omega
theorem Tm.C (h : (el L i).getD 0 0 = 7 ∨ (el L i).getD 0 0 = 12) : 0 ≤ (el L i).getD 3 0 ∧ (el L i).getD 3 0 < L.length := by
  have := hT.kid i h0 h1 _ (kidC h); omega
end tm
/-! ### what may stand stays so -/
def nd (L : List (List Int)) (i : Int) : Prop := 0 ≤ i ∧ i < L.length
def Fr.ok (L : List (List Int)) (f : Fr) : Prop :=
  (f.wait = 0 ∧ nd L f.node ∧ 5 ≤ (el L f.node).getD 0 0 ∧ f.env.isE L) ∨
  (f.wait = 1 ∧ nd L f.node ∧ ((el L f.node).getD 0 0 = 5 ∨ (el L f.node).getD 0 0 = 8 ∨ (el L f.node).getD 0 0 = 10) ∧ f.env = .nil ∧ f.had.isV L) ∨
  (f.wait = 2 ∧ f.node = 0 ∧ f.env = .nil ∧ f.had.isV L)
def Frs (L : List (List Int)) (l : List Fr) : Prop := ∀ f ∈ l, f.ok L
abbrev St.ok (L : List (List Int)) : St → Prop
  | .ev fr node env => Frs L fr ∧ nd L node ∧ env.isE L
  | .gv fr v => Frs L fr ∧ v.isV L
theorem findN_isV {L : List (List Int)} {k : Int} : ∀ {e : T}, e.isE L → findN e k ≠ .nil → (findN e k).isV L
  | .nil, _, h => (h rfl).elim
  | .env v n o, he, h => by
    simp only [T.isE] at he
    unfold findN at h ⊢
    split
    · exact he.1
    · rename_i hk
      rw [if_neg hk] at h
      exact findN_isV he.2 h
  | .num _, he, _ => by simp [T.isE] at he
  | .tru _, he, _ => by simp [T.isE] at he
  | .fn _ _, he, _ => by simp [T.isE] at he
  | .bnd _ _ _, he, _ => by simp [T.isE] at he
  | .fwd _ _, he, _ => by simp [T.isE] at he
  | .ret _, he, _ => by simp [T.isE] at he
  | .op _ _ _, he, _ => by simp [T.isE] at he
theorem Frs.cons {L : List (List Int)} {f : Fr} {l : List Fr} (h : f.ok L) (hl : Frs L l) : Frs L (f :: l) := fun g hg => by
  rcases List.mem_cons.1 hg with rfl | hg
  · exact h
  · exact hl g hg
abbrev Ou.ok (L : List (List Int)) : Ou → Prop
  | .go s => s.ok L
  | .fin _ _ => True
section ok
variable {L : List (List Int)} (hT : Tm L) {fr : List Fr} (hF : Frs L fr)
include hT hF
theorem callM_ok {f v : T} (hf : f.isV L) (hv : v.isV L) : (callM L fr f v).ok L := by
  cases f <;> simp only [callM] <;> (simp only [T.isV] at hf; try trivial)
  case fn node env =>
    obtain ⟨h0, h1, h2, h3⟩ := hf
    have hA := hT.A h0 h1 (by omega)
    split
    · exact ⟨hF, hA, by simp only [T.isE]; exact ⟨hv, ⟨by simp only [T.isV]; exact ⟨h0, h1, h2, h3⟩, h3⟩⟩⟩
    · exact ⟨hF, hA, by simp only [T.isE]; exact ⟨hv, h3⟩⟩
  case bnd node env one =>
    obtain ⟨h0, h1, h2, h3, h4⟩ := hf
    exact ⟨(hF.cons (.inl ⟨rfl, ⟨h0, h1⟩, by dsimp only; omega, h3⟩)).cons (.inr (.inr ⟨rfl, rfl, rfl, h4⟩)), hv⟩
  case fwd one two => exact ⟨(hF.cons (.inr (.inr ⟨rfl, rfl, rfl, hf.2⟩))).cons (.inr (.inr ⟨rfl, rfl, rfl, hf.1⟩)), hv⟩
theorem bindM_ok {f : Fr} {v : T} (hn : nd L f.node) (hk : (el L f.node).getD 0 0 = 11) (he : f.env.isE L) (hv : v.isV L) : (bindM (el L f.node) fr f v).ok L := by
  cases v <;> simp only [bindM] <;> (simp only [T.isV] at hv; try trivial)
  case ret one => exact ⟨hF, hT.B hn.1 hn.2 (by omega), by simp only [T.isE]; exact ⟨hv, he⟩⟩
  case op n one two => exact ⟨hF, by simp only [T.isV]; exact ⟨hv.1, hn.1, hn.2, hk, he, hv.2⟩⟩
theorem caseM_ok {f : Fr} {v : T} (hn : nd L f.node) (hk : (el L f.node).getD 0 0 = 12) (he : f.env.isE L) (hv : v.isV L) : (caseM (el L f.node) fr f v).ok L := by
  cases v <;> simp only [caseM] <;> (simp only [T.isV] at hv; try trivial)
  case ret one => exact ⟨hF, hT.B hn.1 hn.2 (by omega), by simp only [T.isE]; exact ⟨hv, he⟩⟩
  case op n one two =>
    split
    · exact ⟨hF, hT.C hn.1 hn.2 (by omega), by simp only [T.isE]; exact ⟨hv.2, hv.1, he⟩⟩
    · have h := findN_isV (k := (el L f.node).getD 8 0) he
      split
      · trivial
      · rename_i hne; exact ⟨hF, by simp only [T.isV]; exact ⟨hv.1, hv.2, h hne⟩⟩
theorem firstM_ok {f : Fr} {v : T} (hw : f.wait = 0) (hf : f.ok L) (hv : v.isV L) : (firstM L fr f v).ok L := by
  obtain ⟨_, hn, hk, he⟩ := hf.resolve_right (by omega)
  have hk2 := (hT.kind hn.1 hn.2).2
  simp only [firstM]
  split
  · exact ⟨hF.cons (.inr (.inl ⟨rfl, hn, by dsimp only; omega, rfl, hv⟩)), hT.B hn.1 hn.2 (by omega), he⟩
  · split
    · exact ⟨hF, hT.B hn.1 hn.2 (by omega), by simp only [T.isE]; exact ⟨hv, he⟩⟩
    · split
      · split
        · split
          · exact ⟨hF, hT.B hn.1 hn.2 (by omega), he⟩
          · exact ⟨hF, hT.C hn.1 hn.2 (by omega), he⟩
        · trivial
      · split
        · exact ⟨hF, by simp only [T.isV]; exact hv⟩
        · split
          · exact bindM_ok hT hF hn (by omega) he hv
          · exact caseM_ok hT hF hn (by omega) he hv
theorem secondM_ok {f : Fr} {v : T} (hw : f.wait = 1) (hf : f.ok L) (hv : v.isV L) : (secondM L fr f v).ok L := by
  obtain ⟨_, hn, hk, he, hd⟩ := (hf.resolve_left (by omega)).resolve_right (by omega)
  simp only [secondM]
  split
  · exact callM_ok hT hF hd hv
  · split
    · exact ⟨hF, by simp only [T.isV]; exact ⟨hd, hv⟩⟩
    · split
      · split
        · trivial
        · split
          · exact ⟨hF, by simp only [T.isV]⟩
          · exact ⟨hF, by simp only [T.isV]⟩
      · trivial
theorem backM_ok {f : Fr} {v : T} (hf : f.ok L) (hv : v.isV L) : (backM L fr f v).ok L := by
  simp only [backM]
  split
  · exact firstM_ok hT hF (by assumption) hf hv
  · split
    · exact secondM_ok hT hF (by assumption) hf hv
    · exact callM_ok hT hF ((hf.resolve_left (by omega)).resolve_left (by omega)).2.2.2 hv
theorem beginM_ok {node : Int} {env : T} (hn : nd L node) (he : env.isE L) : (beginM L fr node env).ok L := by
  have hk := hT.kind hn.1 hn.2
  simp only [beginM]
  split
  · have h := findN_isV (k := (el L node).getD 4 0) he
    split
    · trivial
    · rename_i hne; exact ⟨hF, h hne⟩
  · split
    · exact ⟨hF, by simp only [T.isV]⟩
    · split
      · exact ⟨hF, by simp only [T.isV]⟩
      · split
        · exact ⟨hF, by simp only [T.isV]; exact ⟨hn.1, hn.2, by assumption, he⟩⟩
        · exact ⟨hF.cons (.inl ⟨rfl, hn, by dsimp only; omega, he⟩), hT.A hn.1 hn.2 (by omega), he⟩
end ok
theorem stepM_ok {L : List (List Int)} (hT : Tm L) {s : St} (h : s.ok L) : (stepM L s).ok L := by
  match s, h with
  | .ev fr node env, ⟨h1, h2, h3⟩ => exact beginM_ok hT h1 h2 h3
  | .gv (f :: fr) v, ⟨h1, h2⟩ => exact backM_ok hT (fun g hg => h1 g (List.mem_cons_of_mem _ hg)) (h1 f List.mem_cons_self) h2
  | .gv [] v, _ => trivial
theorem may_num {x : List Int} (h : mayT x = true) (hm : 0 ≤ mostT (x.getD 0 0)) : 0 ≤ x.getD 4 0 ∧ x.getD 4 0 ≤ mostT (x.getD 0 0) := by
  by_cases hh : x.getD 4 0 < 0 ∨ mostT (x.getD 0 0) < x.getD 4 0
  · rw [mayT_f2 ⟨hm, hh⟩] at h; cases h
  · omega
theorem prim_bd {L : List (List Int)} (hT : Tm L) {i : Int} (h0 : 0 ≤ i) (h1 : i < L.length) (hk : (el L i).getD 0 0 = 8) : 0 ≤ (el L i).getD 4 0 ∧ (el L i).getD 4 0 ≤ 5 := by
  have := may_num (hT.may i h0 h1) (by rw [hk]; decide)
  rw [hk] at this
  exact this
end Go.Proofs.Ytjhkmebmbopfoaa
