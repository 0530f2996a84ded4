/-
  Chapter 21: the program's machine in the heap.
-/
import Derived.Test.YtjhkmebmbopfoaaMacB
namespace Go.Proofs.Ytjhkmebmbopfoaa
set_option linter.unusedSimpArgs false
set_option linter.unusedVariables false
set_option maxRecDepth 8000
open Go Go.Fx Go.Proofs
namespace FactsMacC

end FactsMacC
open FactsMacC

/-- the frozen blocks stand, none is one of two, all lie ahead of s -/
structure Fz (G : Gh) (x y : Int) (s : Nat) (H : Heap) : Prop where
  st : ∀ b c, G b = some c → Blk H b c
  nx : ∀ b c, G b = some c → (b : Int) ≠ x
  ny : ∀ b c, G b = some c → (b : Int) ≠ y
  lo : ∀ b c, G b = some c → b < s
  hs : s ≤ H.size
section fz
variable {G : Gh} {x y : Int} {s : Nat} {H H' : Heap}
theorem Fz.via {S : Nat → Prop} (h : Fz G x y s H) (he : But S H H') (hS : ∀ g : Nat, S g → (g : Int) = x ∨ (g : Int) = y ∨ s ≤ g) : Fz G x y s H' :=
  ⟨fun b c hb => (h.st b c hb).but he fun hs => by
    have h1 := hS b hs
    have h2 := h.nx b c hb
    have h3 := h.ny b c hb
    have h4 := h.lo b c hb
    omega, h.nx, h.ny, h.lo, Nat.le_trans h.hs he.1⟩
theorem Fz.ext (h : Fz G x y s H) (he : Ext H H') : Fz G x y s H' := h.via (S := fun _ => False) he.but fun _ hf => hf.elim
theorem Fz.upw {b : Nat} {c : List Value} (h : Fz G x y s H) (u : Upd H H' b c) (hb : (b : Int) = x ∨ (b : Int) = y ∨ s ≤ b) : Fz G x y s H' :=
  h.via u.but fun g hg => by subst hg; exact hb
theorem Fz.lt (h : Fz G x y s H) : s ≤ H.size := h.hs
/-- a bound that is later, a block that is another -/
theorem Fz.re {y' : Int} {s' : Nat} (h : Fz G x y s H) (hs : s ≤ s') (hz : s' ≤ H.size) (hy : y' = y ∨ (s : Int) ≤ y' ∨ y' < 0) : Fz G x y' s' H :=
  ⟨h.st, h.nx, fun b c hb => by
    have h3 := h.ny b c hb
    have h4 := h.lo b c hb
    omega, fun b c hb => Nat.lt_of_lt_of_le (h.lo b c hb) hs, hz⟩
end fz
def Gset (G : Gh) (b : Nat) (c : List Value) : Gh := fun k => if k = b then some c else G k
theorem gset_at (G : Gh) (b : Nat) (c : List Value) : Gset G b c b = some c := if_pos rfl
theorem gset_le {G : Gh} {x y : Int} {s : Nat} {H : Heap} {b : Nat} {c : List Value} (h : Fz G x y s H) (hb : s ≤ b) : Gle G (Gset G b c) := by
  intro k d hk
  unfold Gset
  rw [if_neg (by have := h.lo k d hk; omega)]
  exact hk
theorem Fz.add {G : Gh} {x y : Int} {s : Nat} {H : Heap} {b : Nat} {c : List Value} (h : Fz G x y s H) (hb : Blk H b c) (hs : s ≤ b) (hx : (b : Int) ≠ x) (hy : (b : Int) ≠ y) : Fz (Gset G b c) x y (b + 1) H := by
  have key : ∀ k d, Gset G b c k = some d → (k = b ∧ d = c) ∨ G k = some d := by
    intro k d hk
    unfold Gset at hk
    split at hk
    · rename_i h; cases hk; exact .inl ⟨h, rfl⟩
    · exact .inr hk
  refine ⟨fun k d hk => ?_, fun k d hk => ?_, fun k d hk => ?_, fun k d hk => ?_, hb.lt⟩
  · rcases key k d hk with ⟨rfl, rfl⟩ | h'
    · exact hb
    · exact h.st k d h'
  · rcases key k d hk with ⟨rfl, rfl⟩ | h'
    · exact hx
    · exact h.nx k d h'
  · rcases key k d hk with ⟨rfl, rfl⟩ | h'
    · exact hy
    · exact h.ny k d h'
  · rcases key k d hk with ⟨rfl, rfl⟩ | h'
    · omega
    · have := h.lo k d h'; omega
theorem Gle.refl (G : Gh) : Gle G G := fun _ _ h => h
theorem Gle.trans {G G' G'' : Gh} (h : Gle G G') (k : Gle G' G'') : Gle G G'' := fun b c hb => k b c (h b c hb)
theorem repP_mono {G G' : Gh} (hG : Gle G G') {t : T} {p : Value} (h : repP G t p) : repP G' t p := by
  obtain ⟨b, d, h1, h2, h3⟩ := h
  exact ⟨b, d, h1, hG _ _ h2, repV_mono hG t _ h3⟩
theorem repV_ones {G : Gh} {t : T} {c : List Value} (h : repV G t c) : ones c = true := by
  cases t <;> simp only [repV] at h
  case num n => rw [h]; rfl
  case tru n => rw [h]; rfl
  case fn node env => obtain ⟨p, rfl, hp⟩ := h; cases env <;> simp only [repE] at hp; (rw [hp]; rfl); (obtain ⟨b, c, q, rfl, _⟩ := hp; rfl)
  case bnd node env one => obtain ⟨p, b, d, rfl, hp, _⟩ := h; cases env <;> simp only [repE] at hp; (rw [hp]; rfl); (obtain ⟨b, c, q, rfl, _⟩ := hp; rfl)
  case fwd one two => obtain ⟨b, d, b', d', rfl, _⟩ := h; rfl
  case ret one => obtain ⟨b, d, rfl, _⟩ := h; rfl
  case op n one two => obtain ⟨b, d, b', d', rfl, _⟩ := h; rfl
theorem repE_one {G : Gh} {t : T} {p : Value} (h : repE G t p) : ∃ A, p = .pointer A := by
  cases t <;> simp only [repE] at h
  · exact ⟨_, h⟩
  · obtain ⟨b, c, q, rfl, _⟩ := h; exact ⟨_, rfl⟩
/-- a frame's cells -/
def repF (G : Gh) (f : Fr) (c : List Value) : Prop :=
  ∃ p hc, c = I f.wait :: I f.node :: p :: hc ∧ hc.length = 6 ∧ ones hc = true ∧ repE G f.env p ∧ (f.wait ≠ 0 → repV G f.had hc)
/-- frames, the top one last -/
def repS (G : Gh) : List Fr → List Value → Prop
  | [], xs => xs = []
  | f :: r, xs => ∃ xs' c, xs = xs' ++ c ∧ repF G f c ∧ repS G r xs'
theorem repF_mono {G G' : Gh} (hG : Gle G G') {f : Fr} {c : List Value} (h : repF G f c) : repF G' f c := by
  obtain ⟨p, hc, h1, h2, h3, h4, h5⟩ := h
  exact ⟨p, hc, h1, h2, h3, repE_mono hG _ _ h4, fun h => repV_mono hG _ _ (h5 h)⟩
theorem repS_mono {G G' : Gh} (hG : Gle G G') : ∀ {l : List Fr} {xs : List Value}, repS G l xs → repS G' l xs
  | [], _, h => h
  | f :: r, xs, h => by
    obtain ⟨xs', c, h1, h2, h3⟩ := h
    exact ⟨xs', c, h1, repF_mono hG h2, repS_mono hG h3⟩
theorem repF_nine {G : Gh} {f : Fr} {c : List Value} (h : repF G f c) : c.length = 9 := by
  obtain ⟨p, hc, rfl, h2, _⟩ := h
  simp [h2]
theorem repS_len {G : Gh} : ∀ {l : List Fr} {xs : List Value}, repS G l xs → xs.length = l.length * 9
  | [], xs, h => by rw [show xs = [] from h]; rfl
  | f :: r, xs, h => by
    obtain ⟨xs', c, rfl, h2, h3⟩ := h
    rw [List.length_append, repS_len h3, repF_nine h2, List.length_cons]; omega
end Go.Proofs.Ytjhkmebmbopfoaa
