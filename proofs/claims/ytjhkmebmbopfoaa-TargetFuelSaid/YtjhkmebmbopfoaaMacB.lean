/-
  Chapter 21: how the program's values stand.
-/
import Derived.Test.YtjhkmebmbopfoaaMacA
import Derived.Test.YtjhkmebmbopfoaaFxQ
import Derived.Test.YtjhkmebmbopfoaaCom
namespace Go.Proofs.Ytjhkmebmbopfoaa
set_option linter.unusedSimpArgs false
set_option linter.unusedVariables false
set_option maxRecDepth 8000
open Go Go.Fx Go.Proofs
namespace FactsMacB

end FactsMacB
open FactsMacB

abbrev nilp : Value := .pointer none
/-- blocks that no one writes any more -/
abbrev Gh := Nat → Option (List Value)
mutual
def repV (G : Gh) : T → List Value → Prop
  | .num n, c => c = [I 0, I n, I 0, nilp, nilp, nilp]
  | .tru n, c => c = [I 1, I n, I 0, nilp, nilp, nilp]
  | .fn node env, c => ∃ p, c = [I 2, I 0, I node, p, nilp, nilp] ∧ repE G env p
  | .bnd node env one, c => ∃ p b d, c = [I 3, I 0, I node, p, ptr b 0, nilp] ∧ repE G env p ∧ G b = some d ∧ repV G one (d.take 6)
  | .fwd one two, c => ∃ b d b' d', c = [I 4, I 0, I 0, nilp, ptr b 0, ptr b' 0] ∧ G b = some d ∧ repV G one (d.take 6) ∧ G b' = some d' ∧ repV G two (d'.take 6)
  | .ret one, c => ∃ b d, c = [I 5, I 0, I 0, nilp, ptr b 0, nilp] ∧ G b = some d ∧ repV G one (d.take 6)
  | .op n one two, c => ∃ b d b' d', c = [I 6, I n, I 0, nilp, ptr b 0, ptr b' 0] ∧ G b = some d ∧ repV G one (d.take 6) ∧ G b' = some d' ∧ repV G two (d'.take 6)
  | .nil, _ => False
  | .env _ _ _, _ => False
def repE (G : Gh) : T → Value → Prop
  | .nil, p => p = nilp
  | .env v n o, p => ∃ b c q, p = ptr b 0 ∧ G b = some (c ++ [I n, q]) ∧ repV G v c ∧ repE G o q
  | _, _ => False
end
theorem repV_six {G : Gh} : ∀ {t : T} {c : List Value}, repV G t c → c.length = 6
  | .num n, c, h => by simp only [repV] at h; rw [h]; rfl
  | .tru n, c, h => by simp only [repV] at h; rw [h]; rfl
  | .fn node env, c, h => by simp only [repV] at h; obtain ⟨p, rfl, _⟩ := h; rfl
  | .bnd node env one, c, h => by simp only [repV] at h; obtain ⟨p, b, d, rfl, _⟩ := h; rfl
  | .fwd one two, c, h => by simp only [repV] at h; obtain ⟨b, d, b', d', rfl, _⟩ := h; rfl
  | .ret one, c, h => by simp only [repV] at h; obtain ⟨b, d, rfl, _⟩ := h; rfl
  | .op n one two, c, h => by simp only [repV] at h; obtain ⟨b, d, b', d', rfl, _⟩ := h; rfl
  | .nil, c, h => by simp only [repV] at h
  | .env _ _ _, c, h => by simp only [repV] at h
def Gle (G G' : Gh) : Prop := ∀ b c, G b = some c → G' b = some c
mutual
theorem repV_mono {G G' : Gh} (hG : Gle G G') : ∀ (t : T) (c : List Value), repV G t c → repV G' t c
  | .num n, c, h => by simp only [repV] at h ⊢; exact h
  | .tru n, c, h => by simp only [repV] at h ⊢; exact h
  | .fn node env, c, h => by
    simp only [repV] at h ⊢
    obtain ⟨p, h1, h2⟩ := h
    exact ⟨p, h1, repE_mono hG env p h2⟩
  | .bnd node env one, c, h => by
    simp only [repV] at h ⊢
    obtain ⟨p, b, d, h1, h2, h3, h4⟩ := h
    exact ⟨p, b, d, h1, repE_mono hG env p h2, hG _ _ h3, repV_mono hG one _ h4⟩
  | .fwd one two, c, h => by
    simp only [repV] at h ⊢
    obtain ⟨b, d, b', d', h1, h2, h3, h4, h5⟩ := h
    exact ⟨b, d, b', d', h1, hG _ _ h2, repV_mono hG one _ h3, hG _ _ h4, repV_mono hG two _ h5⟩
  | .ret one, c, h => by
    simp only [repV] at h ⊢
    obtain ⟨b, d, h1, h2, h3⟩ := h
    exact ⟨b, d, h1, hG _ _ h2, repV_mono hG one _ h3⟩
  | .op n one two, c, h => by
    simp only [repV] at h ⊢
    obtain ⟨b, d, b', d', h1, h2, h3, h4, h5⟩ := h
    exact ⟨b, d, b', d', h1, hG _ _ h2, repV_mono hG one _ h3, hG _ _ h4, repV_mono hG two _ h5⟩
  | .nil, c, h => by simp only [repV] at h
  | .env _ _ _, c, h => by simp only [repV] at h
theorem repE_mono {G G' : Gh} (hG : Gle G G') : ∀ (t : T) (p : Value), repE G t p → repE G' t p
  | .nil, p, h => by simp only [repE] at h ⊢; exact h
  | .env v n o, p, h => by
    simp only [repE] at h ⊢
    obtain ⟨b, c, q, h1, h2, h3, h4⟩ := h
    exact ⟨b, c, q, h1, hG _ _ h2, repV_mono hG v _ h3, repE_mono hG o _ h4⟩
  | .num _, p, h => by simp only [repE] at h
  | .tru _, p, h => by simp only [repE] at h
  | .fn _ _, p, h => by simp only [repE] at h
  | .bnd _ _ _, p, h => by simp only [repE] at h
  | .fwd _ _, p, h => by simp only [repE] at h
  | .ret _, p, h => by simp only [repE] at h
  | .op _ _ _, p, h => by simp only [repE] at h
end
/-- a pointer to a value -/
def repP (G : Gh) (t : T) (p : Value) : Prop := ∃ b d, p = ptr b 0 ∧ G b = some d ∧ repV G t (d.take 6)
end Go.Proofs.Ytjhkmebmbopfoaa
