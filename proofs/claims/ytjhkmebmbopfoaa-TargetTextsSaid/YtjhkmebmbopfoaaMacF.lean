/-
  Chapter 21: how the reference's values stand.
-/
import Derived.Test.YtjhkmebmbopfoaaMacC
namespace Go.Proofs.Ytjhkmebmbopfoaa
set_option linter.unusedSimpArgs false
set_option linter.unusedVariables false
set_option maxRecDepth 8000
open Go Go.Fx Go.Proofs
namespace FactsMacF

end FactsMacF
open FactsMacF

abbrev nils : Value := .slice none 0 0
mutual
def rqV (G : Gh) : T → List Value → Prop
  | .num n, c => c = [I 0, I n, I 0, nilp, nils, nilp, nilp]
  | .tru n, c => c = [I 1, I n, I 0, nilp, nils, nilp, nilp]
  | .fn node env, c => ∃ p, c = [I 2, I 0, I node, p, nils, nilp, nilp] ∧ rqE G env p
  | .bnd node env one, c => ∃ p b d, c = [I 7, I 0, I node, p, nils, ptr b 0, nilp] ∧ rqE G env p ∧ G b = some d ∧ rqV G one d
  | .fwd one two, c => ∃ b d b' d', c = [I 8, I 0, I 0, nilp, nils, ptr b' 0, ptr b 0] ∧ G b = some d ∧ rqV G one d ∧ G b' = some d' ∧ rqV G two d'
  | .ret one, c => ∃ b d, c = [I 5, I 0, I 0, nilp, nils, ptr b 0, nilp] ∧ G b = some d ∧ rqV G one d
  | .op n one two, c => ∃ b d b' d', c = [I 6, I n, I 0, nilp, nils, ptr b 0, ptr b' 0] ∧ G b = some d ∧ rqV G one d ∧ G b' = some d' ∧ rqV G two d'
  | .nil, _ => False
  | .env _ _ _, _ => False
def rqE (G : Gh) : T → Value → Prop
  | .nil, p => p = nilp
  | .env v n o, p => ∃ b c q, p = ptr b 0 ∧ G b = some (I n :: (c ++ [q])) ∧ rqV G v c ∧ rqE G o q
  | _, _ => False
end
mutual
theorem rqV_mono {G G' : Gh} (hG : Gle G G') : ∀ (t : T) (c : List Value), rqV G t c → rqV G' t c
  | .num n, c, h => by simp only [rqV] at h ⊢; exact h
  | .tru n, c, h => by simp only [rqV] at h ⊢; exact h
  | .fn node env, c, h => by
    simp only [rqV] at h ⊢
    obtain ⟨p, h1, h2⟩ := h
    exact ⟨p, h1, rqE_mono hG env p h2⟩
  | .bnd node env one, c, h => by
    simp only [rqV] at h ⊢
    obtain ⟨p, b, d, h1, h2, h3, h4⟩ := h
    exact ⟨p, b, d, h1, rqE_mono hG env p h2, hG _ _ h3, rqV_mono hG one _ h4⟩
  | .fwd one two, c, h => by
    simp only [rqV] at h ⊢
    obtain ⟨b, d, b', d', h1, h2, h3, h4, h5⟩ := h
    exact ⟨b, d, b', d', h1, hG _ _ h2, rqV_mono hG one _ h3, hG _ _ h4, rqV_mono hG two _ h5⟩
  | .ret one, c, h => by
    simp only [rqV] at h ⊢
    obtain ⟨b, d, h1, h2, h3⟩ := h
    exact ⟨b, d, h1, hG _ _ h2, rqV_mono hG one _ h3⟩
  | .op n one two, c, h => by
    simp only [rqV] at h ⊢
    obtain ⟨b, d, b', d', h1, h2, h3, h4, h5⟩ := h
    exact ⟨b, d, b', d', h1, hG _ _ h2, rqV_mono hG one _ h3, hG _ _ h4, rqV_mono hG two _ h5⟩
  | .nil, c, h => by simp only [rqV] at h
  | .env _ _ _, c, h => by simp only [rqV] at h
theorem rqE_mono {G G' : Gh} (hG : Gle G G') : ∀ (t : T) (p : Value), rqE G t p → rqE G' t p
  | .nil, p, h => by simp only [rqE] at h ⊢; exact h
  | .env v n o, p, h => by
    simp only [rqE] at h ⊢
    obtain ⟨b, c, q, h1, h2, h3, h4⟩ := h
    exact ⟨b, c, q, h1, hG _ _ h2, rqV_mono hG v _ h3, rqE_mono hG o _ h4⟩
  | .num _, p, h => by simp only [rqE] at h
  | .tru _, p, h => by simp only [rqE] at h
  | .fn _ _, p, h => by simp only [rqE] at h
  | .bnd _ _ _, p, h => by simp only [rqE] at h
  | .fwd _ _, p, h => by simp only [rqE] at h
  | .ret _, p, h => by simp only [rqE] at h
  | .op _ _ _, p, h => by simp only [rqE] at h
end
/-- a value is seven cells, its kind the first -/
def kd : T → Int
  | .num _ => 0 | .tru _ => 1 | .fn _ _ => 2 | .bnd _ _ _ => 7 | .fwd _ _ => 8 | .ret _ => 5 | .op _ _ _ => 6 | _ => 0
theorem rqE_one {G : Gh} {t : T} {p : Value} (h : rqE G t p) : ∃ A, p = .pointer A := by
  cases t <;> simp only [rqE] at h
  · exact ⟨_, h⟩
  · obtain ⟨b, c, q, rfl, _⟩ := h; exact ⟨_, rfl⟩
/-- a value's cells, whatever it is -/
theorem rqV_cells {G : Gh} {t : T} {c : List Value} (h : rqV G t c) : ∃ n nd p q r, c = [I (kd t), I n, I nd, .pointer p, nils, .pointer q, .pointer r] := by
  cases t <;> simp only [rqV] at h
  case num n => exact ⟨_, _, _, _, _, h⟩
  case tru n => exact ⟨_, _, _, _, _, h⟩
  case fn node env => obtain ⟨p, rfl, hp⟩ := h; obtain ⟨A, rfl⟩ := rqE_one hp; exact ⟨_, _, _, _, _, rfl⟩
  case bnd node env one => obtain ⟨p, b, d, rfl, hp, _⟩ := h; obtain ⟨A, rfl⟩ := rqE_one hp; exact ⟨_, _, _, _, _, rfl⟩
  case fwd one two => obtain ⟨b, d, b', d', rfl, _⟩ := h; exact ⟨_, _, _, _, _, rfl⟩
  case ret one => obtain ⟨b, d, rfl, _⟩ := h; exact ⟨_, _, _, _, _, rfl⟩
  case op n one two => obtain ⟨b, d, b', d', rfl, _⟩ := h; exact ⟨_, _, _, _, _, rfl⟩
theorem rqV_ones {G : Gh} {t : T} {c : List Value} (h : rqV G t c) : ones c = true := by
  obtain ⟨n, nd, p, q, r, rfl⟩ := rqV_cells h; rfl
theorem rqV_seven {G : Gh} {t : T} {c : List Value} (h : rqV G t c) : c.length = 7 := by
  obtain ⟨n, nd, p, q, r, rfl⟩ := rqV_cells h; rfl
/-- which frame the reference lays for one of the machine's -/
def fk (L : List (List Int)) (f : Fr) : Int :=
  let k := (el L f.node).getD 0 0
  if f.wait = 0 then (if k = 5 then 0 else if k = 6 then 2 else if k = 7 then 3 else if k = 8 then 4 else if k = 9 then 8 else if k = 10 then 9 else if k = 11 then 11 else 12)
  else if f.wait = 1 then (if k = 5 then 1 else if k = 8 then 5 else 10)
  else 1
def rqF (G : Gh) (L : List (List Int)) (f : Fr) (c : List Value) : Prop :=
  ∃ nd p hc, c = I (fk L f) :: I nd :: p :: hc ∧ hc.length = 7 ∧ ones hc = true ∧ 0 ≤ nd ∧ nd < L.length ∧ (f.wait ≠ 2 → nd = f.node) ∧ rqE G f.env p ∧ (f.wait ≠ 0 → rqV G f.had hc)
def rqS (G : Gh) (L : List (List Int)) : List Fr → List Value → Prop
  | [], xs => xs = []
  | f :: r, xs => ∃ xs' c, xs = xs' ++ c ∧ rqF G L f c ∧ rqS G L r xs'
theorem rqF_mono {G G' : Gh} (hG : Gle G G') {L : List (List Int)} {f : Fr} {c : List Value} (h : rqF G L f c) : rqF G' L f c := by
  obtain ⟨nd, p, hc, h1, h2, h3, h4, h5, h6, h7, h8⟩ := h
  exact ⟨nd, p, hc, h1, h2, h3, h4, h5, h6, rqE_mono hG _ _ h7, fun h => rqV_mono hG _ _ (h8 h)⟩
theorem rqS_mono {G G' : Gh} (hG : Gle G G') {L : List (List Int)} : ∀ {l : List Fr} {xs : List Value}, rqS G L l xs → rqS G' L l xs
  | [], _, h => h
  | f :: r, xs, h => by
    obtain ⟨xs', c, h1, h2, h3⟩ := h
    exact ⟨xs', c, h1, rqF_mono hG h2, rqS_mono hG h3⟩
theorem rqF_ten {G : Gh} {L : List (List Int)} {f : Fr} {c : List Value} (h : rqF G L f c) : c.length = 10 := by
  obtain ⟨nd, p, hc, rfl, h2, _⟩ := h
  simp [h2]
theorem rqS_len {G : Gh} {L : List (List Int)} : ∀ {l : List Fr} {xs : List Value}, rqS G L l xs → xs.length = l.length * 10
  | [], xs, h => by rw [show xs = [] from h]; rfl
  | f :: r, xs, h => by
    obtain ⟨xs', c, rfl, h2, h3⟩ := h
    rw [List.length_append, rqS_len h3, rqF_ten h2, List.length_cons]; omega
end Go.Proofs.Ytjhkmebmbopfoaa
