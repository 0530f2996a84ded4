/-
  Equality of flat values, the theorem.
-/
import Derived.Test.YtjhkmebmbopfoaaDoorFxD
namespace Go.Fx
open Go
set_option linter.unusedSimpArgs false
set_option linter.unusedVariables false
variable {P : Program}

theorem fieldsOf_eq {t : TypeId} {fs : Array Field} (h : P.underlying t = some (.struct fs)) : P.fieldsOf t = fs := by
  unfold Program.fieldsOf; rw [h]

theorem eq_array (m : Nat) (t el n s : Nat) (i : TypeInfo) (ht : P.underlying t = some (.array n el)) (hi : P.info? el = some i) (hs : i.size = s) (hu : (P.underlying el).isSome = true) (h1 : isAg P el = false → i.size = 1) (ks : List Fk) (hks : ks.length = s)
    (heq : ∀ xs ys, fks ks xs → fks ks ys → ∀ w, (Op.equalIn m el (vof P el xs) (vof P el ys)).run P w = .ok (eqs xs ys) w)
    (xs ys : List Value) (hl : n * s = xs.length) (hl2 : xs.length = ys.length) (hx : fks (flatRep ks n) xs) (hy : fks (flatRep ks n) ys) (w : World) :
    (Op.equalIn (m + 1) t (.agg xs.toArray) (.agg ys.toArray)).run P w = .ok (eqs xs ys) w := by
  have key := eq_items m el s i hi hs hu h1 ks hks heq n 0 xs ys (by simpa using hl) hl2 (by simpa using hx) (by simpa using hy) w
  simp only [Op.equalIn, Sem.run_bind, run_underlying ht, Result.andThen_ok, run_sizeOf' hi, hs]
  have er : ∀ (f : Nat → Option Bool × Unit → Sem (ForInStep (Option Bool × Unit))), (forIn [:n] ((none, ()) : Option Bool × Unit) f) = forIn (List.range' 0 n) ((none, ()) : Option Bool × Unit) f := by
    intro f
    rw [Std.Legacy.Range.forIn_eq_forIn_range']
    simp [Std.Legacy.Range.size]
  rw [er]
  simp only [Nat.zero_mul, List.drop_zero] at key
  rw [key]
  cases eqs xs ys <;> rfl

theorem eq_flat : ∀ (d : Nat) (t : TypeId) (ks : List Fk), flat P d t = some ks → ∀ m, d ≤ m → ∃ i, P.info? t = some i ∧ i.size = ks.length ∧ (P.underlying t).isSome = true ∧ (isAg P t = false → i.size = 1) ∧
      ∀ xs ys, fks ks xs → fks ks ys → ∀ w, (Op.equalIn m t (vof P t xs) (vof P t ys)).run P w = .ok (eqs xs ys) w
  | 0, _, _, h, _, _ => by cases h
  | d + 1, t, ks, h, m, hm => by
    obtain ⟨m, rfl⟩ : ∃ m', m = m' + 1 := ⟨m - 1, by omega⟩
    simp only [flat] at h
    split at h
    · cases h
    rename_i i hi
    split at h
    case h_2 => cases h
    rename_i ks1 hr
    split at h
    case isFalse => cases h
    rename_i hsz
    cases h
    have hsz' : i.size = ks.length := by simpa using hsz
    refine ⟨i, hi, hsz', ?_⟩
    split at hr
    · rename_i k hu
      cases hr
      refine ⟨by rw [hu]; rfl, fun _ => hsz', ?_⟩
      intro xs ys hx hy w
      match xs, ys, hx, hy with
      | [x], [y], ⟨⟨a, ha⟩, _⟩, ⟨⟨b, hb⟩, _⟩ =>
        subst ha; subst hb
        simp [vof, isAg, hu, run_equalIn_int w m t k k a b hu, eqs, eqv]
    · rename_i hu
      cases hr
      refine ⟨by rw [hu]; rfl, fun _ => hsz', ?_⟩
      intro xs ys hx hy w
      match xs, ys, hx, hy with
      | [x], [y], ⟨⟨a, ha⟩, _⟩, ⟨⟨b, hb⟩, _⟩ =>
        subst ha; subst hb
        simp [vof, isAg, hu, run_equalIn_bool' w m t a b hu, eqs, eqv]
    · rename_i hu
      cases hr
      refine ⟨by rw [hu]; rfl, fun _ => hsz', ?_⟩
      intro xs ys hx hy w
      match xs, ys, hx, hy with
      | [x], [y], ⟨⟨a, ha⟩, _⟩, ⟨⟨b, hb⟩, _⟩ =>
        subst ha; subst hb
        simp [vof, isAg, hu, run_equalIn_string w m t a b hu, eqs, eqv]
    · rename_i fs hu
      split at hr
      · cases hr
      rename_i hst
      refine ⟨by rw [hu]; rfl, fun hh => by simp [isAg, hu] at hh, ?_⟩
      intro xs ys hx hy w
      have hv : ∀ zs, vof P t zs = .agg zs.toArray := fun zs => by simp [vof, isAg, hu]
      rw [hv, hv, run_equalIn_struct w m t _ _ (by rw [fieldsOf_eq hu]; exact hu) (by simpa using hst), fieldsOf_eq hu]
      have := eq_flat_fs d m (flat P d) (fun t ks h => eq_flat d t ks h m (by omega)) fs.toList 0 ks hr xs ys (by rw [fks_length hx]; simp) (by rw [fks_length hx, fks_length hy]) (by simpa using hx) (by simpa using hy) w
      simpa using this
    · rename_i n el hu
      simp only [Option.map_eq_some_iff] at hr
      obtain ⟨k1, hk1, rfl⟩ := hr
      obtain ⟨i1, hi1, hs1, hu1, h1, heq⟩ := eq_flat d el k1 hk1 m (by omega)
      refine ⟨by rw [hu]; rfl, fun hh => by simp [isAg, hu] at hh, ?_⟩
      intro xs ys hx hy w
      have hv : ∀ zs, vof P t zs = .agg zs.toArray := fun zs => by simp [vof, isAg, hu]
      have hrep : ∀ n, (flatRep k1 n).length = n * k1.length := by
        intro n
        induction n with
        | zero => simp [flatRep]
        | succ n ih => simp [flatRep, ih, Nat.add_mul]; omega
      rw [hv, hv]
      exact eq_array m t el n k1.length i1 hu hi1 hs1 hu1 h1 k1 rfl heq xs ys (by rw [fks_length hx, hrep]) (by rw [fks_length hx, fks_length hy]) hx hy w
    · cases hr
end Go.Fx
