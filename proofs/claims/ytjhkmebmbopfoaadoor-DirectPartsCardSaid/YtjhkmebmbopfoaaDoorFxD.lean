/-
  Still more rules: equality of flat structs, struct literals, append, cuts.
-/
import Derived.Test.YtjhkmebmbopfoaaDoorFxC
import Derived.Laws.AppendOwn
import Derived.Laws.StructEq
namespace Go.Fx
open Go
set_option linter.unusedSimpArgs false
set_option linter.unusedVariables false

theorem Ext.upd {H0 H H' : Heap} {b : Nat} {c : List Value} (h : Ext H0 H) (u : Upd H H' b c) (hb : H0.size ≤ b) : Ext H0 H' :=
  ⟨by rw [u.1]; exact h.1, fun k hk => by rw [u.2.2 k (by omega)]; exact h.2 k hk⟩
theorem But.upd {S : Nat → Prop} {H0 H H' : Heap} {b : Nat} {c : List Value} (h : But S H0 H) (u : Upd H H' b c) (hb : S b ∨ H0.size ≤ b) : But S H0 H' :=
  ⟨by rw [u.1]; exact h.1, fun k hk hS => by
    have : k ≠ b := by
      rintro rfl
      rcases hb with hb | hb
      · exact hS hb
      · omega
    rw [u.2.2 k this]; exact h.2 k hk hS⟩
theorem Blk.upd {H H' : Heap} {b b' : Nat} {c c' : List Value} (h : Blk H b c) (u : Upd H H' b' c') (hne : b ≠ b') : Blk H' b c := h.but u.but hne
theorem Own.upd {H H' : Heap} {b b' : Nat} {c c' : List Value} (h : Own H b c) (u : Upd H H' b' c') (hne : b ≠ b') : Own H' b c := h.but u.but hne

/-! ### equality of flat values -/

inductive Fk where
  | int (k : IntKind) | bool | str

def fk : Fk → Value → Prop
  | .int k, v => ∃ n, v = .int k n
  | .bool, v => ∃ b, v = .bool b
  | .str, v => ∃ s, v = .string s

def fks : List Fk → List Value → Prop
  | [], [] => True
  | k :: ks, v :: vs => fk k v ∧ fks ks vs
  | _, _ => False

def eqv : Value → Value → Bool
  | .int _ a, .int _ b => a == b
  | .bool a, .bool b => a == b
  | .string a, .string b => a.toList == b.toList
  | _, _ => false

def eqs : List Value → List Value → Bool
  | [], [] => true
  | a :: as, b :: bs => eqv a b && eqs as bs
  | _, _ => false

theorem fks_length : ∀ {ks : List Fk} {vs : List Value}, fks ks vs → vs.length = ks.length
  | [], [], _ => rfl
  | _ :: _, _ :: _, h => by simp [fks_length h.2]
  | [], _ :: _, h => h.elim
  | _ :: _, [], h => h.elim

theorem fks_split : ∀ {ks ks' : List Fk} {vs : List Value}, fks (ks ++ ks') vs → fks ks (vs.take ks.length) ∧ fks ks' (vs.drop ks.length)
  | [], _, _, h => ⟨trivial, by simpa using h⟩
  | _ :: _, _, [], h => h.elim
  | _ :: _, _, _ :: _, h => ⟨⟨h.1, (fks_split h.2).1⟩, (fks_split h.2).2⟩

theorem eqs_append : ∀ {a b : List Value} {c d : List Value}, a.length = b.length → eqs (a ++ c) (b ++ d) = (eqs a b && eqs c d)
  | [], [], c, d, _ => by simp [eqs]
  | x :: a, y :: b, c, d, h => by simp [eqs, eqs_append (by simpa using h : a.length = b.length), Bool.and_assoc]
  | [], _ :: _, _, _, h => by simp at h
  | _ :: _, [], _, _, h => by simp at h

def flatFs (fl : TypeId → Option (List Fk)) : Nat → List Field → Option (List Fk)
  | _, [] => some []
  | o, f :: fs => if f.name == "_" then none else if f.offset == o then match fl f.type with
    | some ks => match flatFs fl (o + ks.length) fs with
      | some r => some (ks ++ r)
      | none => none
    | none => none
    else none
def flatRep (ks : List Fk) : Nat → List Fk
  | 0 => []
  | n + 1 => ks ++ flatRep ks n

def flat (P : Program) : Nat → TypeId → Option (List Fk)
  | 0, _ => none
  | d + 1, t => match P.info? t with
    | none => none
    | some i =>
      let r := match P.underlying t with
        | some (.int k) => some [Fk.int k]
        | some .bool => some [.bool]
        | some .string => some [.str]
        | some (.struct fs) => if P.stoodInHeld t then none else flatFs (flat P d) 0 fs.toList
        | some (.array n el) => (flat P d el).map fun ks => flatRep ks n
        | _ => none
      match r with
      | some ks => if i.size == ks.length then some ks else none
      | none => none

/-- a value of cells cs, as the model has it -/
def isAg (P : Program) (t : TypeId) : Bool := match P.underlying t with | some (.struct _) => true | some (.array _ _) => true | _ => false
def vof (P : Program) (t : TypeId) (cs : List Value) : Value := if isAg P t then .agg cs.toArray else cs.headD undef

section flat
variable {P : Program}

theorem isAg_run (t : TypeId) (h : (P.underlying t).isSome = true) (w : World) : (isAgg t).run P w = .ok (isAg P t) w := by
  obtain ⟨d, hd⟩ := Option.isSome_iff_exists.1 h
  simp only [isAgg, Sem.run_bind, run_underlying hd, Result.andThen_ok]
  unfold isAg
  rw [hd]
  cases d <;> rfl

theorem part_run {t : TypeId} {i : TypeInfo} (hi : P.info? t = some i) (hu : (P.underlying t).isSome = true) (cs : List Value) (o : Nat) (hs : isAg P t = false → i.size = 1) (hl : o + i.size ≤ cs.length) (w : World) :
    (part t cs.toArray o).run P w = .ok (vof P t ((cs.drop o).take i.size)) w := by
  unfold part
  simp only [Sem.run_bind, isAg_run t hu, Result.andThen_ok]
  unfold vof
  cases hb : isAg P t with
  | true =>
    simp only [if_true, Sem.run_bind, run_sizeOf' hi, Result.andThen_ok, Sem.run_pure]
    simp [List.extract_eq_take_drop]
  | false =>
    have h1 := hs hb
    rw [h1] at hl ⊢
    have : cs[o]? = some (cs[o]'(by omega)) := List.getElem?_eq_getElem (by omega)
    simp only [Bool.false_eq_true, if_false]
    have e2 : (cs.toArray)[o]? = some (cs[o]'(by omega)) := by simp [this]
    have e3 : (cs.drop o).take 1 = [cs[o]'(by omega)] := by rw [List.drop_eq_getElem_cons (by omega)]; rfl
    simp only [e2, e3, Sem.run_pure]
    rfl

theorem eq_flat_fs (d m : Nat) (fl : TypeId → Option (List Fk))
    (ih : ∀ t ks, fl t = some ks → ∃ i, P.info? t = some i ∧ i.size = ks.length ∧ (P.underlying t).isSome = true ∧ (isAg P t = false → i.size = 1) ∧
      ∀ xs ys, fks ks xs → fks ks ys → ∀ w, (Op.equalIn m t (vof P t xs) (vof P t ys)).run P w = .ok (eqs xs ys) w) :
    ∀ (fs : List Field) (o : Nat) (ks : List Fk), flatFs fl o fs = some ks → ∀ xs ys : List Value, o + ks.length = xs.length → xs.length = ys.length → fks ks (xs.drop o) → fks ks (ys.drop o) →
      ∀ w, (Op.eqFields m xs.toArray ys.toArray fs).run P w = .ok (eqs (xs.drop o) (ys.drop o)) w
  | [], o, ks, h, xs, ys, hl, hl2, hx, hy, w => by
    cases h
    have h1 : xs.drop o = [] := by simp at hl ⊢; omega
    have h2 : ys.drop o = [] := by simp at hl ⊢; omega
    simp [Op.eqFields, h1, h2, eqs]
  | f :: fs, o, ks, h, xs, ys, hl, hl2, hx, hy, w => by
    simp only [flatFs] at h
    split at h
    · cases h
    rename_i hn
    split at h
    case isFalse => cases h
    rename_i ho
    split at h
    case h_2 => cases h
    rename_i k1 hk1
    split at h
    case h_2 => cases h
    rename_i r hr
    cases h
    have ho' : f.offset = o := by simpa using ho
    have hn' : f.name ≠ "_" := by simpa using hn
    obtain ⟨i, hi, hsz, hu, hs1, heq⟩ := ih _ _ hk1
    simp only [List.length_append] at hl
    obtain ⟨hx1, hx2⟩ := fks_split hx
    obtain ⟨hy1, hy2⟩ := fks_split hy
    have recur := eq_flat_fs d m fl ih fs (o + k1.length) r hr xs ys (by omega) hl2 (by simpa [List.drop_drop] using hx2) (by simpa [List.drop_drop] using hy2) w
    have e1 := part_run hi hu xs o hs1 (by omega) w
    have e2 := part_run hi hu ys o hs1 (by omega) w
    rw [hsz] at e1 e2
    simp only [Op.eqFields, hn', ne_eq, not_false_eq_true, if_true, Sem.run_bind, ho', e1, e2, Result.andThen_ok, heq _ _ hx1 hy1]
    have split : eqs (xs.drop o) (ys.drop o) = (eqs ((xs.drop o).take k1.length) ((ys.drop o).take k1.length) && eqs (xs.drop (o + k1.length)) (ys.drop (o + k1.length))) := by
      conv => lhs; rw [← List.take_append_drop k1.length (xs.drop o), ← List.take_append_drop k1.length (ys.drop o)]
      rw [eqs_append (by simp; omega)]
      simp [List.drop_drop]
    rw [split]
    cases hb : eqs ((xs.drop o).take k1.length) ((ys.drop o).take k1.length) with
    | true => simp [recur]
    | false => simp

theorem eq_items (m el s : Nat) (i : TypeInfo) (hi : P.info? el = some i) (hs : i.size = s) (hu : (P.underlying el).isSome = true) (h1 : isAg P el = false → i.size = 1) (ks : List Fk) (hks : ks.length = s)
    (heq : ∀ xs ys, fks ks xs → fks ks ys → ∀ w, (Op.equalIn m el (vof P el xs) (vof P el ys)).run P w = .ok (eqs xs ys) w) :
    ∀ (n j : Nat) (xs ys : List Value), (j + n) * s = xs.length → xs.length = ys.length → fks (flatRep ks n) (xs.drop (j * s)) → fks (flatRep ks n) (ys.drop (j * s)) → ∀ w,
      (forIn (List.range' j n) ((none, ()) : Option Bool × Unit) fun i r => do
          let a ← part el xs.toArray (i * s)
          let b ← part el ys.toArray (i * s)
          let c ← Op.equalIn m el a b
          if (!c) = true then pure (ForInStep.done (some false, ())) else pure (ForInStep.yield (none, ())) : Sem (Option Bool × Unit)).run P w =
        .ok (if eqs (xs.drop (j * s)) (ys.drop (j * s)) then (none, ()) else (some false, ())) w
  | 0, j, xs, ys, hl, hl2, _, _, w => by
    have h1 : xs.drop (j * s) = [] := by simp at hl ⊢; omega
    have h2 : ys.drop (j * s) = [] := by simp at hl ⊢; omega
    simp [h1, h2, eqs]
  | n + 1, j, xs, ys, hl, hl2, hx, hy, w => by
    have hmul : (j + (n + 1)) * s = j * s + s + n * s := by rw [Nat.add_mul, Nat.add_mul]; omega
    have hmul2 : (j + 1) * s = j * s + s := by rw [Nat.add_mul]; omega
    simp only [flatRep] at hx hy
    obtain ⟨hx1, hx2⟩ := fks_split hx
    obtain ⟨hy1, hy2⟩ := fks_split hy
    rw [hks, List.drop_drop] at hx2 hy2
    rw [hks] at hx1 hy1
    have recur := eq_items m el s i hi hs hu h1 ks hks heq n (j + 1) xs ys (by rw [← hl, hmul, Nat.add_mul, hmul2]) hl2 (by rw [hmul2]; exact hx2) (by rw [hmul2]; exact hy2) w
    have e1 := part_run hi hu xs (j * s) h1 (by omega) w
    have e2 := part_run hi hu ys (j * s) h1 (by omega) w
    rw [hs] at e1 e2
    have split : eqs (xs.drop (j * s)) (ys.drop (j * s)) = (eqs ((xs.drop (j * s)).take s) ((ys.drop (j * s)).take s) && eqs (xs.drop ((j + 1) * s)) (ys.drop ((j + 1) * s))) := by
      conv => lhs; rw [← List.take_append_drop s (xs.drop (j * s)), ← List.take_append_drop s (ys.drop (j * s))]
      rw [eqs_append (by simp; omega), List.drop_drop, List.drop_drop, hmul2]
    rw [List.range'_succ, List.forIn_cons]
    simp only [Sem.run_bind, e1, e2, Result.andThen_ok, heq _ _ hx1 hy1]
    rw [split]
    cases hb : eqs ((xs.drop (j * s)).take s) ((ys.drop (j * s)).take s) with
    | true => simp only [Bool.not_true, Bool.false_eq_true, if_false, Sem.run_pure, Result.andThen_ok, Bool.true_and]; exact recur
    | false => simp
end flat
end Go.Fx
