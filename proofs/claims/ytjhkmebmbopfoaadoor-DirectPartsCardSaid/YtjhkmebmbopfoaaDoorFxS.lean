/-
  A law's arguments, opened; slices of things.
-/
import Derived.Test.YtjhkmebmbopfoaaDoorFxR
namespace Go.Fx
set_option linter.unusedSimpArgs false
set_option linter.unusedVariables false
open Go

section
variable {H : Type} {enc : TypeId × Value → H} {P : Program} {W : World} {base : Nat}

theorem not_agg {t : TypeId} {cs : Array Value} (hu : isAg P t = false) (h : Value.okWide P W .any base t (.agg cs)) : False := by
  unfold Value.okWide at h
  unfold isAg at hu
  split at h
  · rename_i hh; rw [hh] at hu; cases hu
  · rename_i hh; rw [hh] at hu; cases hu
  · unfold Cell.okWide at h
    split at h <;> first | (rename_i e; cases e; done) | skip
    all_goals first | (unfold Cell.ok at h; split at h <;> simp_all; done) | simp_all

theorem arg_fits {t : TypeId} {v : Value} {d : DataW H} {p : List MemPlace} {ks : List Cs} (hv : Value.okWide P W .any base t v) (h : DataW.Trod enc P W 0 (fun _ => true) true t v d p)
    (hw : (d.weights P t).all (· ≤ reachBytes) = true) (hs : shp P 8 t = some ks) : ∃ cs, fits W.heap ks cs ∧ v = vof P t cs := by
  obtain ⟨fuel, hf⟩ := h
  have h1 := trod_fits 8 fuel t ks _ _ hs hf hw
  refine ⟨_, h1, ?_⟩
  unfold vof
  cases hb : isAg P t with
  | true =>
    simp only [if_true]
    unfold Value.okWide at hv
    unfold isAg at hb
    split at hv
    · obtain ⟨cs, rfl, _⟩ := hv; simp [Value.cells]
    · obtain ⟨cs, rfl, _⟩ := hv; simp [Value.cells]
    · split at hb <;> simp_all
  | false =>
    cases v with
    | agg cs => exact (not_agg hb hv).elim
    | _ => simp [Value.cells]

def ArgFits (P : Program) (Hp : Heap) : List TypeId → List Value → Prop
  | [], [] => True
  | t :: ts, v :: vs => (∀ ks, shp P 8 t = some ks → ∃ cs, fits Hp ks cs ∧ v = vof P t cs) ∧ ArgFits P Hp ts vs
  | _, _ => False

theorem args_fit : ∀ {ts : List TypeId} {vs : List Value} {ds : List (DataW H)} {ps : List MemPlace}, DataW.TrodAll enc P W 0 (fun _ => true) true ts vs ds ps →
    (∀ (j : Nat) t v, ts[j]? = some t → vs[j]? = some v → Value.okWide P W .any base t v) → (DataW.weightsEach P ts ds).all (· ≤ reachBytes) = true → ArgFits P W.heap ts vs
  | [], [], [], _, _, _, _ => trivial
  | t :: ts, v :: vs, d :: ds, ps, h, hv, hw => by
    obtain ⟨p, q, h1, h2, rfl⟩ := h
    simp only [DataW.weightsEach, List.all_append, Bool.and_eq_true] at hw
    exact ⟨fun ks hs => arg_fits (hv 0 t v rfl rfl) h1 hw.1 hs, args_fit h2 (fun j t v h1 h2 => hv (j + 1) t v (by simpa using h1) (by simpa using h2)) hw.2⟩
  | [], _ :: _, _, _, h, _, _ => h.elim
  | [], [], _ :: _, _, h, _, _ => h.elim
  | _ :: _, [], _, _, h, _, _ => h.elim
  | _ :: _, _ :: _, [], _, h, _, _ => h.elim

theorem law_open {fn : Func} {args : Array Value} {ds gs : List (DataW H)} {before : List MemPlace} {ts' : List TypeId}
    (hval : ∀ (j : Nat) t v, fn.params[j]? = some t → args[j]? = some v → Value.okWide P W .any base t v)
    (hW : DataW.Whole enc P fn.params.toList [] false W args.toList ds gs before)
    (hsz : (DataW.weightsEach P (fn.params.toList ++ ts') (ds ++ gs)).all (· ≤ reachBytes) = true) : ArgFits P W.heap fn.params.toList args.toList := by
  obtain ⟨p, q, hA, hV, _⟩ := hW
  obtain ⟨rfl, rfl⟩ := ChangeShapes.trodVars_none hV
  refine args_fit hA (fun j t v h1 h2 => hval j t v (by simpa using h1) (by simpa using h2)) ?_
  have hlen := trodAll_length hA
  rw [List.append_nil] at hsz
  have key : ∀ (ts : List TypeId) (ds : List (DataW H)), ds.length = ts.length → DataW.weightsEach P (ts ++ ts') ds = DataW.weightsEach P ts ds := by
    intro ts
    induction ts with
    | nil => intro ds h; have : ds = [] := by simpa using h
             subst this; cases ts' <;> simp [DataW.weightsEach]
    | cons t ts ih =>
      intro ds h
      cases ds with
      | nil => simp at h
      | cons d ds => simp only [List.cons_append, DataW.weightsEach, ih ds (by simpa using h)]
  rw [key _ _ hlen] at hsz
  exact hsz
end

theorem fit_int {H : Heap} {k : IntKind} {cs : List Value} (h : fits H [.int k] cs) : ∃ n, cs = [.int k n] ∧ (Lit.int k n).wf = true := by
  simp only [fits, fitc] at h
  obtain ⟨v, r, rfl, ⟨n, rfl, hw⟩, rfl⟩ := h
  exact ⟨n, rfl, hw⟩
theorem fit_bool {H : Heap} {cs : List Value} (h : fits H [.bool] cs) : ∃ b, cs = [.bool b] := by
  simp only [fits, fitc] at h
  obtain ⟨v, r, rfl, ⟨n, rfl⟩, rfl⟩ := h
  exact ⟨n, rfl⟩
theorem fit_str {H : Heap} {cs : List Value} (h : fits H [.str] cs) : ∃ s, cs = [.string s] ∧ s.size ≤ reachBytes := by
  simp only [fits, fitc] at h
  obtain ⟨v, r, rfl, ⟨n, rfl, hs⟩, rfl⟩ := h
  exact ⟨n, rfl, hs⟩
theorem fit_one {H : Heap} {k : Cs} {cs : List Value} (h : fits H [k] cs) : ∃ v, cs = [v] ∧ fitc H k v := by
  simp only [fits] at h
  obtain ⟨v, r, rfl, h1, rfl⟩ := h
  exact ⟨v, rfl, h1⟩
theorem fit_ints {H : Heap} {k : IntKind} : ∀ {m : Nat} {cs : List Value}, fits H (List.replicate m (.int k)) cs → ∃ xs : List Int, cs = xs.map (Value.int k) ∧ xs.length = m ∧ ∀ x ∈ xs, (Lit.int k x).wf = true
  | 0, cs, h => by
    simp only [List.replicate_zero, fits] at h
    exact ⟨[], by simpa using h, rfl, by simp⟩
  | m + 1, cs, h => by
    simp only [List.replicate_succ, fits, fitc] at h
    obtain ⟨v, r, rfl, ⟨n, rfl, hw⟩, h2⟩ := h
    obtain ⟨xs, rfl, hl, hx⟩ := fit_ints h2
    exact ⟨n :: xs, rfl, by simp [hl], by simpa using ⟨hw, hx⟩⟩

/-! ### slices of things -/

/-- v, over H, is a slice of the things L, each of n cells by enc -/
def SlT {α : Type} (H : Heap) (enc : α → List Value) (n : Nat) (v : Value) (L : List α) : Prop :=
  ∃ A cap, v = .slice A L.length cap ∧ L.length ≤ cap ∧ cap ≤ maxLen ∧ (A = none → cap = 0) ∧ (L.length = 0 ∨ ∃ b o c, A = some ⟨b, o, none⟩ ∧ Blk H b c ∧ ∀ i (h : i < L.length), o + i * n + n ≤ c.length ∧ (c.drop (o + i * n)).take n = enc L[i])

theorem SlT.but {α : Type} {H H' : Heap} {S : Nat → Prop} {enc : α → List Value} {n : Nat} {v : Value} {L : List α} (h : SlT H enc n v L) (he : But S H H') (hs : ∀ b, v.ownBlock = some b → ¬ S b) : SlT H' enc n v L := by
  obtain ⟨A, cap, rfl, h1, h2, h0, h3⟩ := h
  refine ⟨A, cap, rfl, h1, h2, h0, h3.imp id ?_⟩
  rintro ⟨b, o, c, rfl, hb, h4⟩
  exact ⟨b, o, c, rfl, hb.but he (hs b rfl), h4⟩
theorem SlT.ext {α : Type} {H H' : Heap} {enc : α → List Value} {n : Nat} {v : Value} {L : List α} (h : SlT H enc n v L) (he : Ext H H') : SlT H' enc n v L :=
  h.but (S := fun _ => False) he.but (fun _ _ h => h)

theorem SlT.of_fits {α : Type} {H : Heap} {enc : α → List Value} {by' : Nat} {els : List Cs} {v : Value} (h : fitc H (.sl by' els) v) {p : α → Prop} (hd : ∀ cs, fits H els cs → ∃ x : α, p x ∧ cs = enc x) :
    ∃ L : List α, (∀ x ∈ L, p x) ∧ SlT H enc els.length v L ∧ L.length * by' ≤ reachBytes := by
  simp only [fitc] at h
  obtain ⟨A, len, cap, rfl, h1, h2, h3, hn, h4⟩ := h
  by_cases h0 : len = 0
  · subst h0
    exact ⟨[], by simp, ⟨A, cap, rfl, h1, h2, hn, .inl rfl⟩, by simp⟩
  · obtain ⟨b, o, c, rfl, hb, hf⟩ := h4.resolve_left h0
    have hx : ∀ i, i < len → ∃ x : α, p x ∧ (c.drop (o + i * els.length)).take els.length = enc x := fun i hi => hd _ (hf i hi).2
    have : Nonempty α := ⟨(hx 0 (by omega)).choose⟩
    have hg : ∃ g : Nat → α, ∀ i, i < len → p (g i) ∧ (c.drop (o + i * els.length)).take els.length = enc (g i) := by
      refine ⟨fun i => if h : i < len then (hx i h).choose else Classical.choice this, fun i hi => ?_⟩
      simp only [hi, dif_pos]
      exact (hx i hi).choose_spec
    obtain ⟨g, hg⟩ := hg
    refine ⟨(List.range len).map g, (fun x hx => by obtain ⟨i, hi, rfl⟩ := List.mem_map.1 hx; exact (hg i (by simpa using hi)).1), ⟨_, cap, by simp, by simpa using h1, h2, hn, .inr ⟨b, o, c, rfl, hb, fun i hi => ?_⟩⟩, by simpa using h3⟩
    have hi' : i < len := by simpa using hi
    refine ⟨(hf i hi').1, ?_⟩
    rw [(hg i hi').2]
    simp

/-- a slice's element, loaded -/
theorem SlT.at {α : Type} {H : Heap} {enc : α → List Value} {n : Nat} {A : Option Addr} {len cap : Nat} {L : List α} (h : SlT H enc n (.slice A len cap) L) {i : Nat} (hi : i < L.length) :
    ∃ b o c, A = some ⟨b, o, none⟩ ∧ Blk H b c ∧ o + i * n + n ≤ c.length ∧ (c.drop (o + i * n)).take n = enc L[i] := by
  obtain ⟨A', cap', e, _, _, _, h4⟩ := h
  cases e
  rcases h4 with h4 | ⟨b, o, c, rfl, hb, h5⟩
  · omega
  · exact ⟨b, o, c, rfl, hb, (h5 i hi).1, (h5 i hi).2⟩

/-- all of a slice's cells -/
theorem SlT.all {α : Type} {enc : α → List Value} {n : Nat} (hn : ∀ x, (enc x).length = n) {c : List Value} : ∀ (L : List α) (o : Nat),
    (∀ i (h : i < L.length), o + i * n + n ≤ c.length ∧ (c.drop (o + i * n)).take n = enc L[i]) → (c.drop o).take (L.length * n) = L.flatMap enc
  | [], o, _ => by simp
  | x :: L, o, h => by
    have h0 := h 0 (by simp)
    simp only [Nat.zero_mul, Nat.add_zero, List.getElem_cons_zero] at h0
    have ih := SlT.all hn L (o + n) (fun i hi => by
      have := h (i + 1) (by simpa using hi)
      simp only [List.getElem_cons_succ] at this
      rw [show o + n + i * n = o + (i + 1) * n from by rw [Nat.add_mul]; omega]
      exact this)
    rw [List.flatMap_cons, ← h0.2, ← ih, List.length_cons, Nat.add_mul, Nat.one_mul, Nat.add_comm (L.length * n) n, List.take_add, List.drop_drop]

theorem flatMap_length {α : Type} {enc : α → List Value} {n : Nat} (hn : ∀ x, (enc x).length = n) : ∀ (L : List α), (L.flatMap enc).length = L.length * n
  | [] => by simp
  | x :: L => by rw [List.flatMap_cons, List.length_append, flatMap_length hn L, hn x, List.length_cons, Nat.add_mul]; omega

theorem SlT.src {α : Type} {H : Heap} {enc : α → List Value} {n : Nat} (hn : ∀ x, (enc x).length = n) {v : Value} {L : List α} (h : SlT H enc n v L) : Src H v n L.length (L.flatMap enc) := by
  obtain ⟨A, cap, rfl, _, _, h0, h3⟩ := h
  refine ⟨flatMap_length hn L, A, cap, rfl, h0, h3.imp id ?_⟩
  rintro ⟨b, o, c, rfl, hb, h4⟩
  exact ⟨b, o, c, rfl, hb, SlT.all hn L o h4⟩
theorem flat_at {α : Type} {f : α → List Value} {n : Nat} : ∀ (L : List α) (i : Nat), (∀ x ∈ L, (f x).length = n) → ∀ h : i < L.length, ((L.flatMap f).drop (i * n)).take n = f L[i]
  | [], i, _, h => by simp at h
  | x :: L, 0, hn, _ => by
    have := hn x List.mem_cons_self
    rw [Nat.zero_mul, List.drop_zero, List.flatMap_cons, List.take_append_of_le_length (by omega), List.take_of_length_le (by omega)]
    rfl
  | x :: L, i + 1, hn, h => by
    have h1 := hn x List.mem_cons_self
    have := flat_at L i (fun y hy => hn y (List.mem_cons_of_mem _ hy)) (by simpa using h)
    rw [List.flatMap_cons, Nat.add_mul, Nat.one_mul, List.drop_append, List.drop_of_length_le (by omega), List.nil_append, show i * n + n - (f x).length = i * n from by omega, this]
    simp

theorem and_le (x : Int) (c : Nat) (hc : c < 9223372036854775808) : 0 ≤ bits .and .i64 x c ∧ bits .and .i64 x c ≤ c := by
  have h1 : (BitVec.ofInt 64 x &&& BitVec.ofInt 64 (c : Int)).toNat ≤ c := by
    rw [BitVec.toNat_and]
    refine Nat.le_trans Nat.and_le_right ?_
    simp only [BitVec.toNat_ofInt]
    omega
  have e : bits .and .i64 x c = IntKind.i64.wrap ((BitVec.ofInt 64 x &&& BitVec.ofInt 64 (c : Int)).toNat : Int) := rfl
  rw [e, wrap_in ⟨by omega, by omega⟩]
  omega

/-- int(uint(s) % m) -/
theorem umod (s m : Int) (h0 : 0 < m) (h1 : m < 9223372036854775808) : 0 ≤ IntKind.i64.wrap ((IntKind.u64.wrap s).tmod m) ∧ IntKind.i64.wrap ((IntKind.u64.wrap s).tmod m) < m := by
  have h2 : 0 ≤ IntKind.u64.wrap s := by simp [IntKind.wrap, IntKind.signed, IntKind.bits]; omega
  have h3 : 0 ≤ (IntKind.u64.wrap s).tmod m := Int.tmod_nonneg _ h2
  have h4 : (IntKind.u64.wrap s).tmod m < m := Int.tmod_lt_of_pos _ h0
  rw [wrap_in ⟨by omega, by omega⟩]
  omega
end Go.Fx
