/-
  What the reading of an argument tells: the shape of its cells.
-/
import Derived.Test.YtjhkmebmbopfoaaDoorFxL
namespace Go.Fx
set_option linter.unusedSimpArgs false
set_option linter.unusedVariables false
open Go

/-- what a cell holds -/
inductive Cs where
  | int (k : IntKind) | bool | str
  | sl (bytes : Nat) (els : List Cs)

mutual
def fitc (H : Heap) : Cs → Value → Prop
  | .int k, v => ∃ n, v = .int k n ∧ (Lit.int k n).wf = true
  | .bool, v => ∃ b, v = .bool b
  | .str, v => ∃ s, v = .string s ∧ s.size ≤ reachBytes
  | .sl by' els, v => ∃ A len cap, v = .slice A len cap ∧ len ≤ cap ∧ cap ≤ maxLen ∧ len * by' ≤ reachBytes ∧ (A = none → cap = 0) ∧ (len = 0 ∨ ∃ b o c, A = some ⟨b, o, none⟩ ∧ Blk H b c ∧
      ∀ i, i < len → o + i * els.length + els.length ≤ c.length ∧ fits H els ((c.drop (o + i * els.length)).take els.length))
def fits (H : Heap) : List Cs → List Value → Prop
  | [], vs => vs = []
  | k :: ks, vs => ∃ v r, vs = v :: r ∧ fitc H k v ∧ fits H ks r
end

theorem fits_length {H : Heap} : ∀ {ks : List Cs} {vs : List Value}, fits H ks vs → vs.length = ks.length
  | [], vs, h => by simp only [fits] at h; simp [h]
  | k :: ks, vs, h => by
    simp only [fits] at h
    obtain ⟨v, r, rfl, _, h2⟩ := h
    simp [fits_length h2]
theorem fits_append {H : Heap} : ∀ {ks ks' : List Cs} {vs vs' : List Value}, fits H ks vs → fits H ks' vs' → fits H (ks ++ ks') (vs ++ vs')
  | [], ks', vs, vs', h, h' => by simp only [fits] at h; subst h; simpa using h'
  | k :: ks, ks', vs, vs', h, h' => by
    simp only [fits] at h
    obtain ⟨v, r, rfl, h1, h2⟩ := h
    simp only [List.cons_append, fits]
    exact ⟨v, r ++ vs', rfl, h1, fits_append h2 h'⟩

def shpFs (P : Program) (sh : TypeId → Option (List Cs)) : Nat → List Field → Option (List Cs)
  | _, [] => some []
  | o, f :: fs => if f.offset == o then match sh f.type with
    | some ks => if P.cellsOf f.type == ks.length then match shpFs P sh (o + ks.length) fs with
      | some r => some (ks ++ r)
      | none => none
      else none
    | none => none
    else none
def shpRep (ks : List Cs) : Nat → List Cs
  | 0 => []
  | n + 1 => ks ++ shpRep ks n

def shp (P : Program) : Nat → TypeId → Option (List Cs)
  | 0, _ => none
  | d + 1, t => match P.underlying t with
    | some (.int k) => some [Cs.int k]
    | some .bool => some [.bool]
    | some .string => some [.str]
    | some (.struct fs) => match shpFs P (shp P d) 0 fs.toList with
      | some ks => if P.cellsOf t == ks.length then some ks else none
      | none => none
    | some (.array n e) => match shp P d e with
      | some ks => if P.cellsOf e == ks.length && P.cellsOf t == n * ks.length then some (shpRep ks n) else none
      | none => none
    | some (.slice e) => match shp P d e with
      | some ks => if P.cellsOf e == ks.length && Nat.blt 0 ks.length then some [.sl (P.bytesOf e) ks] else none
      | none => none
    | _ => none

section
variable {H : Type} {enc : TypeId × Value → H} {P : Program} {w : World} {sp : Nat → Bool}

theorem cells_of {a : Addr} {n : Nat} {cs : List Value} (h : w.cells? 0 a n = some cs) (hn : 0 < n) : ∃ c, a.spot = none ∧ Blk w.heap a.block c ∧ a.off + n ≤ c.length ∧ (c.drop a.off).take n = cs := by
  obtain ⟨_, hl, hat⟩ := World.cells?_some h
  have hj : ∀ j, j < n → w.cell? (a.add j) = cs[j]? := fun j hj => by
    exact hat j hj
  have h0 := hj 0 hn
  have e0 : a.add 0 = a := by simp [Addr.add]
  rw [e0, List.getElem?_eq_getElem (by omega)] at h0
  unfold World.cell? at h0
  split at h0
  case h_2 => cases h0
  rename_i c T fr hb
  split at h0
  · cases h0
  rename_i hsp
  have hsp' : a.spot = none := by simpa using hsp
  have hblk : Blk w.heap a.block c.toList := ⟨T, fr, by simpa using hb⟩
  have hcell : ∀ j, j < n → c.toList[a.off + j]? = cs[j]? := by
    intro j hjn
    rw [← hj j hjn]
    have : a.add j = ⟨a.block, a.off + j, none⟩ := by
      unfold Addr.add
      split
      · rename_i hz; subst hz; cases a; simp at hsp'; simp [hsp']
      · rfl
    rw [this, cell_blk rfl hblk]
  have hlen : a.off + n ≤ c.toList.length := by
    have := hcell (n - 1) (by omega)
    rw [List.getElem?_eq_getElem (by omega : n - 1 < cs.length)] at this
    have h2 := (List.getElem?_eq_some_iff.1 this).1
    omega
  refine ⟨c.toList, hsp', hblk, hlen, ?_⟩
  apply List.ext_getElem?
  intro j
  rw [List.getElem?_take]
  split
  · rename_i hlt; rw [List.getElem?_drop, hcell j hlt]
  · rename_i hge; rw [List.getElem?_eq_none (by omega)]

theorem fits_fs (fuel : Nat) (sh : TypeId → Option (List Cs)) (ih : ∀ t ks cs x, sh t = some ks → DataW.trod enc P w 0 sp true fuel t cs = some x → (x.1.weights P t).all (· ≤ reachBytes) = true → fits w.heap ks cs) :
    ∀ (fs : List Field) (o : Nat) (ks : List Cs), shpFs P sh o fs = some ks → ∀ (cs : List Value) xs, (fs.mapM fun f => DataW.trod enc P w 0 sp true fuel f.type ((cs.drop f.offset).take (P.cellsOf f.type))) = some xs →
      (DataW.weightsEach P (fs.map (·.type)) (xs.map (·.1))).all (· ≤ reachBytes) = true → o + ks.length = cs.length → fits w.heap ks (cs.drop o)
  | [], o, ks, h, cs, xs, hx, hw, hl => by
    cases h
    have : cs.drop o = [] := by simp at hl ⊢; omega
    rw [this]; simp [fits]
  | f :: fs, o, ks, h, cs, xs, hx, hw, hl => by
    simp only [shpFs] at h
    split at h
    case isFalse => cases h
    rename_i ho
    split at h
    case h_2 => cases h
    rename_i k1 hk1
    split at h
    case isFalse => cases h
    rename_i hsz
    split at h
    case h_2 => cases h
    rename_i r hr
    cases h
    have ho' : f.offset = o := by simpa using ho
    have hsz' : P.cellsOf f.type = k1.length := by simpa using hsz
    rw [List.mapM_cons] at hx
    simp only [Option.bind_eq_bind, Option.bind_eq_some_iff, Option.pure_def, Option.some.injEq] at hx
    obtain ⟨x, hx1, ys, hys, rfl⟩ := hx
    simp only [List.map_cons, DataW.weightsEach, List.all_append, Bool.and_eq_true] at hw
    simp only [List.length_append] at hl
    have h1 := ih _ _ _ _ hk1 hx1 hw.1
    have h2 := fits_fs fuel sh ih fs (o + k1.length) r hr cs ys hys hw.2 (by omega)
    rw [ho', hsz'] at h1
    have := fits_append h1 h2
    rw [← List.drop_drop, List.take_append_drop] at this
    exact this

theorem fits_items (fuel : Nat) (e : TypeId) (ks : List Cs) (hks : P.cellsOf e = ks.length) (ih : ∀ cs x, DataW.trod enc P w 0 sp true fuel e cs = some x → (x.1.weights P e).all (· ≤ reachBytes) = true → fits w.heap ks cs) (cs : List Value) :
    ∀ (n j : Nat) xs, ((List.range' j n).mapM fun i => DataW.trod enc P w 0 sp true fuel e ((cs.drop (i * P.cellsOf e)).take (P.cellsOf e))) = some xs → (DataW.weightsAll P e (xs.map (·.1))).all (· ≤ reachBytes) = true →
      (j + n) * ks.length = cs.length → fits w.heap (shpRep ks n) (cs.drop (j * ks.length))
  | 0, j, xs, hx, hw, hl => by
    have : cs.drop (j * ks.length) = [] := by simp at hl ⊢; omega
    rw [this]; simp [shpRep, fits]
  | n + 1, j, xs, hx, hw, hl => by
    rw [List.range'_succ, List.mapM_cons] at hx
    simp only [Option.bind_eq_bind, Option.bind_eq_some_iff, Option.pure_def, Option.some.injEq] at hx
    obtain ⟨x, hx1, ys, hys, rfl⟩ := hx
    simp only [List.map_cons, DataW.weightsAll, List.all_append, Bool.and_eq_true] at hw
    have h1 := ih _ _ hx1 hw.1
    have hmul : (j + (n + 1)) * ks.length = (j + 1 + n) * ks.length := by congr 1; omega
    have h2 := fits_items fuel e ks hks ih cs n (j + 1) ys hys hw.2 (by omega)
    rw [hks] at h1
    have := fits_append h1 h2
    rw [show (j + 1) * ks.length = j * ks.length + ks.length from by rw [Nat.add_mul]; omega, ← List.drop_drop, List.take_append_drop] at this
    exact this

theorem mapM_some {α β : Type} {f : α → Option β} : ∀ {l : List α} {r : List β}, l.mapM f = some r → r.length = l.length ∧ ∀ i (h : i < l.length) (h' : i < r.length), f l[i] = some r[i]
  | [], r, h => by cases h; exact ⟨rfl, fun i h => by simp at h⟩
  | a :: l, r, h => by
    rw [List.mapM_cons] at h
    simp only [Option.bind_eq_bind, Option.bind_eq_some_iff, Option.pure_def, Option.some.injEq] at h
    obtain ⟨x, hx, ys, hys, rfl⟩ := h
    obtain ⟨h1, h2⟩ := mapM_some hys
    refine ⟨by simp [h1], fun i hi hi' => ?_⟩
    cases i with
    | zero => exact hx
    | succ i => exact h2 i (by simpa using hi) (by simpa using hi')

theorem weightsAll_mem {e : TypeId} : ∀ {ds : List (DataW H)}, (DataW.weightsAll P e ds).all (· ≤ reachBytes) = true → ∀ d ∈ ds, (d.weights P e).all (· ≤ reachBytes) = true
  | [], _, d, h => by cases h
  | a :: ds, hw, d, h => by
    simp only [DataW.weightsAll, List.all_append, Bool.and_eq_true] at hw
    cases h with
    | head => exact hw.1
    | tail _ h => exact weightsAll_mem hw.2 d h

theorem trod_fits : ∀ (d fuel : Nat) (t : TypeId) (ks : List Cs) (cs : List Value) (x : DataW H × List MemPlace), shp P d t = some ks → DataW.trod enc P w 0 sp true fuel t cs = some x →
    (x.1.weights P t).all (· ≤ reachBytes) = true → fits w.heap ks cs
  | 0, _, _, _, _, _, h, _, _ => by cases h
  | _ + 1, 0, _, _, _, _, _, h, _ => by simp [DataW.trod] at h
  | d + 1, fuel + 1, t, ks, cs, x, h, hx, hw => by
    simp only [shp] at h
    split at h
    · rename_i k hu
      cases h
      unfold DataW.trod at hx
      split at hx <;> rename_i hh <;> (try (rw [hu] at hh; cases hh))
      all_goals (first | (cases hx; done) | skip)
      split at hx
      · rename_i hc
        obtain ⟨rfl, hwf⟩ := hc
        simp only [fits, fitc]
        exact ⟨_, [], rfl, ⟨_, rfl, hwf⟩, rfl⟩
      · cases hx
    · rename_i hu
      cases h
      unfold DataW.trod at hx
      split at hx <;> rename_i hh <;> (try (rw [hu] at hh; cases hh))
      all_goals (first | (cases hx; done) | skip)
      all_goals
        simp only [fits, fitc]
        exact ⟨_, [], rfl, ⟨_, rfl⟩, rfl⟩
    · rename_i hu
      cases h
      unfold DataW.trod at hx
      split at hx <;> rename_i hh <;> (try (rw [hu] at hh; cases hh))
      all_goals (first | (cases hx; done) | skip)
      split at hx
      · cases hx
        simp only [DataW.weights, List.all_cons, List.all_nil, Bool.and_true, decide_eq_true_eq] at hw
        simp only [fits, fitc]
        exact ⟨_, [], rfl, ⟨_, rfl, by simpa using hw⟩, rfl⟩
      · cases hx
    · rename_i fs hu
      split at h
      case h_2 => cases h
      rename_i ks' hk
      split at h
      case isFalse => cases h
      rename_i hsz
      cases h
      unfold DataW.trod at hx
      split at hx <;> rename_i hh <;> (try (rw [hu] at hh; cases hh))
      all_goals (first | (cases hx; done) | skip)
      split at hx
      case isFalse => cases hx
      rename_i hlen
      simp only [Option.map_eq_some_iff] at hx
      obtain ⟨xs, hxs, rfl⟩ := hx
      have hsz' : P.cellsOf t = ks.length := by simpa using hsz
      have hw' : (DataW.weightsEach P (fs.toList.map (·.type)) (xs.map (·.1))).all (· ≤ reachBytes) = true := by
        simpa only [DataW.weights, hu] using hw
      have := fits_fs fuel (shp P d) (fun t ks cs x h1 h2 h3 => trod_fits d fuel t ks cs x h1 h2 h3) fs.toList 0 ks hk _ xs hxs hw' (by omega)
      simpa using this
    · rename_i n e hu
      split at h
      case h_2 => cases h
      rename_i k1 hk
      split at h
      case isFalse => cases h
      rename_i hsz
      cases h
      unfold DataW.trod at hx
      split at hx <;> rename_i hh <;> (try (rw [hu] at hh; cases hh))
      all_goals (first | (cases hx; done) | skip)
      split at hx
      case isFalse => cases hx
      rename_i hlen
      simp only [Option.map_eq_some_iff] at hx
      obtain ⟨xs, hxs, rfl⟩ := hx
      simp only [Bool.and_eq_true, beq_iff_eq] at hsz
      have hw' : (DataW.weightsAll P e (xs.map (·.1))).all (· ≤ reachBytes) = true := by
        simpa only [DataW.weights, hu] using hw
      rw [List.range_eq_range'] at hxs
      have := fits_items fuel e k1 hsz.1 (fun cs x h2 h3 => trod_fits d fuel e k1 cs x hk h2 h3) _ n 0 xs hxs hw' (by rw [hlen, hsz.2]; simp)
      simpa using this
    · rename_i e hu
      split at h
      case h_2 => cases h
      rename_i k1 hk
      split at h
      case isFalse => cases h
      rename_i hsz
      cases h
      simp only [Bool.and_eq_true, beq_iff_eq] at hsz
      obtain ⟨hce, hpos⟩ := hsz
      have hpos' : 0 < k1.length := by simpa [Nat.blt_eq] using hpos
      unfold DataW.trod at hx
      split at hx <;> rename_i hh <;> (try (rw [hu] at hh; cases hh))
      all_goals (first | (cases hx; done) | skip)
      · simp only [fits, fitc]
        exact ⟨_, [], rfl, ⟨none, 0, 0, rfl, Nat.le_refl _, Nat.zero_le _, by simp, fun _ => rfl, .inl rfl⟩, rfl⟩
      · rename_i a len cap
        split at hx
        case isFalse => cases hx
        rename_i hc
        obtain ⟨_, hlc, hcm⟩ := hc
        simp only [Option.bind_eq_some_iff, Option.map_eq_some_iff] at hx
        obtain ⟨elems, hel, rest, hrest, rfl⟩ := hx
        simp only [DataW.weights, hu, List.all_cons, List.all_append, Bool.and_eq_true, decide_eq_true_eq] at hw
        obtain ⟨hw1, hw2, hw3⟩ := hw
        obtain ⟨hlen, hat⟩ := mapM_some hel
        have hlen' : elems.length = len := by simpa using hlen
        simp only [fits, fitc]
        refine ⟨_, [], rfl, ⟨some a, len, cap, rfl, hlc, hcm, ?_, (fun h => by cases h), ?_⟩, rfl⟩
        · simp only [List.length_map] at hw1
          rw [hlen'] at hw1
          exact Nat.le_trans (Nat.mul_le_mul_right _ (by omega)) hw1
        · by_cases h0 : len = 0
          · exact .inl h0
          · have key : ∀ i, i < len → ∃ c, (a.add (i * k1.length)).spot = none ∧ Blk w.heap (a.add (i * k1.length)).block c ∧ (a.add (i * k1.length)).off + k1.length ≤ c.length ∧ fits w.heap k1 ((c.drop (a.add (i * k1.length)).off).take k1.length) := by
              intro i hi
              have h1 := hat i (by simpa using hi) (by omega)
              simp only [List.getElem_range, Option.bind_eq_some_iff] at h1
              obtain ⟨cs', hcs, htr⟩ := h1
              rw [hce] at hcs
              obtain ⟨c, h2, h3, h4, h5⟩ := cells_of hcs hpos'
              refine ⟨c, h2, h3, h4, ?_⟩
              rw [h5]
              exact trod_fits d fuel e k1 cs' _ hk htr (weightsAll_mem hw2 _ (List.mem_map.2 ⟨_, List.getElem_mem (by omega), rfl⟩))
            obtain ⟨c, h2, h3, _, _⟩ := key 0 (by omega)
            have e0 : a.add (0 * k1.length) = a := by simp [Addr.add]
            rw [e0] at h2 h3
            have ea : a = ⟨a.block, a.off, none⟩ := by cases a; simp at h2; simp [h2]
            refine .inr ⟨a.block, a.off, c, by rw [← ea], h3, fun i hi => ?_⟩
            obtain ⟨c', _, h6, h7, h8⟩ := key i hi
            have e1 : a.add (i * k1.length) = ⟨a.block, a.off + i * k1.length, none⟩ := by rw [ea, add_lit]
            rw [e1] at h6 h7 h8
            obtain rfl := h6.inj h3
            exact ⟨h7, h8⟩
    · cases h
end
end Go.Fx
