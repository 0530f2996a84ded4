/-
  Rules: '==' of flat structs, struct literals, append, cuts of slices, conversions, max and min.
-/
import Derived.Test.YtjhkmebmbopfoaaDoorFxE
import Derived.Maps.AppendAt
import Derived.Laws.OwnMore
namespace Go.Fx
open Go
set_option linter.unusedSimpArgs false
set_option linter.unusedVariables false

section rules
variable {P : Program} {dst : Option Tmp} {ty : TypeId} {pos : String} {aft : Array Edge} {gd : Option (Nat × Bool)} {e : Env} {H : Heap}

/-! ### '==' of structs -/
def eqT (P : Program) (t : TypeId) : Option (List Fk) := if isAg P t && !(P.eqGuardType P.depth t) then flat P 12 t else none

theorem eqT_run {t : TypeId} {ks : List Fk} (hf : eqT P t = some ks) {xs ys : List Value} (h1 : fks ks xs) (h2 : fks ks ys) (w : World) :
    (Op.equalIn 10000 t (.agg xs.toArray) (.agg ys.toArray)).run P w = .ok (eqs xs ys) w ∧ P.eqGuardType P.depth t = false := by
  unfold eqT at hf
  split at hf
  · rename_i hc
    simp only [Bool.and_eq_true, Bool.not_eq_true'] at hc
    obtain ⟨i, _, _, _, _, h⟩ := eq_flat 12 t ks hf 10000 (by omega)
    have := h xs ys h1 h2 w
    simp only [vof, hc.1, if_true] at this
    exact ⟨this, hc.2⟩
  · cases hf

theorem Pur.eqA {t t' : TypeId} {x y : Operand} {xs ys : List Value} {ks : List Fk} (hf : eqT P t = some ks) (hx : ev e x = some (.agg xs.toArray)) (hy : ev e y = some (.agg ys.toArray)) (h1 : fks ks xs) (h2 : fks ks ys) :
    Pur P ⟨dst, .binOp .eql t x y t', ty, pos, aft, gd⟩ e (.bool (eqs xs ys)) := by
  intro a w hA
  have e1 := hA.ev hx
  have e2 := hA.ev hy
  obtain ⟨h3, h4⟩ := eqT_run hf h1 h2 w
  simp only [execOp, e1, e2, Sem.run_bind, run_eqGuard_agg w .eql t x y _ _ h4, Result.andThen_ok, run_eql_struct, h3, Sem.run_pure]
theorem Pur.neA {t t' : TypeId} {x y : Operand} {xs ys : List Value} {ks : List Fk} (hf : eqT P t = some ks) (hx : ev e x = some (.agg xs.toArray)) (hy : ev e y = some (.agg ys.toArray)) (h1 : fks ks xs) (h2 : fks ks ys) :
    Pur P ⟨dst, .binOp .neq t x y t', ty, pos, aft, gd⟩ e (.bool (!eqs xs ys)) := by
  intro a w hA
  have e1 := hA.ev hx
  have e2 := hA.ev hy
  obtain ⟨h3, h4⟩ := eqT_run hf h1 h2 w
  simp only [execOp, e1, e2, Sem.run_bind, run_eqGuard_agg w .neq t x y _ _ h4, Result.andThen_ok, run_neq_struct, h3, Sem.run_pure]

theorem eqs_ints : ∀ (k : IntKind) (xs ys : List Int), eqs (xs.map (Value.int k)) (ys.map (Value.int k)) = decide (xs = ys)
  | k, [], [] => rfl
  | k, [], _ :: _ => rfl
  | k, _ :: _, [] => rfl
  | k, x :: xs, y :: ys => by
    simp only [List.map_cons, eqs, eqv, eqs_ints k xs ys, List.cons.injEq]
    by_cases h : x = y <;> simp [h]
theorem fks_ints (k : IntKind) : ∀ (xs : List Int), fks (List.replicate xs.length (.int k)) (xs.map (Value.int k))
  | [] => trivial
  | x :: xs => ⟨⟨x, rfl⟩, fks_ints k xs⟩

theorem Pur.eqB {t t' : TypeId} {x y : Operand} {a b : Bool} (ht : P.underlying t = some .bool) (hx : ev e x = some (.bool a)) (hy : ev e y = some (.bool b)) : Pur P ⟨dst, .binOp .eql t x y t', ty, pos, aft, gd⟩ e (.bool (a == b)) := by
  intro A w hA
  have e1 := hA.ev hx
  have e2 := hA.ev hy
  simp only [execOp, e1, e2, eqGuard_at_bool, Sem.run_bind, Sem.run_pure, Result.andThen_ok]
  simp [binOp, Op.equal, Op.maxDepth, run_equalIn_bool' w 9999 t a b ht]
theorem Pur.neB {t t' : TypeId} {x y : Operand} {a b : Bool} (ht : P.underlying t = some .bool) (hx : ev e x = some (.bool a)) (hy : ev e y = some (.bool b)) : Pur P ⟨dst, .binOp .neq t x y t', ty, pos, aft, gd⟩ e (.bool (a != b)) := by
  intro A w hA
  have e1 := hA.ev hx
  have e2 := hA.ev hy
  simp only [execOp, e1, e2, eqGuard_at_bool, Sem.run_bind, Sem.run_pure, Result.andThen_ok]
  simp [binOp, Op.equal, Op.maxDepth, run_equalIn_bool' w 9999 t a b ht, bne]
theorem Pur.eqS {t t' : TypeId} {x y : Operand} {a b : ByteArray} (hx : ev e x = some (.string a)) (hy : ev e y = some (.string b)) : Pur P ⟨dst, .binOp .eql t x y t', ty, pos, aft, gd⟩ e (.bool (a.toList == b.toList)) := by
  intro A w hA
  have e1 := hA.ev hx
  have e2 := hA.ev hy
  simp only [execOp, e1, e2, eqGuard_at_string, Sem.run_bind, Sem.run_pure, Result.andThen_ok]
  simp [binOp, Op.stringOp]
theorem Pur.neS {t t' : TypeId} {x y : Operand} {a b : ByteArray} (hx : ev e x = some (.string a)) (hy : ev e y = some (.string b)) : Pur P ⟨dst, .binOp .neq t x y t', ty, pos, aft, gd⟩ e (.bool (!(a.toList == b.toList))) := by
  intro A w hA
  have e1 := hA.ev hx
  have e2 := hA.ev hy
  simp only [execOp, e1, e2, eqGuard_at_string, Sem.run_bind, Sem.run_pure, Result.andThen_ok]
  simp [binOp, Op.stringOp]

/-! ### struct literals -/
def Idx : List Value → Nat → List Value → Prop
  | l, i, [] => Nat.beq l.length i = true
  | l, i, v :: vs => l[i]? = some v ∧ Idx l (i + 1) vs

theorem Idx.drop : ∀ {vs l : List Value} {i : Nat}, Idx l i vs → l.drop i = vs
  | [], l, i, h => by
    have : l.length = i := by simpa [Idx] using h
    simp [this]
  | v :: vs, l, i, ⟨h1, h2⟩ => by
    have hlt : i < l.length := by
      rcases Nat.lt_or_ge i l.length with h | h
      · exact h
      · rw [List.getElem?_eq_none h] at h1; cases h1
    rw [List.drop_eq_getElem_cons hlt, h2.drop]
    rw [List.getElem?_eq_getElem hlt] at h1
    cases h1; rfl
theorem Idx.eq {vs l : List Value} (h : Idx l 0 vs) : l = vs := by simpa using h.drop

def splice (cs : List Value) (o : Nat) (vs : List Value) : List Value := cs.take o ++ vs ++ cs.drop (o + vs.length)

theorem splice_fold : ∀ (vs : List Value) (cs : List Value) (o j : Nat), o + j + vs.length ≤ cs.length →
    (vs.zipIdx j).foldl (fun a (x : Value × Nat) => a.setIfInBounds (o + x.2) x.1) cs.toArray = (splice cs (o + j) vs).toArray
  | [], cs, o, j, h => by simp [splice]
  | v :: vs, cs, o, j, h => by
    simp only [List.length_cons] at h
    rw [List.zipIdx_cons, List.foldl_cons]
    have e1 : cs.toArray.setIfInBounds (o + j) v = (cs.set (o + j) v).toArray := by simp
    rw [e1, splice_fold vs (cs.set (o + j) v) o (j + 1) (by simp; omega)]
    congr 1
    unfold splice
    rw [List.drop_set_of_lt (by omega), show o + (j + 1) = (o + j) + 1 from by omega, List.take_set, List.take_succ_eq_append_getElem (by omega), List.set_append_right _ _ (by simp; omega)]
    simp [show o + j - min (o + j) cs.length = 0 from by omega, show o + j + 1 + vs.length = o + j + (vs.length + 1) from by omega]

def bldL (pl : List (Nat × Nat)) : List Value → List (Nat × Value) → Option (List Value)
  | cs, [] => some cs
  | cs, (i, v) :: r => match pl[i]? with
    | some (o, s) => match Nat.beq v.cells.size s && Nat.ble (o + s) cs.length with
      | true => bldL pl (splice cs o v.cells.toList) r
      | false => none
    | none => none

theorem fill_bld (pl : List (Nat × Nat)) : ∀ (r : List (Nat × Value)) (cs l : List Value), bldL pl cs r = some l → Instr.fill (fun i => pl[i]?) cs.toArray r = some l.toArray
  | [], cs, l, h => by cases h; rfl
  | (i, v) :: r, cs, l, h => by
    simp only [bldL] at h
    split at h
    case h_2 => cases h
    rename_i o s hp
    split at h
    case h_2 => cases h
    rename_i hc
    simp only [Bool.and_eq_true] at hc
    have h1 : v.cells.size = s := by simpa using hc.1
    have h2 : o + s ≤ cs.length := by simpa [Nat.ble_eq] using hc.2
    simp only [Instr.fill, hp]
    rw [if_neg (by simp [h1]; omega)]
    have e1 : v.cells.zipIdx.foldl (fun cs x => match x with | (c, j) => cs.setIfInBounds (o + j) c) cs.toArray = (splice cs o v.cells.toList).toArray := by
      have := splice_fold v.cells.toList cs o 0 (by simp; omega)
      simp only [Nat.add_zero] at this
      rw [← this]
      rw [← Array.foldl_toList]
      congr 1
      simp
    rw [e1]
    exact fill_bld pl r _ l h

/-- where a struct's fields lie, and its zero -/
def places (P : Program) (t : TypeId) : Option (List (Nat × Nat)) :=
  match P.underlying t with
  | some (.struct fs) => fs.toList.mapM fun f => (P.info? f.type).map fun i => (f.offset, i.size)
  | _ => none

theorem places_run : ∀ (fs : List Field) (pl : List (Nat × Nat)), (fs.mapM fun f => (P.info? f.type).map fun i => (f.offset, i.size)) = some pl → ∀ w,
    (fs.mapM (fun f => do pure (f.offset, ← sizeOf f.type) : Field → Sem (Nat × Nat))).run P w = .ok pl w
  | [], pl, h, w => by cases h; simp
  | f :: fs, pl, h, w => by
    rw [List.mapM_cons] at h
    simp only [Option.bind_eq_bind, Option.bind_eq_some_iff, Option.map_eq_some_iff, Option.pure_def, Option.some.injEq] at h
    obtain ⟨p, ⟨i, hi, rfl⟩, r, hr, rfl⟩ := h
    rw [List.mapM_cons]
    simp only [Sem.run_bind, run_sizeOf' hi, Result.andThen_ok, Sem.run_pure, places_run fs r hr w]

theorem Pur.bld {t : TypeId} {parts : List (Nat × Operand)} {pl : List (Nat × Nat)} {z vs l cs : List Value} (hp : places P t = some pl) (hz : zc P t = some z) (hv : evs e (parts.map (·.2)) = some vs)
    (hb : bldL pl z ((parts.map (·.1)).zip vs) = some l) (hi : Idx l 0 cs) : Pur P ⟨dst, .build t parts.toArray, ty, pos, aft, gd⟩ e (.agg cs.toArray) := by
  intro a w hA
  obtain rfl := hi.eq
  have h1 := hA.evs hv
  unfold places at hp
  split at hp
  case h_2 => cases hp
  rename_i fs hu
  obtain ⟨zv, hzc, hzr⟩ := zero_run hz w
  have hmap : (fs.mapM (fun f => do pure (f.offset, ← sizeOf f.type) : Field → Sem (Nat × Nat))).run P w = .ok pl.toArray w := by
    rw [Array.mapM_eq_mapM_toList]
    simp only [Sem.run_map, places_run _ _ hp w, Result.andThen_ok]
  have hparts : (parts.map fun p => (p.1, a.eval p.2)) = (parts.map (·.1)).zip vs := by
    rw [← h1, List.map_map]
    rw [List.zip_map']
    rfl
  have hfill := fill_bld pl _ z l hb
  have e9 : (fun x : Nat => pl.toArray[x]?) = fun i : Nat => pl[i]? := by funext i; simp
  simp only [execOp, Instr.build, Sem.run_bind, hzr, Result.andThen_ok, run_underlying hu, hmap, hzc, List.map_toArray, hparts, e9, hfill, Sem.run_pure]

/-! ### a slice's literal, of structs -/
theorem fill_aggs (s : Nat) : ∀ (vs : List (List Value)) (l z : List Value) (j : Nat), (∀ v ∈ vs, v.length = s) → l.length = j * s → z.length = vs.length * s →
    Instr.fill (fun i => some (i * s, s)) (l ++ z).toArray (((vs.map fun c => Value.agg c.toArray).zipIdx j).map fun p => (p.2, p.1)) = some (l ++ vs.flatten).toArray
  | [], l, z, j, _, _, hz => by
    have : z = [] := by simpa using hz
    subst this; simp [Instr.fill]
  | v :: vs, l, z, j, h1, hl, hz => by
    have hv := h1 v List.mem_cons_self
    simp only [List.length_cons, Nat.add_mul, Nat.one_mul] at hz
    simp only [List.map_cons, List.zipIdx_cons, Instr.fill]
    rw [if_neg (by simp [Value.cells, hv]; omega)]
    have e1 : (Value.agg v.toArray).cells.zipIdx.foldl (fun cs x => match x with | (c, j') => cs.setIfInBounds (j * s + j') c) (l ++ z).toArray = (splice (l ++ z) (j * s) v).toArray := by
      have := splice_fold v (l ++ z) (j * s) 0 (by simp; omega)
      simp only [Nat.add_zero] at this
      show v.toArray.zipIdx.foldl _ _ = _
      rw [← this, ← Array.foldl_toList]
      congr 1
      simp
    have e2 : splice (l ++ z) (j * s) v = (l ++ v) ++ z.drop s := by
      unfold splice
      rw [← hl, List.take_left, hv, List.drop_append, List.drop_of_length_le (by omega)]
      simp
    rw [e1, e2]
    have := fill_aggs s vs (l ++ v) (z.drop s) (j + 1) (fun u hu => h1 u (List.mem_cons_of_mem _ hu)) (by simp [hl, hv, Nat.add_mul]) (by simp; omega)
    rw [this]
    simp

/-- a slice type: its element's type and cells -/
def slA (P : Program) (t : TypeId) : Option (TypeId × Nat) :=
  match P.underlying t with
  | some (.slice el) => match P.info? el with
    | some i => match i.zero with
      | some z => if z.cells.size == i.size && Nat.blt 0 i.size then some (el, i.size) else none
      | none => none
    | none => none
  | _ => none

theorem Does.bslA {t el s : Nat} {len : Nat} {parts : List (Nat × Operand)} (vs : List (List Value)) {us : List Value} (ht : slA P t = some (el, s)) (hp : prow 0 parts = true) (hv : evs e (parts.map (·.2)) = some us) (hu : us = vs.map fun c => Value.agg c.toArray)
    (h1 : (vs.all fun c => Nat.beq c.length s) = true) (hl : vs.length = len) (hb : Nat.ble (len * s) 16777216 = true) :
    Does P ⟨dst, .buildSlice t len parts.toArray, ty, pos, aft, gd⟩ e H (fun u H' => u = .slice (some ⟨H.size, 0, none⟩) len len ∧ H' = H.push (.cells vs.flatten.toArray el (0, 0))) := by
  intro w0 n a hA K Q hK
  unfold slA at ht
  split at ht
  case h_2 => cases ht
  rename_i el' hu'
  split at ht
  case h_2 => cases ht
  rename_i i hi
  split at ht
  case h_2 => cases ht
  rename_i z hz
  split at ht
  case isFalse => cases ht
  rename_i hc
  cases ht
  simp only [Bool.and_eq_true, beq_iff_eq] at hc
  obtain ⟨hzs, hpos⟩ := hc
  have hpos' : 0 < i.size := by simpa [Nat.blt_eq] using hpos
  subst hu
  have e1 := hA.evs hv
  rw [List.map_map] at e1
  have e2 := prow_map a.eval 0 parts hp
  have e3 : parts.map (fun p => a.eval p.2) = vs.map fun c => Value.agg c.toArray := e1
  rw [e3] at e2
  have hvs : ∀ v ∈ vs, v.length = i.size := fun v hv => by
    have := List.all_eq_true.1 h1 v hv
    simpa using this
  have hlen : len * i.size ≤ 16777216 := by simpa [Nat.ble_eq] using hb
  have key : ∀ zr : Array Value, Instr.fill (fun j => some (j * i.size, i.size)) (Array.map (fun x => zr[x % zr.size]!) (Array.range (len * i.size))) (List.map (fun p : Nat × Operand => (p.1, a.eval p.2)) parts) = some vs.flatten.toArray := by
    intro zr
    rw [e2]
    have := fill_aggs i.size vs [] ((Array.range (len * i.size)).map (fun x => zr[x % zr.size]!)).toList 0 hvs (by simp) (by simp [hl])
    simpa only [List.nil_append, Array.toArray_toList] using this
  have hz' : (zeroValue el).run P (mk w0 H n) = .ok z (mk w0 H n) := by simp [zeroValue, typeInfo, hi, hz]
  have hrun : (execOp a.eval ⟨dst, .buildSlice t len parts.toArray, ty, pos, aft, gd⟩).run P (mk w0 H n) = .ok (.value (.slice (some ⟨H.size, 0, none⟩) len len)) (mk w0 (H.push (.cells vs.flatten.toArray el)) n) := by
    simp only [execOp, Instr.buildSlice, Sem.run_bind, run_underlying hu', Result.andThen_ok, run_sizeOf' hi]
    rw [if_neg (by omega)]
    simp only [Sem.run_pure, Result.andThen_ok]
    by_cases h0 : len * i.size = 0
    · rw [if_pos h0]
      simp only [Sem.run_bind, Sem.run_pure, Result.andThen_ok, List.map_toArray, key, newRow_run]
    · rw [if_neg h0]
      simp only [Sem.run_bind, Sem.run_pure, Result.andThen_ok, List.map_toArray, key, newRow_run, hz']
  unfold Oper.wp
  rw [hrun]
  exact hK _ _ n ⟨rfl, rfl⟩

/-! ### slices of the call's own -/

/-- v, over H, is nil or a slice of n elements (of type el, s cells each) at the head of a block from B on that may be written; its cells are xs -/
def OwnS (H : Heap) (B : Nat) (el : TypeId) (s : Nat) (v : Value) (n : Nat) (xs : List Value) : Prop :=
  xs.length = n * s ∧
  ((v = .slice none 0 0 ∧ n = 0) ∨
   ∃ g cap cur, v = .slice (some ⟨g, 0, none⟩) n cap ∧ B ≤ g ∧ H[g]? = some (.cells cur el (0, 0)) ∧ n ≤ cap ∧ cap ≤ maxLen ∧ cur.size = cap * s ∧ cur.toList.take (n * s) = xs)

theorem OwnS.nil (H : Heap) (B : Nat) (el : TypeId) (s : Nat) : OwnS H B el s (.slice none 0 0) 0 [] := ⟨by simp, .inl ⟨rfl, rfl⟩⟩
theorem OwnS.new {H : Heap} {B : Nat} {el : TypeId} {s n : Nat} {xs : List Value} (hl : xs.length = n * s) (hn : n ≤ maxLen) (hB : B ≤ H.size) : OwnS (H.push (.cells xs.toArray el (0, 0))) B el s (.slice (some ⟨H.size, 0, none⟩) n n) n xs :=
  ⟨hl, .inr ⟨H.size, n, xs.toArray, rfl, hB, by simp, Nat.le_refl _, hn, by simpa using hl, by simp [← hl]⟩⟩
theorem New.of_push {H : Heap} {el : TypeId} {xs : List Value} : New H (H.push (.cells xs.toArray el (0, 0))) xs := ⟨el, rfl⟩
theorem OwnS.mono {H : Heap} {B B' : Nat} {el : TypeId} {s : Nat} {v : Value} {n : Nat} {xs : List Value} (h : OwnS H B el s v n xs) (hb : B' ≤ B) : OwnS H B' el s v n xs := by
  refine ⟨h.1, h.2.imp id ?_⟩
  rintro ⟨g, cap, cur, h1, h2, r⟩
  exact ⟨g, cap, cur, h1, by omega, r⟩
theorem OwnS.but {H H' : Heap} {S : Nat → Prop} {B : Nat} {el : TypeId} {s : Nat} {v : Value} {n : Nat} {xs : List Value} (h : OwnS H B el s v n xs) (he : But S H H') (hs : ∀ g, v.ownBlock = some g → ¬ S g) : OwnS H' B el s v n xs := by
  refine ⟨h.1, h.2.imp id ?_⟩
  rintro ⟨g, cap, cur, rfl, h2, h3, r⟩
  have hlt : g < H.size := by
    rcases Nat.lt_or_ge g H.size with h' | h'
    · exact h'
    · simp [Array.getElem?_eq_none h'] at h3
  exact ⟨g, cap, cur, rfl, h2, by rw [he.2 g hlt (hs g rfl)]; exact h3, r⟩
theorem OwnS.ext {H H' : Heap} {B : Nat} {el : TypeId} {s : Nat} {v : Value} {n : Nat} {xs : List Value} (h : OwnS H B el s v n xs) (he : Ext H H') : OwnS H' B el s v n xs :=
  h.but (S := fun _ => False) he.but (fun _ _ h => h)

/-- what may be handed to append: nil, or cells that are there -/
def Src (H : Heap) (v : Value) (s m : Nat) (xs : List Value) : Prop :=
  xs.length = m * s ∧ ∃ A cap, v = .slice A m cap ∧ (A = none → cap = 0) ∧ (m = 0 ∨ ∃ b o c, A = some ⟨b, o, none⟩ ∧ Blk H b c ∧ (c.drop o).take (m * s) = xs)

theorem OwnS.src {H : Heap} {B : Nat} {el : TypeId} {s : Nat} {v : Value} {n : Nat} {xs : List Value} (h : OwnS H B el s v n xs) : Src H v s n xs := by
  refine ⟨h.1, ?_⟩
  rcases h.2 with ⟨rfl, rfl⟩ | ⟨g, cap, cur, rfl, h2, h3, _, _, _, h4⟩
  · exact ⟨none, 0, rfl, fun _ => rfl, .inl rfl⟩
  · exact ⟨_, cap, rfl, (fun h => by cases h), .inr ⟨g, 0, cur.toList, rfl, ⟨el, _, by simpa using h3⟩, by simpa using h4⟩⟩

def appT (P : Program) (t : TypeId) : Option (TypeId × Nat × Nat) :=
  match P.underlying t with
  | some (.slice el) => match P.info? el with
    | some i => match i.zero with
      | some z => if z.cells.size == i.size && Nat.blt 0 i.size then some (el, i.size, i.bytes) else none
      | none => none
    | none => none
  | _ => none

theorem mk_of {w0 w : World} (h1 : w.os = w0.os) (h2 : w.tape = w0.tape) (h3 : w.output = w0.output) : w = mk w0 w.heap w.drawn := by
  cases w; simp only [mk] at *; subst h1; subst h2; subst h3; rfl

theorem Does.app {x y : Operand} {t el : TypeId} {s by' B n m : Nat} {v u : Value} {xs news : List Value} (ht : appT P t = some (el, s, by')) (hx : ev e x = some v) (hy : ev e y = some u)
    (hown : OwnS H B el s v n xs) (hsrc : Src H u s m news) (h1 : ones news = true) (h63 : n + m ≤ maxLen) (hby : (n + m) * by' ≤ 140737488355328) (hB : B ≤ H.size) :
    Does P ⟨dst, .call { callee := .builtin .append, args := #[x, y], argTypes := #[t, t] }, ty, pos, aft, gd⟩ e H (fun v' H' => OwnS H' B el s v' (n + m) (xs ++ news) ∧ But (fun g => v.ownBlock = some g) H H' ∧
      (v' = .slice none 0 0 ↔ v = .slice none 0 0 ∧ m = 0) ∧ (v'.ownBlock = v.ownBlock ∨ v'.ownBlock = some H.size)) := by
  intro w0 nn a hA K Q hK
  unfold appT at ht
  split at ht
  case h_2 => cases ht
  rename_i el' hu
  split at ht
  case h_2 => cases ht
  rename_i i hi
  split at ht
  case h_2 => cases ht
  rename_i z hz
  split at ht
  case isFalse => cases ht
  rename_i hc
  cases ht
  simp only [Bool.and_eq_true, beq_iff_eq] at hc
  obtain ⟨hzs, hpos⟩ := hc
  have hpos' : 0 < i.size := by simpa [Nat.blt_eq] using hpos
  obtain ⟨cs, hcall⟩ := run_call_builtin (P := P) (dst := dst) (b := .append) (xs := [x, y]) (ats := #[t, t]) (ty := ty) (pos := pos) (aft := aft) (gd := gd) (vs := [v, u]) a (mk w0 H nn) hA (by simp [evs, hx, hy])
  have hown' : (mk w0 H nn).ownsRow B el i.size v n xs := hown
  have key : ∃ v' w', (Builtin.append_ #[t, t] ty #[v, u]).run P (mk w0 H nn) = .ok v' w' ∧ w'.ownsRow B el i.size v' (n + m) (xs ++ news) ∧ (mk w0 H nn).grownBy w' v.ownBlock ∧
      (v' = .slice none 0 0 ↔ v = .slice none 0 0 ∧ m = 0) ∧ (v'.ownBlock = v.ownBlock ∨ v'.ownBlock = some (mk w0 H nn).heap.size) := by
    obtain ⟨hlen, hs⟩ := hsrc
    obtain ⟨A, cap, rfl, hn0, hs⟩ := hs
    cases A with
    | none =>
      have hc0 := hn0 rfl
      subst hc0
      have hm : m = 0 := by
        rcases hs with h | ⟨b, o, c, h, _⟩
        · exact h
        · cases h
      subst hm
      have hn : news = [] := List.eq_nil_of_length_eq_zero (by simpa using hlen)
      subst hn
      have hr := run_append_owned_none (P := P) (w := mk w0 H nn) B t ty el i i.size hu hi v n xs hown'
      refine ⟨v, mk w0 H nn, hr, by simpa using hown', ⟨rfl, rfl, rfl, Nat.le_refl _, fun _ _ _ => rfl⟩, by simp, .inl rfl⟩
    | some ad =>
      refine run_append_own_at (P := P) (mk w0 H nn) B t ty el i z i.size i.bytes hu hi hz rfl rfl hzs hpos' v n xs hown' ad m cap news hlen ?_ ?_ h63 hby hB
      · intro j q hj
        rcases hs with h0 | ⟨b, o, c, h, hb, hc⟩
        · subst h0
          have hn : news = [] := List.eq_nil_of_length_eq_zero (by simpa using hlen)
          subst hn; simp at hj
        · cases h
          rw [add_lit, cell_blk rfl hb]
          have : ((c.drop o).take (m * i.size))[j]? = some q := by rw [hc]; exact hj
          rw [List.getElem?_take] at this
          split at this
          · simpa using this
          · cases this
      · intro q hq
        simp only [ones, List.all_eq_true] at h1
        exact h1 q hq
  obtain ⟨v', w', hr, h2, h3, h4, h5⟩ := key
  have hw' : w' = mk w0 w'.heap w'.drawn := mk_of (by rw [h3.os]; rfl) (by rw [h3.tape]; rfl) (by rw [h3.output]; rfl)
  unfold Oper.wp
  rw [show (#[x, y] : Array Operand) = [x, y].toArray from rfl, hcall]
  have hb : (builtin .append #[t, t] ty cs [v, u].toArray).run P (mk w0 H nn) = .ok (.value v') w' := by
    simp only [builtin, Sem.run_bind, hr, Result.andThen_ok, Sem.run_pure]
  rw [hb]
  show K _ w'
  rw [hw']
  exact hK v' w'.heap w'.drawn ⟨h2, ⟨h3.size, fun k hk hS => h3.block k hk (fun e => hS e.symm)⟩, h4, h5⟩

/-! ### cuts -/
theorem Pur.cutH {t : TypeId} {x y : Operand} {A : Option Addr} {l c s : Nat} {k : IntKind} {h : Int} (hs : esz P t = some s) (hx : ev e x = some (.slice A l c)) (hy : ev e y = some (.int k h)) (h0 : 0 ≤ h) (h1 : h ≤ c) :
    Pur P ⟨dst, .slice t x none (some y) none, ty, pos, aft, gd⟩ e (.slice A h.toNat c) := by
  intro a w hA
  have e1 := hA.ev hx
  have e2 := hA.ev hy
  unfold esz at hs
  split at hs
  case h_2 => cases hs
  rename_i el hu
  simp only [Option.map_eq_some_iff] at hs
  obtain ⟨i, hi, rfl⟩ := hs
  have hmap : (A.map fun p => p.add (0 * i.size)) = A := by cases A <;> simp [Addr.add]
  simp only [execOp, e1, e2, Option.map_some, Option.map_none, Instr.sliceAt, Sem.run_bind, run_underlying hu, Result.andThen_ok, Instr.slice, Instr.sliceBounds, Sem.run_pure, Instr.sliceBound, asIntOf, run_sizeOf' hi]
  simp [h0, h1, Addr.add]
theorem max_fold (w : World) : ∀ (as : List Int) (a : Int), ((as.map (Value.int .i64)).foldlM Builtin.max2 (.int .i64 a)).run P w = .ok (.int .i64 (as.foldl max a)) w
  | [], a => by simp
  | b :: as, a => by
    have h : (if b > a then b else a) = max a b := by omega
    simp only [List.map_cons, List.foldlM_cons, Sem.run_bind, Builtin.max2, Sem.run_pure, Result.andThen_ok, List.foldl_cons, h, max_fold w as]

theorem Pur.maxs (as : List Int) {xs : List Operand} {ats : Array TypeId} {a : Int} (hx : evs e xs = some (.int .i64 a :: as.map (Value.int .i64))) :
    Pur P ⟨dst, .call { callee := .builtin .max, args := xs.toArray, argTypes := ats }, ty, pos, aft, gd⟩ e (.int .i64 (as.foldl max a)) := by
  intro A w hA
  obtain ⟨cs, h⟩ := run_call_builtin (P := P) (dst := dst) (b := .max) (xs := xs) (ats := ats) (ty := ty) (pos := pos) (aft := aft) (gd := gd) A w hA hx
  rw [h]
  simp only [builtin, Builtin.max_, Sem.run_bind, max_fold, Result.andThen_ok, Sem.run_pure]
theorem Pur.max2 {t : TypeId} {x y : Operand} {a b : Int} (hx : ev e x = some (.int .i64 a)) (hy : ev e y = some (.int .i64 b)) :
    Pur P ⟨dst, .call { callee := .builtin .max, args := #[x, y], argTypes := #[t, t] }, ty, pos, aft, gd⟩ e (.int .i64 (max a b)) :=
  Pur.maxs [b] (xs := [x, y]) (by simp [evs, hx, hy])

theorem Pur.neg {t : TypeId} {x : Operand} {k : IntKind} {n : Int} (hx : ev e x = some (.int k n)) : Pur P ⟨dst, .unOp .neg t x, ty, pos, aft, gd⟩ e (.int k (k.wrap (-n))) := by
  intro a w hA
  have e1 := hA.ev hx
  simp only [execOp, e1]
  simp [Op.unary, Op.intArith]
theorem Pur.neg64 {t : TypeId} {x : Operand} {n : Int} (hx : ev e x = some (.int .i64 n)) (h : -9223372036854775808 ≤ -n ∧ -n ≤ 9223372036854775807) : Pur P ⟨dst, .unOp .neg t x, ty, pos, aft, gd⟩ e (.int .i64 (-n)) := by
  have := Pur.neg (P := P) (dst := dst) (ty := ty) (pos := pos) (aft := aft) (gd := gd) (t := t) hx
  rwa [wrap_in h] at this

theorem Pur.cnv {src t : TypeId} {x : Operand} {k k' : IntKind} {n : Int} (hs : P.underlying src = some (.int k)) (ht : P.underlying t = some (.int k')) (hx : ev e x = some (.int k n)) :
    Pur P ⟨dst, .convert src t x, ty, pos, aft, gd⟩ e (.int k' (k'.wrap n)) := by
  intro a w hA
  have e1 := hA.ev hx
  simp only [execOp, e1, convert, Sem.run_bind, run_underlying hs, run_underlying ht, Result.andThen_ok]
  simp [Conv.intToInt]
theorem Pur.cnv64 {src t : TypeId} {x : Operand} {n : Int} (hs : P.underlying src = some (.int .i64)) (ht : P.underlying t = some (.int .i64)) (hx : ev e x = some (.int .i64 n)) (h : -9223372036854775808 ≤ n ∧ n ≤ 9223372036854775807) :
    Pur P ⟨dst, .convert src t x, ty, pos, aft, gd⟩ e (.int .i64 n) := by
  have := Pur.cnv (P := P) (dst := dst) (ty := ty) (pos := pos) (aft := aft) (gd := gd) hs ht hx
  rwa [wrap_in h] at this
/-- & of two numbers -/
theorem Pur.and {t t' : TypeId} {x y : Operand} {k : IntKind} {a b : Int} (hx : ev e x = some (.int k a)) (hy : ev e y = some (.int k b)) : Pur P ⟨dst, .binOp .and t x y t', ty, pos, aft, gd⟩ e (.int k (bits .and k a b)) :=
  Pur.ibin hx hy fun w => by simp [go_sem]
end rules
end Go.Fx
