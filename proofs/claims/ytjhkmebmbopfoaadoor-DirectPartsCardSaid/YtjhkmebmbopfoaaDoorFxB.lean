/-
  Rules for single operations, over heaps.
-/
import Derived.Test.YtjhkmebmbopfoaaDoorFxA
namespace Go.Fx
set_option linter.unusedSimpArgs false
set_option linter.unusedVariables false
open Go

/-! ### blocks -/

/-- Block b reads as the cells c. -/
def Blk (H : Heap) (b : Nat) (c : List Value) : Prop := ∃ T fr, H[b]? = some (.cells c.toArray T fr)
/-- .. and may be written. -/
def Own (H : Heap) (b : Nat) (c : List Value) : Prop := ∃ T, H[b]? = some (.cells c.toArray T (0, 0))
/-- What was there is there. -/
def Ext (H H' : Heap) : Prop := H.size ≤ H'.size ∧ ∀ b, b < H.size → H'[b]? = H[b]?
/-- .. but for the blocks of S. -/
def But (S : Nat → Prop) (H H' : Heap) : Prop := H.size ≤ H'.size ∧ ∀ b, b < H.size → ¬ S b → H'[b]? = H[b]?
/-- A new block of cells c. -/
def New (H H' : Heap) (c : List Value) : Prop := ∃ T, H' = H.push (.cells c.toArray T (0, 0))
/-- Block b is written: it holds c. -/
def Upd (H H' : Heap) (b : Nat) (c : List Value) : Prop := H'.size = H.size ∧ Own H' b c ∧ ∀ b', b' ≠ b → H'[b']? = H[b']?

theorem Own.blk {H : Heap} {b : Nat} {c : List Value} (h : Own H b c) : Blk H b c := let ⟨T, h⟩ := h; ⟨T, _, h⟩
theorem Blk.lt {H : Heap} {b : Nat} {c : List Value} (h : Blk H b c) : b < H.size := by
  obtain ⟨T, fr, h⟩ := h
  rcases Nat.lt_or_ge b H.size with h' | h'
  · exact h'
  · simp [Array.getElem?_eq_none h'] at h
theorem Own.lt {H : Heap} {b : Nat} {c : List Value} (h : Own H b c) : b < H.size := h.blk.lt
theorem Blk.inj {H : Heap} {b : Nat} {c c' : List Value} (h : Blk H b c) (h' : Blk H b c') : c = c' := by
  obtain ⟨T, fr, h⟩ := h
  obtain ⟨T', fr', h'⟩ := h'
  rw [h] at h'; simpa using (by injection h' with h'; injection h' : c.toArray = c'.toArray)

theorem Ext.refl (H : Heap) : Ext H H := ⟨Nat.le_refl _, fun _ _ => rfl⟩
theorem Ext.trans {A B C : Heap} (h : Ext A B) (k : Ext B C) : Ext A C :=
  ⟨Nat.le_trans h.1 k.1, fun b hb => (k.2 b (Nat.lt_of_lt_of_le hb h.1)).trans (h.2 b hb)⟩
theorem Ext.but {S : Nat → Prop} {H H' : Heap} (h : Ext H H') : But S H H' := ⟨h.1, fun b hb _ => h.2 b hb⟩
theorem But.refl (S : Nat → Prop) (H : Heap) : But S H H := (Ext.refl H).but
theorem But.trans {S : Nat → Prop} {A B C : Heap} (h : But S A B) (k : But S B C) : But S A C :=
  ⟨Nat.le_trans h.1 k.1, fun b hb hS => (k.2 b (Nat.lt_of_lt_of_le hb h.1) hS).trans (h.2 b hb hS)⟩
theorem But.mono {S S' : Nat → Prop} {H H' : Heap} (h : But S H H') (hs : ∀ b, b < H.size → S b → S' b) : But S' H H' :=
  ⟨h.1, fun b hb hS => h.2 b hb fun hb' => hS (hs b hb hb')⟩
theorem But.ext {H H' : Heap} {S : Nat → Prop} (h : But S H H') (hs : ∀ b, b < H.size → ¬ S b) : Ext H H' := ⟨h.1, fun b hb => h.2 b hb (hs b hb)⟩
theorem New.ext {H H' : Heap} {c : List Value} (h : New H H' c) : Ext H H' := by
  obtain ⟨T, rfl⟩ := h
  refine ⟨by simp, fun b hb => ?_⟩
  rw [Array.getElem?_push, if_neg (by omega)]
theorem New.own {H H' : Heap} {c : List Value} (h : New H H' c) : Own H' H.size c := by
  obtain ⟨T, rfl⟩ := h
  exact ⟨T, by simp⟩
theorem New.size {H H' : Heap} {c : List Value} (h : New H H' c) : H'.size = H.size + 1 := by
  obtain ⟨T, rfl⟩ := h
  simp
theorem Upd.but {H H' : Heap} {b : Nat} {c : List Value} (h : Upd H H' b c) : But (· = b) H H' := ⟨by rw [h.1]; exact Nat.le_refl _, fun b' _ hb => h.2.2 b' hb⟩
theorem Upd.own {H H' : Heap} {b : Nat} {c : List Value} (h : Upd H H' b c) : Own H' b c := h.2.1
theorem Blk.but {H H' : Heap} {b : Nat} {c : List Value} {S : Nat → Prop} (h : Blk H b c) (he : But S H H') (hb : ¬ S b) : Blk H' b c := by
  have hl := h.lt
  obtain ⟨T, fr, h⟩ := h
  exact ⟨T, fr, by rw [he.2 b hl hb]; exact h⟩
theorem Own.but {H H' : Heap} {b : Nat} {c : List Value} {S : Nat → Prop} (h : Own H b c) (he : But S H H') (hb : ¬ S b) : Own H' b c := by
  have hl := h.lt
  obtain ⟨T, h⟩ := h
  exact ⟨T, by rw [he.2 b hl hb]; exact h⟩
theorem Blk.ext {H H' : Heap} {b : Nat} {c : List Value} (h : Blk H b c) (he : Ext H H') : Blk H' b c := by
  have hl := h.lt
  obtain ⟨T, fr, h⟩ := h
  exact ⟨T, fr, by rw [he.2 b hl]; exact h⟩
theorem Own.ext {H H' : Heap} {b : Nat} {c : List Value} (h : Own H b c) (he : Ext H H') : Own H' b c := by
  have hl := h.lt
  obtain ⟨T, h⟩ := h
  exact ⟨T, by rw [he.2 b hl]; exact h⟩

theorem cell_blk {w : World} {H : Heap} (hw : w.heap = H) {b o : Nat} {c : List Value} (h : Blk H b c) : w.cell? ⟨b, o, none⟩ = c[o]? := by
  obtain ⟨T, fr, h⟩ := h
  simp only [World.cell?, hw, h]
  simp
theorem frozen_own {w : World} {H : Heap} (hw : w.heap = H) {b o : Nat} {c : List Value} (h : Own H b c) : w.frozen? ⟨b, o, none⟩ = false := by
  obtain ⟨T, h⟩ := h
  simp only [World.frozen?, hw, h]
  simp
theorem setCell_upd (w : World) (H : Heap) (n : Nat) {b o : Nat} {c : List Value} (v : Value) (h : Own H b c) :
    ∃ H', (mk w H n).setCell ⟨b, o, none⟩ v = mk w H' n ∧ Upd H H' b (c.set o v) := by
  obtain ⟨T, h⟩ := h
  refine ⟨_, rfl, ?_, ⟨T, ?_⟩, ?_⟩
  · simp [mk]
  · simp [mk, Array.getElem?_modify, h]
  · intro b' hb
    simp only [mk, Array.getElem?_modify]
    rw [if_neg (by omega)]

section rules
variable {P : Program} {dst : Option Tmp} {ty : TypeId} {pos : String} {aft : Array Edge} {gd : Option (Nat × Bool)} {e : Env} {H : Heap}

theorem Pur.mv {x : Operand} {v : Value} (hx : ev e x = some v) : Pur P ⟨dst, .move x, ty, pos, aft, gd⟩ e v :=
  fun a w hA => by simp [execOp, hA.ev hx]
theorem Pur.asg {x : Operand} {v : Value} (hx : ev e x = some v) : Pur P ⟨dst, .assign x, ty, pos, aft, gd⟩ e v :=
  fun a w hA => by simp [execOp, hA.ev hx]
theorem Pur.pickT {c x y : Operand} {v : Value} (hc : ev e c = some (.bool true)) (hx : ev e x = some v) : Pur P ⟨dst, .pick c x y, ty, pos, aft, gd⟩ e v :=
  fun a w hA => by simp [execOp, hA.ev hc, hA.ev hx, asBool]
theorem Pur.pickF {c x y : Operand} {v : Value} (hc : ev e c = some (.bool false)) (hy : ev e y = some v) : Pur P ⟨dst, .pick c x y, ty, pos, aft, gd⟩ e v :=
  fun a w hA => by simp [execOp, hA.ev hc, hA.ev hy, asBool]
theorem Pur.nilc {x : Operand} {p : Addr} (hx : ev e x = some (.pointer (some p))) : Pur P ⟨dst, .nilCheck x, ty, pos, aft, gd⟩ e (.pointer (some p)) :=
  fun a w hA => by simp [execOp, hA.ev hx]
theorem Pur.ext {x : Operand} {vs : Array Value} {i : Nat} {v : Value} (hx : ev e x = some (.tuple vs)) (hi : vs[i]? = some v) : Pur P ⟨dst, .extract x i, ty, pos, aft, gd⟩ e v :=
  fun a w hA => by simp [execOp, hA.ev hx, Instr.extract, hi]

section ints
variable {t t' : TypeId} {x y : Operand} {k : IntKind} {a b : Int}
theorem Pur.ibin {op : BinOp} {r : Value} (hx : ev e x = some (.int k a)) (hy : ev e y = some (.int k b)) (h : ∀ w, (binOp op t (.int k a) (.int k b)).run P w = .ok r w) :
    Pur P ⟨dst, .binOp op t x y t', ty, pos, aft, gd⟩ e r := by
  intro A w hA
  have e1 := hA.ev hx
  have e2 := hA.ev hy
  simp only [execOp, e1, e2, eqGuard_at_int, Sem.run_bind, Sem.run_pure, Result.andThen_ok, h]
theorem Pur.add (hx : ev e x = some (.int k a)) (hy : ev e y = some (.int k b)) : Pur P ⟨dst, .binOp .add t x y t', ty, pos, aft, gd⟩ e (.int k (k.wrap (a + b))) :=
  Pur.ibin hx hy fun w => by simp [go_sem, Op.intArith]
theorem Pur.sub (hx : ev e x = some (.int k a)) (hy : ev e y = some (.int k b)) : Pur P ⟨dst, .binOp .sub t x y t', ty, pos, aft, gd⟩ e (.int k (k.wrap (a - b))) :=
  Pur.ibin hx hy fun w => by simp [go_sem, Op.intArith]
theorem Pur.mul (hx : ev e x = some (.int k a)) (hy : ev e y = some (.int k b)) : Pur P ⟨dst, .binOp .mul t x y t', ty, pos, aft, gd⟩ e (.int k (k.wrap (a * b))) :=
  Pur.ibin hx hy fun w => by simp [go_sem, Op.intArith]
theorem wrap_in {n : Int} (h : -9223372036854775808 ≤ n ∧ n ≤ 9223372036854775807) : IntKind.i64.wrap n = n := IntWalk.i64_in _ h
theorem Pur.add64 (hx : ev e x = some (.int .i64 a)) (hy : ev e y = some (.int .i64 b)) (h : -9223372036854775808 ≤ a + b ∧ a + b ≤ 9223372036854775807) :
    Pur P ⟨dst, .binOp .add t x y t', ty, pos, aft, gd⟩ e (.int .i64 (a + b)) := by
  have := Pur.add (P := P) (dst := dst) (ty := ty) (pos := pos) (aft := aft) (gd := gd) (t := t) (t' := t') hx hy
  rwa [wrap_in h] at this
theorem Pur.sub64 (hx : ev e x = some (.int .i64 a)) (hy : ev e y = some (.int .i64 b)) (h : -9223372036854775808 ≤ a - b ∧ a - b ≤ 9223372036854775807) :
    Pur P ⟨dst, .binOp .sub t x y t', ty, pos, aft, gd⟩ e (.int .i64 (a - b)) := by
  have := Pur.sub (P := P) (dst := dst) (ty := ty) (pos := pos) (aft := aft) (gd := gd) (t := t) (t' := t') hx hy
  rwa [wrap_in h] at this
theorem Pur.mul64 (hx : ev e x = some (.int .i64 a)) (hy : ev e y = some (.int .i64 b)) (h : -9223372036854775808 ≤ a * b ∧ a * b ≤ 9223372036854775807) :
    Pur P ⟨dst, .binOp .mul t x y t', ty, pos, aft, gd⟩ e (.int .i64 (a * b)) := by
  have := Pur.mul (P := P) (dst := dst) (ty := ty) (pos := pos) (aft := aft) (gd := gd) (t := t) (t' := t') hx hy
  rwa [wrap_in h] at this
theorem Pur.lss (hx : ev e x = some (.int k a)) (hy : ev e y = some (.int k b)) : Pur P ⟨dst, .binOp .lss t x y t', ty, pos, aft, gd⟩ e (.bool (decide (a < b))) :=
  Pur.ibin hx hy fun w => by simp [go_sem]
theorem Pur.leq (hx : ev e x = some (.int k a)) (hy : ev e y = some (.int k b)) : Pur P ⟨dst, .binOp .leq t x y t', ty, pos, aft, gd⟩ e (.bool (decide (a ≤ b))) :=
  Pur.ibin hx hy fun w => by simp [go_sem]
theorem Pur.gtr (hx : ev e x = some (.int k a)) (hy : ev e y = some (.int k b)) : Pur P ⟨dst, .binOp .gtr t x y t', ty, pos, aft, gd⟩ e (.bool (decide (b < a))) :=
  Pur.ibin hx hy fun w => by simp [go_sem]
theorem Pur.geq (hx : ev e x = some (.int k a)) (hy : ev e y = some (.int k b)) : Pur P ⟨dst, .binOp .geq t x y t', ty, pos, aft, gd⟩ e (.bool (decide (b ≤ a))) :=
  Pur.ibin hx hy fun w => by simp [go_sem]
theorem Pur.eql (hx : ev e x = some (.int k a)) (hy : ev e y = some (.int k b)) : Pur P ⟨dst, .binOp .eql t x y t', ty, pos, aft, gd⟩ e (.bool (decide (a = b))) :=
  Pur.ibin hx hy fun w => by simp [go_sem]; rfl
theorem Pur.neq (hx : ev e x = some (.int k a)) (hy : ev e y = some (.int k b)) : Pur P ⟨dst, .binOp .neq t x y t', ty, pos, aft, gd⟩ e (.bool (decide (a ≠ b))) :=
  Pur.ibin hx hy fun w => by
    rw [binOp_neq, Sem.run_pure]
    congr 2
    by_cases h : a = b <;> simp [h]
theorem Pur.quo {a b : Int} (hx : ev e x = some (.int k a)) (hy : ev e y = some (.int k b)) (hb : b ≠ 0) : Pur P ⟨dst, .binOp .quo t x y t', ty, pos, aft, gd⟩ e (.int k (k.wrap (a.tdiv b))) :=
  Pur.ibin hx hy fun w => by simp [go_sem, Op.intDiv, hb]
theorem Pur.rem {a b : Int} (hx : ev e x = some (.int k a)) (hy : ev e y = some (.int k b)) (hb : b ≠ 0) : Pur P ⟨dst, .binOp .rem t x y t', ty, pos, aft, gd⟩ e (.int k (a.tmod b)) :=
  Pur.ibin hx hy fun w => by simp [go_sem, Op.intDiv, hb]
end ints

/-! ### addresses -/

/-- where a field lies -/
def foff (P : Program) (s : TypeId) (f : Nat) : Option Nat :=
  match P.underlying s with
  | some (.struct fs) => match fs[f]? with
    | some fd => match P.info? fd.type with
      | some i => if i.size = 0 then none else some fd.offset
      | none => none
    | none => none
  | _ => none

theorem add_lit (b o n : Nat) : Addr.add ⟨b, o, none⟩ n = ⟨b, o + n, none⟩ := by
  unfold Addr.add; split
  · rename_i h; subst h; rfl
  · rfl

theorem run_sizeOf' {t : TypeId} {i : TypeInfo} (h : P.info? t = some i) (w : World) : (sizeOf t).run P w = .ok i.size w := by
  simp [sizeOf, typeInfo, h]

theorem fieldAt_run {s : TypeId} {f k : Nat} (hf : foff P s f = some k) (b o : Nat) (w : World) :
    (Instr.fieldAt s (.pointer (some ⟨b, o, none⟩)) f).run P w = .ok (.pointer (some ⟨b, o + k, none⟩)) w := by
  unfold foff at hf
  split at hf
  · rename_i fs hu
    split at hf
    · rename_i fd hfd
      split at hf
      · rename_i i hi
        split at hf
        · cases hf
        · rename_i hsz
          cases hf
          simp [Instr.fieldAt, run_underlying hu, hfd, Instr.sureAddr, fieldPlace, run_sizeOf' hi, hsz, add_lit]
      · cases hf
    · cases hf
  · cases hf

theorem Pur.fld {s : TypeId} {x : Operand} {f b o : Nat} (k : Nat) (hf : foff P s f = some k) (hx : ev e x = some (.pointer (some ⟨b, o, none⟩))) :
    Pur P ⟨dst, .fieldAddr s x f, ty, pos, aft, gd⟩ e (.pointer (some ⟨b, o + k, none⟩)) :=
  fun A w hA => by simp [execOp, hA.ev hx, fieldAt_run hf]

/-- the element type's cells of a slice type -/
def esz (P : Program) (t : TypeId) : Option Nat :=
  match P.underlying t with
  | some (.slice el) => (P.info? el).map (·.size)
  | _ => none

theorem indexAt_run {t : TypeId} {s : Nat} (hs : esz P t = some s) {b o l c : Nat} {i : Int} (h0 : 0 ≤ i) (h1 : i < l) (k : IntKind) (w : World) :
    (Instr.indexAt t (.slice (some ⟨b, o, none⟩) l c) (.int k i)).run P w = .ok (.pointer (some ⟨b, o + i.toNat * s, none⟩)) w := by
  unfold esz at hs
  split at hs
  · rename_i el hu
    simp only [Option.map_eq_some_iff] at hs
    obtain ⟨inf, hi, rfl⟩ := hs
    simp [Instr.indexAt, asIntOf, run_underlying hu, h0, h1, run_sizeOf' hi, add_lit]
  · cases hs

theorem Pur.idx {t : TypeId} {x y : Operand} {b o l c : Nat} {k : IntKind} {i : Int} (s : Nat) (hs : esz P t = some s) (hx : ev e x = some (.slice (some ⟨b, o, none⟩) l c))
    (hy : ev e y = some (.int k i)) (h0 : 0 ≤ i) (h1 : i < l) : Pur P ⟨dst, .indexAddr t x y, ty, pos, aft, gd⟩ e (.pointer (some ⟨b, o + i.toNat * s, none⟩)) :=
  fun A w hA => by simp [execOp, hA.ev hx, hA.ev hy, indexAt_run hs h0 h1]

/-- a type of one cell -/
def sc (P : Program) (t : TypeId) : Bool :=
  match P.underlying t with
  | some (.struct _) => false
  | some (.array _ _) => false
  | some _ => match P.info? t with
    | some i => i.size == 1
    | none => false
  | none => false
/-- a struct's or an array's cells -/
def ag (P : Program) (t : TypeId) : Option Nat :=
  match P.underlying t with
  | some (.struct _) => (P.info? t).map (·.size)
  | some (.array _ _) => (P.info? t).map (·.size)
  | _ => none

theorem sc_isAgg {t : TypeId} (h : sc P t = true) (w : World) : (isAgg t).run P w = .ok false w := by
  unfold sc at h
  split at h
  · cases h
  · cases h
  · rename_i d h1 h2 hu
    simp only [isAgg, Sem.run_bind, run_underlying hu, Result.andThen_ok]; rfl
  · cases h
theorem sc_size {t : TypeId} (h : sc P t = true) (w : World) : (sizeOf t).run P w = .ok 1 w := by
  unfold sc at h
  split at h
  · cases h
  · cases h
  · split at h
    · rename_i i hi
      simp at h
      simp [run_sizeOf' hi, h]
    · cases h
  · cases h
theorem ag_isAgg {t n : Nat} (h : ag P t = some n) (w : World) : (isAgg t).run P w = .ok true w := by
  unfold ag at h
  split at h
  · rename_i hu; simp [isAgg, run_underlying hu]
  · rename_i hu; simp [isAgg, run_underlying hu]
  · cases h
theorem ag_size {t n : Nat} (h : ag P t = some n) (w : World) : (sizeOf t).run P w = .ok n w := by
  unfold ag at h
  split at h
  · simp only [Option.map_eq_some_iff] at h
    obtain ⟨i, hi, rfl⟩ := h
    exact run_sizeOf' hi w
  · simp only [Option.map_eq_some_iff] at h
    obtain ⟨i, hi, rfl⟩ := h
    exact run_sizeOf' hi w
  · cases h

/-! ### loads -/

theorem loadVar1_run {t : TypeId} {b o : Nat} {c : List Value} {v : Value} (ht : sc P t = true) (hb : Blk H b c) (hc : c[o]? = some v) {w : World} (hw : w.heap = H) :
    (loadVar t ⟨b, o, none⟩).run P w = .ok v w := by
  simp only [loadVar, Sem.run_bind, sc_isAgg ht, Result.andThen_ok]
  simp [cell_blk hw hb, hc]

theorem loadCells_run {b o m : Nat} {c vs : List Value} (hb : Blk H b c) (hc : (c.drop o).take m = vs) (hl : vs.length = m) {w : World} (hw : w.heap = H) :
    (loadCells ⟨b, o, none⟩ m).run P w = .ok vs.toArray w := by
  subst hl
  refine run_loadCells_list (P := P) (w := w) ⟨b, o, none⟩ vs fun j v hj => ?_
  rw [add_lit, cell_blk hw hb]
  have : ((c.drop o).take vs.length)[j]? = some v := by rw [hc]; exact hj
  rw [List.getElem?_take] at this
  split at this
  · simpa using this
  · cases this

theorem loadVarN_run {t : TypeId} {b o m : Nat} {c vs : List Value} (ht : ag P t = some m) (hb : Blk H b c) (hc : (c.drop o).take m = vs) (hl : vs.length = m) {w : World} (hw : w.heap = H) :
    (loadVar t ⟨b, o, none⟩).run P w = .ok (.agg vs.toArray) w := by
  simp only [loadVar, Sem.run_bind, ag_isAgg ht, Result.andThen_ok, if_true, ag_size ht, loadCells_run hb hc hl hw, Sem.run_pure]

theorem Lod.ld {t : TypeId} {x : Operand} {b o : Nat} {c : List Value} {v : Value} (ht : sc P t = true) (hx : ev e x = some (.pointer (some ⟨b, o, none⟩))) (hb : Blk H b c) (hc : c[o]? = some v) :
    Lod P ⟨dst, .load t x, ty, pos, aft, gd⟩ e H v :=
  fun A w hw hA => by simp [execOp, hA.ev hx, Instr.loadAt, Instr.sureAddr, loadVar1_run ht hb hc hw]

theorem Lod.ldn {t : TypeId} {x : Operand} {b o m : Nat} {c vs : List Value} (ht : ag P t = some m) (hx : ev e x = some (.pointer (some ⟨b, o, none⟩))) (hb : Blk H b c) (hc : (c.drop o).take m = vs) (hl : vs.length = m) :
    Lod P ⟨dst, .load t x, ty, pos, aft, gd⟩ e H (.agg vs.toArray) :=
  fun A w hw hA => by simp [execOp, hA.ev hx, Instr.loadAt, Instr.sureAddr, loadVarN_run ht hb hc hl hw]

/-! ### stores, new blocks -/

theorem storeCells_run (w0 : World) (n b : Nat) : ∀ (vs : List Value) (o i : Nat) (c : List Value) (H : Heap), Own H b c → o + i + vs.length ≤ c.length → (∀ v ∈ vs, v.oneCell' = true) →
    ∃ H', (storeCells ⟨b, o, none⟩ vs i).run P (mk w0 H n) = .ok () (mk w0 H' n) ∧ Upd H H' b (c.take (o + i) ++ vs ++ c.drop (o + i + vs.length))
  | [], o, i, c, H, h, _, _ => ⟨H, by simp [storeCells], rfl, by simpa using h, fun _ _ => rfl⟩
  | v :: vs, o, i, c, H, h, hl, h1 => by
    simp only [List.length_cons] at hl
    obtain ⟨H1, hs1, hu1⟩ := setCell_upd w0 H n (o := o + i) v h
    have hcell : (mk w0 H n).cell? ⟨b, o + i, none⟩ = some (c[o + i]'(by omega)) := by
      rw [cell_blk rfl h.blk, List.getElem?_eq_getElem]
    have hfr : (mk w0 H n).frozen? ⟨b, o + i, none⟩ = false := frozen_own rfl h
    obtain ⟨H2, hs2, hu2⟩ := storeCells_run w0 n b vs o (i + 1) (c.set (o + i) v) H1 hu1.own (by simp; omega) (fun u hu => h1 u (List.mem_cons_of_mem _ hu))
    refine ⟨H2, ?_, hu2.1.trans hu1.1, ?_, fun b' hb' => (hu2.2.2 b' hb').trans (hu1.2.2 b' hb')⟩
    · simp only [storeCells, Sem.run_bind, add_lit]
      rw [run_store P _ _ _ _ (h1 v List.mem_cons_self)]
      simp only [hcell, hfr, hs1]
      simpa using hs2
    · have := hu2.own
      have e1 : (c.set (o + i) v).take (o + (i + 1)) ++ vs ++ (c.set (o + i) v).drop (o + (i + 1) + vs.length) = c.take (o + i) ++ v :: vs ++ c.drop (o + i + (vs.length + 1)) := by
        rw [List.drop_set_of_lt (by omega)]
        rw [show o + (i + 1) = (o + i) + 1 from by omega, List.take_set, List.take_succ_eq_append_getElem (by omega)]
        rw [List.set_append_right _ _ (by simp; omega)]
        simp [show o + i - min (o + i) c.length = 0 from by omega, show o + i + 1 + vs.length = o + i + (vs.length + 1) from by omega]
      rw [e1] at this
      exact this

def ones (vs : List Value) : Bool := vs.all (·.oneCell')

theorem Does.st {t : TypeId} {x y : Operand} {b o : Nat} {c : List Value} {v : Value} (ht : sc P t = true) (hx : ev e x = some (.pointer (some ⟨b, o, none⟩))) (hy : ev e y = some v) (h1 : v.oneCell' = true)
    (hb : Own H b c) (ho : o < c.length) : Does P ⟨dst, .store t x y, ty, pos, aft, gd⟩ e H (fun _ H' => Upd H H' b (c.set o v)) := by
  intro w0 n a hA K Q hK
  obtain ⟨H1, hs1, hu1⟩ := setCell_upd w0 H n (o := o) v hb
  have hcell : (mk w0 H n).cell? ⟨b, o, none⟩ = some (c[o]) := by rw [cell_blk rfl hb.blk, List.getElem?_eq_getElem]
  have hfr : (mk w0 H n).frozen? ⟨b, o, none⟩ = false := frozen_own rfl hb
  have hcs : v.cells = #[v] := by cases v <;> first | rfl | cases h1
  have hrun : (execOp a.eval ⟨dst, .store t x y, ty, pos, aft, gd⟩).run P (mk w0 H n) = .ok .skip (mk w0 H1 n) := by
    simp only [execOp, hA.ev hx, hA.ev hy, Instr.storeAt, Instr.sureAddr, storeVar, Sem.run_bind, Sem.run_pure, Result.andThen_ok, sc_size ht, hcs]
    simp only [List.size_toArray, List.length_cons, List.length_nil, Nat.zero_add, ne_eq, not_true_eq_false, if_false, Sem.run_pure, storeCells, Sem.run_bind, add_lit, Nat.add_zero]
    rw [run_store P _ _ _ _ h1]
    simp [hcell, hfr, hs1]
  unfold Oper.wp
  rw [hrun]
  exact hK _ H1 n hu1

theorem Does.stn {t : TypeId} {x y : Operand} {b o m : Nat} {c vs : List Value} (ht : ag P t = some m) (hx : ev e x = some (.pointer (some ⟨b, o, none⟩))) (hy : ev e y = some (.agg vs.toArray)) (h1 : ones vs = true)
    (hl : vs.length = m) (hb : Own H b c) (ho : o + m ≤ c.length) : Does P ⟨dst, .store t x y, ty, pos, aft, gd⟩ e H (fun _ H' => Upd H H' b (c.take o ++ vs ++ c.drop (o + m))) := by
  intro w0 n a hA K Q hK
  subst hl
  obtain ⟨H1, hs1, hu1⟩ := storeCells_run (P := P) w0 n b vs o 0 c H hb (by omega) (fun v hv => by simp only [ones, List.all_eq_true] at h1; exact h1 v hv)
  have hrun : (execOp a.eval ⟨dst, .store t x y, ty, pos, aft, gd⟩).run P (mk w0 H n) = .ok .skip (mk w0 H1 n) := by
    simp only [execOp, hA.ev hx, hA.ev hy, Instr.storeAt, Instr.sureAddr, storeVar, Sem.run_bind, Sem.run_pure, Result.andThen_ok, ag_size ht, Value.cells]
    simp [hs1]
  unfold Oper.wp
  rw [hrun]
  exact hK _ H1 n (by simpa using hu1)

theorem newRow_run (w0 : World) (n : Nat) (t : TypeId) (c : List Value) : (newRow t c.toArray).run P (mk w0 H n) = .ok ⟨H.size, 0, none⟩ (mk w0 (H.push (.cells c.toArray t)) n) := by
  simp only [newRow, Sem.run_bind, run_newObj, Result.andThen_ok, Sem.run_pure]; rfl

theorem Does.box {t : TypeId} {x : Operand} {v : Value} {c : List Value} (hx : ev e x = some v) (hc : v.cells = c.toArray) :
    Does P ⟨dst, .box t x, ty, pos, aft, gd⟩ e H (fun u H' => u = .pointer (some ⟨H.size, 0, none⟩) ∧ New H H' c) := by
  intro w0 n a hA K Q hK
  unfold Oper.wp
  have hrun : (execOp a.eval ⟨dst, .box t x, ty, pos, aft, gd⟩).run P (mk w0 H n) = .ok (.value (.pointer (some ⟨H.size, 0, none⟩))) (mk w0 (H.push (.cells c.toArray t)) n) := by
    simp only [execOp, Instr.box, hA.ev hx, newVar, hc, Sem.run_bind, newRow_run, Result.andThen_ok, Sem.run_pure]
  rw [hrun]
  exact hK _ _ n ⟨rfl, t, rfl⟩

/-- a type's zero, as cells -/
def zc (P : Program) (t : TypeId) : Option (List Value) := ((P.info? t).bind (·.zero)).map fun v => v.cells.toList

theorem zero_run {t : TypeId} {z : List Value} (hz : zc P t = some z) (w : World) : ∃ v : Value, v.cells = z.toArray ∧ (zeroValue t).run P w = .ok v w := by
  simp only [zc, Option.map_eq_some_iff, Option.bind_eq_some_iff] at hz
  obtain ⟨v, ⟨i, hi, hv⟩, rfl⟩ := hz
  exact ⟨v, by simp, by simp [zeroValue, typeInfo, hi, hv]⟩

theorem Does.alloc {t : TypeId} {z : List Value} (hz : zc P t = some z) :
    Does P ⟨dst, .alloc t, ty, pos, aft, gd⟩ e H (fun u H' => u = .pointer (some ⟨H.size, 0, none⟩) ∧ New H H' z) := by
  intro w0 n a hA K Q hK
  obtain ⟨v, hv, hr⟩ := zero_run hz (mk w0 H n)
  have hrun : (execOp a.eval ⟨dst, .alloc t, ty, pos, aft, gd⟩).run P (mk w0 H n) = .ok (.value (.pointer (some ⟨H.size, 0, none⟩))) (mk w0 (H.push (.cells z.toArray t)) n) := by
    simp only [execOp, Instr.alloc, Sem.run_bind, hr, Result.andThen_ok, newVar, hv, newRow_run, Sem.run_pure]
  unfold Oper.wp
  rw [hrun]
  exact hK _ _ n ⟨rfl, t, rfl⟩
end rules
end Go.Fx
