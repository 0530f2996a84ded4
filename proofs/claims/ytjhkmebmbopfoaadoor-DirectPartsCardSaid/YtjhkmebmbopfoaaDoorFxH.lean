/-
  Rules: arrays, fields of values, slices by length.
-/
import Derived.Test.YtjhkmebmbopfoaaDoorFxG
namespace Go.Fx
set_option linter.unusedSimpArgs false
set_option linter.unusedVariables false
open Go

/-- an array's length and its element's cells -/
def arr (P : Program) (t : TypeId) : Option (Nat × Nat) :=
  match P.underlying t with
  | some (.array n el) => (P.info? el).map fun i => (n, i.size)
  | _ => none
/-- an array of one-cell elements: its length -/
def arr1 (P : Program) (t : TypeId) : Option Nat :=
  match P.underlying t with
  | some (.array n el) => if sc P el then some n else none
  | _ => none
/-- a field of one cell of a struct: where -/
def fsc (P : Program) (t : TypeId) (f : Nat) : Option Nat :=
  match P.underlying t with
  | some (.struct fs) => match fs[f]? with
    | some fd => if sc P fd.type then some fd.offset else none
    | none => none
  | _ => none
/-- a field of cells of a struct: where, how many -/
def fag (P : Program) (t : TypeId) (f : Nat) : Option (Nat × Nat) :=
  match P.underlying t with
  | some (.struct fs) => match fs[f]? with
    | some fd => (ag P fd.type).map fun n => (fd.offset, n)
    | none => none
  | _ => none

section
variable {P : Program} {dst : Option Tmp} {ty : TypeId} {pos : String} {aft : Array Edge} {gd : Option (Nat × Bool)} {e : Env} {H : Heap}

theorem Pur.idxP {t : TypeId} {x y : Operand} {b o n s : Nat} {k : IntKind} {i : Int} (hs : arr P t = some (n, s)) (hx : ev e x = some (.pointer (some ⟨b, o, none⟩)))
    (hy : ev e y = some (.int k i)) (h0 : 0 ≤ i) (h1 : i < n) : Pur P ⟨dst, .indexAddr t x y, ty, pos, aft, gd⟩ e (.pointer (some ⟨b, o + i.toNat * s, none⟩)) := by
  intro A w hA
  unfold arr at hs
  split at hs
  · rename_i n' el hu
    simp only [Option.map_eq_some_iff, Prod.mk.injEq] at hs
    obtain ⟨inf, hi, rfl, rfl⟩ := hs
    simp [execOp, hA.ev hx, hA.ev hy, Instr.indexAt, asIntOf, run_underlying hu, h0, h1, run_sizeOf' hi, add_lit, Instr.sureAddr]
  · cases hs

theorem Pur.ixA {t : TypeId} {x y : Operand} {cs : List Value} {n : Nat} {k : IntKind} {i : Int} {v : Value} (hs : arr1 P t = some n) (hx : ev e x = some (.agg cs.toArray))
    (hy : ev e y = some (.int k i)) (h0 : 0 ≤ i) (h1 : i < n) (hv : cs[i.toNat]? = some v) : Pur P ⟨dst, .index t x y, ty, pos, aft, gd⟩ e v := by
  intro A w hA
  unfold arr1 at hs
  split at hs
  · rename_i n' el hu
    split at hs
    · rename_i hsc
      cases hs
      simp [execOp, hA.ev hx, hA.ev hy, Instr.index, asIntOf, run_underlying hu, h0, h1, sc_size hsc, part, sc_isAgg hsc, hv]
    · cases hs
  · cases hs

theorem Pur.fdS {t : TypeId} {x : Operand} {f o : Nat} {cs : List Value} {v : Value} (hs : fsc P t f = some o) (hx : ev e x = some (.agg cs.toArray)) (hv : cs[o]? = some v) :
    Pur P ⟨dst, .field t x f, ty, pos, aft, gd⟩ e v := by
  intro A w hA
  unfold fsc at hs
  split at hs
  · rename_i fs hu
    split at hs
    · rename_i fd hfd
      split at hs
      · rename_i hsc
        cases hs
        simp [execOp, hA.ev hx, Instr.field, run_underlying hu, hfd, asAgg, part, sc_isAgg hsc, hv]
      · cases hs
    · cases hs
  · cases hs

theorem Pur.fdN {t : TypeId} {x : Operand} {f o n : Nat} {cs vs : List Value} (hs : fag P t f = some (o, n)) (hx : ev e x = some (.agg cs.toArray)) (hv : (cs.drop o).take n = vs) :
    Pur P ⟨dst, .field t x f, ty, pos, aft, gd⟩ e (.agg vs.toArray) := by
  intro A w hA
  unfold fag at hs
  split at hs
  · rename_i fs hu
    split at hs
    · rename_i fd hfd
      simp only [Option.map_eq_some_iff, Prod.mk.injEq] at hs
      obtain ⟨m, hm, rfl, rfl⟩ := hs
      simpa [execOp, hA.ev hx, Instr.field, run_underlying hu, hfd, asAgg, part, ag_isAgg hm, ag_size hm] using hv
    · cases hs
  · cases hs
end
end Go.Fx
