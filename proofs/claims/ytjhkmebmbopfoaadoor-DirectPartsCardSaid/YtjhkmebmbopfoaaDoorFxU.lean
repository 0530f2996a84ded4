/-
  Rules of strings: a byte, the part ahead.
-/
import Derived.Test.YtjhkmebmbopfoaaDoorFxH
import Derived.Test.YtjhkmebmbopfoaaDoorFxF
namespace Go.Fx
set_option linter.unusedSimpArgs false
set_option linter.unusedVariables false
open Go
section strs
variable {P : Program} {dst : Option Tmp} {ty : TypeId} {pos : String} {aft : Array Edge} {gd : Option (Nat × Bool)} {e : Env} {H : Heap}
theorem Pur.cutS {t : TypeId} {x y : Operand} {s : ByteArray} {k : IntKind} {h : Int} (hu : P.underlying t = some .string) (hx : ev e x = some (.string s)) (hy : ev e y = some (.int k h)) (h0 : 0 ≤ h) (h1 : h ≤ s.size) :
    Pur P ⟨dst, .slice t x none (some y) none, ty, pos, aft, gd⟩ e (.string (s.extract 0 h.toNat)) := by
  intro a w hA
  have e1 := hA.ev hx
  have e2 := hA.ev hy
  simp only [execOp, e1, e2, Option.map_some, Option.map_none, Instr.sliceAt, Sem.run_bind, run_underlying hu, Result.andThen_ok, Instr.slice, Instr.sliceBounds, Sem.run_pure, Instr.sliceBound, asIntOf]
  simp [h0, h1]
theorem Pur.idxS {t : TypeId} {x y : Operand} {s : ByteArray} {k : IntKind} {i : Int} (hu : P.underlying t = some .string) (hx : ev e x = some (.string s)) (hy : ev e y = some (.int k i)) (h0 : 0 ≤ i) (h1 : i < s.size) :
    Pur P ⟨dst, .index t x y, ty, pos, aft, gd⟩ e (.int .u8 ((s.data[i.toNat]!).toNat : Int)) := by
  intro a w hA
  have hb : i.toNat < s.size := by omega
  have h2 : s[i.toNat]? = some s.data[i.toNat]! := by
    rw [getElem?_pos s i.toNat hb]
    congr 1
    rw [getElem!_pos s.data i.toNat hb]
    rfl
  simp [execOp, hA.ev hx, hA.ev hy, Instr.index, asIntOf, run_underlying hu, h0, h2]
theorem min_fold (w : World) : ∀ (as : List Int) (a : Int), ((as.map (Value.int .i64)).foldlM Builtin.min2 (.int .i64 a)).run P w = .ok (.int .i64 (as.foldl min a)) w
  | [], a => by simp
  | b :: as, a => by
    have h : (if b < a then b else a) = min a b := by omega
    simp only [List.map_cons, List.foldlM_cons, Sem.run_bind, Builtin.min2, Sem.run_pure, Result.andThen_ok, List.foldl_cons, h, min_fold w as]
theorem Pur.mins (as : List Int) {xs : List Operand} {ats : Array TypeId} {a : Int} (hx : evs e xs = some (.int .i64 a :: as.map (Value.int .i64))) :
    Pur P ⟨dst, .call { callee := .builtin .min, args := xs.toArray, argTypes := ats }, ty, pos, aft, gd⟩ e (.int .i64 (as.foldl min a)) := by
  intro A w hA
  obtain ⟨cs, h⟩ := run_call_builtin (P := P) (dst := dst) (b := .min) (xs := xs) (ats := ats) (ty := ty) (pos := pos) (aft := aft) (gd := gd) A w hA hx
  rw [h]
  simp only [builtin, Builtin.min_, Sem.run_bind, min_fold, Result.andThen_ok, Sem.run_pure]
theorem Pur.min2 {t : TypeId} {x y : Operand} {a b : Int} (hx : ev e x = some (.int .i64 a)) (hy : ev e y = some (.int .i64 b)) :
    Pur P ⟨dst, .call { callee := .builtin .min, args := #[x, y], argTypes := #[t, t] }, ty, pos, aft, gd⟩ e (.int .i64 (min a b)) :=
  Pur.mins [b] (xs := [x, y]) (by simp [evs, hx, hy])
end strs
end Go.Fx
