/-
  Rules of strings: parts; equal or not.
-/
import Derived.Test.YtjhkmebmbopfoaaDoorFxU
import Derived.Lib.Bytealg
namespace Go.Fx
set_option linter.unusedSimpArgs false
set_option linter.unusedVariables false
open Go
theorem str_beq (a b : ByteArray) : (a.toList == b.toList) = decide (a.data.toList = b.data.toList) := by
  rw [ByteArray.toList_eq, ByteArray.toList_eq]
  by_cases h : a.data.toList = b.data.toList
  · rw [h, decide_eq_true rfl, beq_self_eq_true]
  · rw [decide_eq_false h]; exact beq_false_of_ne h
theorem str_eq {a b : ByteArray} (h : a.data.toList = b.data.toList) : a = b := Go.WideShapes.bytes_inj h
section strs
variable {P : Program} {dst : Option Tmp} {ty : TypeId} {pos : String} {aft : Array Edge} {gd : Option (Nat × Bool)} {e : Env} {H : Heap}
theorem Pur.cutS2 {t : TypeId} {x y z : Operand} {s : ByteArray} {l h : Nat} (hu : P.underlying t = some .string) (hx : ev e x = some (.string s)) (hz : ev e z = some (.int .i64 l)) (hy : ev e y = some (.int .i64 h)) (h0 : l ≤ h) (h1 : h ≤ s.size) :
    Pur P ⟨dst, .slice t x (some z) (some y) none, ty, pos, aft, gd⟩ e (.string (s.extract l h)) := by
  intro a w hA
  have e1 := hA.ev hx
  have e2 := hA.ev hy
  have e3 := hA.ev hz
  simp only [execOp, e1, e2, e3, Option.map_some, Option.map_none, Instr.sliceAt, Sem.run_bind, run_underlying hu, Result.andThen_ok, Instr.slice, Instr.sliceBounds, Sem.run_pure, Instr.sliceBound, asIntOf]
  have h3 : (l : Int) ≤ (h : Int) := by omega
  have h4 : (h : Int) ≤ (s.size : Int) := by omega
  simp [h0, h1, h3, h4]
theorem Pur.addS {t t' : TypeId} {x y : Operand} {a b : ByteArray} (hx : ev e x = some (.string a)) (hy : ev e y = some (.string b)) (h : a.size + b.size ≤ 9223372036854775807) :
    Pur P ⟨dst, .binOp .add t x y t', ty, pos, aft, gd⟩ e (.string (a ++ b)) := by
  intro A w hA
  have e1 := hA.ev hx
  have e2 := hA.ev hy
  have hn : ¬ ((a.size + b.size : Nat) : Int) > IntKind.i64.max := by rw [show IntKind.i64.max = 9223372036854775807 from rfl]; omega
  simp only [execOp, e1, e2, eqGuard_at_string, Sem.run_bind, Sem.run_pure, Result.andThen_ok]
  simp only [binOp, Op.stringOp]
  rw [if_neg hn]
  simp
theorem Pur.cutSL {t : TypeId} {x z : Operand} {s : ByteArray} {l : Nat} (hu : P.underlying t = some .string) (hx : ev e x = some (.string s)) (hz : ev e z = some (.int .i64 l)) (h0 : l ≤ s.size) :
    Pur P ⟨dst, .slice t x (some z) none none, ty, pos, aft, gd⟩ e (.string (s.extract l s.size)) := by
  intro a w hA
  have e1 := hA.ev hx
  have e3 := hA.ev hz
  simp only [execOp, e1, e3, Option.map_some, Option.map_none, Instr.sliceAt, Sem.run_bind, run_underlying hu, Result.andThen_ok, Instr.slice, Instr.sliceBounds, Sem.run_pure, Instr.sliceBound, asIntOf]
  have h4 : (l : Int) ≤ (s.size : Int) := by omega
  simp [h0, h4]
end strs
/-- a byte's place: the value's form -/
theorem bang_get {s : ByteArray} {i : Nat} (h : i < s.data.toList.length) : s.data[i]! = s.data.toList[i] := by
  simp [getElem!_pos s.data i (by simpa using h)]
theorem u8_of (c : UInt8) : ((c.toNat : Nat) : Int).toNat.toUInt8 = c := by
  rw [Int.toNat_natCast]; exact UInt8.ofNat_toNat
theorem idx_iff (l : List UInt8) (c : UInt8) : decide (0 ≤ Go.Lib.indexByte l c) = l.contains c := by
  induction l with
  | nil => rfl
  | cons b l ih =>
    have hge := Go.Lib.indexByte_ge l c
    rw [Go.Lib.indexByte, List.contains_cons]
    by_cases hb : (b == c) = true
    · rw [if_pos hb]
      have : (c == b) = true := by rw [beq_iff_eq] at hb ⊢; exact hb.symm
      rw [this]; rfl
    · rw [if_neg hb]
      have : (c == b) = false := by
        cases h : c == b
        · rfl
        · exact absurd (by rw [beq_iff_eq] at h ⊢; exact h.symm) hb
      rw [this, Bool.false_or, ← ih]
      by_cases h1 : (Go.Lib.indexByte l c == -1) = true
      · rw [if_pos h1]; rw [beq_iff_eq] at h1; rw [h1]
      · rw [if_neg h1]
        have h2 : Go.Lib.indexByte l c ≠ -1 := fun h => h1 (by rw [h]; rfl)
        rw [decide_eq_true (by omega), decide_eq_true (by omega)]
end Go.Fx
