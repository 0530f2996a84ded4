/-
  Parts of the proof, 1.
-/
import Derived.Maps.AppendAt
import Derived.Laws.OwnMore
import Derived.Test.YtlfillhffpiffaaR6
namespace Go.Fx
set_option linter.unusedSimpArgs false
set_option linter.unusedVariables false
open Go


section rules
variable {P : Program} {dst : Option Tmp} {ty : TypeId} {pos : String} {aft : Array Edge} {gd : Option (Nat × Bool)} {e : Env} {H : Heap}

section ints
variable {t t' : TypeId} {x y : Operand} {k : IntKind} {a b : Int}
theorem Pur.rem {a b : Int} (hx : ev e x = some (.int k a)) (hy : ev e y = some (.int k b)) (hb : b ≠ 0) : Pur P ⟨dst, .binOp .rem t x y t', ty, pos, aft, gd⟩ e (.int k (a.tmod b)) :=
  Pur.ibin hx hy fun w => by simp [go_sem, Op.intDiv, hb]
end ints


end rules
end Go.Fx

namespace Go.Fx
open Go
set_option linter.unusedSimpArgs false
set_option linter.unusedVariables false

section rules
variable {P : Program} {dst : Option Tmp} {ty : TypeId} {pos : String} {aft : Array Edge} {gd : Option (Nat × Bool)} {e : Env} {H : Heap}

theorem Pur.eqS {t t' : TypeId} {x y : Operand} {a b : ByteArray} (hx : ev e x = some (.string a)) (hy : ev e y = some (.string b)) : Pur P ⟨dst, .binOp .eql t x y t', ty, pos, aft, gd⟩ e (.bool (a.toList == b.toList)) := by
  intro A w hA
  have e1 := hA.ev hx
  have e2 := hA.ev hy
  simp only [execOp, e1, e2, eqGuard_at_string, Sem.run_bind, Sem.run_pure, Result.andThen_ok]
  simp [binOp, Op.stringOp]
theorem Pur.neS {t t' : TypeId} {x y : Operand} {a b : ByteArray} (hx : ev e x = some (.string a)) (hy : ev e y = some (.string b)) : Pur P ⟨dst, .binOp .neq t x y t', ty, pos, aft, gd⟩ e (.bool (!(a.toList == b.toList))) := by
  intro A w hA
  have e1 := hA.ev hx
  have e2 := hA.ev hy
  simp only [execOp, e1, e2, eqGuard_at_string, Sem.run_bind, Sem.run_pure, Result.andThen_ok]
  simp [binOp, Op.stringOp]

theorem Pur.cnv {src t : TypeId} {x : Operand} {k k' : IntKind} {n : Int} (hs : P.underlying src = some (.int k)) (ht : P.underlying t = some (.int k')) (hx : ev e x = some (.int k n)) :
    Pur P ⟨dst, .convert src t x, ty, pos, aft, gd⟩ e (.int k' (k'.wrap n)) := by
  intro a w hA
  have e1 := hA.ev hx
  simp only [execOp, e1, convert, Sem.run_bind, run_underlying hs, run_underlying ht, Result.andThen_ok]
  simp [Conv.intToInt]
end rules
end Go.Fx

