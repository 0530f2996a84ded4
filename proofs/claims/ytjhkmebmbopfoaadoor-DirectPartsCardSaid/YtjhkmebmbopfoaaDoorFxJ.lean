/-
  Rules: comparing with nil.
-/
import Derived.Test.YtjhkmebmbopfoaaDoorFxI
namespace Go.Fx
set_option linter.unusedSimpArgs false
set_option linter.unusedVariables false
open Go
def isPt (P : Program) (t : TypeId) : Bool := match P.underlying t with | some (.pointer _) => true | _ => false
def isSl' (P : Program) (t : TypeId) : Bool := match P.underlying t with | some (.slice _) => true | _ => false
section
variable {P : Program} {dst : Option Tmp} {ty : TypeId} {pos : String} {aft : Array Edge} {gd : Option (Nat × Bool)} {e : Env} {H : Heap} {t t' : TypeId} {x y : Operand}
theorem eq_ptr_nil (d : Nat) (ht : isPt P t = true) (a : Option Addr) (w : World) : (Op.equalIn (d + 1) t (.pointer a) (.pointer none)).run P w = .ok a.isNone w := by
  unfold isPt at ht
  split at ht
  · rename_i el hu
    cases a <;> simp [Op.equalIn, run_underlying hu]
  · cases ht
theorem eq_sl_nil (d : Nat) (ht : isSl' P t = true) (a : Option Addr) (l c l' c' : Nat) (w : World) : (Op.equalIn (d + 1) t (.slice a l c) (.slice none l' c')).run P w = .ok a.isNone w := by
  unfold isSl' at ht
  split at ht
  · rename_i el hu
    cases a <;> simp [Op.equalIn, run_underlying hu]
  · cases ht
theorem Pur.eqPN {a : Option Addr} (ht : isPt P t = true) (hx : ev e x = some (.pointer a)) (hy : ev e y = some (.pointer none)) : Pur P ⟨dst, .binOp .eql t x y t', ty, pos, aft, gd⟩ e (.bool a.isNone) := by
  intro A w hA
  simp only [execOp, hA.ev hx, hA.ev hy, eqGuard_at_pointer, Sem.run_bind, Sem.run_pure, Result.andThen_ok]
  simp [binOp, Op.equal, Op.maxDepth, eq_ptr_nil 9999 ht]
theorem Pur.nePN {a : Option Addr} (ht : isPt P t = true) (hx : ev e x = some (.pointer a)) (hy : ev e y = some (.pointer none)) : Pur P ⟨dst, .binOp .neq t x y t', ty, pos, aft, gd⟩ e (.bool (!a.isNone)) := by
  intro A w hA
  simp only [execOp, hA.ev hx, hA.ev hy, eqGuard_at_pointer, Sem.run_bind, Sem.run_pure, Result.andThen_ok]
  simp [binOp, Op.equal, Op.maxDepth, eq_ptr_nil 9999 ht]
theorem eqGuard_sl (op : BinOp) (t : TypeId) (x y : Operand) (a : Option Addr) (l c : Nat) (v : Value) : eqGuard op t x y (.slice a l c) v = pure () := by cases op <;> rfl
theorem Pur.eqSN {a : Option Addr} {l c l' c' : Nat} (ht : isSl' P t = true) (hx : ev e x = some (.slice a l c)) (hy : ev e y = some (.slice none l' c')) : Pur P ⟨dst, .binOp .eql t x y t', ty, pos, aft, gd⟩ e (.bool a.isNone) := by
  intro A w hA
  simp only [execOp, hA.ev hx, hA.ev hy, eqGuard_sl, Sem.run_bind, Sem.run_pure, Result.andThen_ok]
  simp [binOp, Op.equal, Op.maxDepth, eq_sl_nil 9999 ht]
theorem Pur.neSN {a : Option Addr} {l c l' c' : Nat} (ht : isSl' P t = true) (hx : ev e x = some (.slice a l c)) (hy : ev e y = some (.slice none l' c')) : Pur P ⟨dst, .binOp .neq t x y t', ty, pos, aft, gd⟩ e (.bool (!a.isNone)) := by
  intro A w hA
  simp only [execOp, hA.ev hx, hA.ev hy, eqGuard_sl, Sem.run_bind, Sem.run_pure, Result.andThen_ok]
  simp [binOp, Op.equal, Op.maxDepth, eq_sl_nil 9999 ht]
theorem Pur.xor {k : IntKind} {a b : Int} (hx : ev e x = some (.int k a)) (hy : ev e y = some (.int k b)) : Pur P ⟨dst, .binOp .xor t x y t', ty, pos, aft, gd⟩ e (.int k (bits .xor k a b)) :=
  Pur.ibin hx hy fun w => by simp [go_sem]
end
end Go.Fx
