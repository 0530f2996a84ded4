/-
  Rules: calls of functions that the model answers itself, calls through interfaces.
-/
import Derived.Test.YtjhkmebmbopfoaaDoorFxQ
import Derived.Laws.Externs
namespace Go.Fx
set_option linter.unusedSimpArgs false
set_option linter.unusedVariables false
open Go
section
variable {P : Program} {dst : Option Tmp} {ty : TypeId} {pos : String} {aft : Array Edge} {gd : Option (Nat × Bool)} {e : Env} {H : Heap}
theorem Pur.callX {g : FuncId} {xs : List Operand} {ats : Array TypeId} {vs : List Value} {v : Value} (hx : evs e xs = some vs) (h : ∀ w : World, (callFunc g vs.toArray).run P w = .ok (.value v) w) :
    Pur P ⟨dst, .call { callee := .value (.func g), args := xs.toArray, argTypes := ats }, ty, pos, aft, gd⟩ e v := by
  intro a w hA
  have h1 := hA.evs hx
  have h2 : Act.eval a (.func g) = .func (.func g) #[] #[] := rfl
  simp only [execOp, resolve, Sem.run_bind]
  simp [Deferred.ofValue, h2, invoke, h1, h]
theorem run_inv {r : Operand} {name : String} {xs : List Operand} {ats : Array TypeId} {rv : Value} {vs : List Value} {x : Next} {a : Act} (hA : Ag e a.tmps) (hr : ev e r = some rv) (hx : evs e xs = some vs) (w : World) (h : (callMethod rv name vs.toArray).run P w = .ok x w) :
    (execOp a.eval ⟨dst, .call { callee := .invoke r name, args := xs.toArray, argTypes := ats }, ty, pos, aft, gd⟩).run P w = .ok x w := by
  have h1 := hA.evs hx
  have h2 := hA.ev hr
  have h3 : (#[rv] ++ vs.toArray : Array Value).extract 1 (1 + vs.length) = vs.toArray := by
    apply Array.ext'
    simp
  have h4 : (#[rv] ++ vs.toArray : Array Value)[0]? = some rv := by simp
  simp only [execOp, resolve, Sem.run_bind, Sem.run_pure, Result.andThen_ok, List.map_toArray, h1, h2]
  simp only [invoke, h4]
  rw [show (#[rv] ++ vs.toArray : Array Value).size = 1 + vs.length by simp; omega] at *
  simp only [h3]
  exact h
theorem Pur.invX {r : Operand} {name : String} {ats : Array TypeId} {rv v : Value} (hr : ev e r = some rv) (h : ∀ w : World, (callMethod rv name #[]).run P w = .ok (.value v) w) :
    Pur P ⟨dst, .call { callee := .invoke r name, args := #[], argTypes := ats }, ty, pos, aft, gd⟩ e v :=
  fun a w hA => run_inv (xs := []) (vs := []) hA hr rfl w (h w)
theorem Does.inv {r : Operand} {name : String} {xs : List Operand} {ats : Array TypeId} {rv : Value} {vs us : List Value} {g : FuncId} {C : Value → Heap → Prop} (hr : ev e r = some rv) (hx : evs e xs = some vs) (hm : ∀ w : World, (callMethod rv name vs.toArray).run P w = .ok (.enter g us.toArray) w) (h : Ret P g us H C) :
    Does P ⟨dst, .call { callee := .invoke r name, args := xs.toArray, argTypes := ats }, ty, pos, aft, gd⟩ e H C :=
  Does.of_run h fun a w hA => run_inv hA hr hx w (hm w)
end
end Go.Fx
