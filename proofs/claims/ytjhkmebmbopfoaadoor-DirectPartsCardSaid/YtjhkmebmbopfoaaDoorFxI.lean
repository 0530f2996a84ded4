/-
  Results that stand in cells.
-/
import Derived.Test.YtjhkmebmbopfoaaDoorFxH
namespace Go.Fx
set_option linter.unusedSimpArgs false
set_option linter.unusedVariables false
open Go

/-- what a cell of type t holds at ⟨b, o⟩ -/
def Holds (P : Program) (H : Heap) (t : TypeId) (b o : Nat) (v : Value) : Prop :=
  ∃ c, Blk H b c ∧ ((sc P t = true ∧ c[o]? = some v) ∨ ∃ m xs, ag P t = some m ∧ (c.drop o).take m = xs ∧ xs.length = m ∧ v = .agg xs.toArray)

def RL (P : Program) (e : Env) (H : Heap) : List ResultVar → List Value → Prop
  | [], vs => vs = []
  | .tmp t :: r, vs => ∃ v vs', vs = v :: vs' ∧ lk e t = some v ∧ RL P e H r vs'
  | .cell a t :: r, vs => ∃ v vs' b o, vs = v :: vs' ∧ lk e a = some (.pointer (some ⟨b, o, none⟩)) ∧ Holds P H t b o v ∧ RL P e H r vs'

def tupl : List Value → Value
  | [v] => v
  | vs => .tuple ⟨vs⟩

section
variable {P : Program} {e : Env} {tm : Array Value} {H : Heap}
theorem holds_run {t : TypeId} {b o : Nat} {v : Value} (h : Holds P H t b o v) {w : World} (hw : w.heap = H) : (loadVar t ⟨b, o, none⟩).run P w = .ok v w := by
  obtain ⟨c, hb, ⟨h1, h2⟩ | ⟨m, xs, h1, h2, h3, rfl⟩⟩ := h
  · exact loadVar1_run h1 hb h2 hw
  · exact loadVarN_run h1 hb h2 h3 hw

theorem rl_run (hA : Ag e tm) {w : World} (hw : w.heap = H) : ∀ {l : List ResultVar} {vs : List Value}, RL P e H l vs → (l.mapM (resM tm)).run P w = .ok vs w
  | [], vs, h => by cases h; simp
  | .tmp t :: r, vs, h => by
    obtain ⟨v, vs', rfl, h1, h2⟩ := h
    have h3 := rl_run hA hw h2
    have h4 : tm.getD t undef = v := by rw [Array.getD_eq_getD_getElem?, hA t v h1]; rfl
    rw [List.mapM_cons]
    simp only [resM, Sem.run_bind, Sem.run_pure, Result.andThen_ok, h3, h4]
  | .cell a t :: r, vs, h => by
    obtain ⟨v, vs', b, o, rfl, h1, h5, h2⟩ := h
    have h3 := rl_run hA hw h2
    have h4 : tm.getD a undef = .pointer (some ⟨b, o, none⟩) := by rw [Array.getD_eq_getD_getElem?, hA a _ h1]; rfl
    rw [List.mapM_cons]
    simp only [resM, Sem.run_bind, Sem.run_pure, Result.andThen_ok, h3, h4, asAddr, holds_run h5 hw]

theorem results_runC (hA : Ag e tm) (fn : Func) {w : World} (hw : w.heap = H) {vs : List Value} (h : RL P e H fn.results.toList vs) : (results fn tm).run P w = .ok (tupl vs) w := by
  rw [results_eq]
  have := rl_run (P := P) hA hw h
  have key : (fn.results.mapM (resM tm)).run P w = .ok vs.toArray w := by
    rw [Array.mapM_eq_mapM_toList]
    simp only [Sem.run_map, this, Result.andThen_ok]
  rw [Sem.run_bind, key]
  match vs with
  | [] => simp [tupl]
  | [v] => simp [tupl]
  | v :: u :: vs => simp [tupl]

variable {f : FuncId} {N : Nat} {R : Value → Heap → Prop} {k : List Item}
theorem At.retC {fn : Func} {vs : List Value} (hh : hd 60 k = .ret) (hf : P.funcs[f]? = some fn) (hv : RL P e H fn.results.toList vs) (hR : R (tupl vs) H) : At P f N R (k := k) e H := by
  have key : ∀ k, At P f N R (k := .code .ret :: k) e H := by
    intro k w0 n a cs hdf hs hA
    exact ⟨tupl vs, H, n, _, hR, .one step_ret, rfl, rfl, hdf, rfl, fn, hf, results_runC hA fn rfl hv⟩
  exact At.of_hd 60 k (by rw [hh]; exact key)
end
end Go.Fx
