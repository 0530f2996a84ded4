/-
  Rules: interfaces that hold numbers, clear.
-/
import Derived.Test.YtjhkmebmbopfoaaDoorFxN
import Derived.Lib.IfaceEq
import Derived.Lib.SliceRun
import Derived.Stop.IfaceNil
import Derived.Stop.Asserts
namespace Go.Fx
set_option linter.unusedSimpArgs false
set_option linter.unusedVariables false
open Go

section
variable {P : Program} {dst : Option Tmp} {ty : TypeId} {pos : String} {aft : Array Edge} {gd : Option (Nat × Bool)} {e : Env} {H : Heap} {t t' : TypeId} {x y : Operand}
def isIf (P : Program) (t : TypeId) : Bool := match P.underlying t with | some (.interface _) => true | _ => false
def notIf (P : Program) (t : TypeId) : Bool := match P.underlying t with | some (.interface _) => false | some _ => true | _ => false
def intC (P : Program) (t : TypeId) : Bool := match P.underlying t with | some (.int _) => (P.info? t).map (·.comparable) == some true | _ => false
theorem Pur.mki {v : Value} (ht : notIf P t = true) (hx : ev e x = some v) : Pur P ⟨dst, .makeInterface t x, ty, pos, aft, gd⟩ e (.iface t v) := by
  intro a w hA
  unfold notIf at ht
  split at ht
  · cases ht
  · rename_i d hd hu
    simp only [execOp, hA.ev hx, Instr.makeInterface, Sem.run_bind, run_underlying hu, Result.andThen_ok]
    cases d <;> first | rfl | (exact (hd _ hu).elim)
  · cases ht
/-- the value of an error that is nil, or a number of type tx -/
def ifv (tx : TypeId) (k : IntKind) : Option Int → Value
  | none => .nilIface
  | some n => .iface tx (.int k n)
def isK : Operand → Bool
  | .const _ => true
  | _ => false
theorem eqGuard_if (op : BinOp) (t : TypeId) (x y : Operand) (tx : TypeId) (k : IntKind) (o o' : Option Int) (h : (isK y || o.isSome || o'.isSome) = true) : eqGuard op t x y (ifv tx k o) (ifv tx k o') = pure () := by
  cases o <;> cases o'
  · cases y with
    | const c => cases op <;> cases x <;> rfl
    | _ => cases h
  · cases op <;> rfl
  · cases op <;> rfl
  · cases op <;> rfl
theorem eq_if {tx : TypeId} {k : IntKind} (ht : isIf P t = true) (hx : intC P tx = true) (o o' : Option Int) (w : World) : (binOp .eql t (ifv tx k o) (ifv tx k o')).run P w = .ok (.bool (decide (o = o'))) w := by
  unfold isIf at ht
  split at ht
  case h_2 => cases ht
  rename_i ms hu
  unfold intC at hx
  split at hx
  case h_2 => cases hx
  rename_i q hq
  have hc : (P.info? tx).map (·.comparable) = some true := by simpa using hx
  have hif : P.isIface t = true := by simp [Program.isIface, hu]
  cases o with
  | none =>
    cases o' with
    | none => exact (run_eql_nil_nil_at (P := P) (w := w) t hif).trans (by simp)
    | some b => exact (run_eql_iface_nil_left (P := P) w tx (.int k b) hu).trans (by simp)
  | some a =>
    cases o' with
    | none => exact (run_eql_iface_nil (P := P) (w := w) t hif tx (.int k a)).trans (by simp)
    | some b => exact (Lib.run_eql_iface_int (P := P) w a b hu hc hq).trans (by simp; rfl)
theorem Pur.eqI {tx : TypeId} {k : IntKind} (o o' : Option Int) (ht : isIf P t = true) (htx : intC P tx = true) (hx : ev e x = some (ifv tx k o)) (hy : ev e y = some (ifv tx k o')) (hg : (isK y || o.isSome || o'.isSome) = true) :
    Pur P ⟨dst, .binOp .eql t x y t', ty, pos, aft, gd⟩ e (.bool (decide (o = o'))) := by
  intro A w hA
  simp only [execOp, hA.ev hx, hA.ev hy, eqGuard_if _ _ _ _ _ _ _ _ hg, Sem.run_bind, Sem.run_pure, Result.andThen_ok, eq_if ht htx]
theorem Pur.tas {tx xT asr : TypeId} {z v : Value} {want : Array (String × TypeId)} (hu : P.underlying asr = some (.interface want)) (h : (P.info? tx).map (fun i => (lacking want i.methods).isEmpty) = some false) (hz : (P.info? asr).map (·.zero) = some (some z))
    (hx : ev e x = some (.iface tx v)) : Pur P ⟨dst, .typeAssert x xT asr true, ty, pos, aft, gd⟩ e (.tuple #[z, .bool false]) := by
  intro A w hA
  simp only [execOp, hA.ev hx, Sem.run_bind, run_typeAssert_lacksB hu h hz, Result.andThen_ok, Sem.run_pure]

/-- clear, elements of one cell each -/
theorem Does.clr {el : TypeId} {z : Value} {by' b o n c : Nat} {cs : List Value} (ht : mkT P t = some (el, z, by')) (h1 : z.oneCell' = true) (hx : ev e x = some (.slice (some ⟨b, o, none⟩) n c)) (hn : 0 < n) (hb : Own H b cs) (hl : o + n ≤ cs.length) :
    Does P ⟨dst, .call { callee := .builtin .clear, args := #[x], argTypes := #[t] }, ty, pos, aft, gd⟩ e H (fun _ H' => Upd H H' b (cs.take o ++ List.replicate n z ++ cs.drop (o + n))) := by
  intro w0 nn a hA K Q hK
  unfold mkT at ht
  split at ht
  case h_2 => cases ht
  rename_i el' hu
  split at ht
  case h_2 => cases ht
  rename_i i hi
  split at ht
  case h_2 => cases ht
  rename_i z' hz
  split at ht
  case h_2 => cases ht
  rename_i hs hc
  cases ht
  obtain ⟨cs', hcall⟩ := run_call_builtin (P := P) (dst := dst) (b := .clear) (xs := [x]) (ats := #[t]) (ty := ty) (pos := pos) (aft := aft) (gd := gd) (vs := [.slice (some ⟨b, o, none⟩) n c]) a (mk w0 H nn) hA (by simp [evs, hx])
  have hc' : z'.cells = #[z] := Array.ext' hc
  have hv : ∀ w, (zeroValue el).run P w = .ok z' w := fun w => by simp [zeroValue, typeInfo, hi, hz]
  obtain ⟨H1, hr1, hu1⟩ := storeCells_run (P := P) w0 nn b (List.replicate n z) o 0 cs H hb (by simpa using hl) (fun v hv => by rw [List.eq_of_mem_replicate hv]; exact h1)
  have hzc : (Builtin.zeroCells z'.cells n).toList = List.replicate n z := by
    rw [hc']
    simp [Builtin.zeroCells]
    apply List.ext_getElem
    · simp
    · intro i h1 h2
      simp [Nat.mod_one]
  obtain ⟨m, rfl⟩ : ∃ m, n = m + 1 := ⟨n - 1, by omega⟩
  have hrun : (Builtin.clear_ #[t] ty #[.slice (some ⟨b, o, none⟩) (m + 1) c]).run P (mk w0 H nn) = .ok (.tuple #[]) (mk w0 H1 nn) := by
    simp [Builtin.clear_, run_underlying hu, hv, hzc, hr1]
  unfold Oper.wp
  rw [show (#[x] : Array Operand) = [x].toArray from rfl, hcall]
  have hb2 : (builtin .clear #[t] ty cs' [.slice (some ⟨b, o, none⟩) (m + 1) c].toArray).run P (mk w0 H nn) = .ok (.value (.tuple #[])) (mk w0 H1 nn) := by
    simp only [builtin, Sem.run_bind, hrun, Result.andThen_ok, Sem.run_pure]
  rw [hb2]
  exact hK _ H1 nn (by simpa using hu1)
end
end Go.Fx
