/-
  Parts of the proof, 2.
-/
import Derived.Test.YtlfillhffpiffaaProg
import Derived.Test.YtlfillhffpiffaaR1
namespace Go.Proofs.Ytlfillhffpiffaa
set_option linter.unusedSimpArgs false
set_option linter.unusedVariables false
set_option maxRecDepth 8000
open Go Go.Fx Go.Proofs
namespace FactsSchK

end FactsSchK
open FactsSchK

abbrev rtV0 (b : Nat) : Value := .agg #[.pointer (some ⟨b, 31, none⟩)]
theorem ty_of0 (n : Int) (w : World) : (Extern.ReflectliteType.typeOf #[.iface 31 (I n)]).run Try.prog w = .ok (.iface 186 (rtV0 Try.prog.globals.size)) w := by kernel_rfl
theorem ty_comp0 (w : World) : ((Extern.ReflectliteType.method fun t => do Extern.Rtype.noPackHeld "Comparable" t; pure (.bool (← typeInfo t).comparable)) #[(rtV0 Try.prog.globals.size)]).run Try.prog w = .ok (.bool true) w := by kernel_rfl
theorem ty_meth (w : World) : (Go.method (Try.prog.types.size + Made.depth) 186 (rtV0 Try.prog.globals.size) "Comparable").run Try.prog w = .ok (162, (rtV0 Try.prog.globals.size)) w := by kernel_rfl
theorem ty_of (n : Int) (w : World) : (callFunc 96 #[.iface 31 (I n)]).run Try.prog w = .ok (.value (.iface 186 (rtV0 Try.prog.globals.size))) w := by
  have h := @run_callFunc_extern Try.prog 96 _ Extern.ReflectliteType.typeOf Try.func96 (by kernel_rfl) (by kernel_rfl) (by kernel_rfl) (by kernel_rfl) #[.iface 31 (I n)] w
  rw [h, ty_of0]; rfl
theorem ty_comp (w : World) : (callMethod (.iface 186 (rtV0 Try.prog.globals.size)) "Comparable" #[]).run Try.prog w = .ok (.value (.bool true)) w := by
  have h := @run_callFunc_extern Try.prog 162 _ (Extern.ReflectliteType.method fun t => do Extern.Rtype.noPackHeld "Comparable" t; pure (.bool (← typeInfo t).comparable)) Try.func162 (by kernel_rfl) (by kernel_rfl) (by kernel_rfl) (by kernel_rfl) #[(rtV0 Try.prog.globals.size)] w
  have h2 := ty_comp0 w
  have hp : ∀ w : World, (program).run Try.prog w = .ok Try.prog w := fun w => rfl
  simp only [callMethod, Sem.run_bind, hp, Result.andThen_ok, ty_meth]
  rw [show (#[(rtV0 Try.prog.globals.size)] ++ #[] : Array Value) = #[(rtV0 Try.prog.globals.size)] from rfl, h]
  rw [h2]; rfl
theorem isIf_err : isIf Try.prog 107 = true := by kernel_rfl
theorem intC_err : intC Try.prog 31 = true := by kernel_rfl
abbrev ev31 (o : Option Int) : Value := ifv 31 .i64 o
theorem asIs (n : Int) : ∀ {dst ty pos aft gd} {e : Env} {x : Operand} {xT : TypeId} (_ : ev e x = some (ev31 (some n))), Pur Try.prog ⟨dst, .typeAssert x xT 188 true, ty, pos, aft, gd⟩ e (.tuple #[.nilIface, .bool false]) :=
  fun hx => Pur.tas Try.underlying188 (by kernel_rfl) (by kernel_rfl) hx
theorem asUn (n : Int) : ∀ {dst ty pos aft gd} {e : Env} {x : Operand} {xT : TypeId} (_ : ev e x = some (ev31 (some n))), Pur Try.prog ⟨dst, .typeAssert x xT 191 true, ty, pos, aft, gd⟩ e (.tuple #[.nilIface, .bool false]) :=
  fun hx => Pur.tas Try.underlying191 (by kernel_rfl) (by kernel_rfl) hx
theorem asUs (n : Int) : ∀ {dst ty pos aft gd} {e : Env} {x : Operand} {xT : TypeId} (_ : ev e x = some (ev31 (some n))), Pur Try.prog ⟨dst, .typeAssert x xT 193 true, ty, pos, aft, gd⟩ e (.tuple #[.nilIface, .bool false]) :=
  fun hx => Pur.tas Try.underlying193 (by kernel_rfl) (by kernel_rfl) hx

theorem is_ok (a n : Int) (H : Heap) : Ret Try.prog 97 [ev31 (some a), ev31 (some n), .bool true] H (fun v H' => v = .bool (decide (a = n)) ∧ H' = H) := by
  refine Ret.of_at (N := 54) Try.call97 Try.func97 rfl rfl rfl ?_
  have hE := Ext.refl H
  refine At.region rfl rfl ?_
  refine Reg.pur rfl rfl rfl rfl (Pur.asg rfl) ?_
  refine Reg.nil ?_
  refine At.loop (σ := Unit) (fun _ => [(0, ev31 (some a)), (1, ev31 (some n)), (2, .bool true)]) (fun _ H' => H' = H) (fun _ => 0) () rfl ⟨rfl, rfl, rfl, trivial⟩ rfl ?_
  rintro _ H rfl ih
  refine At.region rfl rfl ?_
  refine Reg.pur rfl rfl rfl rfl (Pur.mv rfl) ?_
  refine Reg.pur rfl rfl rfl rfl (Pur.mv rfl) ?_
  refine Reg.known (b' := true) 15 rfl rfl ?_
  refine Reg.gpur rfl rfl rfl rfl rfl rfl (Pur.mv rfl) ?_
  refine Reg.gpur rfl rfl rfl rfl rfl rfl (Pur.mv rfl) ?_
  refine Reg.gpur rfl rfl rfl rfl rfl rfl (Pur.eqI (some a) (some n) isIf_err intC_err rfl rfl rfl) ?_
  refine Reg.pur rfl rfl rfl rfl (Pur.pickT rfl rfl) ?_
  refine Reg.nil ?_
  refine At.cond rfl rfl (fun q19 => ?_) (fun q19 => ?_)
  · first | (simp only [decide_eq_true_eq, decide_eq_false_iff_not, Bool.not_eq_true', Bool.not_eq_false', ne_eq, Decidable.not_not, Bool.not_eq_true, Bool.not_eq_false] at q19) | (dsimp only at q19) | skip
    refine At.region rfl rfl ?_
    refine Reg.pur rfl rfl rfl rfl (Pur.asg rfl) ?_
    refine Reg.nil ?_
    refine At.ret rfl Try.func97 rfl ?_
    exact ⟨congrArg Value.bool (by simpa using q19), rfl⟩
  first | (simp only [decide_eq_true_eq, decide_eq_false_iff_not, Bool.not_eq_true', Bool.not_eq_false', ne_eq, Decidable.not_not, Bool.not_eq_true, Bool.not_eq_false] at q19) | (dsimp only at q19) | skip
  refine At.region rfl rfl ?_
  refine Reg.pur rfl rfl rfl rfl (Pur.mv rfl) ?_
  refine Reg.pur rfl rfl rfl rfl (asIs a rfl) ?_
  refine Reg.pur rfl rfl rfl rfl (Pur.mv rfl) ?_
  refine Reg.pur rfl rfl rfl rfl (Pur.ext rfl rfl) ?_
  refine Reg.pur rfl rfl rfl rfl (Pur.ext rfl rfl) ?_
  refine Reg.pur rfl rfl rfl rfl (Pur.asg rfl) ?_
  refine Reg.pur rfl rfl rfl rfl (Pur.asg rfl) ?_
  refine Reg.nil ?_
  refine At.region rfl rfl ?_
  refine Reg.pur rfl rfl rfl rfl (Pur.mv rfl) ?_
  refine Reg.pur rfl rfl rfl rfl (Pur.mv rfl) ?_
  refine Reg.known (b' := false) 26 rfl rfl ?_
  refine Reg.skip rfl rfl rfl rfl rfl rfl rfl ?_
  refine Reg.skip rfl rfl rfl rfl rfl rfl rfl ?_
  refine Reg.skip rfl rfl rfl rfl rfl rfl rfl ?_
  refine Reg.pur rfl rfl rfl rfl (Pur.pickF rfl rfl) ?_
  refine Reg.nil ?_
  refine At.condF rfl rfl rfl ?_
  refine At.region rfl rfl ?_
  refine Reg.pur rfl rfl rfl rfl (Pur.mv rfl) ?_
  refine Reg.nil ?_
  refine At.region rfl rfl ?_
  refine Reg.pur rfl rfl rfl rfl (asUn a rfl) ?_
  refine Reg.pur rfl rfl rfl rfl (Pur.ext rfl rfl) ?_
  refine Reg.pur rfl rfl rfl rfl (Pur.ext rfl rfl) ?_
  refine Reg.nil ?_
  refine At.condF rfl rfl rfl ?_
  refine At.region rfl rfl ?_
  refine Reg.pur rfl rfl rfl rfl (asUs a rfl) ?_
  refine Reg.pur rfl rfl rfl rfl (Pur.ext rfl rfl) ?_
  refine Reg.pur rfl rfl rfl rfl (Pur.ext rfl rfl) ?_
  refine Reg.nil ?_
  refine At.condF rfl rfl rfl ?_
  refine At.region rfl rfl ?_
  refine Reg.pur rfl rfl rfl rfl (Pur.asg rfl) ?_
  refine Reg.nil ?_
  refine At.region rfl rfl ?_
  refine Reg.pur rfl rfl rfl rfl (Pur.asg rfl) ?_
  refine Reg.nil ?_
  refine At.ret rfl Try.func97 rfl ?_
  exact ⟨congrArg Value.bool (by symm; simpa using q19), rfl⟩
theorem errorsIs_ok (o : Option Int) (n : Int) (H : Heap) : Ret Try.prog 70 [ev31 o, ev31 (some n)] H (fun v H' => v = .bool (decide (o = some n)) ∧ H' = H) := by
  cases o with
  | none =>
    refine Ret.of_at (N := 22) Try.call70 Try.func70 rfl rfl rfl ?_
    have hE := Ext.refl H
    refine At.region rfl rfl ?_
    refine Reg.pur rfl rfl rfl rfl (Pur.asg rfl) ?_
    refine Reg.nil ?_
    refine At.region rfl rfl ?_
    refine Reg.pur rfl rfl rfl rfl (Pur.mv rfl) ?_
    refine Reg.pur rfl rfl rfl rfl (Pur.eqI none none isIf_err intC_err rfl rfl rfl) ?_
    refine Reg.pur rfl rfl rfl rfl (Pur.mv rfl) ?_
    refine Reg.known (b' := true) 8 rfl (by decide) ?_
    refine Reg.skip rfl rfl rfl rfl rfl rfl rfl ?_
    refine Reg.skip rfl rfl rfl rfl rfl rfl rfl ?_
    refine Reg.pur rfl rfl rfl rfl (Pur.pickT rfl rfl) ?_
    refine Reg.nil ?_
    refine At.condT rfl rfl rfl ?_
    refine At.region rfl rfl ?_
    refine Reg.pur rfl rfl rfl rfl (Pur.mv rfl) ?_
    refine Reg.pur rfl rfl rfl rfl (Pur.mv rfl) ?_
    refine Reg.pur rfl rfl rfl rfl (Pur.eqI none (some n) isIf_err intC_err rfl rfl rfl) ?_
    refine Reg.pur rfl rfl rfl rfl (Pur.asg rfl) ?_
    refine Reg.nil ?_
    refine At.ret rfl Try.func70 rfl ?_
    exact ⟨congrArg Value.bool (by simp), rfl⟩
  | some a =>
    refine Ret.of_at (N := 22) Try.call70 Try.func70 rfl rfl rfl ?_
    have hE := Ext.refl H
    refine At.region rfl rfl ?_
    refine Reg.pur rfl rfl rfl rfl (Pur.asg rfl) ?_
    refine Reg.nil ?_
    refine At.region rfl rfl ?_
    refine Reg.pur rfl rfl rfl rfl (Pur.mv rfl) ?_
    refine Reg.pur rfl rfl rfl rfl (Pur.eqI (some a) none isIf_err intC_err rfl rfl rfl) ?_
    refine Reg.pur rfl rfl rfl rfl (Pur.mv rfl) ?_
    refine Reg.known (b' := false) 8 rfl (by simp) ?_
    refine Reg.gpur rfl rfl rfl rfl rfl rfl (Pur.mv rfl) ?_
    refine Reg.gpur rfl rfl rfl rfl rfl rfl (Pur.eqI (some n) none isIf_err intC_err rfl rfl rfl) ?_
    refine Reg.pur rfl rfl rfl rfl (Pur.pickF rfl rfl) ?_
    refine Reg.nil ?_
    refine At.condF rfl rfl (by simp) ?_
    refine At.region rfl rfl ?_
    refine Reg.pur rfl rfl rfl rfl (Pur.mv rfl) ?_
    refine Reg.pur rfl rfl rfl rfl (Pur.callX rfl (ty_of n)) ?_
    refine Reg.pur rfl rfl rfl rfl (Pur.invX rfl ty_comp) ?_
    refine Reg.pur rfl rfl rfl rfl (Pur.asg rfl) ?_
    refine Reg.nil ?_
    refine At.region rfl rfl ?_
    refine Reg.pur rfl rfl rfl rfl (Pur.mv rfl) ?_
    refine Reg.pur rfl rfl rfl rfl (Pur.mv rfl) ?_
    refine Reg.pur rfl rfl rfl rfl (Pur.mv rfl) ?_
    refine Reg.op rfl rfl rfl rfl (Does.call rfl (is_ok a n _)) ?_
    rintro _ H ⟨rfl, rfl⟩
    refine Reg.pur rfl rfl rfl rfl (Pur.asg rfl) ?_
    refine Reg.nil ?_
    refine At.ret rfl Try.func70 rfl ?_
    exact ⟨congrArg Value.bool (by simp), rfl⟩
end Go.Proofs.Ytlfillhffpiffaa

namespace Go.Proofs.Ytlfillhffpiffaa
set_option linter.unusedSimpArgs false
set_option linter.unusedVariables false
set_option maxRecDepth 8000
open Go Go.Fx Go.Proofs
namespace FactsSchA
theorem apt54 : appT Try.prog 54 = some (3, 1, 8) := by kernel_rfl
theorem es54 : esz Try.prog 54 = some 1 := by kernel_rfl
theorem sc3 : sc Try.prog 3 = true := by kernel_rfl
theorem sl1_54 : sl1 Try.prog 54 = true := by kernel_rfl
end FactsSchA
open FactsSchA

end Go.Proofs.Ytlfillhffpiffaa

namespace Go.Proofs.Ytlfillhffpiffaa
set_option linter.unusedSimpArgs false
set_option linter.unusedVariables false
set_option maxRecDepth 8000
open Go Go.Fx Go.Proofs
namespace FactsSchB
theorem apt54 : appT Try.prog 54 = some (3, 1, 8) := by kernel_rfl
theorem es54 : esz Try.prog 54 = some 1 := by kernel_rfl
theorem mkT54 : mkT Try.prog 54 = some (3, .int .i64 0, 8) := by kernel_rfl
theorem sc3 : sc Try.prog 3 = true := by kernel_rfl
theorem sl1_54 : sl1 Try.prog 54 = true := by kernel_rfl
end FactsSchB
open FactsSchB

end Go.Proofs.Ytlfillhffpiffaa

namespace Go.Proofs.Ytlfillhffpiffaa
set_option linter.unusedSimpArgs false
set_option linter.unusedVariables false
open Go Go.Fx Go.Proofs
namespace FactsTypA
theorem ag26 : ag Try.prog 26 = some 4 := by kernel_rfl
theorem arr1_26 : arr1 Try.prog 26 = some 4 := by kernel_rfl
theorem arr26 : arr Try.prog 26 = some (4, 1) := by kernel_rfl
theorem fo28_0 : foff Try.prog 28 0 = some 0 := by kernel_rfl
theorem fo28_1 : foff Try.prog 28 1 = some 4 := by kernel_rfl
theorem sc3 : sc Try.prog 3 = true := by kernel_rfl
end FactsTypA
open FactsTypA

def okc (n : Int) : Bool := decide (0 ≤ n ∧ n ≤ 32)
def rowM (r : List Int) : Bool := (r.take 4).all okc && decide (-1 ≤ r.getD 4 0 ∧ r.getD 4 0 < 4096)
theorem take4_at {r : List Int} (h : r.length = 5) {i : Nat} (hi : i < 4) : (r.take 4)[i]'(by simp; omega) = r.getD i 0 := by
  simp [List.getD_eq_getElem?_getD, List.getElem?_eq_getElem (by omega : i < r.length)]

theorem hat4 (r : List Int) (h : r.length = 5) : (Is r)[0 + 4]? = some (I (r.getD 4 0)) := at_Is (by omega)
theorem rowMay_ok (r : List Int) (h : r.length = 5) (H : Heap) : Ret Try.prog 58 [.agg (Is r).toArray] H (fun v H' => v = .bool (rowM r) ∧ Ext H H') := by
  have h4 : (r.take 4).length = 4 := by simp; omega
  refine Ret.of_at (N := 25) Try.call58 Try.func58 rfl rfl rfl ?_
  refine At.region rfl rfl ?_
  refine Reg.op rfl rfl rfl rfl (Does.box rfl rfl) ?_
  rintro _ H1 ⟨rfl, hn1⟩
  refine Reg.pur rfl rfl rfl rfl (Pur.asg rfl) ?_
  refine Reg.nil ?_
  refine At.region rfl rfl ?_
  refine Reg.pur rfl rfl rfl rfl (Pur.fld _ fo28_0 rfl) ?_
  refine Reg.lod rfl rfl rfl rfl (Lod.ldn ag26 rfl hn1.own.blk (show _ = Is (r.take 4) by simp [Is, List.map_take]) (by simp [Is]; omega)) ?_
  refine Reg.pur rfl rfl rfl rfl (Pur.mv rfl) ?_
  refine Reg.nil ?_
  refine At.loop (σ := Nat) (fun i => [(7, I i), (6, .agg (Is (r.take 4)).toArray), (1, ptr H.size 0)]) (fun i H' => i ≤ 4 ∧ H' = H1 ∧ ((r.take 4).take i).all okc = true) (fun i => 4 - i) 0 rfl ⟨rfl, rfl, rfl, trivial⟩ ⟨by omega, rfl, rfl⟩ ?_
  rintro i H2 ⟨hi, rfl, hgo⟩ ih
  refine At.region rfl rfl ?_
  refine Reg.pur rfl rfl rfl rfl (Pur.lss rfl rfl) ?_
  refine Reg.nil ?_
  refine At.cond rfl rfl (fun hb1 => ?_) (fun hb1 => ?_)
  · simp only [decide_eq_true_eq] at hb1
    have hlt : i < (r.take 4).length := by omega
    have hat := take4_at h (i := i) (by omega)
    have hai : (Is (r.take 4))[(i : Int).toNat]? = some (I (r.getD i 0)) := by
      have : (Is (r.take 4))[i]? = some (I (r.take 4)[i]) := by simp only [Is, List.getElem?_map, List.getElem?_eq_getElem hlt, Option.map_some]
      rw [hat] at this
      exact this
    refine At.region rfl rfl ?_
    refine Reg.pur rfl rfl rfl rfl (Pur.ixA arr1_26 rfl rfl (by omega) (by omega) hai) ?_
    refine Reg.pur rfl rfl rfl rfl (Pur.asg rfl) ?_
    refine Reg.nil ?_
    refine At.region rfl rfl ?_
    refine Reg.pur rfl rfl rfl rfl (Pur.mv rfl) ?_
    refine Reg.pur rfl rfl rfl rfl (Pur.lss rfl rfl) ?_
    refine Reg.pur rfl rfl rfl rfl (Pur.mv rfl) ?_
    refine Reg.case 12 rfl (fun hc2 => ?_) (fun hc2 => ?_)
    · refine Reg.skip rfl rfl rfl rfl rfl rfl rfl ?_
      refine Reg.skip rfl rfl rfl rfl rfl rfl rfl ?_
      refine Reg.pur rfl rfl rfl rfl (Pur.pickT rfl rfl) ?_
      refine Reg.nil ?_
      refine At.condT rfl rfl rfl ?_
      refine At.region rfl rfl ?_
      refine Reg.pur rfl rfl rfl rfl (Pur.asg rfl) ?_
      refine Reg.nil ?_
      refine At.ret rfl Try.func58 rfl ?_
      refine ⟨congrArg Value.bool ?_, hn1.ext⟩
      simp only [decide_eq_false_iff_not, decide_eq_true_eq] at *
      unfold rowM
      first | (rw [all_of_take hlt (by rw [hat, okc, decide_eq_false_iff_not]; omega)]; rfl) | (rw [List.take_of_length_le (by omega)] at hgo; rw [hgo]; generalize r.getD 4 0 = t at *; simp [*])
    refine Reg.gpur rfl rfl rfl rfl rfl rfl (Pur.mv rfl) ?_
    refine Reg.gpur rfl rfl rfl rfl rfl rfl (Pur.gtr rfl rfl) ?_
    refine Reg.pur rfl rfl rfl rfl (Pur.pickF rfl rfl) ?_
    refine Reg.nil ?_
    refine At.cond rfl rfl (fun hb3 => ?_) (fun hb3 => ?_)
    · refine At.region rfl rfl ?_
      refine Reg.pur rfl rfl rfl rfl (Pur.asg rfl) ?_
      refine Reg.nil ?_
      refine At.ret rfl Try.func58 rfl ?_
      refine ⟨congrArg Value.bool ?_, hn1.ext⟩
      simp only [decide_eq_false_iff_not, decide_eq_true_eq] at *
      unfold rowM
      first | (rw [all_of_take hlt (by rw [hat, okc, decide_eq_false_iff_not]; omega)]; rfl) | (rw [List.take_of_length_le (by omega)] at hgo; rw [hgo]; generalize r.getD 4 0 = t at *; simp [*])
    refine At.region rfl rfl ?_
    first | refine Reg.pur rfl rfl rfl rfl (Pur.add64 rfl rfl (by omega)) ?_ | refine Reg.pur rfl rfl rfl rfl (Pur.add64 rfl rfl (by assumption)) ?_ | refine Reg.pur rfl rfl rfl rfl (Pur.add rfl rfl) ?_
    refine Reg.pur rfl rfl rfl rfl (Pur.mv rfl) ?_
    refine Reg.nil ?_
    refine At.via (ih (i + 1) _ ⟨by omega, rfl, ?_⟩ (by omega)) ⟨rfl, rfl, rfl, trivial⟩
    simp only [decide_eq_false_iff_not, decide_eq_true_eq] at *
    rw [all_take hlt, hgo, hat, okc, decide_eq_true (by omega)]; rfl
  refine At.region rfl rfl ?_
  refine Reg.pur rfl rfl rfl rfl (Pur.fld _ fo28_1 rfl) ?_
  refine Reg.lod rfl rfl rfl rfl (Lod.ld sc3 rfl hn1.own.blk (hat4 r h)) ?_
  refine Reg.pur rfl rfl rfl rfl (Pur.geq rfl rfl) ?_
  refine Reg.pur rfl rfl rfl rfl (Pur.mv rfl) ?_
  refine Reg.case 20 rfl (fun hc4 => ?_) (fun hc4 => ?_)
  · refine Reg.gpur rfl rfl rfl rfl rfl rfl (Pur.fld _ fo28_1 rfl) ?_
    refine Reg.glod rfl rfl rfl rfl rfl rfl (Lod.ld sc3 rfl hn1.own.blk (hat4 r h)) ?_
    refine Reg.gpur rfl rfl rfl rfl rfl rfl (Pur.lss rfl rfl) ?_
    refine Reg.pur rfl rfl rfl rfl (Pur.pickT rfl rfl) ?_
    refine Reg.pur rfl rfl rfl rfl (Pur.asg rfl) ?_
    refine Reg.nil ?_
    refine At.ret rfl Try.func58 rfl ?_
    refine ⟨congrArg Value.bool ?_, hn1.ext⟩
    simp only [decide_eq_false_iff_not, decide_eq_true_eq] at *
    unfold rowM
    first | (rw [all_of_take hlt (by rw [hat, okc, decide_eq_false_iff_not]; omega)]; rfl) | (rw [List.take_of_length_le (by omega)] at hgo; rw [hgo]; generalize r.getD 4 0 = t at *; simp [*])
  refine Reg.skip rfl rfl rfl rfl rfl rfl rfl ?_
  refine Reg.skip rfl rfl rfl rfl rfl rfl rfl ?_
  refine Reg.skip rfl rfl rfl rfl rfl rfl rfl ?_
  refine Reg.pur rfl rfl rfl rfl (Pur.pickF rfl rfl) ?_
  refine Reg.pur rfl rfl rfl rfl (Pur.asg rfl) ?_
  refine Reg.nil ?_
  refine At.ret rfl Try.func58 rfl ?_
  refine ⟨congrArg Value.bool ?_, hn1.ext⟩
  simp only [decide_eq_false_iff_not, decide_eq_true_eq] at *
  unfold rowM
  first | (rw [all_of_take hlt (by rw [hat, okc, decide_eq_false_iff_not]; omega)]; rfl) | (rw [List.take_of_length_le (by omega)] at hgo; rw [hgo]; generalize r.getD 4 0 = t at *; simp [*])

theorem rowMayR_ok (r : List Int) (h : r.length = 5) (H : Heap) : Ret Try.prog 41 [.agg (Is r).toArray] H (fun v H' => v = .bool (rowM r) ∧ Ext H H') := by
  have h4 : (r.take 4).length = 4 := by simp; omega
  refine Ret.of_at (N := 28) Try.call41 Try.func41 rfl rfl rfl ?_
  refine At.region rfl rfl ?_
  refine Reg.op rfl rfl rfl rfl (Does.box rfl rfl) ?_
  rintro _ H1 ⟨rfl, hn1⟩
  refine Reg.pur rfl rfl rfl rfl (Pur.asg rfl) ?_
  refine Reg.nil ?_
  refine At.region rfl rfl ?_
  refine Reg.pur rfl rfl rfl rfl (Pur.asg rfl) ?_
  refine Reg.nil ?_
  refine At.loop (σ := Nat) (fun i => [(3, I i), (1, ptr H.size 0)]) (fun i H' => i ≤ 4 ∧ H' = H1 ∧ ((r.take 4).take i).all okc = true) (fun i => 4 - i) 0 rfl ⟨rfl, rfl, trivial⟩ ⟨by omega, rfl, rfl⟩ ?_
  rintro i H2 ⟨hi, rfl, hgo⟩ ih
  refine At.region rfl rfl ?_
  refine Reg.pur rfl rfl rfl rfl (Pur.mv rfl) ?_
  refine Reg.pur rfl rfl rfl rfl (Pur.lss rfl rfl) ?_
  refine Reg.nil ?_
  refine At.cond rfl rfl (fun hb1 => ?_) (fun hb1 => ?_)
  · simp only [decide_eq_true_eq] at hb1
    have hlt : i < (r.take 4).length := by omega
    have hat := take4_at h (i := i) (by omega)
    have hai : (Is r)[0 + 0 + (i : Int).toNat * 1]? = some (I (r.getD i 0)) := by rw [show 0 + 0 + (i : Int).toNat * 1 = i from by omega]; exact at_Is (by omega)
    refine At.region rfl rfl ?_
    refine Reg.pur rfl rfl rfl rfl (Pur.mv rfl) ?_
    refine Reg.pur rfl rfl rfl rfl (Pur.fld _ fo28_0 rfl) ?_
    refine Reg.pur rfl rfl rfl rfl (Pur.idxP arr26 rfl rfl (by omega) (by omega)) ?_
    refine Reg.lod rfl rfl rfl rfl (Lod.ld sc3 rfl hn1.own.blk hai) ?_
    refine Reg.pur rfl rfl rfl rfl (Pur.lss rfl rfl) ?_
    refine Reg.pur rfl rfl rfl rfl (Pur.mv rfl) ?_
    refine Reg.case 13 rfl (fun hc2 => ?_) (fun hc2 => ?_)
    · refine Reg.skip rfl rfl rfl rfl rfl rfl rfl ?_
      refine Reg.skip rfl rfl rfl rfl rfl rfl rfl ?_
      refine Reg.skip rfl rfl rfl rfl rfl rfl rfl ?_
      refine Reg.skip rfl rfl rfl rfl rfl rfl rfl ?_
      refine Reg.skip rfl rfl rfl rfl rfl rfl rfl ?_
      refine Reg.pur rfl rfl rfl rfl (Pur.pickT rfl rfl) ?_
      refine Reg.nil ?_
      refine At.condT rfl rfl rfl ?_
      refine At.region rfl rfl ?_
      refine Reg.pur rfl rfl rfl rfl (Pur.asg rfl) ?_
      refine Reg.nil ?_
      refine At.ret rfl Try.func41 rfl ?_
      refine ⟨congrArg Value.bool ?_, hn1.ext⟩
      simp only [decide_eq_false_iff_not, decide_eq_true_eq] at *
      unfold rowM
      first | (rw [all_of_take hlt (by rw [hat, okc, decide_eq_false_iff_not]; omega)]; rfl) | (rw [List.take_of_length_le (by omega)] at hgo; rw [hgo]; generalize r.getD 4 0 = t at *; simp [*])
    refine Reg.gpur rfl rfl rfl rfl rfl rfl (Pur.mv rfl) ?_
    refine Reg.gpur rfl rfl rfl rfl rfl rfl (Pur.fld _ fo28_0 rfl) ?_
    refine Reg.gpur rfl rfl rfl rfl rfl rfl (Pur.idxP arr26 rfl rfl (by omega) (by omega)) ?_
    refine Reg.glod rfl rfl rfl rfl rfl rfl (Lod.ld sc3 rfl hn1.own.blk hai) ?_
    refine Reg.gpur rfl rfl rfl rfl rfl rfl (Pur.gtr rfl rfl) ?_
    refine Reg.pur rfl rfl rfl rfl (Pur.pickF rfl rfl) ?_
    refine Reg.nil ?_
    refine At.cond rfl rfl (fun hb3 => ?_) (fun hb3 => ?_)
    · refine At.region rfl rfl ?_
      refine Reg.pur rfl rfl rfl rfl (Pur.asg rfl) ?_
      refine Reg.nil ?_
      refine At.ret rfl Try.func41 rfl ?_
      refine ⟨congrArg Value.bool ?_, hn1.ext⟩
      simp only [decide_eq_false_iff_not, decide_eq_true_eq] at *
      unfold rowM
      first | (rw [all_of_take hlt (by rw [hat, okc, decide_eq_false_iff_not]; omega)]; rfl) | (rw [List.take_of_length_le (by omega)] at hgo; rw [hgo]; generalize r.getD 4 0 = t at *; simp [*])
    refine At.region rfl rfl ?_
    refine Reg.pur rfl rfl rfl rfl (Pur.mv rfl) ?_
    first | refine Reg.pur rfl rfl rfl rfl (Pur.add64 rfl rfl (by omega)) ?_ | refine Reg.pur rfl rfl rfl rfl (Pur.add64 rfl rfl (by assumption)) ?_ | refine Reg.pur rfl rfl rfl rfl (Pur.add rfl rfl) ?_
    refine Reg.pur rfl rfl rfl rfl (Pur.asg rfl) ?_
    refine Reg.nil ?_
    refine At.via (ih (i + 1) _ ⟨by omega, rfl, ?_⟩ (by omega)) ⟨rfl, rfl, trivial⟩
    simp only [decide_eq_false_iff_not, decide_eq_true_eq] at *
    rw [all_take hlt, hgo, hat, okc, decide_eq_true (by omega)]; rfl
  refine At.region rfl rfl ?_
  refine Reg.pur rfl rfl rfl rfl (Pur.fld _ fo28_1 rfl) ?_
  refine Reg.lod rfl rfl rfl rfl (Lod.ld sc3 rfl hn1.own.blk (hat4 r h)) ?_
  refine Reg.pur rfl rfl rfl rfl (Pur.geq rfl rfl) ?_
  refine Reg.pur rfl rfl rfl rfl (Pur.mv rfl) ?_
  refine Reg.case 23 rfl (fun hc4 => ?_) (fun hc4 => ?_)
  · refine Reg.gpur rfl rfl rfl rfl rfl rfl (Pur.fld _ fo28_1 rfl) ?_
    refine Reg.glod rfl rfl rfl rfl rfl rfl (Lod.ld sc3 rfl hn1.own.blk (hat4 r h)) ?_
    refine Reg.gpur rfl rfl rfl rfl rfl rfl (Pur.lss rfl rfl) ?_
    refine Reg.pur rfl rfl rfl rfl (Pur.pickT rfl rfl) ?_
    refine Reg.pur rfl rfl rfl rfl (Pur.asg rfl) ?_
    refine Reg.nil ?_
    refine At.ret rfl Try.func41 rfl ?_
    refine ⟨congrArg Value.bool ?_, hn1.ext⟩
    simp only [decide_eq_false_iff_not, decide_eq_true_eq] at *
    unfold rowM
    first | (rw [all_of_take hlt (by rw [hat, okc, decide_eq_false_iff_not]; omega)]; rfl) | (rw [List.take_of_length_le (by omega)] at hgo; rw [hgo]; generalize r.getD 4 0 = t at *; simp [*])
  refine Reg.skip rfl rfl rfl rfl rfl rfl rfl ?_
  refine Reg.skip rfl rfl rfl rfl rfl rfl rfl ?_
  refine Reg.skip rfl rfl rfl rfl rfl rfl rfl ?_
  refine Reg.pur rfl rfl rfl rfl (Pur.pickF rfl rfl) ?_
  refine Reg.pur rfl rfl rfl rfl (Pur.asg rfl) ?_
  refine Reg.nil ?_
  refine At.ret rfl Try.func41 rfl ?_
  refine ⟨congrArg Value.bool ?_, hn1.ext⟩
  simp only [decide_eq_false_iff_not, decide_eq_true_eq] at *
  unfold rowM
  first | (rw [all_of_take hlt (by rw [hat, okc, decide_eq_false_iff_not]; omega)]; rfl) | (rw [List.take_of_length_le (by omega)] at hgo; rw [hgo]; generalize r.getD 4 0 = t at *; simp [*])

def nodM (x : List Int) : Bool :=
  if x.getD 0 0 = 3 then rowM (x.drop 4) && decide (x.getD 1 0 = 0)
  else if x.getD 0 0 = 2 then decide (0 ≤ x.getD 1 0 ∧ x.getD 1 0 < 4096) && decide (x = [2, x.getD 1 0, 0, 0, 0, 0, 0, 0, 0])
  else if x.getD 0 0 = 0 ∨ x.getD 0 0 = 1 then decide (x = [x.getD 0 0, 0, 0, 0, 0, 0, 0, 0, 0]) else false
end Go.Proofs.Ytlfillhffpiffaa

namespace Go.Proofs.Ytlfillhffpiffaa
set_option linter.unusedSimpArgs false
set_option linter.unusedVariables false
set_option maxRecDepth 8000
open Go Go.Fx Go.Proofs
namespace FactsTypB
theorem ag28 : ag Try.prog 28 = some 5 := by kernel_rfl
theorem ag47 : ag Try.prog 47 = some 9 := by kernel_rfl
theorem eqt47 : eqT Try.prog 47 = some [.int .i64, .int .i64, .int .i64, .int .i64, .int .i64, .int .i64, .int .i64, .int .i64, .int .i64] := by kernel_rfl
theorem fo47_0 : foff Try.prog 47 0 = some 0 := by kernel_rfl
theorem fo47_1 : foff Try.prog 47 1 = some 1 := by kernel_rfl
theorem fo47_2 : foff Try.prog 47 2 = some 2 := by kernel_rfl
theorem fo47_3 : foff Try.prog 47 3 = some 3 := by kernel_rfl
theorem fo47_4 : foff Try.prog 47 4 = some 4 := by kernel_rfl
theorem pl28 : places Try.prog 28 = some [(0, 4), (4, 1)] := by kernel_rfl
theorem pl47 : places Try.prog 47 = some [(0, 1), (1, 1), (2, 1), (3, 1), (4, 5)] := by kernel_rfl
theorem sc3 : sc Try.prog 3 = true := by kernel_rfl
theorem zc28 : zc Try.prog 28 = some [.int .i64 0, .int .i64 0, .int .i64 0, .int .i64 0, .int .i64 0] := by kernel_rfl
theorem zc47 : zc Try.prog 47 = some [.int .i64 0, .int .i64 0, .int .i64 0, .int .i64 0, .int .i64 0, .int .i64 0, .int .i64 0, .int .i64 0, .int .i64 0] := by kernel_rfl
end FactsTypB
open FactsTypB

theorem nodMay_ok (k v a b c d e f t : Int) (H : Heap) : Ret Try.prog 85 [.agg (Is [k, v, a, b, c, d, e, f, t]).toArray] H (fun r H' => r = .bool (nodM [k, v, a, b, c, d, e, f, t]) ∧ Ext H H') := by
  refine Ret.of_at (N := 37) Try.call85 Try.func85 rfl rfl rfl ?_
  refine At.region rfl rfl ?_
  refine Reg.op rfl rfl rfl rfl (Does.box rfl rfl) ?_
  rintro _ H1 ⟨rfl, hn1⟩
  refine Reg.pur rfl rfl rfl rfl (Pur.asg rfl) ?_
  refine Reg.nil ?_
  have hX := hn1.own
  refine At.region rfl rfl ?_
  refine Reg.pur rfl rfl rfl rfl (Pur.fld _ fo47_0 rfl) ?_
  refine Reg.lod rfl rfl rfl rfl (Lod.ld sc3 rfl hX.blk rfl) ?_
  refine Reg.nil ?_
  refine At.region rfl rfl ?_
  refine Reg.pur rfl rfl rfl rfl (Pur.eql rfl rfl) ?_
  refine Reg.pur rfl rfl rfl rfl (Pur.asg rfl) ?_
  refine Reg.nil ?_
  refine At.cond rfl rfl (fun hb1 => ?_) (fun hb1 => ?_)
  · have hr := rowMay_ok [c, d, e, f, t] rfl H1
    refine At.region rfl rfl ?_
    refine Reg.pur rfl rfl rfl rfl (Pur.fld _ fo47_4 rfl) ?_
    refine Reg.lod rfl rfl rfl rfl (Lod.ldn ag28 rfl hX.blk (show _ = Is [c, d, e, f, t] from rfl) rfl) ?_
    refine Reg.op rfl rfl rfl rfl (Does.call rfl (hr)) ?_
    rintro _ H2 ⟨rfl, hE2⟩
    refine Reg.pur rfl rfl rfl rfl (Pur.not rfl) ?_
    refine Reg.nil ?_
    have hX := hX.ext hE2
    refine At.cond rfl rfl (fun hb2 => ?_) (fun hb2 => ?_)
    · refine At.region rfl rfl ?_
      refine Reg.pur rfl rfl rfl rfl (Pur.asg rfl) ?_
      refine Reg.nil ?_
      refine At.ret rfl Try.func85 rfl ?_
      refine ⟨congrArg Value.bool ?_, by first | exact hE5 | exact hn1.ext.trans hE2 | exact hn1.ext.upd hu3 (Nat.le_refl _) | exact hn1.ext⟩
      try rw [eqs_ints]
      rw [Bool.eq_iff_iff]
      simp only [decide_eq_true_eq, decide_eq_false_iff_not, Bool.not_eq_true', Bool.not_eq_eq_eq_not, Bool.not_true, Bool.not_false] at *
      simp [nodM, eqs, eqv, *]
      try omega
    refine At.region rfl rfl ?_
    refine Reg.pur rfl rfl rfl rfl (Pur.bld (cs := [_, _, _, _, _]) pl28 zc28 rfl rfl ⟨rfl, rfl, rfl, rfl, rfl, rfl⟩) ?_
    refine Reg.pur rfl rfl rfl rfl (Pur.fld _ fo47_4 rfl) ?_
    refine Reg.op0 rfl rfl rfl (Does.stn ag28 rfl rfl rfl rfl hX (by simp)) ?_
    rintro _ H3 hu3
    refine Reg.pur rfl rfl rfl rfl (Pur.fld _ fo47_2 rfl) ?_
    refine Reg.op0 rfl rfl rfl (Does.st sc3 rfl rfl rfl hu3.own (by simp)) ?_
    rintro _ H4 hu4
    refine Reg.pur rfl rfl rfl rfl (Pur.fld _ fo47_3 rfl) ?_
    refine Reg.op0 rfl rfl rfl (Does.st sc3 rfl rfl rfl hu4.own (by simp)) ?_
    rintro _ H5 hu5
    refine Reg.nil ?_
    have hY : Own H5 H.size (Is [k, v, 0, 0, 0, 0, 0, 0, 0]) := hu5.own
    have hE5 := (((hn1.ext.trans hE2).upd hu3 (Nat.le_refl _)).upd hu4 (Nat.le_refl _)).upd hu5 (Nat.le_refl _)
    refine At.region rfl rfl ?_
    refine Reg.lod rfl rfl rfl rfl (Lod.ldn ag47 rfl hY.blk (whole rfl) rfl) ?_
    refine Reg.pur rfl rfl rfl rfl (Pur.bld (cs := [_, _, _, _, _, _, _, _, _]) pl47 zc47 rfl rfl ⟨rfl, rfl, rfl, rfl, rfl, rfl, rfl, rfl, rfl, rfl⟩) ?_
    refine Reg.pur rfl rfl rfl rfl (Pur.eqA eqt47 rfl rfl (fks_ints .i64 [k, v, 0, 0, 0, 0, 0, 0, 0]) (fks_ints .i64 [3, 0, 0, 0, 0, 0, 0, 0, 0])) ?_
    refine Reg.pur rfl rfl rfl rfl (Pur.asg rfl) ?_
    refine Reg.nil ?_
    refine At.ret rfl Try.func85 rfl ?_
    refine ⟨congrArg Value.bool ?_, by first | exact hE5 | exact hn1.ext.trans hE2 | exact hn1.ext.upd hu3 (Nat.le_refl _) | exact hn1.ext⟩
    try rw [eqs_ints]
    rw [Bool.eq_iff_iff]
    simp only [decide_eq_true_eq, decide_eq_false_iff_not, Bool.not_eq_true', Bool.not_eq_eq_eq_not, Bool.not_true, Bool.not_false] at *
    simp [nodM, eqs, eqv, *]
    try omega
  refine At.region rfl rfl ?_
  refine Reg.pur rfl rfl rfl rfl (Pur.eql rfl rfl) ?_
  refine Reg.pur rfl rfl rfl rfl (Pur.asg rfl) ?_
  refine Reg.nil ?_
  refine At.cond rfl rfl (fun hb3 => ?_) (fun hb3 => ?_)
  · refine At.region rfl rfl ?_
    refine Reg.pur rfl rfl rfl rfl (Pur.fld _ fo47_1 rfl) ?_
    refine Reg.lod rfl rfl rfl rfl (Lod.ld sc3 rfl hX.blk rfl) ?_
    refine Reg.pur rfl rfl rfl rfl (Pur.lss rfl rfl) ?_
    refine Reg.pur rfl rfl rfl rfl (Pur.mv rfl) ?_
    refine Reg.case 26 rfl (fun hc4 => ?_) (fun hc4 => ?_)
    · refine Reg.skip rfl rfl rfl rfl rfl rfl rfl ?_
      refine Reg.skip rfl rfl rfl rfl rfl rfl rfl ?_
      refine Reg.skip rfl rfl rfl rfl rfl rfl rfl ?_
      refine Reg.pur rfl rfl rfl rfl (Pur.pickT rfl rfl) ?_
      refine Reg.nil ?_
      refine At.condT rfl rfl rfl ?_
      refine At.region rfl rfl ?_
      refine Reg.pur rfl rfl rfl rfl (Pur.asg rfl) ?_
      refine Reg.nil ?_
      refine At.ret rfl Try.func85 rfl ?_
      refine ⟨congrArg Value.bool ?_, by first | exact hE5 | exact hn1.ext.trans hE2 | exact hn1.ext.upd hu3 (Nat.le_refl _) | exact hn1.ext⟩
      try rw [eqs_ints]
      rw [Bool.eq_iff_iff]
      simp only [decide_eq_true_eq, decide_eq_false_iff_not, Bool.not_eq_true', Bool.not_eq_eq_eq_not, Bool.not_true, Bool.not_false] at *
      simp [nodM, eqs, eqv, *]
      try omega
    refine Reg.gpur rfl rfl rfl rfl rfl rfl (Pur.fld _ fo47_1 rfl) ?_
    refine Reg.glod rfl rfl rfl rfl rfl rfl (Lod.ld sc3 rfl hX.blk rfl) ?_
    refine Reg.gpur rfl rfl rfl rfl rfl rfl (Pur.geq rfl rfl) ?_
    refine Reg.pur rfl rfl rfl rfl (Pur.pickF rfl rfl) ?_
    refine Reg.nil ?_
    refine At.cond rfl rfl (fun hb5 => ?_) (fun hb5 => ?_)
    · refine At.region rfl rfl ?_
      refine Reg.pur rfl rfl rfl rfl (Pur.asg rfl) ?_
      refine Reg.nil ?_
      refine At.ret rfl Try.func85 rfl ?_
      refine ⟨congrArg Value.bool ?_, by first | exact hE5 | exact hn1.ext.trans hE2 | exact hn1.ext.upd hu3 (Nat.le_refl _) | exact hn1.ext⟩
      try rw [eqs_ints]
      rw [Bool.eq_iff_iff]
      simp only [decide_eq_true_eq, decide_eq_false_iff_not, Bool.not_eq_true', Bool.not_eq_eq_eq_not, Bool.not_true, Bool.not_false] at *
      simp [nodM, eqs, eqv, *]
      try omega
    refine At.region rfl rfl ?_
    refine Reg.pur rfl rfl rfl rfl (Pur.fld _ fo47_1 rfl) ?_
    refine Reg.op0 rfl rfl rfl (Does.st sc3 rfl rfl rfl hX (by simp)) ?_
    rintro _ H3 hu3
    refine Reg.nil ?_
    have hX : Own H3 H.size (Is [k, 0, a, b, c, d, e, f, t]) := hu3.own
    refine At.region rfl rfl ?_
    refine Reg.lod rfl rfl rfl rfl (Lod.ldn ag47 rfl hX.blk (whole rfl) rfl) ?_
    refine Reg.pur rfl rfl rfl rfl (Pur.fld _ fo47_0 rfl) ?_
    refine Reg.lod rfl rfl rfl rfl (Lod.ld sc3 rfl hX.blk rfl) ?_
    refine Reg.pur rfl rfl rfl rfl (Pur.bld (cs := [_, _, _, _, _, _, _, _, _]) pl47 zc47 rfl rfl ⟨rfl, rfl, rfl, rfl, rfl, rfl, rfl, rfl, rfl, rfl⟩) ?_
    refine Reg.pur rfl rfl rfl rfl (Pur.eqA eqt47 rfl rfl (fks_ints .i64 [_, _, _, _, _, _, _, _, _]) (fks_ints .i64 [_, 0, 0, 0, 0, 0, 0, 0, 0])) ?_
    refine Reg.pur rfl rfl rfl rfl (Pur.asg rfl) ?_
    refine Reg.nil ?_
    refine At.ret rfl Try.func85 rfl ?_
    refine ⟨congrArg Value.bool ?_, by first | exact hE5 | exact hn1.ext.trans hE2 | exact hn1.ext.upd hu3 (Nat.le_refl _) | exact hn1.ext⟩
    try rw [eqs_ints]
    rw [Bool.eq_iff_iff]
    simp only [decide_eq_true_eq, decide_eq_false_iff_not, Bool.not_eq_true', Bool.not_eq_eq_eq_not, Bool.not_true, Bool.not_false] at *
    simp [nodM, eqs, eqv, *]
    try omega
  refine At.region rfl rfl ?_
  refine Reg.pur rfl rfl rfl rfl (Pur.eql rfl rfl) ?_
  refine Reg.pur rfl rfl rfl rfl (Pur.asg rfl) ?_
  refine Reg.nil ?_
  refine At.cond rfl rfl (fun hb6 => ?_) (fun hb6 => ?_)
  · refine At.condT rfl rfl (by first | exact hb6 | exact decide_eq_true hb6 | exact decide_eq_false hb6 | simpa using hb6) ?_
    refine At.region rfl rfl ?_
    refine Reg.lod rfl rfl rfl rfl (Lod.ldn ag47 rfl hX.blk (whole rfl) rfl) ?_
    refine Reg.pur rfl rfl rfl rfl (Pur.fld _ fo47_0 rfl) ?_
    refine Reg.lod rfl rfl rfl rfl (Lod.ld sc3 rfl hX.blk rfl) ?_
    refine Reg.pur rfl rfl rfl rfl (Pur.bld (cs := [_, _, _, _, _, _, _, _, _]) pl47 zc47 rfl rfl ⟨rfl, rfl, rfl, rfl, rfl, rfl, rfl, rfl, rfl, rfl⟩) ?_
    refine Reg.pur rfl rfl rfl rfl (Pur.eqA eqt47 rfl rfl (fks_ints .i64 [_, _, _, _, _, _, _, _, _]) (fks_ints .i64 [_, 0, 0, 0, 0, 0, 0, 0, 0])) ?_
    refine Reg.pur rfl rfl rfl rfl (Pur.asg rfl) ?_
    refine Reg.nil ?_
    refine At.ret rfl Try.func85 rfl ?_
    refine ⟨congrArg Value.bool ?_, by first | exact hE5 | exact hn1.ext.trans hE2 | exact hn1.ext.upd hu3 (Nat.le_refl _) | exact hn1.ext⟩
    try rw [eqs_ints]
    rw [Bool.eq_iff_iff]
    simp only [decide_eq_true_eq, decide_eq_false_iff_not, Bool.not_eq_true', Bool.not_eq_eq_eq_not, Bool.not_true, Bool.not_false] at *
    simp [nodM, eqs, eqv, *]
    try omega
  refine At.region rfl rfl ?_
  refine Reg.pur rfl rfl rfl rfl (Pur.eql rfl rfl) ?_
  refine Reg.pur rfl rfl rfl rfl (Pur.asg rfl) ?_
  refine Reg.nil ?_
  refine At.cond rfl rfl (fun hb7 => ?_) (fun hb7 => ?_)
  · refine At.region rfl rfl ?_
    refine Reg.lod rfl rfl rfl rfl (Lod.ldn ag47 rfl hX.blk (whole rfl) rfl) ?_
    refine Reg.pur rfl rfl rfl rfl (Pur.fld _ fo47_0 rfl) ?_
    refine Reg.lod rfl rfl rfl rfl (Lod.ld sc3 rfl hX.blk rfl) ?_
    refine Reg.pur rfl rfl rfl rfl (Pur.bld (cs := [_, _, _, _, _, _, _, _, _]) pl47 zc47 rfl rfl ⟨rfl, rfl, rfl, rfl, rfl, rfl, rfl, rfl, rfl, rfl⟩) ?_
    refine Reg.pur rfl rfl rfl rfl (Pur.eqA eqt47 rfl rfl (fks_ints .i64 [_, _, _, _, _, _, _, _, _]) (fks_ints .i64 [_, 0, 0, 0, 0, 0, 0, 0, 0])) ?_
    refine Reg.pur rfl rfl rfl rfl (Pur.asg rfl) ?_
    refine Reg.nil ?_
    refine At.ret rfl Try.func85 rfl ?_
    refine ⟨congrArg Value.bool ?_, by first | exact hE5 | exact hn1.ext.trans hE2 | exact hn1.ext.upd hu3 (Nat.le_refl _) | exact hn1.ext⟩
    try rw [eqs_ints]
    rw [Bool.eq_iff_iff]
    simp only [decide_eq_true_eq, decide_eq_false_iff_not, Bool.not_eq_true', Bool.not_eq_eq_eq_not, Bool.not_true, Bool.not_false] at *
    simp [nodM, eqs, eqv, *]
    try omega
  refine At.region rfl rfl ?_
  refine Reg.pur rfl rfl rfl rfl (Pur.asg rfl) ?_
  refine Reg.nil ?_
  refine At.ret rfl Try.func85 rfl ?_
  refine ⟨congrArg Value.bool ?_, by first | exact hE5 | exact hn1.ext.trans hE2 | exact hn1.ext.upd hu3 (Nat.le_refl _) | exact hn1.ext⟩
  try rw [eqs_ints]
  rw [Bool.eq_iff_iff]
  simp only [decide_eq_true_eq, decide_eq_false_iff_not, Bool.not_eq_true', Bool.not_eq_eq_eq_not, Bool.not_true, Bool.not_false] at *
  simp [nodM, eqs, eqv, *]
  try omega
end Go.Proofs.Ytlfillhffpiffaa

namespace Go.Proofs.Ytlfillhffpiffaa
set_option linter.unusedSimpArgs false
set_option linter.unusedVariables false
set_option maxRecDepth 8000
open Go Go.Fx Go.Proofs
namespace FactsTypC
theorem es23 : esz Try.prog 23 = some 9 := by kernel_rfl
theorem fo47_0 : foff Try.prog 47 0 = some 0 := by kernel_rfl
theorem fo47_2 : foff Try.prog 47 2 = some 2 := by kernel_rfl
theorem fo47_3 : foff Try.prog 47 3 = some 3 := by kernel_rfl
theorem sc3 : sc Try.prog 3 = true := by kernel_rfl
end FactsTypC
open FactsTypC

abbrev el (L : List (List Int)) (i : Int) : List Int := L.getD i.toNat []
abbrev Nine (L : List (List Int)) : Prop := ∀ x ∈ L, x.length = 9
theorem wide9 {L : List (List Int)} (h : Nine L) : Wide Is 9 L := fun x hx => by simp [Is, h x hx]
def bgn (L : List (List Int)) : Nat → Int → Int
  | 0, _ => -1
  | f + 1, z => if (el L z).getD 0 0 ≠ 3 then z else if z = 0 ∨ (el L z).getD 3 0 ≠ z - 1 then -1 else
    if bgn L f ((el L z).getD 3 0) < 1 ∨ (el L z).getD 2 0 ≠ bgn L f ((el L z).getD 3 0) - 1 then -1 else bgn L f ((el L z).getD 2 0)
theorem bgn_succ (L : List (List Int)) (f : Nat) (z : Int) : bgn L (f + 1) z = if (el L z).getD 0 0 ≠ 3 then z else if z = 0 ∨ (el L z).getD 3 0 ≠ z - 1 then -1 else
    if bgn L f ((el L z).getD 3 0) < 1 ∨ (el L z).getD 2 0 ≠ bgn L f ((el L z).getD 3 0) - 1 then -1 else bgn L f ((el L z).getD 2 0) := rfl
theorem bgn_le (L : List (List Int)) : ∀ (f : Nat) (z : Int), 0 ≤ z → bgn L f z ≤ z
  | 0, z, h => by simp only [bgn]; omega
  | f + 1, z, h => by
    rw [bgn_succ]
    split
    · omega
    · split
      · omega
      · split
        · omega
        · rename_i h1 h2 h3
          have e1 := bgn_le L f ((el L z).getD 3 0) (by omega)
          have e2 := bgn_le L f ((el L z).getD 2 0) (by omega)
          omega

theorem el_cells {L : List (List Int)} (hL : Nine L) {H : Heap} {A : Option Addr} {cap : Nat} (hS : SlT H Is 9 (.slice A L.length cap) L) {z : Int} (h0 : 0 ≤ z) (h1 : z < L.length) :
    ∃ b o c, A = some ⟨b, o, none⟩ ∧ Blk H b c ∧ (c.drop (o + z.toNat * 9)).take 9 = Is (el L z) ∧ (el L z).length = 9 ∧ ∀ j, j < 9 → c[o + z.toNat * 9 + j]? = some (I ((el L z).getD j 0)) := by
  have hzn : z.toNat < L.length := by omega
  obtain ⟨b, o, c, h2, h3, h4, h5⟩ := sl_at (wide9 hL) hS hzn
  have hel : el L z = L[z.toNat] := by simp [el, List.getD_eq_getElem?_getD, List.getElem?_eq_getElem hzn]
  have h9 : (el L z).length = 9 := by rw [hel]; exact hL _ (List.getElem_mem hzn)
  rw [← hel] at h4
  exact ⟨b, o, c, h2, h3, h4, h9, fun j hj => at_tk h4 hj (at_Is (by omega))⟩

theorem begin_ok {A : Option Addr} {cap : Nat} (L : List (List Int)) (hL : Nine L) {H : Heap} (hS : SlT H Is 9 (.slice A L.length cap) L) (hm : L.length ≤ 9223372036854775807) : ∀ (f : Nat) (z : Int), 0 ≤ z → z < L.length → z.toNat < f →
    Ret Try.prog 86 [.slice A L.length cap, I z] H (fun v H' => v = I (bgn L f z) ∧ H' = H) := by
  intro f
  induction f with
  | zero => intro z _ _ h; omega
  | succ f ihf =>
  intro z hz0 hzl hzf
  obtain ⟨b0, o0, c0, rfl, hb0, hbd, hx9, hat⟩ := el_cells hL hS hz0 hzl
  have hfin := bgn_succ L f z
  generalize el L z = x at hfin hbd hx9 hat
  refine Ret.of_at (N := 50) Try.call86 Try.func86 rfl rfl rfl ?_
  refine At.region rfl rfl ?_
  refine Reg.pur rfl rfl rfl rfl (Pur.asg rfl) ?_
  refine Reg.nil ?_
  refine At.region rfl rfl ?_
  refine Reg.pur rfl rfl rfl rfl (Pur.mv rfl) ?_
  refine Reg.pur rfl rfl rfl rfl (Pur.mv rfl) ?_
  refine Reg.pur rfl rfl rfl rfl (Pur.idx _ es23 rfl rfl (by omega) (by omega)) ?_
  refine Reg.pur rfl rfl rfl rfl (Pur.asg rfl) ?_
  refine Reg.nil ?_
  refine At.region rfl rfl ?_
  refine Reg.pur rfl rfl rfl rfl (Pur.mv rfl) ?_
  refine Reg.pur rfl rfl rfl rfl (Pur.nilc rfl) ?_
  refine Reg.pur rfl rfl rfl rfl (Pur.fld _ fo47_0 rfl) ?_
  refine Reg.lod rfl rfl rfl rfl (Lod.ld sc3 rfl hb0 (hat 0 (by omega))) ?_
  refine Reg.pur rfl rfl rfl rfl (Pur.neq rfl rfl) ?_
  refine Reg.nil ?_
  refine At.cond rfl rfl (fun hb1 => ?_) (fun hb1 => ?_)
  · refine At.region rfl rfl ?_
    refine Reg.pur rfl rfl rfl rfl (Pur.mv rfl) ?_
    refine Reg.pur rfl rfl rfl rfl (Pur.asg rfl) ?_
    refine Reg.nil ?_
    refine At.ret rfl Try.func86 rfl ?_
    refine ⟨congrArg I ?_, rfl⟩
    try simp only [decide_eq_true_eq, decide_eq_false_iff_not] at *
    rw [hfin]
    first | (rw [if_pos (by omega)]; done) | (rw [if_neg (by omega), if_pos (by omega)]; done) | (rw [if_neg (by omega), if_neg (by omega), if_pos (by omega)]; done) | (rw [if_neg (by omega), if_neg (by omega), if_neg (by omega)]; done)
  refine At.region rfl rfl ?_
  refine Reg.pur rfl rfl rfl rfl (Pur.mv rfl) ?_
  refine Reg.pur rfl rfl rfl rfl (Pur.eql rfl rfl) ?_
  refine Reg.pur rfl rfl rfl rfl (Pur.mv rfl) ?_
  refine Reg.case 18 rfl (fun hc2 => ?_) (fun hc2 => ?_)
  · refine Reg.skip rfl rfl rfl rfl rfl rfl rfl ?_
    refine Reg.skip rfl rfl rfl rfl rfl rfl rfl ?_
    refine Reg.skip rfl rfl rfl rfl rfl rfl rfl ?_
    refine Reg.skip rfl rfl rfl rfl rfl rfl rfl ?_
    refine Reg.skip rfl rfl rfl rfl rfl rfl rfl ?_
    refine Reg.skip rfl rfl rfl rfl rfl rfl rfl ?_
    refine Reg.skip rfl rfl rfl rfl rfl rfl rfl ?_
    refine Reg.pur rfl rfl rfl rfl (Pur.pickT rfl rfl) ?_
    refine Reg.nil ?_
    refine At.condT rfl rfl rfl ?_
    refine At.region rfl rfl ?_
    refine Reg.pur rfl rfl rfl rfl (Pur.asg rfl) ?_
    refine Reg.nil ?_
    refine At.ret rfl Try.func86 rfl ?_
    refine ⟨congrArg I ?_, rfl⟩
    try simp only [decide_eq_true_eq, decide_eq_false_iff_not] at *
    rw [hfin]
    first | (rw [if_pos (by omega)]; done) | (rw [if_neg (by omega), if_pos (by omega)]; done) | (rw [if_neg (by omega), if_neg (by omega), if_pos (by omega)]; done) | (rw [if_neg (by omega), if_neg (by omega), if_neg (by omega)]; done)
  refine Reg.gpur rfl rfl rfl rfl rfl rfl (Pur.mv rfl) ?_
  refine Reg.gpur rfl rfl rfl rfl rfl rfl (Pur.nilc rfl) ?_
  refine Reg.gpur rfl rfl rfl rfl rfl rfl (Pur.fld _ fo47_3 rfl) ?_
  refine Reg.glod rfl rfl rfl rfl rfl rfl (Lod.ld sc3 rfl hb0 (hat 3 (by omega))) ?_
  refine Reg.gpur rfl rfl rfl rfl rfl rfl (Pur.mv rfl) ?_
  first | refine Reg.gpur rfl rfl rfl rfl rfl rfl (Pur.sub64 rfl rfl (by omega)) ?_ | refine Reg.gpur rfl rfl rfl rfl rfl rfl (Pur.sub64 rfl rfl (by assumption)) ?_ | refine Reg.gpur rfl rfl rfl rfl rfl rfl (Pur.sub rfl rfl) ?_
  refine Reg.gpur rfl rfl rfl rfl rfl rfl (Pur.neq rfl rfl) ?_
  refine Reg.pur rfl rfl rfl rfl (Pur.pickF rfl rfl) ?_
  refine Reg.nil ?_
  refine At.cond rfl rfl (fun hb3 => ?_) (fun hb3 => ?_)
  · refine At.region rfl rfl ?_
    refine Reg.pur rfl rfl rfl rfl (Pur.asg rfl) ?_
    refine Reg.nil ?_
    refine At.ret rfl Try.func86 rfl ?_
    refine ⟨congrArg I ?_, rfl⟩
    try simp only [decide_eq_true_eq, decide_eq_false_iff_not] at *
    rw [hfin]
    first | (rw [if_pos (by omega)]; done) | (rw [if_neg (by omega), if_pos (by omega)]; done) | (rw [if_neg (by omega), if_neg (by omega), if_pos (by omega)]; done) | (rw [if_neg (by omega), if_neg (by omega), if_neg (by omega)]; done)
  simp only [decide_eq_true_eq, decide_eq_false_iff_not] at *
  have hle := bgn_le L f (x.getD 3 0) (by omega)
  refine At.region rfl rfl ?_
  refine Reg.pur rfl rfl rfl rfl (Pur.mv rfl) ?_
  refine Reg.pur rfl rfl rfl rfl (Pur.mv rfl) ?_
  refine Reg.pur rfl rfl rfl rfl (Pur.nilc rfl) ?_
  refine Reg.pur rfl rfl rfl rfl (Pur.fld _ fo47_3 rfl) ?_
  refine Reg.lod rfl rfl rfl rfl (Lod.ld sc3 rfl hb0 (hat 3 (by omega))) ?_
  refine Reg.op rfl rfl rfl rfl (Does.call rfl (ihf (x.getD 3 0) (by omega) (by omega) (by omega))) ?_
  rintro _ H ⟨rfl, rfl⟩
  refine Reg.pur rfl rfl rfl rfl (Pur.asg rfl) ?_
  refine Reg.nil ?_
  refine At.region rfl rfl ?_
  refine Reg.pur rfl rfl rfl rfl (Pur.mv rfl) ?_
  refine Reg.pur rfl rfl rfl rfl (Pur.lss rfl rfl) ?_
  refine Reg.pur rfl rfl rfl rfl (Pur.mv rfl) ?_
  refine Reg.case 35 rfl (fun hc4 => ?_) (fun hc4 => ?_)
  · refine Reg.skip rfl rfl rfl rfl rfl rfl rfl ?_
    refine Reg.skip rfl rfl rfl rfl rfl rfl rfl ?_
    refine Reg.skip rfl rfl rfl rfl rfl rfl rfl ?_
    refine Reg.skip rfl rfl rfl rfl rfl rfl rfl ?_
    refine Reg.skip rfl rfl rfl rfl rfl rfl rfl ?_
    try simp only [decide_eq_false_iff_not] at hc4
    refine Reg.skip rfl rfl rfl rfl rfl rfl rfl ?_
    refine Reg.skip rfl rfl rfl rfl rfl rfl rfl ?_
    refine Reg.pur rfl rfl rfl rfl (Pur.pickT rfl rfl) ?_
    refine Reg.nil ?_
    refine At.condT rfl rfl rfl ?_
    refine At.region rfl rfl ?_
    refine Reg.pur rfl rfl rfl rfl (Pur.asg rfl) ?_
    refine Reg.nil ?_
    refine At.ret rfl Try.func86 rfl ?_
    refine ⟨congrArg I ?_, rfl⟩
    try simp only [decide_eq_true_eq, decide_eq_false_iff_not] at *
    rw [hfin]
    first | (rw [if_pos (by omega)]; done) | (rw [if_neg (by omega), if_pos (by omega)]; done) | (rw [if_neg (by omega), if_neg (by omega), if_pos (by omega)]; done) | (rw [if_neg (by omega), if_neg (by omega), if_neg (by omega)]; done)
  refine Reg.gpur rfl rfl rfl rfl rfl rfl (Pur.mv rfl) ?_
  refine Reg.gpur rfl rfl rfl rfl rfl rfl (Pur.nilc rfl) ?_
  refine Reg.gpur rfl rfl rfl rfl rfl rfl (Pur.fld _ fo47_2 rfl) ?_
  refine Reg.glod rfl rfl rfl rfl rfl rfl (Lod.ld sc3 rfl hb0 (hat 2 (by omega))) ?_
  refine Reg.gpur rfl rfl rfl rfl rfl rfl (Pur.mv rfl) ?_
  try simp only [decide_eq_false_iff_not] at hc4
  first | refine Reg.gpur rfl rfl rfl rfl rfl rfl (Pur.sub64 rfl rfl (by omega)) ?_ | refine Reg.gpur rfl rfl rfl rfl rfl rfl (Pur.sub64 rfl rfl (by assumption)) ?_ | refine Reg.gpur rfl rfl rfl rfl rfl rfl (Pur.sub rfl rfl) ?_
  refine Reg.gpur rfl rfl rfl rfl rfl rfl (Pur.neq rfl rfl) ?_
  refine Reg.pur rfl rfl rfl rfl (Pur.pickF rfl rfl) ?_
  refine Reg.nil ?_
  refine At.cond rfl rfl (fun hb5 => ?_) (fun hb5 => ?_)
  · refine At.region rfl rfl ?_
    refine Reg.pur rfl rfl rfl rfl (Pur.asg rfl) ?_
    refine Reg.nil ?_
    refine At.ret rfl Try.func86 rfl ?_
    refine ⟨congrArg I ?_, rfl⟩
    try simp only [decide_eq_true_eq, decide_eq_false_iff_not] at *
    rw [hfin]
    first | (rw [if_pos (by omega)]; done) | (rw [if_neg (by omega), if_pos (by omega)]; done) | (rw [if_neg (by omega), if_neg (by omega), if_pos (by omega)]; done) | (rw [if_neg (by omega), if_neg (by omega), if_neg (by omega)]; done)
  try simp only [decide_eq_true_eq, decide_eq_false_iff_not] at *
  refine At.region rfl rfl ?_
  refine Reg.pur rfl rfl rfl rfl (Pur.mv rfl) ?_
  refine Reg.pur rfl rfl rfl rfl (Pur.mv rfl) ?_
  refine Reg.pur rfl rfl rfl rfl (Pur.nilc rfl) ?_
  refine Reg.pur rfl rfl rfl rfl (Pur.fld _ fo47_2 rfl) ?_
  refine Reg.lod rfl rfl rfl rfl (Lod.ld sc3 rfl hb0 (hat 2 (by omega))) ?_
  refine Reg.op rfl rfl rfl rfl (Does.call rfl (ihf (x.getD 2 0) (by omega) (by omega) (by omega))) ?_
  rintro _ H ⟨rfl, rfl⟩
  refine Reg.pur rfl rfl rfl rfl (Pur.asg rfl) ?_
  refine Reg.nil ?_
  refine At.ret rfl Try.func86 rfl ?_
  refine ⟨congrArg I ?_, rfl⟩
  try simp only [decide_eq_true_eq, decide_eq_false_iff_not] at *
  rw [hfin]
  first | (rw [if_pos (by omega)]; done) | (rw [if_neg (by omega), if_pos (by omega)]; done) | (rw [if_neg (by omega), if_neg (by omega), if_pos (by omega)]; done) | (rw [if_neg (by omega), if_neg (by omega), if_neg (by omega)]; done)

theorem beginR_ok {A : Option Addr} {cap : Nat} (L : List (List Int)) (hL : Nine L) {H : Heap} (hS : SlT H Is 9 (.slice A L.length cap) L) (hm : L.length ≤ 9223372036854775807) : ∀ (f : Nat) (z : Int), 0 ≤ z → z < L.length → z.toNat < f →
    Ret Try.prog 74 [.slice A L.length cap, I z] H (fun v H' => v = I (bgn L f z) ∧ H' = H) := by
  intro f
  induction f with
  | zero => intro z _ _ h; omega
  | succ f ihf =>
  intro z hz0 hzl hzf
  obtain ⟨b0, o0, c0, rfl, hb0, hbd, hx9, hat⟩ := el_cells hL hS hz0 hzl
  have hfin := bgn_succ L f z
  generalize el L z = x at hfin hbd hx9 hat
  refine Ret.of_at (N := 49) Try.call74 Try.func74 rfl rfl rfl ?_
  refine At.region rfl rfl ?_
  refine Reg.pur rfl rfl rfl rfl (Pur.asg rfl) ?_
  refine Reg.nil ?_
  refine At.region rfl rfl ?_
  refine Reg.pur rfl rfl rfl rfl (Pur.mv rfl) ?_
  refine Reg.pur rfl rfl rfl rfl (Pur.mv rfl) ?_
  refine Reg.pur rfl rfl rfl rfl (Pur.idx _ es23 rfl rfl (by omega) (by omega)) ?_
  refine Reg.pur rfl rfl rfl rfl (Pur.fld _ fo47_0 rfl) ?_
  refine Reg.lod rfl rfl rfl rfl (Lod.ld sc3 rfl hb0 (hat 0 (by omega))) ?_
  refine Reg.pur rfl rfl rfl rfl (Pur.neq rfl rfl) ?_
  refine Reg.nil ?_
  refine At.cond rfl rfl (fun hb1 => ?_) (fun hb1 => ?_)
  · refine At.region rfl rfl ?_
    refine Reg.pur rfl rfl rfl rfl (Pur.mv rfl) ?_
    refine Reg.pur rfl rfl rfl rfl (Pur.asg rfl) ?_
    refine Reg.nil ?_
    refine At.ret rfl Try.func74 rfl ?_
    refine ⟨congrArg I ?_, rfl⟩
    try simp only [decide_eq_true_eq, decide_eq_false_iff_not] at *
    rw [hfin]
    first | (rw [if_pos (by omega)]; done) | (rw [if_neg (by omega), if_pos (by omega)]; done) | (rw [if_neg (by omega), if_neg (by omega), if_pos (by omega)]; done) | (rw [if_neg (by omega), if_neg (by omega), if_neg (by omega)]; done)
  refine At.region rfl rfl ?_
  refine Reg.pur rfl rfl rfl rfl (Pur.mv rfl) ?_
  refine Reg.pur rfl rfl rfl rfl (Pur.mv rfl) ?_
  refine Reg.pur rfl rfl rfl rfl (Pur.idx _ es23 rfl rfl (by omega) (by omega)) ?_
  refine Reg.pur rfl rfl rfl rfl (Pur.fld _ fo47_3 rfl) ?_
  refine Reg.lod rfl rfl rfl rfl (Lod.ld sc3 rfl hb0 (hat 3 (by omega))) ?_
  refine Reg.pur rfl rfl rfl rfl (Pur.asg rfl) ?_
  refine Reg.nil ?_
  refine At.region rfl rfl ?_
  refine Reg.pur rfl rfl rfl rfl (Pur.mv rfl) ?_
  refine Reg.pur rfl rfl rfl rfl (Pur.mv rfl) ?_
  first | refine Reg.pur rfl rfl rfl rfl (Pur.sub64 rfl rfl (by omega)) ?_ | refine Reg.pur rfl rfl rfl rfl (Pur.sub64 rfl rfl (by assumption)) ?_ | refine Reg.pur rfl rfl rfl rfl (Pur.sub rfl rfl) ?_
  refine Reg.pur rfl rfl rfl rfl (Pur.neq rfl rfl) ?_
  refine Reg.pur rfl rfl rfl rfl (Pur.mv rfl) ?_
  refine Reg.case 23 rfl (fun hc2 => ?_) (fun hc2 => ?_)
  · refine Reg.skip rfl rfl rfl rfl rfl rfl rfl ?_
    refine Reg.skip rfl rfl rfl rfl rfl rfl rfl ?_
    refine Reg.pur rfl rfl rfl rfl (Pur.pickT rfl rfl) ?_
    refine Reg.nil ?_
    refine At.condT rfl rfl rfl ?_
    refine At.region rfl rfl ?_
    refine Reg.pur rfl rfl rfl rfl (Pur.asg rfl) ?_
    refine Reg.nil ?_
    refine At.ret rfl Try.func74 rfl ?_
    refine ⟨congrArg I ?_, rfl⟩
    try simp only [decide_eq_true_eq, decide_eq_false_iff_not] at *
    rw [hfin]
    first | (rw [if_pos (by omega)]; done) | (rw [if_neg (by omega), if_pos (by omega)]; done) | (rw [if_neg (by omega), if_neg (by omega), if_pos (by omega)]; done) | (rw [if_neg (by omega), if_neg (by omega), if_neg (by omega)]; done)
  refine Reg.gpur rfl rfl rfl rfl rfl rfl (Pur.mv rfl) ?_
  refine Reg.gpur rfl rfl rfl rfl rfl rfl (Pur.lss rfl rfl) ?_
  refine Reg.pur rfl rfl rfl rfl (Pur.pickF rfl rfl) ?_
  refine Reg.nil ?_
  refine At.cond rfl rfl (fun hb3 => ?_) (fun hb3 => ?_)
  · refine At.region rfl rfl ?_
    refine Reg.pur rfl rfl rfl rfl (Pur.asg rfl) ?_
    refine Reg.nil ?_
    refine At.ret rfl Try.func74 rfl ?_
    refine ⟨congrArg I ?_, rfl⟩
    try simp only [decide_eq_true_eq, decide_eq_false_iff_not] at *
    rw [hfin]
    first | (rw [if_pos (by omega)]; done) | (rw [if_neg (by omega), if_pos (by omega)]; done) | (rw [if_neg (by omega), if_neg (by omega), if_pos (by omega)]; done) | (rw [if_neg (by omega), if_neg (by omega), if_neg (by omega)]; done)
  simp only [decide_eq_true_eq, decide_eq_false_iff_not] at *
  have hle := bgn_le L f (x.getD 3 0) (by omega)
  refine At.region rfl rfl ?_
  refine Reg.pur rfl rfl rfl rfl (Pur.mv rfl) ?_
  refine Reg.pur rfl rfl rfl rfl (Pur.mv rfl) ?_
  refine Reg.op rfl rfl rfl rfl (Does.call rfl (ihf (x.getD 3 0) (by omega) (by omega) (by omega))) ?_
  rintro _ H ⟨rfl, rfl⟩
  refine Reg.pur rfl rfl rfl rfl (Pur.asg rfl) ?_
  refine Reg.nil ?_
  refine At.region rfl rfl ?_
  refine Reg.pur rfl rfl rfl rfl (Pur.mv rfl) ?_
  refine Reg.pur rfl rfl rfl rfl (Pur.lss rfl rfl) ?_
  refine Reg.pur rfl rfl rfl rfl (Pur.mv rfl) ?_
  refine Reg.case 32 rfl (fun hc4 => ?_) (fun hc4 => ?_)
  · refine Reg.skip rfl rfl rfl rfl rfl rfl rfl ?_
    refine Reg.skip rfl rfl rfl rfl rfl rfl rfl ?_
    refine Reg.skip rfl rfl rfl rfl rfl rfl rfl ?_
    refine Reg.skip rfl rfl rfl rfl rfl rfl rfl ?_
    refine Reg.skip rfl rfl rfl rfl rfl rfl rfl ?_
    refine Reg.skip rfl rfl rfl rfl rfl rfl rfl ?_
    try simp only [decide_eq_false_iff_not] at hc4
    refine Reg.skip rfl rfl rfl rfl rfl rfl rfl ?_
    refine Reg.skip rfl rfl rfl rfl rfl rfl rfl ?_
    refine Reg.pur rfl rfl rfl rfl (Pur.pickT rfl rfl) ?_
    refine Reg.nil ?_
    refine At.condT rfl rfl rfl ?_
    refine At.region rfl rfl ?_
    refine Reg.pur rfl rfl rfl rfl (Pur.asg rfl) ?_
    refine Reg.nil ?_
    refine At.ret rfl Try.func74 rfl ?_
    refine ⟨congrArg I ?_, rfl⟩
    try simp only [decide_eq_true_eq, decide_eq_false_iff_not] at *
    rw [hfin]
    first | (rw [if_pos (by omega)]; done) | (rw [if_neg (by omega), if_pos (by omega)]; done) | (rw [if_neg (by omega), if_neg (by omega), if_pos (by omega)]; done) | (rw [if_neg (by omega), if_neg (by omega), if_neg (by omega)]; done)
  refine Reg.gpur rfl rfl rfl rfl rfl rfl (Pur.mv rfl) ?_
  refine Reg.gpur rfl rfl rfl rfl rfl rfl (Pur.mv rfl) ?_
  refine Reg.gpur rfl rfl rfl rfl rfl rfl (Pur.idx _ es23 rfl rfl (by omega) (by omega)) ?_
  refine Reg.gpur rfl rfl rfl rfl rfl rfl (Pur.fld _ fo47_2 rfl) ?_
  refine Reg.glod rfl rfl rfl rfl rfl rfl (Lod.ld sc3 rfl hb0 (hat 2 (by omega))) ?_
  refine Reg.gpur rfl rfl rfl rfl rfl rfl (Pur.mv rfl) ?_
  try simp only [decide_eq_false_iff_not] at hc4
  first | refine Reg.gpur rfl rfl rfl rfl rfl rfl (Pur.sub64 rfl rfl (by omega)) ?_ | refine Reg.gpur rfl rfl rfl rfl rfl rfl (Pur.sub64 rfl rfl (by assumption)) ?_ | refine Reg.gpur rfl rfl rfl rfl rfl rfl (Pur.sub rfl rfl) ?_
  refine Reg.gpur rfl rfl rfl rfl rfl rfl (Pur.neq rfl rfl) ?_
  refine Reg.pur rfl rfl rfl rfl (Pur.pickF rfl rfl) ?_
  refine Reg.nil ?_
  refine At.cond rfl rfl (fun hb5 => ?_) (fun hb5 => ?_)
  · refine At.region rfl rfl ?_
    refine Reg.pur rfl rfl rfl rfl (Pur.asg rfl) ?_
    refine Reg.nil ?_
    refine At.ret rfl Try.func74 rfl ?_
    refine ⟨congrArg I ?_, rfl⟩
    try simp only [decide_eq_true_eq, decide_eq_false_iff_not] at *
    rw [hfin]
    first | (rw [if_pos (by omega)]; done) | (rw [if_neg (by omega), if_pos (by omega)]; done) | (rw [if_neg (by omega), if_neg (by omega), if_pos (by omega)]; done) | (rw [if_neg (by omega), if_neg (by omega), if_neg (by omega)]; done)
  try simp only [decide_eq_true_eq, decide_eq_false_iff_not] at *
  refine At.region rfl rfl ?_
  refine Reg.pur rfl rfl rfl rfl (Pur.mv rfl) ?_
  refine Reg.pur rfl rfl rfl rfl (Pur.mv rfl) ?_
  refine Reg.pur rfl rfl rfl rfl (Pur.mv rfl) ?_
  refine Reg.pur rfl rfl rfl rfl (Pur.idx _ es23 rfl rfl (by omega) (by omega)) ?_
  refine Reg.pur rfl rfl rfl rfl (Pur.fld _ fo47_2 rfl) ?_
  refine Reg.lod rfl rfl rfl rfl (Lod.ld sc3 rfl hb0 (hat 2 (by omega))) ?_
  refine Reg.op rfl rfl rfl rfl (Does.call rfl (ihf (x.getD 2 0) (by omega) (by omega) (by omega))) ?_
  rintro _ H ⟨rfl, rfl⟩
  refine Reg.pur rfl rfl rfl rfl (Pur.asg rfl) ?_
  refine Reg.nil ?_
  refine At.ret rfl Try.func74 rfl ?_
  refine ⟨congrArg I ?_, rfl⟩
  try simp only [decide_eq_true_eq, decide_eq_false_iff_not] at *
  rw [hfin]
  first | (rw [if_pos (by omega)]; done) | (rw [if_neg (by omega), if_pos (by omega)]; done) | (rw [if_neg (by omega), if_neg (by omega), if_pos (by omega)]; done) | (rw [if_neg (by omega), if_neg (by omega), if_neg (by omega)]; done)
end Go.Proofs.Ytlfillhffpiffaa

namespace Go.Proofs.Ytlfillhffpiffaa
set_option linter.unusedSimpArgs false
set_option linter.unusedVariables false
set_option maxRecDepth 8000
open Go Go.Fx Go.Proofs
namespace FactsTypD
theorem ag28 : ag Try.prog 28 = some 5 := by kernel_rfl
theorem ag47 : ag Try.prog 47 = some 9 := by kernel_rfl
theorem eqt47 : eqT Try.prog 47 = some [.int .i64, .int .i64, .int .i64, .int .i64, .int .i64, .int .i64, .int .i64, .int .i64, .int .i64] := by kernel_rfl
theorem es23 : esz Try.prog 23 = some 9 := by kernel_rfl
theorem fo25_0 : foff Try.prog 25 0 = some 0 := by kernel_rfl
theorem fo47_0 : foff Try.prog 47 0 = some 0 := by kernel_rfl
theorem fo47_1 : foff Try.prog 47 1 = some 1 := by kernel_rfl
theorem fo47_2 : foff Try.prog 47 2 = some 2 := by kernel_rfl
theorem fo47_3 : foff Try.prog 47 3 = some 3 := by kernel_rfl
theorem fo47_4 : foff Try.prog 47 4 = some 4 := by kernel_rfl
theorem isl23 : isSl Try.prog 23 = true := by kernel_rfl
theorem pl47 : places Try.prog 47 = some [(0, 1), (1, 1), (2, 1), (3, 1), (4, 5)] := by kernel_rfl
theorem sc23 : sc Try.prog 23 = true := by kernel_rfl
theorem sc3 : sc Try.prog 3 = true := by kernel_rfl
theorem zc47 : zc Try.prog 47 = some [.int .i64 0, .int .i64 0, .int .i64 0, .int .i64 0, .int .i64 0, .int .i64 0, .int .i64 0, .int .i64 0, .int .i64 0] := by kernel_rfl
end FactsTypD
open FactsTypD

theorem nodMay_ok9 {x : List Int} (hx : x.length = 9) (H : Heap) : Ret Try.prog 85 [.agg (Is x).toArray] H (fun r H' => r = .bool (nodM x) ∧ Ext H H') := by
  match x, hx with
  | [k, v, a, b, c, d, e, f, t], _ => exact nodMay_ok k v a b c d e f t H
def typM (L : List (List Int)) : Bool := decide (1 ≤ L.length ∧ L.length ≤ 256) && L.all nodM && decide (bgn L L.length ((L.length : Int) - 1) = 0)
abbrev Ty (A : Option Addr) (len cap : Nat) : Value := .agg #[.slice A len cap]

theorem typMay_ok {A : Option Addr} {cap : Nat} (L : List (List Int)) (hL : Nine L) {H : Heap} (hS : SlT H Is 9 (.slice A L.length cap) L) (hm : L.length ≤ 9223372036854775807) :
    Ret Try.prog 54 [Ty A L.length cap] H (fun v H' => v = .bool (typM L) ∧ Ext H H') := by
  refine Ret.of_at (N := 32) Try.call54 Try.func54 rfl rfl rfl ?_
  refine At.region rfl rfl ?_
  refine Reg.op rfl rfl rfl rfl (Does.box rfl rfl) ?_
  rintro _ H1 ⟨rfl, hn1⟩
  refine Reg.pur rfl rfl rfl rfl (Pur.asg rfl) ?_
  refine Reg.nil ?_
  have hB := hn1.own.blk
  have hS1 := hS.ext hn1.ext
  refine At.region rfl rfl ?_
  refine Reg.pur rfl rfl rfl rfl (Pur.fld _ fo25_0 rfl) ?_
  refine Reg.lod rfl rfl rfl rfl (Lod.ld sc23 rfl hB rfl) ?_
  refine Reg.pur rfl rfl rfl rfl (Pur.lenS isl23 rfl) ?_
  refine Reg.pur rfl rfl rfl rfl (Pur.asg rfl) ?_
  refine Reg.nil ?_
  refine At.region rfl rfl ?_
  refine Reg.pur rfl rfl rfl rfl (Pur.mv rfl) ?_
  refine Reg.pur rfl rfl rfl rfl (Pur.lss rfl rfl) ?_
  refine Reg.pur rfl rfl rfl rfl (Pur.mv rfl) ?_
  refine Reg.case 11 rfl (fun hc1 => ?_) (fun hc1 => ?_)
  · refine Reg.skip rfl rfl rfl rfl rfl rfl rfl ?_
    refine Reg.skip rfl rfl rfl rfl rfl rfl rfl ?_
    refine Reg.pur rfl rfl rfl rfl (Pur.pickT rfl rfl) ?_
    refine Reg.nil ?_
    refine At.condT rfl rfl rfl ?_
    refine At.region rfl rfl ?_
    refine Reg.pur rfl rfl rfl rfl (Pur.asg rfl) ?_
    refine Reg.nil ?_
    refine At.ret rfl Try.func54 rfl ?_
    first | exact ⟨congrArg Value.bool (by unfold typM; simp only [decide_eq_true_eq] at *; rw [decide_eq_false (by omega)]; rfl), hn1.ext⟩ | exact ⟨congrArg Value.bool (by unfold typM; rw [all_of_take hlt (by simpa using hb4)]; simp), hn1.ext.trans (hE.trans (hE4.trans hE5))⟩ | exact ⟨congrArg Value.bool (by simp only [decide_eq_false_iff_not] at *; rw [List.take_of_length_le (by omega)] at hgo; unfold typM; rw [hgo, decide_eq_true (p := 1 ≤ L.length ∧ L.length ≤ 256) (by omega)]; rfl), hn1.ext.trans hE⟩
  refine Reg.gpur rfl rfl rfl rfl rfl rfl (Pur.mv rfl) ?_
  refine Reg.gpur rfl rfl rfl rfl rfl rfl (Pur.gtr rfl rfl) ?_
  refine Reg.pur rfl rfl rfl rfl (Pur.pickF rfl rfl) ?_
  refine Reg.nil ?_
  refine At.cond rfl rfl (fun hb2 => ?_) (fun hb2 => ?_)
  · refine At.region rfl rfl ?_
    refine Reg.pur rfl rfl rfl rfl (Pur.asg rfl) ?_
    refine Reg.nil ?_
    refine At.ret rfl Try.func54 rfl ?_
    first | exact ⟨congrArg Value.bool (by unfold typM; simp only [decide_eq_true_eq] at *; rw [decide_eq_false (by omega)]; rfl), hn1.ext⟩ | exact ⟨congrArg Value.bool (by unfold typM; rw [all_of_take hlt (by simpa using hb4)]; simp), hn1.ext.trans (hE.trans (hE4.trans hE5))⟩ | exact ⟨congrArg Value.bool (by simp only [decide_eq_false_iff_not] at *; rw [List.take_of_length_le (by omega)] at hgo; unfold typM; rw [hgo, decide_eq_true (p := 1 ≤ L.length ∧ L.length ≤ 256) (by omega)]; rfl), hn1.ext.trans hE⟩
  refine At.region rfl rfl ?_
  refine Reg.pur rfl rfl rfl rfl (Pur.fld _ fo25_0 rfl) ?_
  refine Reg.lod rfl rfl rfl rfl (Lod.ld sc23 rfl hB rfl) ?_
  refine Reg.pur rfl rfl rfl rfl (Pur.lenS isl23 rfl) ?_
  refine Reg.pur rfl rfl rfl rfl (Pur.mv rfl) ?_
  refine Reg.nil ?_
  refine At.loop (σ := Nat) (fun i => [(18, I i), (17, I L.length), (16, .slice A L.length cap), (1, ptr H.size 0), (3, I L.length)]) (fun i H' => i ≤ L.length ∧ Ext H1 H' ∧ (L.take i).all nodM = true) (fun i => L.length - i) 0 rfl ⟨rfl, rfl, rfl, rfl, rfl, trivial⟩ ⟨by omega, Ext.refl _, rfl⟩ ?_
  rintro i H2 ⟨hi, hE, hgo⟩ ih
  refine At.region rfl rfl ?_
  refine Reg.pur rfl rfl rfl rfl (Pur.lss rfl rfl) ?_
  refine Reg.nil ?_
  refine At.cond rfl rfl (fun hb3 => ?_) (fun hb3 => ?_)
  · simp only [decide_eq_true_eq] at hb3
    have hlt : i < L.length := by omega
    obtain ⟨b, o, c, rfl, hB2, hd, h9⟩ := sl_at (wide9 hL) (hS1.ext hE) hlt
    have h9' := hL _ (List.getElem_mem hlt)
    refine At.region rfl rfl ?_
    refine Reg.pur rfl rfl rfl rfl (Pur.idx _ es23 rfl rfl (by omega) hb3) ?_
    refine Reg.lod rfl rfl rfl rfl (Lod.ldn ag47 rfl hB2 hd h9) ?_
    refine Reg.op rfl rfl rfl rfl (Does.alloc zc47) ?_
    rintro _ H3 ⟨rfl, hn3⟩
    refine Reg.op0 rfl rfl rfl (Does.stn ag47 rfl rfl (ones_Is _) h9 hn3.own (by decide)) ?_
    rintro _ H4 hu4
    refine Reg.nil ?_
    have hX : Own H4 H2.size (Is L[i]) := by have := hu4.own; rwa [over (by rfl)] at this
    have hE4 : Ext H2 H4 := hn3.ext.upd hu4 (Nat.le_refl _)
    refine At.region rfl rfl ?_
    refine Reg.lod rfl rfl rfl rfl (Lod.ldn ag47 rfl hX.blk (whole h9) h9) ?_
    refine Reg.op rfl rfl rfl rfl (Does.call rfl (nodMay_ok9 h9' _)) ?_
    rintro _ H5 ⟨rfl, hE5⟩
    refine Reg.pur rfl rfl rfl rfl (Pur.not rfl) ?_
    refine Reg.nil ?_
    refine At.cond rfl rfl (fun hb4 => ?_) (fun hb4 => ?_)
    · refine At.region rfl rfl ?_
      refine Reg.pur rfl rfl rfl rfl (Pur.asg rfl) ?_
      refine Reg.nil ?_
      refine At.ret rfl Try.func54 rfl ?_
      first | exact ⟨congrArg Value.bool (by unfold typM; simp only [decide_eq_true_eq] at *; rw [decide_eq_false (by omega)]; rfl), hn1.ext⟩ | exact ⟨congrArg Value.bool (by unfold typM; rw [all_of_take hlt (by simpa using hb4)]; simp), hn1.ext.trans (hE.trans (hE4.trans hE5))⟩ | exact ⟨congrArg Value.bool (by simp only [decide_eq_false_iff_not] at *; rw [List.take_of_length_le (by omega)] at hgo; unfold typM; rw [hgo, decide_eq_true (p := 1 ≤ L.length ∧ L.length ≤ 256) (by omega)]; rfl), hn1.ext.trans hE⟩
    refine At.region rfl rfl ?_
    first | refine Reg.pur rfl rfl rfl rfl (Pur.add64 rfl rfl (by omega)) ?_ | refine Reg.pur rfl rfl rfl rfl (Pur.add64 rfl rfl (by assumption)) ?_ | refine Reg.pur rfl rfl rfl rfl (Pur.add rfl rfl) ?_
    refine Reg.pur rfl rfl rfl rfl (Pur.mv rfl) ?_
    refine Reg.nil ?_
    refine At.via (ih (i + 1) H5 ⟨by omega, hE.trans (hE4.trans hE5), ?_⟩ (by omega)) ⟨rfl, rfl, rfl, rfl, rfl, trivial⟩
    rw [all_take hlt, hgo]; simpa using hb4
  have hlen : 1 ≤ L.length ∧ L.length ≤ 256 := by simp only [decide_eq_false_iff_not] at *; omega
  refine At.region rfl rfl ?_
  refine Reg.pur rfl rfl rfl rfl (Pur.fld _ fo25_0 rfl) ?_
  refine Reg.lod rfl rfl rfl rfl (Lod.ld sc23 rfl (hB.ext hE) rfl) ?_
  refine Reg.pur rfl rfl rfl rfl (Pur.mv rfl) ?_
  first | refine Reg.pur rfl rfl rfl rfl (Pur.sub64 rfl rfl (by omega)) ?_ | refine Reg.pur rfl rfl rfl rfl (Pur.sub64 rfl rfl (by assumption)) ?_ | refine Reg.pur rfl rfl rfl rfl (Pur.sub rfl rfl) ?_
  refine Reg.op rfl rfl rfl rfl (Does.call rfl (begin_ok L hL (hS1.ext hE) hm L.length _ (by omega) (by omega) (by omega))) ?_
  rintro _ H2 ⟨rfl, rfl⟩
  refine Reg.pur rfl rfl rfl rfl (Pur.eql rfl rfl) ?_
  refine Reg.pur rfl rfl rfl rfl (Pur.asg rfl) ?_
  refine Reg.nil ?_
  refine At.ret rfl Try.func54 rfl ?_
  first | exact ⟨congrArg Value.bool (by unfold typM; simp only [decide_eq_true_eq] at *; rw [decide_eq_false (by omega)]; rfl), hn1.ext⟩ | exact ⟨congrArg Value.bool (by unfold typM; rw [all_of_take hlt (by simpa using hb4)]; simp), hn1.ext.trans (hE.trans (hE4.trans hE5))⟩ | exact ⟨congrArg Value.bool (by simp only [decide_eq_false_iff_not] at *; rw [List.take_of_length_le (by omega)] at hgo; unfold typM; rw [hgo, decide_eq_true (p := 1 ≤ L.length ∧ L.length ≤ 256) (by omega)]; rfl), hn1.ext.trans hE⟩

theorem typMayR_ok {A : Option Addr} {cap : Nat} (L : List (List Int)) (hL : Nine L) {H : Heap} (hS : SlT H Is 9 (.slice A L.length cap) L) (hm : L.length ≤ 9223372036854775807) :
    Ret Try.prog 40 [Ty A L.length cap] H (fun v H' => v = .bool (typM L) ∧ Ext H H') := by
  refine Ret.of_at (N := 74) Try.call40 Try.func40 rfl rfl rfl ?_
  refine At.region rfl rfl ?_
  refine Reg.op rfl rfl rfl rfl (Does.box rfl rfl) ?_
  rintro _ H1 ⟨rfl, hn1⟩
  refine Reg.pur rfl rfl rfl rfl (Pur.asg rfl) ?_
  refine Reg.nil ?_
  have hB := hn1.own.blk
  have hS1 := hS.ext hn1.ext
  refine At.region rfl rfl ?_
  refine Reg.pur rfl rfl rfl rfl (Pur.fld _ fo25_0 rfl) ?_
  refine Reg.lod rfl rfl rfl rfl (Lod.ld sc23 rfl hB rfl) ?_
  refine Reg.pur rfl rfl rfl rfl (Pur.asg rfl) ?_
  refine Reg.nil ?_
  refine At.region rfl rfl ?_
  refine Reg.pur rfl rfl rfl rfl (Pur.mv rfl) ?_
  refine Reg.pur rfl rfl rfl rfl (Pur.lenS isl23 rfl) ?_
  refine Reg.pur rfl rfl rfl rfl (Pur.lss rfl rfl) ?_
  refine Reg.pur rfl rfl rfl rfl (Pur.mv rfl) ?_
  refine Reg.case 12 rfl (fun hc1 => ?_) (fun hc1 => ?_)
  · refine Reg.skip rfl rfl rfl rfl rfl rfl rfl ?_
    refine Reg.skip rfl rfl rfl rfl rfl rfl rfl ?_
    refine Reg.skip rfl rfl rfl rfl rfl rfl rfl ?_
    refine Reg.pur rfl rfl rfl rfl (Pur.pickT rfl rfl) ?_
    refine Reg.nil ?_
    refine At.condT rfl rfl rfl ?_
    refine At.region rfl rfl ?_
    refine Reg.pur rfl rfl rfl rfl (Pur.asg rfl) ?_
    refine Reg.nil ?_
    refine At.ret rfl Try.func40 rfl ?_
    first | exact ⟨congrArg Value.bool (by unfold typM; simp only [decide_eq_true_eq] at *; rw [decide_eq_false (by omega)]; rfl), hn1.ext⟩ | exact ⟨congrArg Value.bool (by simp only [decide_eq_false_iff_not] at *; rw [List.take_of_length_le (by omega)] at hgo; unfold typM; rw [hgo, decide_eq_true (p := 1 ≤ L.length ∧ L.length ≤ 256) (by omega)]; rfl), hn1.ext.trans hE⟩ | (refine ⟨congrArg Value.bool (hbad ?_).symm, hn1.ext.trans (hE.trans hE6)⟩; clear hnext hbad; simp [eqs, eqv] at *; first | (simp [nodM, *]; done) | (simp [nodM, *]; assumption) | (simp [nodM, *]; intros; omega))
  refine Reg.gpur rfl rfl rfl rfl rfl rfl (Pur.mv rfl) ?_
  refine Reg.gpur rfl rfl rfl rfl rfl rfl (Pur.lenS isl23 rfl) ?_
  refine Reg.gpur rfl rfl rfl rfl rfl rfl (Pur.gtr rfl rfl) ?_
  refine Reg.pur rfl rfl rfl rfl (Pur.pickF rfl rfl) ?_
  refine Reg.nil ?_
  refine At.cond rfl rfl (fun hb2 => ?_) (fun hb2 => ?_)
  · refine At.region rfl rfl ?_
    refine Reg.pur rfl rfl rfl rfl (Pur.asg rfl) ?_
    refine Reg.nil ?_
    refine At.ret rfl Try.func40 rfl ?_
    first | exact ⟨congrArg Value.bool (by unfold typM; simp only [decide_eq_true_eq] at *; rw [decide_eq_false (by omega)]; rfl), hn1.ext⟩ | exact ⟨congrArg Value.bool (by simp only [decide_eq_false_iff_not] at *; rw [List.take_of_length_le (by omega)] at hgo; unfold typM; rw [hgo, decide_eq_true (p := 1 ≤ L.length ∧ L.length ≤ 256) (by omega)]; rfl), hn1.ext.trans hE⟩ | (refine ⟨congrArg Value.bool (hbad ?_).symm, hn1.ext.trans (hE.trans hE6)⟩; clear hnext hbad; simp [eqs, eqv] at *; first | (simp [nodM, *]; done) | (simp [nodM, *]; assumption) | (simp [nodM, *]; intros; omega))
  refine At.region rfl rfl ?_
  refine Reg.pur rfl rfl rfl rfl (Pur.asg rfl) ?_
  refine Reg.nil ?_
  refine At.loop (σ := Nat) (fun i => [(4, I i), (3, .slice A L.length cap)]) (fun i H' => i ≤ L.length ∧ Ext H1 H' ∧ (L.take i).all nodM = true) (fun i => L.length - i) 0 rfl ⟨rfl, rfl, trivial⟩ ⟨by omega, Ext.refl _, rfl⟩ ?_
  rintro i H2 ⟨hi, hE, hgo⟩ ih
  refine At.region rfl rfl ?_
  refine Reg.pur rfl rfl rfl rfl (Pur.mv rfl) ?_
  refine Reg.pur rfl rfl rfl rfl (Pur.mv rfl) ?_
  refine Reg.pur rfl rfl rfl rfl (Pur.lenS isl23 rfl) ?_
  refine Reg.pur rfl rfl rfl rfl (Pur.lss rfl rfl) ?_
  refine Reg.nil ?_
  refine At.cond rfl rfl (fun hb3 => ?_) (fun hb3 => ?_)
  · simp only [decide_eq_true_eq] at hb3
    have hlt : i < L.length := by omega
    obtain ⟨b, o, c, rfl, hB2, hd, h9⟩ := sl_at (wide9 hL) (hS1.ext hE) hlt
    have h9' := hL _ (List.getElem_mem hlt)
    have hnext : ∀ H', Ext H2 H' → nodM L[i] = true → _ := fun H' h1 h2 => ih (i + 1) H' ⟨by omega, hE.trans h1, by rw [all_take hlt, hgo, h2]; rfl⟩ (by omega)
    have hbad : nodM L[i] = false → typM L = false := fun h => by unfold typM; rw [all_of_take hlt h]; simp
    clear ih hgo
    generalize L[i] = x at *
    obtain ⟨k, v, p, q, c0, c1, c2, c3, t, rfl⟩ : ∃ k v p q c0 c1 c2 c3 t, x = [k, v, p, q, c0, c1, c2, c3, t] := by match x, h9' with | [k, v, p, q, c0, c1, c2, c3, t], _ => exact ⟨_, _, _, _, _, _, _, _, _, rfl⟩
    refine At.region rfl rfl ?_
    refine Reg.pur rfl rfl rfl rfl (Pur.mv rfl) ?_
    refine Reg.pur rfl rfl rfl rfl (Pur.mv rfl) ?_
    refine Reg.pur rfl rfl rfl rfl (Pur.idx _ es23 rfl rfl (by omega) hb3) ?_
    refine Reg.lod rfl rfl rfl rfl (Lod.ldn ag47 rfl hB2 hd h9) ?_
    refine Reg.op rfl rfl rfl rfl (Does.alloc zc47) ?_
    rintro _ H3 ⟨rfl, hn3⟩
    refine Reg.op0 rfl rfl rfl (Does.stn ag47 rfl rfl (ones_Is _) h9 hn3.own (by decide)) ?_
    rintro _ H4 hu4
    refine Reg.nil ?_
    have hX : Own H4 H2.size (Is [k, v, p, q, c0, c1, c2, c3, t]) := by have := hu4.own; rwa [over (by rfl)] at this
    have hE4 : Ext H2 H4 := hn3.ext.upd hu4 (Nat.le_refl _)
    refine At.region rfl rfl ?_
    refine Reg.pur rfl rfl rfl rfl (Pur.fld _ fo47_0 rfl) ?_
    refine Reg.lod rfl rfl rfl rfl (Lod.ld sc3 rfl hX.blk rfl) ?_
    refine Reg.pur rfl rfl rfl rfl (Pur.bld (cs := [_, _, _, _, _, _, _, _, _]) pl47 zc47 rfl rfl ⟨rfl, rfl, rfl, rfl, rfl, rfl, rfl, rfl, rfl, rfl⟩) ?_
    refine Reg.op rfl rfl rfl rfl (Does.alloc zc47) ?_
    rintro _ H5 ⟨rfl, hn5⟩
    refine Reg.op0 rfl rfl rfl (Does.stn ag47 rfl rfl rfl rfl hn5.own (by decide)) ?_
    rintro _ H6 hu6
    refine Reg.nil ?_
    have hlt4 := hX.lt
    have hs2 := hE4.1
    have hY : Own H6 H4.size (Is [k, 0, 0, 0, 0, 0, 0, 0, 0]) := hu6.own
    have hX := (hX.ext hn5.ext).upd hu6 (by omega)
    have hE6 : Ext H2 H6 := (hE4.trans hn5.ext).upd hu6 (by omega)
    refine At.region rfl rfl ?_
    refine Reg.pur rfl rfl rfl rfl (Pur.fld _ fo47_0 rfl) ?_
    refine Reg.lod rfl rfl rfl rfl (Lod.ld sc3 rfl hX.blk rfl) ?_
    refine Reg.nil ?_
    refine At.region rfl rfl ?_
    refine Reg.pur rfl rfl rfl rfl (Pur.eql rfl rfl) ?_
    refine Reg.pur rfl rfl rfl rfl (Pur.asg rfl) ?_
    refine Reg.nil ?_
    refine At.cond rfl rfl (fun hb4 => ?_) (fun hb4 => ?_)
    · refine At.condT rfl rfl (by first | exact hb4 | exact decide_eq_true hb4 | exact decide_eq_false hb4 | simpa using hb4) ?_
      refine At.region rfl rfl ?_
      refine Reg.lod rfl rfl rfl rfl (Lod.ldn ag47 rfl hX.blk (whole rfl) rfl) ?_
      refine Reg.lod rfl rfl rfl rfl (Lod.ldn ag47 rfl hY.blk (whole rfl) rfl) ?_
      refine Reg.pur rfl rfl rfl rfl (Pur.neA eqt47 rfl rfl (fks_ints .i64 [_, _, _, _, _, _, _, _, _]) (fks_ints .i64 [_, _, _, _, _, _, _, _, _])) ?_
      refine Reg.pur rfl rfl rfl rfl (Pur.mv rfl) ?_
      refine Reg.case 58 rfl (fun hc5 => ?_) (fun hc5 => ?_)
      · refine Reg.skip rfl rfl rfl rfl rfl rfl rfl ?_
        refine Reg.skip rfl rfl rfl rfl rfl rfl rfl ?_
        refine Reg.skip rfl rfl rfl rfl rfl rfl rfl ?_
        refine Reg.pur rfl rfl rfl rfl (Pur.pickT rfl rfl) ?_
        refine Reg.pur rfl rfl rfl rfl (Pur.mv rfl) ?_
        refine Reg.skip rfl rfl rfl rfl rfl rfl rfl ?_
        refine Reg.skip rfl rfl rfl rfl rfl rfl rfl ?_
        refine Reg.skip rfl rfl rfl rfl rfl rfl rfl ?_
        refine Reg.pur rfl rfl rfl rfl (Pur.pickT rfl rfl) ?_
        refine Reg.nil ?_
        refine At.condT rfl rfl rfl ?_
        refine At.region rfl rfl ?_
        refine Reg.pur rfl rfl rfl rfl (Pur.asg rfl) ?_
        refine Reg.nil ?_
        refine At.ret rfl Try.func40 rfl ?_
        first | exact ⟨congrArg Value.bool (by unfold typM; simp only [decide_eq_true_eq] at *; rw [decide_eq_false (by omega)]; rfl), hn1.ext⟩ | exact ⟨congrArg Value.bool (by simp only [decide_eq_false_iff_not] at *; rw [List.take_of_length_le (by omega)] at hgo; unfold typM; rw [hgo, decide_eq_true (p := 1 ≤ L.length ∧ L.length ≤ 256) (by omega)]; rfl), hn1.ext.trans hE⟩ | (refine ⟨congrArg Value.bool (hbad ?_).symm, hn1.ext.trans (hE.trans hE6)⟩; clear hnext hbad; simp [eqs, eqv] at *; first | (simp [nodM, *]; done) | (simp [nodM, *]; assumption) | (simp [nodM, *]; intros; omega))
      refine Reg.gpur rfl rfl rfl rfl rfl rfl (Pur.fld _ fo47_1 rfl) ?_
      refine Reg.glod rfl rfl rfl rfl rfl rfl (Lod.ld sc3 rfl hX.blk rfl) ?_
      refine Reg.gpur rfl rfl rfl rfl rfl rfl (Pur.lss rfl rfl) ?_
      refine Reg.pur rfl rfl rfl rfl (Pur.pickF rfl rfl) ?_
      refine Reg.pur rfl rfl rfl rfl (Pur.mv rfl) ?_
      refine Reg.case 63 rfl (fun hc6 => ?_) (fun hc6 => ?_)
      · refine Reg.skip rfl rfl rfl rfl rfl rfl rfl ?_
        refine Reg.skip rfl rfl rfl rfl rfl rfl rfl ?_
        refine Reg.skip rfl rfl rfl rfl rfl rfl rfl ?_
        refine Reg.pur rfl rfl rfl rfl (Pur.pickT rfl rfl) ?_
        refine Reg.nil ?_
        refine At.condT rfl rfl rfl ?_
        refine At.region rfl rfl ?_
        refine Reg.pur rfl rfl rfl rfl (Pur.asg rfl) ?_
        refine Reg.nil ?_
        refine At.ret rfl Try.func40 rfl ?_
        first | exact ⟨congrArg Value.bool (by unfold typM; simp only [decide_eq_true_eq] at *; rw [decide_eq_false (by omega)]; rfl), hn1.ext⟩ | exact ⟨congrArg Value.bool (by simp only [decide_eq_false_iff_not] at *; rw [List.take_of_length_le (by omega)] at hgo; unfold typM; rw [hgo, decide_eq_true (p := 1 ≤ L.length ∧ L.length ≤ 256) (by omega)]; rfl), hn1.ext.trans hE⟩ | (refine ⟨congrArg Value.bool (hbad ?_).symm, hn1.ext.trans (hE.trans hE6)⟩; clear hnext hbad; simp [eqs, eqv] at *; first | (simp [nodM, *]; done) | (simp [nodM, *]; assumption) | (simp [nodM, *]; intros; omega))
      refine Reg.gpur rfl rfl rfl rfl rfl rfl (Pur.fld _ fo47_1 rfl) ?_
      refine Reg.glod rfl rfl rfl rfl rfl rfl (Lod.ld sc3 rfl hX.blk rfl) ?_
      refine Reg.gpur rfl rfl rfl rfl rfl rfl (Pur.geq rfl rfl) ?_
      refine Reg.pur rfl rfl rfl rfl (Pur.pickF rfl rfl) ?_
      refine Reg.nil ?_
      refine At.cond rfl rfl (fun hb7 => ?_) (fun hb7 => ?_)
      · refine At.region rfl rfl ?_
        refine Reg.pur rfl rfl rfl rfl (Pur.asg rfl) ?_
        refine Reg.nil ?_
        refine At.ret rfl Try.func40 rfl ?_
        first | exact ⟨congrArg Value.bool (by unfold typM; simp only [decide_eq_true_eq] at *; rw [decide_eq_false (by omega)]; rfl), hn1.ext⟩ | exact ⟨congrArg Value.bool (by simp only [decide_eq_false_iff_not] at *; rw [List.take_of_length_le (by omega)] at hgo; unfold typM; rw [hgo, decide_eq_true (p := 1 ≤ L.length ∧ L.length ≤ 256) (by omega)]; rfl), hn1.ext.trans hE⟩ | (refine ⟨congrArg Value.bool (hbad ?_).symm, hn1.ext.trans (hE.trans hE6)⟩; clear hnext hbad; simp [eqs, eqv] at *; first | (simp [nodM, *]; done) | (simp [nodM, *]; assumption) | (simp [nodM, *]; intros; omega))
      refine At.region rfl rfl ?_
      refine Reg.pur rfl rfl rfl rfl (Pur.mv rfl) ?_
      first | refine Reg.pur rfl rfl rfl rfl (Pur.add64 rfl rfl (by omega)) ?_ | refine Reg.pur rfl rfl rfl rfl (Pur.add64 rfl rfl (by assumption)) ?_ | refine Reg.pur rfl rfl rfl rfl (Pur.add rfl rfl) ?_
      refine Reg.pur rfl rfl rfl rfl (Pur.asg rfl) ?_
      refine Reg.nil ?_
      refine At.via (hnext _ hE6 ?_) ⟨rfl, rfl, trivial⟩
      clear hnext hbad
      simp [eqs, eqv] at *
      simp [nodM, *]
    refine At.region rfl rfl ?_
    refine Reg.pur rfl rfl rfl rfl (Pur.eql rfl rfl) ?_
    refine Reg.pur rfl rfl rfl rfl (Pur.asg rfl) ?_
    refine Reg.nil ?_
    refine At.cond rfl rfl (fun hb8 => ?_) (fun hb8 => ?_)
    · refine At.region rfl rfl ?_
      refine Reg.lod rfl rfl rfl rfl (Lod.ldn ag47 rfl hX.blk (whole rfl) rfl) ?_
      refine Reg.lod rfl rfl rfl rfl (Lod.ldn ag47 rfl hY.blk (whole rfl) rfl) ?_
      refine Reg.pur rfl rfl rfl rfl (Pur.neA eqt47 rfl rfl (fks_ints .i64 [_, _, _, _, _, _, _, _, _]) (fks_ints .i64 [_, _, _, _, _, _, _, _, _])) ?_
      refine Reg.pur rfl rfl rfl rfl (Pur.mv rfl) ?_
      refine Reg.case 58 rfl (fun hc9 => ?_) (fun hc9 => ?_)
      · refine Reg.skip rfl rfl rfl rfl rfl rfl rfl ?_
        refine Reg.skip rfl rfl rfl rfl rfl rfl rfl ?_
        refine Reg.skip rfl rfl rfl rfl rfl rfl rfl ?_
        refine Reg.pur rfl rfl rfl rfl (Pur.pickT rfl rfl) ?_
        refine Reg.pur rfl rfl rfl rfl (Pur.mv rfl) ?_
        refine Reg.skip rfl rfl rfl rfl rfl rfl rfl ?_
        refine Reg.skip rfl rfl rfl rfl rfl rfl rfl ?_
        refine Reg.skip rfl rfl rfl rfl rfl rfl rfl ?_
        refine Reg.pur rfl rfl rfl rfl (Pur.pickT rfl rfl) ?_
        refine Reg.nil ?_
        refine At.condT rfl rfl rfl ?_
        refine At.region rfl rfl ?_
        refine Reg.pur rfl rfl rfl rfl (Pur.asg rfl) ?_
        refine Reg.nil ?_
        refine At.ret rfl Try.func40 rfl ?_
        first | exact ⟨congrArg Value.bool (by unfold typM; simp only [decide_eq_true_eq] at *; rw [decide_eq_false (by omega)]; rfl), hn1.ext⟩ | exact ⟨congrArg Value.bool (by simp only [decide_eq_false_iff_not] at *; rw [List.take_of_length_le (by omega)] at hgo; unfold typM; rw [hgo, decide_eq_true (p := 1 ≤ L.length ∧ L.length ≤ 256) (by omega)]; rfl), hn1.ext.trans hE⟩ | (refine ⟨congrArg Value.bool (hbad ?_).symm, hn1.ext.trans (hE.trans hE6)⟩; clear hnext hbad; simp [eqs, eqv] at *; first | (simp [nodM, *]; done) | (simp [nodM, *]; assumption) | (simp [nodM, *]; intros; omega))
      refine Reg.gpur rfl rfl rfl rfl rfl rfl (Pur.fld _ fo47_1 rfl) ?_
      refine Reg.glod rfl rfl rfl rfl rfl rfl (Lod.ld sc3 rfl hX.blk rfl) ?_
      refine Reg.gpur rfl rfl rfl rfl rfl rfl (Pur.lss rfl rfl) ?_
      refine Reg.pur rfl rfl rfl rfl (Pur.pickF rfl rfl) ?_
      refine Reg.pur rfl rfl rfl rfl (Pur.mv rfl) ?_
      refine Reg.case 63 rfl (fun hc10 => ?_) (fun hc10 => ?_)
      · refine Reg.skip rfl rfl rfl rfl rfl rfl rfl ?_
        refine Reg.skip rfl rfl rfl rfl rfl rfl rfl ?_
        refine Reg.skip rfl rfl rfl rfl rfl rfl rfl ?_
        refine Reg.pur rfl rfl rfl rfl (Pur.pickT rfl rfl) ?_
        refine Reg.nil ?_
        refine At.condT rfl rfl rfl ?_
        refine At.region rfl rfl ?_
        refine Reg.pur rfl rfl rfl rfl (Pur.asg rfl) ?_
        refine Reg.nil ?_
        refine At.ret rfl Try.func40 rfl ?_
        first | exact ⟨congrArg Value.bool (by unfold typM; simp only [decide_eq_true_eq] at *; rw [decide_eq_false (by omega)]; rfl), hn1.ext⟩ | exact ⟨congrArg Value.bool (by simp only [decide_eq_false_iff_not] at *; rw [List.take_of_length_le (by omega)] at hgo; unfold typM; rw [hgo, decide_eq_true (p := 1 ≤ L.length ∧ L.length ≤ 256) (by omega)]; rfl), hn1.ext.trans hE⟩ | (refine ⟨congrArg Value.bool (hbad ?_).symm, hn1.ext.trans (hE.trans hE6)⟩; clear hnext hbad; simp [eqs, eqv] at *; first | (simp [nodM, *]; done) | (simp [nodM, *]; assumption) | (simp [nodM, *]; intros; omega))
      refine Reg.gpur rfl rfl rfl rfl rfl rfl (Pur.fld _ fo47_1 rfl) ?_
      refine Reg.glod rfl rfl rfl rfl rfl rfl (Lod.ld sc3 rfl hX.blk rfl) ?_
      refine Reg.gpur rfl rfl rfl rfl rfl rfl (Pur.geq rfl rfl) ?_
      refine Reg.pur rfl rfl rfl rfl (Pur.pickF rfl rfl) ?_
      refine Reg.nil ?_
      refine At.cond rfl rfl (fun hb11 => ?_) (fun hb11 => ?_)
      · refine At.region rfl rfl ?_
        refine Reg.pur rfl rfl rfl rfl (Pur.asg rfl) ?_
        refine Reg.nil ?_
        refine At.ret rfl Try.func40 rfl ?_
        first | exact ⟨congrArg Value.bool (by unfold typM; simp only [decide_eq_true_eq] at *; rw [decide_eq_false (by omega)]; rfl), hn1.ext⟩ | exact ⟨congrArg Value.bool (by simp only [decide_eq_false_iff_not] at *; rw [List.take_of_length_le (by omega)] at hgo; unfold typM; rw [hgo, decide_eq_true (p := 1 ≤ L.length ∧ L.length ≤ 256) (by omega)]; rfl), hn1.ext.trans hE⟩ | (refine ⟨congrArg Value.bool (hbad ?_).symm, hn1.ext.trans (hE.trans hE6)⟩; clear hnext hbad; simp [eqs, eqv] at *; first | (simp [nodM, *]; done) | (simp [nodM, *]; assumption) | (simp [nodM, *]; intros; omega))
      refine At.region rfl rfl ?_
      refine Reg.pur rfl rfl rfl rfl (Pur.mv rfl) ?_
      first | refine Reg.pur rfl rfl rfl rfl (Pur.add64 rfl rfl (by omega)) ?_ | refine Reg.pur rfl rfl rfl rfl (Pur.add64 rfl rfl (by assumption)) ?_ | refine Reg.pur rfl rfl rfl rfl (Pur.add rfl rfl) ?_
      refine Reg.pur rfl rfl rfl rfl (Pur.asg rfl) ?_
      refine Reg.nil ?_
      refine At.via (hnext _ hE6 ?_) ⟨rfl, rfl, trivial⟩
      clear hnext hbad
      simp [eqs, eqv] at *
      simp [nodM, *]
    refine At.region rfl rfl ?_
    refine Reg.pur rfl rfl rfl rfl (Pur.eql rfl rfl) ?_
    refine Reg.pur rfl rfl rfl rfl (Pur.asg rfl) ?_
    refine Reg.nil ?_
    refine At.cond rfl rfl (fun hb12 => ?_) (fun hb12 => ?_)
    · refine At.region rfl rfl ?_
      refine Reg.pur rfl rfl rfl rfl (Pur.fld _ fo47_1 rfl) ?_
      refine Reg.lod rfl rfl rfl rfl (Lod.ld sc3 rfl hX.blk rfl) ?_
      refine Reg.pur rfl rfl rfl rfl (Pur.fld _ fo47_1 rfl) ?_
      refine Reg.op0 rfl rfl rfl (Does.st sc3 rfl rfl rfl hY (by simp)) ?_
      rintro _ H7 hu7
      refine Reg.nil ?_
      have hX := hX.upd hu7 (by omega)
      have hE6 := hE6.upd hu7 (by omega)
      have hY : Own H7 H4.size (Is [k, v, 0, 0, 0, 0, 0, 0, 0]) := hu7.own
      refine At.region rfl rfl ?_
      refine Reg.lod rfl rfl rfl rfl (Lod.ldn ag47 rfl hX.blk (whole rfl) rfl) ?_
      refine Reg.lod rfl rfl rfl rfl (Lod.ldn ag47 rfl hY.blk (whole rfl) rfl) ?_
      refine Reg.pur rfl rfl rfl rfl (Pur.neA eqt47 rfl rfl (fks_ints .i64 [_, _, _, _, _, _, _, _, _]) (fks_ints .i64 [_, _, _, _, _, _, _, _, _])) ?_
      refine Reg.pur rfl rfl rfl rfl (Pur.mv rfl) ?_
      refine Reg.case 58 rfl (fun hc13 => ?_) (fun hc13 => ?_)
      · refine Reg.skip rfl rfl rfl rfl rfl rfl rfl ?_
        refine Reg.skip rfl rfl rfl rfl rfl rfl rfl ?_
        refine Reg.skip rfl rfl rfl rfl rfl rfl rfl ?_
        refine Reg.pur rfl rfl rfl rfl (Pur.pickT rfl rfl) ?_
        refine Reg.pur rfl rfl rfl rfl (Pur.mv rfl) ?_
        refine Reg.skip rfl rfl rfl rfl rfl rfl rfl ?_
        refine Reg.skip rfl rfl rfl rfl rfl rfl rfl ?_
        refine Reg.skip rfl rfl rfl rfl rfl rfl rfl ?_
        refine Reg.pur rfl rfl rfl rfl (Pur.pickT rfl rfl) ?_
        refine Reg.nil ?_
        refine At.condT rfl rfl rfl ?_
        refine At.region rfl rfl ?_
        refine Reg.pur rfl rfl rfl rfl (Pur.asg rfl) ?_
        refine Reg.nil ?_
        refine At.ret rfl Try.func40 rfl ?_
        first | exact ⟨congrArg Value.bool (by unfold typM; simp only [decide_eq_true_eq] at *; rw [decide_eq_false (by omega)]; rfl), hn1.ext⟩ | exact ⟨congrArg Value.bool (by simp only [decide_eq_false_iff_not] at *; rw [List.take_of_length_le (by omega)] at hgo; unfold typM; rw [hgo, decide_eq_true (p := 1 ≤ L.length ∧ L.length ≤ 256) (by omega)]; rfl), hn1.ext.trans hE⟩ | (refine ⟨congrArg Value.bool (hbad ?_).symm, hn1.ext.trans (hE.trans hE6)⟩; clear hnext hbad; simp [eqs, eqv] at *; first | (simp [nodM, *]; done) | (simp [nodM, *]; assumption) | (simp [nodM, *]; intros; omega))
      refine Reg.gpur rfl rfl rfl rfl rfl rfl (Pur.fld _ fo47_1 rfl) ?_
      refine Reg.glod rfl rfl rfl rfl rfl rfl (Lod.ld sc3 rfl hX.blk rfl) ?_
      refine Reg.gpur rfl rfl rfl rfl rfl rfl (Pur.lss rfl rfl) ?_
      refine Reg.pur rfl rfl rfl rfl (Pur.pickF rfl rfl) ?_
      refine Reg.pur rfl rfl rfl rfl (Pur.mv rfl) ?_
      refine Reg.case 63 rfl (fun hc14 => ?_) (fun hc14 => ?_)
      · refine Reg.skip rfl rfl rfl rfl rfl rfl rfl ?_
        refine Reg.skip rfl rfl rfl rfl rfl rfl rfl ?_
        refine Reg.skip rfl rfl rfl rfl rfl rfl rfl ?_
        refine Reg.pur rfl rfl rfl rfl (Pur.pickT rfl rfl) ?_
        refine Reg.nil ?_
        refine At.condT rfl rfl rfl ?_
        refine At.region rfl rfl ?_
        refine Reg.pur rfl rfl rfl rfl (Pur.asg rfl) ?_
        refine Reg.nil ?_
        refine At.ret rfl Try.func40 rfl ?_
        first | exact ⟨congrArg Value.bool (by unfold typM; simp only [decide_eq_true_eq] at *; rw [decide_eq_false (by omega)]; rfl), hn1.ext⟩ | exact ⟨congrArg Value.bool (by simp only [decide_eq_false_iff_not] at *; rw [List.take_of_length_le (by omega)] at hgo; unfold typM; rw [hgo, decide_eq_true (p := 1 ≤ L.length ∧ L.length ≤ 256) (by omega)]; rfl), hn1.ext.trans hE⟩ | (refine ⟨congrArg Value.bool (hbad ?_).symm, hn1.ext.trans (hE.trans hE6)⟩; clear hnext hbad; simp [eqs, eqv] at *; first | (simp [nodM, *]; done) | (simp [nodM, *]; assumption) | (simp [nodM, *]; intros; omega))
      refine Reg.gpur rfl rfl rfl rfl rfl rfl (Pur.fld _ fo47_1 rfl) ?_
      refine Reg.glod rfl rfl rfl rfl rfl rfl (Lod.ld sc3 rfl hX.blk rfl) ?_
      refine Reg.gpur rfl rfl rfl rfl rfl rfl (Pur.geq rfl rfl) ?_
      refine Reg.pur rfl rfl rfl rfl (Pur.pickF rfl rfl) ?_
      refine Reg.nil ?_
      refine At.cond rfl rfl (fun hb15 => ?_) (fun hb15 => ?_)
      · refine At.region rfl rfl ?_
        refine Reg.pur rfl rfl rfl rfl (Pur.asg rfl) ?_
        refine Reg.nil ?_
        refine At.ret rfl Try.func40 rfl ?_
        first | exact ⟨congrArg Value.bool (by unfold typM; simp only [decide_eq_true_eq] at *; rw [decide_eq_false (by omega)]; rfl), hn1.ext⟩ | exact ⟨congrArg Value.bool (by simp only [decide_eq_false_iff_not] at *; rw [List.take_of_length_le (by omega)] at hgo; unfold typM; rw [hgo, decide_eq_true (p := 1 ≤ L.length ∧ L.length ≤ 256) (by omega)]; rfl), hn1.ext.trans hE⟩ | (refine ⟨congrArg Value.bool (hbad ?_).symm, hn1.ext.trans (hE.trans hE6)⟩; clear hnext hbad; simp [eqs, eqv] at *; first | (simp [nodM, *]; done) | (simp [nodM, *]; assumption) | (simp [nodM, *]; intros; omega))
      refine At.region rfl rfl ?_
      refine Reg.pur rfl rfl rfl rfl (Pur.mv rfl) ?_
      first | refine Reg.pur rfl rfl rfl rfl (Pur.add64 rfl rfl (by omega)) ?_ | refine Reg.pur rfl rfl rfl rfl (Pur.add64 rfl rfl (by assumption)) ?_ | refine Reg.pur rfl rfl rfl rfl (Pur.add rfl rfl) ?_
      refine Reg.pur rfl rfl rfl rfl (Pur.asg rfl) ?_
      refine Reg.nil ?_
      refine At.via (hnext _ hE6 ?_) ⟨rfl, rfl, trivial⟩
      clear hnext hbad
      simp [eqs, eqv] at *
      simp [nodM, *]
    refine At.region rfl rfl ?_
    refine Reg.pur rfl rfl rfl rfl (Pur.eql rfl rfl) ?_
    refine Reg.pur rfl rfl rfl rfl (Pur.asg rfl) ?_
    refine Reg.nil ?_
    refine At.cond rfl rfl (fun hb16 => ?_) (fun hb16 => ?_)
    · refine At.region rfl rfl ?_
      refine Reg.pur rfl rfl rfl rfl (Pur.fld _ fo47_2 rfl) ?_
      refine Reg.lod rfl rfl rfl rfl (Lod.ld sc3 rfl hX.blk rfl) ?_
      refine Reg.pur rfl rfl rfl rfl (Pur.fld _ fo47_2 rfl) ?_
      refine Reg.op0 rfl rfl rfl (Does.st sc3 rfl rfl rfl hY (by simp)) ?_
      rintro _ H7 hu7
      refine Reg.nil ?_
      have hX := hX.upd hu7 (by omega)
      have hE6 := hE6.upd hu7 (by omega)
      have hY : Own H7 H4.size (Is [k, 0, p, 0, 0, 0, 0, 0, 0]) := hu7.own
      refine At.region rfl rfl ?_
      refine Reg.pur rfl rfl rfl rfl (Pur.fld _ fo47_3 rfl) ?_
      refine Reg.lod rfl rfl rfl rfl (Lod.ld sc3 rfl hX.blk rfl) ?_
      refine Reg.pur rfl rfl rfl rfl (Pur.fld _ fo47_3 rfl) ?_
      refine Reg.op0 rfl rfl rfl (Does.st sc3 rfl rfl rfl hY (by simp)) ?_
      rintro _ H8 hu8
      refine Reg.nil ?_
      have hX := hX.upd hu8 (by omega)
      have hE6 := hE6.upd hu8 (by omega)
      have hY : Own H8 H4.size (Is [k, 0, p, q, 0, 0, 0, 0, 0]) := hu8.own
      refine At.region rfl rfl ?_
      refine Reg.pur rfl rfl rfl rfl (Pur.fld _ fo47_4 rfl) ?_
      refine Reg.lod rfl rfl rfl rfl (Lod.ldn ag28 rfl hX.blk (show _ = Is [c0, c1, c2, c3, t] from rfl) rfl) ?_
      refine Reg.pur rfl rfl rfl rfl (Pur.fld _ fo47_4 rfl) ?_
      refine Reg.op0 rfl rfl rfl (Does.stn ag28 rfl rfl (ones_Is _) rfl hY (by simp)) ?_
      rintro _ H9 hu9
      refine Reg.nil ?_
      have hX := hX.upd hu9 (by omega)
      have hE6 := hE6.upd hu9 (by omega)
      have hY : Own H9 H4.size (Is [k, 0, p, q, c0, c1, c2, c3, t]) := hu9.own
      refine At.region rfl rfl ?_
      refine Reg.pur rfl rfl rfl rfl (Pur.fld _ fo47_4 rfl) ?_
      refine Reg.lod rfl rfl rfl rfl (Lod.ldn ag28 rfl hX.blk (show _ = Is [c0, c1, c2, c3, t] from rfl) rfl) ?_
      refine Reg.op rfl rfl rfl rfl (Does.call rfl (rowMayR_ok [c0, c1, c2, c3, t] rfl _)) ?_
      rintro _ H10 ⟨rfl, hE10⟩
      refine Reg.pur rfl rfl rfl rfl (Pur.not rfl) ?_
      refine Reg.nil ?_
      have hX := hX.ext hE10
      have hY := hY.ext hE10
      have hE6 := hE6.trans hE10
      refine At.cond rfl rfl (fun hb17 => ?_) (fun hb17 => ?_)
      · refine At.region rfl rfl ?_
        refine Reg.pur rfl rfl rfl rfl (Pur.asg rfl) ?_
        refine Reg.nil ?_
        refine At.ret rfl Try.func40 rfl ?_
        first | exact ⟨congrArg Value.bool (by unfold typM; simp only [decide_eq_true_eq] at *; rw [decide_eq_false (by omega)]; rfl), hn1.ext⟩ | exact ⟨congrArg Value.bool (by simp only [decide_eq_false_iff_not] at *; rw [List.take_of_length_le (by omega)] at hgo; unfold typM; rw [hgo, decide_eq_true (p := 1 ≤ L.length ∧ L.length ≤ 256) (by omega)]; rfl), hn1.ext.trans hE⟩ | (refine ⟨congrArg Value.bool (hbad ?_).symm, hn1.ext.trans (hE.trans hE6)⟩; clear hnext hbad; simp [eqs, eqv] at *; first | (simp [nodM, *]; done) | (simp [nodM, *]; assumption) | (simp [nodM, *]; intros; omega))
      refine At.region rfl rfl ?_
      refine Reg.lod rfl rfl rfl rfl (Lod.ldn ag47 rfl hX.blk (whole rfl) rfl) ?_
      refine Reg.lod rfl rfl rfl rfl (Lod.ldn ag47 rfl hY.blk (whole rfl) rfl) ?_
      refine Reg.pur rfl rfl rfl rfl (Pur.neA eqt47 rfl rfl (fks_ints .i64 [_, _, _, _, _, _, _, _, _]) (fks_ints .i64 [_, _, _, _, _, _, _, _, _])) ?_
      refine Reg.pur rfl rfl rfl rfl (Pur.mv rfl) ?_
      refine Reg.case 58 rfl (fun hc18 => ?_) (fun hc18 => ?_)
      · refine Reg.skip rfl rfl rfl rfl rfl rfl rfl ?_
        refine Reg.skip rfl rfl rfl rfl rfl rfl rfl ?_
        refine Reg.skip rfl rfl rfl rfl rfl rfl rfl ?_
        refine Reg.pur rfl rfl rfl rfl (Pur.pickT rfl rfl) ?_
        refine Reg.pur rfl rfl rfl rfl (Pur.mv rfl) ?_
        refine Reg.skip rfl rfl rfl rfl rfl rfl rfl ?_
        refine Reg.skip rfl rfl rfl rfl rfl rfl rfl ?_
        refine Reg.skip rfl rfl rfl rfl rfl rfl rfl ?_
        refine Reg.pur rfl rfl rfl rfl (Pur.pickT rfl rfl) ?_
        refine Reg.nil ?_
        refine At.condT rfl rfl rfl ?_
        refine At.region rfl rfl ?_
        refine Reg.pur rfl rfl rfl rfl (Pur.asg rfl) ?_
        refine Reg.nil ?_
        refine At.ret rfl Try.func40 rfl ?_
        first | exact ⟨congrArg Value.bool (by unfold typM; simp only [decide_eq_true_eq] at *; rw [decide_eq_false (by omega)]; rfl), hn1.ext⟩ | exact ⟨congrArg Value.bool (by simp only [decide_eq_false_iff_not] at *; rw [List.take_of_length_le (by omega)] at hgo; unfold typM; rw [hgo, decide_eq_true (p := 1 ≤ L.length ∧ L.length ≤ 256) (by omega)]; rfl), hn1.ext.trans hE⟩ | (refine ⟨congrArg Value.bool (hbad ?_).symm, hn1.ext.trans (hE.trans hE6)⟩; clear hnext hbad; simp [eqs, eqv] at *; first | (simp [nodM, *]; done) | (simp [nodM, *]; assumption) | (simp [nodM, *]; intros; omega))
      refine Reg.gpur rfl rfl rfl rfl rfl rfl (Pur.fld _ fo47_1 rfl) ?_
      refine Reg.glod rfl rfl rfl rfl rfl rfl (Lod.ld sc3 rfl hX.blk rfl) ?_
      refine Reg.gpur rfl rfl rfl rfl rfl rfl (Pur.lss rfl rfl) ?_
      refine Reg.pur rfl rfl rfl rfl (Pur.pickF rfl rfl) ?_
      refine Reg.pur rfl rfl rfl rfl (Pur.mv rfl) ?_
      refine Reg.case 63 rfl (fun hc19 => ?_) (fun hc19 => ?_)
      · refine Reg.skip rfl rfl rfl rfl rfl rfl rfl ?_
        refine Reg.skip rfl rfl rfl rfl rfl rfl rfl ?_
        refine Reg.skip rfl rfl rfl rfl rfl rfl rfl ?_
        refine Reg.pur rfl rfl rfl rfl (Pur.pickT rfl rfl) ?_
        refine Reg.nil ?_
        refine At.condT rfl rfl rfl ?_
        refine At.region rfl rfl ?_
        refine Reg.pur rfl rfl rfl rfl (Pur.asg rfl) ?_
        refine Reg.nil ?_
        refine At.ret rfl Try.func40 rfl ?_
        first | exact ⟨congrArg Value.bool (by unfold typM; simp only [decide_eq_true_eq] at *; rw [decide_eq_false (by omega)]; rfl), hn1.ext⟩ | exact ⟨congrArg Value.bool (by simp only [decide_eq_false_iff_not] at *; rw [List.take_of_length_le (by omega)] at hgo; unfold typM; rw [hgo, decide_eq_true (p := 1 ≤ L.length ∧ L.length ≤ 256) (by omega)]; rfl), hn1.ext.trans hE⟩ | (refine ⟨congrArg Value.bool (hbad ?_).symm, hn1.ext.trans (hE.trans hE6)⟩; clear hnext hbad; simp [eqs, eqv] at *; first | (simp [nodM, *]; done) | (simp [nodM, *]; assumption) | (simp [nodM, *]; intros; omega))
      refine Reg.gpur rfl rfl rfl rfl rfl rfl (Pur.fld _ fo47_1 rfl) ?_
      refine Reg.glod rfl rfl rfl rfl rfl rfl (Lod.ld sc3 rfl hX.blk rfl) ?_
      refine Reg.gpur rfl rfl rfl rfl rfl rfl (Pur.geq rfl rfl) ?_
      refine Reg.pur rfl rfl rfl rfl (Pur.pickF rfl rfl) ?_
      refine Reg.nil ?_
      refine At.cond rfl rfl (fun hb20 => ?_) (fun hb20 => ?_)
      · refine At.region rfl rfl ?_
        refine Reg.pur rfl rfl rfl rfl (Pur.asg rfl) ?_
        refine Reg.nil ?_
        refine At.ret rfl Try.func40 rfl ?_
        first | exact ⟨congrArg Value.bool (by unfold typM; simp only [decide_eq_true_eq] at *; rw [decide_eq_false (by omega)]; rfl), hn1.ext⟩ | exact ⟨congrArg Value.bool (by simp only [decide_eq_false_iff_not] at *; rw [List.take_of_length_le (by omega)] at hgo; unfold typM; rw [hgo, decide_eq_true (p := 1 ≤ L.length ∧ L.length ≤ 256) (by omega)]; rfl), hn1.ext.trans hE⟩ | (refine ⟨congrArg Value.bool (hbad ?_).symm, hn1.ext.trans (hE.trans hE6)⟩; clear hnext hbad; simp [eqs, eqv] at *; first | (simp [nodM, *]; done) | (simp [nodM, *]; assumption) | (simp [nodM, *]; intros; omega))
      refine At.region rfl rfl ?_
      refine Reg.pur rfl rfl rfl rfl (Pur.mv rfl) ?_
      first | refine Reg.pur rfl rfl rfl rfl (Pur.add64 rfl rfl (by omega)) ?_ | refine Reg.pur rfl rfl rfl rfl (Pur.add64 rfl rfl (by assumption)) ?_ | refine Reg.pur rfl rfl rfl rfl (Pur.add rfl rfl) ?_
      refine Reg.pur rfl rfl rfl rfl (Pur.asg rfl) ?_
      refine Reg.nil ?_
      refine At.via (hnext _ hE6 ?_) ⟨rfl, rfl, trivial⟩
      clear hnext hbad
      simp [eqs, eqv] at *
      simp [nodM, *]
    refine At.region rfl rfl ?_
    refine Reg.pur rfl rfl rfl rfl (Pur.asg rfl) ?_
    refine Reg.nil ?_
    refine At.ret rfl Try.func40 rfl ?_
    first | exact ⟨congrArg Value.bool (by unfold typM; simp only [decide_eq_true_eq] at *; rw [decide_eq_false (by omega)]; rfl), hn1.ext⟩ | exact ⟨congrArg Value.bool (by simp only [decide_eq_false_iff_not] at *; rw [List.take_of_length_le (by omega)] at hgo; unfold typM; rw [hgo, decide_eq_true (p := 1 ≤ L.length ∧ L.length ≤ 256) (by omega)]; rfl), hn1.ext.trans hE⟩ | (refine ⟨congrArg Value.bool (hbad ?_).symm, hn1.ext.trans (hE.trans hE6)⟩; clear hnext hbad; simp [eqs, eqv] at *; first | (simp [nodM, *]; done) | (simp [nodM, *]; assumption) | (simp [nodM, *]; intros; omega))
  have hlen : 1 ≤ L.length ∧ L.length ≤ 256 := by simp only [decide_eq_false_iff_not] at *; omega
  refine At.region rfl rfl ?_
  refine Reg.pur rfl rfl rfl rfl (Pur.mv rfl) ?_
  refine Reg.pur rfl rfl rfl rfl (Pur.mv rfl) ?_
  refine Reg.pur rfl rfl rfl rfl (Pur.lenS isl23 rfl) ?_
  first | refine Reg.pur rfl rfl rfl rfl (Pur.sub64 rfl rfl (by omega)) ?_ | refine Reg.pur rfl rfl rfl rfl (Pur.sub64 rfl rfl (by assumption)) ?_ | refine Reg.pur rfl rfl rfl rfl (Pur.sub rfl rfl) ?_
  refine Reg.op rfl rfl rfl rfl (Does.call rfl (beginR_ok L hL (hS1.ext hE) hm L.length _ (by omega) (by omega) (by omega))) ?_
  rintro _ H2 ⟨rfl, rfl⟩
  refine Reg.pur rfl rfl rfl rfl (Pur.eql rfl rfl) ?_
  refine Reg.pur rfl rfl rfl rfl (Pur.asg rfl) ?_
  refine Reg.nil ?_
  refine At.ret rfl Try.func40 rfl ?_
  first | exact ⟨congrArg Value.bool (by unfold typM; simp only [decide_eq_true_eq] at *; rw [decide_eq_false (by omega)]; rfl), hn1.ext⟩ | exact ⟨congrArg Value.bool (by simp only [decide_eq_false_iff_not] at *; rw [List.take_of_length_le (by omega)] at hgo; unfold typM; rw [hgo, decide_eq_true (p := 1 ≤ L.length ∧ L.length ≤ 256) (by omega)]; rfl), hn1.ext.trans hE⟩ | (refine ⟨congrArg Value.bool (hbad ?_).symm, hn1.ext.trans (hE.trans hE6)⟩; clear hnext hbad; simp [eqs, eqv] at *; first | (simp [nodM, *]; done) | (simp [nodM, *]; assumption) | (simp [nodM, *]; intros; omega))
end Go.Proofs.Ytlfillhffpiffaa

namespace Go.Proofs.Ytlfillhffpiffaa
set_option linter.unusedSimpArgs false
set_option linter.unusedVariables false
set_option maxRecDepth 8000
open Go Go.Fx Go.Proofs
namespace FactsSubA
theorem ag25 : ag Try.prog 25 = some 1 := by kernel_rfl
theorem ag28 : ag Try.prog 28 = some 5 := by kernel_rfl
theorem eqt28 : eqT Try.prog 28 = some [.int .i64, .int .i64, .int .i64, .int .i64, .int .i64] := by kernel_rfl
theorem fo25_0 : foff Try.prog 25 0 = some 0 := by kernel_rfl
theorem fo49_0 : foff Try.prog 49 0 = some 0 := by kernel_rfl
theorem fo49_1 : foff Try.prog 49 1 = some 1 := by kernel_rfl
theorem fo49_2 : foff Try.prog 49 2 = some 2 := by kernel_rfl
theorem fo49_3 : foff Try.prog 49 3 = some 3 := by kernel_rfl
theorem isl23 : isSl Try.prog 23 = true := by kernel_rfl
theorem pl28 : places Try.prog 28 = some [(0, 4), (4, 1)] := by kernel_rfl
theorem sc23 : sc Try.prog 23 = true := by kernel_rfl
theorem sc3 : sc Try.prog 3 = true := by kernel_rfl
theorem sc4 : sc Try.prog 4 = true := by kernel_rfl
theorem zc28 : zc Try.prog 28 = some [.int .i64 0, .int .i64 0, .int .i64 0, .int .i64 0, .int .i64 0] := by kernel_rfl
end FactsSubA
open FactsSubA

structure Bd where
  var : Int
  isRow : Bool
  A : Option Addr
  cap : Nat
  nodes : List (List Int)
  row : List Int
abbrev Bd.sl (b : Bd) : Value := .slice b.A b.nodes.length b.cap
abbrev encB (b : Bd) : List Value := I b.var :: .bool b.isRow :: b.sl :: Is b.row
structure Bd.Ok (H : Heap) (b : Bd) : Prop where
  sl : SlT H Is 9 b.sl b.nodes
  nine : Nine b.nodes
  row : b.row.length = 5
  fits : b.nodes.length * 72 ≤ 140737488351232
theorem Bd.Ok.ext {H H' : Heap} {b : Bd} (h : b.Ok H) (he : Ext H H') : b.Ok H' := ⟨h.sl.ext he, h.nine, h.row, h.fits⟩
theorem Bd.Ok.len {H : Heap} {b : Bd} (h : b.Ok H) : (encB b).length = 8 := by simp [h.row]
theorem Bd.Ok.max {H : Heap} {b : Bd} (h : b.Ok H) : b.nodes.length ≤ 9223372036854775807 := by have := h.fits; omega
abbrev noRow : List Int := [0, 0, 0, 0, 0]
def bindM (b : Bd) : Bool := decide (0 ≤ b.var ∧ b.var < 4096) && if b.isRow then decide (b.nodes.length = 0) && rowM b.row else decide (b.row = noRow) && typM b.nodes
theorem ones_encB (b : Bd) : ones (encB b) = true := by simp [ones, Value.oneCell']

theorem not_ok (b : Bd) {H : Heap} (hb : b.Ok H) : Ret Try.prog 84 [.agg (encB b).toArray] H (fun v H' => v = .bool (!bindM b) ∧ Ext H H') := by
  obtain ⟨var, isRow, A, cap, nodes, row⟩ := b
  have hrl := hb.row
  have hsl := hb.sl
  have hnn := hb.nine
  have hmm := hb.max
  dsimp only [Bd.sl] at hrl hsl hnn hmm
  have hf := fks_ints .i64 row
  rw [hrl] at hf
  refine Ret.of_at (N := 34) Try.call84 Try.func84 rfl rfl rfl ?_
  refine At.region rfl rfl ?_
  refine Reg.op rfl rfl rfl rfl (Does.box rfl rfl) ?_
  rintro _ H1 ⟨rfl, hn1⟩
  refine Reg.pur rfl rfl rfl rfl (Pur.asg rfl) ?_
  refine Reg.nil ?_
  have hB := hn1.own.blk
  refine At.region rfl rfl ?_
  refine Reg.pur rfl rfl rfl rfl (Pur.fld _ fo49_0 rfl) ?_
  refine Reg.lod rfl rfl rfl rfl (Lod.ld sc3 rfl hB rfl) ?_
  refine Reg.pur rfl rfl rfl rfl (Pur.lss rfl rfl) ?_
  refine Reg.pur rfl rfl rfl rfl (Pur.mv rfl) ?_
  refine Reg.case 6 rfl (fun hc1 => ?_) (fun hc1 => ?_)
  · refine Reg.skip rfl rfl rfl rfl rfl rfl rfl ?_
    refine Reg.skip rfl rfl rfl rfl rfl rfl rfl ?_
    refine Reg.skip rfl rfl rfl rfl rfl rfl rfl ?_
    refine Reg.pur rfl rfl rfl rfl (Pur.pickT rfl rfl) ?_
    refine Reg.nil ?_
    refine At.condT rfl rfl rfl ?_
    refine At.region rfl rfl ?_
    refine Reg.pur rfl rfl rfl rfl (Pur.asg rfl) ?_
    refine Reg.nil ?_
    refine At.ret rfl Try.func84 rfl ?_
    refine ⟨congrArg Value.bool ?_, by first | exact hn1.ext.trans hE2 | exact hn1.ext⟩
    unfold bindM
    try change (!eqs (Is row) (Is noRow)) = _ at hc5
    have hq := eqs_ints .i64 row noRow
    try simp only [decide_eq_true_eq, decide_eq_false_iff_not] at hc1
    try simp only [decide_eq_true_eq, decide_eq_false_iff_not] at hb2
    try simp only [decide_eq_true_eq, decide_eq_false_iff_not] at hc4
    try dsimp only at hb3
    dsimp only
    first | (rw [decide_eq_false (p := 0 ≤ var ∧ var < 4096) (by omega)]; rfl) | (rw [decide_eq_true (p := 0 ≤ var ∧ var < 4096) (by omega), if_pos hb3, decide_eq_false (p := nodes.length = 0) (by omega)]; rfl) | (rw [decide_eq_true (p := 0 ≤ var ∧ var < 4096) (by omega), if_pos hb3, decide_eq_true (p := nodes.length = 0) (by omega)]; rfl) | (rw [decide_eq_true (p := 0 ≤ var ∧ var < 4096) (by omega), if_neg (by rw [hb3]; decide), ← hq]; generalize eqs (Is row) (Is noRow) = q at *; cases q <;> simp_all; done)
  refine Reg.gpur rfl rfl rfl rfl rfl rfl (Pur.fld _ fo49_0 rfl) ?_
  refine Reg.glod rfl rfl rfl rfl rfl rfl (Lod.ld sc3 rfl hB rfl) ?_
  refine Reg.gpur rfl rfl rfl rfl rfl rfl (Pur.geq rfl rfl) ?_
  refine Reg.pur rfl rfl rfl rfl (Pur.pickF rfl rfl) ?_
  refine Reg.nil ?_
  refine At.cond rfl rfl (fun hb2 => ?_) (fun hb2 => ?_)
  · refine At.region rfl rfl ?_
    refine Reg.pur rfl rfl rfl rfl (Pur.asg rfl) ?_
    refine Reg.nil ?_
    refine At.ret rfl Try.func84 rfl ?_
    refine ⟨congrArg Value.bool ?_, by first | exact hn1.ext.trans hE2 | exact hn1.ext⟩
    unfold bindM
    try change (!eqs (Is row) (Is noRow)) = _ at hc5
    have hq := eqs_ints .i64 row noRow
    try simp only [decide_eq_true_eq, decide_eq_false_iff_not] at hc1
    try simp only [decide_eq_true_eq, decide_eq_false_iff_not] at hb2
    try simp only [decide_eq_true_eq, decide_eq_false_iff_not] at hc4
    try dsimp only at hb3
    dsimp only
    first | (rw [decide_eq_false (p := 0 ≤ var ∧ var < 4096) (by omega)]; rfl) | (rw [decide_eq_true (p := 0 ≤ var ∧ var < 4096) (by omega), if_pos hb3, decide_eq_false (p := nodes.length = 0) (by omega)]; rfl) | (rw [decide_eq_true (p := 0 ≤ var ∧ var < 4096) (by omega), if_pos hb3, decide_eq_true (p := nodes.length = 0) (by omega)]; rfl) | (rw [decide_eq_true (p := 0 ≤ var ∧ var < 4096) (by omega), if_neg (by rw [hb3]; decide), ← hq]; generalize eqs (Is row) (Is noRow) = q at *; cases q <;> simp_all; done)
  refine At.region rfl rfl ?_
  refine Reg.pur rfl rfl rfl rfl (Pur.fld _ fo49_1 rfl) ?_
  refine Reg.lod rfl rfl rfl rfl (Lod.ld sc4 rfl hB rfl) ?_
  refine Reg.nil ?_
  refine At.cond rfl rfl (fun hb3 => ?_) (fun hb3 => ?_)
  · refine At.region rfl rfl ?_
    refine Reg.pur rfl rfl rfl rfl (Pur.fld _ fo49_2 rfl) ?_
    refine Reg.pur rfl rfl rfl rfl (Pur.fld _ fo25_0 rfl) ?_
    refine Reg.lod rfl rfl rfl rfl (Lod.ld sc23 rfl hB rfl) ?_
    refine Reg.pur rfl rfl rfl rfl (Pur.lenS isl23 rfl) ?_
    refine Reg.pur rfl rfl rfl rfl (Pur.gtr rfl rfl) ?_
    refine Reg.pur rfl rfl rfl rfl (Pur.mv rfl) ?_
    refine Reg.case 18 rfl (fun hc4 => ?_) (fun hc4 => ?_)
    · refine Reg.skip rfl rfl rfl rfl rfl rfl rfl ?_
      refine Reg.skip rfl rfl rfl rfl rfl rfl rfl ?_
      refine Reg.skip rfl rfl rfl rfl rfl rfl rfl ?_
      refine Reg.skip rfl rfl rfl rfl rfl rfl rfl ?_
      refine Reg.pur rfl rfl rfl rfl (Pur.pickT rfl rfl) ?_
      refine Reg.pur rfl rfl rfl rfl (Pur.asg rfl) ?_
      refine Reg.nil ?_
      refine At.ret rfl Try.func84 rfl ?_
      refine ⟨congrArg Value.bool ?_, by first | exact hn1.ext.trans hE2 | exact hn1.ext⟩
      unfold bindM
      try change (!eqs (Is row) (Is noRow)) = _ at hc5
      have hq := eqs_ints .i64 row noRow
      try simp only [decide_eq_true_eq, decide_eq_false_iff_not] at hc1
      try simp only [decide_eq_true_eq, decide_eq_false_iff_not] at hb2
      try simp only [decide_eq_true_eq, decide_eq_false_iff_not] at hc4
      try dsimp only at hb3
      dsimp only
      first | (rw [decide_eq_false (p := 0 ≤ var ∧ var < 4096) (by omega)]; rfl) | (rw [decide_eq_true (p := 0 ≤ var ∧ var < 4096) (by omega), if_pos hb3, decide_eq_false (p := nodes.length = 0) (by omega)]; rfl) | (rw [decide_eq_true (p := 0 ≤ var ∧ var < 4096) (by omega), if_pos hb3, decide_eq_true (p := nodes.length = 0) (by omega)]; rfl) | (rw [decide_eq_true (p := 0 ≤ var ∧ var < 4096) (by omega), if_neg (by rw [hb3]; decide), ← hq]; generalize eqs (Is row) (Is noRow) = q at *; cases q <;> simp_all; done)
    refine Reg.gpur rfl rfl rfl rfl rfl rfl (Pur.fld _ fo49_3 rfl) ?_
    refine Reg.glod rfl rfl rfl rfl rfl rfl (Lod.ldn ag28 rfl hB (show (Is row).take 5 = Is row from List.take_of_length_le (by simp [hrl])) (by simp [hrl])) ?_
    refine Reg.gop rfl rfl rfl rfl rfl rfl (Does.call rfl (rowMay_ok row hrl _)) ?_
    rintro _ H2 ⟨rfl, hE2⟩
    refine Reg.gpur rfl rfl rfl rfl rfl rfl (Pur.not rfl) ?_
    refine Reg.pur rfl rfl rfl rfl (Pur.pickF rfl rfl) ?_
    refine Reg.pur rfl rfl rfl rfl (Pur.asg rfl) ?_
    refine Reg.nil ?_
    refine At.ret rfl Try.func84 rfl ?_
    refine ⟨congrArg Value.bool ?_, by first | exact hn1.ext.trans hE2 | exact hn1.ext⟩
    unfold bindM
    try change (!eqs (Is row) (Is noRow)) = _ at hc5
    have hq := eqs_ints .i64 row noRow
    try simp only [decide_eq_true_eq, decide_eq_false_iff_not] at hc1
    try simp only [decide_eq_true_eq, decide_eq_false_iff_not] at hb2
    try simp only [decide_eq_true_eq, decide_eq_false_iff_not] at hc4
    try dsimp only at hb3
    dsimp only
    first | (rw [decide_eq_false (p := 0 ≤ var ∧ var < 4096) (by omega)]; rfl) | (rw [decide_eq_true (p := 0 ≤ var ∧ var < 4096) (by omega), if_pos hb3, decide_eq_false (p := nodes.length = 0) (by omega)]; rfl) | (rw [decide_eq_true (p := 0 ≤ var ∧ var < 4096) (by omega), if_pos hb3, decide_eq_true (p := nodes.length = 0) (by omega)]; rfl) | (rw [decide_eq_true (p := 0 ≤ var ∧ var < 4096) (by omega), if_neg (by rw [hb3]; decide), ← hq]; generalize eqs (Is row) (Is noRow) = q at *; cases q <;> simp_all; done)
  refine At.region rfl rfl ?_
  refine Reg.pur rfl rfl rfl rfl (Pur.fld _ fo49_3 rfl) ?_
  refine Reg.lod rfl rfl rfl rfl (Lod.ldn ag28 rfl hB (show (Is row).take 5 = Is row from List.take_of_length_le (by simp [hrl])) (by simp [hrl])) ?_
  refine Reg.pur rfl rfl rfl rfl (Pur.bld (cs := [_, _, _, _, _]) pl28 zc28 rfl rfl ⟨rfl, rfl, rfl, rfl, rfl, rfl⟩) ?_
  refine Reg.pur rfl rfl rfl rfl (Pur.neA eqt28 rfl rfl hf (fks_ints .i64 noRow)) ?_
  refine Reg.pur rfl rfl rfl rfl (Pur.mv rfl) ?_
  refine Reg.case 28 rfl (fun hc5 => ?_) (fun hc5 => ?_)
  · refine Reg.skip rfl rfl rfl rfl rfl rfl rfl ?_
    refine Reg.skip rfl rfl rfl rfl rfl rfl rfl ?_
    refine Reg.skip rfl rfl rfl rfl rfl rfl rfl ?_
    refine Reg.skip rfl rfl rfl rfl rfl rfl rfl ?_
    refine Reg.pur rfl rfl rfl rfl (Pur.pickT rfl rfl) ?_
    refine Reg.pur rfl rfl rfl rfl (Pur.asg rfl) ?_
    refine Reg.nil ?_
    refine At.ret rfl Try.func84 rfl ?_
    refine ⟨congrArg Value.bool ?_, by first | exact hn1.ext.trans hE2 | exact hn1.ext⟩
    unfold bindM
    try change (!eqs (Is row) (Is noRow)) = _ at hc5
    have hq := eqs_ints .i64 row noRow
    try simp only [decide_eq_true_eq, decide_eq_false_iff_not] at hc1
    try simp only [decide_eq_true_eq, decide_eq_false_iff_not] at hb2
    try simp only [decide_eq_true_eq, decide_eq_false_iff_not] at hc4
    try dsimp only at hb3
    dsimp only
    first | (rw [decide_eq_false (p := 0 ≤ var ∧ var < 4096) (by omega)]; rfl) | (rw [decide_eq_true (p := 0 ≤ var ∧ var < 4096) (by omega), if_pos hb3, decide_eq_false (p := nodes.length = 0) (by omega)]; rfl) | (rw [decide_eq_true (p := 0 ≤ var ∧ var < 4096) (by omega), if_pos hb3, decide_eq_true (p := nodes.length = 0) (by omega)]; rfl) | (rw [decide_eq_true (p := 0 ≤ var ∧ var < 4096) (by omega), if_neg (by rw [hb3]; decide), ← hq]; generalize eqs (Is row) (Is noRow) = q at *; cases q <;> simp_all; done)
  refine Reg.gpur rfl rfl rfl rfl rfl rfl (Pur.fld _ fo49_2 rfl) ?_
  refine Reg.glod rfl rfl rfl rfl rfl rfl (Lod.ldn ag25 rfl hB (show _ = [Value.slice A nodes.length cap] from rfl) rfl) ?_
  refine Reg.gop rfl rfl rfl rfl rfl rfl (Does.call rfl (typMay_ok nodes hnn (hsl.ext hn1.ext) hmm)) ?_
  rintro _ H2 ⟨rfl, hE2⟩
  refine Reg.gpur rfl rfl rfl rfl rfl rfl (Pur.not rfl) ?_
  refine Reg.pur rfl rfl rfl rfl (Pur.pickF rfl rfl) ?_
  refine Reg.pur rfl rfl rfl rfl (Pur.asg rfl) ?_
  refine Reg.nil ?_
  refine At.ret rfl Try.func84 rfl ?_
  refine ⟨congrArg Value.bool ?_, by first | exact hn1.ext.trans hE2 | exact hn1.ext⟩
  unfold bindM
  try change (!eqs (Is row) (Is noRow)) = _ at hc5
  have hq := eqs_ints .i64 row noRow
  try simp only [decide_eq_true_eq, decide_eq_false_iff_not] at hc1
  try simp only [decide_eq_true_eq, decide_eq_false_iff_not] at hb2
  try simp only [decide_eq_true_eq, decide_eq_false_iff_not] at hc4
  try dsimp only at hb3
  dsimp only
  first | (rw [decide_eq_false (p := 0 ≤ var ∧ var < 4096) (by omega)]; rfl) | (rw [decide_eq_true (p := 0 ≤ var ∧ var < 4096) (by omega), if_pos hb3, decide_eq_false (p := nodes.length = 0) (by omega)]; rfl) | (rw [decide_eq_true (p := 0 ≤ var ∧ var < 4096) (by omega), if_pos hb3, decide_eq_true (p := nodes.length = 0) (by omega)]; rfl) | (rw [decide_eq_true (p := 0 ≤ var ∧ var < 4096) (by omega), if_neg (by rw [hb3]; decide), ← hq]; generalize eqs (Is row) (Is noRow) = q at *; cases q <;> simp_all; done)
end Go.Proofs.Ytlfillhffpiffaa

namespace Go.Proofs.Ytlfillhffpiffaa
set_option linter.unusedSimpArgs false
set_option linter.unusedVariables false
set_option maxRecDepth 8000
open Go Go.Fx Go.Proofs
namespace FactsSubB
theorem ag25 : ag Try.prog 25 = some 1 := by kernel_rfl
theorem ag28 : ag Try.prog 28 = some 5 := by kernel_rfl
theorem ag49 : ag Try.prog 49 = some 8 := by kernel_rfl
theorem eqt28 : eqT Try.prog 28 = some [.int .i64, .int .i64, .int .i64, .int .i64, .int .i64] := by kernel_rfl
theorem es22 : esz Try.prog 22 = some 8 := by kernel_rfl
theorem fo25_0 : foff Try.prog 25 0 = some 0 := by kernel_rfl
theorem fo49_0 : foff Try.prog 49 0 = some 0 := by kernel_rfl
theorem fo49_1 : foff Try.prog 49 1 = some 1 := by kernel_rfl
theorem fo49_2 : foff Try.prog 49 2 = some 2 := by kernel_rfl
theorem fo49_3 : foff Try.prog 49 3 = some 3 := by kernel_rfl
theorem isl22 : isSl Try.prog 22 = true := by kernel_rfl
theorem isl23 : isSl Try.prog 23 = true := by kernel_rfl
theorem pl28 : places Try.prog 28 = some [(0, 4), (4, 1)] := by kernel_rfl
theorem sc23 : sc Try.prog 23 = true := by kernel_rfl
theorem sc3 : sc Try.prog 3 = true := by kernel_rfl
theorem sc4 : sc Try.prog 4 = true := by kernel_rfl
theorem zc28 : zc Try.prog 28 = some [.int .i64 0, .int .i64 0, .int .i64 0, .int .i64 0, .int .i64 0] := by kernel_rfl
theorem zc49 : zc Try.prog 49 = some [.int .i64 0, .bool false, .slice none 0 0, .int .i64 0, .int .i64 0, .int .i64 0, .int .i64 0, .int .i64 0] := by kernel_rfl
end FactsSubB
open FactsSubB

structure Bds (H : Heap) (v : Value) (L : List Bd) : Prop where
  sl : SlT H encB 8 v L
  ok : ∀ b ∈ L, b.Ok H
  fits : L.length * 80 ≤ 140737488351232
theorem Bds.ext {H H' : Heap} {v : Value} {L : List Bd} (h : Bds H v L) (he : Ext H H') : Bds H' v L := ⟨h.sl.ext he, fun b hb => (h.ok b hb).ext he, h.fits⟩
theorem Bds.wide {H : Heap} {v : Value} {L : List Bd} (h : Bds H v L) : Wide encB 8 L := fun b hb => (h.ok b hb).len
theorem Bds.max {H : Heap} {v : Value} {L : List Bd} (h : Bds H v L) : L.length ≤ 9223372036854775807 := by have := h.fits; omega
theorem Bds.at {H : Heap} {A : Option Addr} {cap : Nat} {L : List Bd} (h : Bds H (.slice A L.length cap) L) {i : Nat} (hi : i < L.length) :
    ∃ b o c, A = some ⟨b, o, none⟩ ∧ Blk H b c ∧ (c.drop (o + i * 8)).take 8 = encB L[i] ∧ L[i].Ok H := by
  obtain ⟨b, o, c, h1, h2, h3, _⟩ := sl_at h.wide h.sl hi
  exact ⟨b, o, c, h1, h2, h3, h.ok _ (List.getElem_mem hi)⟩
theorem Bds.lt {H : Heap} {b o cap : Nat} {L : List Bd} (h : Bds H (.slice (some ⟨b, o, none⟩) L.length cap) L) (h0 : 0 < L.length) : b < H.size := by
  obtain ⟨b', o', c, e, h2, _⟩ := h.at h0
  cases e; exact h2.lt
def bindsM (L : List Bd) : Bool := decide (L.length ≤ 4096) && L.all bindM

theorem indexFuncB_ok {A : Option Addr} {cap : Nat} {L : List Bd} {H : Heap} (hS : Bds H (.slice A L.length cap) L) :
    Ret Try.prog 119 [.slice A L.length cap, .func (.func 84) #[] #[]] H (fun v H' => (∃ r, v = I r ∧ decide (0 ≤ r) = !L.all bindM) ∧ Ext H H') := by
  have hm := hS.max
  refine Ret.of_at (N := 19) Try.call119 Try.func119 rfl rfl rfl ?_
  refine At.region rfl rfl ?_
  refine Reg.pur rfl rfl rfl rfl (Pur.asg rfl) ?_
  refine Reg.nil ?_
  refine At.region rfl rfl ?_
  refine Reg.pur rfl rfl rfl rfl (Pur.mv rfl) ?_
  refine Reg.pur rfl rfl rfl rfl (Pur.lenS isl22 rfl) ?_
  refine Reg.pur rfl rfl rfl rfl (Pur.mv rfl) ?_
  refine Reg.nil ?_
  refine At.loop (σ := Nat) (fun i => [(8, I i), (7, I L.length), (0, .slice A L.length cap), (1, .func (.func 84) #[] #[])]) (fun i H' => i ≤ L.length ∧ Ext H H' ∧ (L.take i).all bindM = true) (fun i => L.length - i) 0 rfl ⟨rfl, rfl, rfl, rfl, trivial⟩ ⟨by omega, Ext.refl _, rfl⟩ ?_
  rintro i H1 ⟨hi, hE, hgo⟩ ih
  refine At.region rfl rfl ?_
  refine Reg.pur rfl rfl rfl rfl (Pur.lss rfl rfl) ?_
  refine Reg.nil ?_
  refine At.cond rfl rfl (fun hb1 => ?_) (fun hb1 => ?_)
  · refine At.region rfl rfl ?_
    refine Reg.pur rfl rfl rfl rfl (Pur.mv rfl) ?_
    refine Reg.pur rfl rfl rfl rfl (Pur.asg rfl) ?_
    refine Reg.nil ?_
    simp only [decide_eq_true_eq] at hb1
    have hlt : i < L.length := by omega
    obtain ⟨b, o, c, rfl, hB, hd, hok⟩ := (hS.ext hE).at hlt
    refine At.region rfl rfl ?_
    refine Reg.pur rfl rfl rfl rfl (Pur.mv rfl) ?_
    refine Reg.pur rfl rfl rfl rfl (Pur.mv rfl) ?_
    refine Reg.pur rfl rfl rfl rfl (Pur.mv rfl) ?_
    refine Reg.pur rfl rfl rfl rfl (Pur.idx _ es22 rfl rfl (by omega) hb1) ?_
    refine Reg.lod rfl rfl rfl rfl (Lod.ldn ag49 rfl hB hd hok.len) ?_
    refine Reg.op rfl rfl rfl rfl (Does.callv rfl rfl (not_ok L[i] hok)) ?_
    rintro _ H2 ⟨rfl, hE2⟩
    refine Reg.nil ?_
    refine At.cond rfl rfl (fun hb2 => ?_) (fun hb2 => ?_)
    · refine At.region rfl rfl ?_
      refine Reg.pur rfl rfl rfl rfl (Pur.mv rfl) ?_
      refine Reg.pur rfl rfl rfl rfl (Pur.asg rfl) ?_
      refine Reg.nil ?_
      refine At.ret rfl Try.func119 rfl ?_
      first | exact ⟨⟨_, rfl, by rw [all_of_take hlt (by simpa using hb2)]; simp⟩, hE.trans hE2⟩ | exact ⟨⟨_, rfl, by simp only [decide_eq_false_iff_not] at *; rw [List.take_of_length_le (by omega)] at hgo; rw [hgo]; rfl⟩, hE⟩
    refine At.region rfl rfl ?_
    first | refine Reg.pur rfl rfl rfl rfl (Pur.add64 rfl rfl (by omega)) ?_ | refine Reg.pur rfl rfl rfl rfl (Pur.add64 rfl rfl (by assumption)) ?_ | refine Reg.pur rfl rfl rfl rfl (Pur.add rfl rfl) ?_
    refine Reg.pur rfl rfl rfl rfl (Pur.mv rfl) ?_
    refine Reg.nil ?_
    refine At.via (ih (i + 1) H2 ⟨by omega, hE.trans hE2, ?_⟩ (by omega)) ⟨rfl, rfl, rfl, rfl, trivial⟩
    rw [all_take hlt, hgo]; simpa using hb2
  refine At.region rfl rfl ?_
  refine Reg.pur rfl rfl rfl rfl (Pur.asg rfl) ?_
  refine Reg.nil ?_
  refine At.ret rfl Try.func119 rfl ?_
  first | exact ⟨⟨_, rfl, by rw [all_of_take hlt (by simpa using hb2)]; simp⟩, hE.trans hE2⟩ | exact ⟨⟨_, rfl, by simp only [decide_eq_false_iff_not] at *; rw [List.take_of_length_le (by omega)] at hgo; rw [hgo]; rfl⟩, hE⟩

theorem containsFuncB_ok {A : Option Addr} {cap : Nat} {L : List Bd} {H : Heap} (hS : Bds H (.slice A L.length cap) L) :
    Ret Try.prog 83 [.slice A L.length cap, .func (.func 84) #[] #[]] H (fun v H' => v = .bool (!L.all bindM) ∧ Ext H H') := by
  refine Ret.of_at (N := 9) Try.call83 Try.func83 rfl rfl rfl ?_
  refine At.region rfl rfl ?_
  refine Reg.pur rfl rfl rfl rfl (Pur.asg rfl) ?_
  refine Reg.nil ?_
  refine At.region rfl rfl ?_
  refine Reg.pur rfl rfl rfl rfl (Pur.mv rfl) ?_
  refine Reg.pur rfl rfl rfl rfl (Pur.mv rfl) ?_
  refine Reg.op rfl rfl rfl rfl (Does.call rfl (indexFuncB_ok hS)) ?_
  rintro _ H1 ⟨⟨r, rfl, hr⟩, hE⟩
  refine Reg.pur rfl rfl rfl rfl (Pur.geq rfl rfl) ?_
  refine Reg.pur rfl rfl rfl rfl (Pur.asg rfl) ?_
  refine Reg.nil ?_
  refine At.ret rfl Try.func83 rfl ?_
  exact ⟨congrArg Value.bool hr, hE⟩

theorem bindsMay_ok {A : Option Addr} {cap : Nat} {L : List Bd} {H : Heap} (hS : Bds H (.slice A L.length cap) L) :
    Ret Try.prog 53 [.slice A L.length cap] H (fun v H' => v = .bool (bindsM L) ∧ Ext H H') := by
  refine Ret.of_at (N := 11) Try.call53 Try.func53 rfl rfl rfl ?_
  refine At.region rfl rfl ?_
  refine Reg.pur rfl rfl rfl rfl (Pur.asg rfl) ?_
  refine Reg.nil ?_
  refine At.region rfl rfl ?_
  refine Reg.pur rfl rfl rfl rfl (Pur.mv rfl) ?_
  refine Reg.pur rfl rfl rfl rfl (Pur.lenS isl22 rfl) ?_
  refine Reg.pur rfl rfl rfl rfl (Pur.leq rfl rfl) ?_
  refine Reg.pur rfl rfl rfl rfl (Pur.mv rfl) ?_
  refine Reg.case 6 rfl (fun hc1 => ?_) (fun hc1 => ?_)
  · refine Reg.gpur rfl rfl rfl rfl rfl rfl (Pur.mv rfl) ?_
    refine Reg.gop rfl rfl rfl rfl rfl rfl (Does.call rfl (containsFuncB_ok hS)) ?_
    rintro _ H1 ⟨rfl, hE⟩
    refine Reg.gpur rfl rfl rfl rfl rfl rfl (Pur.not rfl) ?_
    refine Reg.pur rfl rfl rfl rfl (Pur.pickT rfl rfl) ?_
    refine Reg.pur rfl rfl rfl rfl (Pur.asg rfl) ?_
    refine Reg.nil ?_
    refine At.ret rfl Try.func53 rfl ?_
    refine ⟨congrArg Value.bool ?_, by first | exact hE | exact Ext.refl _⟩
    unfold bindsM
    simp only [decide_eq_true_eq, decide_eq_false_iff_not] at hc1
    first | (rw [decide_eq_true (p := L.length ≤ 4096) (by omega)]; simp; done) | (rw [decide_eq_false (p := L.length ≤ 4096) (by omega)]; rfl)
  refine Reg.skip rfl rfl rfl rfl rfl rfl rfl ?_
  refine Reg.skip rfl rfl rfl rfl rfl rfl rfl ?_
  refine Reg.skip rfl rfl rfl rfl rfl rfl rfl ?_
  refine Reg.pur rfl rfl rfl rfl (Pur.pickF rfl rfl) ?_
  refine Reg.pur rfl rfl rfl rfl (Pur.asg rfl) ?_
  refine Reg.nil ?_
  refine At.ret rfl Try.func53 rfl ?_
  refine ⟨congrArg Value.bool ?_, by first | exact hE | exact Ext.refl _⟩
  unfold bindsM
  simp only [decide_eq_true_eq, decide_eq_false_iff_not] at hc1
  first | (rw [decide_eq_true (p := L.length ≤ 4096) (by omega)]; simp; done) | (rw [decide_eq_false (p := L.length ≤ 4096) (by omega)]; rfl)

def mt (r : Bool) (v : Int) (b : Bd) : Bool := b.isRow == r && decide (b.var = v)
theorem find_ok {A : Option Addr} {cap : Nat} {L : List Bd} {H : Heap} (hS : Bds H (.slice A L.length cap) L) (r : Bool) (n : Int) :
    Ret Try.prog 87 [.slice A L.length cap, .bool r, I n] H (fun v H' => H' = H ∧ ∃ a, v = .pointer a ∧ match L.find? (mt r n) with
      | none => a = none
      | some bd => ∃ b o c, a = some ⟨b, o, none⟩ ∧ Blk H b c ∧ (c.drop o).take 8 = encB bd ∧ bd.Ok H ∧ ∃ oa, A = some ⟨b, oa, none⟩) := by
  have hm := hS.max
  refine Ret.of_at (N := 33) Try.call87 Try.func87 rfl rfl rfl ?_
  refine At.region rfl rfl ?_
  refine Reg.pur rfl rfl rfl rfl (Pur.asg rfl) ?_
  refine Reg.nil ?_
  refine At.region rfl rfl ?_
  refine Reg.pur rfl rfl rfl rfl (Pur.mv rfl) ?_
  refine Reg.pur rfl rfl rfl rfl (Pur.lenS isl22 rfl) ?_
  refine Reg.pur rfl rfl rfl rfl (Pur.mv rfl) ?_
  refine Reg.nil ?_
  refine At.loop (σ := Nat) (fun i => [(10, I i), (9, I L.length), (0, .slice A L.length cap), (1, .bool r), (2, I n)]) (fun i H' => i ≤ L.length ∧ H' = H ∧ (L.drop i).find? (mt r n) = L.find? (mt r n)) (fun i => L.length - i) 0 rfl ⟨rfl, rfl, rfl, rfl, rfl, trivial⟩ ⟨by omega, rfl, rfl⟩ ?_
  rintro i H ⟨hi, rfl, hgo⟩ ih
  refine At.region rfl rfl ?_
  refine Reg.pur rfl rfl rfl rfl (Pur.lss rfl rfl) ?_
  refine Reg.nil ?_
  refine At.cond rfl rfl (fun hb1 => ?_) (fun hb1 => ?_)
  · refine At.region rfl rfl ?_
    refine Reg.pur rfl rfl rfl rfl (Pur.mv rfl) ?_
    refine Reg.pur rfl rfl rfl rfl (Pur.asg rfl) ?_
    refine Reg.nil ?_
    simp only [decide_eq_true_eq] at hb1
    have hlt : i < L.length := by omega
    obtain ⟨b, o, c, rfl, hB, hd, hok⟩ := hS.at hlt
    rw [dropL hlt, List.find?_cons] at hgo
    generalize L[i] = bd at *
    refine At.region rfl rfl ?_
    refine Reg.pur rfl rfl rfl rfl (Pur.mv rfl) ?_
    refine Reg.pur rfl rfl rfl rfl (Pur.mv rfl) ?_
    refine Reg.pur rfl rfl rfl rfl (Pur.idx _ es22 rfl rfl (by omega) hb1) ?_
    refine Reg.pur rfl rfl rfl rfl (Pur.fld _ fo49_1 rfl) ?_
    refine Reg.lod rfl rfl rfl rfl (Lod.ld sc4 rfl hB (at_tk (j := 1) hd (by decide) rfl)) ?_
    refine Reg.pur rfl rfl rfl rfl (Pur.mv rfl) ?_
    refine Reg.pur rfl rfl rfl rfl (Pur.eqB Try.underlying4 rfl rfl) ?_
    refine Reg.pur rfl rfl rfl rfl (Pur.mv rfl) ?_
    refine Reg.case 20 rfl (fun hc2 => ?_) (fun hc2 => ?_)
    · refine Reg.gpur rfl rfl rfl rfl rfl rfl (Pur.mv rfl) ?_
      refine Reg.gpur rfl rfl rfl rfl rfl rfl (Pur.mv rfl) ?_
      refine Reg.gpur rfl rfl rfl rfl rfl rfl (Pur.idx _ es22 rfl rfl (by omega) hb1) ?_
      refine Reg.gpur rfl rfl rfl rfl rfl rfl (Pur.fld _ fo49_0 rfl) ?_
      refine Reg.glod rfl rfl rfl rfl rfl rfl (Lod.ld sc3 rfl hB (at_tk (j := 0) hd (by decide) rfl)) ?_
      refine Reg.gpur rfl rfl rfl rfl rfl rfl (Pur.mv rfl) ?_
      refine Reg.gpur rfl rfl rfl rfl rfl rfl (Pur.eql rfl rfl) ?_
      refine Reg.pur rfl rfl rfl rfl (Pur.pickT rfl rfl) ?_
      refine Reg.nil ?_
      refine At.cond rfl rfl (fun hb3 => ?_) (fun hb3 => ?_)
      · refine At.region rfl rfl ?_
        refine Reg.pur rfl rfl rfl rfl (Pur.mv rfl) ?_
        refine Reg.pur rfl rfl rfl rfl (Pur.mv rfl) ?_
        refine Reg.pur rfl rfl rfl rfl (Pur.idx _ es22 rfl rfl (by omega) hb1) ?_
        refine Reg.pur rfl rfl rfl rfl (Pur.asg rfl) ?_
        refine Reg.nil ?_
        refine At.ret rfl Try.func87 rfl ?_
        first | (refine ⟨rfl, ?_⟩; rw [← hgo, show mt r n bd = true by simp_all [mt]]; exact ⟨_, rfl, b, _, c, rfl, hB, hd, hok, _, rfl⟩) | (refine ⟨rfl, ?_⟩; simp only [decide_eq_false_iff_not] at hb1; rw [List.drop_of_length_le (by omega)] at hgo; rw [← hgo]; exact ⟨none, rfl, rfl⟩)
      refine At.region rfl rfl ?_
      first | refine Reg.pur rfl rfl rfl rfl (Pur.add64 rfl rfl (by omega)) ?_ | refine Reg.pur rfl rfl rfl rfl (Pur.add64 rfl rfl (by assumption)) ?_ | refine Reg.pur rfl rfl rfl rfl (Pur.add rfl rfl) ?_
      refine Reg.pur rfl rfl rfl rfl (Pur.mv rfl) ?_
      refine Reg.nil ?_
      refine At.via (ih (i + 1) _ ⟨by omega, rfl, ?_⟩ (by omega)) ⟨rfl, rfl, rfl, rfl, rfl, trivial⟩
      rw [← hgo, show mt r n bd = false by simp_all [mt]]
    refine Reg.skip rfl rfl rfl rfl rfl rfl rfl ?_
    refine Reg.skip rfl rfl rfl rfl rfl rfl rfl ?_
    refine Reg.skip rfl rfl rfl rfl rfl rfl rfl ?_
    refine Reg.skip rfl rfl rfl rfl rfl rfl rfl ?_
    refine Reg.skip rfl rfl rfl rfl rfl rfl rfl ?_
    refine Reg.skip rfl rfl rfl rfl rfl rfl rfl ?_
    refine Reg.skip rfl rfl rfl rfl rfl rfl rfl ?_
    refine Reg.pur rfl rfl rfl rfl (Pur.pickF rfl rfl) ?_
    refine Reg.nil ?_
    refine At.condF rfl rfl rfl ?_
    refine At.region rfl rfl ?_
    first | refine Reg.pur rfl rfl rfl rfl (Pur.add64 rfl rfl (by omega)) ?_ | refine Reg.pur rfl rfl rfl rfl (Pur.add64 rfl rfl (by assumption)) ?_ | refine Reg.pur rfl rfl rfl rfl (Pur.add rfl rfl) ?_
    refine Reg.pur rfl rfl rfl rfl (Pur.mv rfl) ?_
    refine Reg.nil ?_
    refine At.via (ih (i + 1) _ ⟨by omega, rfl, ?_⟩ (by omega)) ⟨rfl, rfl, rfl, rfl, rfl, trivial⟩
    rw [← hgo, show mt r n bd = false by simp_all [mt]]
  refine At.region rfl rfl ?_
  refine Reg.pur rfl rfl rfl rfl (Pur.asg rfl) ?_
  refine Reg.nil ?_
  refine At.ret rfl Try.func87 rfl ?_
  first | (refine ⟨rfl, ?_⟩; rw [← hgo, show mt r n bd = true by simp_all [mt]]; exact ⟨_, rfl, b, _, c, rfl, hB, hd, hok, _, rfl⟩) | (refine ⟨rfl, ?_⟩; simp only [decide_eq_false_iff_not] at hb1; rw [List.drop_of_length_le (by omega)] at hgo; rw [← hgo]; exact ⟨none, rfl, rfl⟩)
end Go.Proofs.Ytlfillhffpiffaa

namespace Go.Proofs.Ytlfillhffpiffaa
set_option linter.unusedSimpArgs false
set_option linter.unusedVariables false
set_option maxRecDepth 8000
open Go Go.Fx Go.Proofs
namespace FactsSubC
theorem ag26 : ag Try.prog 26 = some 4 := by kernel_rfl
theorem ag28 : ag Try.prog 28 = some 5 := by kernel_rfl
theorem arr1_26 : arr1 Try.prog 26 = some 4 := by kernel_rfl
theorem arr26 : arr Try.prog 26 = some (4, 1) := by kernel_rfl
theorem fo28_0 : foff Try.prog 28 0 = some 0 := by kernel_rfl
theorem fo28_1 : foff Try.prog 28 1 = some 4 := by kernel_rfl
theorem fo49_3 : foff Try.prog 49 3 = some 3 := by kernel_rfl
theorem isPt143 : isPt Try.prog 143 = true := by kernel_rfl
theorem pl28 : places Try.prog 28 = some [(0, 4), (4, 1)] := by kernel_rfl
theorem sc3 : sc Try.prog 3 = true := by kernel_rfl
theorem zc28 : zc Try.prog 28 = some [.int .i64 0, .int .i64 0, .int .i64 0, .int .i64 0, .int .i64 0] := by kernel_rfl
end FactsSubC
open FactsSubC

def sm (r b : List Int) (i : Nat) : Int := IntKind.i64.wrap (r.getD i 0 + b.getD i 0)
def sumR (r b : List Int) : List Int := (List.range 4).map (sm r b) ++ [b.getD 4 0]
def sumOk (r b : List Int) : Bool := (List.range 4).all fun i => decide (sm r b i ≤ 32)
def rowS (L : List Bd) (r : List Int) : List Int × Bool :=
  if r.getD 4 0 < 0 then (r, true) else match L.find? (mt true (r.getD 4 0)) with
    | none => (r, true)
    | some bd => if sumOk r bd.row then (sumR r bd.row, true) else (noRow, false)
def mixR (r b : List Int) (i : Nat) : List Int := (List.range 5).map fun j => if j < i then sm r b j else r.getD j 0
def mixO (r b : List Int) (i : Nat) : List Int := ((List.range 4).map fun j => if j < i then sm r b j else 0) ++ [b.getD 4 0]
theorem mixR_len (r b : List Int) (i : Nat) : (mixR r b i).length = 5 := by simp [mixR]
theorem mixO_len (r b : List Int) (i : Nat) : (mixO r b i).length = 5 := by simp [mixO]
theorem mixR_0 {r : List Int} (b : List Int) (h : r.length = 5) : mixR r b 0 = r := by
  match r, h with
  | [r0, r1, r2, r3, r4], _ => rfl
theorem mixR_set (r b : List Int) {i : Nat} (h : i < 4) : (mixR r b i).set i (sm r b i) = mixR r b (i + 1) := by
  match i, h with
  | 0, _ => rfl
  | 1, _ => rfl
  | 2, _ => rfl
  | 3, _ => rfl
theorem mixO_set (r b : List Int) {i : Nat} (h : i < 4) : (mixO r b i).set i (sm r b i) = mixO r b (i + 1) := by
  match i, h with
  | 0, _ => rfl
  | 1, _ => rfl
  | 2, _ => rfl
  | 3, _ => rfl
theorem mixR_at (r b : List Int) {i : Nat} (h : i < 5) : (mixR r b i).getD i 0 = r.getD i 0 := by simp [mixR, h]
theorem mixR_done (r b : List Int) {i : Nat} (h : i < 4) : (mixR r b (i + 1)).getD i 0 = sm r b i := by simp [mixR, show i < 5 by omega]
theorem mixO_done (r b : List Int) {i : Nat} (h : i < 4) : (mixO r b (i + 1)).getD i 0 = sm r b i := by
  match i, h with
  | 0, _ => rfl
  | 1, _ => rfl
  | 2, _ => rfl
  | 3, _ => rfl
theorem mixR_end (r b : List Int) : (mixR r b 4).set 4 (b.getD 4 0) = sumR r b := rfl
theorem okTo_step {r b : List Int} {i : Nat} : ((List.range (i + 1)).all fun i => decide (sm r b i ≤ 32)) = (((List.range i).all fun i => decide (sm r b i ≤ 32)) && decide (sm r b i ≤ 32)) := by
  rw [List.range_succ, List.all_append]; simp
theorem not_okTo {r b : List Int} {i : Nat} (hi : i < 4) (h : 32 < sm r b i) : sumOk r b = false := by
  cases hh : sumOk r b with
  | false => rfl
  | true =>
    simp only [sumOk, List.all_eq_true, List.mem_range, decide_eq_true_eq] at hh
    have := hh i hi; omega
theorem at5 {x : List Int} (h : x.length = 5) {j : Nat} (hj : j < 5) : (Is x)[j]? = some (I (x.getD j 0)) := at_Is (by omega)

theorem hb5' {c : List Value} {o : Nat} {bd : Bd} (hd : (c.drop o).take 8 = encB bd) (hbl : bd.row.length = 5) : c[o + 3 + 4]? = some (I (bd.row.getD 4 0)) := by
  rw [Nat.add_assoc]; exact at_tk hd (by omega) (at5 hbl (j := 4) (by omega))
theorem take4_Is {r : List Int} (h : r.length = 5) {i : Nat} (hi : i < 4) : (Is (r.take 4))[i]? = some (I (r.getD i 0)) := by
  match r, h with
  | [a, b, c, d, e], _ =>
    match i, hi with
    | 0, _ => rfl
    | 1, _ => rfl
    | 2, _ => rfl
    | 3, _ => rfl
abbrev RowB (p : List Int × Bool) : Value := .tuple #[.agg (Is p.1).toArray, .bool p.2]

theorem ret_row {L : List Bd} {r : List Int} {p : List Int × Bool} {H H' : Heap} (h : rowS L r = p) (hl : p.1.length = 5) (hE : Ext H H') : tupl [.agg (Is p.1).toArray, .bool p.2] = RowB (rowS L r) ∧ (rowS L r).1.length = 5 ∧ Ext H H' := by
  subst h; exact ⟨rfl, hl, hE⟩
theorem rowS_lo {L : List Bd} {r : List Int} (h : r.getD 4 0 < 0) : rowS L r = (r, true) := by unfold rowS; rw [if_pos h]
theorem rowS_none {L : List Bd} {r : List Int} (h : L.find? (mt true (r.getD 4 0)) = none) : rowS L r = (r, true) := by unfold rowS; rw [h]; split <;> rfl
theorem rowS_bad {L : List Bd} {r : List Int} {bd : Bd} {i : Nat} (h0 : ¬ r.getD 4 0 < 0) (hq : L.find? (mt true (r.getD 4 0)) = some bd) (hi : i < 4) (h : 32 < sm r bd.row i) : rowS L r = (noRow, false) := by
  unfold rowS; rw [if_neg h0, hq]; dsimp only; rw [not_okTo hi h]; rfl
theorem rowS_sum {L : List Bd} {r : List Int} {bd : Bd} (h0 : ¬ r.getD 4 0 < 0) (hq : L.find? (mt true (r.getD 4 0)) = some bd) (h : sumOk r bd.row = true) : rowS L r = (sumR r bd.row, true) := by
  unfold rowS; rw [if_neg h0, hq]; dsimp only; rw [h]; rfl
theorem ofRow_ok {A : Option Addr} {cap : Nat} {L : List Bd} {H : Heap} (hS : Bds H (.slice A L.length cap) L) (r : List Int) (hr : r.length = 5) (ht : -1 ≤ r.getD 4 0) :
    Ret Try.prog 59 [.slice A L.length cap, .agg (Is r).toArray] H (fun v H' => v = RowB (rowS L r) ∧ (rowS L r).1.length = 5 ∧ Ext H H') := by
  refine Ret.of_at (N := 51) Try.call59 Try.func59 rfl rfl rfl ?_
  refine At.region rfl rfl ?_
  refine Reg.op rfl rfl rfl rfl (Does.box rfl rfl) ?_
  rintro _ H1 ⟨rfl, hn1⟩
  refine Reg.op rfl rfl rfl rfl (Does.alloc zc28) ?_
  rintro _ H2 ⟨rfl, hn2⟩
  refine Reg.pur rfl rfl rfl rfl (Pur.asg rfl) ?_
  refine Reg.nil ?_
  have hlt := hn1.own.lt
  have hX := hn1.own.ext hn2.ext
  have hR0 := hn2.own
  have hE2 := hn1.ext.trans hn2.ext
  refine At.region rfl rfl ?_
  refine Reg.pur rfl rfl rfl rfl (Pur.fld _ fo28_1 rfl) ?_
  refine Reg.lod rfl rfl rfl rfl (Lod.ld sc3 rfl hX.blk (at5 hr (by omega))) ?_
  refine Reg.pur rfl rfl rfl rfl (Pur.eql rfl rfl) ?_
  refine Reg.nil ?_
  refine At.cond rfl rfl (fun hb1 => ?_) (fun hb1 => ?_)
  · refine At.region rfl rfl ?_
    refine Reg.lod rfl rfl rfl rfl (Lod.ldn ag28 rfl hX.blk (whole (by simp [hr])) (by simp [hr])) ?_
    refine Reg.op0 rfl rfl rfl (Does.stn ag28 rfl rfl (ones_Is _) (by simp [hr]) hR0 (by simp)) ?_
    rintro _ H3 hu3
    refine Reg.pur rfl rfl rfl rfl (Pur.asg rfl) ?_
    refine Reg.nil ?_
    have hR : Own H3 H1.size (Is r) := by have := hu3.own; rwa [over (by rfl)] at this
    have hE3 := hE2.upd hu3 (by have := hn1.ext.1; omega)
    have hRl : (Is r).length = 5 := by simp [hr]
    refine At.retC rfl Try.func59 ⟨_, _, _, _, rfl, rfl, ⟨_, hR.blk, .inr ⟨_, _, ag28, (whole hRl), hRl, rfl⟩⟩, ⟨_, _, rfl, rfl, rfl⟩⟩ ?_
    first | exact ret_row (rowS_lo (by have h1 : r.getD 4 0 = -1 := of_decide_eq_true hb1; omega)) hr hE3 | exact ret_row (rowS_none (by cases hq : L.find? (mt true (r.getD 4 0)) with | none => rfl | some bd => (rw [hq] at hf; obtain ⟨b, o, c, rfl, _⟩ := hf; cases hb2))) hr hE3 | exact ret_row (rowS_bad (by have h1 : ¬ r.getD 4 0 = -1 := of_decide_eq_false hb1; omega) hq hi4 (of_decide_eq_true hb4)) rfl hE7 | exact ret_row (rowS_sum (by have h1 : ¬ r.getD 4 0 = -1 := of_decide_eq_false hb1; omega) hq hgo) rfl hE7
  refine At.region rfl rfl ?_
  refine Reg.pur rfl rfl rfl rfl (Pur.mv rfl) ?_
  refine Reg.pur rfl rfl rfl rfl (Pur.fld _ fo28_1 rfl) ?_
  refine Reg.lod rfl rfl rfl rfl (Lod.ld sc3 rfl hX.blk (at5 hr (by omega))) ?_
  refine Reg.op rfl rfl rfl rfl (Does.call rfl (find_ok (hS.ext hE2) true (r.getD 4 0))) ?_
  rintro _ H2 ⟨rfl, a, rfl, hf⟩
  refine Reg.pur rfl rfl rfl rfl (Pur.asg rfl) ?_
  refine Reg.nil ?_
  refine At.region rfl rfl ?_
  refine Reg.pur rfl rfl rfl rfl (Pur.mv rfl) ?_
  refine Reg.pur rfl rfl rfl rfl (Pur.eqPN isPt143 rfl rfl) ?_
  refine Reg.nil ?_
  refine At.cond rfl rfl (fun hb2 => ?_) (fun hb2 => ?_)
  · refine At.region rfl rfl ?_
    refine Reg.lod rfl rfl rfl rfl (Lod.ldn ag28 rfl hX.blk (whole (by simp [hr])) (by simp [hr])) ?_
    refine Reg.op0 rfl rfl rfl (Does.stn ag28 rfl rfl (ones_Is _) (by simp [hr]) hR0 (by simp)) ?_
    rintro _ H3 hu3
    refine Reg.pur rfl rfl rfl rfl (Pur.asg rfl) ?_
    refine Reg.nil ?_
    have hR : Own H3 H1.size (Is r) := by have := hu3.own; rwa [over (by rfl)] at this
    have hE3 := hE2.upd hu3 (by have := hn1.ext.1; omega)
    have hRl : (Is r).length = 5 := by simp [hr]
    refine At.retC rfl Try.func59 ⟨_, _, _, _, rfl, rfl, ⟨_, hR.blk, .inr ⟨_, _, ag28, (whole hRl), hRl, rfl⟩⟩, ⟨_, _, rfl, rfl, rfl⟩⟩ ?_
    first | exact ret_row (rowS_lo (by have h1 : r.getD 4 0 = -1 := of_decide_eq_true hb1; omega)) hr hE3 | exact ret_row (rowS_none (by cases hq : L.find? (mt true (r.getD 4 0)) with | none => rfl | some bd => (rw [hq] at hf; obtain ⟨b, o, c, rfl, _⟩ := hf; cases hb2))) hr hE3 | exact ret_row (rowS_bad (by have h1 : ¬ r.getD 4 0 = -1 := of_decide_eq_false hb1; omega) hq hi4 (of_decide_eq_true hb4)) rfl hE7 | exact ret_row (rowS_sum (by have h1 : ¬ r.getD 4 0 = -1 := of_decide_eq_false hb1; omega) hq hgo) rfl hE7
  obtain ⟨bd, hq, b, o, c, rfl, hB, hd, hok, oa, rfl⟩ : ∃ bd, L.find? (mt true (r.getD 4 0)) = some bd ∧ ∃ b o c, a = some ⟨b, o, none⟩ ∧ Blk H2 b c ∧ (c.drop o).take 8 = encB bd ∧ bd.Ok H2 ∧ ∃ oa, A = some ⟨b, oa, none⟩ := by
    cases hq : L.find? (mt true (r.getD 4 0)) with
    | none => rw [hq] at hf; subst hf; cases hb2
    | some bd => rw [hq] at hf; exact ⟨bd, rfl, hf⟩
  have hbl := hok.row
  have hb0 := hS.lt (by cases L with | nil => cases hq | cons _ _ => simp)
  have hlt2 := hn1.ext.1
  refine At.region rfl rfl ?_
  refine Reg.pur rfl rfl rfl rfl (Pur.mv rfl) ?_
  refine Reg.pur rfl rfl rfl rfl (Pur.nilc rfl) ?_
  refine Reg.pur rfl rfl rfl rfl (Pur.fld _ fo49_3 rfl) ?_
  refine Reg.pur rfl rfl rfl rfl (Pur.fld _ fo28_0 rfl) ?_
  refine Reg.lod rfl rfl rfl rfl (Lod.ldn ag26 rfl hB (show _ = Is (bd.row.take 4) by rw [Nat.add_zero, ← List.drop_drop, take_mid hd (by decide)]; simp [encB, Is, List.map_take]) (by simp [hbl])) ?_
  refine Reg.pur rfl rfl rfl rfl (Pur.mv rfl) ?_
  refine Reg.nil ?_
  refine At.loop (σ := Nat) (fun i => [(25, I i), (24, .agg (Is (bd.row.take 4)).toArray), (3, ptr H.size 0), (4, ptr H1.size 0), (6, ptr b o)]) (fun i H' => i ≤ 4 ∧ Own H' H.size (Is (mixR r bd.row i)) ∧ Own H' H1.size (Is noRow) ∧ Blk H' b c ∧ Ext H H' ∧ ((List.range i).all fun i => decide (sm r bd.row i ≤ 32)) = true) (fun i => 4 - i) 0 rfl ⟨rfl, rfl, rfl, rfl, rfl, trivial⟩ ⟨by omega, by rw [mixR_0 _ hr]; exact hX, hR0, hB, hE2, rfl⟩ ?_
  rintro i H5 ⟨hi, hX, hR0, hB, hE, hgo⟩ ih
  refine At.region rfl rfl ?_
  refine Reg.pur rfl rfl rfl rfl (Pur.lss rfl rfl) ?_
  refine Reg.nil ?_
  refine At.cond rfl rfl (fun hb3 => ?_) (fun hb3 => ?_)
  · simp only [decide_eq_true_eq] at hb3
    have hi4 : i < 4 := by omega
    have hai : (Is (bd.row.take 4))[(i : Int).toNat]? = some (I (bd.row.getD i 0)) := by
      exact take4_Is hbl hi4
    refine At.region rfl rfl ?_
    refine Reg.pur rfl rfl rfl rfl (Pur.mv rfl) ?_
    refine Reg.pur rfl rfl rfl rfl (Pur.ixA arr1_26 rfl rfl (by omega) (by omega) hai) ?_
    refine Reg.pur rfl rfl rfl rfl (Pur.asg rfl) ?_
    refine Reg.pur rfl rfl rfl rfl (Pur.asg rfl) ?_
    refine Reg.nil ?_
    have e0 : 0 + 0 + (i : Int).toNat * 1 = i := by omega
    have hri : (Is (mixR r bd.row i))[0 + 0 + (i : Int).toNat * 1]? = some (I (r.getD i 0)) := by rw [e0, ← mixR_at r bd.row (show i < 5 by omega)]; exact at5 (mixR_len _ _ _) (by omega)
    refine At.region rfl rfl ?_
    refine Reg.pur rfl rfl rfl rfl (Pur.mv rfl) ?_
    refine Reg.pur rfl rfl rfl rfl (Pur.fld _ fo28_0 rfl) ?_
    refine Reg.pur rfl rfl rfl rfl (Pur.idxP arr26 rfl rfl (by omega) (by omega)) ?_
    refine Reg.lod rfl rfl rfl rfl (Lod.ld sc3 rfl hX.blk hri) ?_
    refine Reg.pur rfl rfl rfl rfl (Pur.mv rfl) ?_
    first | refine Reg.pur rfl rfl rfl rfl (Pur.add64 rfl rfl (by omega)) ?_ | refine Reg.pur rfl rfl rfl rfl (Pur.add64 rfl rfl (by assumption)) ?_ | refine Reg.pur rfl rfl rfl rfl (Pur.add rfl rfl) ?_
    refine Reg.pur rfl rfl rfl rfl (Pur.fld _ fo28_0 rfl) ?_
    refine Reg.pur rfl rfl rfl rfl (Pur.idxP arr26 rfl rfl (by omega) (by omega)) ?_
    refine Reg.op0 rfl rfl rfl (Does.st sc3 rfl rfl rfl hX (by rw [e0]; simp [mixR_len]; omega)) ?_
    rintro _ H6 hu6
    refine Reg.nil ?_
    have hX : Own H6 H.size (Is (mixR r bd.row (i + 1))) := by have := hu6.own; rw [e0] at this; rw [← mixR_set _ _ hi4, ← Is_set]; exact this
    have hR0 := hR0.upd hu6 (by omega)
    have hB := hB.upd hu6 (by omega)
    have hE := hE.upd hu6 (Nat.le_refl _)
    have hrd : (Is (mixR r bd.row (i + 1)))[0 + 0 + (i : Int).toNat * 1]? = some (I (sm r bd.row i)) := by rw [e0, ← mixR_done r bd.row hi4]; exact at5 (mixR_len _ _ _) (by omega)
    refine At.region rfl rfl ?_
    refine Reg.pur rfl rfl rfl rfl (Pur.mv rfl) ?_
    refine Reg.pur rfl rfl rfl rfl (Pur.fld _ fo28_0 rfl) ?_
    refine Reg.pur rfl rfl rfl rfl (Pur.idxP arr26 rfl rfl (by omega) (by omega)) ?_
    refine Reg.lod rfl rfl rfl rfl (Lod.ld sc3 rfl hX.blk hrd) ?_
    refine Reg.pur rfl rfl rfl rfl (Pur.gtr rfl rfl) ?_
    refine Reg.nil ?_
    refine At.cond rfl rfl (fun hb4 => ?_) (fun hb4 => ?_)
    · refine At.region rfl rfl ?_
      refine Reg.pur rfl rfl rfl rfl (Pur.bld (cs := [_, _, _, _, _]) pl28 zc28 rfl rfl ⟨rfl, rfl, rfl, rfl, rfl, rfl⟩) ?_
      refine Reg.op0 rfl rfl rfl (Does.stn ag28 rfl rfl rfl rfl hR0 (by simp)) ?_
      rintro _ H7 hu7
      refine Reg.pur rfl rfl rfl rfl (Pur.asg rfl) ?_
      refine Reg.nil ?_
      have hR : Own H7 H1.size (Is noRow) := hu7.own
      have hE7 := hE.upd hu7 (by omega)
      have hRl : (Is noRow).length = 5 := rfl
      refine At.retC rfl Try.func59 ⟨_, _, _, _, rfl, rfl, ⟨_, hR.blk, .inr ⟨_, _, ag28, (whole hRl), hRl, rfl⟩⟩, ⟨_, _, rfl, rfl, rfl⟩⟩ ?_
      first | exact ret_row (rowS_lo (by have h1 : r.getD 4 0 = -1 := of_decide_eq_true hb1; omega)) hr hE3 | exact ret_row (rowS_none (by cases hq : L.find? (mt true (r.getD 4 0)) with | none => rfl | some bd => (rw [hq] at hf; obtain ⟨b, o, c, rfl, _⟩ := hf; cases hb2))) hr hE3 | exact ret_row (rowS_bad (by have h1 : ¬ r.getD 4 0 = -1 := of_decide_eq_false hb1; omega) hq hi4 (of_decide_eq_true hb4)) rfl hE7 | exact ret_row (rowS_sum (by have h1 : ¬ r.getD 4 0 = -1 := of_decide_eq_false hb1; omega) hq hgo) rfl hE7
    refine At.region rfl rfl ?_
    first | refine Reg.pur rfl rfl rfl rfl (Pur.add64 rfl rfl (by omega)) ?_ | refine Reg.pur rfl rfl rfl rfl (Pur.add64 rfl rfl (by assumption)) ?_ | refine Reg.pur rfl rfl rfl rfl (Pur.add rfl rfl) ?_
    refine Reg.pur rfl rfl rfl rfl (Pur.mv rfl) ?_
    refine Reg.nil ?_
    simp only [decide_eq_false_iff_not] at hb4
    refine At.via (ih (i + 1) _ ⟨by omega, hX, hR0, hB, hE, ?_⟩ (by omega)) ⟨rfl, rfl, rfl, rfl, rfl, trivial⟩
    rw [okTo_step, hgo, decide_eq_true (by omega)]; rfl
  simp only [decide_eq_false_iff_not] at hb3
  obtain rfl : i = 4 := by omega
  refine At.region rfl rfl ?_
  refine Reg.pur rfl rfl rfl rfl (Pur.mv rfl) ?_
  refine Reg.pur rfl rfl rfl rfl (Pur.nilc rfl) ?_
  refine Reg.pur rfl rfl rfl rfl (Pur.fld _ fo49_3 rfl) ?_
  refine Reg.pur rfl rfl rfl rfl (Pur.fld _ fo28_1 rfl) ?_
  refine Reg.lod rfl rfl rfl rfl (Lod.ld sc3 rfl hB (hb5' hd hbl)) ?_
  refine Reg.pur rfl rfl rfl rfl (Pur.fld _ fo28_1 rfl) ?_
  refine Reg.op0 rfl rfl rfl (Does.st sc3 rfl rfl rfl hX (by simp [mixR_len])) ?_
  rintro _ H6 hu6
  refine Reg.nil ?_
  have hX : Own H6 H.size (Is (sumR r bd.row)) := by have := hu6.own; rw [← mixR_end, ← Is_set]; exact this
  have hR0 := hR0.upd hu6 (by omega)
  have hE := hE.upd hu6 (Nat.le_refl _)
  refine At.region rfl rfl ?_
  refine Reg.lod rfl rfl rfl rfl (Lod.ldn ag28 rfl hX.blk (whole rfl) rfl) ?_
  refine Reg.op0 rfl rfl rfl (Does.stn ag28 rfl rfl (ones_Is _) rfl hR0 (by simp)) ?_
  rintro _ H7 hu7
  refine Reg.pur rfl rfl rfl rfl (Pur.asg rfl) ?_
  refine Reg.nil ?_
  have hR : Own H7 H1.size (Is (sumR r bd.row)) := by have := hu7.own; rwa [over (by rfl)] at this
  have hE7 := hE.upd hu7 (by omega)
  have hRl : (Is (sumR r bd.row)).length = 5 := rfl
  refine At.retC rfl Try.func59 ⟨_, _, _, _, rfl, rfl, ⟨_, hR.blk, .inr ⟨_, _, ag28, (whole hRl), hRl, rfl⟩⟩, ⟨_, _, rfl, rfl, rfl⟩⟩ ?_
  first | exact ret_row (rowS_lo (by have h1 : r.getD 4 0 = -1 := of_decide_eq_true hb1; omega)) hr hE3 | exact ret_row (rowS_none (by cases hq : L.find? (mt true (r.getD 4 0)) with | none => rfl | some bd => (rw [hq] at hf; obtain ⟨b, o, c, rfl, _⟩ := hf; cases hb2))) hr hE3 | exact ret_row (rowS_bad (by have h1 : ¬ r.getD 4 0 = -1 := of_decide_eq_false hb1; omega) hq hi4 (of_decide_eq_true hb4)) rfl hE7 | exact ret_row (rowS_sum (by have h1 : ¬ r.getD 4 0 = -1 := of_decide_eq_false hb1; omega) hq hgo) rfl hE7
end Go.Proofs.Ytlfillhffpiffaa

namespace Go.Proofs.Ytlfillhffpiffaa
set_option linter.unusedSimpArgs false
set_option linter.unusedVariables false
set_option maxRecDepth 8000
open Go Go.Fx Go.Proofs
namespace FactsSubD
theorem ag28 : ag Try.prog 28 = some 5 := by kernel_rfl
theorem ag49 : ag Try.prog 49 = some 8 := by kernel_rfl
theorem arr26 : arr Try.prog 26 = some (4, 1) := by kernel_rfl
theorem es22 : esz Try.prog 22 = some 8 := by kernel_rfl
theorem fo28_0 : foff Try.prog 28 0 = some 0 := by kernel_rfl
theorem fo28_1 : foff Try.prog 28 1 = some 4 := by kernel_rfl
theorem fo49_0 : foff Try.prog 49 0 = some 0 := by kernel_rfl
theorem fo49_1 : foff Try.prog 49 1 = some 1 := by kernel_rfl
theorem fo49_3 : foff Try.prog 49 3 = some 3 := by kernel_rfl
theorem isl22 : isSl Try.prog 22 = true := by kernel_rfl
theorem mixed : Try.prog.follows .mixedOrders = true := by kernel_rfl
theorem pl28 : places Try.prog 28 = some [(0, 4), (4, 1)] := by kernel_rfl
theorem sc3 : sc Try.prog 3 = true := by kernel_rfl
theorem sc4 : sc Try.prog 4 = true := by kernel_rfl
theorem zc28 : zc Try.prog 28 = some [.int .i64 0, .int .i64 0, .int .i64 0, .int .i64 0, .int .i64 0] := by kernel_rfl
theorem zc49 : zc Try.prog 49 = some [.int .i64 0, .bool false, .slice none 0 0, .int .i64 0, .int .i64 0, .int .i64 0, .int .i64 0, .int .i64 0] := by kernel_rfl
end FactsSubD
open FactsSubD

theorem encB_row {bd : Bd} (h : bd.row.length = 5) {j : Nat} (hj : j < 5) : (encB bd)[3 + j]? = some (I (bd.row.getD j 0)) := by
  rw [Nat.add_comm]
  exact at5 h hj

theorem rowS_end {L : List Bd} {r : List Int} (h : ¬ r.getD 4 0 < 0 → L.find? (mt true (r.getD 4 0)) = none) : rowS L r = (r, true) := by
  by_cases h0 : r.getD 4 0 < 0
  · exact rowS_lo h0
  · exact rowS_none (h h0)
theorem rowOf_ok {A : Option Addr} {cap : Nat} {L : List Bd} {H : Heap} (hS : Bds H (.slice A L.length cap) L) (r : List Int) (hr : r.length = 5) :
    Ret Try.prog 60 [.slice A L.length cap, .agg (Is r).toArray] H (fun v H' => v = RowB (rowS L r) ∧ (rowS L r).1.length = 5 ∧ Ext H H') := by
  have hm := hS.max
  have at4 : (Is r)[0 + 4]? = some (I (r.getD 4 0)) := at5 hr (by omega)
  refine Ret.of_at (N := 64) Try.call60 Try.func60 rfl rfl rfl ?_
  refine At.region rfl rfl ?_
  refine Reg.op rfl rfl rfl rfl (Does.box rfl rfl) ?_
  rintro _ H1 ⟨rfl, hn1⟩
  refine Reg.op rfl rfl rfl rfl (Does.alloc zc28) ?_
  rintro _ H2 ⟨rfl, hn2⟩
  refine Reg.pur rfl rfl rfl rfl (Pur.asg rfl) ?_
  refine Reg.nil ?_
  have hlt := hn1.own.lt
  have hlt2 := hn1.ext.1
  have hX := hn1.own.ext hn2.ext
  have hR0 : Own H2 H1.size (Is noRow) := hn2.own
  have hE2 := hn1.ext.trans hn2.ext
  refine At.region rfl rfl ?_
  refine Reg.pur rfl rfl rfl rfl (Pur.asg rfl) ?_
  refine Reg.nil ?_
  refine At.loop (σ := Nat) (fun i => [(6, I i), (0, .slice A L.length cap), (3, ptr H.size 0), (4, ptr H1.size 0)]) (fun i H' => i ≤ L.length ∧ Own H' H.size (Is r) ∧ Own H' H1.size (Is noRow) ∧ Ext H H' ∧ (¬ r.getD 4 0 < 0 → (L.drop i).find? (mt true (r.getD 4 0)) = L.find? (mt true (r.getD 4 0)))) (fun i => L.length - i) 0 rfl ⟨rfl, rfl, rfl, rfl, trivial⟩ ⟨by omega, hX, hR0, hE2, fun _ => rfl⟩ ?_
  clear hX hR0 hE2 hn2
  rintro i H3 ⟨hi, hX, hR0, hE3, hgo⟩ ih
  refine At.region rfl rfl ?_
  refine Reg.pur rfl rfl rfl rfl (Pur.mv rfl) ?_
  refine Reg.pur rfl rfl rfl rfl (Pur.mv rfl) ?_
  refine Reg.pur rfl rfl rfl rfl (Pur.lenS isl22 rfl) ?_
  refine Reg.pur rfl rfl rfl rfl (Pur.lss rfl rfl) ?_
  refine Reg.nil ?_
  refine At.cond rfl rfl (fun hb1 => ?_) (fun hb1 => ?_)
  · simp only [decide_eq_true_eq] at hb1
    have hlti : i < L.length := by omega
    obtain ⟨b, o, c, rfl, hB, hd, hok⟩ := (hS.ext hE3).at hlti
    rw [dropL hlti, List.find?_cons] at hgo
    generalize L[i] = bd at *
    have hbl := hok.row
    have h8 := hok.len
    have hs2 := hR0.lt
    refine At.region rfl rfl ?_
    refine Reg.pur rfl rfl rfl rfl (Pur.mv rfl) ?_
    refine Reg.pur rfl rfl rfl rfl (Pur.mv rfl) ?_
    refine Reg.pur rfl rfl rfl rfl (Pur.idx _ es22 rfl rfl (by omega) hb1) ?_
    refine Reg.lod rfl rfl rfl rfl (Lod.ldn ag49 rfl hB hd h8) ?_
    refine Reg.op rfl rfl rfl rfl (Does.alloc zc49) ?_
    rintro _ H4 ⟨rfl, hn4⟩
    refine Reg.op0 rfl rfl rfl (Does.stn ag49 rfl rfl (ones_encB _) h8 hn4.own (by decide)) ?_
    rintro _ H5 hu5
    refine Reg.nil ?_
    have hC : Own H5 H3.size (encB bd) := by have := hu5.own; rwa [over (by rfl)] at this
    have hX := (hX.ext hn4.ext).upd hu5 (by omega)
    have hR0 := (hR0.ext hn4.ext).upd hu5 (by omega)
    have hE5 := (hE3.trans hn4.ext).upd hu5 (by have := hE3.1; omega)
    refine At.region rfl rfl ?_
    refine Reg.pur rfl rfl rfl rfl (Pur.fld _ fo49_1 rfl) ?_
    refine Reg.lod rfl rfl rfl rfl (Lod.ld sc4 rfl hC.blk rfl) ?_
    refine Reg.pur rfl rfl rfl rfl (Pur.not rfl) ?_
    refine Reg.pur rfl rfl rfl rfl (Pur.mv rfl) ?_
    refine Reg.case 23 rfl (fun hc2 => ?_) (fun hc2 => ?_)
    · refine Reg.skip rfl rfl rfl rfl rfl rfl rfl ?_
      refine Reg.skip rfl rfl rfl rfl rfl rfl rfl ?_
      refine Reg.skip rfl rfl rfl rfl rfl rfl rfl ?_
      refine Reg.pur rfl rfl rfl rfl (Pur.pickT rfl rfl) ?_
      refine Reg.pur rfl rfl rfl rfl (Pur.mv rfl) ?_
      refine Reg.skip rfl rfl rfl rfl rfl rfl rfl ?_
      refine Reg.skip rfl rfl rfl rfl rfl rfl rfl ?_
      refine Reg.skip rfl rfl rfl rfl rfl rfl rfl ?_
      refine Reg.skip rfl rfl rfl rfl rfl rfl rfl ?_
      refine Reg.skip rfl rfl rfl rfl rfl rfl rfl ?_
      refine Reg.pur rfl rfl rfl rfl (Pur.pickT rfl rfl) ?_
      refine Reg.nil ?_
      refine At.condT rfl rfl rfl ?_
      refine At.region rfl rfl ?_
      refine Reg.pur rfl rfl rfl rfl (Pur.mv rfl) ?_
      first | refine Reg.pur rfl rfl rfl rfl (Pur.add64 rfl rfl (by omega)) ?_ | refine Reg.pur rfl rfl rfl rfl (Pur.add64 rfl rfl (by assumption)) ?_ | refine Reg.pur rfl rfl rfl rfl (Pur.add rfl rfl) ?_
      refine Reg.pur rfl rfl rfl rfl (Pur.asg rfl) ?_
      refine Reg.nil ?_
      refine At.via (ih (i + 1) _ ⟨by omega, hX, hR0, hE5, ?_⟩ (by omega)) ⟨rfl, rfl, rfl, rfl, trivial⟩
      intro h0
      rw [← hgo h0, show mt true (r.getD 4 0) bd = false by clear ih hgo; (try simp only [decide_eq_true_eq, decide_eq_false_iff_not] at *); first | omega | (simp_all [mt]; done) | (simp only [mt, decide_eq_false (p := bd.var = r.getD 4 0) (by omega), Bool.and_false])]
    refine Reg.gpur rfl rfl rfl rfl rfl rfl (Pur.fld _ fo28_1 rfl) ?_
    refine Reg.glod rfl rfl rfl rfl rfl rfl (Lod.ld sc3 rfl hX.blk at4) ?_
    refine Reg.gpur rfl rfl rfl rfl rfl rfl (Pur.lss rfl rfl) ?_
    refine Reg.pur rfl rfl rfl rfl (Pur.pickF rfl rfl) ?_
    refine Reg.pur rfl rfl rfl rfl (Pur.mv rfl) ?_
    refine Reg.case 28 rfl (fun hc3 => ?_) (fun hc3 => ?_)
    · refine Reg.skip rfl rfl rfl rfl rfl rfl rfl ?_
      refine Reg.skip rfl rfl rfl rfl rfl rfl rfl ?_
      refine Reg.skip rfl rfl rfl rfl rfl rfl rfl ?_
      refine Reg.skip rfl rfl rfl rfl rfl rfl rfl ?_
      refine Reg.skip rfl rfl rfl rfl rfl rfl rfl ?_
      refine Reg.pur rfl rfl rfl rfl (Pur.pickT rfl rfl) ?_
      refine Reg.nil ?_
      refine At.condT rfl rfl rfl ?_
      refine At.region rfl rfl ?_
      refine Reg.pur rfl rfl rfl rfl (Pur.mv rfl) ?_
      first | refine Reg.pur rfl rfl rfl rfl (Pur.add64 rfl rfl (by omega)) ?_ | refine Reg.pur rfl rfl rfl rfl (Pur.add64 rfl rfl (by assumption)) ?_ | refine Reg.pur rfl rfl rfl rfl (Pur.add rfl rfl) ?_
      refine Reg.pur rfl rfl rfl rfl (Pur.asg rfl) ?_
      refine Reg.nil ?_
      refine At.via (ih (i + 1) _ ⟨by omega, hX, hR0, hE5, ?_⟩ (by omega)) ⟨rfl, rfl, rfl, rfl, trivial⟩
      intro h0
      rw [← hgo h0, show mt true (r.getD 4 0) bd = false by clear ih hgo; (try simp only [decide_eq_true_eq, decide_eq_false_iff_not] at *); first | omega | (simp_all [mt]; done) | (simp only [mt, decide_eq_false (p := bd.var = r.getD 4 0) (by omega), Bool.and_false])]
    refine Reg.gpur rfl rfl rfl rfl rfl rfl (Pur.fld _ fo49_0 rfl) ?_
    refine Reg.glod rfl rfl rfl rfl rfl rfl (Lod.ld sc3 rfl hC.blk rfl) ?_
    refine Reg.gpur rfl rfl rfl rfl rfl rfl (Pur.fld _ fo28_1 rfl) ?_
    refine Reg.glod rfl rfl rfl rfl rfl rfl (Lod.ld sc3 rfl hX.blk at4) ?_
    refine Reg.gpur rfl rfl rfl rfl rfl rfl (Pur.neq rfl rfl) ?_
    refine Reg.pur rfl rfl rfl rfl (Pur.pickF rfl rfl) ?_
    refine Reg.nil ?_
    refine At.cond rfl rfl (fun hb4 => ?_) (fun hb4 => ?_)
    · refine At.region rfl rfl ?_
      refine Reg.pur rfl rfl rfl rfl (Pur.mv rfl) ?_
      first | refine Reg.pur rfl rfl rfl rfl (Pur.add64 rfl rfl (by omega)) ?_ | refine Reg.pur rfl rfl rfl rfl (Pur.add64 rfl rfl (by assumption)) ?_ | refine Reg.pur rfl rfl rfl rfl (Pur.add rfl rfl) ?_
      refine Reg.pur rfl rfl rfl rfl (Pur.asg rfl) ?_
      refine Reg.nil ?_
      refine At.via (ih (i + 1) _ ⟨by omega, hX, hR0, hE5, ?_⟩ (by omega)) ⟨rfl, rfl, rfl, rfl, trivial⟩
      intro h0
      rw [← hgo h0, show mt true (r.getD 4 0) bd = false by clear ih hgo; (try simp only [decide_eq_true_eq, decide_eq_false_iff_not] at *); first | omega | (simp_all [mt]; done) | (simp only [mt, decide_eq_false (p := bd.var = r.getD 4 0) (by omega), Bool.and_false])]
    refine At.region rfl rfl ?_
    refine Reg.pur rfl rfl rfl rfl (Pur.fld _ fo49_3 rfl) ?_
    refine Reg.pur rfl rfl rfl rfl (Pur.fld _ fo28_1 rfl) ?_
    refine Reg.lod rfl rfl rfl rfl (Lod.ld sc3 rfl hC.blk (encB_row hbl (j := 4) (by omega))) ?_
    refine Reg.pur rfl rfl rfl rfl (Pur.bld (cs := [_, _, _, _, _]) pl28 zc28 rfl rfl ⟨rfl, rfl, rfl, rfl, rfl, rfl⟩) ?_
    refine Reg.op rfl rfl rfl rfl (Does.alloc zc28) ?_
    rintro _ H6 ⟨rfl, hn6⟩
    refine Reg.op0 rfl rfl rfl (Does.stn ag28 rfl rfl rfl rfl hn6.own (by decide)) ?_
    rintro _ H7 hu7
    refine Reg.nil ?_
    have hs5 := hC.lt
    have hT : Own H7 H5.size (Is (mixO r bd.row 0)) := hu7.own
    have hX := (hX.ext hn6.ext).upd hu7 (by omega)
    have hC := (hC.ext hn6.ext).upd hu7 (by omega)
    have hR0 := (hR0.ext hn6.ext).upd hu7 (by omega)
    have hE7 := (hE5.trans hn6.ext).upd hu7 (by have := hE5.1; omega)
    have hq : ¬ r.getD 4 0 < 0 ∧ L.find? (mt true (r.getD 4 0)) = some bd := by
      have h0 : ¬ r.getD 4 0 < 0 := by clear ih hgo; (try simp only [decide_eq_true_eq, decide_eq_false_iff_not] at *); omega
      refine ⟨h0, ?_⟩
      rw [← hgo h0, show mt true (r.getD 4 0) bd = true by clear ih hgo; (try simp only [decide_eq_true_eq, decide_eq_false_iff_not] at *); simp only [mt, decide_eq_true (p := bd.var = r.getD 4 0) (by omega)]; simp_all]
    clear ih hgo
    refine At.region rfl rfl ?_
    refine Reg.pur rfl rfl rfl rfl (Pur.asg rfl) ?_
    refine Reg.nil ?_
    refine At.loop (σ := Nat) (fun k => [(9, I k), (3, ptr H.size 0), (4, ptr H1.size 0), (7, ptr H3.size 0), (8, ptr H5.size 0)]) (fun k H' => k ≤ 4 ∧ Own H' H.size (Is r) ∧ Own H' H1.size (Is noRow) ∧ Own H' H3.size (encB bd) ∧ Own H' H5.size (Is (mixO r bd.row k)) ∧ Ext H H' ∧ ((List.range k).all fun i => decide (sm r bd.row i ≤ 32)) = true) (fun k => 4 - k) 0 rfl ⟨rfl, rfl, rfl, rfl, rfl, trivial⟩ ⟨by omega, hX, hR0, hC, hT, hE7, rfl⟩ ?_
    rintro k H8 ⟨hk, hX, hR0, hC, hT, hE8, hgo⟩ ih
    refine At.region rfl rfl ?_
    refine Reg.pur rfl rfl rfl rfl (Pur.mv rfl) ?_
    refine Reg.pur rfl rfl rfl rfl (Pur.lss rfl rfl) ?_
    refine Reg.nil ?_
    refine At.cond rfl rfl (fun hb5 => ?_) (fun hb5 => ?_)
    · simp only [decide_eq_true_eq] at *
      have hk4 : k < 4 := by omega
      have e0 : 0 + 0 + (k : Int).toNat * 1 = k := by omega
      have e3 : 0 + 3 + 0 + (k : Int).toNat * 1 = 3 + k := by omega
      have hri : (Is r)[0 + 0 + (k : Int).toNat * 1]? = some (I (r.getD k 0)) := by rw [e0]; exact at5 hr (by omega)
      have hbi : (encB bd)[0 + 3 + 0 + (k : Int).toNat * 1]? = some (I (bd.row.getD k 0)) := by rw [e3]; exact encB_row hbl (by omega)
      refine At.draw (fun H' => Blk H' H.size (Is r) ∧ Blk H' H3.size (encB bd)) [13] mixed rfl rfl ?_
      refine RegD.tpur (i := 0) rfl rfl rfl rfl (by kernel_rfl) (Pur.mv rfl) ?_
      refine RegD.tpur (i := 1) rfl rfl rfl rfl (by kernel_rfl) (Pur.mv rfl) ?_
      refine RegD.tpur (i := 2) rfl rfl rfl rfl (by kernel_rfl) (Pur.fld _ fo28_0 rfl) ?_
      refine RegD.tpur (i := 3) rfl rfl rfl rfl (by kernel_rfl) (Pur.idxP arr26 rfl rfl (by omega) (by omega)) ?_
      refine RegD.take (i := 4) rfl rfl rfl rfl (by kernel_rfl) ⟨hX.blk, hC.blk⟩ (fun H hS => Lod.ld sc3 rfl hS.1 hri) ?_
      refine RegD.tpur (i := 5) rfl rfl rfl rfl (by kernel_rfl) (Pur.mv rfl) ?_
      refine RegD.tpur (i := 6) rfl rfl rfl rfl (by kernel_rfl) (Pur.fld _ fo49_3 rfl) ?_
      refine RegD.tpur (i := 7) rfl rfl rfl rfl (by kernel_rfl) (Pur.fld _ fo28_0 rfl) ?_
      refine RegD.tpur (i := 8) rfl rfl rfl rfl (by kernel_rfl) (Pur.idxP arr26 rfl rfl (by omega) (by omega)) ?_
      refine RegD.take (i := 9) rfl rfl rfl rfl (by kernel_rfl) ⟨hX.blk, hC.blk⟩ (fun H hS => Lod.ld sc3 rfl hS.2 hbi) ?_
      first | refine RegD.tpur (i := 10) rfl rfl rfl rfl (by kernel_rfl) (Pur.add64 rfl rfl (by omega)) ?_ | refine RegD.tpur (i := 10) rfl rfl rfl rfl (by kernel_rfl) (Pur.add64 rfl rfl (by assumption)) ?_ | refine RegD.tpur (i := 10) rfl rfl rfl rfl (by kernel_rfl) (Pur.add rfl rfl) ?_
      refine RegD.tpur (i := 11) rfl rfl rfl rfl (by kernel_rfl) (Pur.fld _ fo28_0 rfl) ?_
      refine RegD.tpur (i := 12) rfl rfl rfl rfl (by kernel_rfl) (Pur.idxP arr26 rfl rfl (by omega) (by omega)) ?_
      refine RegD.one0 (i := 13) (by kernel_rfl) rfl rfl rfl (Does.st sc3 rfl rfl rfl hT (by rw [e0]; simp [mixO_len]; omega)) ?_
      rintro _ H9 hu9
      refine ⟨fun h => (by cases h), ?_⟩
      refine RegD.done (by kernel_rfl) ?_
      have hT : Own H9 H5.size (Is (mixO r bd.row (k + 1))) := by have := hu9.own; rw [e0] at this; rw [← mixO_set _ _ hk4, ← Is_set]; exact this
      have hX := hX.upd hu9 (by omega)
      have hC := hC.upd hu9 (by omega)
      have hR0 := hR0.upd hu9 (by omega)
      have hE9 := hE8.upd hu9 (by have := hE5.1; omega)
      have hrd : (Is (mixO r bd.row (k + 1)))[0 + 0 + (k : Int).toNat * 1]? = some (I (sm r bd.row k)) := by rw [e0, ← mixO_done r bd.row hk4]; exact at5 (mixO_len _ _ _) (by omega)
      refine At.region rfl rfl ?_
      refine Reg.pur rfl rfl rfl rfl (Pur.mv rfl) ?_
      refine Reg.pur rfl rfl rfl rfl (Pur.fld _ fo28_0 rfl) ?_
      refine Reg.pur rfl rfl rfl rfl (Pur.idxP arr26 rfl rfl (by omega) (by omega)) ?_
      refine Reg.lod rfl rfl rfl rfl (Lod.ld sc3 rfl hT.blk hrd) ?_
      refine Reg.pur rfl rfl rfl rfl (Pur.gtr rfl rfl) ?_
      refine Reg.nil ?_
      refine At.cond rfl rfl (fun hb6 => ?_) (fun hb6 => ?_)
      · refine At.region rfl rfl ?_
        refine Reg.pur rfl rfl rfl rfl (Pur.bld (cs := [_, _, _, _, _]) pl28 zc28 rfl rfl ⟨rfl, rfl, rfl, rfl, rfl, rfl⟩) ?_
        refine Reg.op0 rfl rfl rfl (Does.stn ag28 rfl rfl rfl rfl hR0 (by simp)) ?_
        rintro _ H10 hu10
        refine Reg.pur rfl rfl rfl rfl (Pur.asg rfl) ?_
        refine Reg.nil ?_
        have hR : Own H10 H1.size (Is noRow) := hu10.own
        have hE10 := hE9.upd hu10 (by omega)
        have hRl : (Is noRow).length = 5 := rfl
        refine At.retC rfl Try.func60 ⟨_, _, _, _, rfl, rfl, ⟨_, hR.blk, .inr ⟨_, _, ag28, (whole hRl), hRl, rfl⟩⟩, ⟨_, _, rfl, rfl, rfl⟩⟩ ?_
        first | exact ret_row (rowS_sum hq.1 hq.2 hgo) rfl hE10 | exact ret_row (rowS_bad hq.1 hq.2 hk4 (by simp only [decide_eq_true_eq] at *; omega)) rfl hE10 | exact ret_row (rowS_end (fun h0 => by simp only [decide_eq_false_iff_not] at hb1; have h1 := hgo h0; rw [List.drop_of_length_le (by omega)] at h1; exact h1.symm)) hr hE10
      refine At.region rfl rfl ?_
      refine Reg.pur rfl rfl rfl rfl (Pur.mv rfl) ?_
      first | refine Reg.pur rfl rfl rfl rfl (Pur.add64 rfl rfl (by omega)) ?_ | refine Reg.pur rfl rfl rfl rfl (Pur.add64 rfl rfl (by assumption)) ?_ | refine Reg.pur rfl rfl rfl rfl (Pur.add rfl rfl) ?_
      refine Reg.pur rfl rfl rfl rfl (Pur.asg rfl) ?_
      refine Reg.nil ?_
      refine At.via (ih (k + 1) _ ⟨by omega, hX, hR0, hC, hT, hE9, ?_⟩ (by omega)) ⟨rfl, rfl, rfl, rfl, rfl, trivial⟩
      rw [okTo_step, hgo, decide_eq_true (by simp only [decide_eq_false_iff_not] at *; omega)]; rfl
    refine At.region rfl rfl ?_
    refine Reg.lod rfl rfl rfl rfl (Lod.ldn ag28 rfl hT.blk (whole rfl) rfl) ?_
    refine Reg.op0 rfl rfl rfl (Does.stn ag28 rfl rfl (ones_Is _) rfl hR0 (by simp)) ?_
    rintro _ H10 hu10
    refine Reg.pur rfl rfl rfl rfl (Pur.asg rfl) ?_
    refine Reg.nil ?_
    have hk4 : k = 4 := by simp only [decide_eq_false_iff_not] at *; omega
    subst hk4
    have hR : Own H10 H1.size (Is (sumR r bd.row)) := by have := hu10.own; rwa [over (by rfl)] at this
    have hE10 := hE8.upd hu10 (by omega)
    have hRl : (Is (sumR r bd.row)).length = 5 := rfl
    refine At.retC rfl Try.func60 ⟨_, _, _, _, rfl, rfl, ⟨_, hR.blk, .inr ⟨_, _, ag28, (whole hRl), hRl, rfl⟩⟩, ⟨_, _, rfl, rfl, rfl⟩⟩ ?_
    first | exact ret_row (rowS_sum hq.1 hq.2 hgo) rfl hE10 | exact ret_row (rowS_bad hq.1 hq.2 hk4 (by simp only [decide_eq_true_eq] at *; omega)) rfl hE10 | exact ret_row (rowS_end (fun h0 => by simp only [decide_eq_false_iff_not] at hb1; have h1 := hgo h0; rw [List.drop_of_length_le (by omega)] at h1; exact h1.symm)) hr hE10
  refine At.region rfl rfl ?_
  refine Reg.lod rfl rfl rfl rfl (Lod.ldn ag28 rfl hX.blk (whole (by simp [hr])) (by simp [hr])) ?_
  refine Reg.op0 rfl rfl rfl (Does.stn ag28 rfl rfl (ones_Is _) (by simp [hr]) hR0 (by simp)) ?_
  rintro _ H10 hu10
  refine Reg.pur rfl rfl rfl rfl (Pur.asg rfl) ?_
  refine Reg.nil ?_
  have hR : Own H10 H1.size (Is r) := by have := hu10.own; rwa [over (by rfl)] at this
  have hE10 := hE3.upd hu10 (by omega)
  have hRl : (Is r).length = 5 := by simp [hr]
  refine At.retC rfl Try.func60 ⟨_, _, _, _, rfl, rfl, ⟨_, hR.blk, .inr ⟨_, _, ag28, (whole hRl), hRl, rfl⟩⟩, ⟨_, _, rfl, rfl, rfl⟩⟩ ?_
  first | exact ret_row (rowS_sum hq.1 hq.2 hgo) rfl hE10 | exact ret_row (rowS_bad hq.1 hq.2 hk4 (by simp only [decide_eq_true_eq] at *; omega)) rfl hE10 | exact ret_row (rowS_end (fun h0 => by simp only [decide_eq_false_iff_not] at hb1; have h1 := hgo h0; rw [List.drop_of_length_le (by omega)] at h1; exact h1.symm)) hr hE10
end Go.Proofs.Ytlfillhffpiffaa

namespace Go.Proofs.Ytlfillhffpiffaa
set_option linter.unusedSimpArgs false
set_option linter.unusedVariables false
set_option maxRecDepth 8000
open Go Go.Fx Go.Proofs
namespace FactsSubE
theorem apt23 : appT Try.prog 23 = some (47, 9, 72) := by kernel_rfl
theorem isSlN23 : isSl' Try.prog 23 = true := by kernel_rfl
theorem slA23 : slA Try.prog 23 = some (47, 9) := by kernel_rfl
end FactsSubE
open FactsSubE

theorem flat_set : ∀ {M : List (List Int)} (hM : Nine M) {i j : Nat} (hi : i < M.length) (hj : j < 9) (v : Int), (M.flatMap Is).set (i * 9 + j) (I v) = (M.set i ((M.getD i []).set j v)).flatMap Is
  | [], _, _, _, hi, _, _ => by simp at hi
  | x :: M, hM, 0, j, _, hj, v => by
    have h9 : x.length = 9 := hM x List.mem_cons_self
    rw [List.flatMap_cons, List.set_cons_zero, List.flatMap_cons, Nat.zero_mul, Nat.zero_add, List.set_append_left _ _ (by simp [h9]; omega), Is_set]
    rfl
  | x :: M, hM, i + 1, j, hi, hj, v => by
    have h9 : x.length = 9 := hM x List.mem_cons_self
    have ih := flat_set (M := M) (fun y hy => hM y (List.mem_cons_of_mem _ hy)) (i := i) (by simpa using hi) hj v
    rw [List.flatMap_cons, List.set_cons_succ, List.flatMap_cons, List.set_append_right _ _ (by simp [h9]; omega), show (i + 1) * 9 + j - (Is x).length = i * 9 + j by simp [h9]; omega, ih]
    rfl

theorem cloneT_ok {A : Option Addr} {cap : Nat} {L : List (List Int)} (hL : Nine L) {H : Heap} (hS : SlT H Is 9 (.slice A L.length cap) L) (hb : L.length * 72 ≤ 140737488351232) :
    Ret Try.prog 66 [.slice A L.length cap] H (fun v H' => OwnS H' H.size 47 9 v L.length (L.flatMap Is) ∧ Ext H H') := by
  refine Ret.of_at (N := 8) Try.call66 Try.func66 rfl rfl rfl ?_
  refine At.region rfl rfl ?_
  refine Reg.pur rfl rfl rfl rfl (Pur.asg rfl) ?_
  refine Reg.nil ?_
  refine At.region rfl rfl ?_
  refine Reg.pur rfl rfl rfl rfl (Pur.mv rfl) ?_
  refine Reg.pur rfl rfl rfl rfl (Pur.eqSN isSlN23 rfl rfl) ?_
  refine Reg.nil ?_
  refine At.cond rfl rfl (fun hb1 => ?_) (fun hb1 => ?_)
  · refine At.region rfl rfl ?_
    refine Reg.pur rfl rfl rfl rfl (Pur.asg rfl) ?_
    refine Reg.nil ?_
    refine At.ret rfl Try.func66 rfl ?_
    first | (refine ⟨by simpa using ho, ?_⟩; exact (New.of_push (xs := []).ext).trBut hbut (fun b hb h => by simp only [Value.ownBlock, Option.some.injEq] at h; omega)) | (obtain ⟨A', cap', e, h1, _, h0, _⟩ := hS; cases e; have hA : A = none := by { cases A with | none => rfl | some _ => cases hb1 }; have hc := h0 hA; have hl : L = [] := List.length_eq_zero_iff.1 (by omega); subst hl; exact ⟨OwnS.nil _ _ _ _, Ext.refl _⟩)
  refine At.region rfl rfl ?_
  refine Reg.op rfl rfl rfl rfl (Does.bslA ([]) slA23 rfl rfl rfl rfl rfl rfl) ?_
  rintro _ H1 ⟨rfl, rfl⟩
  refine Reg.pur rfl rfl rfl rfl (Pur.mv rfl) ?_
  refine Reg.op rfl rfl rfl rfl (Does.app apt23 rfl rfl (OwnS.new (xs := []) (n := 0) (H := H) (B := H.size) rfl (by decide) (Nat.le_refl _)) (sl_src (wide9 hL) (hS.ext New.of_push.ext)) (ones_flat L) (by rw [show maxLen = 9223372036854775807 from rfl]; omega) (by omega) (by simp)) ?_
  rintro v H2 ⟨ho, hbut, _, _⟩
  refine Reg.pur rfl rfl rfl rfl (Pur.asg rfl) ?_
  refine Reg.nil ?_
  refine At.ret rfl Try.func66 rfl ?_
  first | (refine ⟨by simpa using ho, ?_⟩; exact (New.of_push (xs := []).ext).trBut hbut (fun b hb h => by simp only [Value.ownBlock, Option.some.injEq] at h; omega)) | (obtain ⟨A', cap', e, h1, _, h0, _⟩ := hS; cases e; have hA : A = none := by { cases A with | none => rfl | some _ => cases hb1 }; have hc := h0 hA; have hl : L = [] := List.length_eq_zero_iff.1 (by omega); subst hl; exact ⟨OwnS.nil _ _ _ _, Ext.refl _⟩)
end Go.Proofs.Ytlfillhffpiffaa

namespace Go.Proofs.Ytlfillhffpiffaa
set_option linter.unusedSimpArgs false
set_option linter.unusedVariables false
set_option maxRecDepth 8000
open Go Go.Fx Go.Proofs
namespace FactsSubF
theorem es23 : esz Try.prog 23 = some 9 := by kernel_rfl
theorem fo47_0 : foff Try.prog 47 0 = some 0 := by kernel_rfl
theorem fo47_2 : foff Try.prog 47 2 = some 2 := by kernel_rfl
theorem fo47_3 : foff Try.prog 47 3 = some 3 := by kernel_rfl
theorem isl23 : isSl Try.prog 23 = true := by kernel_rfl
theorem sc3 : sc Try.prog 3 = true := by kernel_rfl
end FactsSubF
open FactsSubF

def movS (by' : Int) (x : List Int) : List Int := if x.getD 0 0 = 3 then (x.set 2 (IntKind.i64.wrap (x.getD 2 0 + by'))).set 3 (IntKind.i64.wrap (x.getD 3 0 + by')) else x
theorem movS_len (by' : Int) (x : List Int) : (movS by' x).length = x.length := by unfold movS; split <;> simp
theorem nine_mov {by' : Int} {L : List (List Int)} (h : Nine L) : Nine (L.map (movS by')) := by
  intro x hx
  obtain ⟨y, hy, rfl⟩ := List.mem_map.1 hx
  rw [movS_len]; exact h y hy
def mid (by' : Int) (L : List (List Int)) (i : Nat) : List (List Int) := (L.take i).map (movS by') ++ L.drop i
theorem mid_len (by' : Int) (L : List (List Int)) (i : Nat) : (mid by' L i).length = L.length := by
  unfold mid; simp; omega
theorem mid_nine {by' : Int} {L : List (List Int)} (h : Nine L) (i : Nat) : Nine (mid by' L i) := by
  intro x hx
  unfold mid at hx
  rcases List.mem_append.1 hx with hx | hx
  · exact nine_mov (fun y hy => h y (List.mem_of_mem_take hy)) x hx
  · exact h x (List.mem_of_mem_drop hx)
theorem mid_get (by' : Int) {L : List (List Int)} {i : Nat} (h : i < L.length) : (mid by' L i).getD i [] = L[i] := by
  unfold mid
  rw [List.getD_eq_getElem?_getD, List.getElem?_append_right (by simp; omega)]
  simp [Nat.min_eq_left (Nat.le_of_lt h), List.getElem?_eq_getElem h]
theorem mid_set (by' : Int) {L : List (List Int)} {i : Nat} (h : i < L.length) : (mid by' L i).set i (movS by' L[i]) = mid by' L (i + 1) := by
  unfold mid
  rw [List.set_append_right _ _ (by simp; omega), List.take_succ_eq_append_getElem h, List.map_append, List.append_assoc]
  congr 1
  simp only [List.length_map, List.length_take, Nat.min_eq_left (Nat.le_of_lt h), Nat.sub_self]
  rw [dropL h]; rfl
theorem mid_same (by' : Int) {L : List (List Int)} {i : Nat} (h : i < L.length) (hm : movS by' L[i] = L[i]) : mid by' L (i + 1) = mid by' L i := by
  unfold mid
  rw [List.take_succ_eq_append_getElem h, List.map_append, List.append_assoc, dropL h]
  simp only [List.map_cons, List.map_nil, hm, List.singleton_append]
theorem mid_all (by' : Int) (L : List (List Int)) {i : Nat} (h : L.length ≤ i) : mid by' L i = L.map (movS by') := by
  unfold mid; rw [List.take_of_length_le h, List.drop_of_length_le h, List.append_nil]
theorem rd {c : List Value} {M : List (List Int)} {n i j : Nat} (h : c.take (n * 9) = M.flatMap Is) (hM : Nine M) (hl : M.length = n) (hi : i < n) (hj : j < 9) : c[0 + (i : Int).toNat * 9 + j]? = some (I ((M.getD i []).getD j 0)) := by
  subst hl
  have h1 : (c.drop (i * 9)).take 9 = Is M[i] := by rw [take_mid h (by omega)]; exact flat_at M i (wide9 hM) hi
  have h2 : M.getD i [] = M[i] := by simp [List.getD_eq_getElem?_getD, List.getElem?_eq_getElem hi]
  rw [h2, Nat.zero_add]
  exact at_tk h1 hj (at_Is (by rw [hM _ (List.getElem_mem hi)]; exact hj))
theorem wr {c : List Value} {M : List (List Int)} {n i j : Nat} (h : c.take (n * 9) = M.flatMap Is) (hM : Nine M) (hl : M.length = n) (hi : i < n) (hj : j < 9) (v : Int) : (c.set (0 + (i : Int).toNat * 9 + j) (I v)).take (n * 9) = (M.set i ((M.getD i []).set j v)).flatMap Is := by
  subst hl
  rw [Nat.zero_add, List.take_set, h]
  exact flat_set hM hi hj v
theorem len_of {c : List Value} {M : List (List Int)} {n : Nat} (h : c.take (n * 9) = M.flatMap Is) (hM : Nine M) (hl : M.length = n) : n * 9 ≤ c.length := by
  have := congrArg List.length h
  rw [List.length_take, flat_len (wide9 hM), hl] at this; omega
theorem nine_set {M : List (List Int)} (hM : Nine M) (i j : Nat) (v : Int) : Nine (M.set i ((M.getD i []).set j v)) := by
  intro x hx
  by_cases hi : i < M.length
  · rcases List.mem_or_eq_of_mem_set hx with h | h
    · exact hM x h
    · subst h
      rw [List.length_set, List.getD_eq_getElem?_getD, List.getElem?_eq_getElem hi]; exact hM _ (List.getElem_mem hi)
  · rw [List.set_eq_of_length_le (by omega)] at hx; exact hM x hx

theorem moved_ok {A : Option Addr} {cap : Nat} {L : List (List Int)} (hL : Nine L) {H : Heap} (hS : SlT H Is 9 (.slice A L.length cap) L) (hb : L.length * 72 ≤ 140737488351232) (by' : Int) :
    Ret Try.prog 88 [.slice A L.length cap, I by'] H (fun v H' => (∃ A' cap', v = .slice A' L.length cap' ∧ (L.length = 0 ∨ ∃ g, H.size ≤ g ∧ A' = some ⟨g, 0, none⟩)) ∧ SlT H' Is 9 v (L.map (movS by')) ∧ Ext H H') := by
  refine Ret.of_at (N := 40) Try.call88 Try.func88 rfl rfl rfl ?_
  refine At.region rfl rfl ?_
  refine Reg.pur rfl rfl rfl rfl (Pur.asg rfl) ?_
  refine Reg.nil ?_
  refine At.region rfl rfl ?_
  refine Reg.pur rfl rfl rfl rfl (Pur.mv rfl) ?_
  refine Reg.op rfl rfl rfl rfl (Does.call rfl (cloneT_ok hL hS hb)) ?_
  rintro v H1 ⟨ho, hE1⟩
  refine Reg.pur rfl rfl rfl rfl (Pur.asg rfl) ?_
  refine Reg.nil ?_
  obtain ⟨A', cap', rfl, hc1, hc2, hc3, g, c0, hg⟩ : ∃ A' cap', v = .slice A' L.length cap' ∧ L.length ≤ cap' ∧ cap' ≤ maxLen ∧ (A' = none → cap' = 0) ∧ ∃ g c, L.length = 0 ∨ (H.size ≤ g ∧ A' = some ⟨g, 0, none⟩ ∧ Own H1 g c ∧ c.take (L.length * 9) = (mid by' L 0).flatMap Is) := by
    obtain ⟨_, ⟨rfl, h0⟩ | ⟨g, cap, cur, rfl, h2, h3, h4, h5, h6, h7⟩⟩ := ho
    · exact ⟨none, 0, by rw [h0], by omega, by decide, fun _ => rfl, 0, [], .inl h0⟩
    · exact ⟨_, cap, rfl, h4, h5, (fun h => by cases h), g, cur.toList, .inr ⟨h2, rfl, ⟨_, by simpa using h3⟩, h7⟩⟩
  refine At.region rfl rfl ?_
  refine Reg.pur rfl rfl rfl rfl (Pur.mv rfl) ?_
  refine Reg.pur rfl rfl rfl rfl (Pur.lenS isl23 rfl) ?_
  refine Reg.pur rfl rfl rfl rfl (Pur.mv rfl) ?_
  refine Reg.nil ?_
  refine At.loop (σ := Nat × List Value) (fun s => [(11, I s.1), (10, I L.length), (5, .slice A' L.length cap'), (1, I by')]) (fun s H' => s.1 ≤ L.length ∧ Ext H H' ∧ (L.length = 0 ∨ (H.size ≤ g ∧ A' = some ⟨g, 0, none⟩ ∧ Own H' g s.2 ∧ s.2.take (L.length * 9) = (mid by' L s.1).flatMap Is))) (fun s => L.length - s.1) (0, c0) rfl ⟨rfl, rfl, rfl, rfl, trivial⟩ ⟨by omega, hE1, hg⟩ ?_
  clear hg ho
  rintro ⟨i, c⟩ H2 ⟨hi, hE, hI⟩ ih
  dsimp only at hi hE hI ⊢
  refine At.region rfl rfl ?_
  refine Reg.pur rfl rfl rfl rfl (Pur.lss rfl rfl) ?_
  refine Reg.nil ?_
  refine At.cond rfl rfl (fun hb1 => ?_) (fun hb1 => ?_)
  · refine At.region rfl rfl ?_
    refine Reg.pur rfl rfl rfl rfl (Pur.mv rfl) ?_
    refine Reg.pur rfl rfl rfl rfl (Pur.asg rfl) ?_
    refine Reg.nil ?_
    simp only [decide_eq_true_eq] at hb1
    have hlt : i < L.length := by omega
    obtain ⟨hgH, rfl, hO, htk⟩ := hI.resolve_left (by omega)
    have hN := mid_nine (by' := by') hL i
    have hln := mid_len by' L i
    have hcl := len_of htk hN hln
    have r0 := rd htk hN hln hlt (j := 0) (by omega)
    have r2 := rd htk hN hln hlt (j := 2) (by omega)
    have hx9 := hL _ (List.getElem_mem hlt)
    have hms := mid_set by' hlt
    rw [mid_get by' hlt] at r0 r2
    refine At.region rfl rfl ?_
    refine Reg.pur rfl rfl rfl rfl (Pur.mv rfl) ?_
    refine Reg.pur rfl rfl rfl rfl (Pur.mv rfl) ?_
    refine Reg.pur rfl rfl rfl rfl (Pur.idx _ es23 rfl rfl (by omega) hb1) ?_
    refine Reg.pur rfl rfl rfl rfl (Pur.fld _ fo47_0 rfl) ?_
    refine Reg.lod rfl rfl rfl rfl (Lod.ld sc3 rfl hO.blk r0) ?_
    refine Reg.pur rfl rfl rfl rfl (Pur.eql rfl rfl) ?_
    refine Reg.nil ?_
    refine At.cond rfl rfl (fun hb2 => ?_) (fun hb2 => ?_)
    · refine At.region rfl rfl ?_
      refine Reg.pur rfl rfl rfl rfl (Pur.mv rfl) ?_
      refine Reg.pur rfl rfl rfl rfl (Pur.mv rfl) ?_
      refine Reg.pur rfl rfl rfl rfl (Pur.idx _ es23 rfl rfl (by omega) (by omega)) ?_
      refine Reg.pur rfl rfl rfl rfl (Pur.fld _ fo47_2 rfl) ?_
      refine Reg.lod rfl rfl rfl rfl (Lod.ld sc3 rfl hO.blk r2) ?_
      refine Reg.pur rfl rfl rfl rfl (Pur.mv rfl) ?_
      first | refine Reg.pur rfl rfl rfl rfl (Pur.add64 rfl rfl (by omega)) ?_ | refine Reg.pur rfl rfl rfl rfl (Pur.add64 rfl rfl (by assumption)) ?_ | refine Reg.pur rfl rfl rfl rfl (Pur.add rfl rfl) ?_
      refine Reg.pur rfl rfl rfl rfl (Pur.idx _ es23 rfl rfl (by omega) (by omega)) ?_
      refine Reg.pur rfl rfl rfl rfl (Pur.fld _ fo47_2 rfl) ?_
      refine Reg.op0 rfl rfl rfl (Does.st sc3 rfl rfl rfl hO (by omega)) ?_
      rintro _ H3 hu3
      refine Reg.nil ?_
      have t3 := wr htk hN hln hlt (j := 2) (by omega) (IntKind.i64.wrap (L[i].getD 2 0 + by'))
      have N3 := nine_set hN i 2 (IntKind.i64.wrap (L[i].getD 2 0 + by'))
      have l3 : ((mid by' L i).set i (((mid by' L i).getD i []).set 2 (IntKind.i64.wrap (L[i].getD 2 0 + by')))).length = L.length := by rw [List.length_set]; exact hln
      have g3 : ((mid by' L i).set i (((mid by' L i).getD i []).set 2 (IntKind.i64.wrap (L[i].getD 2 0 + by')))).getD i [] = L[i].set 2 (IntKind.i64.wrap (L[i].getD 2 0 + by')) := by rw [mid_get by' hlt, List.getD_eq_getElem?_getD, List.getElem?_set]; simp [hln, hlt]
      have r3 := rd t3 N3 l3 hlt (j := 3) (by omega)
      rw [g3, show (L[i].set 2 (IntKind.i64.wrap (L[i].getD 2 0 + by'))).getD 3 0 = L[i].getD 3 0 by simp [List.getD_eq_getElem?_getD, List.getElem?_set]] at r3
      refine At.region rfl rfl ?_
      refine Reg.pur rfl rfl rfl rfl (Pur.mv rfl) ?_
      refine Reg.pur rfl rfl rfl rfl (Pur.mv rfl) ?_
      refine Reg.pur rfl rfl rfl rfl (Pur.idx _ es23 rfl rfl (by omega) (by omega)) ?_
      refine Reg.pur rfl rfl rfl rfl (Pur.fld _ fo47_3 rfl) ?_
      refine Reg.lod rfl rfl rfl rfl (Lod.ld sc3 rfl hu3.own.blk r3) ?_
      refine Reg.pur rfl rfl rfl rfl (Pur.mv rfl) ?_
      first | refine Reg.pur rfl rfl rfl rfl (Pur.add64 rfl rfl (by omega)) ?_ | refine Reg.pur rfl rfl rfl rfl (Pur.add64 rfl rfl (by assumption)) ?_ | refine Reg.pur rfl rfl rfl rfl (Pur.add rfl rfl) ?_
      refine Reg.pur rfl rfl rfl rfl (Pur.idx _ es23 rfl rfl (by omega) (by omega)) ?_
      refine Reg.pur rfl rfl rfl rfl (Pur.fld _ fo47_3 rfl) ?_
      refine Reg.op0 rfl rfl rfl (Does.st sc3 rfl rfl rfl hu3.own (by rw [List.length_set]; omega)) ?_
      rintro _ H4 hu4
      refine Reg.nil ?_
      have t4 := wr t3 N3 l3 hlt (j := 3) (by omega) (IntKind.i64.wrap (L[i].getD 3 0 + by'))
      refine At.region rfl rfl ?_
      first | refine Reg.pur rfl rfl rfl rfl (Pur.add64 rfl rfl (by omega)) ?_ | refine Reg.pur rfl rfl rfl rfl (Pur.add64 rfl rfl (by assumption)) ?_ | refine Reg.pur rfl rfl rfl rfl (Pur.add rfl rfl) ?_
      refine Reg.pur rfl rfl rfl rfl (Pur.mv rfl) ?_
      refine Reg.nil ?_
      first | (rw [g3, List.set_set, show (L[i].set 2 (IntKind.i64.wrap (L[i].getD 2 0 + by'))).set 3 (IntKind.i64.wrap (L[i].getD 3 0 + by')) = movS by' L[i] by unfold movS; rw [if_pos (of_decide_eq_true hb2)], hms] at t4; exact At.via (ih (i + 1, _) H4 ⟨by omega, (hE.upd hu3 hgH).upd hu4 hgH, .inr ⟨hgH, rfl, hu4.own, t4⟩⟩ (by simp only; omega)) ⟨rfl, rfl, rfl, rfl, trivial⟩) | (rw [← mid_same by' hlt (by unfold movS; rw [if_neg (of_decide_eq_false hb2)])] at htk; exact At.via (ih (i + 1, c) _ ⟨by omega, hE, .inr ⟨hgH, rfl, hO, htk⟩⟩ (by simp only; omega)) ⟨rfl, rfl, rfl, rfl, trivial⟩)
    refine At.region rfl rfl ?_
    first | refine Reg.pur rfl rfl rfl rfl (Pur.add64 rfl rfl (by omega)) ?_ | refine Reg.pur rfl rfl rfl rfl (Pur.add64 rfl rfl (by assumption)) ?_ | refine Reg.pur rfl rfl rfl rfl (Pur.add rfl rfl) ?_
    refine Reg.pur rfl rfl rfl rfl (Pur.mv rfl) ?_
    refine Reg.nil ?_
    first | (rw [g3, List.set_set, show (L[i].set 2 (IntKind.i64.wrap (L[i].getD 2 0 + by'))).set 3 (IntKind.i64.wrap (L[i].getD 3 0 + by')) = movS by' L[i] by unfold movS; rw [if_pos (of_decide_eq_true hb2)], hms] at t4; exact At.via (ih (i + 1, _) H4 ⟨by omega, (hE.upd hu3 hgH).upd hu4 hgH, .inr ⟨hgH, rfl, hu4.own, t4⟩⟩ (by simp only; omega)) ⟨rfl, rfl, rfl, rfl, trivial⟩) | (rw [← mid_same by' hlt (by unfold movS; rw [if_neg (of_decide_eq_false hb2)])] at htk; exact At.via (ih (i + 1, c) _ ⟨by omega, hE, .inr ⟨hgH, rfl, hO, htk⟩⟩ (by simp only; omega)) ⟨rfl, rfl, rfl, rfl, trivial⟩)
  refine At.region rfl rfl ?_
  refine Reg.pur rfl rfl rfl rfl (Pur.mv rfl) ?_
  refine Reg.pur rfl rfl rfl rfl (Pur.asg rfl) ?_
  refine Reg.nil ?_
  refine At.ret rfl Try.func88 rfl ?_
  simp only [decide_eq_false_iff_not] at hb1
  refine ⟨⟨A', cap', rfl, hI.imp id (fun ⟨h1, h2, _⟩ => ⟨g, h1, h2⟩)⟩, ?_, hE⟩
  rcases hI with h0 | ⟨h1, rfl, hO, htk⟩
  · obtain rfl : L = [] := List.length_eq_zero_iff.1 h0
    exact ⟨A', cap', rfl, by simp, hc2, hc3, .inl rfl⟩
  · rw [mid_all by' L (by omega)] at htk
    have := sl_of (L := L.map (movS by')) (o := 0) (wide9 (nine_mov hL)) (by decide) hO.blk (by rw [List.drop_zero, List.length_map]; exact htk) (by rw [List.length_map]; exact hc1) hc2
    rw [List.length_map] at this
    exact this
end Go.Proofs.Ytlfillhffpiffaa

namespace Go.Proofs.Ytlfillhffpiffaa
set_option linter.unusedSimpArgs false
set_option linter.unusedVariables false
set_option maxRecDepth 8000
open Go Go.Fx Go.Proofs
namespace FactsSubG
theorem ag25 : ag Try.prog 25 = some 1 := by kernel_rfl
theorem ag47 : ag Try.prog 47 = some 9 := by kernel_rfl
theorem apt23 : appT Try.prog 23 = some (47, 9, 72) := by kernel_rfl
theorem eqt47 : eqT Try.prog 47 = some [.int .i64, .int .i64, .int .i64, .int .i64, .int .i64, .int .i64, .int .i64, .int .i64, .int .i64] := by kernel_rfl
theorem es23 : esz Try.prog 23 = some 9 := by kernel_rfl
theorem fo25_0 : foff Try.prog 25 0 = some 0 := by kernel_rfl
theorem isl23 : isSl Try.prog 23 = true := by kernel_rfl
theorem mixed : Try.prog.follows .mixedOrders = true := by kernel_rfl
theorem pl25 : places Try.prog 25 = some [(0, 1)] := by kernel_rfl
theorem sc23 : sc Try.prog 23 = true := by kernel_rfl
theorem slA23 : slA Try.prog 23 = some (47, 9) := by kernel_rfl
theorem zc25 : zc Try.prog 25 = some [.slice none 0 0] := by kernel_rfl
end FactsSubG
open FactsSubG

theorem copyN_ok {A : Option Addr} {cap : Nat} {L : List (List Int)} (hL : Nine L) {H : Heap} (hS : SlT H Is 9 (.slice A L.length cap) L) (hb : L.length * 72 ≤ 140737488351232) :
    Ret Try.prog 52 [.slice A L.length cap] H (fun v H' => OwnS H' H.size 47 9 v L.length (L.flatMap Is) ∧ Ext H H') := by
  refine Ret.of_at (N := 6) Try.call52 Try.func52 rfl rfl rfl ?_
  refine At.region rfl rfl ?_
  refine Reg.pur rfl rfl rfl rfl (Pur.asg rfl) ?_
  refine Reg.nil ?_
  refine At.region rfl rfl ?_
  refine Reg.op rfl rfl rfl rfl (Does.bslA ([]) slA23 rfl rfl rfl rfl rfl rfl) ?_
  rintro _ H1 ⟨rfl, rfl⟩
  refine Reg.pur rfl rfl rfl rfl (Pur.mv rfl) ?_
  refine Reg.op rfl rfl rfl rfl (Does.app apt23 rfl rfl (OwnS.new (xs := []) (n := 0) (H := H) (B := H.size) rfl (by decide) (Nat.le_refl _)) (sl_src (wide9 hL) (hS.ext New.of_push.ext)) (ones_flat L) (by rw [show maxLen = 9223372036854775807 from rfl]; omega) (by omega) (by simp)) ?_
  rintro v H2 ⟨ho, hbut, _, _⟩
  refine Reg.pur rfl rfl rfl rfl (Pur.asg rfl) ?_
  refine Reg.nil ?_
  refine At.ret rfl Try.func52 rfl ?_
  refine ⟨by simpa using ho, ?_⟩
  exact (New.of_push (xs := []).ext).trBut hbut (fun b hb h => by simp only [Value.ownBlock, Option.some.injEq] at h; omega)

theorem own_slice {H : Heap} {B : Nat} {ty : TypeId} {v : Value} {n s : Nat} {xs : List Value} (h : OwnS H B ty s v n xs) : ∃ A cap, v = .slice A n cap ∧ (∀ g, v.ownBlock = some g → B ≤ g) := by
  obtain ⟨_, ⟨rfl, rfl⟩ | ⟨g, cap, cur, rfl, h2, _⟩⟩ := h
  · exact ⟨none, 0, rfl, fun g h => by cases h⟩
  · exact ⟨_, _, rfl, fun g' h => by simp only [Value.ownBlock, Option.some.injEq] at h; omega⟩

theorem copyType_ok {A : Option Addr} {cap : Nat} {L : List (List Int)} (hL : Nine L) {H : Heap} (hS : SlT H Is 9 (.slice A L.length cap) L) (hb : L.length * 72 ≤ 140737488351232) :
    Ret Try.prog 19 [Ty A L.length cap] H (fun v H' => ∃ A' cap', v = Ty A' L.length cap' ∧ OwnS H' H.size 47 9 (.slice A' L.length cap') L.length (L.flatMap Is) ∧ Ext H H') := by
  refine Ret.of_at (N := 7) Try.call19 Try.func19 rfl rfl rfl ?_
  refine At.region rfl rfl ?_
  refine Reg.op rfl rfl rfl rfl (Does.box rfl rfl) ?_
  rintro _ H1 ⟨rfl, hn1⟩
  refine Reg.op rfl rfl rfl rfl (Does.alloc zc25) ?_
  rintro _ H2 ⟨rfl, hn2⟩
  refine Reg.nil ?_
  have hlt := hn1.own.lt
  have hlt2 := hn1.ext.1
  have hE2 := hn1.ext.trans hn2.ext
  refine At.region rfl rfl ?_
  refine Reg.pur rfl rfl rfl rfl (Pur.fld _ fo25_0 rfl) ?_
  refine Reg.lod rfl rfl rfl rfl (Lod.ld sc23 rfl ((hn1.own.ext hn2.ext).blk) rfl) ?_
  refine Reg.op rfl rfl rfl rfl (Does.call rfl (copyN_ok hL (hS.ext hE2) hb)) ?_
  rintro v H3 ⟨ho, hE3⟩
  obtain ⟨A', cap', rfl, hB⟩ := own_slice ho
  refine Reg.pur rfl rfl rfl rfl (Pur.bld (cs := [_]) pl25 zc25 rfl rfl ⟨rfl, rfl⟩) ?_
  refine Reg.op0 rfl rfl rfl (Does.stn ag25 rfl rfl rfl rfl (hn2.own.ext hE3) (by decide)) ?_
  rintro _ H4 hu4
  refine Reg.nil ?_
  have hR : Own H4 H1.size [.slice A' L.length cap'] := hu4.own
  have hRl : ([.slice A' L.length cap'] : List Value).length = 1 := rfl
  have hs2 := hn2.own.lt
  refine At.retC rfl Try.func19 ⟨_, _, _, _, rfl, rfl, ⟨_, hR.blk, .inr ⟨_, _, ag25, (whole hRl), hRl, rfl⟩⟩, rfl⟩ ?_
  refine ⟨A', cap', rfl, (ho.mono (by have := hE2.1; omega)).but hu4.but (fun g hg he => by have := hB g hg; omega), (hE2.trans hE3).upd hu4 (by omega)⟩

theorem sameN_ok {A A' : Option Addr} {cap cap' : Nat} {L L' : List (List Int)} (hL : Nine L) (hL' : Nine L') {H : Heap} (hS : SlT H Is 9 (.slice A L.length cap) L) (hS' : SlT H Is 9 (.slice A' L'.length cap') L') (hm : L.length ≤ 9223372036854775807) :
    Ret Try.prog 61 [.slice A L.length cap, .slice A' L'.length cap'] H (fun v H' => v = .bool (decide (L = L')) ∧ H' = H) := by
  refine Ret.of_at (N := 26) Try.call61 Try.func61 rfl rfl rfl ?_
  refine At.region rfl rfl ?_
  refine Reg.pur rfl rfl rfl rfl (Pur.asg rfl) ?_
  refine Reg.nil ?_
  refine At.region rfl rfl ?_
  refine Reg.pur rfl rfl rfl rfl (Pur.mv rfl) ?_
  refine Reg.pur rfl rfl rfl rfl (Pur.lenS isl23 rfl) ?_
  refine Reg.pur rfl rfl rfl rfl (Pur.mv rfl) ?_
  refine Reg.pur rfl rfl rfl rfl (Pur.lenS isl23 rfl) ?_
  refine Reg.pur rfl rfl rfl rfl (Pur.neq rfl rfl) ?_
  refine Reg.nil ?_
  refine At.cond rfl rfl (fun hb1 => ?_) (fun hb1 => ?_)
  · refine At.region rfl rfl ?_
    refine Reg.pur rfl rfl rfl rfl (Pur.asg rfl) ?_
    refine Reg.nil ?_
    refine At.ret rfl Try.func61 rfl ?_
    first | exact ⟨congrArg Value.bool (decide_eq_false (fun h => by subst h; rw [hq] at hb3; simp at hb3)).symm, rfl⟩ | exact ⟨congrArg Value.bool (decide_eq_true (by simp only [decide_eq_false_iff_not] at hb2; rwa [List.take_of_length_le (by omega), List.take_of_length_le (by omega)] at hgo)).symm, rfl⟩ | exact ⟨congrArg Value.bool (decide_eq_false (fun h => by subst h; simp at hb1)).symm, rfl⟩
  refine At.region rfl rfl ?_
  refine Reg.pur rfl rfl rfl rfl (Pur.asg rfl) ?_
  refine Reg.nil ?_
  have hll : L.length = L'.length := by simp at hb1; omega
  refine At.loop (σ := Nat) (fun i => [(5, I i), (0, .slice A L.length cap), (1, .slice A' L'.length cap')]) (fun i H' => i ≤ L.length ∧ H' = H ∧ L.take i = L'.take i) (fun i => L.length - i) 0 rfl ⟨rfl, rfl, rfl, trivial⟩ ⟨by omega, rfl, rfl⟩ ?_
  rintro i H1 ⟨hi, rfl, hgo⟩ ih
  refine At.region rfl rfl ?_
  refine Reg.pur rfl rfl rfl rfl (Pur.mv rfl) ?_
  refine Reg.pur rfl rfl rfl rfl (Pur.mv rfl) ?_
  refine Reg.pur rfl rfl rfl rfl (Pur.lenS isl23 rfl) ?_
  refine Reg.pur rfl rfl rfl rfl (Pur.lss rfl rfl) ?_
  refine Reg.nil ?_
  refine At.cond rfl rfl (fun hb2 => ?_) (fun hb2 => ?_)
  · simp only [decide_eq_true_eq] at hb2
    have hlt : i < L.length := by omega
    have hlt' : i < L'.length := by omega
    obtain ⟨b, o, c, rfl, hB, hd, h9⟩ := sl_at (wide9 hL) hS hlt
    obtain ⟨b', o', c', rfl, hB', hd', h9'⟩ := sl_at (wide9 hL') hS' hlt'
    have hf := fks_ints .i64 L[i]
    have hf' := fks_ints .i64 L'[i]
    rw [hL _ (List.getElem_mem hlt)] at hf
    rw [hL' _ (List.getElem_mem hlt')] at hf'
    have hq := eqs_ints .i64 L[i] L'[i]
    refine At.draw (fun H' => Blk H' b c ∧ Blk H' b' c') [] mixed rfl rfl ?_
    refine RegD.tpur (i := 0) rfl rfl rfl rfl (by kernel_rfl) (Pur.mv rfl) ?_
    refine RegD.tpur (i := 1) rfl rfl rfl rfl (by kernel_rfl) (Pur.mv rfl) ?_
    refine RegD.tpur (i := 2) rfl rfl rfl rfl (by kernel_rfl) (Pur.idx _ es23 rfl rfl (by omega) hb2) ?_
    refine RegD.take (i := 3) rfl rfl rfl rfl (by kernel_rfl) ⟨hB, hB'⟩ (fun H hS => Lod.ldn ag47 rfl hS.1 hd h9) ?_
    refine RegD.tpur (i := 4) rfl rfl rfl rfl (by kernel_rfl) (Pur.mv rfl) ?_
    refine RegD.tpur (i := 5) rfl rfl rfl rfl (by kernel_rfl) (Pur.mv rfl) ?_
    refine RegD.tpur (i := 6) rfl rfl rfl rfl (by kernel_rfl) (Pur.idx _ es23 rfl rfl (by omega) (by omega)) ?_
    refine RegD.take (i := 7) rfl rfl rfl rfl (by kernel_rfl) ⟨hB, hB'⟩ (fun H hS => Lod.ldn ag47 rfl hS.2 hd' h9') ?_
    refine RegD.tpur (i := 8) rfl rfl rfl rfl (by kernel_rfl) (Pur.neA eqt47 rfl rfl hf hf') ?_
    refine RegD.done (by kernel_rfl) ?_
    refine At.cond rfl rfl (fun hb3 => ?_) (fun hb3 => ?_)
    · refine At.region rfl rfl ?_
      refine Reg.pur rfl rfl rfl rfl (Pur.asg rfl) ?_
      refine Reg.nil ?_
      refine At.ret rfl Try.func61 rfl ?_
      first | exact ⟨congrArg Value.bool (decide_eq_false (fun h => by subst h; rw [hq] at hb3; simp at hb3)).symm, rfl⟩ | exact ⟨congrArg Value.bool (decide_eq_true (by simp only [decide_eq_false_iff_not] at hb2; rwa [List.take_of_length_le (by omega), List.take_of_length_le (by omega)] at hgo)).symm, rfl⟩ | exact ⟨congrArg Value.bool (decide_eq_false (fun h => by subst h; simp at hb1)).symm, rfl⟩
    refine At.region rfl rfl ?_
    refine Reg.pur rfl rfl rfl rfl (Pur.mv rfl) ?_
    first | refine Reg.pur rfl rfl rfl rfl (Pur.add64 rfl rfl (by omega)) ?_ | refine Reg.pur rfl rfl rfl rfl (Pur.add64 rfl rfl (by assumption)) ?_ | refine Reg.pur rfl rfl rfl rfl (Pur.add rfl rfl) ?_
    refine Reg.pur rfl rfl rfl rfl (Pur.asg rfl) ?_
    refine Reg.nil ?_
    refine At.via (ih (i + 1) _ ⟨by omega, rfl, ?_⟩ (by omega)) ⟨rfl, rfl, rfl, trivial⟩
    rw [hq] at hb3
    rw [List.take_succ_eq_append_getElem hlt, List.take_succ_eq_append_getElem hlt', hgo, show L[i] = L'[i] by simpa using hb3]
  refine At.region rfl rfl ?_
  refine Reg.pur rfl rfl rfl rfl (Pur.asg rfl) ?_
  refine Reg.nil ?_
  refine At.ret rfl Try.func61 rfl ?_
  first | exact ⟨congrArg Value.bool (decide_eq_false (fun h => by subst h; rw [hq] at hb3; simp at hb3)).symm, rfl⟩ | exact ⟨congrArg Value.bool (decide_eq_true (by simp only [decide_eq_false_iff_not] at hb2; rwa [List.take_of_length_le (by omega), List.take_of_length_le (by omega)] at hgo)).symm, rfl⟩ | exact ⟨congrArg Value.bool (decide_eq_false (fun h => by subst h; simp at hb1)).symm, rfl⟩

theorem sameType_ok {A A' : Option Addr} {cap cap' : Nat} {L L' : List (List Int)} (hL : Nine L) (hL' : Nine L') {H : Heap} (hS : SlT H Is 9 (.slice A L.length cap) L) (hS' : SlT H Is 9 (.slice A' L'.length cap') L') (hm : L.length ≤ 9223372036854775807) :
    Ret Try.prog 24 [Ty A L.length cap, Ty A' L'.length cap'] H (fun v H' => v = .bool (decide (L = L')) ∧ Ext H H') := by
  refine Ret.of_at (N := 10) Try.call24 Try.func24 rfl rfl rfl ?_
  refine At.region rfl rfl ?_
  refine Reg.op rfl rfl rfl rfl (Does.box rfl rfl) ?_
  rintro _ H1 ⟨rfl, hn1⟩
  refine Reg.op rfl rfl rfl rfl (Does.box rfl rfl) ?_
  rintro _ H2 ⟨rfl, hn2⟩
  refine Reg.pur rfl rfl rfl rfl (Pur.asg rfl) ?_
  refine Reg.nil ?_
  refine At.region rfl rfl ?_
  refine Reg.pur rfl rfl rfl rfl (Pur.fld _ fo25_0 rfl) ?_
  refine Reg.lod rfl rfl rfl rfl (Lod.ld sc23 rfl ((hn1.own.ext hn2.ext).blk) rfl) ?_
  refine Reg.pur rfl rfl rfl rfl (Pur.fld _ fo25_0 rfl) ?_
  refine Reg.lod rfl rfl rfl rfl (Lod.ld sc23 rfl hn2.own.blk rfl) ?_
  refine Reg.op rfl rfl rfl rfl (Does.call rfl (sameN_ok hL hL' (hS.ext (hn1.ext.trans hn2.ext)) (hS'.ext (hn1.ext.trans hn2.ext)) hm)) ?_
  rintro _ H2 ⟨rfl, rfl⟩
  refine Reg.pur rfl rfl rfl rfl (Pur.asg rfl) ?_
  refine Reg.nil ?_
  refine At.ret rfl Try.func24 rfl ?_
  exact ⟨rfl, hn1.ext.trans hn2.ext⟩
end Go.Proofs.Ytlfillhffpiffaa

namespace Go.Proofs.Ytlfillhffpiffaa
set_option linter.unusedSimpArgs false
set_option linter.unusedVariables false
set_option maxRecDepth 8000
open Go Go.Fx Go.Proofs
namespace FactsSubH
theorem es23 : esz Try.prog 23 = some 9 := by kernel_rfl
theorem fo25_0 : foff Try.prog 25 0 = some 0 := by kernel_rfl
theorem fo47_1 : foff Try.prog 47 1 = some 1 := by kernel_rfl
theorem isl23 : isSl Try.prog 23 = true := by kernel_rfl
theorem sc23 : sc Try.prog 23 = true := by kernel_rfl
theorem sc3 : sc Try.prog 3 = true := by kernel_rfl
end FactsSubH
open FactsSubH

theorem spoilN_ok {A : Option Addr} {cap g : Nat} {L : List (List Int)} (hL : Nine L) {H : Heap} {c0 : List Value} (hm : L.length ≤ 9223372036854775807) (hI : L.length = 0 ∨ (A = some ⟨g, 0, none⟩ ∧ Own H g c0 ∧ c0.take (L.length * 9) = L.flatMap Is)) :
    Ret Try.prog 62 [.slice A L.length cap] H (fun v H' => (L.length = 0 ∧ H' = H) ∨ But (· = g) H H') := by
  refine Ret.of_at (N := 19) Try.call62 Try.func62 rfl rfl rfl ?_
  refine At.region rfl rfl ?_
  refine Reg.pur rfl rfl rfl rfl (Pur.asg rfl) ?_
  refine Reg.nil ?_
  refine At.loop (σ := Nat × List (List Int) × List Value) (fun s => [(2, I s.1), (0, .slice A L.length cap)]) (fun s H' => s.1 ≤ L.length ∧ s.2.1.length = L.length ∧ Nine s.2.1 ∧ ((L.length = 0 ∧ H' = H) ∨ (A = some ⟨g, 0, none⟩ ∧ Own H' g s.2.2 ∧ s.2.2.take (L.length * 9) = s.2.1.flatMap Is ∧ But (· = g) H H'))) (fun s => L.length - s.1) (0, L, c0) rfl ⟨rfl, rfl, trivial⟩ ⟨by omega, rfl, hL, hI.imp (fun h => ⟨h, rfl⟩) (fun ⟨h1, h2, h3⟩ => ⟨h1, h2, h3, But.refl _ _⟩)⟩ ?_
  clear hI
  rintro ⟨i, M, c⟩ H2 ⟨hi, hl, hM, hI⟩ ih
  dsimp only at hi hl hM hI ⊢
  refine At.region rfl rfl ?_
  refine Reg.pur rfl rfl rfl rfl (Pur.mv rfl) ?_
  refine Reg.pur rfl rfl rfl rfl (Pur.mv rfl) ?_
  refine Reg.pur rfl rfl rfl rfl (Pur.lenS isl23 rfl) ?_
  refine Reg.pur rfl rfl rfl rfl (Pur.lss rfl rfl) ?_
  refine Reg.nil ?_
  refine At.cond rfl rfl (fun hb1 => ?_) (fun hb1 => ?_)
  · simp only [decide_eq_true_eq] at hb1
    have hlt : i < L.length := by omega
    obtain ⟨rfl, hO, htk, hB⟩ := hI.resolve_left (by omega)
    have r1 := rd htk hM hl hlt (j := 1) (by omega)
    have hcl := len_of htk hM hl
    refine At.region rfl rfl ?_
    refine Reg.pur rfl rfl rfl rfl (Pur.mv rfl) ?_
    refine Reg.pur rfl rfl rfl rfl (Pur.mv rfl) ?_
    refine Reg.pur rfl rfl rfl rfl (Pur.mv rfl) ?_
    refine Reg.pur rfl rfl rfl rfl (Pur.mv rfl) ?_
    refine Reg.pur rfl rfl rfl rfl (Pur.idx _ es23 rfl rfl (by omega) hb1) ?_
    refine Reg.pur rfl rfl rfl rfl (Pur.fld _ fo47_1 rfl) ?_
    refine Reg.lod rfl rfl rfl rfl (Lod.ld sc3 rfl hO.blk r1) ?_
    refine Reg.pur rfl rfl rfl rfl (Pur.xor rfl rfl) ?_
    refine Reg.pur rfl rfl rfl rfl (Pur.idx _ es23 rfl rfl (by omega) hb1) ?_
    refine Reg.pur rfl rfl rfl rfl (Pur.fld _ fo47_1 rfl) ?_
    refine Reg.op0 rfl rfl rfl (Does.st sc3 rfl rfl rfl hO (by omega)) ?_
    rintro _ H3 hu3
    refine Reg.nil ?_
    refine At.region rfl rfl ?_
    refine Reg.pur rfl rfl rfl rfl (Pur.mv rfl) ?_
    first | refine Reg.pur rfl rfl rfl rfl (Pur.add64 rfl rfl (by omega)) ?_ | refine Reg.pur rfl rfl rfl rfl (Pur.add64 rfl rfl (by assumption)) ?_ | refine Reg.pur rfl rfl rfl rfl (Pur.add rfl rfl) ?_
    refine Reg.pur rfl rfl rfl rfl (Pur.asg rfl) ?_
    refine Reg.nil ?_
    exact At.via (ih (i + 1, _, _) H3 ⟨by omega, by simp only [List.length_set]; exact hl, nine_set hM i 1 _, .inr ⟨rfl, hu3.own, wr htk hM hl hlt (j := 1) (by omega) _, hB.trans hu3.but⟩⟩ (by simp only; omega)) ⟨rfl, rfl, trivial⟩
  refine At.fall rfl Try.func62 rfl ?_
  exact hI.imp id (fun h => h.2.2.2)

theorem spoilT_ok {A : Option Addr} {cap g : Nat} {L : List (List Int)} (hL : Nine L) {H : Heap} {c0 : List Value} (hm : L.length ≤ 9223372036854775807) (hI : L.length = 0 ∨ (A = some ⟨g, 0, none⟩ ∧ Own H g c0 ∧ c0.take (L.length * 9) = L.flatMap Is)) :
    Ret Try.prog 26 [Ty A L.length cap] H (fun v H' => (L.length = 0 ∧ Ext H H') ∨ But (· = g) H H') := by
  refine Ret.of_at (N := 5) Try.call26 Try.func26 rfl rfl rfl ?_
  refine At.region rfl rfl ?_
  refine Reg.op rfl rfl rfl rfl (Does.box rfl rfl) ?_
  rintro _ H1 ⟨rfl, hn1⟩
  refine Reg.nil ?_
  refine At.region rfl rfl ?_
  refine Reg.pur rfl rfl rfl rfl (Pur.fld _ fo25_0 rfl) ?_
  refine Reg.lod rfl rfl rfl rfl (Lod.ld sc23 rfl hn1.own.blk rfl) ?_
  refine Reg.op rfl rfl rfl rfl (Does.call rfl (spoilN_ok (g := g) (c0 := c0) hL hm (hI.imp id (fun ⟨h1, h2, h3⟩ ↦ ⟨h1, h2.ext hn1.ext, h3⟩)))) ?_
  rintro _ H2 hr
  refine Reg.nil ?_
  refine At.fall rfl Try.func26 rfl ?_
  exact hr.imp (fun ⟨h1, h2⟩ => ⟨h1, h2 ▸ hn1.ext⟩) (fun h => hn1.ext.but.trans h)
end Go.Proofs.Ytlfillhffpiffaa

namespace Go.Proofs.Ytlfillhffpiffaa
set_option linter.unusedSimpArgs false
set_option linter.unusedVariables false
set_option maxRecDepth 8000
open Go Go.Fx Go.Proofs

theorem bgn_all (L : List (List Int)) : ∀ (f : Nat) (z : Int), 0 ≤ z → 0 ≤ bgn L f z → ∀ i : Int, bgn L f z ≤ i → i ≤ z → (el L i).getD 0 0 = 3 →
    (el L i).getD 3 0 = i - 1 ∧ 0 ≤ (el L i).getD 2 0 ∧ (el L i).getD 2 0 < i - 1 ∧ 1 ≤ i
  | 0, z, h0, h, i, _, _, _ => by simp only [bgn] at h; omega
  | f + 1, z, h0, h, i, h1, h2, h3 => by
    rw [bgn_succ] at h h1
    by_cases hk : (el L z).getD 0 0 ≠ 3
    · rw [if_pos hk] at h1
      have : i = z := by omega
      subst this; exact (hk h3).elim
    · rw [if_neg hk] at h h1
      by_cases hb : z = 0 ∨ (el L z).getD 3 0 ≠ z - 1
      · rw [if_pos hb] at h; omega
      · rw [if_neg hb] at h h1
        by_cases hc : bgn L f ((el L z).getD 3 0) < 1 ∨ (el L z).getD 2 0 ≠ bgn L f ((el L z).getD 3 0) - 1
        · rw [if_pos hc] at h; omega
        · rw [if_neg hc] at h h1
          have hB : (el L z).getD 3 0 = z - 1 := by omega
          have hle := bgn_le L f ((el L z).getD 3 0) (by omega)
          by_cases hi : i = z
          · subst hi; omega
          · by_cases hi2 : bgn L f ((el L z).getD 3 0) ≤ i
            · exact bgn_all L f _ (by omega) (by omega) i hi2 (by omega) h3
            · exact bgn_all L f _ (by omega) h i h1 (by omega) h3

theorem typM_all {L : List (List Int)} (h : typM L = true) {i : Nat} (hi : i < L.length) (hk : L[i].getD 0 0 = 3) :
    L[i].getD 3 0 = (i : Int) - 1 ∧ 0 ≤ L[i].getD 2 0 ∧ L[i].getD 2 0 < (i : Int) - 1 ∧ 1 ≤ i := by
  unfold typM at h
  simp only [Bool.and_eq_true, decide_eq_true_eq] at h
  obtain ⟨⟨h1, _⟩, h2⟩ := h
  have hel : el L (i : Int) = L[i] := by simp [el, List.getD_eq_getElem?_getD, List.getElem?_eq_getElem hi]
  have := bgn_all L L.length ((L.length : Int) - 1) (by omega) (by omega) i (by omega) (by omega) (by rw [hel]; exact hk)
  rw [hel] at this
  omega
theorem typM_nod {L : List (List Int)} (h : typM L = true) {i : Nat} (hi : i < L.length) : nodM L[i] = true := by
  unfold typM at h
  simp only [Bool.and_eq_true, decide_eq_true_eq, List.all_eq_true] at h
  exact h.1.2 _ (List.getElem_mem hi)
end Go.Proofs.Ytlfillhffpiffaa

namespace Go.Proofs.Ytlfillhffpiffaa
set_option linter.unusedSimpArgs false
set_option linter.unusedVariables false
set_option maxRecDepth 8000
open Go Go.Fx Go.Proofs
namespace FactsSchC
theorem apt54 : appT Try.prog 54 = some (3, 1, 8) := by kernel_rfl
theorem es54 : esz Try.prog 54 = some 1 := by kernel_rfl
theorem sc3 : sc Try.prog 3 = true := by kernel_rfl
theorem sl1_54 : sl1 Try.prog 54 = true := by kernel_rfl
end FactsSchC
open FactsSchC

end Go.Proofs.Ytlfillhffpiffaa

namespace Go.Proofs.Ytlfillhffpiffaa
set_option linter.unusedSimpArgs false
set_option linter.unusedVariables false
set_option maxRecDepth 8000
open Go Go.Fx Go.Proofs
namespace FactsSchD
theorem fo28_1 : foff Try.prog 28 1 = some 4 := by kernel_rfl
theorem fo47_0 : foff Try.prog 47 0 = some 0 := by kernel_rfl
theorem fo47_1 : foff Try.prog 47 1 = some 1 := by kernel_rfl
theorem fo47_4 : foff Try.prog 47 4 = some 4 := by kernel_rfl
theorem mixed : Try.prog.follows .mixedOrders = true := by kernel_rfl
theorem sc3 : sc Try.prog 3 = true := by kernel_rfl
end FactsSchD
open FactsSchD

theorem bgn_fun {L : List (List Int)} {f : Nat} {z : Int} (h : 0 ≤ bgn L (f + 1) z) (hk : (el L z).getD 0 0 = 3) :
    z ≠ 0 ∧ (el L z).getD 3 0 = z - 1 ∧ 1 ≤ bgn L f ((el L z).getD 3 0) ∧ (el L z).getD 2 0 = bgn L f ((el L z).getD 3 0) - 1 ∧ 0 ≤ bgn L f ((el L z).getD 2 0) := by
  rw [bgn_succ, if_neg (by omega)] at h
  by_cases hb : z = 0 ∨ (el L z).getD 3 0 ≠ z - 1
  · rw [if_pos hb] at h; omega
  · rw [if_neg hb] at h
    by_cases hc : bgn L f ((el L z).getD 3 0) < 1 ∨ (el L z).getD 2 0 ≠ bgn L f ((el L z).getD 3 0) - 1
    · rw [if_pos hc] at h; omega
    · rw [if_neg hc] at h; omega

end Go.Proofs.Ytlfillhffpiffaa

namespace Go.Proofs.Ytlfillhffpiffaa
set_option linter.unusedSimpArgs false
set_option linter.unusedVariables false
set_option maxRecDepth 8000
open Go Go.Fx Go.Proofs
namespace FactsSchE
theorem es23 : esz Try.prog 23 = some 9 := by kernel_rfl
theorem fo25_0 : foff Try.prog 25 0 = some 0 := by kernel_rfl
theorem fo47_0 : foff Try.prog 47 0 = some 0 := by kernel_rfl
theorem fo47_2 : foff Try.prog 47 2 = some 2 := by kernel_rfl
theorem fo47_3 : foff Try.prog 47 3 = some 3 := by kernel_rfl
theorem isl23 : isSl Try.prog 23 = true := by kernel_rfl
theorem sc23 : sc Try.prog 23 = true := by kernel_rfl
theorem sc3 : sc Try.prog 3 = true := by kernel_rfl
end FactsSchE
open FactsSchE

theorem typM_bgn {L : List (List Int)} (h : typM L = true) : (1 ≤ L.length ∧ L.length ≤ 256) ∧ bgn L L.length ((L.length : Int) - 1) = 0 := by
  unfold typM at h
  simp only [Bool.and_eq_true, decide_eq_true_eq] at h
  exact ⟨h.1.1, h.2⟩
end Go.Proofs.Ytlfillhffpiffaa

namespace Go.Proofs.Ytlfillhffpiffaa
set_option linter.unusedSimpArgs false
set_option linter.unusedVariables false
set_option maxRecDepth 8000
open Go Go.Fx Go.Proofs
namespace FactsSchF
theorem ag25 : ag Try.prog 25 = some 1 := by kernel_rfl
theorem ag47 : ag Try.prog 47 = some 9 := by kernel_rfl
theorem es23 : esz Try.prog 23 = some 9 := by kernel_rfl
theorem fo25_0 : foff Try.prog 25 0 = some 0 := by kernel_rfl
theorem fo28_1 : foff Try.prog 28 1 = some 4 := by kernel_rfl
theorem fo47_0 : foff Try.prog 47 0 = some 0 := by kernel_rfl
theorem fo47_1 : foff Try.prog 47 1 = some 1 := by kernel_rfl
theorem fo47_2 : foff Try.prog 47 2 = some 2 := by kernel_rfl
theorem fo47_3 : foff Try.prog 47 3 = some 3 := by kernel_rfl
theorem fo47_4 : foff Try.prog 47 4 = some 4 := by kernel_rfl
theorem isl23 : isSl Try.prog 23 = true := by kernel_rfl
theorem mixed : Try.prog.follows .mixedOrders = true := by kernel_rfl
theorem sc23 : sc Try.prog 23 = true := by kernel_rfl
theorem sc3 : sc Try.prog 3 = true := by kernel_rfl
theorem zc47 : zc Try.prog 47 = some [.int .i64 0, .int .i64 0, .int .i64 0, .int .i64 0, .int .i64 0, .int .i64 0, .int .i64 0, .int .i64 0, .int .i64 0] := by kernel_rfl
end FactsSchF
open FactsSchF

end Go.Proofs.Ytlfillhffpiffaa

namespace Go.Proofs.Ytlfillhffpiffaa
set_option linter.unusedSimpArgs false
set_option linter.unusedVariables false
set_option maxRecDepth 8000
open Go Go.Fx Go.Proofs
namespace FactsSchG
theorem ag25 : ag Try.prog 25 = some 1 := by kernel_rfl
theorem fo25_0 : foff Try.prog 25 0 = some 0 := by kernel_rfl
theorem mixed : Try.prog.follows .mixedOrders = true := by kernel_rfl
theorem pl25 : places Try.prog 25 = some [(0, 1)] := by kernel_rfl
theorem sc23 : sc Try.prog 23 = true := by kernel_rfl
theorem zc25 : zc Try.prog 25 = some [.slice none 0 0] := by kernel_rfl
end FactsSchG
open FactsSchG

def cs (b : Bool) : Int := if b then 0 else 1200
end Go.Proofs.Ytlfillhffpiffaa

namespace Go.Proofs.Ytlfillhffpiffaa
set_option linter.unusedSimpArgs false
set_option linter.unusedVariables false
set_option maxRecDepth 8000
open Go Go.Fx Go.Proofs
namespace FactsSchH
theorem ag25 : ag Try.prog 25 = some 1 := by kernel_rfl
theorem apt23 : appT Try.prog 23 = some (47, 9, 72) := by kernel_rfl
theorem es54 : esz Try.prog 54 = some 1 := by kernel_rfl
theorem fo25_0 : foff Try.prog 25 0 = some 0 := by kernel_rfl
theorem mixed : Try.prog.follows .mixedOrders = true := by kernel_rfl
theorem pl25 : places Try.prog 25 = some [(0, 1)] := by kernel_rfl
theorem sc23 : sc Try.prog 23 = true := by kernel_rfl
theorem sc3 : sc Try.prog 3 = true := by kernel_rfl
theorem slA23 : slA Try.prog 23 = some (47, 9) := by kernel_rfl
theorem zc25 : zc Try.prog 25 = some [.slice none 0 0] := by kernel_rfl
end FactsSchH
open FactsSchH

end Go.Proofs.Ytlfillhffpiffaa

namespace Go.Proofs.Ytlfillhffpiffaa
set_option linter.unusedSimpArgs false
set_option linter.unusedVariables false
set_option maxRecDepth 8000
open Go Go.Fx Go.Proofs

def funS (x : List Int) (a b : Int) (r : List Int) : List Int := ((x.set 2 a).set 3 b).take 4 ++ r
def moreS (Bs : List Bd) (out : List (List Int)) (ends : List Int) (x : List Int) : Option (List (List Int)) :=
  if x.getD 0 0 = 2 then match Bs.find? (mt false (x.getD 1 0)) with
    | some bd => some (bd.nodes.map (movS out.length))
    | none => some [x]
  else if x.getD 0 0 = 3 then
    if (rowS Bs (x.drop 4)).2 then some [funS x (ends.getD (x.getD 2 0).toNat 0) (ends.getD (x.getD 3 0).toNat 0) (rowS Bs (x.drop 4)).1] else none
  else some [x]
def goS (Bs : List Bd) : List (List Int) → List (List Int) → List Int → Option (List (List Int))
  | [], out, _ => some out
  | x :: xs, out, ends => match moreS Bs out ends x with
    | none => none
    | some m => if 256 < out.length + m.length then none else goS Bs xs (out ++ m) (ends ++ [((out.length + m.length : Nat) : Int) - 1])
def typS (Bs : List Bd) (L : List (List Int)) : Option (List (List Int)) := goS Bs L [] []

end Go.Proofs.Ytlfillhffpiffaa

namespace Go.Proofs.Ytlfillhffpiffaa
set_option linter.unusedSimpArgs false
set_option linter.unusedVariables false
set_option maxRecDepth 8000
open Go Go.Fx Go.Proofs
namespace FactsSubK
theorem ag25 : ag Try.prog 25 = some 1 := by kernel_rfl
theorem ag28 : ag Try.prog 28 = some 5 := by kernel_rfl
theorem ag47 : ag Try.prog 47 = some 9 := by kernel_rfl
theorem apt23 : appT Try.prog 23 = some (47, 9, 72) := by kernel_rfl
theorem es23 : esz Try.prog 23 = some 9 := by kernel_rfl
theorem es54 : esz Try.prog 54 = some 1 := by kernel_rfl
theorem fo25_0 : foff Try.prog 25 0 = some 0 := by kernel_rfl
theorem fo47_0 : foff Try.prog 47 0 = some 0 := by kernel_rfl
theorem fo47_1 : foff Try.prog 47 1 = some 1 := by kernel_rfl
theorem fo47_2 : foff Try.prog 47 2 = some 2 := by kernel_rfl
theorem fo47_3 : foff Try.prog 47 3 = some 3 := by kernel_rfl
theorem fo47_4 : foff Try.prog 47 4 = some 4 := by kernel_rfl
theorem fo49_2 : foff Try.prog 49 2 = some 2 := by kernel_rfl
theorem isPt143 : isPt Try.prog 143 = true := by kernel_rfl
theorem isl23 : isSl Try.prog 23 = true := by kernel_rfl
theorem mixed : Try.prog.follows .mixedOrders = true := by kernel_rfl
theorem mkT54 : mkT Try.prog 54 = some (3, .int .i64 0, 8) := by kernel_rfl
theorem pl25 : places Try.prog 25 = some [(0, 1)] := by kernel_rfl
theorem sc23 : sc Try.prog 23 = true := by kernel_rfl
theorem sc3 : sc Try.prog 3 = true := by kernel_rfl
theorem slA23 : slA Try.prog 23 = some (47, 9) := by kernel_rfl
theorem zc25 : zc Try.prog 25 = some [.slice none 0 0] := by kernel_rfl
theorem zc28 : zc Try.prog 28 = some [.int .i64 0, .int .i64 0, .int .i64 0, .int .i64 0, .int .i64 0] := by kernel_rfl
theorem zc47 : zc Try.prog 47 = some [.int .i64 0, .int .i64 0, .int .i64 0, .int .i64 0, .int .i64 0, .int .i64 0, .int .i64 0, .int .i64 0, .int .i64 0] := by kernel_rfl
end FactsSubK
open FactsSubK

def TypB (B : Nat) (H' : Heap) (v : Value) (o : Option (List (List Int))) : Prop :=
  match o with
  | none => v = .tuple #[Ty none 0 0, .bool false]
  | some out => ∃ A' cap', v = .tuple #[Ty A' out.length cap', .bool true] ∧ OwnS H' B 47 9 (.slice A' out.length cap') out.length (out.flatMap Is) ∧ Nine out ∧ out.length ≤ 256

theorem nine1 {x : List Int} (h : x.length = 9) : Nine [x] := by intro y hy; simp at hy; subst hy; exact h
theorem ends_at {ends : List Int} {m : Nat} {z : Int} (h0 : 0 ≤ z) (h : z < ends.length) : (Is (ends ++ List.replicate m 0))[0 + z.toNat * 1]? = some (I (ends.getD z.toNat 0)) := by
  rw [show 0 + z.toNat * 1 = z.toNat by omega]
  simp only [Is, List.getElem?_map]
  rw [List.getElem?_append_left (by omega), List.getD_eq_getElem?_getD, List.getElem?_eq_getElem (by omega)]; rfl
theorem more_nil {Bs : List Bd} {out : List (List Int)} {ends : List Int} {k v p q c0 c1 c2 c3 t : Int} {a : Option Addr} {P' : Bd → Nat → Nat → List Value → Prop} (hk : k = 2)
    (hf : match Bs.find? (mt false v) with | none => a = none | some bd => (∃ b o c, a = some ⟨b, o, none⟩ ∧ P' bd b o c)) (hb : (!a.isNone) = false) : moreS Bs out ends [k, v, p, q, c0, c1, c2, c3, t] = some [[k, v, p, q, c0, c1, c2, c3, t]] := by
  subst hk
  cases hq : Bs.find? (mt false v) with
  | none => simp [moreS, hq]
  | some bd => rw [hq] at hf; obtain ⟨b, o, c, rfl, _⟩ := hf; cases hb
theorem more_else {Bs : List Bd} {out : List (List Int)} {ends : List Int} {k v p q c0 c1 c2 c3 t : Int} (h2 : ¬ k = 2) (h3 : ¬ k = 3) : moreS Bs out ends [k, v, p, q, c0, c1, c2, c3, t] = some [[k, v, p, q, c0, c1, c2, c3, t]] := by
  simp [moreS, h2, h3]
theorem ends_set {ends : List Int} {n i : Nat} (hl : ends.length = i) (hi : i < n) (z : Int) : (Is (ends ++ List.replicate (n - i) 0)).set (0 + (i : Int).toNat * 1) (I z) = Is ((ends ++ [z]) ++ List.replicate (n - (i + 1)) 0) := by
  rw [show 0 + (i : Int).toNat * 1 = i by omega, Is_set, List.set_append_right _ _ (by omega), hl, Nat.sub_self, show n - i = (n - (i + 1)) + 1 by omega, List.replicate_succ, List.set_cons_zero, List.append_assoc]; rfl
theorem nod3 {k v p q c0 c1 c2 c3 t : Int} (h : nodM [k, v, p, q, c0, c1, c2, c3, t] = true) (hk : k = 3) : rowM [c0, c1, c2, c3, t] = true := by
  subst hk; simp [nodM] at h; exact h.1
theorem row_tail {r : List Int} (h : rowM r = true) : -1 ≤ r.getD 4 0 := by
  unfold rowM at h; simp only [Bool.and_eq_true, decide_eq_true_eq] at h; exact h.2.1

theorem ofType_ok {A A1 : Option Addr} {cap cap1 bt ot : Nat} {ct : List Value} {Bs : List Bd} {L : List (List Int)} {H : Heap} (hB : Bds H (.slice A Bs.length cap) Bs) (hS : SlT H Is 9 (.slice A1 L.length cap1) L) (hL : Nine L) (hM : typM L = true)
    (hT : Blk H bt ct) (hct : ct[ot]? = some (.slice A1 L.length cap1)) :
    Ret Try.prog 55 [.slice A Bs.length cap, ptr bt ot] H (fun v H' => Ext H H' ∧ TypB H.size H' v (typS Bs L)) := by
  have hlen : 1 ≤ L.length ∧ L.length ≤ 256 := by unfold typM at hM; simp only [Bool.and_eq_true, decide_eq_true_eq] at hM; exact hM.1.1
  refine Ret.of_at (N := 101) Try.call55 Try.func55 rfl rfl rfl ?_
  refine At.region rfl rfl ?_
  refine Reg.op rfl rfl rfl rfl (Does.alloc zc25) ?_
  rintro _ H1 ⟨rfl, hn1⟩
  refine Reg.pur rfl rfl rfl rfl (Pur.asg rfl) ?_
  refine Reg.nil ?_
  have hT1 := hT.ext hn1.ext
  refine At.region rfl rfl ?_
  refine Reg.pur rfl rfl rfl rfl (Pur.asg rfl) ?_
  refine Reg.nil ?_
  refine At.region rfl rfl ?_
  refine Reg.pur rfl rfl rfl rfl (Pur.mv rfl) ?_
  refine Reg.pur rfl rfl rfl rfl (Pur.nilc rfl) ?_
  refine Reg.pur rfl rfl rfl rfl (Pur.fld _ fo25_0 rfl) ?_
  refine Reg.lod rfl rfl rfl rfl (Lod.ld sc23 rfl hT1 (by simpa using hct)) ?_
  refine Reg.pur rfl rfl rfl rfl (Pur.lenS isl23 rfl) ?_
  refine Reg.op rfl rfl rfl rfl (Does.mks mkT54 rfl rfl (by omega) (by omega)) ?_
  rintro _ H2 ⟨rfl, hp2⟩
  refine Reg.pur rfl rfl rfl rfl (Pur.asg rfl) ?_
  refine Reg.nil ?_
  have hn2 : New H1 H2 (List.replicate L.length (I 0)) := ⟨_, hp2⟩
  have hEn : Own H2 H1.size (Is ([] ++ List.replicate (L.length - 0) 0)) := by have := hn2.own; rwa [show (List.replicate L.length (I 0)) = Is ([] ++ List.replicate (L.length - 0) 0) by simp [Is]] at this
  have hRb : Own H2 H.size [.slice none 0 0] := hn1.own.ext hn2.ext
  have hE2 := hn1.ext.trans hn2.ext
  have hlt1 := hn1.own.lt
  have hlt2 := hn2.own.lt
  refine At.region rfl rfl ?_
  refine Reg.pur rfl rfl rfl rfl (Pur.mv rfl) ?_
  refine Reg.pur rfl rfl rfl rfl (Pur.nilc rfl) ?_
  refine Reg.pur rfl rfl rfl rfl (Pur.fld _ fo25_0 rfl) ?_
  refine Reg.lod rfl rfl rfl rfl (Lod.ld sc23 rfl (hT1.ext hn2.ext) (by simpa using hct)) ?_
  refine Reg.pur rfl rfl rfl rfl (Pur.lenS isl23 rfl) ?_
  refine Reg.pur rfl rfl rfl rfl (Pur.mv rfl) ?_
  refine Reg.nil ?_
  refine At.loop (σ := Nat × List (List Int) × List Int × Option Addr × Nat) (fun s => [(25, I s.1), (24, I L.length), (23, .slice A1 L.length cap1), (6, .slice s.2.2.2.1 s.2.1.length s.2.2.2.2), (7, .slice (some ⟨H1.size, 0, none⟩) L.length L.length), (0, .slice A Bs.length cap), (4, ptr H.size 0)]) (fun s H' => s.1 ≤ L.length ∧ s.2.1.length ≤ 256 ∧ s.2.2.1.length = s.1 ∧ Nine s.2.1 ∧ OwnS H' H2.size 47 9 (.slice s.2.2.2.1 s.2.1.length s.2.2.2.2) s.2.1.length (s.2.1.flatMap Is) ∧ Own H' H1.size (Is (s.2.2.1 ++ List.replicate (L.length - s.1) 0)) ∧ Own H' H.size [.slice none 0 0] ∧ Ext H1 H' ∧ goS Bs (L.drop s.1) s.2.1 s.2.2.1 = typS Bs L) (fun s => L.length - s.1) (0, [], [], none, 0) rfl ⟨rfl, rfl, rfl, rfl, rfl, rfl, rfl, trivial⟩ ⟨by omega, by simp, rfl, (fun x hx => by cases hx), OwnS.nil _ _ _ _, hEn, hRb, hn2.ext, rfl⟩ ?_
  clear hEn hRb
  rintro ⟨i, out, ends, A', cap'⟩ H3 ⟨hi, hol, hel, hN, hO, hEn, hRb, hE, hgo⟩ ih
  dsimp only at hi hol hel hN hO hEn hRb hE hgo ⊢
  refine At.region rfl rfl ?_
  refine Reg.pur rfl rfl rfl rfl (Pur.lss rfl rfl) ?_
  refine Reg.nil ?_
  refine At.cond rfl rfl (fun hb1 => ?_) (fun hb1 => ?_)
  · simp only [decide_eq_true_eq] at hb1
    have hlt : i < L.length := by omega
    have hE3 := hn1.ext.trans hE
    obtain ⟨b, o, c, rfl, hB0, hd, h9⟩ := sl_at (wide9 hL) (hS.ext hE3) hlt
    have h9' := hL _ (List.getElem_mem hlt)
    have hfun := typM_all hM hlt
    have hnod := typM_nod hM hlt
    rw [dropL hlt, goS] at hgo
    generalize L[i] = x at hgo hd h9 h9' hfun hnod
    obtain ⟨k, v, p, q, c0, c1, c2, c3, t, rfl⟩ : ∃ k v p q c0 c1 c2 c3 t, x = [k, v, p, q, c0, c1, c2, c3, t] := by match x, h9' with | [k, v, p, q, c0, c1, c2, c3, t], _ => exact ⟨_, _, _, _, _, _, _, _, _, rfl⟩
    refine At.region rfl rfl ?_
    refine Reg.pur rfl rfl rfl rfl (Pur.mv rfl) ?_
    refine Reg.pur rfl rfl rfl rfl (Pur.idx _ es23 rfl rfl (by omega) hb1) ?_
    refine Reg.lod rfl rfl rfl rfl (Lod.ldn ag47 rfl hB0 hd h9) ?_
    refine Reg.op rfl rfl rfl rfl (Does.alloc zc47) ?_
    rintro _ H4 ⟨rfl, hn4⟩
    refine Reg.pur rfl rfl rfl rfl (Pur.asg rfl) ?_
    refine Reg.op0 rfl rfl rfl (Does.stn ag47 rfl rfl (ones_Is _) h9 hn4.own (by decide)) ?_
    rintro _ H5 hu5
    refine Reg.nil ?_
    have hX : Own H5 H3.size (Is [k, v, p, q, c0, c1, c2, c3, t]) := by have := hu5.own; rwa [over (by rfl)] at this
    have hE5 : Ext H3 H5 := hn4.ext.upd hu5 (Nat.le_refl _)
    refine At.region rfl rfl ?_
    refine Reg.lod rfl rfl rfl rfl (Lod.ldn ag47 rfl hX.blk (whole rfl) rfl) ?_
    refine Reg.op rfl rfl rfl rfl (Does.bslA ([[_, _, _, _, _, _, _, _, _]]) slA23 rfl rfl rfl rfl rfl rfl) ?_
    rintro _ H6 ⟨rfl, hp6⟩
    refine Reg.pur rfl rfl rfl rfl (Pur.asg rfl) ?_
    refine Reg.nil ?_
    have hn6 : New H5 H6 (Is [k, v, p, q, c0, c1, c2, c3, t]) := ⟨_, hp6⟩
    have hX6 := hX.ext hn6.ext
    have hE6 := hE5.trans hn6.ext
    have hY := hn6.own
    refine At.region rfl rfl ?_
    refine Reg.pur rfl rfl rfl rfl (Pur.fld _ fo47_0 rfl) ?_
    refine Reg.lod rfl rfl rfl rfl (Lod.ld sc3 rfl hX6.blk rfl) ?_
    refine Reg.nil ?_
    refine At.region rfl rfl ?_
    refine Reg.pur rfl rfl rfl rfl (Pur.eql rfl rfl) ?_
    refine Reg.pur rfl rfl rfl rfl (Pur.asg rfl) ?_
    refine Reg.nil ?_
    refine At.joinc (σ := List (List Int) × Option Addr × Nat) (fun s => [(10, .slice s.2.1 s.1.length s.2.2), (6, .slice A' out.length cap'), (7, .slice (some ⟨H1.size, 0, none⟩) L.length L.length), (8, I i), (25, I i), (24, I L.length), (23, .slice (some ⟨b, o, none⟩) L.length cap1), (0, .slice A Bs.length cap), (4, ptr H.size 0)]) (fun s H' => moreS Bs out ends [k, v, p, q, c0, c1, c2, c3, t] = some s.1 ∧ SlT H' Is 9 (.slice s.2.1 s.1.length s.2.2) s.1 ∧ Nine s.1 ∧ s.1.length ≤ 1954687338212 ∧ Ext H3 H') rfl (fun hJ => ?_) (fun s H7 ⟨hmo, hSm, hNm, hml, hE7⟩ => ?_)
    · refine At.cond rfl rfl (fun hb2 => ?_) (fun hb2 => ?_)
      · refine At.region rfl rfl ?_
        refine Reg.pur rfl rfl rfl rfl (Pur.mv rfl) ?_
        refine Reg.pur rfl rfl rfl rfl (Pur.fld _ fo47_1 rfl) ?_
        refine Reg.lod rfl rfl rfl rfl (Lod.ld sc3 rfl hX6.blk rfl) ?_
        refine Reg.op rfl rfl rfl rfl (Does.call rfl (find_ok (hB.ext (hE3.trans hE6)) false v)) ?_
        rintro _ H6 ⟨rfl, a, rfl, hf⟩
        refine Reg.pur rfl rfl rfl rfl (Pur.asg rfl) ?_
        refine Reg.nil ?_
        refine At.region rfl rfl ?_
        refine Reg.pur rfl rfl rfl rfl (Pur.mv rfl) ?_
        refine Reg.pur rfl rfl rfl rfl (Pur.nePN isPt143 rfl rfl) ?_
        refine Reg.nil ?_
        refine At.cond rfl rfl (fun hb3 => ?_) (fun hb3 => ?_)
        · obtain ⟨bd, hq, b', o', c', rfl, hB', hd', hok, _⟩ : ∃ bd, Bs.find? (mt false v) = some bd ∧ ∃ b o c, a = some ⟨b, o, none⟩ ∧ Blk H6 b c ∧ (c.drop o).take 8 = encB bd ∧ bd.Ok H6 ∧ ∃ oa, A = some ⟨b, oa, none⟩ := by
            cases hq : Bs.find? (mt false v) with
            | none => rw [hq] at hf; subst hf; cases hb3
            | some bd => rw [hq] at hf; exact ⟨bd, rfl, hf⟩
          refine At.region rfl rfl ?_
          refine Reg.pur rfl rfl rfl rfl (Pur.mv rfl) ?_
          refine Reg.pur rfl rfl rfl rfl (Pur.nilc rfl) ?_
          refine Reg.pur rfl rfl rfl rfl (Pur.fld _ fo49_2 rfl) ?_
          refine Reg.pur rfl rfl rfl rfl (Pur.fld _ fo25_0 rfl) ?_
          refine Reg.lod rfl rfl rfl rfl (Lod.ld sc23 rfl hB' (at_tk (j := 2) hd' (by decide) rfl)) ?_
          refine Reg.pur rfl rfl rfl rfl (Pur.mv rfl) ?_
          refine Reg.pur rfl rfl rfl rfl (Pur.lenS isl23 rfl) ?_
          refine Reg.op rfl rfl rfl rfl (Does.call rfl (moved_ok hok.nine hok.sl hok.fits out.length)) ?_
          rintro _ H7 ⟨⟨A2, cap2, rfl, _⟩, hS2, hE7⟩
          refine Reg.pur rfl rfl rfl rfl (Pur.asg rfl) ?_
          refine Reg.nil ?_
          have hS1 : ∀ H', Ext H6 H' → SlT H' Is 9 (.slice (some ⟨H5.size, 0, none⟩) 1 1) [[k, v, p, q, c0, c1, c2, c3, t]] := fun H' h => (sl_of (L := [[k, v, p, q, c0, c1, c2, c3, t]]) (cap := 1) (o := 0) (wide9 (nine1 rfl)) (by decide) hY.blk rfl (by simp) (by decide)).ext h
          first | exact At.meets rfl (hJ (bd.nodes.map (movS out.length), A2, cap2) _ ⟨by have hk2 : k = 2 := of_decide_eq_true hb2; subst hk2; simp [moreS, hq], by simp only [List.length_map]; exact hS2, nine_mov hok.nine, by simp only [List.length_map]; have := hok.fits; omega, hE6.trans hE7⟩) ⟨by simp only [List.length_map]; rfl, rfl, rfl, rfl, rfl, rfl, rfl, rfl, rfl, trivial⟩ | exact At.meets rfl (hJ ([[k, v, p, q, c0, c1, c2, c3, t]], some ⟨H5.size, 0, none⟩, 1) _ ⟨more_nil (of_decide_eq_true hb2) hf hb3, hS1 _ (Ext.refl _), nine1 rfl, by simp, hE6⟩) ⟨rfl, rfl, rfl, rfl, rfl, rfl, rfl, rfl, rfl, trivial⟩ | exact At.meets rfl (hJ ([[k, v, p, q, c0, c1, c2, c3, t]], some ⟨H5.size, 0, none⟩, 1) _ ⟨more_else (of_decide_eq_false hb2) (of_decide_eq_false hb4), hS1 _ (Ext.refl _), nine1 rfl, by simp, hE6⟩) ⟨rfl, rfl, rfl, rfl, rfl, rfl, rfl, rfl, rfl, trivial⟩ | exact At.meets rfl (hJ ([funS [k, v, p, q, c0, c1, c2, c3, t] (ends.getD p.toNat 0) (ends.getD q.toNat 0) (rowS Bs [c0, c1, c2, c3, t]).1], some ⟨H5.size, 0, none⟩, 1) _ ⟨by subst hk3; simp at hb5; simp [moreS, hb5], sl_of (L := [funS [k, v, p, q, c0, c1, c2, c3, t] (ends.getD p.toNat 0) (ends.getD q.toNat 0) (rowS Bs [c0, c1, c2, c3, t]).1]) (cap := 1) (o := 0) (wide9 (nine1 hFl)) (by decide) hF.blk (by rw [List.drop_zero, List.take_of_length_le (by simpa [Is] using Nat.le_of_eq hFl)]; simp) (by simp) (by decide), nine1 hFl, by simp, hEc⟩) ⟨rfl, rfl, rfl, rfl, rfl, rfl, rfl, rfl, rfl, trivial⟩
        have hS1 : ∀ H', Ext H6 H' → SlT H' Is 9 (.slice (some ⟨H5.size, 0, none⟩) 1 1) [[k, v, p, q, c0, c1, c2, c3, t]] := fun H' h => (sl_of (L := [[k, v, p, q, c0, c1, c2, c3, t]]) (cap := 1) (o := 0) (wide9 (nine1 rfl)) (by decide) hY.blk rfl (by simp) (by decide)).ext h
        first | exact At.meets rfl (hJ (bd.nodes.map (movS out.length), A2, cap2) _ ⟨by have hk2 : k = 2 := of_decide_eq_true hb2; subst hk2; simp [moreS, hq], by simp only [List.length_map]; exact hS2, nine_mov hok.nine, by simp only [List.length_map]; have := hok.fits; omega, hE6.trans hE7⟩) ⟨by simp only [List.length_map]; rfl, rfl, rfl, rfl, rfl, rfl, rfl, rfl, rfl, trivial⟩ | exact At.meets rfl (hJ ([[k, v, p, q, c0, c1, c2, c3, t]], some ⟨H5.size, 0, none⟩, 1) _ ⟨more_nil (of_decide_eq_true hb2) hf hb3, hS1 _ (Ext.refl _), nine1 rfl, by simp, hE6⟩) ⟨rfl, rfl, rfl, rfl, rfl, rfl, rfl, rfl, rfl, trivial⟩ | exact At.meets rfl (hJ ([[k, v, p, q, c0, c1, c2, c3, t]], some ⟨H5.size, 0, none⟩, 1) _ ⟨more_else (of_decide_eq_false hb2) (of_decide_eq_false hb4), hS1 _ (Ext.refl _), nine1 rfl, by simp, hE6⟩) ⟨rfl, rfl, rfl, rfl, rfl, rfl, rfl, rfl, rfl, trivial⟩ | exact At.meets rfl (hJ ([funS [k, v, p, q, c0, c1, c2, c3, t] (ends.getD p.toNat 0) (ends.getD q.toNat 0) (rowS Bs [c0, c1, c2, c3, t]).1], some ⟨H5.size, 0, none⟩, 1) _ ⟨by subst hk3; simp at hb5; simp [moreS, hb5], sl_of (L := [funS [k, v, p, q, c0, c1, c2, c3, t] (ends.getD p.toNat 0) (ends.getD q.toNat 0) (rowS Bs [c0, c1, c2, c3, t]).1]) (cap := 1) (o := 0) (wide9 (nine1 hFl)) (by decide) hF.blk (by rw [List.drop_zero, List.take_of_length_le (by simpa [Is] using Nat.le_of_eq hFl)]; simp) (by simp) (by decide), nine1 hFl, by simp, hEc⟩) ⟨rfl, rfl, rfl, rfl, rfl, rfl, rfl, rfl, rfl, trivial⟩
      refine At.region rfl rfl ?_
      refine Reg.pur rfl rfl rfl rfl (Pur.eql rfl rfl) ?_
      refine Reg.pur rfl rfl rfl rfl (Pur.asg rfl) ?_
      refine Reg.nil ?_
      refine At.cond rfl rfl (fun hb4 => ?_) (fun hb4 => ?_)
      · have hk3 : k = 3 := of_decide_eq_true hb4
        have hf3 : q = (i : Int) - 1 ∧ 0 ≤ p ∧ p < (i : Int) - 1 ∧ 1 ≤ i := hfun hk3
        have htl := row_tail (nod3 hnod hk3)
        refine At.region rfl rfl ?_
        refine Reg.pur rfl rfl rfl rfl (Pur.mv rfl) ?_
        refine Reg.pur rfl rfl rfl rfl (Pur.fld _ fo47_4 rfl) ?_
        refine Reg.lod rfl rfl rfl rfl (Lod.ldn ag28 rfl hX6.blk (show _ = Is [c0, c1, c2, c3, t] from rfl) rfl) ?_
        refine Reg.op rfl rfl rfl rfl (Does.call rfl (ofRow_ok (hB.ext (hE3.trans hE6)) [c0, c1, c2, c3, t] rfl htl)) ?_
        rintro _ H7 ⟨rfl, hrl, hE7⟩
        refine Reg.pur rfl rfl rfl rfl (Pur.mv rfl) ?_
        refine Reg.pur rfl rfl rfl rfl (Pur.ext rfl rfl) ?_
        refine Reg.pur rfl rfl rfl rfl (Pur.ext rfl rfl) ?_
        refine Reg.op rfl rfl rfl rfl (Does.alloc zc28) ?_
        rintro _ H8 ⟨rfl, hn8⟩
        refine Reg.op0 rfl rfl rfl (Does.stn ag28 rfl rfl (ones_Is _) (by simp [hrl]) hn8.own (by decide)) ?_
        rintro _ H9 hu9
        refine Reg.pur rfl rfl rfl rfl (Pur.asg rfl) ?_
        refine Reg.nil ?_
        have hl36 : H3.size < H6.size := hX6.lt
        have hl56 : H5.size < H6.size := hY.lt
        have hl67 := hE7.1
        have hl13 : H1.size < H3.size := hEn.lt
        have hl13' : H3.size < H5.size := hX.lt
        have hE9 : Ext H3 H9 := (((hE6.trans hE7).trans hn8.ext)).upd hu9 (by omega)
        have hX9 := ((hX6.ext hE7).ext hn8.ext).upd hu9 (by omega)
        have hY9 := ((hY.ext hE7).ext hn8.ext).upd hu9 (by omega)
        have hEn9 := hEn.ext hE9
        have hRb9 := hRb.ext hE9
        have hZ : Own H9 H7.size (Is (rowS Bs [c0, c1, c2, c3, t]).1) := by have := hu9.own; rwa [over (by rfl)] at this
        refine At.region rfl rfl ?_
        refine Reg.pur rfl rfl rfl rfl (Pur.mv rfl) ?_
        refine Reg.pur rfl rfl rfl rfl (Pur.not rfl) ?_
        refine Reg.nil ?_
        refine At.cond rfl rfl (fun hb5 => ?_) (fun hb5 => ?_)
        · refine At.region rfl rfl ?_
          refine Reg.pur rfl rfl rfl rfl (Pur.bld (cs := [_]) pl25 zc25 rfl rfl ⟨rfl, rfl⟩) ?_
          refine Reg.op0 rfl rfl rfl (Does.stn ag25 rfl rfl rfl rfl hRb9 (by simp)) ?_
          rintro _ H10 hu10
          refine Reg.pur rfl rfl rfl rfl (Pur.asg rfl) ?_
          refine Reg.nil ?_
          have hR : Own H10 H.size [.slice none 0 0] := hu10.own
          have hRl : ([.slice none 0 0] : List Value).length = 1 := rfl
          refine At.retC rfl Try.func55 ⟨_, _, _, _, rfl, rfl, ⟨_, hR.blk, .inr ⟨_, _, ag25, (whole hRl), hRl, rfl⟩⟩, ⟨_, _, rfl, rfl, rfl⟩⟩ ?_
          first | (refine ⟨(hn1.ext.trans (hE.trans hE9)).upd hu10 (Nat.le_refl _), ?_⟩; rw [← hgo, show moreS Bs out ends [k, v, p, q, c0, c1, c2, c3, t] = none by subst hk3; simp at hb5; simp [moreS, hb5]]; exact rfl) | (refine ⟨(hn1.ext.trans (hE.trans hE7)).upd hu10 (Nat.le_refl _), ?_⟩; rw [← hgo, if_pos (by simp only [decide_eq_true_eq] at hb6; omega)]; exact rfl) | (refine ⟨(hn1.ext.trans hE).upd hu10 (Nat.le_refl _), ?_⟩; simp only [decide_eq_false_iff_not] at hb1; rw [List.drop_of_length_le (by omega)] at hgo; rw [← hgo]; exact ⟨A', cap', rfl, (hO.mono (by have := hn1.ext.1; omega)).but hu10.but (fun g hg he => by obtain ⟨_, _, _, hown⟩ := own_slice hO; have := hown g hg; omega), hN, hol⟩)
        refine At.draw (fun H' => Blk H' H3.size (Is [k, v, p, q, c0, c1, c2, c3, t]) ∧ Blk H' H1.size (Is (ends ++ List.replicate (L.length - i) 0)) ∧ Blk H' H7.size (Is (rowS Bs [c0, c1, c2, c3, t]).1)) [22] mixed rfl rfl ?_
        refine RegD.tpur (i := 0) rfl rfl rfl rfl (by kernel_rfl) (Pur.mv rfl) ?_
        refine RegD.tpur (i := 1) rfl rfl rfl rfl (by kernel_rfl) (Pur.mv rfl) ?_
        refine RegD.tpur (i := 2) rfl rfl rfl rfl (by kernel_rfl) (Pur.mv rfl) ?_
        refine RegD.tpur (i := 3) rfl rfl rfl rfl (by kernel_rfl) (Pur.mv rfl) ?_
        refine RegD.tpur (i := 4) rfl rfl rfl rfl (by kernel_rfl) (Pur.fld _ fo47_2 rfl) ?_
        refine RegD.take (i := 5) rfl rfl rfl rfl (by kernel_rfl) ⟨hX9.blk, hEn9.blk, hZ.blk⟩ (fun H hS => Lod.ld sc3 rfl hS.1 rfl) ?_
        refine RegD.tpur (i := 6) rfl rfl rfl rfl (by kernel_rfl) (Pur.idx _ es54 rfl rfl (by omega) (by omega)) ?_
        refine RegD.take (i := 7) rfl rfl rfl rfl (by kernel_rfl) ⟨hX9.blk, hEn9.blk, hZ.blk⟩ (fun H hS => Lod.ld sc3 rfl hS.2.1 (ends_at (by omega) (by omega))) ?_
        refine RegD.tpur (i := 8) rfl rfl rfl rfl (by kernel_rfl) (Pur.mv rfl) ?_
        refine RegD.tpur (i := 9) rfl rfl rfl rfl (by kernel_rfl) (Pur.fld _ fo47_3 rfl) ?_
        refine RegD.take (i := 10) rfl rfl rfl rfl (by kernel_rfl) ⟨hX9.blk, hEn9.blk, hZ.blk⟩ (fun H hS => Lod.ld sc3 rfl hS.1 rfl) ?_
        refine RegD.tpur (i := 11) rfl rfl rfl rfl (by kernel_rfl) (Pur.idx _ es54 rfl rfl (by omega) (by omega)) ?_
        refine RegD.take (i := 12) rfl rfl rfl rfl (by kernel_rfl) ⟨hX9.blk, hEn9.blk, hZ.blk⟩ (fun H hS => Lod.ld sc3 rfl hS.2.1 (ends_at (by omega) (by omega))) ?_
        refine RegD.take (i := 13) rfl rfl rfl rfl (by kernel_rfl) ⟨hX9.blk, hEn9.blk, hZ.blk⟩ (fun H hS => Lod.ldn ag28 rfl hS.2.2 (whole (by simp [hrl])) (by simp [hrl])) ?_
        refine RegD.tpur (i := 14) rfl rfl rfl rfl (by kernel_rfl) (Pur.idx _ es23 rfl rfl (by omega) (by omega)) ?_
        refine RegD.tpur (i := 15) rfl rfl rfl rfl (by kernel_rfl) (Pur.fld _ fo47_2 rfl) ?_
        refine RegD.one0 (i := 16) (by kernel_rfl) rfl rfl rfl (Does.st sc3 rfl rfl rfl hY9 (by simp)) ?_
        rintro _ Ha hua
        have hXa := hX9.upd hua (by omega)
        have hEna := hEn9.upd hua (by omega)
        have hZa := hZ.upd hua (by omega)
        refine ⟨fun _ _ => ⟨hXa.blk, hEna.blk, hZa.blk⟩, ?_⟩
        refine RegD.tpur (i := 17) rfl rfl rfl rfl (by kernel_rfl) (Pur.idx _ es23 rfl rfl (by omega) (by omega)) ?_
        refine RegD.tpur (i := 18) rfl rfl rfl rfl (by kernel_rfl) (Pur.fld _ fo47_3 rfl) ?_
        refine RegD.one0 (i := 19) (by kernel_rfl) rfl rfl rfl (Does.st sc3 rfl rfl rfl hua.own (by simp)) ?_
        rintro _ Hb hub
        have hXb := hXa.upd hub (by omega)
        have hEnb := hEna.upd hub (by omega)
        have hZb := hZa.upd hub (by omega)
        refine ⟨fun _ _ => ⟨hXb.blk, hEnb.blk, hZb.blk⟩, ?_⟩
        refine RegD.tpur (i := 20) rfl rfl rfl rfl (by kernel_rfl) (Pur.idx _ es23 rfl rfl (by omega) (by omega)) ?_
        refine RegD.tpur (i := 21) rfl rfl rfl rfl (by kernel_rfl) (Pur.fld _ fo47_4 rfl) ?_
        refine RegD.one0 (i := 22) (by kernel_rfl) rfl rfl rfl (Does.stn ag28 rfl rfl (ones_Is _) (by simp [hrl]) hub.own (by simp)) ?_
        rintro _ Hc huc
        refine ⟨fun h => (by cases h), ?_⟩
        refine RegD.done (by kernel_rfl) ?_
        have hF : Own Hc H5.size (Is (funS [k, v, p, q, c0, c1, c2, c3, t] (ends.getD p.toNat 0) (ends.getD q.toNat 0) (rowS Bs [c0, c1, c2, c3, t]).1)) := by have := huc.own; simpa [Is, funS] using this
        have hEc : Ext H3 Hc := ((hE9.upd hua (by omega)).upd hub (by omega)).upd huc (by omega)
        have hFl : (funS [k, v, p, q, c0, c1, c2, c3, t] (ends.getD p.toNat 0) (ends.getD q.toNat 0) (rowS Bs [c0, c1, c2, c3, t]).1).length = 9 := by simp [funS, hrl]
        have hS1 : ∀ H', Ext H6 H' → SlT H' Is 9 (.slice (some ⟨H5.size, 0, none⟩) 1 1) [[k, v, p, q, c0, c1, c2, c3, t]] := fun H' h => (sl_of (L := [[k, v, p, q, c0, c1, c2, c3, t]]) (cap := 1) (o := 0) (wide9 (nine1 rfl)) (by decide) hY.blk rfl (by simp) (by decide)).ext h
        first | exact At.meets rfl (hJ (bd.nodes.map (movS out.length), A2, cap2) _ ⟨by have hk2 : k = 2 := of_decide_eq_true hb2; subst hk2; simp [moreS, hq], by simp only [List.length_map]; exact hS2, nine_mov hok.nine, by simp only [List.length_map]; have := hok.fits; omega, hE6.trans hE7⟩) ⟨by simp only [List.length_map]; rfl, rfl, rfl, rfl, rfl, rfl, rfl, rfl, rfl, trivial⟩ | exact At.meets rfl (hJ ([[k, v, p, q, c0, c1, c2, c3, t]], some ⟨H5.size, 0, none⟩, 1) _ ⟨more_nil (of_decide_eq_true hb2) hf hb3, hS1 _ (Ext.refl _), nine1 rfl, by simp, hE6⟩) ⟨rfl, rfl, rfl, rfl, rfl, rfl, rfl, rfl, rfl, trivial⟩ | exact At.meets rfl (hJ ([[k, v, p, q, c0, c1, c2, c3, t]], some ⟨H5.size, 0, none⟩, 1) _ ⟨more_else (of_decide_eq_false hb2) (of_decide_eq_false hb4), hS1 _ (Ext.refl _), nine1 rfl, by simp, hE6⟩) ⟨rfl, rfl, rfl, rfl, rfl, rfl, rfl, rfl, rfl, trivial⟩ | exact At.meets rfl (hJ ([funS [k, v, p, q, c0, c1, c2, c3, t] (ends.getD p.toNat 0) (ends.getD q.toNat 0) (rowS Bs [c0, c1, c2, c3, t]).1], some ⟨H5.size, 0, none⟩, 1) _ ⟨by subst hk3; simp at hb5; simp [moreS, hb5], sl_of (L := [funS [k, v, p, q, c0, c1, c2, c3, t] (ends.getD p.toNat 0) (ends.getD q.toNat 0) (rowS Bs [c0, c1, c2, c3, t]).1]) (cap := 1) (o := 0) (wide9 (nine1 hFl)) (by decide) hF.blk (by rw [List.drop_zero, List.take_of_length_le (by simpa [Is] using Nat.le_of_eq hFl)]; simp) (by simp) (by decide), nine1 hFl, by simp, hEc⟩) ⟨rfl, rfl, rfl, rfl, rfl, rfl, rfl, rfl, rfl, trivial⟩
      have hS1 : ∀ H', Ext H6 H' → SlT H' Is 9 (.slice (some ⟨H5.size, 0, none⟩) 1 1) [[k, v, p, q, c0, c1, c2, c3, t]] := fun H' h => (sl_of (L := [[k, v, p, q, c0, c1, c2, c3, t]]) (cap := 1) (o := 0) (wide9 (nine1 rfl)) (by decide) hY.blk rfl (by simp) (by decide)).ext h
      first | exact At.meets rfl (hJ (bd.nodes.map (movS out.length), A2, cap2) _ ⟨by have hk2 : k = 2 := of_decide_eq_true hb2; subst hk2; simp [moreS, hq], by simp only [List.length_map]; exact hS2, nine_mov hok.nine, by simp only [List.length_map]; have := hok.fits; omega, hE6.trans hE7⟩) ⟨by simp only [List.length_map]; rfl, rfl, rfl, rfl, rfl, rfl, rfl, rfl, rfl, trivial⟩ | exact At.meets rfl (hJ ([[k, v, p, q, c0, c1, c2, c3, t]], some ⟨H5.size, 0, none⟩, 1) _ ⟨more_nil (of_decide_eq_true hb2) hf hb3, hS1 _ (Ext.refl _), nine1 rfl, by simp, hE6⟩) ⟨rfl, rfl, rfl, rfl, rfl, rfl, rfl, rfl, rfl, trivial⟩ | exact At.meets rfl (hJ ([[k, v, p, q, c0, c1, c2, c3, t]], some ⟨H5.size, 0, none⟩, 1) _ ⟨more_else (of_decide_eq_false hb2) (of_decide_eq_false hb4), hS1 _ (Ext.refl _), nine1 rfl, by simp, hE6⟩) ⟨rfl, rfl, rfl, rfl, rfl, rfl, rfl, rfl, rfl, trivial⟩ | exact At.meets rfl (hJ ([funS [k, v, p, q, c0, c1, c2, c3, t] (ends.getD p.toNat 0) (ends.getD q.toNat 0) (rowS Bs [c0, c1, c2, c3, t]).1], some ⟨H5.size, 0, none⟩, 1) _ ⟨by subst hk3; simp at hb5; simp [moreS, hb5], sl_of (L := [funS [k, v, p, q, c0, c1, c2, c3, t] (ends.getD p.toNat 0) (ends.getD q.toNat 0) (rowS Bs [c0, c1, c2, c3, t]).1]) (cap := 1) (o := 0) (wide9 (nine1 hFl)) (by decide) hF.blk (by rw [List.drop_zero, List.take_of_length_le (by simpa [Is] using Nat.le_of_eq hFl)]; simp) (by simp) (by decide), nine1 hFl, by simp, hEc⟩) ⟨rfl, rfl, rfl, rfl, rfl, rfl, rfl, rfl, rfl, trivial⟩
    obtain ⟨m, A2, cap2⟩ := s
    dsimp only at hmo hSm hNm hml ⊢
    rw [hmo] at hgo
    dsimp only at hgo
    have hl13 : H1.size < H3.size := hEn.lt
    have hO7 := hO.ext hE7
    have hEn7 := hEn.ext hE7
    have hRb7 := hRb.ext hE7
    obtain ⟨_, _, _, hown⟩ := own_slice hO
    refine At.region rfl rfl ?_
    refine Reg.pur rfl rfl rfl rfl (Pur.mv rfl) ?_
    refine Reg.pur rfl rfl rfl rfl (Pur.lenS isl23 rfl) ?_
    refine Reg.pur rfl rfl rfl rfl (Pur.mv rfl) ?_
    refine Reg.pur rfl rfl rfl rfl (Pur.lenS isl23 rfl) ?_
    first | refine Reg.pur rfl rfl rfl rfl (Pur.add64 rfl rfl (by omega)) ?_ | refine Reg.pur rfl rfl rfl rfl (Pur.add64 rfl rfl (by assumption)) ?_ | refine Reg.pur rfl rfl rfl rfl (Pur.add rfl rfl) ?_
    refine Reg.pur rfl rfl rfl rfl (Pur.gtr rfl rfl) ?_
    refine Reg.nil ?_
    refine At.cond rfl rfl (fun hb6 => ?_) (fun hb6 => ?_)
    · refine At.region rfl rfl ?_
      refine Reg.pur rfl rfl rfl rfl (Pur.bld (cs := [_]) pl25 zc25 rfl rfl ⟨rfl, rfl⟩) ?_
      refine Reg.op0 rfl rfl rfl (Does.stn ag25 rfl rfl rfl rfl hRb7 (by simp)) ?_
      rintro _ H10 hu10
      refine Reg.pur rfl rfl rfl rfl (Pur.asg rfl) ?_
      refine Reg.nil ?_
      have hR : Own H10 H.size [.slice none 0 0] := hu10.own
      have hRl : ([.slice none 0 0] : List Value).length = 1 := rfl
      refine At.retC rfl Try.func55 ⟨_, _, _, _, rfl, rfl, ⟨_, hR.blk, .inr ⟨_, _, ag25, (whole hRl), hRl, rfl⟩⟩, ⟨_, _, rfl, rfl, rfl⟩⟩ ?_
      first | (refine ⟨(hn1.ext.trans (hE.trans hE9)).upd hu10 (Nat.le_refl _), ?_⟩; rw [← hgo, show moreS Bs out ends [k, v, p, q, c0, c1, c2, c3, t] = none by subst hk3; simp at hb5; simp [moreS, hb5]]; exact rfl) | (refine ⟨(hn1.ext.trans (hE.trans hE7)).upd hu10 (Nat.le_refl _), ?_⟩; rw [← hgo, if_pos (by simp only [decide_eq_true_eq] at hb6; omega)]; exact rfl) | (refine ⟨(hn1.ext.trans hE).upd hu10 (Nat.le_refl _), ?_⟩; simp only [decide_eq_false_iff_not] at hb1; rw [List.drop_of_length_le (by omega)] at hgo; rw [← hgo]; exact ⟨A', cap', rfl, (hO.mono (by have := hn1.ext.1; omega)).but hu10.but (fun g hg he => by obtain ⟨_, _, _, hown⟩ := own_slice hO; have := hown g hg; omega), hN, hol⟩)
    have hsm : out.length + m.length ≤ 256 := by simp only [decide_eq_false_iff_not] at hb6; omega
    refine At.region rfl rfl ?_
    refine Reg.pur rfl rfl rfl rfl (Pur.mv rfl) ?_
    refine Reg.pur rfl rfl rfl rfl (Pur.mv rfl) ?_
    refine Reg.op rfl rfl rfl rfl (Does.app apt23 rfl rfl hO7 (sl_src (wide9 hNm) hSm) (ones_flat m) (by rw [show maxLen = 9223372036854775807 from rfl]; omega) (by omega) (by have := hn2.size; have := hE7.1; omega)) ?_
    rintro v8 H8 ⟨ho8, hbut, _, _⟩
    refine Reg.pur rfl rfl rfl rfl (Pur.asg rfl) ?_
    refine Reg.nil ?_
    obtain ⟨A8, cap8, rfl, hB8⟩ := own_slice ho8
    have hE8 : Ext H1 H8 := (hE.trans hE7).trBut hbut (fun b hb h => by have := hown b h; omega)
    have hEn8 := hEn7.but hbut (fun h => by have := hown _ h; omega)
    have hRb8 := hRb7.but hbut (fun h => by have := hown _ h; omega)
    refine At.region rfl rfl ?_
    refine Reg.pur rfl rfl rfl rfl (Pur.mv rfl) ?_
    refine Reg.pur rfl rfl rfl rfl (Pur.mv rfl) ?_
    refine Reg.pur rfl rfl rfl rfl (Pur.mv rfl) ?_
    refine Reg.pur rfl rfl rfl rfl (Pur.lenS isl23 rfl) ?_
    first | refine Reg.pur rfl rfl rfl rfl (Pur.sub64 rfl rfl (by omega)) ?_ | refine Reg.pur rfl rfl rfl rfl (Pur.sub64 rfl rfl (by assumption)) ?_ | refine Reg.pur rfl rfl rfl rfl (Pur.sub rfl rfl) ?_
    refine Reg.pur rfl rfl rfl rfl (Pur.idx _ es54 rfl rfl (by omega) (by omega)) ?_
    refine Reg.op0 rfl rfl rfl (Does.st sc3 rfl rfl rfl hEn8 (by simp; omega)) ?_
    rintro _ H9 hu9
    refine Reg.nil ?_
    refine At.region rfl rfl ?_
    first | refine Reg.pur rfl rfl rfl rfl (Pur.add64 rfl rfl (by omega)) ?_ | refine Reg.pur rfl rfl rfl rfl (Pur.add64 rfl rfl (by assumption)) ?_ | refine Reg.pur rfl rfl rfl rfl (Pur.add rfl rfl) ?_
    refine Reg.pur rfl rfl rfl rfl (Pur.mv rfl) ?_
    refine Reg.nil ?_
    have hla : (out ++ m).length = out.length + m.length := List.length_append
    have hoN : OwnS H9 H2.size 47 9 (.slice A8 (out ++ m).length cap8) (out ++ m).length ((out ++ m).flatMap Is) := by rw [hla, List.flatMap_append]; exact ho8.but hu9.but (fun g hg he => by have := hB8 g hg; omega)
    have hEn9 : Own H9 H1.size (Is ((ends ++ [((out.length + m.length : Nat) : Int) - 1]) ++ List.replicate (L.length - (i + 1)) 0)) := by rw [← ends_set hel hlt]; exact hu9.own
    have hgo9 : goS Bs (L.drop (i + 1)) (out ++ m) (ends ++ [((out.length + m.length : Nat) : Int) - 1]) = typS Bs L := by rw [← hgo, if_neg (by omega)]
    rw [← hla]
    exact At.via (ih (i + 1, out ++ m, ends ++ [((out.length + m.length : Nat) : Int) - 1], A8, cap8) H9 ⟨by omega, by simp only [hla]; omega, by simp [hel], (fun x hx => (List.mem_append.1 hx).elim (hN x) (hNm x)), hoN, hEn9, hRb8.upd hu9 (by omega), hE8.upd hu9 (Nat.le_refl _), hgo9⟩ (by simp only; omega)) ⟨rfl, rfl, rfl, rfl, rfl, rfl, rfl, trivial⟩
  refine At.region rfl rfl ?_
  refine Reg.pur rfl rfl rfl rfl (Pur.mv rfl) ?_
  refine Reg.pur rfl rfl rfl rfl (Pur.bld (cs := [_]) pl25 zc25 rfl rfl ⟨rfl, rfl⟩) ?_
  refine Reg.op0 rfl rfl rfl (Does.stn ag25 rfl rfl rfl rfl hRb (by simp)) ?_
  rintro _ H10 hu10
  refine Reg.pur rfl rfl rfl rfl (Pur.asg rfl) ?_
  refine Reg.nil ?_
  have hR : Own H10 H.size [.slice A' out.length cap'] := hu10.own
  have hRl : ([.slice A' out.length cap'] : List Value).length = 1 := rfl
  refine At.retC rfl Try.func55 ⟨_, _, _, _, rfl, rfl, ⟨_, hR.blk, .inr ⟨_, _, ag25, (whole hRl), hRl, rfl⟩⟩, ⟨_, _, rfl, rfl, rfl⟩⟩ ?_
  first | (refine ⟨(hn1.ext.trans (hE.trans hE9)).upd hu10 (Nat.le_refl _), ?_⟩; rw [← hgo, show moreS Bs out ends [k, v, p, q, c0, c1, c2, c3, t] = none by subst hk3; simp at hb5; simp [moreS, hb5]]; exact rfl) | (refine ⟨(hn1.ext.trans (hE.trans hE7)).upd hu10 (Nat.le_refl _), ?_⟩; rw [← hgo, if_pos (by simp only [decide_eq_true_eq] at hb6; omega)]; exact rfl) | (refine ⟨(hn1.ext.trans hE).upd hu10 (Nat.le_refl _), ?_⟩; simp only [decide_eq_false_iff_not] at hb1; rw [List.drop_of_length_le (by omega)] at hgo; rw [← hgo]; exact ⟨A', cap', rfl, (hO.mono (by have := hn1.ext.1; omega)).but hu10.but (fun g hg he => by obtain ⟨_, _, _, hown⟩ := own_slice hO; have := hown g hg; omega), hN, hol⟩)
end Go.Proofs.Ytlfillhffpiffaa

