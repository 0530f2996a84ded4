/-
  Parts of the proof, 2.
-/
import Derived.Test.YtlfillhffpiffaaProg
import Derived.Test.YtlfillhffpiffaaW1
namespace Go.Proofs.Ytlfillhffpiffaa
set_option linter.unusedSimpArgs false
set_option linter.unusedVariables false
set_option maxRecDepth 8000
open Go Go.Fx Go.Proofs
namespace FactsSchK

end FactsSchK
open FactsSchK

abbrev rtV0 (b : Nat) : Value := .agg #[.pointer (some ⟨b, 31, none⟩)]
theorem ty_of0 (n : Int) (w : World) : (Extern.ReflectliteType.typeOf #[.iface 31 (I n)]).run Try.prog w = .ok (.iface 186 (rtV0 Try.prog.globals.size)) w := by kernel_rfl
theorem ty_comp0 (w : World) : ((Extern.ReflectliteType.method fun t => do Extern.Rtype.noPackHeld "Comparable" t; pure (.bool (← typeInfo t).comparable)) #[(rtV0 Try.prog.globals.size)]).run Try.prog w = .ok (.bool true) w := by kernel_rfl
theorem ty_meth (w : World) : (Go.method (Try.prog.types.size + Made.depth) 186 (rtV0 Try.prog.globals.size) "Comparable").run Try.prog w = .ok (162, (rtV0 Try.prog.globals.size)) w := by kernel_rfl
theorem ty_of (n : Int) (w : World) : (callFunc 96 #[.iface 31 (I n)]).run Try.prog w = .ok (.value (.iface 186 (rtV0 Try.prog.globals.size))) w := by
  have h := @run_callFunc_extern Try.prog 96 _ Extern.ReflectliteType.typeOf Try.func96 (by kernel_rfl) (by kernel_rfl) (by kernel_rfl) (by kernel_rfl) #[.iface 31 (I n)] w
  rw [h, ty_of0]; rfl
theorem ty_comp (w : World) : (callMethod (.iface 186 (rtV0 Try.prog.globals.size)) "Comparable" #[]).run Try.prog w = .ok (.value (.bool true)) w := by
  have h := @run_callFunc_extern Try.prog 162 _ (Extern.ReflectliteType.method fun t => do Extern.Rtype.noPackHeld "Comparable" t; pure (.bool (← typeInfo t).comparable)) Try.func162 (by kernel_rfl) (by kernel_rfl) (by kernel_rfl) (by kernel_rfl) #[(rtV0 Try.prog.globals.size)] w
  have h2 := ty_comp0 w
  have hp : ∀ w : World, (program).run Try.prog w = .ok Try.prog w := fun w => rfl
  simp only [callMethod, Sem.run_bind, hp, Result.andThen_ok, ty_meth]
  rw [show (#[(rtV0 Try.prog.globals.size)] ++ #[] : Array Value) = #[(rtV0 Try.prog.globals.size)] from rfl, h]
  rw [h2]; rfl
theorem isIf_err : isIf Try.prog 107 = true := by kernel_rfl
theorem intC_err : intC Try.prog 31 = true := by kernel_rfl
abbrev ev31 (o : Option Int) : Value := ifv 31 .i64 o
theorem asIs (n : Int) : ∀ {dst ty pos aft gd} {e : Env} {x : Operand} {xT : TypeId} (_ : ev e x = some (ev31 (some n))), Pur Try.prog ⟨dst, .typeAssert x xT 188 true, ty, pos, aft, gd⟩ e (.tuple #[.nilIface, .bool false]) :=
  fun hx => Pur.tas Try.underlying188 (by kernel_rfl) (by kernel_rfl) hx
theorem asUn (n : Int) : ∀ {dst ty pos aft gd} {e : Env} {x : Operand} {xT : TypeId} (_ : ev e x = some (ev31 (some n))), Pur Try.prog ⟨dst, .typeAssert x xT 191 true, ty, pos, aft, gd⟩ e (.tuple #[.nilIface, .bool false]) :=
  fun hx => Pur.tas Try.underlying191 (by kernel_rfl) (by kernel_rfl) hx
theorem asUs (n : Int) : ∀ {dst ty pos aft gd} {e : Env} {x : Operand} {xT : TypeId} (_ : ev e x = some (ev31 (some n))), Pur Try.prog ⟨dst, .typeAssert x xT 193 true, ty, pos, aft, gd⟩ e (.tuple #[.nilIface, .bool false]) :=
  fun hx => Pur.tas Try.underlying193 (by kernel_rfl) (by kernel_rfl) hx

theorem is_ok (a n : Int) (H : Heap) : Ret Try.prog 97 [ev31 (some a), ev31 (some n), .bool true] H (fun v H' => v = .bool (decide (a = n)) ∧ H' = H) := by
  refine Ret.of_at (N := 54) Try.call97 Try.func97 rfl rfl rfl ?_
  have hE := Ext.refl H
  refine At.region rfl rfl ?_
  refine Reg.pur rfl rfl rfl rfl (Pur.asg rfl) ?_
  refine Reg.nil ?_
  refine At.loop (σ := Unit) (fun _ => [(0, ev31 (some a)), (1, ev31 (some n)), (2, .bool true)]) (fun _ H' => H' = H) (fun _ => 0) () rfl ⟨rfl, rfl, rfl, trivial⟩ rfl ?_
  rintro _ H rfl ih
  refine At.region rfl rfl ?_
  refine Reg.pur rfl rfl rfl rfl (Pur.mv rfl) ?_
  refine Reg.pur rfl rfl rfl rfl (Pur.mv rfl) ?_
  refine Reg.known (b' := true) 15 rfl rfl ?_
  refine Reg.gpur rfl rfl rfl rfl rfl rfl (Pur.mv rfl) ?_
  refine Reg.gpur rfl rfl rfl rfl rfl rfl (Pur.mv rfl) ?_
  refine Reg.gpur rfl rfl rfl rfl rfl rfl (Pur.eqI (some a) (some n) isIf_err intC_err rfl rfl rfl) ?_
  refine Reg.pur rfl rfl rfl rfl (Pur.pickT rfl rfl) ?_
  refine Reg.nil ?_
  refine At.cond rfl rfl (fun q19 => ?_) (fun q19 => ?_)
  · first | (simp only [decide_eq_true_eq, decide_eq_false_iff_not, Bool.not_eq_true', Bool.not_eq_false', ne_eq, Decidable.not_not, Bool.not_eq_true, Bool.not_eq_false] at q19) | (dsimp only at q19) | skip
    refine At.region rfl rfl ?_
    refine Reg.pur rfl rfl rfl rfl (Pur.asg rfl) ?_
    refine Reg.nil ?_
    refine At.ret rfl Try.func97 rfl ?_
    exact ⟨congrArg Value.bool (by simpa using q19), rfl⟩
  first | (simp only [decide_eq_true_eq, decide_eq_false_iff_not, Bool.not_eq_true', Bool.not_eq_false', ne_eq, Decidable.not_not, Bool.not_eq_true, Bool.not_eq_false] at q19) | (dsimp only at q19) | skip
  refine At.region rfl rfl ?_
  refine Reg.pur rfl rfl rfl rfl (Pur.mv rfl) ?_
  refine Reg.pur rfl rfl rfl rfl (asIs a rfl) ?_
  refine Reg.pur rfl rfl rfl rfl (Pur.mv rfl) ?_
  refine Reg.pur rfl rfl rfl rfl (Pur.ext rfl rfl) ?_
  refine Reg.pur rfl rfl rfl rfl (Pur.ext rfl rfl) ?_
  refine Reg.pur rfl rfl rfl rfl (Pur.asg rfl) ?_
  refine Reg.pur rfl rfl rfl rfl (Pur.asg rfl) ?_
  refine Reg.nil ?_
  refine At.region rfl rfl ?_
  refine Reg.pur rfl rfl rfl rfl (Pur.mv rfl) ?_
  refine Reg.pur rfl rfl rfl rfl (Pur.mv rfl) ?_
  refine Reg.known (b' := false) 26 rfl rfl ?_
  refine Reg.skip rfl rfl rfl rfl rfl rfl rfl ?_
  refine Reg.skip rfl rfl rfl rfl rfl rfl rfl ?_
  refine Reg.skip rfl rfl rfl rfl rfl rfl rfl ?_
  refine Reg.pur rfl rfl rfl rfl (Pur.pickF rfl rfl) ?_
  refine Reg.nil ?_
  refine At.condF rfl rfl rfl ?_
  refine At.region rfl rfl ?_
  refine Reg.pur rfl rfl rfl rfl (Pur.mv rfl) ?_
  refine Reg.nil ?_
  refine At.region rfl rfl ?_
  refine Reg.pur rfl rfl rfl rfl (asUn a rfl) ?_
  refine Reg.pur rfl rfl rfl rfl (Pur.ext rfl rfl) ?_
  refine Reg.pur rfl rfl rfl rfl (Pur.ext rfl rfl) ?_
  refine Reg.nil ?_
  refine At.condF rfl rfl rfl ?_
  refine At.region rfl rfl ?_
  refine Reg.pur rfl rfl rfl rfl (asUs a rfl) ?_
  refine Reg.pur rfl rfl rfl rfl (Pur.ext rfl rfl) ?_
  refine Reg.pur rfl rfl rfl rfl (Pur.ext rfl rfl) ?_
  refine Reg.nil ?_
  refine At.condF rfl rfl rfl ?_
  refine At.region rfl rfl ?_
  refine Reg.pur rfl rfl rfl rfl (Pur.asg rfl) ?_
  refine Reg.nil ?_
  refine At.region rfl rfl ?_
  refine Reg.pur rfl rfl rfl rfl (Pur.asg rfl) ?_
  refine Reg.nil ?_
  refine At.ret rfl Try.func97 rfl ?_
  exact ⟨congrArg Value.bool (by symm; simpa using q19), rfl⟩
theorem errorsIs_ok (o : Option Int) (n : Int) (H : Heap) : Ret Try.prog 70 [ev31 o, ev31 (some n)] H (fun v H' => v = .bool (decide (o = some n)) ∧ H' = H) := by
  cases o with
  | none =>
    refine Ret.of_at (N := 22) Try.call70 Try.func70 rfl rfl rfl ?_
    have hE := Ext.refl H
    refine At.region rfl rfl ?_
    refine Reg.pur rfl rfl rfl rfl (Pur.asg rfl) ?_
    refine Reg.nil ?_
    refine At.region rfl rfl ?_
    refine Reg.pur rfl rfl rfl rfl (Pur.mv rfl) ?_
    refine Reg.pur rfl rfl rfl rfl (Pur.eqI none none isIf_err intC_err rfl rfl rfl) ?_
    refine Reg.pur rfl rfl rfl rfl (Pur.mv rfl) ?_
    refine Reg.known (b' := true) 8 rfl (by decide) ?_
    refine Reg.skip rfl rfl rfl rfl rfl rfl rfl ?_
    refine Reg.skip rfl rfl rfl rfl rfl rfl rfl ?_
    refine Reg.pur rfl rfl rfl rfl (Pur.pickT rfl rfl) ?_
    refine Reg.nil ?_
    refine At.condT rfl rfl rfl ?_
    refine At.region rfl rfl ?_
    refine Reg.pur rfl rfl rfl rfl (Pur.mv rfl) ?_
    refine Reg.pur rfl rfl rfl rfl (Pur.mv rfl) ?_
    refine Reg.pur rfl rfl rfl rfl (Pur.eqI none (some n) isIf_err intC_err rfl rfl rfl) ?_
    refine Reg.pur rfl rfl rfl rfl (Pur.asg rfl) ?_
    refine Reg.nil ?_
    refine At.ret rfl Try.func70 rfl ?_
    exact ⟨congrArg Value.bool (by simp), rfl⟩
  | some a =>
    refine Ret.of_at (N := 22) Try.call70 Try.func70 rfl rfl rfl ?_
    have hE := Ext.refl H
    refine At.region rfl rfl ?_
    refine Reg.pur rfl rfl rfl rfl (Pur.asg rfl) ?_
    refine Reg.nil ?_
    refine At.region rfl rfl ?_
    refine Reg.pur rfl rfl rfl rfl (Pur.mv rfl) ?_
    refine Reg.pur rfl rfl rfl rfl (Pur.eqI (some a) none isIf_err intC_err rfl rfl rfl) ?_
    refine Reg.pur rfl rfl rfl rfl (Pur.mv rfl) ?_
    refine Reg.known (b' := false) 8 rfl (by simp) ?_
    refine Reg.gpur rfl rfl rfl rfl rfl rfl (Pur.mv rfl) ?_
    refine Reg.gpur rfl rfl rfl rfl rfl rfl (Pur.eqI (some n) none isIf_err intC_err rfl rfl rfl) ?_
    refine Reg.pur rfl rfl rfl rfl (Pur.pickF rfl rfl) ?_
    refine Reg.nil ?_
    refine At.condF rfl rfl (by simp) ?_
    refine At.region rfl rfl ?_
    refine Reg.pur rfl rfl rfl rfl (Pur.mv rfl) ?_
    refine Reg.pur rfl rfl rfl rfl (Pur.callX rfl (ty_of n)) ?_
    refine Reg.pur rfl rfl rfl rfl (Pur.invX rfl ty_comp) ?_
    refine Reg.pur rfl rfl rfl rfl (Pur.asg rfl) ?_
    refine Reg.nil ?_
    refine At.region rfl rfl ?_
    refine Reg.pur rfl rfl rfl rfl (Pur.mv rfl) ?_
    refine Reg.pur rfl rfl rfl rfl (Pur.mv rfl) ?_
    refine Reg.pur rfl rfl rfl rfl (Pur.mv rfl) ?_
    refine Reg.op rfl rfl rfl rfl (Does.call rfl (is_ok a n _)) ?_
    rintro _ H ⟨rfl, rfl⟩
    refine Reg.pur rfl rfl rfl rfl (Pur.asg rfl) ?_
    refine Reg.nil ?_
    refine At.ret rfl Try.func70 rfl ?_
    exact ⟨congrArg Value.bool (by simp), rfl⟩
end Go.Proofs.Ytlfillhffpiffaa

namespace Go.Proofs.Ytlfillhffpiffaa
set_option linter.unusedSimpArgs false
set_option linter.unusedVariables false
set_option maxRecDepth 8000
open Go Go.Fx Go.Proofs
namespace FactsSchA
theorem apt54 : appT Try.prog 54 = some (3, 1, 8) := by kernel_rfl
theorem es54 : esz Try.prog 54 = some 1 := by kernel_rfl
theorem isl54 : isSl Try.prog 54 = true := by kernel_rfl
theorem sc3 : sc Try.prog 3 = true := by kernel_rfl
theorem sl1_54 : sl1 Try.prog 54 = true := by kernel_rfl
end FactsSchA
open FactsSchA

def ixL : List Int → Int → Nat
  | [], _ => 0
  | x :: l, v => if x = v then 0 else ixL l v + 1
def inL (l : List Int) (v : Int) : Bool := decide (ixL l v < l.length)
theorem ixL_le : ∀ (l : List Int) (v : Int), ixL l v ≤ l.length
  | [], _ => Nat.le_refl _
  | x :: l, v => by
    simp only [ixL]; split
    · simp
    · simp only [List.length_cons]; have := ixL_le l v; omega
theorem inL_mem : ∀ {l : List Int} {v : Int}, inL l v = true ↔ v ∈ l
  | [], v => by simp [inL, ixL]
  | x :: l, v => by
    have ih := inL_mem (l := l) (v := v)
    simp only [inL, decide_eq_true_eq] at ih ⊢
    simp only [ixL, List.mem_cons, List.length_cons]
    split
    · rename_i h; simp [h]
    · rename_i h
      rw [← ih]
      constructor
      · intro h'; right; omega
      · rintro (h' | h')
        · exact (h h'.symm).elim
        · omega
theorem ix_drop {l : List Int} {i : Nat} {v : Int} (hi : i < l.length) : ixL (l.drop i) v = if l[i] = v then 0 else ixL (l.drop (i + 1)) v + 1 := by
  rw [dropL hi, ixL]
theorem ix_end {l : List Int} {i : Nat} {v : Int} (hi : l.length ≤ i) : ixL (l.drop i) v = 0 := by rw [List.drop_of_length_le hi]; rfl
theorem int_at {l : List Int} {H : Heap} {A : Option Addr} {cap : Nat} (hS : SlT H e1 1 (.slice A l.length cap) l) {i : Nat} (hi : i < l.length) :
    ∃ b o c, A = some ⟨b, o, none⟩ ∧ Blk H b c ∧ c[o + i * 1]? = some (I l[i]) := by
  obtain ⟨b, o, c, h1, h2, h3, _⟩ := sl_at (wide1 l) hS hi
  exact ⟨b, o, c, h1, h2, by have := at_tk (j := 0) h3 (by omega) (v := I l[i]) rfl; simpa using this⟩

theorem index_ok {A : Option Addr} {cap : Nat} (l : List Int) {H : Heap} (hS : SlT H e1 1 (.slice A l.length cap) l) (hm : l.length ≤ 9223372036854775807) (v : Int) :
    Ret Try.prog 125 [.slice A l.length cap, I v] H (fun r H' => r = I (if inL l v then ixL l v else -1) ∧ H' = H) := by
  refine Ret.of_at (N := 19) Try.call125 Try.func125 rfl rfl rfl ?_
  have hE := Ext.refl H
  refine At.region rfl rfl ?_
  refine Reg.pur rfl rfl rfl rfl (Pur.asg rfl) ?_
  refine Reg.nil ?_
  refine At.region rfl rfl ?_
  refine Reg.pur rfl rfl rfl rfl (Pur.mv rfl) ?_
  refine Reg.pur rfl rfl rfl rfl (Pur.lenS isl54 rfl) ?_
  refine Reg.pur rfl rfl rfl rfl (Pur.mv rfl) ?_
  refine Reg.nil ?_
  refine At.loop (σ := Nat) (fun i => [(8, I i), (7, I l.length), (0, .slice A l.length cap), (1, I v)]) (fun i H' => i ≤ l.length ∧ H' = H ∧ ixL l v = i + ixL (l.drop i) v) (fun i => l.length - i) 0 rfl ⟨rfl, rfl, rfl, rfl, trivial⟩ ⟨by omega, rfl, by simp⟩ ?_
  rintro i H ⟨hi, rfl, hgo⟩ ih
  refine At.region rfl rfl ?_
  refine Reg.pur rfl rfl rfl rfl (Pur.lss rfl rfl) ?_
  refine Reg.nil ?_
  refine At.cond rfl rfl (fun q9 => ?_) (fun q9 => ?_)
  · first | (simp only [decide_eq_true_eq, decide_eq_false_iff_not, Bool.not_eq_true', Bool.not_eq_false', ne_eq, Decidable.not_not, Bool.not_eq_true, Bool.not_eq_false] at q9) | (dsimp only at q9) | skip
    have hlt : i < l.length := by omega
    obtain ⟨b, o, c, rfl, hB, hc⟩ := int_at hS hlt
    rw [ix_drop hlt] at hgo
    refine At.region rfl rfl ?_
    refine Reg.pur rfl rfl rfl rfl (Pur.mv rfl) ?_
    refine Reg.pur rfl rfl rfl rfl (Pur.asg rfl) ?_
    refine Reg.nil ?_
    refine At.region rfl rfl ?_
    refine Reg.pur rfl rfl rfl rfl (Pur.mv rfl) ?_
    refine Reg.pur rfl rfl rfl rfl (Pur.mv rfl) ?_
    refine Reg.pur rfl rfl rfl rfl (Pur.mv rfl) ?_
    refine Reg.pur rfl rfl rfl rfl (Pur.idx _ es54 rfl rfl (by omega) (by omega)) ?_
    refine Reg.lod rfl rfl rfl rfl (Lod.ld sc3 rfl hB hc) ?_
    refine Reg.pur rfl rfl rfl rfl (Pur.eql rfl rfl) ?_
    refine Reg.nil ?_
    refine At.cond rfl rfl (fun q16 => ?_) (fun q16 => ?_)
    · first | (simp only [decide_eq_true_eq, decide_eq_false_iff_not, Bool.not_eq_true', Bool.not_eq_false', ne_eq, Decidable.not_not, Bool.not_eq_true, Bool.not_eq_false] at q16) | (dsimp only at q16) | skip
      refine At.region rfl rfl ?_
      refine Reg.pur rfl rfl rfl rfl (Pur.mv rfl) ?_
      refine Reg.pur rfl rfl rfl rfl (Pur.asg rfl) ?_
      refine Reg.nil ?_
      refine At.ret rfl Try.func125 rfl ?_
      rw [if_pos q16.symm] at hgo
      exact ⟨by rw [if_pos (by simp [inL]; omega)]; congr 1; omega, rfl⟩
    first | (simp only [decide_eq_true_eq, decide_eq_false_iff_not, Bool.not_eq_true', Bool.not_eq_false', ne_eq, Decidable.not_not, Bool.not_eq_true, Bool.not_eq_false] at q16) | (dsimp only at q16) | skip
    refine At.region rfl rfl ?_
    first | refine Reg.pur rfl rfl rfl rfl (Pur.add64 rfl rfl (by omega)) ?_ | refine Reg.pur rfl rfl rfl rfl (Pur.add64 rfl rfl (by assumption)) ?_ | refine Reg.pur rfl rfl rfl rfl (Pur.add rfl rfl) ?_
    refine Reg.pur rfl rfl rfl rfl (Pur.mv rfl) ?_
    refine Reg.nil ?_
    rw [if_neg (fun h => q16 h.symm)] at hgo
    exact At.via (ih (i + 1) _ ⟨by omega, rfl, by omega⟩ (by omega)) ⟨rfl, rfl, rfl, rfl, trivial⟩
  first | (simp only [decide_eq_true_eq, decide_eq_false_iff_not, Bool.not_eq_true', Bool.not_eq_false', ne_eq, Decidable.not_not, Bool.not_eq_true, Bool.not_eq_false] at q9) | (dsimp only at q9) | skip
  refine At.region rfl rfl ?_
  refine Reg.pur rfl rfl rfl rfl (Pur.asg rfl) ?_
  refine Reg.nil ?_
  refine At.ret rfl Try.func125 rfl ?_
  rw [ix_end (by omega)] at hgo
  exact ⟨by rw [if_neg (by simp [inL]; omega)], rfl⟩

theorem contains_ok {A : Option Addr} {cap : Nat} (l : List Int) {H : Heap} (hS : SlT H e1 1 (.slice A l.length cap) l) (hm : l.length ≤ 9223372036854775807) (v : Int) :
    Ret Try.prog 93 [.slice A l.length cap, I v] H (fun r H' => r = .bool (inL l v) ∧ H' = H) := by
  refine Ret.of_at (N := 9) Try.call93 Try.func93 rfl rfl rfl ?_
  have hE := Ext.refl H
  refine At.region rfl rfl ?_
  refine Reg.pur rfl rfl rfl rfl (Pur.asg rfl) ?_
  refine Reg.nil ?_
  refine At.region rfl rfl ?_
  refine Reg.pur rfl rfl rfl rfl (Pur.mv rfl) ?_
  refine Reg.pur rfl rfl rfl rfl (Pur.mv rfl) ?_
  refine Reg.op rfl rfl rfl rfl (Does.call rfl (index_ok l hS hm v)) ?_
  rintro _ H ⟨rfl, rfl⟩
  refine Reg.pur rfl rfl rfl rfl (Pur.geq rfl rfl) ?_
  refine Reg.pur rfl rfl rfl rfl (Pur.asg rfl) ?_
  refine Reg.nil ?_
  refine At.ret rfl Try.func93 rfl ?_
  refine ⟨congrArg Value.bool ?_, rfl⟩
  split
  · rename_i h; rw [h]; simp
  · rename_i h; simp at h; rw [h]; simp

def wo (l k : List Int) : List Int := l.filter fun v => !inL k v
theorem wo_take {l k : List Int} {i : Nat} (hi : i < l.length) : wo (l.take (i + 1)) k = wo (l.take i) k ++ (if inL k l[i] then [] else [l[i]]) := by
  unfold wo; rw [List.take_succ_eq_append_getElem hi, List.filter_append]
  cases h : inL k l[i] <;> simp [h]
end Go.Proofs.Ytlfillhffpiffaa

namespace Go.Proofs.Ytlfillhffpiffaa
set_option linter.unusedSimpArgs false
set_option linter.unusedVariables false
set_option maxRecDepth 8000
open Go Go.Fx Go.Proofs
namespace FactsSchB
theorem apt54 : appT Try.prog 54 = some (3, 1, 8) := by kernel_rfl
theorem es54 : esz Try.prog 54 = some 1 := by kernel_rfl
theorem isSlN54 : isSl' Try.prog 54 = true := by kernel_rfl
theorem isl54 : isSl Try.prog 54 = true := by kernel_rfl
theorem mkT54 : mkT Try.prog 54 = some (3, .int .i64 0, 8) := by kernel_rfl
theorem sc3 : sc Try.prog 3 = true := by kernel_rfl
theorem sc54 : sc Try.prog 54 = true := by kernel_rfl
theorem sl1_54 : sl1 Try.prog 54 = true := by kernel_rfl
end FactsSchB
open FactsSchB

theorem without1_ok {A2 : Option Addr} {cap2 kb : Nat} (k : List Int) (v : Int) {H : Heap} (hb : Blk H kb [.slice A2 k.length cap2]) (hk : SlT H e1 1 (.slice A2 k.length cap2) k) (hmk : k.length ≤ 9223372036854775807) :
    Ret Try.prog 92 [I v, ptr kb 0] H (fun r H' => r = .bool (inL k v) ∧ H' = H) := by
  refine Ret.of_at (N := 7) Try.call92 Try.func92 rfl rfl rfl ?_
  have hE := Ext.refl H
  refine At.region rfl rfl ?_
  refine Reg.pur rfl rfl rfl rfl (Pur.asg rfl) ?_
  refine Reg.nil ?_
  refine At.region rfl rfl ?_
  refine Reg.lod rfl rfl rfl rfl (Lod.ld sc54 rfl hb rfl) ?_
  refine Reg.pur rfl rfl rfl rfl (Pur.mv rfl) ?_
  refine Reg.op rfl rfl rfl rfl (Does.call rfl (contains_ok k hk hmk v)) ?_
  rintro _ H ⟨rfl, rfl⟩
  refine Reg.pur rfl rfl rfl rfl (Pur.asg rfl) ?_
  refine Reg.nil ?_
  refine At.ret rfl Try.func92 rfl ?_
  exact ⟨rfl, rfl⟩

abbrev woF (kb : Nat) : Value := .func (.func 92) #[] #[ptr kb 0]
theorem indexF_ok {A A2 : Option Addr} {cap cap2 kb : Nat} (l k : List Int) {H : Heap} (hS : SlT H e1 1 (.slice A l.length cap) l) (hm : l.length ≤ 9223372036854775807) (hb : Blk H kb [.slice A2 k.length cap2]) (hk : SlT H e1 1 (.slice A2 k.length cap2) k) (hmk : k.length ≤ 9223372036854775807) :
    Ret Try.prog 124 [.slice A l.length cap, woF kb] H (fun r H' => ((r = I (-1) ∧ wo l k = l) ∨ ∃ i, ∃ h : i < l.length, r = I i ∧ wo (l.take i) k = l.take i ∧ inL k l[i] = true) ∧ H' = H) := by
  refine Ret.of_at (N := 19) Try.call124 Try.func124 rfl rfl rfl ?_
  have hE := Ext.refl H
  refine At.region rfl rfl ?_
  refine Reg.pur rfl rfl rfl rfl (Pur.asg rfl) ?_
  refine Reg.nil ?_
  refine At.region rfl rfl ?_
  refine Reg.pur rfl rfl rfl rfl (Pur.mv rfl) ?_
  refine Reg.pur rfl rfl rfl rfl (Pur.lenS isl54 rfl) ?_
  refine Reg.pur rfl rfl rfl rfl (Pur.mv rfl) ?_
  refine Reg.nil ?_
  refine At.loop (σ := Nat) (fun i => [(8, I i), (7, I l.length), (0, .slice A l.length cap), (1, woF kb)]) (fun i H' => i ≤ l.length ∧ H' = H ∧ wo (l.take i) k = l.take i) (fun i => l.length - i) 0 rfl ⟨rfl, rfl, rfl, rfl, trivial⟩ ⟨by omega, rfl, rfl⟩ ?_
  rintro i H ⟨hi, rfl, hgo⟩ ih
  refine At.region rfl rfl ?_
  refine Reg.pur rfl rfl rfl rfl (Pur.lss rfl rfl) ?_
  refine Reg.nil ?_
  refine At.cond rfl rfl (fun q9 => ?_) (fun q9 => ?_)
  · first | (simp only [decide_eq_true_eq, decide_eq_false_iff_not, Bool.not_eq_true', Bool.not_eq_false', ne_eq, Decidable.not_not, Bool.not_eq_true, Bool.not_eq_false] at q9) | (dsimp only at q9) | skip
    have hlt : i < l.length := by omega
    obtain ⟨b, o, c, rfl, hB, hc⟩ := int_at hS hlt
    refine At.region rfl rfl ?_
    refine Reg.pur rfl rfl rfl rfl (Pur.mv rfl) ?_
    refine Reg.pur rfl rfl rfl rfl (Pur.asg rfl) ?_
    refine Reg.nil ?_
    refine At.region rfl rfl ?_
    refine Reg.pur rfl rfl rfl rfl (Pur.mv rfl) ?_
    refine Reg.pur rfl rfl rfl rfl (Pur.mv rfl) ?_
    refine Reg.pur rfl rfl rfl rfl (Pur.mv rfl) ?_
    refine Reg.pur rfl rfl rfl rfl (Pur.idx _ es54 rfl rfl (by omega) (by omega)) ?_
    refine Reg.lod rfl rfl rfl rfl (Lod.ld sc3 rfl hB hc) ?_
    refine Reg.op rfl rfl rfl rfl (Does.callv rfl rfl (without1_ok k _ hb hk hmk)) ?_
    rintro _ H ⟨rfl, rfl⟩
    refine Reg.nil ?_
    refine At.cond rfl rfl (fun q16 => ?_) (fun q16 => ?_)
    · first | (simp only [decide_eq_true_eq, decide_eq_false_iff_not, Bool.not_eq_true', Bool.not_eq_false', ne_eq, Decidable.not_not, Bool.not_eq_true, Bool.not_eq_false] at q16) | (dsimp only at q16) | skip
      refine At.region rfl rfl ?_
      refine Reg.pur rfl rfl rfl rfl (Pur.mv rfl) ?_
      refine Reg.pur rfl rfl rfl rfl (Pur.asg rfl) ?_
      refine Reg.nil ?_
      refine At.ret rfl Try.func124 rfl ?_
      exact ⟨.inr ⟨i, hlt, rfl, hgo, q16⟩, rfl⟩
    first | (simp only [decide_eq_true_eq, decide_eq_false_iff_not, Bool.not_eq_true', Bool.not_eq_false', ne_eq, Decidable.not_not, Bool.not_eq_true, Bool.not_eq_false] at q16) | (dsimp only at q16) | skip
    refine At.region rfl rfl ?_
    first | refine Reg.pur rfl rfl rfl rfl (Pur.add64 rfl rfl (by omega)) ?_ | refine Reg.pur rfl rfl rfl rfl (Pur.add64 rfl rfl (by assumption)) ?_ | refine Reg.pur rfl rfl rfl rfl (Pur.add rfl rfl) ?_
    refine Reg.pur rfl rfl rfl rfl (Pur.mv rfl) ?_
    refine Reg.nil ?_
    exact At.via (ih (i + 1) _ ⟨by omega, rfl, by rw [wo_take hlt, hgo, q16, if_neg (by decide), List.take_succ_eq_append_getElem hlt]⟩ (by omega)) ⟨rfl, rfl, rfl, rfl, trivial⟩
  first | (simp only [decide_eq_true_eq, decide_eq_false_iff_not, Bool.not_eq_true', Bool.not_eq_false', ne_eq, Decidable.not_not, Bool.not_eq_true, Bool.not_eq_false] at q9) | (dsimp only at q9) | skip
  refine At.region rfl rfl ?_
  refine Reg.pur rfl rfl rfl rfl (Pur.asg rfl) ?_
  refine Reg.nil ?_
  refine At.ret rfl Try.func124 rfl ?_
  rw [List.take_of_length_le (by omega)] at hgo
  exact ⟨.inl ⟨rfl, hgo⟩, rfl⟩

theorem cloneI_ok {A : Option Addr} {cap : Nat} {l : List Int} {H : Heap} (hS : SlT H e1 1 (.slice A l.length cap) l) (hb : l.length * 8 ≤ 140737488351232) :
    Ret Try.prog 91 [.slice A l.length cap] H (fun v H' => (∃ A' cap', v = .slice A' l.length cap' ∧ Gs H' H.size 3 1 A' cap' l.length (l.flatMap e1)) ∧ Ext H H') := by
  refine Ret.of_at (N := 8) Try.call91 Try.func91 rfl rfl rfl ?_
  have hE := Ext.refl H
  refine At.region rfl rfl ?_
  refine Reg.pur rfl rfl rfl rfl (Pur.asg rfl) ?_
  refine Reg.nil ?_
  refine At.region rfl rfl ?_
  refine Reg.pur rfl rfl rfl rfl (Pur.mv rfl) ?_
  refine Reg.pur rfl rfl rfl rfl (Pur.eqSN isSlN54 rfl rfl) ?_
  refine Reg.nil ?_
  refine At.cond rfl rfl (fun q4 => ?_) (fun q4 => ?_)
  · first | (simp only [decide_eq_true_eq, decide_eq_false_iff_not, Bool.not_eq_true', Bool.not_eq_false', ne_eq, Decidable.not_not, Bool.not_eq_true, Bool.not_eq_false] at q4) | (dsimp only at q4) | skip
    refine At.region rfl rfl ?_
    refine Reg.pur rfl rfl rfl rfl (Pur.asg rfl) ?_
    refine Reg.nil ?_
    refine At.ret rfl Try.func91 rfl ?_
    obtain ⟨A', cap', e, h1, _, h0, _⟩ := hS
    cases e
    have hA : A = none := by { cases A with | none => rfl | some _ => cases q4 }
    have hc := h0 hA
    have hl : l = [] := List.length_eq_zero_iff.1 (by omega)
    subst hl; exact ⟨⟨none, 0, rfl, OwnS.nil _ _ _ _⟩, hE⟩
  first | (simp only [decide_eq_true_eq, decide_eq_false_iff_not, Bool.not_eq_true', Bool.not_eq_false', ne_eq, Decidable.not_not, Bool.not_eq_true, Bool.not_eq_false] at q4) | (dsimp only at q4) | skip
  refine At.region rfl rfl ?_
  refine Reg.op rfl rfl rfl rfl (Does.bsl1T sl1_54 Try.underlying54 rfl rfl rfl rfl rfl) ?_
  rintro _ H3_0 ⟨rfl, hp3_0⟩
  have hn3_0 := New.of_eq hp3_0
  have z3_0 := hn3_0.size
  replace hE := hE.ext hn3_0.ext
  have o3_0 := hn3_0.own
  have hg : Gs H3_0 H.size 3 1 (some ⟨H.size, 0, none⟩) 0 ([] : List Int).length (([] : List Int).flatMap e1) := by rw [hp3_0]; exact OwnS.new (xs := []) (n := 0) rfl (by decide) (Nat.le_refl _)
  refine Reg.pur rfl rfl rfl rfl (Pur.mv rfl) ?_

  have z_hg := hg.lt
  refine Reg.op rfl rfl rfl rfl (Does.appL apt54 rfl rfl (by decide) hg (wide1 _) (hS.ext hE) (ones_e1 _) (by simp; omega) (by omega)) ?_
  rintro _ H3_2 ⟨A3_2, cap3_2, rfl, g3_2, hbut3_2, ha3_2⟩
  have z3_2 := hbut3_2.lt
  replace hE := hE.via hbut3_2 (by first | omega | (intro g; omega) | (intro g hg; omega) | (intro g hg h; omega))
  replace hg := g3_2
  have zg3_2 := g3_2.lt
  refine Reg.pur rfl rfl rfl rfl (Pur.asg rfl) ?_
  refine Reg.nil ?_
  refine At.ret rfl Try.func91 rfl ?_
  exact ⟨⟨A3_2, cap3_2, rfl, hg⟩, hE⟩

theorem wo_del {l k : List Int} {i : Nat} (hi : i < l.length) (hp : wo (l.take i) k = l.take i) (hin : inL k l[i] = true) : wo (l.take (i + 1)) k = l.take i := by
  rw [wo_take hi, hp, hin]; simp
theorem set_keep {M l : List Int} {i j : Nat} {v : Int} (hij : i < j) (h : M.drop j = l.drop j) : (M.set i v).drop (j + 1) = l.drop (j + 1) := by
  rw [List.drop_set_of_lt (by omega), ← List.drop_drop, h, List.drop_drop]
theorem take_set1 {M : List Int} {i : Nat} {v : Int} (h : i < M.length) : (M.set i v).take (i + 1) = M.take i ++ [v] := by
  rw [List.take_set, List.take_succ_eq_append_getElem h, List.set_append_right _ _ (by simp; omega)]
  simp [Nat.min_eq_left (Nat.le_of_lt h)]
theorem clr_take {c : List Value} {M : List Int} {n i : Nat} {r : List Value} (h : c.take n = Is M) (hi : i ≤ n) (hl : M.length = n) : ((c.take (0 + (i : Int).toNat * 1) ++ r ++ c.drop (0 + (i : Int).toNat * 1 + (n - i))).take i) = Is (M.take i) := by
  have hn := tk_len h hl
  rw [show 0 + (i : Int).toNat * 1 = i by omega, List.append_assoc, List.take_append_of_le_length (by rw [List.length_take]; omega), List.take_take, Nat.min_self]
  have := congrArg (List.take i) h
  rw [List.take_take, Nat.min_eq_left hi] at this
  rw [this]; simp [Is, List.map_take]

theorem deleteF_ok {A A2 : Option Addr} {cap cap2 kb B : Nat} (l k : List Int) {H : Heap} (hg : Gw H B 1 A cap l.length (l.flatMap e1)) (hm : l.length ≤ 9223372036854775807) (hb : Blk H kb [.slice A2 k.length cap2]) (hk : SlT H e1 1 (.slice A2 k.length cap2) k) (hmk : k.length ≤ 9223372036854775807) (hne : (kb : Int) ≠ ob A) (hne2 : k.length = 0 ∨ ob A2 ≠ ob A) :
    Ret Try.prog 90 [.slice A l.length cap, woF kb] H (fun r H' => (∃ cap', r = .slice A (wo l k).length cap' ∧ Gw H' B 1 A cap' (wo l k).length ((wo l k).flatMap e1)) ∧ But (fun g => (g : Int) = ob A) H H') := by
  have hS := hg.sl (wide1 l) (by decide)
  refine Ret.of_at (N := 42) Try.call90 Try.func90 rfl rfl rfl ?_
  have hE := Ext.refl H
  refine At.region rfl rfl ?_
  refine Reg.pur rfl rfl rfl rfl (Pur.asg rfl) ?_
  refine Reg.nil ?_
  refine At.region rfl rfl ?_
  refine Reg.pur rfl rfl rfl rfl (Pur.mv rfl) ?_
  refine Reg.pur rfl rfl rfl rfl (Pur.mv rfl) ?_
  refine Reg.op rfl rfl rfl rfl (Does.call rfl (indexF_ok l k hS hm hb hk hmk)) ?_
  rintro v1_2 H ⟨hix, rfl⟩
  obtain ⟨idx, rfl, hix2⟩ : ∃ idx : Int, v1_2 = I idx ∧ ((idx = -1 ∧ wo l k = l) ∨ ∃ i, ∃ h : i < l.length, idx = i ∧ wo (l.take i) k = l.take i ∧ inL k l[i] = true) := by { rcases hix with ⟨rfl, h⟩ | ⟨i, h, rfl, h2⟩; exact ⟨-1, rfl, .inl ⟨rfl, h⟩⟩; exact ⟨i, rfl, .inr ⟨i, h, rfl, h2⟩⟩ }
  refine Reg.pur rfl rfl rfl rfl (Pur.asg rfl) ?_
  refine Reg.nil ?_
  refine At.region rfl rfl ?_
  refine Reg.pur rfl rfl rfl rfl (Pur.mv rfl) ?_
  refine Reg.pur rfl rfl rfl rfl (Pur.eql rfl rfl) ?_
  refine Reg.nil ?_
  refine At.cond rfl rfl (fun q12 => ?_) (fun q12 => ?_)
  · first | (simp only [decide_eq_true_eq, decide_eq_false_iff_not, Bool.not_eq_true', Bool.not_eq_false', ne_eq, Decidable.not_not, Bool.not_eq_true, Bool.not_eq_false] at q12) | (dsimp only at q12) | skip
    refine At.region rfl rfl ?_
    refine Reg.pur rfl rfl rfl rfl (Pur.mv rfl) ?_
    refine Reg.pur rfl rfl rfl rfl (Pur.asg rfl) ?_
    refine Reg.nil ?_
    refine At.ret rfl Try.func90 rfl ?_
    have hw : wo l k = l := by { rcases hix2 with h | ⟨i, h, h2, _⟩; exact h.2; omega }
    rw [hw]; exact ⟨⟨cap, rfl, hg⟩, But.refl _ _⟩
  first | (simp only [decide_eq_true_eq, decide_eq_false_iff_not, Bool.not_eq_true', Bool.not_eq_false', ne_eq, Decidable.not_not, Bool.not_eq_true, Bool.not_eq_false] at q12) | (dsimp only at q12) | skip
  obtain ⟨i0, hi0, rfl, hp0, hin0⟩ := hix2.resolve_left (fun h => q12 h.1)
  refine At.region rfl rfl ?_
  refine Reg.pur rfl rfl rfl rfl (Pur.mv rfl) ?_
  first | refine Reg.pur rfl rfl rfl rfl (Pur.add64 rfl rfl (by omega)) ?_ | refine Reg.pur rfl rfl rfl rfl (Pur.add64 rfl rfl (by assumption)) ?_ | refine Reg.pur rfl rfl rfl rfl (Pur.add rfl rfl) ?_
  refine Reg.pur rfl rfl rfl rfl (Pur.asg rfl) ?_
  refine Reg.nil ?_
  obtain ⟨h0, h1, h2, h3, g, c0, rfl, hgB, ho, hc0⟩ : l.length = l.length ∧ l.length ≤ cap ∧ cap ≤ maxLen ∧ (A = none → cap = 0) ∧ ∃ g c, A = some ⟨g, 0, none⟩ ∧ B ≤ g ∧ Own H g c ∧ c.take (l.length * 1) = l.flatMap e1 := by { obtain ⟨_, h1, h2, h3, h4⟩ := hg; exact ⟨rfl, h1, h2, h3, h4.resolve_left (by omega)⟩ }
  rw [Nat.mul_one, flat_e1] at hc0
  refine At.loop (σ := Nat × Nat × List Int × List Value) (fun (j, i, M, c) => [(6, I j), (5, I i), (0, .slice (some ⟨g, 0, none⟩) l.length cap), (1, woF kb)]) (fun (j, i, M, c) H' => j ≤ l.length ∧ i < j ∧ M.length = l.length ∧ M.take i = wo (l.take j) k ∧ M.drop j = l.drop j ∧ Own H' g c ∧ c.take l.length = Is M ∧ But (fun x => (x : Int) = ob (some ⟨g, 0, none⟩)) H H') (fun s => l.length - s.1) (i0 + 1, i0, l, c0) rfl ⟨rfl, rfl, rfl, rfl, trivial⟩ ⟨by omega, by omega, rfl, (wo_del hi0 hp0 hin0).symm, rfl, ho, hc0, But.refl _ _⟩ ?_
  clear ho hc0 hS hg
  rintro ⟨j, i, M, c⟩ H3 ⟨hj, hij, hMl, hMt, hMd, ho, hc, hbt⟩ ih
  dsimp only at hj hij hMl hMt hMd hc ⊢
  rw [ob_some] at hne hne2
  have z_ho := ho.lt
  have hcl := tk_len hc hMl
  refine At.region rfl rfl ?_
  refine Reg.pur rfl rfl rfl rfl (Pur.mv rfl) ?_
  refine Reg.pur rfl rfl rfl rfl (Pur.mv rfl) ?_
  refine Reg.pur rfl rfl rfl rfl (Pur.lenS isl54 rfl) ?_
  refine Reg.pur rfl rfl rfl rfl (Pur.lss rfl rfl) ?_
  refine Reg.nil ?_
  refine At.cond rfl rfl (fun q19 => ?_) (fun q19 => ?_)
  · first | (simp only [decide_eq_true_eq, decide_eq_false_iff_not, Bool.not_eq_true', Bool.not_eq_false', ne_eq, Decidable.not_not, Bool.not_eq_true, Bool.not_eq_false] at q19) | (dsimp only at q19) | skip
    have hlt : j < l.length := by omega
    have hjv : M.getD j 0 = l[j] := by { have := congrArg (fun x => x[0]?) hMd; simp [hlt, hMl] at this; simp [List.getD_eq_getElem?_getD, hMl, hlt, this] }
    have hrd := rd1 hc (i := j) (by omega)
    rw [hjv] at hrd
    have hnx := wo_take (k := k) hlt
    refine At.region rfl rfl ?_
    refine Reg.pur rfl rfl rfl rfl (Pur.mv rfl) ?_
    refine Reg.pur rfl rfl rfl rfl (Pur.mv rfl) ?_
    refine Reg.pur rfl rfl rfl rfl (Pur.idx _ es54 rfl rfl (by omega) (by omega)) ?_
    refine Reg.lod rfl rfl rfl rfl (Lod.ld sc3 rfl ho.blk hrd) ?_
    refine Reg.pur rfl rfl rfl rfl (Pur.asg rfl) ?_
    refine Reg.nil ?_
    refine At.region rfl rfl ?_
    refine Reg.pur rfl rfl rfl rfl (Pur.mv rfl) ?_
    refine Reg.pur rfl rfl rfl rfl (Pur.mv rfl) ?_
    refine Reg.op rfl rfl rfl rfl (Does.callv rfl rfl (without1_ok k _ (hb.but hbt (by rw [ob_some]; omega)) (hk.via hbt (fun h0 g hg h ↦ by rw [ob_some] at h; omega)) hmk)) ?_
    rintro _ H3 ⟨rfl, rfl⟩
    refine Reg.pur rfl rfl rfl rfl (Pur.not rfl) ?_
    refine Reg.nil ?_
    refine At.cond rfl rfl (fun q29 => ?_) (fun q29 => ?_)
    · first | (simp only [decide_eq_true_eq, decide_eq_false_iff_not, Bool.not_eq_true', Bool.not_eq_false', ne_eq, Decidable.not_not, Bool.not_eq_true, Bool.not_eq_false] at q29) | (dsimp only at q29) | skip
      refine At.region rfl rfl ?_
      refine Reg.pur rfl rfl rfl rfl (Pur.mv rfl) ?_
      refine Reg.pur rfl rfl rfl rfl (Pur.mv rfl) ?_
      refine Reg.pur rfl rfl rfl rfl (Pur.mv rfl) ?_
      refine Reg.pur rfl rfl rfl rfl (Pur.idx _ es54 rfl rfl (by omega) (by omega)) ?_
      refine Reg.op0 rfl rfl rfl (Does.st sc3 rfl rfl rfl ho (by first | decide | (simp; done) | (simp; omega) | omega)) ?_
      rintro _ H9_4 hu9_4
      have z9_4 := hu9_4.size
      replace ho := hu9_4.own
      refine Reg.nil ?_
      refine At.region rfl rfl ?_
      refine Reg.pur rfl rfl rfl rfl (Pur.mv rfl) ?_
      first | refine Reg.pur rfl rfl rfl rfl (Pur.add64 rfl rfl (by omega)) ?_ | refine Reg.pur rfl rfl rfl rfl (Pur.add64 rfl rfl (by assumption)) ?_ | refine Reg.pur rfl rfl rfl rfl (Pur.add rfl rfl) ?_
      refine Reg.pur rfl rfl rfl rfl (Pur.asg rfl) ?_
      refine Reg.nil ?_
      refine At.region rfl rfl ?_
      refine Reg.pur rfl rfl rfl rfl (Pur.mv rfl) ?_
      first | refine Reg.pur rfl rfl rfl rfl (Pur.add64 rfl rfl (by omega)) ?_ | refine Reg.pur rfl rfl rfl rfl (Pur.add64 rfl rfl (by assumption)) ?_ | refine Reg.pur rfl rfl rfl rfl (Pur.add rfl rfl) ?_
      refine Reg.pur rfl rfl rfl rfl (Pur.asg rfl) ?_
      refine Reg.nil ?_
      first | (rw [q29, if_neg (by decide)] at hnx; exact At.via (ih (j + 1, i + 1, M.set i l[j], _) _ ⟨by omega, by omega, by simp [hMl], by rw [take_set1 (by omega), hMt, hnx], set_keep hij hMd, ho, wr1 hc _, hbt.trans (hu9_4.but.mono (fun b hb e => by subst e; rw [ob_some]))⟩ (by simp only; omega)) ⟨rfl, by rw [show ((i + 1 : Nat) : Int) = (i : Int) + 1 by omega]; rfl, rfl, rfl, trivial⟩) | (rw [q29, if_pos rfl, List.append_nil] at hnx; exact At.via (ih (j + 1, i, M, c) _ ⟨by omega, by omega, hMl, by rw [hMt, hnx], by rw [← List.drop_drop, hMd, List.drop_drop], ho, hc, hbt⟩ (by simp only; omega)) ⟨rfl, rfl, rfl, rfl, trivial⟩)
    first | (simp only [decide_eq_true_eq, decide_eq_false_iff_not, Bool.not_eq_true', Bool.not_eq_false', ne_eq, Decidable.not_not, Bool.not_eq_true, Bool.not_eq_false] at q29) | (dsimp only at q29) | skip
    refine At.region rfl rfl ?_
    refine Reg.pur rfl rfl rfl rfl (Pur.mv rfl) ?_
    first | refine Reg.pur rfl rfl rfl rfl (Pur.add64 rfl rfl (by omega)) ?_ | refine Reg.pur rfl rfl rfl rfl (Pur.add64 rfl rfl (by assumption)) ?_ | refine Reg.pur rfl rfl rfl rfl (Pur.add rfl rfl) ?_
    refine Reg.pur rfl rfl rfl rfl (Pur.asg rfl) ?_
    refine Reg.nil ?_
    first | (rw [q29, if_neg (by decide)] at hnx; exact At.via (ih (j + 1, i + 1, M.set i l[j], _) _ ⟨by omega, by omega, by simp [hMl], by rw [take_set1 (by omega), hMt, hnx], set_keep hij hMd, ho, wr1 hc _, hbt.trans (hu9_4.but.mono (fun b hb e => by subst e; rw [ob_some]))⟩ (by simp only; omega)) ⟨rfl, by rw [show ((i + 1 : Nat) : Int) = (i : Int) + 1 by omega]; rfl, rfl, rfl, trivial⟩) | (rw [q29, if_pos rfl, List.append_nil] at hnx; exact At.via (ih (j + 1, i, M, c) _ ⟨by omega, by omega, hMl, by rw [hMt, hnx], by rw [← List.drop_drop, hMd, List.drop_drop], ho, hc, hbt⟩ (by simp only; omega)) ⟨rfl, rfl, rfl, rfl, trivial⟩)
  first | (simp only [decide_eq_true_eq, decide_eq_false_iff_not, Bool.not_eq_true', Bool.not_eq_false', ne_eq, Decidable.not_not, Bool.not_eq_true, Bool.not_eq_false] at q19) | (dsimp only at q19) | skip
  obtain rfl : j = l.length := by omega
  rw [List.take_of_length_le (Nat.le_refl _)] at hMt
  have hwl : (wo l k).length = i := by rw [← hMt, List.length_take]; omega
  refine At.region rfl rfl ?_
  refine Reg.pur rfl rfl rfl rfl (Pur.mv rfl) ?_
  refine Reg.pur rfl rfl rfl rfl (Pur.mv rfl) ?_
  refine Reg.pur rfl rfl rfl rfl (Pur.cutL es54 rfl rfl (by omega) (by omega) (by omega)) ?_
  refine Reg.op0 rfl rfl rfl (Does.clr mkT54 rfl rfl (by omega) ho (by omega)) ?_
  rintro _ H11_3 hu11_3
  have z11_3 := hu11_3.size
  replace ho := hu11_3.own
  have hcl2 := clr_take (r := List.replicate (l.length - i) (I 0)) hc (show i ≤ l.length by omega) hMl
  refine Reg.nil ?_
  refine At.region rfl rfl ?_
  refine Reg.pur rfl rfl rfl rfl (Pur.mv rfl) ?_
  refine Reg.pur rfl rfl rfl rfl (Pur.mv rfl) ?_
  refine Reg.pur rfl rfl rfl rfl (Pur.cutH es54 rfl rfl (by omega) (by omega)) ?_
  refine Reg.pur rfl rfl rfl rfl (Pur.asg rfl) ?_
  refine Reg.nil ?_
  refine At.ret rfl Try.func90 rfl ?_
  refine ⟨⟨cap, by rw [hwl]; rfl, ?_⟩, hbt.trans (hu11_3.but.mono (fun b hb e => by subst e; rw [ob_some]))⟩
  refine ⟨by rw [flat_e1]; simp, by rw [hwl]; omega, h2, h3, .inr ⟨g, _, rfl, hgB, ho, ?_⟩⟩
  rw [Nat.mul_one, hwl, flat_e1, ← hMt]; exact hcl2

theorem without_ok {A A2 : Option Addr} {cap cap2 : Nat} (l k : List Int) {H : Heap} (hS : SlT H e1 1 (.slice A l.length cap) l) (hk : SlT H e1 1 (.slice A2 k.length cap2) k) (hm : l.length * 8 ≤ 140737488351232) (hmk : k.length ≤ 9223372036854775807) :
    Ret Try.prog 65 [.slice A l.length cap, .slice A2 k.length cap2] H (fun r H' => (∃ A' cap', r = .slice A' (wo l k).length cap' ∧ Gw H' H.size 1 A' cap' (wo l k).length ((wo l k).flatMap e1)) ∧ Ext H H') := by
  refine Ret.of_at (N := 9) Try.call65 Try.func65 rfl rfl rfl ?_
  have hE := Ext.refl H
  refine At.region rfl rfl ?_
  refine Reg.op rfl rfl rfl rfl (Does.box rfl rfl) ?_
  rintro _ H0_0 ⟨rfl, hn0_0⟩
  have z0_0 := hn0_0.size
  replace hE := hE.ext hn0_0.ext
  have o0_0 := hn0_0.own
  refine Reg.pur rfl rfl rfl rfl (Pur.asg rfl) ?_
  refine Reg.nil ?_
  refine At.region rfl rfl ?_
  refine Reg.pur rfl rfl rfl rfl (Pur.mv rfl) ?_
  refine Reg.op rfl rfl rfl rfl (Does.call rfl (cloneI_ok (hS.ext hE) hm)) ?_
  rintro _ H1_1 ⟨⟨A3, cap3, rfl, hg⟩, hE1_1⟩
  have z1_1 := hE1_1.lt
  replace hE := hE.ext hE1_1
  replace o0_0 := o0_0.ext hE1_1
  have z_hg := hg.lt
  refine Reg.pur rfl rfl rfl rfl (Pur.mkf rfl rfl) ?_

  refine Reg.op rfl rfl rfl rfl (Does.call rfl (deleteF_ok l k hg.gw (by omega) o0_0.blk (hk.ext hE) hmk (by have := hg.lt; omega) (by have := hg.lt; have := hk.lt; omega))) ?_
  rintro _ H1_3 ⟨⟨cap4, rfl, hgw⟩, hbut1_3⟩
  have z1_3 := hbut1_3.lt
  replace hE := hE.via hbut1_3 (by first | omega | (intro g; omega) | (intro g hg; omega) | (intro g hg h; omega))
  refine Reg.pur rfl rfl rfl rfl (Pur.asg rfl) ?_
  refine Reg.nil ?_
  refine At.ret rfl Try.func65 rfl ?_
  exact ⟨⟨A3, cap4, rfl, hgw.mono (by omega)⟩, hE⟩
end Go.Proofs.Ytlfillhffpiffaa

namespace Go.Proofs.Ytlfillhffpiffaa
set_option linter.unusedSimpArgs false
set_option linter.unusedVariables false
open Go Go.Fx Go.Proofs
namespace FactsTypA
theorem ag26 : ag Try.prog 26 = some 4 := by kernel_rfl
theorem arr1_26 : arr1 Try.prog 26 = some 4 := by kernel_rfl
theorem arr26 : arr Try.prog 26 = some (4, 1) := by kernel_rfl
theorem fo28_0 : foff Try.prog 28 0 = some 0 := by kernel_rfl
theorem fo28_1 : foff Try.prog 28 1 = some 4 := by kernel_rfl
theorem sc3 : sc Try.prog 3 = true := by kernel_rfl
end FactsTypA
open FactsTypA

def okc (n : Int) : Bool := decide (0 ≤ n ∧ n ≤ 32)
def rowM (r : List Int) : Bool := (r.take 4).all okc && decide (-1 ≤ r.getD 4 0 ∧ r.getD 4 0 < 4096)
theorem take4_at {r : List Int} (h : r.length = 5) {i : Nat} (hi : i < 4) : (r.take 4)[i]'(by simp; omega) = r.getD i 0 := by
  simp [List.getD_eq_getElem?_getD, List.getElem?_eq_getElem (by omega : i < r.length)]

theorem hat4 (r : List Int) (h : r.length = 5) : (Is r)[0 + 4]? = some (I (r.getD 4 0)) := at_Is (by omega)
theorem rowMay_ok (r : List Int) (h : r.length = 5) (H : Heap) : Ret Try.prog 58 [.agg (Is r).toArray] H (fun v H' => v = .bool (rowM r) ∧ Ext H H') := by
  have h4 : (r.take 4).length = 4 := by simp; omega
  refine Ret.of_at (N := 25) Try.call58 Try.func58 rfl rfl rfl ?_
  refine At.region rfl rfl ?_
  refine Reg.op rfl rfl rfl rfl (Does.box rfl rfl) ?_
  rintro _ H1 ⟨rfl, hn1⟩
  refine Reg.pur rfl rfl rfl rfl (Pur.asg rfl) ?_
  refine Reg.nil ?_
  refine At.region rfl rfl ?_
  refine Reg.pur rfl rfl rfl rfl (Pur.fld _ fo28_0 rfl) ?_
  refine Reg.lod rfl rfl rfl rfl (Lod.ldn ag26 rfl hn1.own.blk (show _ = Is (r.take 4) by simp [Is, List.map_take]) (by simp [Is]; omega)) ?_
  refine Reg.pur rfl rfl rfl rfl (Pur.mv rfl) ?_
  refine Reg.nil ?_
  refine At.loop (σ := Nat) (fun i => [(7, I i), (6, .agg (Is (r.take 4)).toArray), (1, ptr H.size 0)]) (fun i H' => i ≤ 4 ∧ H' = H1 ∧ ((r.take 4).take i).all okc = true) (fun i => 4 - i) 0 rfl ⟨rfl, rfl, rfl, trivial⟩ ⟨by omega, rfl, rfl⟩ ?_
  rintro i H2 ⟨hi, rfl, hgo⟩ ih
  refine At.region rfl rfl ?_
  refine Reg.pur rfl rfl rfl rfl (Pur.lss rfl rfl) ?_
  refine Reg.nil ?_
  refine At.cond rfl rfl (fun hb1 => ?_) (fun hb1 => ?_)
  · simp only [decide_eq_true_eq] at hb1
    have hlt : i < (r.take 4).length := by omega
    have hat := take4_at h (i := i) (by omega)
    have hai : (Is (r.take 4))[(i : Int).toNat]? = some (I (r.getD i 0)) := by
      have : (Is (r.take 4))[i]? = some (I (r.take 4)[i]) := by simp only [Is, List.getElem?_map, List.getElem?_eq_getElem hlt, Option.map_some]
      rw [hat] at this
      exact this
    refine At.region rfl rfl ?_
    refine Reg.pur rfl rfl rfl rfl (Pur.ixA arr1_26 rfl rfl (by omega) (by omega) hai) ?_
    refine Reg.pur rfl rfl rfl rfl (Pur.asg rfl) ?_
    refine Reg.nil ?_
    refine At.region rfl rfl ?_
    refine Reg.pur rfl rfl rfl rfl (Pur.mv rfl) ?_
    refine Reg.pur rfl rfl rfl rfl (Pur.lss rfl rfl) ?_
    refine Reg.pur rfl rfl rfl rfl (Pur.mv rfl) ?_
    refine Reg.case 12 rfl (fun hc2 => ?_) (fun hc2 => ?_)
    · refine Reg.skip rfl rfl rfl rfl rfl rfl rfl ?_
      refine Reg.skip rfl rfl rfl rfl rfl rfl rfl ?_
      refine Reg.pur rfl rfl rfl rfl (Pur.pickT rfl rfl) ?_
      refine Reg.nil ?_
      refine At.condT rfl rfl rfl ?_
      refine At.region rfl rfl ?_
      refine Reg.pur rfl rfl rfl rfl (Pur.asg rfl) ?_
      refine Reg.nil ?_
      refine At.ret rfl Try.func58 rfl ?_
      refine ⟨congrArg Value.bool ?_, hn1.ext⟩
      simp only [decide_eq_false_iff_not, decide_eq_true_eq] at *
      unfold rowM
      first | (rw [all_of_take hlt (by rw [hat, okc, decide_eq_false_iff_not]; omega)]; rfl) | (rw [List.take_of_length_le (by omega)] at hgo; rw [hgo]; generalize r.getD 4 0 = t at *; simp [*])
    refine Reg.gpur rfl rfl rfl rfl rfl rfl (Pur.mv rfl) ?_
    refine Reg.gpur rfl rfl rfl rfl rfl rfl (Pur.gtr rfl rfl) ?_
    refine Reg.pur rfl rfl rfl rfl (Pur.pickF rfl rfl) ?_
    refine Reg.nil ?_
    refine At.cond rfl rfl (fun hb3 => ?_) (fun hb3 => ?_)
    · refine At.region rfl rfl ?_
      refine Reg.pur rfl rfl rfl rfl (Pur.asg rfl) ?_
      refine Reg.nil ?_
      refine At.ret rfl Try.func58 rfl ?_
      refine ⟨congrArg Value.bool ?_, hn1.ext⟩
      simp only [decide_eq_false_iff_not, decide_eq_true_eq] at *
      unfold rowM
      first | (rw [all_of_take hlt (by rw [hat, okc, decide_eq_false_iff_not]; omega)]; rfl) | (rw [List.take_of_length_le (by omega)] at hgo; rw [hgo]; generalize r.getD 4 0 = t at *; simp [*])
    refine At.region rfl rfl ?_
    first | refine Reg.pur rfl rfl rfl rfl (Pur.add64 rfl rfl (by omega)) ?_ | refine Reg.pur rfl rfl rfl rfl (Pur.add64 rfl rfl (by assumption)) ?_ | refine Reg.pur rfl rfl rfl rfl (Pur.add rfl rfl) ?_
    refine Reg.pur rfl rfl rfl rfl (Pur.mv rfl) ?_
    refine Reg.nil ?_
    refine At.via (ih (i + 1) _ ⟨by omega, rfl, ?_⟩ (by omega)) ⟨rfl, rfl, rfl, trivial⟩
    simp only [decide_eq_false_iff_not, decide_eq_true_eq] at *
    rw [all_take hlt, hgo, hat, okc, decide_eq_true (by omega)]; rfl
  refine At.region rfl rfl ?_
  refine Reg.pur rfl rfl rfl rfl (Pur.fld _ fo28_1 rfl) ?_
  refine Reg.lod rfl rfl rfl rfl (Lod.ld sc3 rfl hn1.own.blk (hat4 r h)) ?_
  refine Reg.pur rfl rfl rfl rfl (Pur.geq rfl rfl) ?_
  refine Reg.pur rfl rfl rfl rfl (Pur.mv rfl) ?_
  refine Reg.case 20 rfl (fun hc4 => ?_) (fun hc4 => ?_)
  · refine Reg.gpur rfl rfl rfl rfl rfl rfl (Pur.fld _ fo28_1 rfl) ?_
    refine Reg.glod rfl rfl rfl rfl rfl rfl (Lod.ld sc3 rfl hn1.own.blk (hat4 r h)) ?_
    refine Reg.gpur rfl rfl rfl rfl rfl rfl (Pur.lss rfl rfl) ?_
    refine Reg.pur rfl rfl rfl rfl (Pur.pickT rfl rfl) ?_
    refine Reg.pur rfl rfl rfl rfl (Pur.asg rfl) ?_
    refine Reg.nil ?_
    refine At.ret rfl Try.func58 rfl ?_
    refine ⟨congrArg Value.bool ?_, hn1.ext⟩
    simp only [decide_eq_false_iff_not, decide_eq_true_eq] at *
    unfold rowM
    first | (rw [all_of_take hlt (by rw [hat, okc, decide_eq_false_iff_not]; omega)]; rfl) | (rw [List.take_of_length_le (by omega)] at hgo; rw [hgo]; generalize r.getD 4 0 = t at *; simp [*])
  refine Reg.skip rfl rfl rfl rfl rfl rfl rfl ?_
  refine Reg.skip rfl rfl rfl rfl rfl rfl rfl ?_
  refine Reg.skip rfl rfl rfl rfl rfl rfl rfl ?_
  refine Reg.pur rfl rfl rfl rfl (Pur.pickF rfl rfl) ?_
  refine Reg.pur rfl rfl rfl rfl (Pur.asg rfl) ?_
  refine Reg.nil ?_
  refine At.ret rfl Try.func58 rfl ?_
  refine ⟨congrArg Value.bool ?_, hn1.ext⟩
  simp only [decide_eq_false_iff_not, decide_eq_true_eq] at *
  unfold rowM
  first | (rw [all_of_take hlt (by rw [hat, okc, decide_eq_false_iff_not]; omega)]; rfl) | (rw [List.take_of_length_le (by omega)] at hgo; rw [hgo]; generalize r.getD 4 0 = t at *; simp [*])

def nodM (x : List Int) : Bool :=
  if x.getD 0 0 = 3 then rowM (x.drop 4) && decide (x.getD 1 0 = 0)
  else if x.getD 0 0 = 2 then decide (0 ≤ x.getD 1 0 ∧ x.getD 1 0 < 4096) && decide (x = [2, x.getD 1 0, 0, 0, 0, 0, 0, 0, 0])
  else if x.getD 0 0 = 0 ∨ x.getD 0 0 = 1 then decide (x = [x.getD 0 0, 0, 0, 0, 0, 0, 0, 0, 0]) else false
end Go.Proofs.Ytlfillhffpiffaa

namespace Go.Proofs.Ytlfillhffpiffaa
set_option linter.unusedSimpArgs false
set_option linter.unusedVariables false
set_option maxRecDepth 8000
open Go Go.Fx Go.Proofs
namespace FactsTypB
theorem ag28 : ag Try.prog 28 = some 5 := by kernel_rfl
theorem ag47 : ag Try.prog 47 = some 9 := by kernel_rfl
theorem eqt47 : eqT Try.prog 47 = some [.int .i64, .int .i64, .int .i64, .int .i64, .int .i64, .int .i64, .int .i64, .int .i64, .int .i64] := by kernel_rfl
theorem fo47_0 : foff Try.prog 47 0 = some 0 := by kernel_rfl
theorem fo47_1 : foff Try.prog 47 1 = some 1 := by kernel_rfl
theorem fo47_2 : foff Try.prog 47 2 = some 2 := by kernel_rfl
theorem fo47_3 : foff Try.prog 47 3 = some 3 := by kernel_rfl
theorem fo47_4 : foff Try.prog 47 4 = some 4 := by kernel_rfl
theorem pl28 : places Try.prog 28 = some [(0, 4), (4, 1)] := by kernel_rfl
theorem pl47 : places Try.prog 47 = some [(0, 1), (1, 1), (2, 1), (3, 1), (4, 5)] := by kernel_rfl
theorem sc3 : sc Try.prog 3 = true := by kernel_rfl
theorem zc28 : zc Try.prog 28 = some [.int .i64 0, .int .i64 0, .int .i64 0, .int .i64 0, .int .i64 0] := by kernel_rfl
theorem zc47 : zc Try.prog 47 = some [.int .i64 0, .int .i64 0, .int .i64 0, .int .i64 0, .int .i64 0, .int .i64 0, .int .i64 0, .int .i64 0, .int .i64 0] := by kernel_rfl
end FactsTypB
open FactsTypB

theorem nodMay_ok (k v a b c d e f t : Int) (H : Heap) : Ret Try.prog 85 [.agg (Is [k, v, a, b, c, d, e, f, t]).toArray] H (fun r H' => r = .bool (nodM [k, v, a, b, c, d, e, f, t]) ∧ Ext H H') := by
  refine Ret.of_at (N := 37) Try.call85 Try.func85 rfl rfl rfl ?_
  refine At.region rfl rfl ?_
  refine Reg.op rfl rfl rfl rfl (Does.box rfl rfl) ?_
  rintro _ H1 ⟨rfl, hn1⟩
  refine Reg.pur rfl rfl rfl rfl (Pur.asg rfl) ?_
  refine Reg.nil ?_
  have hX := hn1.own
  refine At.region rfl rfl ?_
  refine Reg.pur rfl rfl rfl rfl (Pur.fld _ fo47_0 rfl) ?_
  refine Reg.lod rfl rfl rfl rfl (Lod.ld sc3 rfl hX.blk rfl) ?_
  refine Reg.nil ?_
  refine At.region rfl rfl ?_
  refine Reg.pur rfl rfl rfl rfl (Pur.eql rfl rfl) ?_
  refine Reg.pur rfl rfl rfl rfl (Pur.asg rfl) ?_
  refine Reg.nil ?_
  refine At.cond rfl rfl (fun hb1 => ?_) (fun hb1 => ?_)
  · have hr := rowMay_ok [c, d, e, f, t] rfl H1
    refine At.region rfl rfl ?_
    refine Reg.pur rfl rfl rfl rfl (Pur.fld _ fo47_4 rfl) ?_
    refine Reg.lod rfl rfl rfl rfl (Lod.ldn ag28 rfl hX.blk (show _ = Is [c, d, e, f, t] from rfl) rfl) ?_
    refine Reg.op rfl rfl rfl rfl (Does.call rfl (hr)) ?_
    rintro _ H2 ⟨rfl, hE2⟩
    refine Reg.pur rfl rfl rfl rfl (Pur.not rfl) ?_
    refine Reg.nil ?_
    have hX := hX.ext hE2
    refine At.cond rfl rfl (fun hb2 => ?_) (fun hb2 => ?_)
    · refine At.region rfl rfl ?_
      refine Reg.pur rfl rfl rfl rfl (Pur.asg rfl) ?_
      refine Reg.nil ?_
      refine At.ret rfl Try.func85 rfl ?_
      refine ⟨congrArg Value.bool ?_, by first | exact hE5 | exact hn1.ext.trans hE2 | exact hn1.ext.upd hu3 (Nat.le_refl _) | exact hn1.ext⟩
      try rw [eqs_ints]
      rw [Bool.eq_iff_iff]
      simp only [decide_eq_true_eq, decide_eq_false_iff_not, Bool.not_eq_true', Bool.not_eq_eq_eq_not, Bool.not_true, Bool.not_false] at *
      simp [nodM, eqs, eqv, *]
      try omega
    refine At.region rfl rfl ?_
    refine Reg.pur rfl rfl rfl rfl (Pur.bld (cs := [_, _, _, _, _]) pl28 zc28 rfl rfl ⟨rfl, rfl, rfl, rfl, rfl, rfl⟩) ?_
    refine Reg.pur rfl rfl rfl rfl (Pur.fld _ fo47_4 rfl) ?_
    refine Reg.op0 rfl rfl rfl (Does.stn ag28 rfl rfl rfl rfl hX (by simp)) ?_
    rintro _ H3 hu3
    refine Reg.pur rfl rfl rfl rfl (Pur.fld _ fo47_2 rfl) ?_
    refine Reg.op0 rfl rfl rfl (Does.st sc3 rfl rfl rfl hu3.own (by simp)) ?_
    rintro _ H4 hu4
    refine Reg.pur rfl rfl rfl rfl (Pur.fld _ fo47_3 rfl) ?_
    refine Reg.op0 rfl rfl rfl (Does.st sc3 rfl rfl rfl hu4.own (by simp)) ?_
    rintro _ H5 hu5
    refine Reg.nil ?_
    have hY : Own H5 H.size (Is [k, v, 0, 0, 0, 0, 0, 0, 0]) := hu5.own
    have hE5 := (((hn1.ext.trans hE2).upd hu3 (Nat.le_refl _)).upd hu4 (Nat.le_refl _)).upd hu5 (Nat.le_refl _)
    refine At.region rfl rfl ?_
    refine Reg.lod rfl rfl rfl rfl (Lod.ldn ag47 rfl hY.blk (whole rfl) rfl) ?_
    refine Reg.pur rfl rfl rfl rfl (Pur.bld (cs := [_, _, _, _, _, _, _, _, _]) pl47 zc47 rfl rfl ⟨rfl, rfl, rfl, rfl, rfl, rfl, rfl, rfl, rfl, rfl⟩) ?_
    refine Reg.pur rfl rfl rfl rfl (Pur.eqA eqt47 rfl rfl (fks_ints .i64 [k, v, 0, 0, 0, 0, 0, 0, 0]) (fks_ints .i64 [3, 0, 0, 0, 0, 0, 0, 0, 0])) ?_
    refine Reg.pur rfl rfl rfl rfl (Pur.asg rfl) ?_
    refine Reg.nil ?_
    refine At.ret rfl Try.func85 rfl ?_
    refine ⟨congrArg Value.bool ?_, by first | exact hE5 | exact hn1.ext.trans hE2 | exact hn1.ext.upd hu3 (Nat.le_refl _) | exact hn1.ext⟩
    try rw [eqs_ints]
    rw [Bool.eq_iff_iff]
    simp only [decide_eq_true_eq, decide_eq_false_iff_not, Bool.not_eq_true', Bool.not_eq_eq_eq_not, Bool.not_true, Bool.not_false] at *
    simp [nodM, eqs, eqv, *]
    try omega
  refine At.region rfl rfl ?_
  refine Reg.pur rfl rfl rfl rfl (Pur.eql rfl rfl) ?_
  refine Reg.pur rfl rfl rfl rfl (Pur.asg rfl) ?_
  refine Reg.nil ?_
  refine At.cond rfl rfl (fun hb3 => ?_) (fun hb3 => ?_)
  · refine At.region rfl rfl ?_
    refine Reg.pur rfl rfl rfl rfl (Pur.fld _ fo47_1 rfl) ?_
    refine Reg.lod rfl rfl rfl rfl (Lod.ld sc3 rfl hX.blk rfl) ?_
    refine Reg.pur rfl rfl rfl rfl (Pur.lss rfl rfl) ?_
    refine Reg.pur rfl rfl rfl rfl (Pur.mv rfl) ?_
    refine Reg.case 26 rfl (fun hc4 => ?_) (fun hc4 => ?_)
    · refine Reg.skip rfl rfl rfl rfl rfl rfl rfl ?_
      refine Reg.skip rfl rfl rfl rfl rfl rfl rfl ?_
      refine Reg.skip rfl rfl rfl rfl rfl rfl rfl ?_
      refine Reg.pur rfl rfl rfl rfl (Pur.pickT rfl rfl) ?_
      refine Reg.nil ?_
      refine At.condT rfl rfl rfl ?_
      refine At.region rfl rfl ?_
      refine Reg.pur rfl rfl rfl rfl (Pur.asg rfl) ?_
      refine Reg.nil ?_
      refine At.ret rfl Try.func85 rfl ?_
      refine ⟨congrArg Value.bool ?_, by first | exact hE5 | exact hn1.ext.trans hE2 | exact hn1.ext.upd hu3 (Nat.le_refl _) | exact hn1.ext⟩
      try rw [eqs_ints]
      rw [Bool.eq_iff_iff]
      simp only [decide_eq_true_eq, decide_eq_false_iff_not, Bool.not_eq_true', Bool.not_eq_eq_eq_not, Bool.not_true, Bool.not_false] at *
      simp [nodM, eqs, eqv, *]
      try omega
    refine Reg.gpur rfl rfl rfl rfl rfl rfl (Pur.fld _ fo47_1 rfl) ?_
    refine Reg.glod rfl rfl rfl rfl rfl rfl (Lod.ld sc3 rfl hX.blk rfl) ?_
    refine Reg.gpur rfl rfl rfl rfl rfl rfl (Pur.geq rfl rfl) ?_
    refine Reg.pur rfl rfl rfl rfl (Pur.pickF rfl rfl) ?_
    refine Reg.nil ?_
    refine At.cond rfl rfl (fun hb5 => ?_) (fun hb5 => ?_)
    · refine At.region rfl rfl ?_
      refine Reg.pur rfl rfl rfl rfl (Pur.asg rfl) ?_
      refine Reg.nil ?_
      refine At.ret rfl Try.func85 rfl ?_
      refine ⟨congrArg Value.bool ?_, by first | exact hE5 | exact hn1.ext.trans hE2 | exact hn1.ext.upd hu3 (Nat.le_refl _) | exact hn1.ext⟩
      try rw [eqs_ints]
      rw [Bool.eq_iff_iff]
      simp only [decide_eq_true_eq, decide_eq_false_iff_not, Bool.not_eq_true', Bool.not_eq_eq_eq_not, Bool.not_true, Bool.not_false] at *
      simp [nodM, eqs, eqv, *]
      try omega
    refine At.region rfl rfl ?_
    refine Reg.pur rfl rfl rfl rfl (Pur.fld _ fo47_1 rfl) ?_
    refine Reg.op0 rfl rfl rfl (Does.st sc3 rfl rfl rfl hX (by simp)) ?_
    rintro _ H3 hu3
    refine Reg.nil ?_
    have hX : Own H3 H.size (Is [k, 0, a, b, c, d, e, f, t]) := hu3.own
    refine At.region rfl rfl ?_
    refine Reg.lod rfl rfl rfl rfl (Lod.ldn ag47 rfl hX.blk (whole rfl) rfl) ?_
    refine Reg.pur rfl rfl rfl rfl (Pur.fld _ fo47_0 rfl) ?_
    refine Reg.lod rfl rfl rfl rfl (Lod.ld sc3 rfl hX.blk rfl) ?_
    refine Reg.pur rfl rfl rfl rfl (Pur.bld (cs := [_, _, _, _, _, _, _, _, _]) pl47 zc47 rfl rfl ⟨rfl, rfl, rfl, rfl, rfl, rfl, rfl, rfl, rfl, rfl⟩) ?_
    refine Reg.pur rfl rfl rfl rfl (Pur.eqA eqt47 rfl rfl (fks_ints .i64 [_, _, _, _, _, _, _, _, _]) (fks_ints .i64 [_, 0, 0, 0, 0, 0, 0, 0, 0])) ?_
    refine Reg.pur rfl rfl rfl rfl (Pur.asg rfl) ?_
    refine Reg.nil ?_
    refine At.ret rfl Try.func85 rfl ?_
    refine ⟨congrArg Value.bool ?_, by first | exact hE5 | exact hn1.ext.trans hE2 | exact hn1.ext.upd hu3 (Nat.le_refl _) | exact hn1.ext⟩
    try rw [eqs_ints]
    rw [Bool.eq_iff_iff]
    simp only [decide_eq_true_eq, decide_eq_false_iff_not, Bool.not_eq_true', Bool.not_eq_eq_eq_not, Bool.not_true, Bool.not_false] at *
    simp [nodM, eqs, eqv, *]
    try omega
  refine At.region rfl rfl ?_
  refine Reg.pur rfl rfl rfl rfl (Pur.eql rfl rfl) ?_
  refine Reg.pur rfl rfl rfl rfl (Pur.asg rfl) ?_
  refine Reg.nil ?_
  refine At.cond rfl rfl (fun hb6 => ?_) (fun hb6 => ?_)
  · refine At.condT rfl rfl (by first | exact hb6 | exact decide_eq_true hb6 | exact decide_eq_false hb6 | simpa using hb6) ?_
    refine At.region rfl rfl ?_
    refine Reg.lod rfl rfl rfl rfl (Lod.ldn ag47 rfl hX.blk (whole rfl) rfl) ?_
    refine Reg.pur rfl rfl rfl rfl (Pur.fld _ fo47_0 rfl) ?_
    refine Reg.lod rfl rfl rfl rfl (Lod.ld sc3 rfl hX.blk rfl) ?_
    refine Reg.pur rfl rfl rfl rfl (Pur.bld (cs := [_, _, _, _, _, _, _, _, _]) pl47 zc47 rfl rfl ⟨rfl, rfl, rfl, rfl, rfl, rfl, rfl, rfl, rfl, rfl⟩) ?_
    refine Reg.pur rfl rfl rfl rfl (Pur.eqA eqt47 rfl rfl (fks_ints .i64 [_, _, _, _, _, _, _, _, _]) (fks_ints .i64 [_, 0, 0, 0, 0, 0, 0, 0, 0])) ?_
    refine Reg.pur rfl rfl rfl rfl (Pur.asg rfl) ?_
    refine Reg.nil ?_
    refine At.ret rfl Try.func85 rfl ?_
    refine ⟨congrArg Value.bool ?_, by first | exact hE5 | exact hn1.ext.trans hE2 | exact hn1.ext.upd hu3 (Nat.le_refl _) | exact hn1.ext⟩
    try rw [eqs_ints]
    rw [Bool.eq_iff_iff]
    simp only [decide_eq_true_eq, decide_eq_false_iff_not, Bool.not_eq_true', Bool.not_eq_eq_eq_not, Bool.not_true, Bool.not_false] at *
    simp [nodM, eqs, eqv, *]
    try omega
  refine At.region rfl rfl ?_
  refine Reg.pur rfl rfl rfl rfl (Pur.eql rfl rfl) ?_
  refine Reg.pur rfl rfl rfl rfl (Pur.asg rfl) ?_
  refine Reg.nil ?_
  refine At.cond rfl rfl (fun hb7 => ?_) (fun hb7 => ?_)
  · refine At.region rfl rfl ?_
    refine Reg.lod rfl rfl rfl rfl (Lod.ldn ag47 rfl hX.blk (whole rfl) rfl) ?_
    refine Reg.pur rfl rfl rfl rfl (Pur.fld _ fo47_0 rfl) ?_
    refine Reg.lod rfl rfl rfl rfl (Lod.ld sc3 rfl hX.blk rfl) ?_
    refine Reg.pur rfl rfl rfl rfl (Pur.bld (cs := [_, _, _, _, _, _, _, _, _]) pl47 zc47 rfl rfl ⟨rfl, rfl, rfl, rfl, rfl, rfl, rfl, rfl, rfl, rfl⟩) ?_
    refine Reg.pur rfl rfl rfl rfl (Pur.eqA eqt47 rfl rfl (fks_ints .i64 [_, _, _, _, _, _, _, _, _]) (fks_ints .i64 [_, 0, 0, 0, 0, 0, 0, 0, 0])) ?_
    refine Reg.pur rfl rfl rfl rfl (Pur.asg rfl) ?_
    refine Reg.nil ?_
    refine At.ret rfl Try.func85 rfl ?_
    refine ⟨congrArg Value.bool ?_, by first | exact hE5 | exact hn1.ext.trans hE2 | exact hn1.ext.upd hu3 (Nat.le_refl _) | exact hn1.ext⟩
    try rw [eqs_ints]
    rw [Bool.eq_iff_iff]
    simp only [decide_eq_true_eq, decide_eq_false_iff_not, Bool.not_eq_true', Bool.not_eq_eq_eq_not, Bool.not_true, Bool.not_false] at *
    simp [nodM, eqs, eqv, *]
    try omega
  refine At.region rfl rfl ?_
  refine Reg.pur rfl rfl rfl rfl (Pur.asg rfl) ?_
  refine Reg.nil ?_
  refine At.ret rfl Try.func85 rfl ?_
  refine ⟨congrArg Value.bool ?_, by first | exact hE5 | exact hn1.ext.trans hE2 | exact hn1.ext.upd hu3 (Nat.le_refl _) | exact hn1.ext⟩
  try rw [eqs_ints]
  rw [Bool.eq_iff_iff]
  simp only [decide_eq_true_eq, decide_eq_false_iff_not, Bool.not_eq_true', Bool.not_eq_eq_eq_not, Bool.not_true, Bool.not_false] at *
  simp [nodM, eqs, eqv, *]
  try omega
end Go.Proofs.Ytlfillhffpiffaa

namespace Go.Proofs.Ytlfillhffpiffaa
set_option linter.unusedSimpArgs false
set_option linter.unusedVariables false
set_option maxRecDepth 8000
open Go Go.Fx Go.Proofs
namespace FactsTypC
theorem es23 : esz Try.prog 23 = some 9 := by kernel_rfl
theorem fo47_0 : foff Try.prog 47 0 = some 0 := by kernel_rfl
theorem fo47_2 : foff Try.prog 47 2 = some 2 := by kernel_rfl
theorem fo47_3 : foff Try.prog 47 3 = some 3 := by kernel_rfl
theorem sc3 : sc Try.prog 3 = true := by kernel_rfl
end FactsTypC
open FactsTypC

abbrev el (L : List (List Int)) (i : Int) : List Int := L.getD i.toNat []
abbrev Nine (L : List (List Int)) : Prop := ∀ x ∈ L, x.length = 9
theorem wide9 {L : List (List Int)} (h : Nine L) : Wide Is 9 L := fun x hx => by simp [Is, h x hx]
def bgn (L : List (List Int)) : Nat → Int → Int
  | 0, _ => -1
  | f + 1, z => if (el L z).getD 0 0 ≠ 3 then z else if z = 0 ∨ (el L z).getD 3 0 ≠ z - 1 then -1 else
    if bgn L f ((el L z).getD 3 0) < 1 ∨ (el L z).getD 2 0 ≠ bgn L f ((el L z).getD 3 0) - 1 then -1 else bgn L f ((el L z).getD 2 0)
theorem bgn_succ (L : List (List Int)) (f : Nat) (z : Int) : bgn L (f + 1) z = if (el L z).getD 0 0 ≠ 3 then z else if z = 0 ∨ (el L z).getD 3 0 ≠ z - 1 then -1 else
    if bgn L f ((el L z).getD 3 0) < 1 ∨ (el L z).getD 2 0 ≠ bgn L f ((el L z).getD 3 0) - 1 then -1 else bgn L f ((el L z).getD 2 0) := rfl
theorem bgn_le (L : List (List Int)) : ∀ (f : Nat) (z : Int), 0 ≤ z → bgn L f z ≤ z
  | 0, z, h => by simp only [bgn]; omega
  | f + 1, z, h => by
    rw [bgn_succ]
    split
    · omega
    · split
      · omega
      · split
        · omega
        · rename_i h1 h2 h3
          have e1 := bgn_le L f ((el L z).getD 3 0) (by omega)
          have e2 := bgn_le L f ((el L z).getD 2 0) (by omega)
          omega

theorem el_cells {L : List (List Int)} (hL : Nine L) {H : Heap} {A : Option Addr} {cap : Nat} (hS : SlT H Is 9 (.slice A L.length cap) L) {z : Int} (h0 : 0 ≤ z) (h1 : z < L.length) :
    ∃ b o c, A = some ⟨b, o, none⟩ ∧ Blk H b c ∧ (c.drop (o + z.toNat * 9)).take 9 = Is (el L z) ∧ (el L z).length = 9 ∧ ∀ j, j < 9 → c[o + z.toNat * 9 + j]? = some (I ((el L z).getD j 0)) := by
  have hzn : z.toNat < L.length := by omega
  obtain ⟨b, o, c, h2, h3, h4, h5⟩ := sl_at (wide9 hL) hS hzn
  have hel : el L z = L[z.toNat] := by simp [el, List.getD_eq_getElem?_getD, List.getElem?_eq_getElem hzn]
  have h9 : (el L z).length = 9 := by rw [hel]; exact hL _ (List.getElem_mem hzn)
  rw [← hel] at h4
  exact ⟨b, o, c, h2, h3, h4, h9, fun j hj => at_tk h4 hj (at_Is (by omega))⟩

theorem begin_ok {A : Option Addr} {cap : Nat} (L : List (List Int)) (hL : Nine L) {H : Heap} (hS : SlT H Is 9 (.slice A L.length cap) L) (hm : L.length ≤ 9223372036854775807) : ∀ (f : Nat) (z : Int), 0 ≤ z → z < L.length → z.toNat < f →
    Ret Try.prog 86 [.slice A L.length cap, I z] H (fun v H' => v = I (bgn L f z) ∧ H' = H) := by
  intro f
  induction f with
  | zero => intro z _ _ h; omega
  | succ f ihf =>
  intro z hz0 hzl hzf
  obtain ⟨b0, o0, c0, rfl, hb0, hbd, hx9, hat⟩ := el_cells hL hS hz0 hzl
  have hfin := bgn_succ L f z
  generalize el L z = x at hfin hbd hx9 hat
  refine Ret.of_at (N := 50) Try.call86 Try.func86 rfl rfl rfl ?_
  refine At.region rfl rfl ?_
  refine Reg.pur rfl rfl rfl rfl (Pur.asg rfl) ?_
  refine Reg.nil ?_
  refine At.region rfl rfl ?_
  refine Reg.pur rfl rfl rfl rfl (Pur.mv rfl) ?_
  refine Reg.pur rfl rfl rfl rfl (Pur.mv rfl) ?_
  refine Reg.pur rfl rfl rfl rfl (Pur.idx _ es23 rfl rfl (by omega) (by omega)) ?_
  refine Reg.pur rfl rfl rfl rfl (Pur.asg rfl) ?_
  refine Reg.nil ?_
  refine At.region rfl rfl ?_
  refine Reg.pur rfl rfl rfl rfl (Pur.mv rfl) ?_
  refine Reg.pur rfl rfl rfl rfl (Pur.nilc rfl) ?_
  refine Reg.pur rfl rfl rfl rfl (Pur.fld _ fo47_0 rfl) ?_
  refine Reg.lod rfl rfl rfl rfl (Lod.ld sc3 rfl hb0 (hat 0 (by omega))) ?_
  refine Reg.pur rfl rfl rfl rfl (Pur.neq rfl rfl) ?_
  refine Reg.nil ?_
  refine At.cond rfl rfl (fun hb1 => ?_) (fun hb1 => ?_)
  · refine At.region rfl rfl ?_
    refine Reg.pur rfl rfl rfl rfl (Pur.mv rfl) ?_
    refine Reg.pur rfl rfl rfl rfl (Pur.asg rfl) ?_
    refine Reg.nil ?_
    refine At.ret rfl Try.func86 rfl ?_
    refine ⟨congrArg I ?_, rfl⟩
    try simp only [decide_eq_true_eq, decide_eq_false_iff_not] at *
    rw [hfin]
    first | (rw [if_pos (by omega)]; done) | (rw [if_neg (by omega), if_pos (by omega)]; done) | (rw [if_neg (by omega), if_neg (by omega), if_pos (by omega)]; done) | (rw [if_neg (by omega), if_neg (by omega), if_neg (by omega)]; done)
  refine At.region rfl rfl ?_
  refine Reg.pur rfl rfl rfl rfl (Pur.mv rfl) ?_
  refine Reg.pur rfl rfl rfl rfl (Pur.eql rfl rfl) ?_
  refine Reg.pur rfl rfl rfl rfl (Pur.mv rfl) ?_
  refine Reg.case 18 rfl (fun hc2 => ?_) (fun hc2 => ?_)
  · refine Reg.skip rfl rfl rfl rfl rfl rfl rfl ?_
    refine Reg.skip rfl rfl rfl rfl rfl rfl rfl ?_
    refine Reg.skip rfl rfl rfl rfl rfl rfl rfl ?_
    refine Reg.skip rfl rfl rfl rfl rfl rfl rfl ?_
    refine Reg.skip rfl rfl rfl rfl rfl rfl rfl ?_
    refine Reg.skip rfl rfl rfl rfl rfl rfl rfl ?_
    refine Reg.skip rfl rfl rfl rfl rfl rfl rfl ?_
    refine Reg.pur rfl rfl rfl rfl (Pur.pickT rfl rfl) ?_
    refine Reg.nil ?_
    refine At.condT rfl rfl rfl ?_
    refine At.region rfl rfl ?_
    refine Reg.pur rfl rfl rfl rfl (Pur.asg rfl) ?_
    refine Reg.nil ?_
    refine At.ret rfl Try.func86 rfl ?_
    refine ⟨congrArg I ?_, rfl⟩
    try simp only [decide_eq_true_eq, decide_eq_false_iff_not] at *
    rw [hfin]
    first | (rw [if_pos (by omega)]; done) | (rw [if_neg (by omega), if_pos (by omega)]; done) | (rw [if_neg (by omega), if_neg (by omega), if_pos (by omega)]; done) | (rw [if_neg (by omega), if_neg (by omega), if_neg (by omega)]; done)
  refine Reg.gpur rfl rfl rfl rfl rfl rfl (Pur.mv rfl) ?_
  refine Reg.gpur rfl rfl rfl rfl rfl rfl (Pur.nilc rfl) ?_
  refine Reg.gpur rfl rfl rfl rfl rfl rfl (Pur.fld _ fo47_3 rfl) ?_
  refine Reg.glod rfl rfl rfl rfl rfl rfl (Lod.ld sc3 rfl hb0 (hat 3 (by omega))) ?_
  refine Reg.gpur rfl rfl rfl rfl rfl rfl (Pur.mv rfl) ?_
  first | refine Reg.gpur rfl rfl rfl rfl rfl rfl (Pur.sub64 rfl rfl (by omega)) ?_ | refine Reg.gpur rfl rfl rfl rfl rfl rfl (Pur.sub64 rfl rfl (by assumption)) ?_ | refine Reg.gpur rfl rfl rfl rfl rfl rfl (Pur.sub rfl rfl) ?_
  refine Reg.gpur rfl rfl rfl rfl rfl rfl (Pur.neq rfl rfl) ?_
  refine Reg.pur rfl rfl rfl rfl (Pur.pickF rfl rfl) ?_
  refine Reg.nil ?_
  refine At.cond rfl rfl (fun hb3 => ?_) (fun hb3 => ?_)
  · refine At.region rfl rfl ?_
    refine Reg.pur rfl rfl rfl rfl (Pur.asg rfl) ?_
    refine Reg.nil ?_
    refine At.ret rfl Try.func86 rfl ?_
    refine ⟨congrArg I ?_, rfl⟩
    try simp only [decide_eq_true_eq, decide_eq_false_iff_not] at *
    rw [hfin]
    first | (rw [if_pos (by omega)]; done) | (rw [if_neg (by omega), if_pos (by omega)]; done) | (rw [if_neg (by omega), if_neg (by omega), if_pos (by omega)]; done) | (rw [if_neg (by omega), if_neg (by omega), if_neg (by omega)]; done)
  simp only [decide_eq_true_eq, decide_eq_false_iff_not] at *
  have hle := bgn_le L f (x.getD 3 0) (by omega)
  refine At.region rfl rfl ?_
  refine Reg.pur rfl rfl rfl rfl (Pur.mv rfl) ?_
  refine Reg.pur rfl rfl rfl rfl (Pur.mv rfl) ?_
  refine Reg.pur rfl rfl rfl rfl (Pur.nilc rfl) ?_
  refine Reg.pur rfl rfl rfl rfl (Pur.fld _ fo47_3 rfl) ?_
  refine Reg.lod rfl rfl rfl rfl (Lod.ld sc3 rfl hb0 (hat 3 (by omega))) ?_
  refine Reg.op rfl rfl rfl rfl (Does.call rfl (ihf (x.getD 3 0) (by omega) (by omega) (by omega))) ?_
  rintro _ H ⟨rfl, rfl⟩
  refine Reg.pur rfl rfl rfl rfl (Pur.asg rfl) ?_
  refine Reg.nil ?_
  refine At.region rfl rfl ?_
  refine Reg.pur rfl rfl rfl rfl (Pur.mv rfl) ?_
  refine Reg.pur rfl rfl rfl rfl (Pur.lss rfl rfl) ?_
  refine Reg.pur rfl rfl rfl rfl (Pur.mv rfl) ?_
  refine Reg.case 35 rfl (fun hc4 => ?_) (fun hc4 => ?_)
  · refine Reg.skip rfl rfl rfl rfl rfl rfl rfl ?_
    refine Reg.skip rfl rfl rfl rfl rfl rfl rfl ?_
    refine Reg.skip rfl rfl rfl rfl rfl rfl rfl ?_
    refine Reg.skip rfl rfl rfl rfl rfl rfl rfl ?_
    refine Reg.skip rfl rfl rfl rfl rfl rfl rfl ?_
    try simp only [decide_eq_false_iff_not] at hc4
    refine Reg.skip rfl rfl rfl rfl rfl rfl rfl ?_
    refine Reg.skip rfl rfl rfl rfl rfl rfl rfl ?_
    refine Reg.pur rfl rfl rfl rfl (Pur.pickT rfl rfl) ?_
    refine Reg.nil ?_
    refine At.condT rfl rfl rfl ?_
    refine At.region rfl rfl ?_
    refine Reg.pur rfl rfl rfl rfl (Pur.asg rfl) ?_
    refine Reg.nil ?_
    refine At.ret rfl Try.func86 rfl ?_
    refine ⟨congrArg I ?_, rfl⟩
    try simp only [decide_eq_true_eq, decide_eq_false_iff_not] at *
    rw [hfin]
    first | (rw [if_pos (by omega)]; done) | (rw [if_neg (by omega), if_pos (by omega)]; done) | (rw [if_neg (by omega), if_neg (by omega), if_pos (by omega)]; done) | (rw [if_neg (by omega), if_neg (by omega), if_neg (by omega)]; done)
  refine Reg.gpur rfl rfl rfl rfl rfl rfl (Pur.mv rfl) ?_
  refine Reg.gpur rfl rfl rfl rfl rfl rfl (Pur.nilc rfl) ?_
  refine Reg.gpur rfl rfl rfl rfl rfl rfl (Pur.fld _ fo47_2 rfl) ?_
  refine Reg.glod rfl rfl rfl rfl rfl rfl (Lod.ld sc3 rfl hb0 (hat 2 (by omega))) ?_
  refine Reg.gpur rfl rfl rfl rfl rfl rfl (Pur.mv rfl) ?_
  try simp only [decide_eq_false_iff_not] at hc4
  first | refine Reg.gpur rfl rfl rfl rfl rfl rfl (Pur.sub64 rfl rfl (by omega)) ?_ | refine Reg.gpur rfl rfl rfl rfl rfl rfl (Pur.sub64 rfl rfl (by assumption)) ?_ | refine Reg.gpur rfl rfl rfl rfl rfl rfl (Pur.sub rfl rfl) ?_
  refine Reg.gpur rfl rfl rfl rfl rfl rfl (Pur.neq rfl rfl) ?_
  refine Reg.pur rfl rfl rfl rfl (Pur.pickF rfl rfl) ?_
  refine Reg.nil ?_
  refine At.cond rfl rfl (fun hb5 => ?_) (fun hb5 => ?_)
  · refine At.region rfl rfl ?_
    refine Reg.pur rfl rfl rfl rfl (Pur.asg rfl) ?_
    refine Reg.nil ?_
    refine At.ret rfl Try.func86 rfl ?_
    refine ⟨congrArg I ?_, rfl⟩
    try simp only [decide_eq_true_eq, decide_eq_false_iff_not] at *
    rw [hfin]
    first | (rw [if_pos (by omega)]; done) | (rw [if_neg (by omega), if_pos (by omega)]; done) | (rw [if_neg (by omega), if_neg (by omega), if_pos (by omega)]; done) | (rw [if_neg (by omega), if_neg (by omega), if_neg (by omega)]; done)
  try simp only [decide_eq_true_eq, decide_eq_false_iff_not] at *
  refine At.region rfl rfl ?_
  refine Reg.pur rfl rfl rfl rfl (Pur.mv rfl) ?_
  refine Reg.pur rfl rfl rfl rfl (Pur.mv rfl) ?_
  refine Reg.pur rfl rfl rfl rfl (Pur.nilc rfl) ?_
  refine Reg.pur rfl rfl rfl rfl (Pur.fld _ fo47_2 rfl) ?_
  refine Reg.lod rfl rfl rfl rfl (Lod.ld sc3 rfl hb0 (hat 2 (by omega))) ?_
  refine Reg.op rfl rfl rfl rfl (Does.call rfl (ihf (x.getD 2 0) (by omega) (by omega) (by omega))) ?_
  rintro _ H ⟨rfl, rfl⟩
  refine Reg.pur rfl rfl rfl rfl (Pur.asg rfl) ?_
  refine Reg.nil ?_
  refine At.ret rfl Try.func86 rfl ?_
  refine ⟨congrArg I ?_, rfl⟩
  try simp only [decide_eq_true_eq, decide_eq_false_iff_not] at *
  rw [hfin]
  first | (rw [if_pos (by omega)]; done) | (rw [if_neg (by omega), if_pos (by omega)]; done) | (rw [if_neg (by omega), if_neg (by omega), if_pos (by omega)]; done) | (rw [if_neg (by omega), if_neg (by omega), if_neg (by omega)]; done)

end Go.Proofs.Ytlfillhffpiffaa

namespace Go.Proofs.Ytlfillhffpiffaa
set_option linter.unusedSimpArgs false
set_option linter.unusedVariables false
set_option maxRecDepth 8000
open Go Go.Fx Go.Proofs
namespace FactsTypD
theorem ag28 : ag Try.prog 28 = some 5 := by kernel_rfl
theorem ag47 : ag Try.prog 47 = some 9 := by kernel_rfl
theorem eqt47 : eqT Try.prog 47 = some [.int .i64, .int .i64, .int .i64, .int .i64, .int .i64, .int .i64, .int .i64, .int .i64, .int .i64] := by kernel_rfl
theorem es23 : esz Try.prog 23 = some 9 := by kernel_rfl
theorem fo25_0 : foff Try.prog 25 0 = some 0 := by kernel_rfl
theorem fo47_0 : foff Try.prog 47 0 = some 0 := by kernel_rfl
theorem fo47_1 : foff Try.prog 47 1 = some 1 := by kernel_rfl
theorem fo47_2 : foff Try.prog 47 2 = some 2 := by kernel_rfl
theorem fo47_3 : foff Try.prog 47 3 = some 3 := by kernel_rfl
theorem fo47_4 : foff Try.prog 47 4 = some 4 := by kernel_rfl
theorem isl23 : isSl Try.prog 23 = true := by kernel_rfl
theorem pl47 : places Try.prog 47 = some [(0, 1), (1, 1), (2, 1), (3, 1), (4, 5)] := by kernel_rfl
theorem sc23 : sc Try.prog 23 = true := by kernel_rfl
theorem sc3 : sc Try.prog 3 = true := by kernel_rfl
theorem zc47 : zc Try.prog 47 = some [.int .i64 0, .int .i64 0, .int .i64 0, .int .i64 0, .int .i64 0, .int .i64 0, .int .i64 0, .int .i64 0, .int .i64 0] := by kernel_rfl
end FactsTypD
open FactsTypD

theorem nodMay_ok9 {x : List Int} (hx : x.length = 9) (H : Heap) : Ret Try.prog 85 [.agg (Is x).toArray] H (fun r H' => r = .bool (nodM x) ∧ Ext H H') := by
  match x, hx with
  | [k, v, a, b, c, d, e, f, t], _ => exact nodMay_ok k v a b c d e f t H
def typM (L : List (List Int)) : Bool := decide (1 ≤ L.length ∧ L.length ≤ 256) && L.all nodM && decide (bgn L L.length ((L.length : Int) - 1) = 0)
abbrev Ty (A : Option Addr) (len cap : Nat) : Value := .agg #[.slice A len cap]

theorem typMay_ok {A : Option Addr} {cap : Nat} (L : List (List Int)) (hL : Nine L) {H : Heap} (hS : SlT H Is 9 (.slice A L.length cap) L) (hm : L.length ≤ 9223372036854775807) :
    Ret Try.prog 54 [Ty A L.length cap] H (fun v H' => v = .bool (typM L) ∧ Ext H H') := by
  refine Ret.of_at (N := 32) Try.call54 Try.func54 rfl rfl rfl ?_
  refine At.region rfl rfl ?_
  refine Reg.op rfl rfl rfl rfl (Does.box rfl rfl) ?_
  rintro _ H1 ⟨rfl, hn1⟩
  refine Reg.pur rfl rfl rfl rfl (Pur.asg rfl) ?_
  refine Reg.nil ?_
  have hB := hn1.own.blk
  have hS1 := hS.ext hn1.ext
  refine At.region rfl rfl ?_
  refine Reg.pur rfl rfl rfl rfl (Pur.fld _ fo25_0 rfl) ?_
  refine Reg.lod rfl rfl rfl rfl (Lod.ld sc23 rfl hB rfl) ?_
  refine Reg.pur rfl rfl rfl rfl (Pur.lenS isl23 rfl) ?_
  refine Reg.pur rfl rfl rfl rfl (Pur.asg rfl) ?_
  refine Reg.nil ?_
  refine At.region rfl rfl ?_
  refine Reg.pur rfl rfl rfl rfl (Pur.mv rfl) ?_
  refine Reg.pur rfl rfl rfl rfl (Pur.lss rfl rfl) ?_
  refine Reg.pur rfl rfl rfl rfl (Pur.mv rfl) ?_
  refine Reg.case 11 rfl (fun hc1 => ?_) (fun hc1 => ?_)
  · refine Reg.skip rfl rfl rfl rfl rfl rfl rfl ?_
    refine Reg.skip rfl rfl rfl rfl rfl rfl rfl ?_
    refine Reg.pur rfl rfl rfl rfl (Pur.pickT rfl rfl) ?_
    refine Reg.nil ?_
    refine At.condT rfl rfl rfl ?_
    refine At.region rfl rfl ?_
    refine Reg.pur rfl rfl rfl rfl (Pur.asg rfl) ?_
    refine Reg.nil ?_
    refine At.ret rfl Try.func54 rfl ?_
    first | exact ⟨congrArg Value.bool (by unfold typM; simp only [decide_eq_true_eq] at *; rw [decide_eq_false (by omega)]; rfl), hn1.ext⟩ | exact ⟨congrArg Value.bool (by unfold typM; rw [all_of_take hlt (by simpa using hb4)]; simp), hn1.ext.trans (hE.trans (hE4.trans hE5))⟩ | exact ⟨congrArg Value.bool (by simp only [decide_eq_false_iff_not] at *; rw [List.take_of_length_le (by omega)] at hgo; unfold typM; rw [hgo, decide_eq_true (p := 1 ≤ L.length ∧ L.length ≤ 256) (by omega)]; rfl), hn1.ext.trans hE⟩
  refine Reg.gpur rfl rfl rfl rfl rfl rfl (Pur.mv rfl) ?_
  refine Reg.gpur rfl rfl rfl rfl rfl rfl (Pur.gtr rfl rfl) ?_
  refine Reg.pur rfl rfl rfl rfl (Pur.pickF rfl rfl) ?_
  refine Reg.nil ?_
  refine At.cond rfl rfl (fun hb2 => ?_) (fun hb2 => ?_)
  · refine At.region rfl rfl ?_
    refine Reg.pur rfl rfl rfl rfl (Pur.asg rfl) ?_
    refine Reg.nil ?_
    refine At.ret rfl Try.func54 rfl ?_
    first | exact ⟨congrArg Value.bool (by unfold typM; simp only [decide_eq_true_eq] at *; rw [decide_eq_false (by omega)]; rfl), hn1.ext⟩ | exact ⟨congrArg Value.bool (by unfold typM; rw [all_of_take hlt (by simpa using hb4)]; simp), hn1.ext.trans (hE.trans (hE4.trans hE5))⟩ | exact ⟨congrArg Value.bool (by simp only [decide_eq_false_iff_not] at *; rw [List.take_of_length_le (by omega)] at hgo; unfold typM; rw [hgo, decide_eq_true (p := 1 ≤ L.length ∧ L.length ≤ 256) (by omega)]; rfl), hn1.ext.trans hE⟩
  refine At.region rfl rfl ?_
  refine Reg.pur rfl rfl rfl rfl (Pur.fld _ fo25_0 rfl) ?_
  refine Reg.lod rfl rfl rfl rfl (Lod.ld sc23 rfl hB rfl) ?_
  refine Reg.pur rfl rfl rfl rfl (Pur.lenS isl23 rfl) ?_
  refine Reg.pur rfl rfl rfl rfl (Pur.mv rfl) ?_
  refine Reg.nil ?_
  refine At.loop (σ := Nat) (fun i => [(18, I i), (17, I L.length), (16, .slice A L.length cap), (1, ptr H.size 0), (3, I L.length)]) (fun i H' => i ≤ L.length ∧ Ext H1 H' ∧ (L.take i).all nodM = true) (fun i => L.length - i) 0 rfl ⟨rfl, rfl, rfl, rfl, rfl, trivial⟩ ⟨by omega, Ext.refl _, rfl⟩ ?_
  rintro i H2 ⟨hi, hE, hgo⟩ ih
  refine At.region rfl rfl ?_
  refine Reg.pur rfl rfl rfl rfl (Pur.lss rfl rfl) ?_
  refine Reg.nil ?_
  refine At.cond rfl rfl (fun hb3 => ?_) (fun hb3 => ?_)
  · simp only [decide_eq_true_eq] at hb3
    have hlt : i < L.length := by omega
    obtain ⟨b, o, c, rfl, hB2, hd, h9⟩ := sl_at (wide9 hL) (hS1.ext hE) hlt
    have h9' := hL _ (List.getElem_mem hlt)
    refine At.region rfl rfl ?_
    refine Reg.pur rfl rfl rfl rfl (Pur.idx _ es23 rfl rfl (by omega) hb3) ?_
    refine Reg.lod rfl rfl rfl rfl (Lod.ldn ag47 rfl hB2 hd h9) ?_
    refine Reg.op rfl rfl rfl rfl (Does.alloc zc47) ?_
    rintro _ H3 ⟨rfl, hn3⟩
    refine Reg.op0 rfl rfl rfl (Does.stn ag47 rfl rfl (ones_Is _) h9 hn3.own (by decide)) ?_
    rintro _ H4 hu4
    refine Reg.nil ?_
    have hX : Own H4 H2.size (Is L[i]) := by have := hu4.own; rwa [over (by rfl)] at this
    have hE4 : Ext H2 H4 := hn3.ext.upd hu4 (Nat.le_refl _)
    refine At.region rfl rfl ?_
    refine Reg.lod rfl rfl rfl rfl (Lod.ldn ag47 rfl hX.blk (whole h9) h9) ?_
    refine Reg.op rfl rfl rfl rfl (Does.call rfl (nodMay_ok9 h9' _)) ?_
    rintro _ H5 ⟨rfl, hE5⟩
    refine Reg.pur rfl rfl rfl rfl (Pur.not rfl) ?_
    refine Reg.nil ?_
    refine At.cond rfl rfl (fun hb4 => ?_) (fun hb4 => ?_)
    · refine At.region rfl rfl ?_
      refine Reg.pur rfl rfl rfl rfl (Pur.asg rfl) ?_
      refine Reg.nil ?_
      refine At.ret rfl Try.func54 rfl ?_
      first | exact ⟨congrArg Value.bool (by unfold typM; simp only [decide_eq_true_eq] at *; rw [decide_eq_false (by omega)]; rfl), hn1.ext⟩ | exact ⟨congrArg Value.bool (by unfold typM; rw [all_of_take hlt (by simpa using hb4)]; simp), hn1.ext.trans (hE.trans (hE4.trans hE5))⟩ | exact ⟨congrArg Value.bool (by simp only [decide_eq_false_iff_not] at *; rw [List.take_of_length_le (by omega)] at hgo; unfold typM; rw [hgo, decide_eq_true (p := 1 ≤ L.length ∧ L.length ≤ 256) (by omega)]; rfl), hn1.ext.trans hE⟩
    refine At.region rfl rfl ?_
    first | refine Reg.pur rfl rfl rfl rfl (Pur.add64 rfl rfl (by omega)) ?_ | refine Reg.pur rfl rfl rfl rfl (Pur.add64 rfl rfl (by assumption)) ?_ | refine Reg.pur rfl rfl rfl rfl (Pur.add rfl rfl) ?_
    refine Reg.pur rfl rfl rfl rfl (Pur.mv rfl) ?_
    refine Reg.nil ?_
    refine At.via (ih (i + 1) H5 ⟨by omega, hE.trans (hE4.trans hE5), ?_⟩ (by omega)) ⟨rfl, rfl, rfl, rfl, rfl, trivial⟩
    rw [all_take hlt, hgo]; simpa using hb4
  have hlen : 1 ≤ L.length ∧ L.length ≤ 256 := by simp only [decide_eq_false_iff_not] at *; omega
  refine At.region rfl rfl ?_
  refine Reg.pur rfl rfl rfl rfl (Pur.fld _ fo25_0 rfl) ?_
  refine Reg.lod rfl rfl rfl rfl (Lod.ld sc23 rfl (hB.ext hE) rfl) ?_
  refine Reg.pur rfl rfl rfl rfl (Pur.mv rfl) ?_
  first | refine Reg.pur rfl rfl rfl rfl (Pur.sub64 rfl rfl (by omega)) ?_ | refine Reg.pur rfl rfl rfl rfl (Pur.sub64 rfl rfl (by assumption)) ?_ | refine Reg.pur rfl rfl rfl rfl (Pur.sub rfl rfl) ?_
  refine Reg.op rfl rfl rfl rfl (Does.call rfl (begin_ok L hL (hS1.ext hE) hm L.length _ (by omega) (by omega) (by omega))) ?_
  rintro _ H2 ⟨rfl, rfl⟩
  refine Reg.pur rfl rfl rfl rfl (Pur.eql rfl rfl) ?_
  refine Reg.pur rfl rfl rfl rfl (Pur.asg rfl) ?_
  refine Reg.nil ?_
  refine At.ret rfl Try.func54 rfl ?_
  first | exact ⟨congrArg Value.bool (by unfold typM; simp only [decide_eq_true_eq] at *; rw [decide_eq_false (by omega)]; rfl), hn1.ext⟩ | exact ⟨congrArg Value.bool (by unfold typM; rw [all_of_take hlt (by simpa using hb4)]; simp), hn1.ext.trans (hE.trans (hE4.trans hE5))⟩ | exact ⟨congrArg Value.bool (by simp only [decide_eq_false_iff_not] at *; rw [List.take_of_length_le (by omega)] at hgo; unfold typM; rw [hgo, decide_eq_true (p := 1 ≤ L.length ∧ L.length ≤ 256) (by omega)]; rfl), hn1.ext.trans hE⟩

end Go.Proofs.Ytlfillhffpiffaa

namespace Go.Proofs.Ytlfillhffpiffaa
set_option linter.unusedSimpArgs false
set_option linter.unusedVariables false
set_option maxRecDepth 8000
open Go Go.Fx Go.Proofs
namespace FactsSubA
theorem ag25 : ag Try.prog 25 = some 1 := by kernel_rfl
theorem ag28 : ag Try.prog 28 = some 5 := by kernel_rfl
theorem eqt28 : eqT Try.prog 28 = some [.int .i64, .int .i64, .int .i64, .int .i64, .int .i64] := by kernel_rfl
theorem fo25_0 : foff Try.prog 25 0 = some 0 := by kernel_rfl
theorem fo49_0 : foff Try.prog 49 0 = some 0 := by kernel_rfl
theorem fo49_1 : foff Try.prog 49 1 = some 1 := by kernel_rfl
theorem fo49_2 : foff Try.prog 49 2 = some 2 := by kernel_rfl
theorem fo49_3 : foff Try.prog 49 3 = some 3 := by kernel_rfl
theorem isl23 : isSl Try.prog 23 = true := by kernel_rfl
theorem pl28 : places Try.prog 28 = some [(0, 4), (4, 1)] := by kernel_rfl
theorem sc23 : sc Try.prog 23 = true := by kernel_rfl
theorem sc3 : sc Try.prog 3 = true := by kernel_rfl
theorem sc4 : sc Try.prog 4 = true := by kernel_rfl
theorem zc28 : zc Try.prog 28 = some [.int .i64 0, .int .i64 0, .int .i64 0, .int .i64 0, .int .i64 0] := by kernel_rfl
end FactsSubA
open FactsSubA

structure Bd where
  var : Int
  isRow : Bool
  A : Option Addr
  cap : Nat
  nodes : List (List Int)
  row : List Int
abbrev Bd.sl (b : Bd) : Value := .slice b.A b.nodes.length b.cap
abbrev encB (b : Bd) : List Value := I b.var :: .bool b.isRow :: b.sl :: Is b.row
structure Bd.Ok (H : Heap) (b : Bd) : Prop where
  sl : SlT H Is 9 b.sl b.nodes
  nine : Nine b.nodes
  row : b.row.length = 5
  fits : b.nodes.length * 72 ≤ 140737488351232
theorem Bd.Ok.ext {H H' : Heap} {b : Bd} (h : b.Ok H) (he : Ext H H') : b.Ok H' := ⟨h.sl.ext he, h.nine, h.row, h.fits⟩
theorem Bd.Ok.len {H : Heap} {b : Bd} (h : b.Ok H) : (encB b).length = 8 := by simp [h.row]
theorem Bd.Ok.max {H : Heap} {b : Bd} (h : b.Ok H) : b.nodes.length ≤ 9223372036854775807 := by have := h.fits; omega
abbrev noRow : List Int := [0, 0, 0, 0, 0]
def bindM (b : Bd) : Bool := decide (0 ≤ b.var ∧ b.var < 4096) && if b.isRow then decide (b.nodes.length = 0) && rowM b.row else decide (b.row = noRow) && typM b.nodes
theorem ones_encB (b : Bd) : ones (encB b) = true := by simp [ones, Value.oneCell']

theorem not_ok (b : Bd) {H : Heap} (hb : b.Ok H) : Ret Try.prog 84 [.agg (encB b).toArray] H (fun v H' => v = .bool (!bindM b) ∧ Ext H H') := by
  obtain ⟨var, isRow, A, cap, nodes, row⟩ := b
  have hrl := hb.row
  have hsl := hb.sl
  have hnn := hb.nine
  have hmm := hb.max
  dsimp only [Bd.sl] at hrl hsl hnn hmm
  have hf := fks_ints .i64 row
  rw [hrl] at hf
  refine Ret.of_at (N := 34) Try.call84 Try.func84 rfl rfl rfl ?_
  refine At.region rfl rfl ?_
  refine Reg.op rfl rfl rfl rfl (Does.box rfl rfl) ?_
  rintro _ H1 ⟨rfl, hn1⟩
  refine Reg.pur rfl rfl rfl rfl (Pur.asg rfl) ?_
  refine Reg.nil ?_
  have hB := hn1.own.blk
  refine At.region rfl rfl ?_
  refine Reg.pur rfl rfl rfl rfl (Pur.fld _ fo49_0 rfl) ?_
  refine Reg.lod rfl rfl rfl rfl (Lod.ld sc3 rfl hB rfl) ?_
  refine Reg.pur rfl rfl rfl rfl (Pur.lss rfl rfl) ?_
  refine Reg.pur rfl rfl rfl rfl (Pur.mv rfl) ?_
  refine Reg.case 6 rfl (fun hc1 => ?_) (fun hc1 => ?_)
  · refine Reg.skip rfl rfl rfl rfl rfl rfl rfl ?_
    refine Reg.skip rfl rfl rfl rfl rfl rfl rfl ?_
    refine Reg.skip rfl rfl rfl rfl rfl rfl rfl ?_
    refine Reg.pur rfl rfl rfl rfl (Pur.pickT rfl rfl) ?_
    refine Reg.nil ?_
    refine At.condT rfl rfl rfl ?_
    refine At.region rfl rfl ?_
    refine Reg.pur rfl rfl rfl rfl (Pur.asg rfl) ?_
    refine Reg.nil ?_
    refine At.ret rfl Try.func84 rfl ?_
    refine ⟨congrArg Value.bool ?_, by first | exact hn1.ext.trans hE2 | exact hn1.ext⟩
    unfold bindM
    try change (!eqs (Is row) (Is noRow)) = _ at hc5
    have hq := eqs_ints .i64 row noRow
    try simp only [decide_eq_true_eq, decide_eq_false_iff_not] at hc1
    try simp only [decide_eq_true_eq, decide_eq_false_iff_not] at hb2
    try simp only [decide_eq_true_eq, decide_eq_false_iff_not] at hc4
    try dsimp only at hb3
    dsimp only
    first | (rw [decide_eq_false (p := 0 ≤ var ∧ var < 4096) (by omega)]; rfl) | (rw [decide_eq_true (p := 0 ≤ var ∧ var < 4096) (by omega), if_pos hb3, decide_eq_false (p := nodes.length = 0) (by omega)]; rfl) | (rw [decide_eq_true (p := 0 ≤ var ∧ var < 4096) (by omega), if_pos hb3, decide_eq_true (p := nodes.length = 0) (by omega)]; rfl) | (rw [decide_eq_true (p := 0 ≤ var ∧ var < 4096) (by omega), if_neg (by rw [hb3]; decide), ← hq]; generalize eqs (Is row) (Is noRow) = q at *; cases q <;> simp_all; done)
  refine Reg.gpur rfl rfl rfl rfl rfl rfl (Pur.fld _ fo49_0 rfl) ?_
  refine Reg.glod rfl rfl rfl rfl rfl rfl (Lod.ld sc3 rfl hB rfl) ?_
  refine Reg.gpur rfl rfl rfl rfl rfl rfl (Pur.geq rfl rfl) ?_
  refine Reg.pur rfl rfl rfl rfl (Pur.pickF rfl rfl) ?_
  refine Reg.nil ?_
  refine At.cond rfl rfl (fun hb2 => ?_) (fun hb2 => ?_)
  · refine At.region rfl rfl ?_
    refine Reg.pur rfl rfl rfl rfl (Pur.asg rfl) ?_
    refine Reg.nil ?_
    refine At.ret rfl Try.func84 rfl ?_
    refine ⟨congrArg Value.bool ?_, by first | exact hn1.ext.trans hE2 | exact hn1.ext⟩
    unfold bindM
    try change (!eqs (Is row) (Is noRow)) = _ at hc5
    have hq := eqs_ints .i64 row noRow
    try simp only [decide_eq_true_eq, decide_eq_false_iff_not] at hc1
    try simp only [decide_eq_true_eq, decide_eq_false_iff_not] at hb2
    try simp only [decide_eq_true_eq, decide_eq_false_iff_not] at hc4
    try dsimp only at hb3
    dsimp only
    first | (rw [decide_eq_false (p := 0 ≤ var ∧ var < 4096) (by omega)]; rfl) | (rw [decide_eq_true (p := 0 ≤ var ∧ var < 4096) (by omega), if_pos hb3, decide_eq_false (p := nodes.length = 0) (by omega)]; rfl) | (rw [decide_eq_true (p := 0 ≤ var ∧ var < 4096) (by omega), if_pos hb3, decide_eq_true (p := nodes.length = 0) (by omega)]; rfl) | (rw [decide_eq_true (p := 0 ≤ var ∧ var < 4096) (by omega), if_neg (by rw [hb3]; decide), ← hq]; generalize eqs (Is row) (Is noRow) = q at *; cases q <;> simp_all; done)
  refine At.region rfl rfl ?_
  refine Reg.pur rfl rfl rfl rfl (Pur.fld _ fo49_1 rfl) ?_
  refine Reg.lod rfl rfl rfl rfl (Lod.ld sc4 rfl hB rfl) ?_
  refine Reg.nil ?_
  refine At.cond rfl rfl (fun hb3 => ?_) (fun hb3 => ?_)
  · refine At.region rfl rfl ?_
    refine Reg.pur rfl rfl rfl rfl (Pur.fld _ fo49_2 rfl) ?_
    refine Reg.pur rfl rfl rfl rfl (Pur.fld _ fo25_0 rfl) ?_
    refine Reg.lod rfl rfl rfl rfl (Lod.ld sc23 rfl hB rfl) ?_
    refine Reg.pur rfl rfl rfl rfl (Pur.lenS isl23 rfl) ?_
    refine Reg.pur rfl rfl rfl rfl (Pur.gtr rfl rfl) ?_
    refine Reg.pur rfl rfl rfl rfl (Pur.mv rfl) ?_
    refine Reg.case 18 rfl (fun hc4 => ?_) (fun hc4 => ?_)
    · refine Reg.skip rfl rfl rfl rfl rfl rfl rfl ?_
      refine Reg.skip rfl rfl rfl rfl rfl rfl rfl ?_
      refine Reg.skip rfl rfl rfl rfl rfl rfl rfl ?_
      refine Reg.skip rfl rfl rfl rfl rfl rfl rfl ?_
      refine Reg.pur rfl rfl rfl rfl (Pur.pickT rfl rfl) ?_
      refine Reg.pur rfl rfl rfl rfl (Pur.asg rfl) ?_
      refine Reg.nil ?_
      refine At.ret rfl Try.func84 rfl ?_
      refine ⟨congrArg Value.bool ?_, by first | exact hn1.ext.trans hE2 | exact hn1.ext⟩
      unfold bindM
      try change (!eqs (Is row) (Is noRow)) = _ at hc5
      have hq := eqs_ints .i64 row noRow
      try simp only [decide_eq_true_eq, decide_eq_false_iff_not] at hc1
      try simp only [decide_eq_true_eq, decide_eq_false_iff_not] at hb2
      try simp only [decide_eq_true_eq, decide_eq_false_iff_not] at hc4
      try dsimp only at hb3
      dsimp only
      first | (rw [decide_eq_false (p := 0 ≤ var ∧ var < 4096) (by omega)]; rfl) | (rw [decide_eq_true (p := 0 ≤ var ∧ var < 4096) (by omega), if_pos hb3, decide_eq_false (p := nodes.length = 0) (by omega)]; rfl) | (rw [decide_eq_true (p := 0 ≤ var ∧ var < 4096) (by omega), if_pos hb3, decide_eq_true (p := nodes.length = 0) (by omega)]; rfl) | (rw [decide_eq_true (p := 0 ≤ var ∧ var < 4096) (by omega), if_neg (by rw [hb3]; decide), ← hq]; generalize eqs (Is row) (Is noRow) = q at *; cases q <;> simp_all; done)
    refine Reg.gpur rfl rfl rfl rfl rfl rfl (Pur.fld _ fo49_3 rfl) ?_
    refine Reg.glod rfl rfl rfl rfl rfl rfl (Lod.ldn ag28 rfl hB (show (Is row).take 5 = Is row from List.take_of_length_le (by simp [hrl])) (by simp [hrl])) ?_
    refine Reg.gop rfl rfl rfl rfl rfl rfl (Does.call rfl (rowMay_ok row hrl _)) ?_
    rintro _ H2 ⟨rfl, hE2⟩
    refine Reg.gpur rfl rfl rfl rfl rfl rfl (Pur.not rfl) ?_
    refine Reg.pur rfl rfl rfl rfl (Pur.pickF rfl rfl) ?_
    refine Reg.pur rfl rfl rfl rfl (Pur.asg rfl) ?_
    refine Reg.nil ?_
    refine At.ret rfl Try.func84 rfl ?_
    refine ⟨congrArg Value.bool ?_, by first | exact hn1.ext.trans hE2 | exact hn1.ext⟩
    unfold bindM
    try change (!eqs (Is row) (Is noRow)) = _ at hc5
    have hq := eqs_ints .i64 row noRow
    try simp only [decide_eq_true_eq, decide_eq_false_iff_not] at hc1
    try simp only [decide_eq_true_eq, decide_eq_false_iff_not] at hb2
    try simp only [decide_eq_true_eq, decide_eq_false_iff_not] at hc4
    try dsimp only at hb3
    dsimp only
    first | (rw [decide_eq_false (p := 0 ≤ var ∧ var < 4096) (by omega)]; rfl) | (rw [decide_eq_true (p := 0 ≤ var ∧ var < 4096) (by omega), if_pos hb3, decide_eq_false (p := nodes.length = 0) (by omega)]; rfl) | (rw [decide_eq_true (p := 0 ≤ var ∧ var < 4096) (by omega), if_pos hb3, decide_eq_true (p := nodes.length = 0) (by omega)]; rfl) | (rw [decide_eq_true (p := 0 ≤ var ∧ var < 4096) (by omega), if_neg (by rw [hb3]; decide), ← hq]; generalize eqs (Is row) (Is noRow) = q at *; cases q <;> simp_all; done)
  refine At.region rfl rfl ?_
  refine Reg.pur rfl rfl rfl rfl (Pur.fld _ fo49_3 rfl) ?_
  refine Reg.lod rfl rfl rfl rfl (Lod.ldn ag28 rfl hB (show (Is row).take 5 = Is row from List.take_of_length_le (by simp [hrl])) (by simp [hrl])) ?_
  refine Reg.pur rfl rfl rfl rfl (Pur.bld (cs := [_, _, _, _, _]) pl28 zc28 rfl rfl ⟨rfl, rfl, rfl, rfl, rfl, rfl⟩) ?_
  refine Reg.pur rfl rfl rfl rfl (Pur.neA eqt28 rfl rfl hf (fks_ints .i64 noRow)) ?_
  refine Reg.pur rfl rfl rfl rfl (Pur.mv rfl) ?_
  refine Reg.case 28 rfl (fun hc5 => ?_) (fun hc5 => ?_)
  · refine Reg.skip rfl rfl rfl rfl rfl rfl rfl ?_
    refine Reg.skip rfl rfl rfl rfl rfl rfl rfl ?_
    refine Reg.skip rfl rfl rfl rfl rfl rfl rfl ?_
    refine Reg.skip rfl rfl rfl rfl rfl rfl rfl ?_
    refine Reg.pur rfl rfl rfl rfl (Pur.pickT rfl rfl) ?_
    refine Reg.pur rfl rfl rfl rfl (Pur.asg rfl) ?_
    refine Reg.nil ?_
    refine At.ret rfl Try.func84 rfl ?_
    refine ⟨congrArg Value.bool ?_, by first | exact hn1.ext.trans hE2 | exact hn1.ext⟩
    unfold bindM
    try change (!eqs (Is row) (Is noRow)) = _ at hc5
    have hq := eqs_ints .i64 row noRow
    try simp only [decide_eq_true_eq, decide_eq_false_iff_not] at hc1
    try simp only [decide_eq_true_eq, decide_eq_false_iff_not] at hb2
    try simp only [decide_eq_true_eq, decide_eq_false_iff_not] at hc4
    try dsimp only at hb3
    dsimp only
    first | (rw [decide_eq_false (p := 0 ≤ var ∧ var < 4096) (by omega)]; rfl) | (rw [decide_eq_true (p := 0 ≤ var ∧ var < 4096) (by omega), if_pos hb3, decide_eq_false (p := nodes.length = 0) (by omega)]; rfl) | (rw [decide_eq_true (p := 0 ≤ var ∧ var < 4096) (by omega), if_pos hb3, decide_eq_true (p := nodes.length = 0) (by omega)]; rfl) | (rw [decide_eq_true (p := 0 ≤ var ∧ var < 4096) (by omega), if_neg (by rw [hb3]; decide), ← hq]; generalize eqs (Is row) (Is noRow) = q at *; cases q <;> simp_all; done)
  refine Reg.gpur rfl rfl rfl rfl rfl rfl (Pur.fld _ fo49_2 rfl) ?_
  refine Reg.glod rfl rfl rfl rfl rfl rfl (Lod.ldn ag25 rfl hB (show _ = [Value.slice A nodes.length cap] from rfl) rfl) ?_
  refine Reg.gop rfl rfl rfl rfl rfl rfl (Does.call rfl (typMay_ok nodes hnn (hsl.ext hn1.ext) hmm)) ?_
  rintro _ H2 ⟨rfl, hE2⟩
  refine Reg.gpur rfl rfl rfl rfl rfl rfl (Pur.not rfl) ?_
  refine Reg.pur rfl rfl rfl rfl (Pur.pickF rfl rfl) ?_
  refine Reg.pur rfl rfl rfl rfl (Pur.asg rfl) ?_
  refine Reg.nil ?_
  refine At.ret rfl Try.func84 rfl ?_
  refine ⟨congrArg Value.bool ?_, by first | exact hn1.ext.trans hE2 | exact hn1.ext⟩
  unfold bindM
  try change (!eqs (Is row) (Is noRow)) = _ at hc5
  have hq := eqs_ints .i64 row noRow
  try simp only [decide_eq_true_eq, decide_eq_false_iff_not] at hc1
  try simp only [decide_eq_true_eq, decide_eq_false_iff_not] at hb2
  try simp only [decide_eq_true_eq, decide_eq_false_iff_not] at hc4
  try dsimp only at hb3
  dsimp only
  first | (rw [decide_eq_false (p := 0 ≤ var ∧ var < 4096) (by omega)]; rfl) | (rw [decide_eq_true (p := 0 ≤ var ∧ var < 4096) (by omega), if_pos hb3, decide_eq_false (p := nodes.length = 0) (by omega)]; rfl) | (rw [decide_eq_true (p := 0 ≤ var ∧ var < 4096) (by omega), if_pos hb3, decide_eq_true (p := nodes.length = 0) (by omega)]; rfl) | (rw [decide_eq_true (p := 0 ≤ var ∧ var < 4096) (by omega), if_neg (by rw [hb3]; decide), ← hq]; generalize eqs (Is row) (Is noRow) = q at *; cases q <;> simp_all; done)
end Go.Proofs.Ytlfillhffpiffaa

namespace Go.Proofs.Ytlfillhffpiffaa
set_option linter.unusedSimpArgs false
set_option linter.unusedVariables false
set_option maxRecDepth 8000
open Go Go.Fx Go.Proofs
namespace FactsSubB
theorem ag25 : ag Try.prog 25 = some 1 := by kernel_rfl
theorem ag28 : ag Try.prog 28 = some 5 := by kernel_rfl
theorem ag49 : ag Try.prog 49 = some 8 := by kernel_rfl
theorem eqt28 : eqT Try.prog 28 = some [.int .i64, .int .i64, .int .i64, .int .i64, .int .i64] := by kernel_rfl
theorem es22 : esz Try.prog 22 = some 8 := by kernel_rfl
theorem fo25_0 : foff Try.prog 25 0 = some 0 := by kernel_rfl
theorem fo49_0 : foff Try.prog 49 0 = some 0 := by kernel_rfl
theorem fo49_1 : foff Try.prog 49 1 = some 1 := by kernel_rfl
theorem fo49_2 : foff Try.prog 49 2 = some 2 := by kernel_rfl
theorem fo49_3 : foff Try.prog 49 3 = some 3 := by kernel_rfl
theorem isl22 : isSl Try.prog 22 = true := by kernel_rfl
theorem isl23 : isSl Try.prog 23 = true := by kernel_rfl
theorem pl28 : places Try.prog 28 = some [(0, 4), (4, 1)] := by kernel_rfl
theorem sc23 : sc Try.prog 23 = true := by kernel_rfl
theorem sc3 : sc Try.prog 3 = true := by kernel_rfl
theorem sc4 : sc Try.prog 4 = true := by kernel_rfl
theorem zc28 : zc Try.prog 28 = some [.int .i64 0, .int .i64 0, .int .i64 0, .int .i64 0, .int .i64 0] := by kernel_rfl
theorem zc49 : zc Try.prog 49 = some [.int .i64 0, .bool false, .slice none 0 0, .int .i64 0, .int .i64 0, .int .i64 0, .int .i64 0, .int .i64 0] := by kernel_rfl
end FactsSubB
open FactsSubB

structure Bds (H : Heap) (v : Value) (L : List Bd) : Prop where
  sl : SlT H encB 8 v L
  ok : ∀ b ∈ L, b.Ok H
  fits : L.length * 80 ≤ 140737488351232
theorem Bds.ext {H H' : Heap} {v : Value} {L : List Bd} (h : Bds H v L) (he : Ext H H') : Bds H' v L := ⟨h.sl.ext he, fun b hb => (h.ok b hb).ext he, h.fits⟩
theorem Bds.wide {H : Heap} {v : Value} {L : List Bd} (h : Bds H v L) : Wide encB 8 L := fun b hb => (h.ok b hb).len
theorem Bds.max {H : Heap} {v : Value} {L : List Bd} (h : Bds H v L) : L.length ≤ 9223372036854775807 := by have := h.fits; omega
theorem Bds.at {H : Heap} {A : Option Addr} {cap : Nat} {L : List Bd} (h : Bds H (.slice A L.length cap) L) {i : Nat} (hi : i < L.length) :
    ∃ b o c, A = some ⟨b, o, none⟩ ∧ Blk H b c ∧ (c.drop (o + i * 8)).take 8 = encB L[i] ∧ L[i].Ok H := by
  obtain ⟨b, o, c, h1, h2, h3, _⟩ := sl_at h.wide h.sl hi
  exact ⟨b, o, c, h1, h2, h3, h.ok _ (List.getElem_mem hi)⟩
theorem Bds.lt {H : Heap} {b o cap : Nat} {L : List Bd} (h : Bds H (.slice (some ⟨b, o, none⟩) L.length cap) L) (h0 : 0 < L.length) : b < H.size := by
  obtain ⟨b', o', c, e, h2, _⟩ := h.at h0
  cases e; exact h2.lt
def bindsM (L : List Bd) : Bool := decide (L.length ≤ 4096) && L.all bindM

theorem indexFuncB_ok {A : Option Addr} {cap : Nat} {L : List Bd} {H : Heap} (hS : Bds H (.slice A L.length cap) L) :
    Ret Try.prog 119 [.slice A L.length cap, .func (.func 84) #[] #[]] H (fun v H' => (∃ r, v = I r ∧ decide (0 ≤ r) = !L.all bindM) ∧ Ext H H') := by
  have hm := hS.max
  refine Ret.of_at (N := 19) Try.call119 Try.func119 rfl rfl rfl ?_
  refine At.region rfl rfl ?_
  refine Reg.pur rfl rfl rfl rfl (Pur.asg rfl) ?_
  refine Reg.nil ?_
  refine At.region rfl rfl ?_
  refine Reg.pur rfl rfl rfl rfl (Pur.mv rfl) ?_
  refine Reg.pur rfl rfl rfl rfl (Pur.lenS isl22 rfl) ?_
  refine Reg.pur rfl rfl rfl rfl (Pur.mv rfl) ?_
  refine Reg.nil ?_
  refine At.loop (σ := Nat) (fun i => [(8, I i), (7, I L.length), (0, .slice A L.length cap), (1, .func (.func 84) #[] #[])]) (fun i H' => i ≤ L.length ∧ Ext H H' ∧ (L.take i).all bindM = true) (fun i => L.length - i) 0 rfl ⟨rfl, rfl, rfl, rfl, trivial⟩ ⟨by omega, Ext.refl _, rfl⟩ ?_
  rintro i H1 ⟨hi, hE, hgo⟩ ih
  refine At.region rfl rfl ?_
  refine Reg.pur rfl rfl rfl rfl (Pur.lss rfl rfl) ?_
  refine Reg.nil ?_
  refine At.cond rfl rfl (fun hb1 => ?_) (fun hb1 => ?_)
  · refine At.region rfl rfl ?_
    refine Reg.pur rfl rfl rfl rfl (Pur.mv rfl) ?_
    refine Reg.pur rfl rfl rfl rfl (Pur.asg rfl) ?_
    refine Reg.nil ?_
    simp only [decide_eq_true_eq] at hb1
    have hlt : i < L.length := by omega
    obtain ⟨b, o, c, rfl, hB, hd, hok⟩ := (hS.ext hE).at hlt
    refine At.region rfl rfl ?_
    refine Reg.pur rfl rfl rfl rfl (Pur.mv rfl) ?_
    refine Reg.pur rfl rfl rfl rfl (Pur.mv rfl) ?_
    refine Reg.pur rfl rfl rfl rfl (Pur.mv rfl) ?_
    refine Reg.pur rfl rfl rfl rfl (Pur.idx _ es22 rfl rfl (by omega) hb1) ?_
    refine Reg.lod rfl rfl rfl rfl (Lod.ldn ag49 rfl hB hd hok.len) ?_
    refine Reg.op rfl rfl rfl rfl (Does.callv rfl rfl (not_ok L[i] hok)) ?_
    rintro _ H2 ⟨rfl, hE2⟩
    refine Reg.nil ?_
    refine At.cond rfl rfl (fun hb2 => ?_) (fun hb2 => ?_)
    · refine At.region rfl rfl ?_
      refine Reg.pur rfl rfl rfl rfl (Pur.mv rfl) ?_
      refine Reg.pur rfl rfl rfl rfl (Pur.asg rfl) ?_
      refine Reg.nil ?_
      refine At.ret rfl Try.func119 rfl ?_
      first | exact ⟨⟨_, rfl, by rw [all_of_take hlt (by simpa using hb2)]; simp⟩, hE.trans hE2⟩ | exact ⟨⟨_, rfl, by simp only [decide_eq_false_iff_not] at *; rw [List.take_of_length_le (by omega)] at hgo; rw [hgo]; rfl⟩, hE⟩
    refine At.region rfl rfl ?_
    first | refine Reg.pur rfl rfl rfl rfl (Pur.add64 rfl rfl (by omega)) ?_ | refine Reg.pur rfl rfl rfl rfl (Pur.add64 rfl rfl (by assumption)) ?_ | refine Reg.pur rfl rfl rfl rfl (Pur.add rfl rfl) ?_
    refine Reg.pur rfl rfl rfl rfl (Pur.mv rfl) ?_
    refine Reg.nil ?_
    refine At.via (ih (i + 1) H2 ⟨by omega, hE.trans hE2, ?_⟩ (by omega)) ⟨rfl, rfl, rfl, rfl, trivial⟩
    rw [all_take hlt, hgo]; simpa using hb2
  refine At.region rfl rfl ?_
  refine Reg.pur rfl rfl rfl rfl (Pur.asg rfl) ?_
  refine Reg.nil ?_
  refine At.ret rfl Try.func119 rfl ?_
  first | exact ⟨⟨_, rfl, by rw [all_of_take hlt (by simpa using hb2)]; simp⟩, hE.trans hE2⟩ | exact ⟨⟨_, rfl, by simp only [decide_eq_false_iff_not] at *; rw [List.take_of_length_le (by omega)] at hgo; rw [hgo]; rfl⟩, hE⟩

theorem containsFuncB_ok {A : Option Addr} {cap : Nat} {L : List Bd} {H : Heap} (hS : Bds H (.slice A L.length cap) L) :
    Ret Try.prog 83 [.slice A L.length cap, .func (.func 84) #[] #[]] H (fun v H' => v = .bool (!L.all bindM) ∧ Ext H H') := by
  refine Ret.of_at (N := 9) Try.call83 Try.func83 rfl rfl rfl ?_
  refine At.region rfl rfl ?_
  refine Reg.pur rfl rfl rfl rfl (Pur.asg rfl) ?_
  refine Reg.nil ?_
  refine At.region rfl rfl ?_
  refine Reg.pur rfl rfl rfl rfl (Pur.mv rfl) ?_
  refine Reg.pur rfl rfl rfl rfl (Pur.mv rfl) ?_
  refine Reg.op rfl rfl rfl rfl (Does.call rfl (indexFuncB_ok hS)) ?_
  rintro _ H1 ⟨⟨r, rfl, hr⟩, hE⟩
  refine Reg.pur rfl rfl rfl rfl (Pur.geq rfl rfl) ?_
  refine Reg.pur rfl rfl rfl rfl (Pur.asg rfl) ?_
  refine Reg.nil ?_
  refine At.ret rfl Try.func83 rfl ?_
  exact ⟨congrArg Value.bool hr, hE⟩

theorem bindsMay_ok {A : Option Addr} {cap : Nat} {L : List Bd} {H : Heap} (hS : Bds H (.slice A L.length cap) L) :
    Ret Try.prog 53 [.slice A L.length cap] H (fun v H' => v = .bool (bindsM L) ∧ Ext H H') := by
  refine Ret.of_at (N := 11) Try.call53 Try.func53 rfl rfl rfl ?_
  refine At.region rfl rfl ?_
  refine Reg.pur rfl rfl rfl rfl (Pur.asg rfl) ?_
  refine Reg.nil ?_
  refine At.region rfl rfl ?_
  refine Reg.pur rfl rfl rfl rfl (Pur.mv rfl) ?_
  refine Reg.pur rfl rfl rfl rfl (Pur.lenS isl22 rfl) ?_
  refine Reg.pur rfl rfl rfl rfl (Pur.leq rfl rfl) ?_
  refine Reg.pur rfl rfl rfl rfl (Pur.mv rfl) ?_
  refine Reg.case 6 rfl (fun hc1 => ?_) (fun hc1 => ?_)
  · refine Reg.gpur rfl rfl rfl rfl rfl rfl (Pur.mv rfl) ?_
    refine Reg.gop rfl rfl rfl rfl rfl rfl (Does.call rfl (containsFuncB_ok hS)) ?_
    rintro _ H1 ⟨rfl, hE⟩
    refine Reg.gpur rfl rfl rfl rfl rfl rfl (Pur.not rfl) ?_
    refine Reg.pur rfl rfl rfl rfl (Pur.pickT rfl rfl) ?_
    refine Reg.pur rfl rfl rfl rfl (Pur.asg rfl) ?_
    refine Reg.nil ?_
    refine At.ret rfl Try.func53 rfl ?_
    refine ⟨congrArg Value.bool ?_, by first | exact hE | exact Ext.refl _⟩
    unfold bindsM
    simp only [decide_eq_true_eq, decide_eq_false_iff_not] at hc1
    first | (rw [decide_eq_true (p := L.length ≤ 4096) (by omega)]; simp; done) | (rw [decide_eq_false (p := L.length ≤ 4096) (by omega)]; rfl)
  refine Reg.skip rfl rfl rfl rfl rfl rfl rfl ?_
  refine Reg.skip rfl rfl rfl rfl rfl rfl rfl ?_
  refine Reg.skip rfl rfl rfl rfl rfl rfl rfl ?_
  refine Reg.pur rfl rfl rfl rfl (Pur.pickF rfl rfl) ?_
  refine Reg.pur rfl rfl rfl rfl (Pur.asg rfl) ?_
  refine Reg.nil ?_
  refine At.ret rfl Try.func53 rfl ?_
  refine ⟨congrArg Value.bool ?_, by first | exact hE | exact Ext.refl _⟩
  unfold bindsM
  simp only [decide_eq_true_eq, decide_eq_false_iff_not] at hc1
  first | (rw [decide_eq_true (p := L.length ≤ 4096) (by omega)]; simp; done) | (rw [decide_eq_false (p := L.length ≤ 4096) (by omega)]; rfl)

def mt (r : Bool) (v : Int) (b : Bd) : Bool := b.isRow == r && decide (b.var = v)
theorem find_ok {A : Option Addr} {cap : Nat} {L : List Bd} {H : Heap} (hS : Bds H (.slice A L.length cap) L) (r : Bool) (n : Int) :
    Ret Try.prog 87 [.slice A L.length cap, .bool r, I n] H (fun v H' => H' = H ∧ ∃ a, v = .pointer a ∧ match L.find? (mt r n) with
      | none => a = none
      | some bd => ∃ b o c, a = some ⟨b, o, none⟩ ∧ Blk H b c ∧ (c.drop o).take 8 = encB bd ∧ bd.Ok H ∧ ∃ oa, A = some ⟨b, oa, none⟩) := by
  have hm := hS.max
  refine Ret.of_at (N := 33) Try.call87 Try.func87 rfl rfl rfl ?_
  refine At.region rfl rfl ?_
  refine Reg.pur rfl rfl rfl rfl (Pur.asg rfl) ?_
  refine Reg.nil ?_
  refine At.region rfl rfl ?_
  refine Reg.pur rfl rfl rfl rfl (Pur.mv rfl) ?_
  refine Reg.pur rfl rfl rfl rfl (Pur.lenS isl22 rfl) ?_
  refine Reg.pur rfl rfl rfl rfl (Pur.mv rfl) ?_
  refine Reg.nil ?_
  refine At.loop (σ := Nat) (fun i => [(10, I i), (9, I L.length), (0, .slice A L.length cap), (1, .bool r), (2, I n)]) (fun i H' => i ≤ L.length ∧ H' = H ∧ (L.drop i).find? (mt r n) = L.find? (mt r n)) (fun i => L.length - i) 0 rfl ⟨rfl, rfl, rfl, rfl, rfl, trivial⟩ ⟨by omega, rfl, rfl⟩ ?_
  rintro i H ⟨hi, rfl, hgo⟩ ih
  refine At.region rfl rfl ?_
  refine Reg.pur rfl rfl rfl rfl (Pur.lss rfl rfl) ?_
  refine Reg.nil ?_
  refine At.cond rfl rfl (fun hb1 => ?_) (fun hb1 => ?_)
  · refine At.region rfl rfl ?_
    refine Reg.pur rfl rfl rfl rfl (Pur.mv rfl) ?_
    refine Reg.pur rfl rfl rfl rfl (Pur.asg rfl) ?_
    refine Reg.nil ?_
    simp only [decide_eq_true_eq] at hb1
    have hlt : i < L.length := by omega
    obtain ⟨b, o, c, rfl, hB, hd, hok⟩ := hS.at hlt
    rw [dropL hlt, List.find?_cons] at hgo
    generalize L[i] = bd at *
    refine At.region rfl rfl ?_
    refine Reg.pur rfl rfl rfl rfl (Pur.mv rfl) ?_
    refine Reg.pur rfl rfl rfl rfl (Pur.mv rfl) ?_
    refine Reg.pur rfl rfl rfl rfl (Pur.idx _ es22 rfl rfl (by omega) hb1) ?_
    refine Reg.pur rfl rfl rfl rfl (Pur.fld _ fo49_1 rfl) ?_
    refine Reg.lod rfl rfl rfl rfl (Lod.ld sc4 rfl hB (at_tk (j := 1) hd (by decide) rfl)) ?_
    refine Reg.pur rfl rfl rfl rfl (Pur.mv rfl) ?_
    refine Reg.pur rfl rfl rfl rfl (Pur.eqB Try.underlying4 rfl rfl) ?_
    refine Reg.pur rfl rfl rfl rfl (Pur.mv rfl) ?_
    refine Reg.case 20 rfl (fun hc2 => ?_) (fun hc2 => ?_)
    · refine Reg.gpur rfl rfl rfl rfl rfl rfl (Pur.mv rfl) ?_
      refine Reg.gpur rfl rfl rfl rfl rfl rfl (Pur.mv rfl) ?_
      refine Reg.gpur rfl rfl rfl rfl rfl rfl (Pur.idx _ es22 rfl rfl (by omega) hb1) ?_
      refine Reg.gpur rfl rfl rfl rfl rfl rfl (Pur.fld _ fo49_0 rfl) ?_
      refine Reg.glod rfl rfl rfl rfl rfl rfl (Lod.ld sc3 rfl hB (at_tk (j := 0) hd (by decide) rfl)) ?_
      refine Reg.gpur rfl rfl rfl rfl rfl rfl (Pur.mv rfl) ?_
      refine Reg.gpur rfl rfl rfl rfl rfl rfl (Pur.eql rfl rfl) ?_
      refine Reg.pur rfl rfl rfl rfl (Pur.pickT rfl rfl) ?_
      refine Reg.nil ?_
      refine At.cond rfl rfl (fun hb3 => ?_) (fun hb3 => ?_)
      · refine At.region rfl rfl ?_
        refine Reg.pur rfl rfl rfl rfl (Pur.mv rfl) ?_
        refine Reg.pur rfl rfl rfl rfl (Pur.mv rfl) ?_
        refine Reg.pur rfl rfl rfl rfl (Pur.idx _ es22 rfl rfl (by omega) hb1) ?_
        refine Reg.pur rfl rfl rfl rfl (Pur.asg rfl) ?_
        refine Reg.nil ?_
        refine At.ret rfl Try.func87 rfl ?_
        first | (refine ⟨rfl, ?_⟩; rw [← hgo, show mt r n bd = true by simp_all [mt]]; exact ⟨_, rfl, b, _, c, rfl, hB, hd, hok, _, rfl⟩) | (refine ⟨rfl, ?_⟩; simp only [decide_eq_false_iff_not] at hb1; rw [List.drop_of_length_le (by omega)] at hgo; rw [← hgo]; exact ⟨none, rfl, rfl⟩)
      refine At.region rfl rfl ?_
      first | refine Reg.pur rfl rfl rfl rfl (Pur.add64 rfl rfl (by omega)) ?_ | refine Reg.pur rfl rfl rfl rfl (Pur.add64 rfl rfl (by assumption)) ?_ | refine Reg.pur rfl rfl rfl rfl (Pur.add rfl rfl) ?_
      refine Reg.pur rfl rfl rfl rfl (Pur.mv rfl) ?_
      refine Reg.nil ?_
      refine At.via (ih (i + 1) _ ⟨by omega, rfl, ?_⟩ (by omega)) ⟨rfl, rfl, rfl, rfl, rfl, trivial⟩
      rw [← hgo, show mt r n bd = false by simp_all [mt]]
    refine Reg.skip rfl rfl rfl rfl rfl rfl rfl ?_
    refine Reg.skip rfl rfl rfl rfl rfl rfl rfl ?_
    refine Reg.skip rfl rfl rfl rfl rfl rfl rfl ?_
    refine Reg.skip rfl rfl rfl rfl rfl rfl rfl ?_
    refine Reg.skip rfl rfl rfl rfl rfl rfl rfl ?_
    refine Reg.skip rfl rfl rfl rfl rfl rfl rfl ?_
    refine Reg.skip rfl rfl rfl rfl rfl rfl rfl ?_
    refine Reg.pur rfl rfl rfl rfl (Pur.pickF rfl rfl) ?_
    refine Reg.nil ?_
    refine At.condF rfl rfl rfl ?_
    refine At.region rfl rfl ?_
    first | refine Reg.pur rfl rfl rfl rfl (Pur.add64 rfl rfl (by omega)) ?_ | refine Reg.pur rfl rfl rfl rfl (Pur.add64 rfl rfl (by assumption)) ?_ | refine Reg.pur rfl rfl rfl rfl (Pur.add rfl rfl) ?_
    refine Reg.pur rfl rfl rfl rfl (Pur.mv rfl) ?_
    refine Reg.nil ?_
    refine At.via (ih (i + 1) _ ⟨by omega, rfl, ?_⟩ (by omega)) ⟨rfl, rfl, rfl, rfl, rfl, trivial⟩
    rw [← hgo, show mt r n bd = false by simp_all [mt]]
  refine At.region rfl rfl ?_
  refine Reg.pur rfl rfl rfl rfl (Pur.asg rfl) ?_
  refine Reg.nil ?_
  refine At.ret rfl Try.func87 rfl ?_
  first | (refine ⟨rfl, ?_⟩; rw [← hgo, show mt r n bd = true by simp_all [mt]]; exact ⟨_, rfl, b, _, c, rfl, hB, hd, hok, _, rfl⟩) | (refine ⟨rfl, ?_⟩; simp only [decide_eq_false_iff_not] at hb1; rw [List.drop_of_length_le (by omega)] at hgo; rw [← hgo]; exact ⟨none, rfl, rfl⟩)
end Go.Proofs.Ytlfillhffpiffaa

namespace Go.Proofs.Ytlfillhffpiffaa
set_option linter.unusedSimpArgs false
set_option linter.unusedVariables false
set_option maxRecDepth 8000
open Go Go.Fx Go.Proofs
namespace FactsSubC
theorem ag26 : ag Try.prog 26 = some 4 := by kernel_rfl
theorem ag28 : ag Try.prog 28 = some 5 := by kernel_rfl
theorem arr1_26 : arr1 Try.prog 26 = some 4 := by kernel_rfl
theorem arr26 : arr Try.prog 26 = some (4, 1) := by kernel_rfl
theorem fo28_0 : foff Try.prog 28 0 = some 0 := by kernel_rfl
theorem fo28_1 : foff Try.prog 28 1 = some 4 := by kernel_rfl
theorem fo49_3 : foff Try.prog 49 3 = some 3 := by kernel_rfl
theorem isPt143 : isPt Try.prog 143 = true := by kernel_rfl
theorem pl28 : places Try.prog 28 = some [(0, 4), (4, 1)] := by kernel_rfl
theorem sc3 : sc Try.prog 3 = true := by kernel_rfl
theorem zc28 : zc Try.prog 28 = some [.int .i64 0, .int .i64 0, .int .i64 0, .int .i64 0, .int .i64 0] := by kernel_rfl
end FactsSubC
open FactsSubC

def sm (r b : List Int) (i : Nat) : Int := IntKind.i64.wrap (r.getD i 0 + b.getD i 0)
def sumR (r b : List Int) : List Int := (List.range 4).map (sm r b) ++ [b.getD 4 0]
def sumOk (r b : List Int) : Bool := (List.range 4).all fun i => decide (sm r b i ≤ 32)
def rowS (L : List Bd) (r : List Int) : List Int × Bool :=
  if r.getD 4 0 < 0 then (r, true) else match L.find? (mt true (r.getD 4 0)) with
    | none => (r, true)
    | some bd => if sumOk r bd.row then (sumR r bd.row, true) else (noRow, false)
def mixR (r b : List Int) (i : Nat) : List Int := (List.range 5).map fun j => if j < i then sm r b j else r.getD j 0
theorem mixR_len (r b : List Int) (i : Nat) : (mixR r b i).length = 5 := by simp [mixR]
theorem mixR_0 {r : List Int} (b : List Int) (h : r.length = 5) : mixR r b 0 = r := by
  match r, h with
  | [r0, r1, r2, r3, r4], _ => rfl
theorem mixR_set (r b : List Int) {i : Nat} (h : i < 4) : (mixR r b i).set i (sm r b i) = mixR r b (i + 1) := by
  match i, h with
  | 0, _ => rfl
  | 1, _ => rfl
  | 2, _ => rfl
  | 3, _ => rfl
theorem mixR_at (r b : List Int) {i : Nat} (h : i < 5) : (mixR r b i).getD i 0 = r.getD i 0 := by simp [mixR, h]
theorem mixR_done (r b : List Int) {i : Nat} (h : i < 4) : (mixR r b (i + 1)).getD i 0 = sm r b i := by simp [mixR, show i < 5 by omega]
theorem mixR_end (r b : List Int) : (mixR r b 4).set 4 (b.getD 4 0) = sumR r b := rfl
theorem okTo_step {r b : List Int} {i : Nat} : ((List.range (i + 1)).all fun i => decide (sm r b i ≤ 32)) = (((List.range i).all fun i => decide (sm r b i ≤ 32)) && decide (sm r b i ≤ 32)) := by
  rw [List.range_succ, List.all_append]; simp
theorem not_okTo {r b : List Int} {i : Nat} (hi : i < 4) (h : 32 < sm r b i) : sumOk r b = false := by
  cases hh : sumOk r b with
  | false => rfl
  | true =>
    simp only [sumOk, List.all_eq_true, List.mem_range, decide_eq_true_eq] at hh
    have := hh i hi; omega
theorem at5 {x : List Int} (h : x.length = 5) {j : Nat} (hj : j < 5) : (Is x)[j]? = some (I (x.getD j 0)) := at_Is (by omega)

theorem hb5' {c : List Value} {o : Nat} {bd : Bd} (hd : (c.drop o).take 8 = encB bd) (hbl : bd.row.length = 5) : c[o + 3 + 4]? = some (I (bd.row.getD 4 0)) := by
  rw [Nat.add_assoc]; exact at_tk hd (by omega) (at5 hbl (j := 4) (by omega))
theorem take4_Is {r : List Int} (h : r.length = 5) {i : Nat} (hi : i < 4) : (Is (r.take 4))[i]? = some (I (r.getD i 0)) := by
  match r, h with
  | [a, b, c, d, e], _ =>
    match i, hi with
    | 0, _ => rfl
    | 1, _ => rfl
    | 2, _ => rfl
    | 3, _ => rfl
abbrev RowB (p : List Int × Bool) : Value := .tuple #[.agg (Is p.1).toArray, .bool p.2]

theorem ret_row {L : List Bd} {r : List Int} {p : List Int × Bool} {H H' : Heap} (h : rowS L r = p) (hl : p.1.length = 5) (hE : Ext H H') : tupl [.agg (Is p.1).toArray, .bool p.2] = RowB (rowS L r) ∧ (rowS L r).1.length = 5 ∧ Ext H H' := by
  subst h; exact ⟨rfl, hl, hE⟩
theorem rowS_lo {L : List Bd} {r : List Int} (h : r.getD 4 0 < 0) : rowS L r = (r, true) := by unfold rowS; rw [if_pos h]
theorem rowS_none {L : List Bd} {r : List Int} (h : L.find? (mt true (r.getD 4 0)) = none) : rowS L r = (r, true) := by unfold rowS; rw [h]; split <;> rfl
theorem rowS_bad {L : List Bd} {r : List Int} {bd : Bd} {i : Nat} (h0 : ¬ r.getD 4 0 < 0) (hq : L.find? (mt true (r.getD 4 0)) = some bd) (hi : i < 4) (h : 32 < sm r bd.row i) : rowS L r = (noRow, false) := by
  unfold rowS; rw [if_neg h0, hq]; dsimp only; rw [not_okTo hi h]; rfl
theorem rowS_sum {L : List Bd} {r : List Int} {bd : Bd} (h0 : ¬ r.getD 4 0 < 0) (hq : L.find? (mt true (r.getD 4 0)) = some bd) (h : sumOk r bd.row = true) : rowS L r = (sumR r bd.row, true) := by
  unfold rowS; rw [if_neg h0, hq]; dsimp only; rw [h]; rfl
theorem ofRow_ok {A : Option Addr} {cap : Nat} {L : List Bd} {H : Heap} (hS : Bds H (.slice A L.length cap) L) (r : List Int) (hr : r.length = 5) (ht : -1 ≤ r.getD 4 0) :
    Ret Try.prog 59 [.slice A L.length cap, .agg (Is r).toArray] H (fun v H' => v = RowB (rowS L r) ∧ (rowS L r).1.length = 5 ∧ Ext H H') := by
  refine Ret.of_at (N := 51) Try.call59 Try.func59 rfl rfl rfl ?_
  refine At.region rfl rfl ?_
  refine Reg.op rfl rfl rfl rfl (Does.box rfl rfl) ?_
  rintro _ H1 ⟨rfl, hn1⟩
  refine Reg.op rfl rfl rfl rfl (Does.alloc zc28) ?_
  rintro _ H2 ⟨rfl, hn2⟩
  refine Reg.pur rfl rfl rfl rfl (Pur.asg rfl) ?_
  refine Reg.nil ?_
  have hlt := hn1.own.lt
  have hX := hn1.own.ext hn2.ext
  have hR0 := hn2.own
  have hE2 := hn1.ext.trans hn2.ext
  refine At.region rfl rfl ?_
  refine Reg.pur rfl rfl rfl rfl (Pur.fld _ fo28_1 rfl) ?_
  refine Reg.lod rfl rfl rfl rfl (Lod.ld sc3 rfl hX.blk (at5 hr (by omega))) ?_
  refine Reg.pur rfl rfl rfl rfl (Pur.eql rfl rfl) ?_
  refine Reg.nil ?_
  refine At.cond rfl rfl (fun hb1 => ?_) (fun hb1 => ?_)
  · refine At.region rfl rfl ?_
    refine Reg.lod rfl rfl rfl rfl (Lod.ldn ag28 rfl hX.blk (whole (by simp [hr])) (by simp [hr])) ?_
    refine Reg.op0 rfl rfl rfl (Does.stn ag28 rfl rfl (ones_Is _) (by simp [hr]) hR0 (by simp)) ?_
    rintro _ H3 hu3
    refine Reg.pur rfl rfl rfl rfl (Pur.asg rfl) ?_
    refine Reg.nil ?_
    have hR : Own H3 H1.size (Is r) := by have := hu3.own; rwa [over (by rfl)] at this
    have hE3 := hE2.upd hu3 (by have := hn1.ext.1; omega)
    have hRl : (Is r).length = 5 := by simp [hr]
    refine At.retC rfl Try.func59 ⟨_, _, _, _, rfl, rfl, ⟨_, hR.blk, .inr ⟨_, _, ag28, (whole hRl), hRl, rfl⟩⟩, ⟨_, _, rfl, rfl, rfl⟩⟩ ?_
    first | exact ret_row (rowS_lo (by have h1 : r.getD 4 0 = -1 := of_decide_eq_true hb1; omega)) hr hE3 | exact ret_row (rowS_none (by cases hq : L.find? (mt true (r.getD 4 0)) with | none => rfl | some bd => (rw [hq] at hf; obtain ⟨b, o, c, rfl, _⟩ := hf; cases hb2))) hr hE3 | exact ret_row (rowS_bad (by have h1 : ¬ r.getD 4 0 = -1 := of_decide_eq_false hb1; omega) hq hi4 (of_decide_eq_true hb4)) rfl hE7 | exact ret_row (rowS_sum (by have h1 : ¬ r.getD 4 0 = -1 := of_decide_eq_false hb1; omega) hq hgo) rfl hE7
  refine At.region rfl rfl ?_
  refine Reg.pur rfl rfl rfl rfl (Pur.mv rfl) ?_
  refine Reg.pur rfl rfl rfl rfl (Pur.fld _ fo28_1 rfl) ?_
  refine Reg.lod rfl rfl rfl rfl (Lod.ld sc3 rfl hX.blk (at5 hr (by omega))) ?_
  refine Reg.op rfl rfl rfl rfl (Does.call rfl (find_ok (hS.ext hE2) true (r.getD 4 0))) ?_
  rintro _ H2 ⟨rfl, a, rfl, hf⟩
  refine Reg.pur rfl rfl rfl rfl (Pur.asg rfl) ?_
  refine Reg.nil ?_
  refine At.region rfl rfl ?_
  refine Reg.pur rfl rfl rfl rfl (Pur.mv rfl) ?_
  refine Reg.pur rfl rfl rfl rfl (Pur.eqPN isPt143 rfl rfl) ?_
  refine Reg.nil ?_
  refine At.cond rfl rfl (fun hb2 => ?_) (fun hb2 => ?_)
  · refine At.region rfl rfl ?_
    refine Reg.lod rfl rfl rfl rfl (Lod.ldn ag28 rfl hX.blk (whole (by simp [hr])) (by simp [hr])) ?_
    refine Reg.op0 rfl rfl rfl (Does.stn ag28 rfl rfl (ones_Is _) (by simp [hr]) hR0 (by simp)) ?_
    rintro _ H3 hu3
    refine Reg.pur rfl rfl rfl rfl (Pur.asg rfl) ?_
    refine Reg.nil ?_
    have hR : Own H3 H1.size (Is r) := by have := hu3.own; rwa [over (by rfl)] at this
    have hE3 := hE2.upd hu3 (by have := hn1.ext.1; omega)
    have hRl : (Is r).length = 5 := by simp [hr]
    refine At.retC rfl Try.func59 ⟨_, _, _, _, rfl, rfl, ⟨_, hR.blk, .inr ⟨_, _, ag28, (whole hRl), hRl, rfl⟩⟩, ⟨_, _, rfl, rfl, rfl⟩⟩ ?_
    first | exact ret_row (rowS_lo (by have h1 : r.getD 4 0 = -1 := of_decide_eq_true hb1; omega)) hr hE3 | exact ret_row (rowS_none (by cases hq : L.find? (mt true (r.getD 4 0)) with | none => rfl | some bd => (rw [hq] at hf; obtain ⟨b, o, c, rfl, _⟩ := hf; cases hb2))) hr hE3 | exact ret_row (rowS_bad (by have h1 : ¬ r.getD 4 0 = -1 := of_decide_eq_false hb1; omega) hq hi4 (of_decide_eq_true hb4)) rfl hE7 | exact ret_row (rowS_sum (by have h1 : ¬ r.getD 4 0 = -1 := of_decide_eq_false hb1; omega) hq hgo) rfl hE7
  obtain ⟨bd, hq, b, o, c, rfl, hB, hd, hok, oa, rfl⟩ : ∃ bd, L.find? (mt true (r.getD 4 0)) = some bd ∧ ∃ b o c, a = some ⟨b, o, none⟩ ∧ Blk H2 b c ∧ (c.drop o).take 8 = encB bd ∧ bd.Ok H2 ∧ ∃ oa, A = some ⟨b, oa, none⟩ := by
    cases hq : L.find? (mt true (r.getD 4 0)) with
    | none => rw [hq] at hf; subst hf; cases hb2
    | some bd => rw [hq] at hf; exact ⟨bd, rfl, hf⟩
  have hbl := hok.row
  have hb0 := hS.lt (by cases L with | nil => cases hq | cons _ _ => simp)
  have hlt2 := hn1.ext.1
  refine At.region rfl rfl ?_
  refine Reg.pur rfl rfl rfl rfl (Pur.mv rfl) ?_
  refine Reg.pur rfl rfl rfl rfl (Pur.nilc rfl) ?_
  refine Reg.pur rfl rfl rfl rfl (Pur.fld _ fo49_3 rfl) ?_
  refine Reg.pur rfl rfl rfl rfl (Pur.fld _ fo28_0 rfl) ?_
  refine Reg.lod rfl rfl rfl rfl (Lod.ldn ag26 rfl hB (show _ = Is (bd.row.take 4) by rw [Nat.add_zero, ← List.drop_drop, take_mid hd (by decide)]; simp [encB, Is, List.map_take]) (by simp [hbl])) ?_
  refine Reg.pur rfl rfl rfl rfl (Pur.mv rfl) ?_
  refine Reg.nil ?_
  refine At.loop (σ := Nat) (fun i => [(25, I i), (24, .agg (Is (bd.row.take 4)).toArray), (3, ptr H.size 0), (4, ptr H1.size 0), (6, ptr b o)]) (fun i H' => i ≤ 4 ∧ Own H' H.size (Is (mixR r bd.row i)) ∧ Own H' H1.size (Is noRow) ∧ Blk H' b c ∧ Ext H H' ∧ ((List.range i).all fun i => decide (sm r bd.row i ≤ 32)) = true) (fun i => 4 - i) 0 rfl ⟨rfl, rfl, rfl, rfl, rfl, trivial⟩ ⟨by omega, by rw [mixR_0 _ hr]; exact hX, hR0, hB, hE2, rfl⟩ ?_
  rintro i H5 ⟨hi, hX, hR0, hB, hE, hgo⟩ ih
  refine At.region rfl rfl ?_
  refine Reg.pur rfl rfl rfl rfl (Pur.lss rfl rfl) ?_
  refine Reg.nil ?_
  refine At.cond rfl rfl (fun hb3 => ?_) (fun hb3 => ?_)
  · simp only [decide_eq_true_eq] at hb3
    have hi4 : i < 4 := by omega
    have hai : (Is (bd.row.take 4))[(i : Int).toNat]? = some (I (bd.row.getD i 0)) := by
      exact take4_Is hbl hi4
    refine At.region rfl rfl ?_
    refine Reg.pur rfl rfl rfl rfl (Pur.mv rfl) ?_
    refine Reg.pur rfl rfl rfl rfl (Pur.ixA arr1_26 rfl rfl (by omega) (by omega) hai) ?_
    refine Reg.pur rfl rfl rfl rfl (Pur.asg rfl) ?_
    refine Reg.pur rfl rfl rfl rfl (Pur.asg rfl) ?_
    refine Reg.nil ?_
    have e0 : 0 + 0 + (i : Int).toNat * 1 = i := by omega
    have hri : (Is (mixR r bd.row i))[0 + 0 + (i : Int).toNat * 1]? = some (I (r.getD i 0)) := by rw [e0, ← mixR_at r bd.row (show i < 5 by omega)]; exact at5 (mixR_len _ _ _) (by omega)
    refine At.region rfl rfl ?_
    refine Reg.pur rfl rfl rfl rfl (Pur.mv rfl) ?_
    refine Reg.pur rfl rfl rfl rfl (Pur.fld _ fo28_0 rfl) ?_
    refine Reg.pur rfl rfl rfl rfl (Pur.idxP arr26 rfl rfl (by omega) (by omega)) ?_
    refine Reg.lod rfl rfl rfl rfl (Lod.ld sc3 rfl hX.blk hri) ?_
    refine Reg.pur rfl rfl rfl rfl (Pur.mv rfl) ?_
    first | refine Reg.pur rfl rfl rfl rfl (Pur.add64 rfl rfl (by omega)) ?_ | refine Reg.pur rfl rfl rfl rfl (Pur.add64 rfl rfl (by assumption)) ?_ | refine Reg.pur rfl rfl rfl rfl (Pur.add rfl rfl) ?_
    refine Reg.pur rfl rfl rfl rfl (Pur.fld _ fo28_0 rfl) ?_
    refine Reg.pur rfl rfl rfl rfl (Pur.idxP arr26 rfl rfl (by omega) (by omega)) ?_
    refine Reg.op0 rfl rfl rfl (Does.st sc3 rfl rfl rfl hX (by rw [e0]; simp [mixR_len]; omega)) ?_
    rintro _ H6 hu6
    refine Reg.nil ?_
    have hX : Own H6 H.size (Is (mixR r bd.row (i + 1))) := by have := hu6.own; rw [e0] at this; rw [← mixR_set _ _ hi4, ← Is_set]; exact this
    have hR0 := hR0.upd hu6 (by omega)
    have hB := hB.upd hu6 (by omega)
    have hE := hE.upd hu6 (Nat.le_refl _)
    have hrd : (Is (mixR r bd.row (i + 1)))[0 + 0 + (i : Int).toNat * 1]? = some (I (sm r bd.row i)) := by rw [e0, ← mixR_done r bd.row hi4]; exact at5 (mixR_len _ _ _) (by omega)
    refine At.region rfl rfl ?_
    refine Reg.pur rfl rfl rfl rfl (Pur.mv rfl) ?_
    refine Reg.pur rfl rfl rfl rfl (Pur.fld _ fo28_0 rfl) ?_
    refine Reg.pur rfl rfl rfl rfl (Pur.idxP arr26 rfl rfl (by omega) (by omega)) ?_
    refine Reg.lod rfl rfl rfl rfl (Lod.ld sc3 rfl hX.blk hrd) ?_
    refine Reg.pur rfl rfl rfl rfl (Pur.gtr rfl rfl) ?_
    refine Reg.nil ?_
    refine At.cond rfl rfl (fun hb4 => ?_) (fun hb4 => ?_)
    · refine At.region rfl rfl ?_
      refine Reg.pur rfl rfl rfl rfl (Pur.bld (cs := [_, _, _, _, _]) pl28 zc28 rfl rfl ⟨rfl, rfl, rfl, rfl, rfl, rfl⟩) ?_
      refine Reg.op0 rfl rfl rfl (Does.stn ag28 rfl rfl rfl rfl hR0 (by simp)) ?_
      rintro _ H7 hu7
      refine Reg.pur rfl rfl rfl rfl (Pur.asg rfl) ?_
      refine Reg.nil ?_
      have hR : Own H7 H1.size (Is noRow) := hu7.own
      have hE7 := hE.upd hu7 (by omega)
      have hRl : (Is noRow).length = 5 := rfl
      refine At.retC rfl Try.func59 ⟨_, _, _, _, rfl, rfl, ⟨_, hR.blk, .inr ⟨_, _, ag28, (whole hRl), hRl, rfl⟩⟩, ⟨_, _, rfl, rfl, rfl⟩⟩ ?_
      first | exact ret_row (rowS_lo (by have h1 : r.getD 4 0 = -1 := of_decide_eq_true hb1; omega)) hr hE3 | exact ret_row (rowS_none (by cases hq : L.find? (mt true (r.getD 4 0)) with | none => rfl | some bd => (rw [hq] at hf; obtain ⟨b, o, c, rfl, _⟩ := hf; cases hb2))) hr hE3 | exact ret_row (rowS_bad (by have h1 : ¬ r.getD 4 0 = -1 := of_decide_eq_false hb1; omega) hq hi4 (of_decide_eq_true hb4)) rfl hE7 | exact ret_row (rowS_sum (by have h1 : ¬ r.getD 4 0 = -1 := of_decide_eq_false hb1; omega) hq hgo) rfl hE7
    refine At.region rfl rfl ?_
    first | refine Reg.pur rfl rfl rfl rfl (Pur.add64 rfl rfl (by omega)) ?_ | refine Reg.pur rfl rfl rfl rfl (Pur.add64 rfl rfl (by assumption)) ?_ | refine Reg.pur rfl rfl rfl rfl (Pur.add rfl rfl) ?_
    refine Reg.pur rfl rfl rfl rfl (Pur.mv rfl) ?_
    refine Reg.nil ?_
    simp only [decide_eq_false_iff_not] at hb4
    refine At.via (ih (i + 1) _ ⟨by omega, hX, hR0, hB, hE, ?_⟩ (by omega)) ⟨rfl, rfl, rfl, rfl, rfl, trivial⟩
    rw [okTo_step, hgo, decide_eq_true (by omega)]; rfl
  simp only [decide_eq_false_iff_not] at hb3
  obtain rfl : i = 4 := by omega
  refine At.region rfl rfl ?_
  refine Reg.pur rfl rfl rfl rfl (Pur.mv rfl) ?_
  refine Reg.pur rfl rfl rfl rfl (Pur.nilc rfl) ?_
  refine Reg.pur rfl rfl rfl rfl (Pur.fld _ fo49_3 rfl) ?_
  refine Reg.pur rfl rfl rfl rfl (Pur.fld _ fo28_1 rfl) ?_
  refine Reg.lod rfl rfl rfl rfl (Lod.ld sc3 rfl hB (hb5' hd hbl)) ?_
  refine Reg.pur rfl rfl rfl rfl (Pur.fld _ fo28_1 rfl) ?_
  refine Reg.op0 rfl rfl rfl (Does.st sc3 rfl rfl rfl hX (by simp [mixR_len])) ?_
  rintro _ H6 hu6
  refine Reg.nil ?_
  have hX : Own H6 H.size (Is (sumR r bd.row)) := by have := hu6.own; rw [← mixR_end, ← Is_set]; exact this
  have hR0 := hR0.upd hu6 (by omega)
  have hE := hE.upd hu6 (Nat.le_refl _)
  refine At.region rfl rfl ?_
  refine Reg.lod rfl rfl rfl rfl (Lod.ldn ag28 rfl hX.blk (whole rfl) rfl) ?_
  refine Reg.op0 rfl rfl rfl (Does.stn ag28 rfl rfl (ones_Is _) rfl hR0 (by simp)) ?_
  rintro _ H7 hu7
  refine Reg.pur rfl rfl rfl rfl (Pur.asg rfl) ?_
  refine Reg.nil ?_
  have hR : Own H7 H1.size (Is (sumR r bd.row)) := by have := hu7.own; rwa [over (by rfl)] at this
  have hE7 := hE.upd hu7 (by omega)
  have hRl : (Is (sumR r bd.row)).length = 5 := rfl
  refine At.retC rfl Try.func59 ⟨_, _, _, _, rfl, rfl, ⟨_, hR.blk, .inr ⟨_, _, ag28, (whole hRl), hRl, rfl⟩⟩, ⟨_, _, rfl, rfl, rfl⟩⟩ ?_
  first | exact ret_row (rowS_lo (by have h1 : r.getD 4 0 = -1 := of_decide_eq_true hb1; omega)) hr hE3 | exact ret_row (rowS_none (by cases hq : L.find? (mt true (r.getD 4 0)) with | none => rfl | some bd => (rw [hq] at hf; obtain ⟨b, o, c, rfl, _⟩ := hf; cases hb2))) hr hE3 | exact ret_row (rowS_bad (by have h1 : ¬ r.getD 4 0 = -1 := of_decide_eq_false hb1; omega) hq hi4 (of_decide_eq_true hb4)) rfl hE7 | exact ret_row (rowS_sum (by have h1 : ¬ r.getD 4 0 = -1 := of_decide_eq_false hb1; omega) hq hgo) rfl hE7
end Go.Proofs.Ytlfillhffpiffaa

namespace Go.Proofs.Ytlfillhffpiffaa
set_option linter.unusedSimpArgs false
set_option linter.unusedVariables false
set_option maxRecDepth 8000
open Go Go.Fx Go.Proofs
namespace FactsSubD
theorem ag28 : ag Try.prog 28 = some 5 := by kernel_rfl
theorem ag49 : ag Try.prog 49 = some 8 := by kernel_rfl
theorem arr26 : arr Try.prog 26 = some (4, 1) := by kernel_rfl
theorem es22 : esz Try.prog 22 = some 8 := by kernel_rfl
theorem fo28_0 : foff Try.prog 28 0 = some 0 := by kernel_rfl
theorem fo28_1 : foff Try.prog 28 1 = some 4 := by kernel_rfl
theorem fo49_0 : foff Try.prog 49 0 = some 0 := by kernel_rfl
theorem fo49_1 : foff Try.prog 49 1 = some 1 := by kernel_rfl
theorem fo49_3 : foff Try.prog 49 3 = some 3 := by kernel_rfl
theorem isl22 : isSl Try.prog 22 = true := by kernel_rfl
theorem mixed : Try.prog.follows .mixedOrders = true := by kernel_rfl
theorem pl28 : places Try.prog 28 = some [(0, 4), (4, 1)] := by kernel_rfl
theorem sc3 : sc Try.prog 3 = true := by kernel_rfl
theorem sc4 : sc Try.prog 4 = true := by kernel_rfl
theorem zc28 : zc Try.prog 28 = some [.int .i64 0, .int .i64 0, .int .i64 0, .int .i64 0, .int .i64 0] := by kernel_rfl
theorem zc49 : zc Try.prog 49 = some [.int .i64 0, .bool false, .slice none 0 0, .int .i64 0, .int .i64 0, .int .i64 0, .int .i64 0, .int .i64 0] := by kernel_rfl
end FactsSubD
open FactsSubD

end Go.Proofs.Ytlfillhffpiffaa

namespace Go.Proofs.Ytlfillhffpiffaa
set_option linter.unusedSimpArgs false
set_option linter.unusedVariables false
set_option maxRecDepth 8000
open Go Go.Fx Go.Proofs
namespace FactsSubE
theorem apt23 : appT Try.prog 23 = some (47, 9, 72) := by kernel_rfl
theorem isSlN23 : isSl' Try.prog 23 = true := by kernel_rfl
theorem slA23 : slA Try.prog 23 = some (47, 9) := by kernel_rfl
end FactsSubE
open FactsSubE

theorem flat_set : ∀ {M : List (List Int)} (hM : Nine M) {i j : Nat} (hi : i < M.length) (hj : j < 9) (v : Int), (M.flatMap Is).set (i * 9 + j) (I v) = (M.set i ((M.getD i []).set j v)).flatMap Is
  | [], _, _, _, hi, _, _ => by simp at hi
  | x :: M, hM, 0, j, _, hj, v => by
    have h9 : x.length = 9 := hM x List.mem_cons_self
    rw [List.flatMap_cons, List.set_cons_zero, List.flatMap_cons, Nat.zero_mul, Nat.zero_add, List.set_append_left _ _ (by simp [h9]; omega), Is_set]
    rfl
  | x :: M, hM, i + 1, j, hi, hj, v => by
    have h9 : x.length = 9 := hM x List.mem_cons_self
    have ih := flat_set (M := M) (fun y hy => hM y (List.mem_cons_of_mem _ hy)) (i := i) (by simpa using hi) hj v
    rw [List.flatMap_cons, List.set_cons_succ, List.flatMap_cons, List.set_append_right _ _ (by simp [h9]; omega), show (i + 1) * 9 + j - (Is x).length = i * 9 + j by simp [h9]; omega, ih]
    rfl

theorem cloneT_ok {A : Option Addr} {cap : Nat} {L : List (List Int)} (hL : Nine L) {H : Heap} (hS : SlT H Is 9 (.slice A L.length cap) L) (hb : L.length * 72 ≤ 140737488351232) :
    Ret Try.prog 66 [.slice A L.length cap] H (fun v H' => OwnS H' H.size 47 9 v L.length (L.flatMap Is) ∧ Ext H H') := by
  refine Ret.of_at (N := 8) Try.call66 Try.func66 rfl rfl rfl ?_
  refine At.region rfl rfl ?_
  refine Reg.pur rfl rfl rfl rfl (Pur.asg rfl) ?_
  refine Reg.nil ?_
  refine At.region rfl rfl ?_
  refine Reg.pur rfl rfl rfl rfl (Pur.mv rfl) ?_
  refine Reg.pur rfl rfl rfl rfl (Pur.eqSN isSlN23 rfl rfl) ?_
  refine Reg.nil ?_
  refine At.cond rfl rfl (fun hb1 => ?_) (fun hb1 => ?_)
  · refine At.region rfl rfl ?_
    refine Reg.pur rfl rfl rfl rfl (Pur.asg rfl) ?_
    refine Reg.nil ?_
    refine At.ret rfl Try.func66 rfl ?_
    first | (refine ⟨by simpa using ho, ?_⟩; exact (New.of_push (xs := []).ext).trBut hbut (fun b hb h => by simp only [Value.ownBlock, Option.some.injEq] at h; omega)) | (obtain ⟨A', cap', e, h1, _, h0, _⟩ := hS; cases e; have hA : A = none := by { cases A with | none => rfl | some _ => cases hb1 }; have hc := h0 hA; have hl : L = [] := List.length_eq_zero_iff.1 (by omega); subst hl; exact ⟨OwnS.nil _ _ _ _, Ext.refl _⟩)
  refine At.region rfl rfl ?_
  refine Reg.op rfl rfl rfl rfl (Does.bslA ([]) slA23 rfl rfl rfl rfl rfl rfl) ?_
  rintro _ H1 ⟨rfl, rfl⟩
  refine Reg.pur rfl rfl rfl rfl (Pur.mv rfl) ?_
  refine Reg.op rfl rfl rfl rfl (Does.app apt23 rfl rfl (OwnS.new (xs := []) (n := 0) (H := H) (B := H.size) rfl (by decide) (Nat.le_refl _)) (sl_src (wide9 hL) (hS.ext New.of_push.ext)) (ones_flat L) (by rw [show maxLen = 9223372036854775807 from rfl]; omega) (by omega) (by simp)) ?_
  rintro v H2 ⟨ho, hbut, _, _⟩
  refine Reg.pur rfl rfl rfl rfl (Pur.asg rfl) ?_
  refine Reg.nil ?_
  refine At.ret rfl Try.func66 rfl ?_
  first | (refine ⟨by simpa using ho, ?_⟩; exact (New.of_push (xs := []).ext).trBut hbut (fun b hb h => by simp only [Value.ownBlock, Option.some.injEq] at h; omega)) | (obtain ⟨A', cap', e, h1, _, h0, _⟩ := hS; cases e; have hA : A = none := by { cases A with | none => rfl | some _ => cases hb1 }; have hc := h0 hA; have hl : L = [] := List.length_eq_zero_iff.1 (by omega); subst hl; exact ⟨OwnS.nil _ _ _ _, Ext.refl _⟩)
end Go.Proofs.Ytlfillhffpiffaa

namespace Go.Proofs.Ytlfillhffpiffaa
set_option linter.unusedSimpArgs false
set_option linter.unusedVariables false
set_option maxRecDepth 8000
open Go Go.Fx Go.Proofs
namespace FactsSubF
theorem es23 : esz Try.prog 23 = some 9 := by kernel_rfl
theorem fo47_0 : foff Try.prog 47 0 = some 0 := by kernel_rfl
theorem fo47_2 : foff Try.prog 47 2 = some 2 := by kernel_rfl
theorem fo47_3 : foff Try.prog 47 3 = some 3 := by kernel_rfl
theorem isl23 : isSl Try.prog 23 = true := by kernel_rfl
theorem sc3 : sc Try.prog 3 = true := by kernel_rfl
end FactsSubF
open FactsSubF

def movS (by' : Int) (x : List Int) : List Int := if x.getD 0 0 = 3 then (x.set 2 (IntKind.i64.wrap (x.getD 2 0 + by'))).set 3 (IntKind.i64.wrap (x.getD 3 0 + by')) else x
theorem movS_len (by' : Int) (x : List Int) : (movS by' x).length = x.length := by unfold movS; split <;> simp
theorem nine_mov {by' : Int} {L : List (List Int)} (h : Nine L) : Nine (L.map (movS by')) := by
  intro x hx
  obtain ⟨y, hy, rfl⟩ := List.mem_map.1 hx
  rw [movS_len]; exact h y hy
def mid (by' : Int) (L : List (List Int)) (i : Nat) : List (List Int) := (L.take i).map (movS by') ++ L.drop i
theorem mid_len (by' : Int) (L : List (List Int)) (i : Nat) : (mid by' L i).length = L.length := by
  unfold mid; simp; omega
theorem mid_nine {by' : Int} {L : List (List Int)} (h : Nine L) (i : Nat) : Nine (mid by' L i) := by
  intro x hx
  unfold mid at hx
  rcases List.mem_append.1 hx with hx | hx
  · exact nine_mov (fun y hy => h y (List.mem_of_mem_take hy)) x hx
  · exact h x (List.mem_of_mem_drop hx)
theorem mid_get (by' : Int) {L : List (List Int)} {i : Nat} (h : i < L.length) : (mid by' L i).getD i [] = L[i] := by
  unfold mid
  rw [List.getD_eq_getElem?_getD, List.getElem?_append_right (by simp; omega)]
  simp [Nat.min_eq_left (Nat.le_of_lt h), List.getElem?_eq_getElem h]
theorem mid_set (by' : Int) {L : List (List Int)} {i : Nat} (h : i < L.length) : (mid by' L i).set i (movS by' L[i]) = mid by' L (i + 1) := by
  unfold mid
  rw [List.set_append_right _ _ (by simp; omega), List.take_succ_eq_append_getElem h, List.map_append, List.append_assoc]
  congr 1
  simp only [List.length_map, List.length_take, Nat.min_eq_left (Nat.le_of_lt h), Nat.sub_self]
  rw [dropL h]; rfl
theorem mid_same (by' : Int) {L : List (List Int)} {i : Nat} (h : i < L.length) (hm : movS by' L[i] = L[i]) : mid by' L (i + 1) = mid by' L i := by
  unfold mid
  rw [List.take_succ_eq_append_getElem h, List.map_append, List.append_assoc, dropL h]
  simp only [List.map_cons, List.map_nil, hm, List.singleton_append]
theorem mid_all (by' : Int) (L : List (List Int)) {i : Nat} (h : L.length ≤ i) : mid by' L i = L.map (movS by') := by
  unfold mid; rw [List.take_of_length_le h, List.drop_of_length_le h, List.append_nil]
theorem rd {c : List Value} {M : List (List Int)} {n i j : Nat} (h : c.take (n * 9) = M.flatMap Is) (hM : Nine M) (hl : M.length = n) (hi : i < n) (hj : j < 9) : c[0 + (i : Int).toNat * 9 + j]? = some (I ((M.getD i []).getD j 0)) := by
  subst hl
  have h1 : (c.drop (i * 9)).take 9 = Is M[i] := by rw [take_mid h (by omega)]; exact flat_at M i (wide9 hM) hi
  have h2 : M.getD i [] = M[i] := by simp [List.getD_eq_getElem?_getD, List.getElem?_eq_getElem hi]
  rw [h2, Nat.zero_add]
  exact at_tk h1 hj (at_Is (by rw [hM _ (List.getElem_mem hi)]; exact hj))
theorem wr {c : List Value} {M : List (List Int)} {n i j : Nat} (h : c.take (n * 9) = M.flatMap Is) (hM : Nine M) (hl : M.length = n) (hi : i < n) (hj : j < 9) (v : Int) : (c.set (0 + (i : Int).toNat * 9 + j) (I v)).take (n * 9) = (M.set i ((M.getD i []).set j v)).flatMap Is := by
  subst hl
  rw [Nat.zero_add, List.take_set, h]
  exact flat_set hM hi hj v
theorem len_of {c : List Value} {M : List (List Int)} {n : Nat} (h : c.take (n * 9) = M.flatMap Is) (hM : Nine M) (hl : M.length = n) : n * 9 ≤ c.length := by
  have := congrArg List.length h
  rw [List.length_take, flat_len (wide9 hM), hl] at this; omega
theorem nine_set {M : List (List Int)} (hM : Nine M) (i j : Nat) (v : Int) : Nine (M.set i ((M.getD i []).set j v)) := by
  intro x hx
  by_cases hi : i < M.length
  · rcases List.mem_or_eq_of_mem_set hx with h | h
    · exact hM x h
    · subst h
      rw [List.length_set, List.getD_eq_getElem?_getD, List.getElem?_eq_getElem hi]; exact hM _ (List.getElem_mem hi)
  · rw [List.set_eq_of_length_le (by omega)] at hx; exact hM x hx

theorem moved_ok {A : Option Addr} {cap : Nat} {L : List (List Int)} (hL : Nine L) {H : Heap} (hS : SlT H Is 9 (.slice A L.length cap) L) (hb : L.length * 72 ≤ 140737488351232) (by' : Int) :
    Ret Try.prog 88 [.slice A L.length cap, I by'] H (fun v H' => (∃ A' cap', v = .slice A' L.length cap' ∧ (L.length = 0 ∨ ∃ g, H.size ≤ g ∧ A' = some ⟨g, 0, none⟩)) ∧ SlT H' Is 9 v (L.map (movS by')) ∧ Ext H H') := by
  refine Ret.of_at (N := 40) Try.call88 Try.func88 rfl rfl rfl ?_
  refine At.region rfl rfl ?_
  refine Reg.pur rfl rfl rfl rfl (Pur.asg rfl) ?_
  refine Reg.nil ?_
  refine At.region rfl rfl ?_
  refine Reg.pur rfl rfl rfl rfl (Pur.mv rfl) ?_
  refine Reg.op rfl rfl rfl rfl (Does.call rfl (cloneT_ok hL hS hb)) ?_
  rintro v H1 ⟨ho, hE1⟩
  refine Reg.pur rfl rfl rfl rfl (Pur.asg rfl) ?_
  refine Reg.nil ?_
  obtain ⟨A', cap', rfl, hc1, hc2, hc3, g, c0, hg⟩ : ∃ A' cap', v = .slice A' L.length cap' ∧ L.length ≤ cap' ∧ cap' ≤ maxLen ∧ (A' = none → cap' = 0) ∧ ∃ g c, L.length = 0 ∨ (H.size ≤ g ∧ A' = some ⟨g, 0, none⟩ ∧ Own H1 g c ∧ c.take (L.length * 9) = (mid by' L 0).flatMap Is) := by
    obtain ⟨_, ⟨rfl, h0⟩ | ⟨g, cap, cur, rfl, h2, h3, h4, h5, h6, h7⟩⟩ := ho
    · exact ⟨none, 0, by rw [h0], by omega, by decide, fun _ => rfl, 0, [], .inl h0⟩
    · exact ⟨_, cap, rfl, h4, h5, (fun h => by cases h), g, cur.toList, .inr ⟨h2, rfl, ⟨_, by simpa using h3⟩, h7⟩⟩
  refine At.region rfl rfl ?_
  refine Reg.pur rfl rfl rfl rfl (Pur.mv rfl) ?_
  refine Reg.pur rfl rfl rfl rfl (Pur.lenS isl23 rfl) ?_
  refine Reg.pur rfl rfl rfl rfl (Pur.mv rfl) ?_
  refine Reg.nil ?_
  refine At.loop (σ := Nat × List Value) (fun s => [(11, I s.1), (10, I L.length), (5, .slice A' L.length cap'), (1, I by')]) (fun s H' => s.1 ≤ L.length ∧ Ext H H' ∧ (L.length = 0 ∨ (H.size ≤ g ∧ A' = some ⟨g, 0, none⟩ ∧ Own H' g s.2 ∧ s.2.take (L.length * 9) = (mid by' L s.1).flatMap Is))) (fun s => L.length - s.1) (0, c0) rfl ⟨rfl, rfl, rfl, rfl, trivial⟩ ⟨by omega, hE1, hg⟩ ?_
  clear hg ho
  rintro ⟨i, c⟩ H2 ⟨hi, hE, hI⟩ ih
  dsimp only at hi hE hI ⊢
  refine At.region rfl rfl ?_
  refine Reg.pur rfl rfl rfl rfl (Pur.lss rfl rfl) ?_
  refine Reg.nil ?_
  refine At.cond rfl rfl (fun hb1 => ?_) (fun hb1 => ?_)
  · refine At.region rfl rfl ?_
    refine Reg.pur rfl rfl rfl rfl (Pur.mv rfl) ?_
    refine Reg.pur rfl rfl rfl rfl (Pur.asg rfl) ?_
    refine Reg.nil ?_
    simp only [decide_eq_true_eq] at hb1
    have hlt : i < L.length := by omega
    obtain ⟨hgH, rfl, hO, htk⟩ := hI.resolve_left (by omega)
    have hN := mid_nine (by' := by') hL i
    have hln := mid_len by' L i
    have hcl := len_of htk hN hln
    have r0 := rd htk hN hln hlt (j := 0) (by omega)
    have r2 := rd htk hN hln hlt (j := 2) (by omega)
    have hx9 := hL _ (List.getElem_mem hlt)
    have hms := mid_set by' hlt
    rw [mid_get by' hlt] at r0 r2
    refine At.region rfl rfl ?_
    refine Reg.pur rfl rfl rfl rfl (Pur.mv rfl) ?_
    refine Reg.pur rfl rfl rfl rfl (Pur.mv rfl) ?_
    refine Reg.pur rfl rfl rfl rfl (Pur.idx _ es23 rfl rfl (by omega) hb1) ?_
    refine Reg.pur rfl rfl rfl rfl (Pur.fld _ fo47_0 rfl) ?_
    refine Reg.lod rfl rfl rfl rfl (Lod.ld sc3 rfl hO.blk r0) ?_
    refine Reg.pur rfl rfl rfl rfl (Pur.eql rfl rfl) ?_
    refine Reg.nil ?_
    refine At.cond rfl rfl (fun hb2 => ?_) (fun hb2 => ?_)
    · refine At.region rfl rfl ?_
      refine Reg.pur rfl rfl rfl rfl (Pur.mv rfl) ?_
      refine Reg.pur rfl rfl rfl rfl (Pur.mv rfl) ?_
      refine Reg.pur rfl rfl rfl rfl (Pur.idx _ es23 rfl rfl (by omega) (by omega)) ?_
      refine Reg.pur rfl rfl rfl rfl (Pur.fld _ fo47_2 rfl) ?_
      refine Reg.lod rfl rfl rfl rfl (Lod.ld sc3 rfl hO.blk r2) ?_
      refine Reg.pur rfl rfl rfl rfl (Pur.mv rfl) ?_
      first | refine Reg.pur rfl rfl rfl rfl (Pur.add64 rfl rfl (by omega)) ?_ | refine Reg.pur rfl rfl rfl rfl (Pur.add64 rfl rfl (by assumption)) ?_ | refine Reg.pur rfl rfl rfl rfl (Pur.add rfl rfl) ?_
      refine Reg.pur rfl rfl rfl rfl (Pur.idx _ es23 rfl rfl (by omega) (by omega)) ?_
      refine Reg.pur rfl rfl rfl rfl (Pur.fld _ fo47_2 rfl) ?_
      refine Reg.op0 rfl rfl rfl (Does.st sc3 rfl rfl rfl hO (by omega)) ?_
      rintro _ H3 hu3
      refine Reg.nil ?_
      have t3 := wr htk hN hln hlt (j := 2) (by omega) (IntKind.i64.wrap (L[i].getD 2 0 + by'))
      have N3 := nine_set hN i 2 (IntKind.i64.wrap (L[i].getD 2 0 + by'))
      have l3 : ((mid by' L i).set i (((mid by' L i).getD i []).set 2 (IntKind.i64.wrap (L[i].getD 2 0 + by')))).length = L.length := by rw [List.length_set]; exact hln
      have g3 : ((mid by' L i).set i (((mid by' L i).getD i []).set 2 (IntKind.i64.wrap (L[i].getD 2 0 + by')))).getD i [] = L[i].set 2 (IntKind.i64.wrap (L[i].getD 2 0 + by')) := by rw [mid_get by' hlt, List.getD_eq_getElem?_getD, List.getElem?_set]; simp [hln, hlt]
      have r3 := rd t3 N3 l3 hlt (j := 3) (by omega)
      rw [g3, show (L[i].set 2 (IntKind.i64.wrap (L[i].getD 2 0 + by'))).getD 3 0 = L[i].getD 3 0 by simp [List.getD_eq_getElem?_getD, List.getElem?_set]] at r3
      refine At.region rfl rfl ?_
      refine Reg.pur rfl rfl rfl rfl (Pur.mv rfl) ?_
      refine Reg.pur rfl rfl rfl rfl (Pur.mv rfl) ?_
      refine Reg.pur rfl rfl rfl rfl (Pur.idx _ es23 rfl rfl (by omega) (by omega)) ?_
      refine Reg.pur rfl rfl rfl rfl (Pur.fld _ fo47_3 rfl) ?_
      refine Reg.lod rfl rfl rfl rfl (Lod.ld sc3 rfl hu3.own.blk r3) ?_
      refine Reg.pur rfl rfl rfl rfl (Pur.mv rfl) ?_
      first | refine Reg.pur rfl rfl rfl rfl (Pur.add64 rfl rfl (by omega)) ?_ | refine Reg.pur rfl rfl rfl rfl (Pur.add64 rfl rfl (by assumption)) ?_ | refine Reg.pur rfl rfl rfl rfl (Pur.add rfl rfl) ?_
      refine Reg.pur rfl rfl rfl rfl (Pur.idx _ es23 rfl rfl (by omega) (by omega)) ?_
      refine Reg.pur rfl rfl rfl rfl (Pur.fld _ fo47_3 rfl) ?_
      refine Reg.op0 rfl rfl rfl (Does.st sc3 rfl rfl rfl hu3.own (by rw [List.length_set]; omega)) ?_
      rintro _ H4 hu4
      refine Reg.nil ?_
      have t4 := wr t3 N3 l3 hlt (j := 3) (by omega) (IntKind.i64.wrap (L[i].getD 3 0 + by'))
      refine At.region rfl rfl ?_
      first | refine Reg.pur rfl rfl rfl rfl (Pur.add64 rfl rfl (by omega)) ?_ | refine Reg.pur rfl rfl rfl rfl (Pur.add64 rfl rfl (by assumption)) ?_ | refine Reg.pur rfl rfl rfl rfl (Pur.add rfl rfl) ?_
      refine Reg.pur rfl rfl rfl rfl (Pur.mv rfl) ?_
      refine Reg.nil ?_
      first | (rw [g3, List.set_set, show (L[i].set 2 (IntKind.i64.wrap (L[i].getD 2 0 + by'))).set 3 (IntKind.i64.wrap (L[i].getD 3 0 + by')) = movS by' L[i] by unfold movS; rw [if_pos (of_decide_eq_true hb2)], hms] at t4; exact At.via (ih (i + 1, _) H4 ⟨by omega, (hE.upd hu3 hgH).upd hu4 hgH, .inr ⟨hgH, rfl, hu4.own, t4⟩⟩ (by simp only; omega)) ⟨rfl, rfl, rfl, rfl, trivial⟩) | (rw [← mid_same by' hlt (by unfold movS; rw [if_neg (of_decide_eq_false hb2)])] at htk; exact At.via (ih (i + 1, c) _ ⟨by omega, hE, .inr ⟨hgH, rfl, hO, htk⟩⟩ (by simp only; omega)) ⟨rfl, rfl, rfl, rfl, trivial⟩)
    refine At.region rfl rfl ?_
    first | refine Reg.pur rfl rfl rfl rfl (Pur.add64 rfl rfl (by omega)) ?_ | refine Reg.pur rfl rfl rfl rfl (Pur.add64 rfl rfl (by assumption)) ?_ | refine Reg.pur rfl rfl rfl rfl (Pur.add rfl rfl) ?_
    refine Reg.pur rfl rfl rfl rfl (Pur.mv rfl) ?_
    refine Reg.nil ?_
    first | (rw [g3, List.set_set, show (L[i].set 2 (IntKind.i64.wrap (L[i].getD 2 0 + by'))).set 3 (IntKind.i64.wrap (L[i].getD 3 0 + by')) = movS by' L[i] by unfold movS; rw [if_pos (of_decide_eq_true hb2)], hms] at t4; exact At.via (ih (i + 1, _) H4 ⟨by omega, (hE.upd hu3 hgH).upd hu4 hgH, .inr ⟨hgH, rfl, hu4.own, t4⟩⟩ (by simp only; omega)) ⟨rfl, rfl, rfl, rfl, trivial⟩) | (rw [← mid_same by' hlt (by unfold movS; rw [if_neg (of_decide_eq_false hb2)])] at htk; exact At.via (ih (i + 1, c) _ ⟨by omega, hE, .inr ⟨hgH, rfl, hO, htk⟩⟩ (by simp only; omega)) ⟨rfl, rfl, rfl, rfl, trivial⟩)
  refine At.region rfl rfl ?_
  refine Reg.pur rfl rfl rfl rfl (Pur.mv rfl) ?_
  refine Reg.pur rfl rfl rfl rfl (Pur.asg rfl) ?_
  refine Reg.nil ?_
  refine At.ret rfl Try.func88 rfl ?_
  simp only [decide_eq_false_iff_not] at hb1
  refine ⟨⟨A', cap', rfl, hI.imp id (fun ⟨h1, h2, _⟩ => ⟨g, h1, h2⟩)⟩, ?_, hE⟩
  rcases hI with h0 | ⟨h1, rfl, hO, htk⟩
  · obtain rfl : L = [] := List.length_eq_zero_iff.1 h0
    exact ⟨A', cap', rfl, by simp, hc2, hc3, .inl rfl⟩
  · rw [mid_all by' L (by omega)] at htk
    have := sl_of (L := L.map (movS by')) (o := 0) (wide9 (nine_mov hL)) (by decide) hO.blk (by rw [List.drop_zero, List.length_map]; exact htk) (by rw [List.length_map]; exact hc1) hc2
    rw [List.length_map] at this
    exact this
end Go.Proofs.Ytlfillhffpiffaa

namespace Go.Proofs.Ytlfillhffpiffaa
set_option linter.unusedSimpArgs false
set_option linter.unusedVariables false
set_option maxRecDepth 8000
open Go Go.Fx Go.Proofs
namespace FactsSubG
theorem ag25 : ag Try.prog 25 = some 1 := by kernel_rfl
theorem ag47 : ag Try.prog 47 = some 9 := by kernel_rfl
theorem apt23 : appT Try.prog 23 = some (47, 9, 72) := by kernel_rfl
theorem eqt47 : eqT Try.prog 47 = some [.int .i64, .int .i64, .int .i64, .int .i64, .int .i64, .int .i64, .int .i64, .int .i64, .int .i64] := by kernel_rfl
theorem es23 : esz Try.prog 23 = some 9 := by kernel_rfl
theorem fo25_0 : foff Try.prog 25 0 = some 0 := by kernel_rfl
theorem isl23 : isSl Try.prog 23 = true := by kernel_rfl
theorem mixed : Try.prog.follows .mixedOrders = true := by kernel_rfl
theorem pl25 : places Try.prog 25 = some [(0, 1)] := by kernel_rfl
theorem sc23 : sc Try.prog 23 = true := by kernel_rfl
theorem slA23 : slA Try.prog 23 = some (47, 9) := by kernel_rfl
theorem zc25 : zc Try.prog 25 = some [.slice none 0 0] := by kernel_rfl
end FactsSubG
open FactsSubG

theorem own_slice {H : Heap} {B : Nat} {ty : TypeId} {v : Value} {n s : Nat} {xs : List Value} (h : OwnS H B ty s v n xs) : ∃ A cap, v = .slice A n cap ∧ (∀ g, v.ownBlock = some g → B ≤ g) := by
  obtain ⟨_, ⟨rfl, rfl⟩ | ⟨g, cap, cur, rfl, h2, _⟩⟩ := h
  · exact ⟨none, 0, rfl, fun g h => by cases h⟩
  · exact ⟨_, _, rfl, fun g' h => by simp only [Value.ownBlock, Option.some.injEq] at h; omega⟩

theorem sameN_ok {A A' : Option Addr} {cap cap' : Nat} {L L' : List (List Int)} (hL : Nine L) (hL' : Nine L') {H : Heap} (hS : SlT H Is 9 (.slice A L.length cap) L) (hS' : SlT H Is 9 (.slice A' L'.length cap') L') (hm : L.length ≤ 9223372036854775807) :
    Ret Try.prog 61 [.slice A L.length cap, .slice A' L'.length cap'] H (fun v H' => v = .bool (decide (L = L')) ∧ H' = H) := by
  refine Ret.of_at (N := 26) Try.call61 Try.func61 rfl rfl rfl ?_
  refine At.region rfl rfl ?_
  refine Reg.pur rfl rfl rfl rfl (Pur.asg rfl) ?_
  refine Reg.nil ?_
  refine At.region rfl rfl ?_
  refine Reg.pur rfl rfl rfl rfl (Pur.mv rfl) ?_
  refine Reg.pur rfl rfl rfl rfl (Pur.lenS isl23 rfl) ?_
  refine Reg.pur rfl rfl rfl rfl (Pur.mv rfl) ?_
  refine Reg.pur rfl rfl rfl rfl (Pur.lenS isl23 rfl) ?_
  refine Reg.pur rfl rfl rfl rfl (Pur.neq rfl rfl) ?_
  refine Reg.nil ?_
  refine At.cond rfl rfl (fun hb1 => ?_) (fun hb1 => ?_)
  · refine At.region rfl rfl ?_
    refine Reg.pur rfl rfl rfl rfl (Pur.asg rfl) ?_
    refine Reg.nil ?_
    refine At.ret rfl Try.func61 rfl ?_
    first | exact ⟨congrArg Value.bool (decide_eq_false (fun h => by subst h; rw [hq] at hb3; simp at hb3)).symm, rfl⟩ | exact ⟨congrArg Value.bool (decide_eq_true (by simp only [decide_eq_false_iff_not] at hb2; rwa [List.take_of_length_le (by omega), List.take_of_length_le (by omega)] at hgo)).symm, rfl⟩ | exact ⟨congrArg Value.bool (decide_eq_false (fun h => by subst h; simp at hb1)).symm, rfl⟩
  refine At.region rfl rfl ?_
  refine Reg.pur rfl rfl rfl rfl (Pur.asg rfl) ?_
  refine Reg.nil ?_
  have hll : L.length = L'.length := by simp at hb1; omega
  refine At.loop (σ := Nat) (fun i => [(5, I i), (0, .slice A L.length cap), (1, .slice A' L'.length cap')]) (fun i H' => i ≤ L.length ∧ H' = H ∧ L.take i = L'.take i) (fun i => L.length - i) 0 rfl ⟨rfl, rfl, rfl, trivial⟩ ⟨by omega, rfl, rfl⟩ ?_
  rintro i H1 ⟨hi, rfl, hgo⟩ ih
  refine At.region rfl rfl ?_
  refine Reg.pur rfl rfl rfl rfl (Pur.mv rfl) ?_
  refine Reg.pur rfl rfl rfl rfl (Pur.mv rfl) ?_
  refine Reg.pur rfl rfl rfl rfl (Pur.lenS isl23 rfl) ?_
  refine Reg.pur rfl rfl rfl rfl (Pur.lss rfl rfl) ?_
  refine Reg.nil ?_
  refine At.cond rfl rfl (fun hb2 => ?_) (fun hb2 => ?_)
  · simp only [decide_eq_true_eq] at hb2
    have hlt : i < L.length := by omega
    have hlt' : i < L'.length := by omega
    obtain ⟨b, o, c, rfl, hB, hd, h9⟩ := sl_at (wide9 hL) hS hlt
    obtain ⟨b', o', c', rfl, hB', hd', h9'⟩ := sl_at (wide9 hL') hS' hlt'
    have hf := fks_ints .i64 L[i]
    have hf' := fks_ints .i64 L'[i]
    rw [hL _ (List.getElem_mem hlt)] at hf
    rw [hL' _ (List.getElem_mem hlt')] at hf'
    have hq := eqs_ints .i64 L[i] L'[i]
    refine At.draw (fun H' => Blk H' b c ∧ Blk H' b' c') [] mixed rfl rfl ?_
    refine RegD.tpur (i := 0) rfl rfl rfl rfl (by kernel_rfl) (Pur.mv rfl) ?_
    refine RegD.tpur (i := 1) rfl rfl rfl rfl (by kernel_rfl) (Pur.mv rfl) ?_
    refine RegD.tpur (i := 2) rfl rfl rfl rfl (by kernel_rfl) (Pur.idx _ es23 rfl rfl (by omega) hb2) ?_
    refine RegD.take (i := 3) rfl rfl rfl rfl (by kernel_rfl) ⟨hB, hB'⟩ (fun H hS => Lod.ldn ag47 rfl hS.1 hd h9) ?_
    refine RegD.tpur (i := 4) rfl rfl rfl rfl (by kernel_rfl) (Pur.mv rfl) ?_
    refine RegD.tpur (i := 5) rfl rfl rfl rfl (by kernel_rfl) (Pur.mv rfl) ?_
    refine RegD.tpur (i := 6) rfl rfl rfl rfl (by kernel_rfl) (Pur.idx _ es23 rfl rfl (by omega) (by omega)) ?_
    refine RegD.take (i := 7) rfl rfl rfl rfl (by kernel_rfl) ⟨hB, hB'⟩ (fun H hS => Lod.ldn ag47 rfl hS.2 hd' h9') ?_
    refine RegD.tpur (i := 8) rfl rfl rfl rfl (by kernel_rfl) (Pur.neA eqt47 rfl rfl hf hf') ?_
    refine RegD.done (by kernel_rfl) ?_
    refine At.cond rfl rfl (fun hb3 => ?_) (fun hb3 => ?_)
    · refine At.region rfl rfl ?_
      refine Reg.pur rfl rfl rfl rfl (Pur.asg rfl) ?_
      refine Reg.nil ?_
      refine At.ret rfl Try.func61 rfl ?_
      first | exact ⟨congrArg Value.bool (decide_eq_false (fun h => by subst h; rw [hq] at hb3; simp at hb3)).symm, rfl⟩ | exact ⟨congrArg Value.bool (decide_eq_true (by simp only [decide_eq_false_iff_not] at hb2; rwa [List.take_of_length_le (by omega), List.take_of_length_le (by omega)] at hgo)).symm, rfl⟩ | exact ⟨congrArg Value.bool (decide_eq_false (fun h => by subst h; simp at hb1)).symm, rfl⟩
    refine At.region rfl rfl ?_
    refine Reg.pur rfl rfl rfl rfl (Pur.mv rfl) ?_
    first | refine Reg.pur rfl rfl rfl rfl (Pur.add64 rfl rfl (by omega)) ?_ | refine Reg.pur rfl rfl rfl rfl (Pur.add64 rfl rfl (by assumption)) ?_ | refine Reg.pur rfl rfl rfl rfl (Pur.add rfl rfl) ?_
    refine Reg.pur rfl rfl rfl rfl (Pur.asg rfl) ?_
    refine Reg.nil ?_
    refine At.via (ih (i + 1) _ ⟨by omega, rfl, ?_⟩ (by omega)) ⟨rfl, rfl, rfl, trivial⟩
    rw [hq] at hb3
    rw [List.take_succ_eq_append_getElem hlt, List.take_succ_eq_append_getElem hlt', hgo, show L[i] = L'[i] by simpa using hb3]
  refine At.region rfl rfl ?_
  refine Reg.pur rfl rfl rfl rfl (Pur.asg rfl) ?_
  refine Reg.nil ?_
  refine At.ret rfl Try.func61 rfl ?_
  first | exact ⟨congrArg Value.bool (decide_eq_false (fun h => by subst h; rw [hq] at hb3; simp at hb3)).symm, rfl⟩ | exact ⟨congrArg Value.bool (decide_eq_true (by simp only [decide_eq_false_iff_not] at hb2; rwa [List.take_of_length_le (by omega), List.take_of_length_le (by omega)] at hgo)).symm, rfl⟩ | exact ⟨congrArg Value.bool (decide_eq_false (fun h => by subst h; simp at hb1)).symm, rfl⟩

theorem sameType_ok {A A' : Option Addr} {cap cap' : Nat} {L L' : List (List Int)} (hL : Nine L) (hL' : Nine L') {H : Heap} (hS : SlT H Is 9 (.slice A L.length cap) L) (hS' : SlT H Is 9 (.slice A' L'.length cap') L') (hm : L.length ≤ 9223372036854775807) :
    Ret Try.prog 24 [Ty A L.length cap, Ty A' L'.length cap'] H (fun v H' => v = .bool (decide (L = L')) ∧ Ext H H') := by
  refine Ret.of_at (N := 10) Try.call24 Try.func24 rfl rfl rfl ?_
  refine At.region rfl rfl ?_
  refine Reg.op rfl rfl rfl rfl (Does.box rfl rfl) ?_
  rintro _ H1 ⟨rfl, hn1⟩
  refine Reg.op rfl rfl rfl rfl (Does.box rfl rfl) ?_
  rintro _ H2 ⟨rfl, hn2⟩
  refine Reg.pur rfl rfl rfl rfl (Pur.asg rfl) ?_
  refine Reg.nil ?_
  refine At.region rfl rfl ?_
  refine Reg.pur rfl rfl rfl rfl (Pur.fld _ fo25_0 rfl) ?_
  refine Reg.lod rfl rfl rfl rfl (Lod.ld sc23 rfl ((hn1.own.ext hn2.ext).blk) rfl) ?_
  refine Reg.pur rfl rfl rfl rfl (Pur.fld _ fo25_0 rfl) ?_
  refine Reg.lod rfl rfl rfl rfl (Lod.ld sc23 rfl hn2.own.blk rfl) ?_
  refine Reg.op rfl rfl rfl rfl (Does.call rfl (sameN_ok hL hL' (hS.ext (hn1.ext.trans hn2.ext)) (hS'.ext (hn1.ext.trans hn2.ext)) hm)) ?_
  rintro _ H2 ⟨rfl, rfl⟩
  refine Reg.pur rfl rfl rfl rfl (Pur.asg rfl) ?_
  refine Reg.nil ?_
  refine At.ret rfl Try.func24 rfl ?_
  exact ⟨rfl, hn1.ext.trans hn2.ext⟩
end Go.Proofs.Ytlfillhffpiffaa

namespace Go.Proofs.Ytlfillhffpiffaa
set_option linter.unusedSimpArgs false
set_option linter.unusedVariables false
set_option maxRecDepth 8000
open Go Go.Fx Go.Proofs
namespace FactsSubH
theorem es23 : esz Try.prog 23 = some 9 := by kernel_rfl
theorem fo25_0 : foff Try.prog 25 0 = some 0 := by kernel_rfl
theorem fo47_1 : foff Try.prog 47 1 = some 1 := by kernel_rfl
theorem isl23 : isSl Try.prog 23 = true := by kernel_rfl
theorem sc23 : sc Try.prog 23 = true := by kernel_rfl
theorem sc3 : sc Try.prog 3 = true := by kernel_rfl
end FactsSubH
open FactsSubH

end Go.Proofs.Ytlfillhffpiffaa

namespace Go.Proofs.Ytlfillhffpiffaa
set_option linter.unusedSimpArgs false
set_option linter.unusedVariables false
set_option maxRecDepth 8000
open Go Go.Fx Go.Proofs

theorem bgn_all (L : List (List Int)) : ∀ (f : Nat) (z : Int), 0 ≤ z → 0 ≤ bgn L f z → ∀ i : Int, bgn L f z ≤ i → i ≤ z → (el L i).getD 0 0 = 3 →
    (el L i).getD 3 0 = i - 1 ∧ 0 ≤ (el L i).getD 2 0 ∧ (el L i).getD 2 0 < i - 1 ∧ 1 ≤ i
  | 0, z, h0, h, i, _, _, _ => by simp only [bgn] at h; omega
  | f + 1, z, h0, h, i, h1, h2, h3 => by
    rw [bgn_succ] at h h1
    by_cases hk : (el L z).getD 0 0 ≠ 3
    · rw [if_pos hk] at h1
      have : i = z := by omega
      subst this; exact (hk h3).elim
    · rw [if_neg hk] at h h1
      by_cases hb : z = 0 ∨ (el L z).getD 3 0 ≠ z - 1
      · rw [if_pos hb] at h; omega
      · rw [if_neg hb] at h h1
        by_cases hc : bgn L f ((el L z).getD 3 0) < 1 ∨ (el L z).getD 2 0 ≠ bgn L f ((el L z).getD 3 0) - 1
        · rw [if_pos hc] at h; omega
        · rw [if_neg hc] at h h1
          have hB : (el L z).getD 3 0 = z - 1 := by omega
          have hle := bgn_le L f ((el L z).getD 3 0) (by omega)
          by_cases hi : i = z
          · subst hi; omega
          · by_cases hi2 : bgn L f ((el L z).getD 3 0) ≤ i
            · exact bgn_all L f _ (by omega) (by omega) i hi2 (by omega) h3
            · exact bgn_all L f _ (by omega) h i h1 (by omega) h3

theorem typM_all {L : List (List Int)} (h : typM L = true) {i : Nat} (hi : i < L.length) (hk : L[i].getD 0 0 = 3) :
    L[i].getD 3 0 = (i : Int) - 1 ∧ 0 ≤ L[i].getD 2 0 ∧ L[i].getD 2 0 < (i : Int) - 1 ∧ 1 ≤ i := by
  unfold typM at h
  simp only [Bool.and_eq_true, decide_eq_true_eq] at h
  obtain ⟨⟨h1, _⟩, h2⟩ := h
  have hel : el L (i : Int) = L[i] := by simp [el, List.getD_eq_getElem?_getD, List.getElem?_eq_getElem hi]
  have := bgn_all L L.length ((L.length : Int) - 1) (by omega) (by omega) i (by omega) (by omega) (by rw [hel]; exact hk)
  rw [hel] at this
  omega
theorem typM_nod {L : List (List Int)} (h : typM L = true) {i : Nat} (hi : i < L.length) : nodM L[i] = true := by
  unfold typM at h
  simp only [Bool.and_eq_true, decide_eq_true_eq, List.all_eq_true] at h
  exact h.1.2 _ (List.getElem_mem hi)
end Go.Proofs.Ytlfillhffpiffaa

namespace Go.Proofs.Ytlfillhffpiffaa
set_option linter.unusedSimpArgs false
set_option linter.unusedVariables false
set_option maxRecDepth 8000
open Go Go.Fx Go.Proofs
namespace FactsSchC
theorem apt54 : appT Try.prog 54 = some (3, 1, 8) := by kernel_rfl
theorem es54 : esz Try.prog 54 = some 1 := by kernel_rfl
theorem fo147_0 : foff Try.prog 147 0 = some 0 := by kernel_rfl
theorem fo147_1 : foff Try.prog 147 1 = some 1 := by kernel_rfl
theorem isl54 : isSl Try.prog 54 = true := by kernel_rfl
theorem sc3 : sc Try.prog 3 = true := by kernel_rfl
theorem sc54 : sc Try.prog 54 = true := by kernel_rfl
theorem sl1_54 : sl1 Try.prog 54 = true := by kernel_rfl
end FactsSchC
open FactsSchC

def addL (T : List Int) (v : Int) : List Int := if inL T v then T else T ++ [v]
theorem addL_len (T : List Int) (v : Int) : (addL T v).length ≤ T.length + 1 := by unfold addL; split <;> simp
structure Nm (H : Heap) (nb B : Nat) (A1 : Option Addr) (c1 : Nat) (T : List Int) (A2 : Option Addr) (c2 : Nat) (R : List Int) : Prop where
  own : Own H nb [.slice A1 T.length c1, .slice A2 R.length c2]
  g1 : Gs H B 3 1 A1 c1 T.length (T.flatMap e1)
  g2 : Gs H B 3 1 A2 c2 R.length (R.flatMap e1)
  d1 : ob A1 = -1 ∨ ob A1 ≠ ob A2
  d2 : ob A1 ≠ nb
  d3 : ob A2 ≠ nb
  lo : B ≤ H.size
def Mod (nb : Nat) (A1 A2 A1' A2' : Option Addr) (H H' : Heap) : Prop :=
  But (fun g => g = nb ∨ (g : Int) = ob A1 ∨ (g : Int) = ob A2) H H' ∧ (ob A1' = ob A1 ∨ (H.size : Int) ≤ ob A1') ∧ (ob A2' = ob A2 ∨ (H.size : Int) ≤ ob A2')
theorem Mod.refl (nb : Nat) (A1 A2 : Option Addr) (H : Heap) : Mod nb A1 A2 A1 A2 H H := ⟨But.refl _ _, .inl rfl, .inl rfl⟩
theorem Mod.trans {nb : Nat} {A1 A2 B1 B2 C1 C2 : Option Addr} {H H' H'' : Heap} (h : Mod nb A1 A2 B1 B2 H H') (k : Mod nb B1 B2 C1 C2 H' H'') : Mod nb A1 A2 C1 C2 H H'' := by
  obtain ⟨h1, h2, h3⟩ := h
  obtain ⟨k1, k2, k3⟩ := k
  have hs := h1.1
  refine ⟨⟨Nat.le_trans h1.1 k1.1, fun b hb hS => ?_⟩, by omega, by omega⟩
  rw [k1.2 b (by omega) (fun hk => hS (by dsimp only at hk ⊢; omega)), h1.2 b hb hS]
theorem Nm.ext {H H' : Heap} {nb B : Nat} {A1 A2 : Option Addr} {c1 c2 : Nat} {T R : List Int} (h : Nm H nb B A1 c1 T A2 c2 R) (he : Ext H H') : Nm H' nb B A1 c1 T A2 c2 R :=
  ⟨h.own.ext he, h.g1.ext he, h.g2.ext he, h.d1, h.d2, h.d3, Nat.le_trans h.lo he.1⟩

theorem set_same {α : Type} {cs : List α} {o : Nat} {v : α} (hc : cs[o]? = some v) : cs.set o v = cs := by
  apply List.ext_getElem?
  intro j
  by_cases h : o = j
  · subst h
    have : o < cs.length := by
      rcases Nat.lt_or_ge o cs.length with h | h
      · exact h
      · rw [List.getElem?_eq_none h] at hc; cases hc
    rw [List.getElem?_set_self this, hc]
  · rw [List.getElem?_set_ne h]
theorem name_ok {nb o B cap : Nat} {A : Option Addr} {cs : List Value} (T : List Int) (v : Int) {H : Heap} (ho : Own H nb cs) (hc : cs[o]? = some (.slice A T.length cap)) (hg : Gs H B 3 1 A cap T.length (T.flatMap e1)) (hd : ob A ≠ nb) (hB : B ≤ H.size) (hm : T.length ≤ 1000000) :
    Ret Try.prog 138 [ptr nb o, I v] H (fun r H' => ∃ A' cap', r = I (ixL T v) ∧ Own H' nb (cs.set o (.slice A' (addL T v).length cap')) ∧ Gs H' B 3 1 A' cap' (addL T v).length ((addL T v).flatMap e1) ∧ But (fun g => g = nb ∨ (g : Int) = ob A) H H' ∧ (ob A' = ob A ∨ (H.size : Int) ≤ ob A')) := by
  have hol : o < cs.length := by
    rcases Nat.lt_or_ge o cs.length with h | h
    · exact h
    · rw [List.getElem?_eq_none h] at hc; cases hc
  refine Ret.of_at (N := 26) Try.call138 Try.func138 rfl rfl rfl ?_
  have hE := Ext.refl H
  have z_ho := ho.lt
  have z_hg := hg.lt
  refine At.region rfl rfl ?_
  refine Reg.pur rfl rfl rfl rfl (Pur.asg rfl) ?_
  refine Reg.nil ?_
  refine At.region rfl rfl ?_
  refine Reg.pur rfl rfl rfl rfl (Pur.mv rfl) ?_
  refine Reg.pur rfl rfl rfl rfl (Pur.nilc rfl) ?_
  refine Reg.lod rfl rfl rfl rfl (Lod.ld sc54 rfl ho.blk hc) ?_
  refine Reg.pur rfl rfl rfl rfl (Pur.mv rfl) ?_
  refine Reg.op rfl rfl rfl rfl (Does.call rfl (index_ok T (own_sl (wide1 T) (by decide) hg) (by omega) v)) ?_
  rintro _ H ⟨rfl, rfl⟩
  refine Reg.pur rfl rfl rfl rfl (Pur.asg rfl) ?_
  refine Reg.nil ?_
  refine At.region rfl rfl ?_
  refine Reg.pur rfl rfl rfl rfl (Pur.mv rfl) ?_
  refine Reg.pur rfl rfl rfl rfl (Pur.lss rfl rfl) ?_
  refine Reg.nil ?_
  refine At.cond rfl rfl (fun q12 => ?_) (fun q12 => ?_)
  · first | (simp only [decide_eq_true_eq, decide_eq_false_iff_not, Bool.not_eq_true', Bool.not_eq_false', ne_eq, Decidable.not_not, Bool.not_eq_true, Bool.not_eq_false] at q12) | (dsimp only at q12) | skip
    have hni : inL T v = false := by { cases h : inL T v with | false => rfl | true => rw [h] at q12; simp at q12; omega }
    have hix : ixL T v = T.length := by { have := ixL_le T v; simp [inL] at hni; omega }
    have had : addL T v = T ++ [v] := by unfold addL; rw [hni]; rfl
    refine At.region rfl rfl ?_
    refine Reg.pur rfl rfl rfl rfl (Pur.mv rfl) ?_
    refine Reg.pur rfl rfl rfl rfl (Pur.nilc rfl) ?_
    refine Reg.lod rfl rfl rfl rfl (Lod.ld sc54 rfl ho.blk hc) ?_
    refine Reg.pur rfl rfl rfl rfl (Pur.lenS isl54 rfl) ?_
    refine Reg.pur rfl rfl rfl rfl (Pur.asg rfl) ?_
    refine Reg.nil ?_
    refine At.region rfl rfl ?_
    refine Reg.pur rfl rfl rfl rfl (Pur.mv rfl) ?_
    refine Reg.pur rfl rfl rfl rfl (Pur.mv rfl) ?_
    refine Reg.pur rfl rfl rfl rfl (Pur.nilc rfl) ?_
    refine Reg.lod rfl rfl rfl rfl (Lod.ld sc54 rfl ho.blk hc) ?_
    refine Reg.pur rfl rfl rfl rfl (Pur.mv rfl) ?_
    refine Reg.op rfl rfl rfl rfl (Does.bsl1T sl1_54 Try.underlying54 rfl rfl rfl rfl rfl) ?_
    rintro _ H4_5 ⟨rfl, hp4_5⟩
    have hn4_5 := New.of_eq hp4_5
    have z4_5 := hn4_5.size
    replace ho := ho.ext hn4_5.ext
    replace hg := hg.ext hn4_5.ext
    have o4_5 := hn4_5.own
    refine Reg.op rfl rfl rfl rfl (Does.appL apt54 rfl rfl (by decide) hg (wide1 _) (sl_new (L := [v]) (wide1 _) (by decide) hn4_5 (by simp)) (ones_e1 _) (by simp; omega) (by omega)) ?_
    rintro _ H4_6 ⟨A4_6, cap4_6, rfl, g4_6, hbut4_6, ha4_6⟩
    have z4_6 := hbut4_6.lt
    replace ho := ho.via hbut4_6 (by first | omega | (intro g; omega) | (intro g hg; omega) | (intro g hg h; omega))
    replace o4_5 := o4_5.via hbut4_6 (by first | omega | (intro g; omega) | (intro g hg; omega) | (intro g hg h; omega))
    replace hg := g4_6
    have zg4_6 := g4_6.lt
    refine Reg.pur rfl rfl rfl rfl (Pur.nilc rfl) ?_
    refine Reg.op0 rfl rfl rfl (Does.st sc54 rfl rfl rfl ho hol) ?_
    rintro _ H4_8 hu4_8
    have z4_8 := hu4_8.size
    replace hg := hg.upw hu4_8 (by omega)
    replace o4_5 := o4_5.upw hu4_8 (by omega)
    replace ho := hu4_8.own
    refine Reg.nil ?_
    refine At.region rfl rfl ?_
    refine Reg.pur rfl rfl rfl rfl (Pur.mv rfl) ?_
    refine Reg.pur rfl rfl rfl rfl (Pur.asg rfl) ?_
    refine Reg.nil ?_
    refine At.ret rfl Try.func138 rfl ?_
    rw [← had] at hg ho
    refine ⟨A4_6, cap4_6, ?_, ho, hg, (hn4_5.ext.but (S := fun g => g = nb ∨ (g : Int) = ob A)).trans ((hbut4_6.mono (fun b hb h => Or.inr h)).trans (hu4_8.but.mono (fun b hb h => Or.inl h))), by omega⟩
    rw [hix]
  first | (simp only [decide_eq_true_eq, decide_eq_false_iff_not, Bool.not_eq_true', Bool.not_eq_false', ne_eq, Decidable.not_not, Bool.not_eq_true, Bool.not_eq_false] at q12) | (dsimp only at q12) | skip
  refine At.region rfl rfl ?_
  refine Reg.pur rfl rfl rfl rfl (Pur.mv rfl) ?_
  refine Reg.pur rfl rfl rfl rfl (Pur.asg rfl) ?_
  refine Reg.nil ?_
  refine At.ret rfl Try.func138 rfl ?_
  have hin : inL T v = true := by { cases h : inL T v with | true => rfl | false => exact absurd (by rw [h]; simp) q12 }
  have had : addL T v = T := by unfold addL; rw [hin]; rfl
  rw [had]
  exact ⟨A, cap, by rw [hin]; rfl, ho.of (set_same hc).symm, hg, But.refl _ _, .inl rfl⟩

theorem nm_Type {nb B c1 c2 : Nat} {A1 A2 : Option Addr} {T R : List Int} (v : Int) {H : Heap} (h : Nm H nb B A1 c1 T A2 c2 R) (hm : T.length ≤ 1000000) :
    Ret Try.prog 122 [ptr nb 0, I v] H (fun r H' => r = I (ixL T v) ∧ ∃ A1' c1', Nm H' nb B A1' c1' (addL T v) A2 c2 R ∧ Mod nb A1 A2 A1' A2 H H') := by
  obtain ⟨ho, hg1, hg2, hd1, hd2, hd3, hlo⟩ := h
  have z1 := hg1.lt
  have z2 := hg2.lt
  have hnb := ho.lt
  refine Ret.of_at (N := 10) Try.call122 Try.func122 rfl rfl rfl ?_
  have hE := Ext.refl H

  refine At.region rfl rfl ?_
  refine Reg.pur rfl rfl rfl rfl (Pur.asg rfl) ?_
  refine Reg.nil ?_
  refine At.region rfl rfl ?_
  refine Reg.pur rfl rfl rfl rfl (Pur.mv rfl) ?_
  refine Reg.pur rfl rfl rfl rfl (Pur.nilc rfl) ?_
  refine Reg.pur rfl rfl rfl rfl (Pur.fld _ fo147_0 rfl) ?_
  refine Reg.pur rfl rfl rfl rfl (Pur.mv rfl) ?_
  refine Reg.op rfl rfl rfl rfl (Does.call rfl (name_ok T v ho rfl hg1 hd2 hlo hm)) ?_
  rintro _ H1_4 ⟨A', cap', rfl, ho1_4, hg1_4, hbut1_4, ha1_4⟩
  have z1_4 := hbut1_4.lt
  refine Reg.pur rfl rfl rfl rfl (Pur.asg rfl) ?_
  refine Reg.nil ?_
  refine At.ret rfl Try.func122 rfl ?_
  refine ⟨rfl, A', cap', ⟨ho1_4, hg1_4, hg2.via hbut1_4 (fun g hg h => by omega), by omega, by omega, hd3, by have := hbut1_4.lt; omega⟩, ⟨hbut1_4.mono (fun b hb h => by omega), ha1_4, .inl rfl⟩⟩
theorem nm_Row {nb B c1 c2 : Nat} {A1 A2 : Option Addr} {T R : List Int} (v : Int) {H : Heap} (h : Nm H nb B A1 c1 T A2 c2 R) (hm : R.length ≤ 1000000) :
    Ret Try.prog 123 [ptr nb 0, I v] H (fun r H' => r = I (ixL R v) ∧ ∃ A2' c2', Nm H' nb B A1 c1 T A2' c2' (addL R v) ∧ Mod nb A1 A2 A1 A2' H H') := by
  obtain ⟨ho, hg1, hg2, hd1, hd2, hd3, hlo⟩ := h
  have z1 := hg1.lt
  have z2 := hg2.lt
  have hnb := ho.lt
  refine Ret.of_at (N := 10) Try.call123 Try.func123 rfl rfl rfl ?_
  have hE := Ext.refl H

  refine At.region rfl rfl ?_
  refine Reg.pur rfl rfl rfl rfl (Pur.asg rfl) ?_
  refine Reg.nil ?_
  refine At.region rfl rfl ?_
  refine Reg.pur rfl rfl rfl rfl (Pur.mv rfl) ?_
  refine Reg.pur rfl rfl rfl rfl (Pur.nilc rfl) ?_
  refine Reg.pur rfl rfl rfl rfl (Pur.fld _ fo147_1 rfl) ?_
  refine Reg.pur rfl rfl rfl rfl (Pur.mv rfl) ?_
  refine Reg.op rfl rfl rfl rfl (Does.call rfl (name_ok R v ho rfl hg2 hd3 hlo hm)) ?_
  rintro _ H1_4 ⟨A', cap', rfl, ho1_4, hg1_4, hbut1_4, ha1_4⟩
  have z1_4 := hbut1_4.lt
  refine Reg.pur rfl rfl rfl rfl (Pur.asg rfl) ?_
  refine Reg.nil ?_
  refine At.ret rfl Try.func123 rfl ?_
  refine ⟨rfl, A', cap', ⟨ho1_4, hg1.via hbut1_4 (fun g hg h => by omega), hg1_4, by omega, hd2, by omega, by have := hbut1_4.lt; omega⟩, ⟨hbut1_4.mono (fun b hb h => by omega), .inl rfl, ha1_4⟩⟩

end Go.Proofs.Ytlfillhffpiffaa

namespace Go.Proofs.Ytlfillhffpiffaa
set_option linter.unusedSimpArgs false
set_option linter.unusedVariables false
set_option maxRecDepth 8000
open Go Go.Fx Go.Proofs
namespace FactsSchD
theorem fo28_1 : foff Try.prog 28 1 = some 4 := by kernel_rfl
theorem fo47_0 : foff Try.prog 47 0 = some 0 := by kernel_rfl
theorem fo47_1 : foff Try.prog 47 1 = some 1 := by kernel_rfl
theorem fo47_4 : foff Try.prog 47 4 = some 4 := by kernel_rfl
theorem mixed : Try.prog.follows .mixedOrders = true := by kernel_rfl
theorem sc146 : sc Try.prog 146 = true := by kernel_rfl
theorem sc3 : sc Try.prog 3 = true := by kernel_rfl
end FactsSchD
open FactsSchD

abbrev Nms := List Int × List Int
def see (n : Nms) (x : List Int) : Nms := if x.getD 0 0 = 2 then (addL n.1 (x.getD 1 0), n.2) else if x.getD 0 0 = 3 ∧ x.getD 8 0 ≠ -1 then (n.1, addL n.2 (x.getD 8 0)) else n
def ord (L : List (List Int)) : Nat → Int → List (List Int)
  | 0, _ => []
  | f + 1, z => if (el L z).getD 0 0 ≠ 3 then [el L z] else ord L f ((el L z).getD 2 0) ++ el L z :: ord L f ((el L z).getD 3 0)
theorem ord_succ (L : List (List Int)) (f : Nat) (z : Int) : ord L (f + 1) z = if (el L z).getD 0 0 ≠ 3 then [el L z] else ord L f ((el L z).getD 2 0) ++ el L z :: ord L f ((el L z).getD 3 0) := rfl
def nms (n : Nms) (l : List (List Int)) : Nms := l.foldl see n
theorem see_len (n : Nms) (x : List Int) : (see n x).1.length + (see n x).2.length ≤ n.1.length + n.2.length + 1 := by
  have h1 := addL_len n.1 (x.getD 1 0)
  have h2 := addL_len n.2 (x.getD 8 0)
  unfold see; split
  · dsimp only; omega
  · split
    · dsimp only; omega
    · omega
theorem nms_len : ∀ (l : List (List Int)) (n : Nms), (nms n l).1.length + (nms n l).2.length ≤ n.1.length + n.2.length + l.length
  | [], n => by simp [nms]
  | x :: l, n => by
    have h1 := see_len n x
    have h2 := nms_len l (see n x)
    simp only [nms, List.foldl_cons, List.length_cons] at h2 ⊢
    omega
theorem nms_app (n : Nms) (l m : List (List Int)) : nms n (l ++ m) = nms (nms n l) m := List.foldl_append
theorem nms_cons (n : Nms) (x : List Int) (l : List (List Int)) : nms n (x :: l) = nms (see n x) l := rfl
theorem ord_len (L : List (List Int)) : ∀ (f : Nat) (z : Int), 0 ≤ z → 0 ≤ bgn L f z → ((ord L f z).length : Int) = z - bgn L f z + 1
  | 0, z, h0, h => by simp only [bgn] at h; omega
  | f + 1, z, h0, h => by
    rw [bgn_succ] at h ⊢
    rw [ord_succ]
    by_cases hk : (el L z).getD 0 0 ≠ 3
    · rw [if_pos hk, if_pos hk]; simp
    · rw [if_neg hk] at h
      rw [if_neg hk, if_neg hk]
      by_cases hb : z = 0 ∨ (el L z).getD 3 0 ≠ z - 1
      · rw [if_pos hb] at h; omega
      · rw [if_neg hb] at h ⊢
        by_cases hc : bgn L f ((el L z).getD 3 0) < 1 ∨ (el L z).getD 2 0 ≠ bgn L f ((el L z).getD 3 0) - 1
        · rw [if_pos hc] at h; omega
        · rw [if_neg hc] at h ⊢
          have e1 := ord_len L f ((el L z).getD 3 0) (by omega) (by omega)
          have e2 := ord_len L f ((el L z).getD 2 0) (by omega) h
          rw [List.length_append, List.length_cons]
          omega
theorem bgn_fun {L : List (List Int)} {f : Nat} {z : Int} (h : 0 ≤ bgn L (f + 1) z) (hk : (el L z).getD 0 0 = 3) :
    z ≠ 0 ∧ (el L z).getD 3 0 = z - 1 ∧ 1 ≤ bgn L f ((el L z).getD 3 0) ∧ (el L z).getD 2 0 = bgn L f ((el L z).getD 3 0) - 1 ∧ 0 ≤ bgn L f ((el L z).getD 2 0) := by
  rw [bgn_succ, if_neg (by omega)] at h
  by_cases hb : z = 0 ∨ (el L z).getD 3 0 ≠ z - 1
  · rw [if_pos hb] at h; omega
  · rw [if_neg hb] at h
    by_cases hc : bgn L f ((el L z).getD 3 0) < 1 ∨ (el L z).getD 2 0 ≠ bgn L f ((el L z).getD 3 0) - 1
    · rw [if_pos hc] at h; omega
    · rw [if_neg hc] at h; omega

theorem see1_ok {xb xo tb nb B c1 c2 : Nat} {A1 A2 : Option Addr} {T R : List Int} {c : List Value} (x : List Int) {H : Heap} (hX : Blk H xb c) (hx : ∀ j, j < 9 → c[xo + j]? = some (I (x.getD j 0))) (hT : Blk H tb [ptr nb 0]) (h : Nm H nb B A1 c1 T A2 c2 R) (hm : T.length + R.length ≤ 1000000) :
    Ret Try.prog 121 [ptr xb xo, ptr tb 0] H (fun _ H' => ∃ A1' c1' A2' c2', Nm H' nb B A1' c1' (see (T, R) x).1 A2' c2' (see (T, R) x).2 ∧ Mod nb A1 A2 A1' A2' H H') := by
  refine Ret.of_at (N := 36) Try.call121 Try.func121 rfl rfl rfl ?_
  have hE := Ext.refl H

  refine At.region rfl rfl ?_
  refine Reg.pur rfl rfl rfl rfl (Pur.mv rfl) ?_
  refine Reg.pur rfl rfl rfl rfl (Pur.nilc rfl) ?_
  refine Reg.pur rfl rfl rfl rfl (Pur.fld _ fo47_0 rfl) ?_
  refine Reg.lod rfl rfl rfl rfl (Lod.ld sc3 rfl hX (hx 0 (by omega))) ?_
  refine Reg.pur rfl rfl rfl rfl (Pur.eql rfl rfl) ?_
  refine Reg.pur rfl rfl rfl rfl (Pur.asg rfl) ?_
  refine Reg.nil ?_
  refine At.cond rfl rfl (fun q3 => ?_) (fun q3 => ?_)
  · first | (simp only [decide_eq_true_eq, decide_eq_false_iff_not, Bool.not_eq_true', Bool.not_eq_false', ne_eq, Decidable.not_not, Bool.not_eq_true, Bool.not_eq_false] at q3) | (dsimp only at q3) | skip
    refine At.drawE ((Bks.cons hT.blk (Bks.cons hX.blk Bks.nil))) [5] mixed rfl rfl ?_
    refine RegD.take (i := 0) rfl rfl rfl rfl (by kernel_rfl) (Bks.cons hT.blk (Bks.cons hX.blk Bks.nil)) (fun H hS => Lod.ld sc146 rfl hS.hd rfl) ?_
    refine RegD.tpur (i := 1) rfl rfl rfl rfl (by kernel_rfl) (Pur.mv rfl) ?_
    refine RegD.tpur (i := 2) rfl rfl rfl rfl (by kernel_rfl) (Pur.nilc rfl) ?_
    refine RegD.tpur (i := 3) rfl rfl rfl rfl (by kernel_rfl) (Pur.fld _ fo47_1 rfl) ?_
    refine RegD.take (i := 4) rfl rfl rfl rfl (by kernel_rfl) (Bks.cons hT.blk (Bks.cons hX.blk Bks.nil)) (fun H hS => Lod.ld sc3 rfl hS.tl.hd (hx 1 (by omega))) ?_
    skip
    refine RegD.one (i := 5) (by kernel_rfl) rfl rfl rfl rfl (Does.call rfl (nm_Type _ h (by omega))) ?_
    rintro _ H1_5 ⟨rfl, A1', c1', hN1_5, hM1_5⟩
    refine ⟨fun h => (by cases h), ?_⟩
    refine RegD.done (by kernel_rfl) ?_
    refine At.fall rfl Try.func121 rfl ?_
    have hs : see (T, R) x = (addL T (x.getD 1 0), R) := by unfold see; rw [if_pos q3]
    rw [hs]; exact ⟨A1', c1', A2, c2, hN1_5, hM1_5⟩
  first | (simp only [decide_eq_true_eq, decide_eq_false_iff_not, Bool.not_eq_true', Bool.not_eq_false', ne_eq, Decidable.not_not, Bool.not_eq_true, Bool.not_eq_false] at q3) | (dsimp only at q3) | skip
  refine At.region rfl rfl ?_
  refine Reg.pur rfl rfl rfl rfl (Pur.mv rfl) ?_
  refine Reg.pur rfl rfl rfl rfl (Pur.nilc rfl) ?_
  refine Reg.pur rfl rfl rfl rfl (Pur.fld _ fo47_0 rfl) ?_
  refine Reg.lod rfl rfl rfl rfl (Lod.ld sc3 rfl hX (hx 0 (by omega))) ?_
  refine Reg.pur rfl rfl rfl rfl (Pur.eql rfl rfl) ?_
  refine Reg.pur rfl rfl rfl rfl (Pur.mv rfl) ?_
  refine Reg.case 21 rfl (fun q21 => ?_) (fun q21 => ?_)
  · first | (simp only [decide_eq_true_eq, decide_eq_false_iff_not, Bool.not_eq_true', Bool.not_eq_false', ne_eq, Decidable.not_not, Bool.not_eq_true, Bool.not_eq_false] at q21) | (dsimp only at q21) | skip
    refine Reg.gpur rfl rfl rfl rfl rfl rfl (Pur.mv rfl) ?_
    refine Reg.gpur rfl rfl rfl rfl rfl rfl (Pur.nilc rfl) ?_
    refine Reg.gpur rfl rfl rfl rfl rfl rfl (Pur.fld _ fo47_4 rfl) ?_
    refine Reg.gpur rfl rfl rfl rfl rfl rfl (Pur.fld _ fo28_1 rfl) ?_
    refine Reg.glod rfl rfl rfl rfl rfl rfl (Lod.ld sc3 rfl hX (by rw [show xo + 4 + 4 = xo + 8 by omega]; exact hx 8 (by omega))) ?_
    refine Reg.gpur rfl rfl rfl rfl rfl rfl (Pur.neq rfl rfl) ?_
    refine Reg.pur rfl rfl rfl rfl (Pur.pickT rfl rfl) ?_
    refine Reg.pur rfl rfl rfl rfl (Pur.asg rfl) ?_
    refine Reg.nil ?_
    refine At.cond rfl rfl (fun q15 => ?_) (fun q15 => ?_)
    · first | (simp only [decide_eq_true_eq, decide_eq_false_iff_not, Bool.not_eq_true', Bool.not_eq_false', ne_eq, Decidable.not_not, Bool.not_eq_true, Bool.not_eq_false] at q15) | (dsimp only at q15) | skip
      refine At.drawE ((Bks.cons hT.blk (Bks.cons hX.blk Bks.nil))) [6] mixed rfl rfl ?_
      refine RegD.take (i := 0) rfl rfl rfl rfl (by kernel_rfl) (Bks.cons hT.blk (Bks.cons hX.blk Bks.nil)) (fun H hS => Lod.ld sc146 rfl hS.hd rfl) ?_
      refine RegD.tpur (i := 1) rfl rfl rfl rfl (by kernel_rfl) (Pur.mv rfl) ?_
      refine RegD.tpur (i := 2) rfl rfl rfl rfl (by kernel_rfl) (Pur.nilc rfl) ?_
      refine RegD.tpur (i := 3) rfl rfl rfl rfl (by kernel_rfl) (Pur.fld _ fo47_4 rfl) ?_
      refine RegD.tpur (i := 4) rfl rfl rfl rfl (by kernel_rfl) (Pur.fld _ fo28_1 rfl) ?_
      refine RegD.take (i := 5) rfl rfl rfl rfl (by kernel_rfl) (Bks.cons hT.blk (Bks.cons hX.blk Bks.nil)) (fun H hS => Lod.ld sc3 rfl hS.tl.hd (by rw [show xo + 4 + 4 = xo + 8 by omega]; exact hx 8 (by omega))) ?_
      refine RegD.one (i := 6) (by kernel_rfl) rfl rfl rfl rfl (Does.call rfl (nm_Row _ h (by omega))) ?_
      rintro _ H3_6 ⟨rfl, A2', c2', hN3_6, hM3_6⟩
      refine ⟨fun h => (by cases h), ?_⟩
      refine RegD.done (by kernel_rfl) ?_
      refine At.fall rfl Try.func121 rfl ?_
      have hs : see (T, R) x = (T, addL R (x.getD 8 0)) := by unfold see; rw [if_neg q3, if_pos ⟨q21, q15⟩]
      rw [hs]; exact ⟨A1, c1, A2', c2', hN3_6, hM3_6⟩
    first | (simp only [decide_eq_true_eq, decide_eq_false_iff_not, Bool.not_eq_true', Bool.not_eq_false', ne_eq, Decidable.not_not, Bool.not_eq_true, Bool.not_eq_false] at q15) | (dsimp only at q15) | skip
    refine At.fall rfl Try.func121 rfl ?_
    have hs : see (T, R) x = (T, R) := by unfold see; rw [if_neg q3, if_neg (by simp_all)]
    rw [hs]; exact ⟨A1, c1, A2, c2, h, Mod.refl _ _ _ _⟩
  first | (simp only [decide_eq_true_eq, decide_eq_false_iff_not, Bool.not_eq_true', Bool.not_eq_false', ne_eq, Decidable.not_not, Bool.not_eq_true, Bool.not_eq_false] at q21) | (dsimp only at q21) | skip
  refine Reg.skip rfl rfl rfl rfl rfl rfl rfl ?_
  refine Reg.skip rfl rfl rfl rfl rfl rfl rfl ?_
  refine Reg.skip rfl rfl rfl rfl rfl rfl rfl ?_
  refine Reg.skip rfl rfl rfl rfl rfl rfl rfl ?_
  refine Reg.skip rfl rfl rfl rfl rfl rfl rfl ?_
  refine Reg.skip rfl rfl rfl rfl rfl rfl rfl ?_
  refine Reg.pur rfl rfl rfl rfl (Pur.pickF rfl rfl) ?_
  refine Reg.pur rfl rfl rfl rfl (Pur.asg rfl) ?_
  refine Reg.nil ?_
  refine At.condF rfl rfl rfl ?_
  refine At.fall rfl Try.func121 rfl ?_
  have hs : see (T, R) x = (T, R) := by unfold see; rw [if_neg q3, if_neg (by simp_all)]
  rw [hs]; exact ⟨A1, c1, A2, c2, h, Mod.refl _ _ _ _⟩
end Go.Proofs.Ytlfillhffpiffaa

namespace Go.Proofs.Ytlfillhffpiffaa
set_option linter.unusedSimpArgs false
set_option linter.unusedVariables false
set_option maxRecDepth 8000
open Go Go.Fx Go.Proofs
namespace FactsSchE
theorem es23 : esz Try.prog 23 = some 9 := by kernel_rfl
theorem fo25_0 : foff Try.prog 25 0 = some 0 := by kernel_rfl
theorem fo47_0 : foff Try.prog 47 0 = some 0 := by kernel_rfl
theorem fo47_2 : foff Try.prog 47 2 = some 2 := by kernel_rfl
theorem fo47_3 : foff Try.prog 47 3 = some 3 := by kernel_rfl
theorem isl23 : isSl Try.prog 23 = true := by kernel_rfl
theorem sc23 : sc Try.prog 23 = true := by kernel_rfl
theorem sc3 : sc Try.prog 3 = true := by kernel_rfl
end FactsSchE
open FactsSchE

abbrev seeF (tb : Nat) : Value := .func (.func 121) #[] #[ptr tb 0]
structure Off (nb : Nat) (A1 A2 : Option Addr) (b : Int) : Prop where
  h1 : b ≠ nb
  h2 : b ≠ ob A1
  h3 : b ≠ ob A2
theorem Off.not {nb : Nat} {A1 A2 : Option Addr} {b : Nat} (h : Off nb A1 A2 b) : ¬ (b = nb ∨ (b : Int) = ob A1 ∨ (b : Int) = ob A2) := by
  rintro (e | e | e)
  · exact h.h1 (by rw [e])
  · exact h.h2 e
  · exact h.h3 e
theorem Off.mod {nb : Nat} {A1 A2 A1' A2' : Option Addr} {b : Int} {H H' : Heap} (h : Off nb A1 A2 b) (hb : b < H.size) (hM : Mod nb A1 A2 A1' A2' H H') : Off nb A1' A2' b := by
  obtain ⟨_, h1, h2⟩ := hM
  obtain ⟨k1, k2, k3⟩ := h
  exact ⟨k1, by omega, by omega⟩
theorem walk_ok {L : List (List Int)} (hL : Nine L) {A : Option Addr} {cap yb yo tb nb B : Nat} {cy : List Value} (hcy : cy[yo]? = some (.slice A L.length cap)) (hm : L.length ≤ 9223372036854775807) : ∀ (f : Nat) (z : Int), 0 ≤ z → z < L.length → z.toNat < f → 0 ≤ bgn L f z →
    ∀ {H : Heap} {A1 A2 : Option Addr} {c1 c2 : Nat} {T R : List Int}, SlT H Is 9 (.slice A L.length cap) L → Blk H yb cy → Blk H tb [ptr nb 0] → Nm H nb B A1 c1 T A2 c2 R → T.length + R.length + (ord L f z).length ≤ 1000000 →
    Off nb A1 A2 yb → Off nb A1 A2 tb → Off nb A1 A2 (ob A) →
    Ret Try.prog 120 [ptr yb yo, I z, seeF tb] H (fun _ H' => ∃ A1' c1' A2' c2', Nm H' nb B A1' c1' (nms (T, R) (ord L f z)).1 A2' c2' (nms (T, R) (ord L f z)).2 ∧ Mod nb A1 A2 A1' A2' H H') := by
  intro f
  induction f with
  | zero => intro z _ _ h; omega
  | succ f ihf =>
  intro z hz0 hzl hzf hbg H A1 A2 c1 c2 T R hS hY hT hN hlen hoY hoT hoA
  obtain ⟨b, o, c, rfl, hB, hd, hx9, hat⟩ := el_cells hL hS hz0 hzl
  have hfin := ord_succ L f z
  have hfun := bgn_fun hbg
  have hnl := nms_len (ord L f ((el L z).getD 2 0)) (T, R)
  have hsl := see_len ((nms (T, R) (ord L f ((el L z).getD 2 0))).1, (nms (T, R) (ord L f ((el L z).getD 2 0))).2) (el L z)
  generalize el L z = x at hfin hfun hd hx9 hat hnl hsl
  have hob : ob (some ⟨b, o, none⟩) = b := ob_some b o
  rw [hob] at hoA
  have zY := Int.ofNat_lt.2 hY.lt
  have zT := Int.ofNat_lt.2 hT.lt
  have zB := Int.ofNat_lt.2 hB.lt
  refine Ret.of_at (N := 38) Try.call120 Try.func120 rfl rfl rfl ?_
  have hE := Ext.refl H

  refine At.region rfl rfl ?_
  refine Reg.pur rfl rfl rfl rfl (Pur.mv rfl) ?_
  refine Reg.pur rfl rfl rfl rfl (Pur.nilc rfl) ?_
  refine Reg.pur rfl rfl rfl rfl (Pur.fld _ fo25_0 rfl) ?_
  refine Reg.lod rfl rfl rfl rfl (Lod.ld sc23 rfl hY hcy) ?_
  refine Reg.pur rfl rfl rfl rfl (Pur.mv rfl) ?_
  refine Reg.pur rfl rfl rfl rfl (Pur.idx _ es23 rfl rfl (by omega) (by omega)) ?_
  refine Reg.pur rfl rfl rfl rfl (Pur.asg rfl) ?_
  refine Reg.nil ?_
  refine At.region rfl rfl ?_
  refine Reg.pur rfl rfl rfl rfl (Pur.mv rfl) ?_
  refine Reg.pur rfl rfl rfl rfl (Pur.nilc rfl) ?_
  refine Reg.pur rfl rfl rfl rfl (Pur.fld _ fo47_0 rfl) ?_
  refine Reg.lod rfl rfl rfl rfl (Lod.ld sc3 rfl hB (hat 0 (by omega))) ?_
  refine Reg.pur rfl rfl rfl rfl (Pur.neq rfl rfl) ?_
  refine Reg.nil ?_
  refine At.cond rfl rfl (fun q17 => ?_) (fun q17 => ?_)
  · first | (simp only [decide_eq_true_eq, decide_eq_false_iff_not, Bool.not_eq_true', Bool.not_eq_false', ne_eq, Decidable.not_not, Bool.not_eq_true, Bool.not_eq_false] at q17) | (dsimp only at q17) | skip
    refine At.region rfl rfl ?_
    refine Reg.pur rfl rfl rfl rfl (Pur.mv rfl) ?_
    refine Reg.pur rfl rfl rfl rfl (Pur.mv rfl) ?_
    refine Reg.op rfl rfl rfl rfl (Does.callv rfl rfl (see1_ok x hB hat hT hN (by omega))) ?_
    rintro _ H2_2 ⟨A1a, c1a, A2a, c2a, hN2_2, hM2_2⟩
    refine Reg.nil ?_
    refine At.ret rfl Try.func120 rfl ?_
    rw [hfin, if_pos q17] at hlen ⊢
    exact ⟨A1a, c1a, A2a, c2a, hN2_2, hM2_2⟩
  first | (simp only [decide_eq_true_eq, decide_eq_false_iff_not, Bool.not_eq_true', Bool.not_eq_false', ne_eq, Decidable.not_not, Bool.not_eq_true, Bool.not_eq_false] at q17) | (dsimp only at q17) | skip
  obtain ⟨hz, hB3, hb3, hA2, hbA⟩ := hfun q17
  have hle := bgn_le L f (x.getD 3 0) (by omega)
  rw [hfin, if_neg (fun h => h q17), List.length_append, List.length_cons] at hlen
  refine At.region rfl rfl ?_
  refine Reg.pur rfl rfl rfl rfl (Pur.mv rfl) ?_
  refine Reg.pur rfl rfl rfl rfl (Pur.mv rfl) ?_
  refine Reg.pur rfl rfl rfl rfl (Pur.nilc rfl) ?_
  refine Reg.pur rfl rfl rfl rfl (Pur.fld _ fo47_2 rfl) ?_
  refine Reg.lod rfl rfl rfl rfl (Lod.ld sc3 rfl hB (hat 2 (by omega))) ?_
  refine Reg.pur rfl rfl rfl rfl (Pur.mv rfl) ?_
  refine Reg.op rfl rfl rfl rfl (Does.call rfl (ihf (x.getD 2 0) (by omega) (by omega) (by omega) hbA hS hY hT hN (by omega) hoY hoT (by rw [hob]; exact hoA))) ?_
  rintro _ H3_6 ⟨A1a, c1a, A2a, c2a, hN3_6, hM3_6⟩
  replace hY := hY.via hM3_6.1 hoY.not
  replace hT := hT.via hM3_6.1 hoT.not
  replace hB := hB.via hM3_6.1 hoA.not
  replace hS := hS.via hM3_6.1 (fun _ g hg => by rw [hob] at hg; obtain rfl : g = b := (by omega); exact hoA.not)
  replace hoY := hoY.mod zY hM3_6
  replace hoT := hoT.mod zT hM3_6
  replace hoA := hoA.mod zB hM3_6
  replace zY := Int.ofNat_lt.2 hY.lt
  replace zT := Int.ofNat_lt.2 hT.lt
  replace zB := Int.ofNat_lt.2 hB.lt
  refine Reg.nil ?_
  refine At.region rfl rfl ?_
  refine Reg.pur rfl rfl rfl rfl (Pur.mv rfl) ?_
  refine Reg.pur rfl rfl rfl rfl (Pur.mv rfl) ?_
  refine Reg.op rfl rfl rfl rfl (Does.callv rfl rfl (see1_ok x hB hat hT hN3_6 (by dsimp only at hnl; omega))) ?_
  rintro _ H4_2 ⟨A1b, c1b, A2b, c2b, hN4_2, hM4_2⟩
  replace hY := hY.via hM4_2.1 hoY.not
  replace hT := hT.via hM4_2.1 hoT.not
  replace hB := hB.via hM4_2.1 hoA.not
  replace hS := hS.via hM4_2.1 (fun _ g hg => by rw [hob] at hg; obtain rfl : g = b := (by omega); exact hoA.not)
  replace hoY := hoY.mod zY hM4_2
  replace hoT := hoT.mod zT hM4_2
  replace hoA := hoA.mod zB hM4_2
  replace zY := Int.ofNat_lt.2 hY.lt
  replace zT := Int.ofNat_lt.2 hT.lt
  replace zB := Int.ofNat_lt.2 hB.lt
  refine Reg.nil ?_
  refine At.region rfl rfl ?_
  refine Reg.pur rfl rfl rfl rfl (Pur.mv rfl) ?_
  refine Reg.pur rfl rfl rfl rfl (Pur.mv rfl) ?_
  refine Reg.pur rfl rfl rfl rfl (Pur.nilc rfl) ?_
  refine Reg.pur rfl rfl rfl rfl (Pur.fld _ fo47_3 rfl) ?_
  refine Reg.lod rfl rfl rfl rfl (Lod.ld sc3 rfl hB (hat 3 (by omega))) ?_
  refine Reg.pur rfl rfl rfl rfl (Pur.mv rfl) ?_
  refine Reg.op rfl rfl rfl rfl (Does.call rfl (ihf (x.getD 3 0) (by omega) (by omega) (by omega) (by omega) hS hY hT hN4_2 (by dsimp only at hnl hsl ⊢; omega) hoY hoT (by rw [hob]; exact hoA))) ?_
  rintro _ H5_6 ⟨A1d, c1d, A2d, c2d, hN5_6, hM5_6⟩
  refine Reg.nil ?_
  refine At.fall rfl Try.func120 rfl ?_
  rw [hfin, if_neg (fun h => h q17), nms_app, nms_cons]
  exact ⟨A1d, c1d, A2d, c2d, hN5_6, (hM3_6.trans hM4_2).trans hM5_6⟩

theorem typM_bgn {L : List (List Int)} (h : typM L = true) : (1 ≤ L.length ∧ L.length ≤ 256) ∧ bgn L L.length ((L.length : Int) - 1) = 0 := by
  unfold typM at h
  simp only [Bool.and_eq_true, decide_eq_true_eq] at h
  exact ⟨h.1.1, h.2⟩
def varsS (L : List (List Int)) (n : Nms) : Nms := nms n (ord L L.length ((L.length : Int) - 1))
theorem ord_256 {L : List (List Int)} (h : typM L = true) : (ord L L.length ((L.length : Int) - 1)).length = L.length := by
  obtain ⟨h1, h2⟩ := typM_bgn h
  have := ord_len L L.length ((L.length : Int) - 1) (by omega) (by omega)
  omega
theorem varsS_len {L : List (List Int)} (h : typM L = true) (n : Nms) : (varsS L n).1.length + (varsS L n).2.length ≤ n.1.length + n.2.length + L.length := by
  have := nms_len (ord L L.length ((L.length : Int) - 1)) n
  rw [ord_256 h] at this; exact this

theorem namesVars_ok {L : List (List Int)} (hL : Nine L) (hM : typM L = true) {A : Option Addr} {cap yb yo nb B : Nat} {cy : List Value} (hcy : cy[yo]? = some (.slice A L.length cap)) {H : Heap} {A1 A2 : Option Addr} {c1 c2 : Nat} {T R : List Int} (hS : SlT H Is 9 (.slice A L.length cap) L) (hY : Blk H yb cy) (hN : Nm H nb B A1 c1 T A2 c2 R)
    (hlen : T.length + R.length ≤ 900000) (hoY : Off nb A1 A2 yb) (hoA : Off nb A1 A2 (ob A)) :
    Ret Try.prog 89 [ptr nb 0, ptr yb yo] H (fun _ H' => ∃ A1' c1' A2' c2', Nm H' nb B A1' c1' (varsS L (T, R)).1 A2' c2' (varsS L (T, R)).2 ∧ Mod nb A1 A2 A1' A2' H H') := by
  obtain ⟨⟨hl1, hl2⟩, hb⟩ := typM_bgn hM
  have hol := ord_256 hM
  have zN := hN.own.lt
  have z1 := hN.g1.lt
  have z2 := hN.g2.lt
  refine Ret.of_at (N := 13) Try.call89 Try.func89 rfl rfl rfl ?_
  have hE := Ext.refl H
  have z_hE := hE.lt
  have z_hY := hY.lt
  have z_hS := hS.lt
  refine At.region rfl rfl ?_
  refine Reg.op rfl rfl rfl rfl (Does.box rfl rfl) ?_
  rintro _ H0_0 ⟨rfl, hn0_0⟩
  have z0_0 := hn0_0.size
  replace hE := hE.ext hn0_0.ext
  replace hY := hY.ext hn0_0.ext
  replace hS := hS.ext hn0_0.ext
  have o0_0 := hn0_0.own
  refine Reg.nil ?_
  refine At.region rfl rfl ?_
  refine Reg.pur rfl rfl rfl rfl (Pur.mv rfl) ?_
  refine Reg.pur rfl rfl rfl rfl (Pur.mv rfl) ?_
  refine Reg.pur rfl rfl rfl rfl (Pur.nilc rfl) ?_
  refine Reg.pur rfl rfl rfl rfl (Pur.fld _ fo25_0 rfl) ?_
  refine Reg.lod rfl rfl rfl rfl (Lod.ld sc23 rfl hY hcy) ?_
  refine Reg.pur rfl rfl rfl rfl (Pur.lenS isl23 rfl) ?_
  refine Reg.pur rfl rfl rfl rfl (Pur.sub64 rfl rfl (by omega)) ?_
  refine Reg.pur rfl rfl rfl rfl (Pur.mkf rfl rfl) ?_
  refine Reg.op rfl rfl rfl rfl (Does.call rfl (walk_ok hL hcy (by omega) L.length _ (by omega) (by omega) (by omega) (by omega) hS hY o0_0.blk (hN.ext hE) (by omega) hoY ⟨by omega, by omega, by omega⟩ hoA)) ?_
  rintro _ H1_8 ⟨A1a, c1a, A2a, c2a, hN1_8, hM1_8⟩
  refine Reg.nil ?_
  refine At.fall rfl Try.func89 rfl ?_
  exact ⟨A1a, c1a, A2a, c2a, hN1_8, ⟨(hn0_0.ext.but (S := fun g => g = nb ∨ (g : Int) = ob A1 ∨ (g : Int) = ob A2)).trans hM1_8.1, by have := hM1_8.2; omega⟩⟩
end Go.Proofs.Ytlfillhffpiffaa

namespace Go.Proofs.Ytlfillhffpiffaa
set_option linter.unusedSimpArgs false
set_option linter.unusedVariables false
set_option maxRecDepth 8000
open Go Go.Fx Go.Proofs
namespace FactsSchF
theorem ag25 : ag Try.prog 25 = some 1 := by kernel_rfl
theorem ag47 : ag Try.prog 47 = some 9 := by kernel_rfl
theorem es23 : esz Try.prog 23 = some 9 := by kernel_rfl
theorem fo147_0 : foff Try.prog 147 0 = some 0 := by kernel_rfl
theorem fo147_1 : foff Try.prog 147 1 = some 1 := by kernel_rfl
theorem fo25_0 : foff Try.prog 25 0 = some 0 := by kernel_rfl
theorem fo28_1 : foff Try.prog 28 1 = some 4 := by kernel_rfl
theorem fo47_0 : foff Try.prog 47 0 = some 0 := by kernel_rfl
theorem fo47_1 : foff Try.prog 47 1 = some 1 := by kernel_rfl
theorem fo47_2 : foff Try.prog 47 2 = some 2 := by kernel_rfl
theorem fo47_3 : foff Try.prog 47 3 = some 3 := by kernel_rfl
theorem fo47_4 : foff Try.prog 47 4 = some 4 := by kernel_rfl
theorem isl23 : isSl Try.prog 23 = true := by kernel_rfl
theorem mixed : Try.prog.follows .mixedOrders = true := by kernel_rfl
theorem pl147 : places Try.prog 147 = some [(0, 1), (1, 1)] := by kernel_rfl
theorem sc23 : sc Try.prog 23 = true := by kernel_rfl
theorem sc3 : sc Try.prog 3 = true := by kernel_rfl
theorem sc54 : sc Try.prog 54 = true := by kernel_rfl
theorem zc147 : zc Try.prog 147 = some [.slice none 0 0, .slice none 0 0] := by kernel_rfl
theorem zc47 : zc Try.prog 47 = some [.int .i64 0, .int .i64 0, .int .i64 0, .int .i64 0, .int .i64 0, .int .i64 0, .int .i64 0, .int .i64 0, .int .i64 0] := by kernel_rfl
end FactsSchF
open FactsSchF

theorem nm_new {H H' : Heap} {B : Nat} (h : Own H' H.size [.slice none 0 0, .slice none 0 0]) (hB : B ≤ H'.size) : Nm H' H.size B none 0 [] none 0 [] :=
  ⟨h, OwnS.nilG, OwnS.nilG, .inl rfl, by rw [ob_none]; omega, by rw [ob_none]; omega, hB⟩
theorem off_none {nb : Nat} {b : Int} (h : b ≠ nb) (h0 : 0 ≤ b) : Off nb none none b := ⟨h, by rw [ob_none]; omega, by rw [ob_none]; omega⟩
theorem mod_ext {nb : Nat} {A1' A2' : Option Addr} {H0 H H' : Heap} (h : Mod nb none none A1' A2' H H') (hE : Ext H0 H) (hn : H0.size ≤ nb) : Ext H0 H' :=
  hE.via h.1 (fun g hg hS => by rw [ob_none] at hS; omega)
def varsT (L : List (List Int)) : Nms := if typM L then varsS L ([], []) else ([], [])

theorem typVars_ok {A : Option Addr} {cap : Nat} {L : List (List Int)} (hL : Nine L) {H : Heap} (hS : SlT H Is 9 (.slice A L.length cap) L) (hm : L.length ≤ 9223372036854775807) :
    Ret Try.prog 64 [Ty A L.length cap] H (fun v H' => Ext H H' ∧ ∃ A1 c1 A2 c2, v = .tuple #[.slice A1 (varsT L).1.length c1, .slice A2 (varsT L).2.length c2, I (if typM L then 0 else 700)] ∧
      Gs H' H.size 3 1 A1 c1 (varsT L).1.length ((varsT L).1.flatMap e1) ∧ Gs H' H.size 3 1 A2 c2 (varsT L).2.length ((varsT L).2.flatMap e1)) := by
  refine Ret.of_at (N := 21) Try.call64 Try.func64 rfl rfl rfl ?_
  have hE := Ext.refl H
  refine At.region rfl rfl ?_
  refine Reg.op rfl rfl rfl rfl (Does.box rfl rfl) ?_
  rintro _ H0_0 ⟨rfl, hn0_0⟩
  have z0_0 := hn0_0.size
  replace hE := hE.ext hn0_0.ext
  have o0_0 := hn0_0.own
  refine Reg.pur rfl rfl rfl rfl (Pur.asg rfl) ?_
  refine Reg.pur rfl rfl rfl rfl (Pur.asg rfl) ?_
  refine Reg.pur rfl rfl rfl rfl (Pur.asg rfl) ?_
  refine Reg.nil ?_
  refine At.region rfl rfl ?_
  refine Reg.lod rfl rfl rfl rfl (Lod.ldn ag25 rfl o0_0.blk (by first | exact whole rfl | rfl | (simp only [List.drop_succ_cons, List.drop_zero, List.take_succ_cons, List.take_zero]; rfl)) (by first | rfl | (simp [*]; done))) ?_
  refine Reg.op rfl rfl rfl rfl (Does.call rfl (typMay_ok L hL (hS.ext hE) hm)) ?_
  rintro _ H1_1 ⟨rfl, hE1_1⟩
  have z1_1 := hE1_1.lt
  replace hE := hE.ext hE1_1
  replace o0_0 := o0_0.ext hE1_1
  refine Reg.pur rfl rfl rfl rfl (Pur.not rfl) ?_
  refine Reg.nil ?_
  refine At.cond rfl rfl (fun q8 => ?_) (fun q8 => ?_)
  · first | (simp only [decide_eq_true_eq, decide_eq_false_iff_not, Bool.not_eq_true', Bool.not_eq_false', ne_eq, Decidable.not_not, Bool.not_eq_true, Bool.not_eq_false] at q8) | (dsimp only at q8) | skip
    refine At.region rfl rfl ?_
    refine Reg.pur rfl rfl rfl rfl (Pur.asg rfl) ?_
    refine Reg.pur rfl rfl rfl rfl (Pur.asg rfl) ?_
    refine Reg.pur rfl rfl rfl rfl (Pur.asg rfl) ?_
    refine Reg.nil ?_
    refine At.ret rfl Try.func64 rfl ?_
    have hv : varsT L = ([], []) := by unfold varsT; rw [q8]; rfl
    rw [hv, q8]; exact ⟨hE, none, 0, none, 0, rfl, OwnS.nilG, OwnS.nilG⟩
  first | (simp only [decide_eq_true_eq, decide_eq_false_iff_not, Bool.not_eq_true', Bool.not_eq_false', ne_eq, Decidable.not_not, Bool.not_eq_true, Bool.not_eq_false] at q8) | (dsimp only at q8) | skip
  obtain ⟨⟨hl1, hl2⟩, _⟩ := typM_bgn q8
  refine At.region rfl rfl ?_
  refine Reg.pur rfl rfl rfl rfl (Pur.bld (cs := [_, _]) pl147 zc147 rfl rfl ⟨rfl, rfl, rfl⟩) ?_
  refine Reg.op rfl rfl rfl rfl (Does.box rfl rfl) ?_
  rintro _ H3_1 ⟨rfl, hn3_1⟩
  have z3_1 := hn3_1.size
  replace hE := hE.ext hn3_1.ext
  replace o0_0 := o0_0.ext hn3_1.ext
  have o3_1 := hn3_1.own
  refine Reg.pur rfl rfl rfl rfl (Pur.asg rfl) ?_
  refine Reg.nil ?_
  refine At.region rfl rfl ?_
  refine Reg.pur rfl rfl rfl rfl (Pur.mv rfl) ?_
  refine Reg.op rfl rfl rfl rfl (Does.call rfl (namesVars_ok hL q8 rfl (hS.ext hE) o0_0.blk (nm_new (B := H.size) o3_1 (by omega)) (by simp) (off_none (by omega) (by omega)) (off_none (by have := hS.lt; omega) (by have := hS.lt; omega)))) ?_
  rintro _ H4_1 ⟨A1, c1, A2, c2, hN4_1, hM4_1⟩
  have hE4 := mod_ext hM4_1 hE (by omega)
  refine Reg.nil ?_
  refine At.drawE ((Bks.cons hN4_1.own.blk Bks.nil)) [] mixed rfl rfl ?_
  refine RegD.tpur (i := 0) rfl rfl rfl rfl (by kernel_rfl) (Pur.mv rfl) ?_
  refine RegD.tpur (i := 1) rfl rfl rfl rfl (by kernel_rfl) (Pur.nilc rfl) ?_
  refine RegD.tpur (i := 2) rfl rfl rfl rfl (by kernel_rfl) (Pur.fld _ fo147_0 rfl) ?_
  refine RegD.take (i := 3) rfl rfl rfl rfl (by kernel_rfl) (Bks.cons hN4_1.own.blk Bks.nil) (fun H hS => Lod.ld sc54 rfl hS.hd rfl) ?_
  refine RegD.tpur (i := 4) rfl rfl rfl rfl (by kernel_rfl) (Pur.mv rfl) ?_
  refine RegD.tpur (i := 5) rfl rfl rfl rfl (by kernel_rfl) (Pur.nilc rfl) ?_
  refine RegD.tpur (i := 6) rfl rfl rfl rfl (by kernel_rfl) (Pur.fld _ fo147_1 rfl) ?_
  refine RegD.take (i := 7) rfl rfl rfl rfl (by kernel_rfl) (Bks.cons hN4_1.own.blk Bks.nil) (fun H hS => Lod.ld sc54 rfl hS.hd rfl) ?_
  refine RegD.tpur (i := 8) rfl rfl rfl rfl (by kernel_rfl) (Pur.asg rfl) ?_
  refine RegD.tpur (i := 9) rfl rfl rfl rfl (by kernel_rfl) (Pur.asg rfl) ?_
  refine RegD.tpur (i := 10) rfl rfl rfl rfl (by kernel_rfl) (Pur.asg rfl) ?_
  refine RegD.done (by kernel_rfl) ?_
  refine At.ret rfl Try.func64 rfl ?_
  have hv : varsT L = varsS L ([], []) := by unfold varsT; rw [q8]; rfl
  rw [hv, q8]; exact ⟨hE4, A1, c1, A2, c2, rfl, hN4_1.g1, hN4_1.g2⟩

theorem drop4_tail' {x : List Int} (hx : x.length = 9) : (x.drop 4).getD 4 0 = x.getD 8 0 := by
  match x, hx with
  | [k, v, a, b, c0, c1, c2, c3, t], _ => rfl
end Go.Proofs.Ytlfillhffpiffaa

namespace Go.Proofs.Ytlfillhffpiffaa
set_option linter.unusedSimpArgs false
set_option linter.unusedVariables false
set_option maxRecDepth 8000
open Go Go.Fx Go.Proofs
namespace FactsSchG
theorem ag25 : ag Try.prog 25 = some 1 := by kernel_rfl
theorem ag56 : ag Try.prog 56 = some 3 := by kernel_rfl
theorem fo25_0 : foff Try.prog 25 0 = some 0 := by kernel_rfl
theorem mixed : Try.prog.follows .mixedOrders = true := by kernel_rfl
theorem pl25 : places Try.prog 25 = some [(0, 1)] := by kernel_rfl
theorem pl56 : places Try.prog 56 = some [(0, 1), (1, 1), (2, 1)] := by kernel_rfl
theorem sc23 : sc Try.prog 23 = true := by kernel_rfl
theorem zc25 : zc Try.prog 25 = some [.slice none 0 0] := by kernel_rfl
theorem zc56 : zc Try.prog 56 = some [.slice none 0 0, .slice none 0 0, .slice none 0 0] := by kernel_rfl
end FactsSchG
open FactsSchG

structure Sch (H : Heap) (B : Nat) (A1 : Option Addr) (c1 : Nat) (vs : List Int) (A2 : Option Addr) (c2 : Nat) (rs : List Int) (A3 : Option Addr) (c3 : Nat) (L : List (List Int)) : Prop where
  g1 : Gw H B 1 A1 c1 vs.length (vs.flatMap e1)
  g2 : Gw H B 1 A2 c2 rs.length (rs.flatMap e1)
  g3 : Gw H B 9 A3 c3 L.length (L.flatMap Is)
  d12 : vs.length = 0 ∨ rs.length = 0 ∨ ob A1 ≠ ob A2
  d13 : vs.length = 0 ∨ L.length = 0 ∨ ob A1 ≠ ob A3
  d23 : rs.length = 0 ∨ L.length = 0 ∨ ob A2 ≠ ob A3
  nine : Nine L
abbrev ScV (A1 : Option Addr) (n1 c1 : Nat) (A2 : Option Addr) (n2 c2 : Nat) (A3 : Option Addr) (n3 c3 : Nat) : Value := .agg #[.slice A1 n1 c1, .slice A2 n2 c2, .slice A3 n3 c3]
def cloV (L : List (List Int)) (ks : List Int) : List Int := if typM L then wo (varsS L ([], [])).1 ks else []
def cloR (L : List (List Int)) (ms : List Int) : List Int := if typM L then wo (varsS L ([], [])).2 ms else []
def cloT (L : List (List Int)) : List (List Int) := if typM L then L else []
def cs (b : Bool) : Int := if b then 0 else 1200
def CloP (H : Heap) (L : List (List Int)) (ks ms : List Int) (v : Value) (H' : Heap) : Prop :=
  Ext H H' ∧ ∃ A1 c1 A2 c2 A3 c3, v = .tuple #[ScV A1 (cloV L ks).length c1 A2 (cloR L ms).length c2 A3 (cloT L).length c3, I (cs (typM L))] ∧ Sch H' H.size A1 c1 (cloV L ks) A2 c2 (cloR L ms) A3 c3 (cloT L)
theorem clo_no {H H' : Heap} {L : List (List Int)} {ks ms : List Int} {v : Value} (h : typM L = false) (hE : Ext H H') (hv : v = .tuple #[ScV none 0 0 none 0 0 none 0 0, I 1200]) : CloP H L ks ms v H' := by
  refine ⟨hE, none, 0, none, 0, none, 0, ?_, ?_⟩
  · simp only [cloV, cloR, cloT, h, cs]; exact hv
  · simp only [cloV, cloR, cloT, h]
    exact ⟨Gw.nil, Gw.nil, Gw.nil, .inl rfl, .inl rfl, .inl rfl, (fun x hx => by cases hx)⟩
theorem vars_256 {L : List (List Int)} (h : typM L = true) : (varsS L ([], [])).1.length ≤ 256 ∧ (varsS L ([], [])).2.length ≤ 256 := by
  have h1 := varsS_len h ([], [])
  have h2 := (typM_bgn h).1.2
  simp only [List.length_nil] at h1
  omega

theorem close_ok {A Ak Am : Option Addr} {cap ck cm : Nat} {L : List (List Int)} {ks ms : List Int} (hL : Nine L) {H : Heap} (hS : SlT H Is 9 (.slice A L.length cap) L) (hm : L.length * 72 ≤ 140737488351232) (hk : SlT H e1 1 (.slice Ak ks.length ck) ks) (hmk : ks.length ≤ 9223372036854775807) (hr : SlT H e1 1 (.slice Am ms.length cm) ms) (hmr : ms.length ≤ 9223372036854775807) :
    Ret Try.prog 30 [Ty A L.length cap, .slice Ak ks.length ck, .slice Am ms.length cm] H (CloP H L ks ms) := by
  refine Ret.of_at (N := 31) Try.call30 Try.func30 rfl rfl rfl ?_
  have hE := Ext.refl H
  refine At.region rfl rfl ?_
  refine Reg.op rfl rfl rfl rfl (Does.box rfl rfl) ?_
  rintro _ H0_0 ⟨rfl, hn0_0⟩
  have z0_0 := hn0_0.size
  replace hE := hE.ext hn0_0.ext
  have o0_0 := hn0_0.own
  refine Reg.op rfl rfl rfl rfl (Does.alloc zc56) ?_
  rintro _ H0_1 ⟨rfl, hn0_1⟩
  have z0_1 := hn0_1.size
  replace hE := hE.ext hn0_1.ext
  replace o0_0 := o0_0.ext hn0_1.ext
  have o0_1 := hn0_1.own
  refine Reg.pur rfl rfl rfl rfl (Pur.asg rfl) ?_
  refine Reg.nil ?_
  refine At.region rfl rfl ?_
  refine Reg.lod rfl rfl rfl rfl (Lod.ldn ag25 rfl o0_0.blk (by first | exact whole rfl | rfl | (simp only [List.drop_succ_cons, List.drop_zero, List.take_succ_cons, List.take_zero]; rfl)) (by first | rfl | (simp [*]; done))) ?_
  refine Reg.op rfl rfl rfl rfl (Does.call rfl (typVars_ok hL (hS.ext hE) (by omega))) ?_
  rintro v1_1 H1_1 ⟨hE1_1, A1, c1, A2, c2, rfl, hg1, hg2⟩
  have z1_1 := hE1_1.lt
  replace hE := hE.ext hE1_1
  replace o0_0 := o0_0.ext hE1_1
  replace o0_1 := o0_1.ext hE1_1
  have z_hg1 := hg1.lt
  have z_hg2 := hg2.lt
  refine Reg.pur rfl rfl rfl rfl (Pur.mv rfl) ?_
  refine Reg.pur rfl rfl rfl rfl (Pur.ext rfl rfl) ?_
  refine Reg.pur rfl rfl rfl rfl (Pur.ext rfl rfl) ?_
  refine Reg.pur rfl rfl rfl rfl (Pur.ext rfl rfl) ?_
  refine Reg.pur rfl rfl rfl rfl (Pur.asg rfl) ?_
  refine Reg.pur rfl rfl rfl rfl (Pur.asg rfl) ?_
  refine Reg.pur rfl rfl rfl rfl (Pur.asg rfl) ?_
  refine Reg.nil ?_
  refine At.region rfl rfl ?_
  refine Reg.pur rfl rfl rfl rfl (Pur.mv rfl) ?_
  refine Reg.pur rfl rfl rfl rfl (Pur.neq rfl rfl) ?_
  refine Reg.nil ?_
  refine At.cond rfl rfl (fun q18 => ?_) (fun q18 => ?_)
  · first | (simp only [decide_eq_true_eq, decide_eq_false_iff_not, Bool.not_eq_true', Bool.not_eq_false', ne_eq, Decidable.not_not, Bool.not_eq_true, Bool.not_eq_false] at q18) | (dsimp only at q18) | skip
    refine At.region rfl rfl ?_
    refine Reg.pur rfl rfl rfl rfl (Pur.bld (cs := [_, _, _]) pl56 zc56 rfl rfl ⟨rfl, rfl, rfl, rfl⟩) ?_
    refine Reg.op0 rfl rfl rfl (Does.stn ag56 rfl rfl (by first | rfl | exact ones_Is _) (by first | rfl | (simp [*]; done)) o0_1 (by first | decide | (simp; done) | (simp; omega) | omega)) ?_
    rintro _ H3_1 hu3_1
    have z3_1 := hu3_1.size
    replace hE := hE.upw hu3_1 (by omega)
    replace o0_0 := o0_0.upw hu3_1 (by omega)
    replace hg1 := hg1.upw hu3_1 (by omega)
    replace hg2 := hg2.upw hu3_1 (by omega)
    replace o0_1 := hu3_1.own
    first | rw [over (by first | rfl | (simp; done))] at o0_1 | skip
    refine Reg.pur rfl rfl rfl rfl (Pur.asg rfl) ?_
    refine Reg.nil ?_
    refine At.retC rfl Try.func30 ⟨_, _, _, _, rfl, rfl, ⟨_, o0_1.blk, .inr ⟨_, _, ag56, (by first | exact whole rfl | exact whole (by simp [*])), (by first | rfl | simp [*]), rfl⟩⟩, ⟨_, _, rfl, rfl, rfl⟩⟩ ?_
    exact clo_no (by cases h : typM L with | false => rfl | true => rw [h] at q18; exact (q18 rfl).elim) hE rfl
  first | (simp only [decide_eq_true_eq, decide_eq_false_iff_not, Bool.not_eq_true', Bool.not_eq_false', ne_eq, Decidable.not_not, Bool.not_eq_true, Bool.not_eq_false] at q18) | (dsimp only at q18) | skip
  have hM : typM L = true := by cases h : typM L with | true => rfl | false => rw [h] at q18; cases q18
  have hv : varsT L = varsS L ([], []) := by unfold varsT; rw [hM]; rfl
  rw [hv] at hg1 hg2 ⊢
  have h256 := vars_256 hM
  refine At.drawE ((Bks.cons o0_0.blk Bks.nil)) [8, 11] mixed rfl rfl ?_
  refine RegD.tpur (i := 0) rfl rfl rfl rfl (by kernel_rfl) (Pur.mv rfl) ?_
  refine RegD.tpur (i := 1) rfl rfl rfl rfl (by kernel_rfl) (Pur.mv rfl) ?_
  refine RegD.tpur (i := 3) rfl rfl rfl rfl (by kernel_rfl) (Pur.mv rfl) ?_
  refine RegD.tpur (i := 4) rfl rfl rfl rfl (by kernel_rfl) (Pur.mv rfl) ?_
  refine RegD.tpur (i := 6) rfl rfl rfl rfl (by kernel_rfl) (Pur.fld _ fo25_0 rfl) ?_
  refine RegD.take (i := 7) rfl rfl rfl rfl (by kernel_rfl) (Bks.cons o0_0.blk Bks.nil) (fun H hS => Lod.ld sc23 rfl hS.hd (by first | rfl | (simp; done))) ?_
  refine RegD.one (i := 2) (by kernel_rfl) rfl rfl rfl rfl (Does.call rfl (without_ok _ ks (own_sl (wide1 _) (by decide) hg1) (hk.ext hE) (by omega) hmk)) ?_
  rintro _ H4_2 ⟨⟨A3, c3, rfl, hw1⟩, hE4_2⟩
  have z4_2 := hE4_2.lt
  replace hE := hE.ext hE4_2
  replace o0_0 := o0_0.ext hE4_2
  replace o0_1 := o0_1.ext hE4_2
  replace hg1 := hg1.ext hE4_2
  replace hg2 := hg2.ext hE4_2
  have z_hw1 := hw1.lt
  refine ⟨fun _ _ => (Bks.cons o0_0.blk Bks.nil), ?_⟩
  refine RegD.one (i := 5) (by kernel_rfl) rfl rfl rfl rfl (Does.call rfl (without_ok _ ms (own_sl (wide1 _) (by decide) hg2) (hr.ext hE) (by omega) hmr)) ?_
  rintro _ H4_5 ⟨⟨A4, c4, rfl, hw2⟩, hE4_5⟩
  have z4_5 := hE4_5.lt
  replace hE := hE.ext hE4_5
  replace o0_0 := o0_0.ext hE4_5
  replace o0_1 := o0_1.ext hE4_5
  replace hg1 := hg1.ext hE4_5
  replace hg2 := hg2.ext hE4_5
  replace hw1 := hw1.ext hE4_5
  have z_hw2 := hw2.lt
  refine ⟨fun _ _ => (Bks.cons o0_0.blk Bks.nil), ?_⟩
  refine RegD.one (i := 8) (by kernel_rfl) rfl rfl rfl rfl (Does.call rfl (cloneT_ok hL (hS.ext hE) (by omega))) ?_
  rintro v4_8 H4_8 ⟨hw3, hE4_8⟩
  have z4_8 := hE4_8.lt
  replace hE := hE.ext hE4_8
  replace o0_0 := o0_0.ext hE4_8
  replace o0_1 := o0_1.ext hE4_8
  replace hg1 := hg1.ext hE4_8
  replace hg2 := hg2.ext hE4_8
  replace hw1 := hw1.ext hE4_8
  replace hw2 := hw2.ext hE4_8
  obtain ⟨A5, c5, rfl, _⟩ := own_slice' hw3
  replace hw3 := hw3.gw
  have z_hw3 := hw3.lt
  refine ⟨fun h => (by cases h), ?_⟩
  refine RegD.tpur (i := 9) rfl rfl rfl rfl (by kernel_rfl) (Pur.bld (cs := [_]) pl25 zc25 rfl rfl ⟨rfl, rfl⟩) ?_
  refine RegD.tpur (i := 10) rfl rfl rfl rfl (by kernel_rfl) (Pur.bld (cs := [_, _, _]) pl56 zc56 rfl rfl ⟨rfl, rfl, rfl, rfl⟩) ?_
  refine RegD.one0 (i := 11) (by kernel_rfl) rfl rfl rfl (Does.stn ag56 rfl rfl (by first | rfl | exact ones_Is _) (by first | rfl | (simp [*]; done)) o0_1 (by first | decide | (simp; done) | (simp; omega) | omega)) ?_
  rintro _ H4_11 hu4_11
  have z4_11 := hu4_11.size
  replace hE := hE.upw hu4_11 (by omega)
  replace o0_0 := o0_0.upw hu4_11 (by omega)
  replace hg1 := hg1.upw hu4_11 (by omega)
  replace hg2 := hg2.upw hu4_11 (by omega)
  replace hw1 := hw1.upw hu4_11 (by omega)
  replace hw2 := hw2.upw hu4_11 (by omega)
  replace hw3 := hw3.upw hu4_11 (by omega)
  replace o0_1 := hu4_11.own
  first | rw [over (by first | rfl | (simp; done))] at o0_1 | skip
  refine ⟨fun h => (by cases h), ?_⟩
  refine RegD.tpur (i := 12) rfl rfl rfl rfl (by kernel_rfl) (Pur.asg rfl) ?_
  refine RegD.done (by kernel_rfl) ?_
  refine At.retC rfl Try.func30 ⟨_, _, _, _, rfl, rfl, ⟨_, o0_1.blk, .inr ⟨_, _, ag56, (by first | exact whole rfl | exact whole (by simp [*])), (by first | rfl | simp [*]), rfl⟩⟩, ⟨_, _, rfl, rfl, rfl⟩⟩ ?_
  refine ⟨hE, A3, c3, A4, c4, A5, c5, ?_, ?_⟩
  · simp only [cloV, cloR, cloT, hM, cs, if_true]; rfl
  · simp only [cloV, cloR, cloT, hM, if_true]
    exact ⟨hw1.mono (by omega), hw2.mono (by omega), hw3.mono (by omega), by omega, by omega, by omega, hL⟩
end Go.Proofs.Ytlfillhffpiffaa

namespace Go.Proofs.Ytlfillhffpiffaa
set_option linter.unusedSimpArgs false
set_option linter.unusedVariables false
set_option maxRecDepth 8000
open Go Go.Fx Go.Proofs
namespace FactsSchH
theorem ag25 : ag Try.prog 25 = some 1 := by kernel_rfl
theorem ag56 : ag Try.prog 56 = some 3 := by kernel_rfl
theorem apt23 : appT Try.prog 23 = some (47, 9, 72) := by kernel_rfl
theorem es54 : esz Try.prog 54 = some 1 := by kernel_rfl
theorem fo25_0 : foff Try.prog 25 0 = some 0 := by kernel_rfl
theorem isl54 : isSl Try.prog 54 = true := by kernel_rfl
theorem mixed : Try.prog.follows .mixedOrders = true := by kernel_rfl
theorem pl25 : places Try.prog 25 = some [(0, 1)] := by kernel_rfl
theorem pl56 : places Try.prog 56 = some [(0, 1), (1, 1), (2, 1)] := by kernel_rfl
theorem sc23 : sc Try.prog 23 = true := by kernel_rfl
theorem sc3 : sc Try.prog 3 = true := by kernel_rfl
theorem slA23 : slA Try.prog 23 = some (47, 9) := by kernel_rfl
theorem zc25 : zc Try.prog 25 = some [.slice none 0 0] := by kernel_rfl
theorem zc56 : zc Try.prog 56 = some [.slice none 0 0, .slice none 0 0, .slice none 0 0] := by kernel_rfl
end FactsSchH
open FactsSchH

theorem sl_take {l : List Int} {H : Heap} {A : Option Addr} {cap i : Nat} (hS : SlT H e1 1 (.slice A l.length cap) l) (hi : i ≤ l.length) : SlT H e1 1 (.slice A (l.take i).length cap) (l.take i) := by
  obtain ⟨A', cap', e, h1, h2, h3, h4⟩ := hS
  cases e
  refine ⟨A, cap, rfl, by rw [List.length_take]; omega, h2, h3, ?_⟩
  rcases h4 with h4 | ⟨b, o, c, rfl, hb, h5⟩
  · exact .inl (by rw [List.length_take]; omega)
  · refine .inr ⟨b, o, c, rfl, hb, fun j hj => ?_⟩
    rw [List.length_take] at hj
    rw [List.getElem_take]
    exact h5 j (by omega)
theorem containsT_ok {A : Option Addr} {cap i : Nat} (l : List Int) {H : Heap} (hS : SlT H e1 1 (.slice A l.length cap) l) (hm : l.length ≤ 9223372036854775807) (v : Int) (hi : i ≤ l.length) :
    Ret Try.prog 93 [.slice A i cap, I v] H (fun r H' => r = .bool (inL (l.take i) v) ∧ H' = H) := by
  have h := contains_ok (l.take i) (sl_take hS hi) (by rw [List.length_take]; omega) v
  rwa [show (l.take i).length = i by rw [List.length_take]; omega] at h
def vm1 (l : List Int) (i : Nat) : Bool := decide (0 ≤ l.getD i 0 ∧ l.getD i 0 < 4096) && !inL (l.take i) (l.getD i 0)
def vmS (l : List Int) : Bool := (List.range l.length).all (vm1 l)
theorem getD_at {l : List Int} {i : Nat} (hi : i < l.length) : l.getD i 0 = l[i] := by simp [List.getD_eq_getElem?_getD, List.getElem?_eq_getElem hi]
theorem vm_no {l : List Int} {i : Nat} (hi : i < l.length) (h : vm1 l i = false) : vmS l = false := by
  cases hh : vmS l with
  | false => rfl
  | true => unfold vmS at hh; rw [List.all_eq_true] at hh; rw [hh i (List.mem_range.2 hi)] at h; cases h
theorem vm_step {l : List Int} {i : Nat} (h : (List.range i).all (vm1 l) = true) (h1 : vm1 l i = true) : (List.range (i + 1)).all (vm1 l) = true := by
  rw [List.range_succ, List.all_append, h]; simp [h1]

theorem varsMay_ok {A : Option Addr} {cap : Nat} (l : List Int) {H : Heap} (hS : SlT H e1 1 (.slice A l.length cap) l) (hm : l.length ≤ 9223372036854775807) :
    Ret Try.prog 95 [.slice A l.length cap] H (fun r H' => r = .bool (vmS l) ∧ H' = H) := by
  refine Ret.of_at (N := 26) Try.call95 Try.func95 rfl rfl rfl ?_
  have hE := Ext.refl H
  refine At.region rfl rfl ?_
  refine Reg.pur rfl rfl rfl rfl (Pur.asg rfl) ?_
  refine Reg.nil ?_
  refine At.region rfl rfl ?_
  refine Reg.pur rfl rfl rfl rfl (Pur.mv rfl) ?_
  refine Reg.pur rfl rfl rfl rfl (Pur.lenS isl54 rfl) ?_
  refine Reg.pur rfl rfl rfl rfl (Pur.mv rfl) ?_
  refine Reg.nil ?_
  refine At.loop (σ := Nat) (fun i => [(7, I i), (6, I l.length), (5, .slice A l.length cap), (0, .slice A l.length cap)]) (fun i H' => i ≤ l.length ∧ H' = H ∧ (List.range i).all (vm1 l) = true) (fun i => l.length - i) 0 rfl ⟨rfl, rfl, rfl, rfl, trivial⟩ ⟨by omega, rfl, rfl⟩ ?_
  rintro i H ⟨hi, rfl, hgo⟩ ih
  refine At.region rfl rfl ?_
  refine Reg.pur rfl rfl rfl rfl (Pur.lss rfl rfl) ?_
  refine Reg.nil ?_
  refine At.cond rfl rfl (fun q8 => ?_) (fun q8 => ?_)
  · first | (simp only [decide_eq_true_eq, decide_eq_false_iff_not, Bool.not_eq_true', Bool.not_eq_false', ne_eq, Decidable.not_not, Bool.not_eq_true, Bool.not_eq_false] at q8) | (dsimp only at q8) | skip
    have hlt : i < l.length := by omega
    obtain ⟨b, o, c, rfl, hB, hc⟩ := int_at hS hlt
    have hv1 : vm1 l i = (decide (0 ≤ l[i] ∧ l[i] < 4096) && !inL (l.take i) l[i]) := by unfold vm1; rw [getD_at hlt]
    obtain ⟨h1, h2, _⟩ : i ≤ cap ∧ True ∧ True := by { obtain ⟨_, _, e, h1, _⟩ := hS; cases e; exact ⟨by omega, trivial, trivial⟩ }
    refine At.region rfl rfl ?_
    refine Reg.pur rfl rfl rfl rfl (Pur.mv rfl) ?_
    refine Reg.pur rfl rfl rfl rfl (Pur.idx _ es54 rfl rfl (by omega) (by omega)) ?_
    refine Reg.lod rfl rfl rfl rfl (Lod.ld sc3 rfl hB hc) ?_
    refine Reg.pur rfl rfl rfl rfl (Pur.asg rfl) ?_
    refine Reg.pur rfl rfl rfl rfl (Pur.asg rfl) ?_
    refine Reg.nil ?_
    refine At.region rfl rfl ?_
    refine Reg.pur rfl rfl rfl rfl (Pur.mv rfl) ?_
    refine Reg.pur rfl rfl rfl rfl (Pur.lss rfl rfl) ?_
    refine Reg.pur rfl rfl rfl rfl (Pur.mv rfl) ?_
    refine Reg.case 14 rfl (fun q14 => ?_) (fun q14 => ?_)
    · first | (simp only [decide_eq_true_eq, decide_eq_false_iff_not, Bool.not_eq_true', Bool.not_eq_false', ne_eq, Decidable.not_not, Bool.not_eq_true, Bool.not_eq_false] at q14) | (dsimp only at q14) | skip
      refine Reg.skip rfl rfl rfl rfl rfl rfl rfl ?_
      refine Reg.skip rfl rfl rfl rfl rfl rfl rfl ?_
      refine Reg.pur rfl rfl rfl rfl (Pur.pickT rfl rfl) ?_
      refine Reg.pur rfl rfl rfl rfl (Pur.mv rfl) ?_
      refine Reg.skip rfl rfl rfl rfl rfl rfl rfl ?_
      refine Reg.skip rfl rfl rfl rfl rfl rfl rfl ?_
      refine Reg.skip rfl rfl rfl rfl rfl rfl rfl ?_
      refine Reg.skip rfl rfl rfl rfl rfl rfl rfl ?_
      refine Reg.skip rfl rfl rfl rfl rfl rfl rfl ?_
      refine Reg.pur rfl rfl rfl rfl (Pur.pickT rfl rfl) ?_
      refine Reg.nil ?_
      refine At.condT rfl rfl rfl ?_
      refine At.region rfl rfl ?_
      refine Reg.pur rfl rfl rfl rfl (Pur.asg rfl) ?_
      refine Reg.nil ?_
      refine At.ret rfl Try.func95 rfl ?_
      exact ⟨congrArg Value.bool (vm_no hlt (by rw [hv1]; revert q8 q14; intros; simp_all; try omega)).symm, rfl⟩
    first | (simp only [decide_eq_true_eq, decide_eq_false_iff_not, Bool.not_eq_true', Bool.not_eq_false', ne_eq, Decidable.not_not, Bool.not_eq_true, Bool.not_eq_false] at q14) | (dsimp only at q14) | skip
    refine Reg.gpur rfl rfl rfl rfl rfl rfl (Pur.mv rfl) ?_
    refine Reg.gpur rfl rfl rfl rfl rfl rfl (Pur.geq rfl rfl) ?_
    refine Reg.pur rfl rfl rfl rfl (Pur.pickF rfl rfl) ?_
    refine Reg.pur rfl rfl rfl rfl (Pur.mv rfl) ?_
    refine Reg.case 18 rfl (fun q18 => ?_) (fun q18 => ?_)
    · first | (simp only [decide_eq_true_eq, decide_eq_false_iff_not, Bool.not_eq_true', Bool.not_eq_false', ne_eq, Decidable.not_not, Bool.not_eq_true, Bool.not_eq_false] at q18) | (dsimp only at q18) | skip
      refine Reg.skip rfl rfl rfl rfl rfl rfl rfl ?_
      refine Reg.skip rfl rfl rfl rfl rfl rfl rfl ?_
      refine Reg.skip rfl rfl rfl rfl rfl rfl rfl ?_
      refine Reg.skip rfl rfl rfl rfl rfl rfl rfl ?_
      refine Reg.skip rfl rfl rfl rfl rfl rfl rfl ?_
      refine Reg.pur rfl rfl rfl rfl (Pur.pickT rfl rfl) ?_
      refine Reg.nil ?_
      refine At.condT rfl rfl rfl ?_
      refine At.region rfl rfl ?_
      refine Reg.pur rfl rfl rfl rfl (Pur.asg rfl) ?_
      refine Reg.nil ?_
      refine At.ret rfl Try.func95 rfl ?_
      exact ⟨congrArg Value.bool (vm_no hlt (by rw [hv1]; revert q8 q14 q18; intros; simp_all; try omega)).symm, rfl⟩
    first | (simp only [decide_eq_true_eq, decide_eq_false_iff_not, Bool.not_eq_true', Bool.not_eq_false', ne_eq, Decidable.not_not, Bool.not_eq_true, Bool.not_eq_false] at q18) | (dsimp only at q18) | skip
    refine Reg.gpur rfl rfl rfl rfl rfl rfl (Pur.mv rfl) ?_
    refine Reg.gpur rfl rfl rfl rfl rfl rfl (Pur.mv rfl) ?_
    refine Reg.gpur rfl rfl rfl rfl rfl rfl (Pur.cutH es54 rfl rfl (by omega) (by omega)) ?_
    refine Reg.gpur rfl rfl rfl rfl rfl rfl (Pur.mv rfl) ?_
    refine Reg.gop rfl rfl rfl rfl rfl rfl (Does.call rfl (containsT_ok l hS hm _ (by omega))) ?_
    rintro _ H ⟨rfl, rfl⟩
    refine Reg.pur rfl rfl rfl rfl (Pur.pickF rfl rfl) ?_
    refine Reg.nil ?_
    refine At.cond rfl rfl (fun q24 => ?_) (fun q24 => ?_)
    · first | (simp only [decide_eq_true_eq, decide_eq_false_iff_not, Bool.not_eq_true', Bool.not_eq_false', ne_eq, Decidable.not_not, Bool.not_eq_true, Bool.not_eq_false] at q24) | (dsimp only at q24) | skip
      refine At.region rfl rfl ?_
      refine Reg.pur rfl rfl rfl rfl (Pur.asg rfl) ?_
      refine Reg.nil ?_
      refine At.ret rfl Try.func95 rfl ?_
      exact ⟨congrArg Value.bool (vm_no hlt (by rw [hv1]; revert q8 q14 q18 q24; intros; simp_all; try omega)).symm, rfl⟩
    first | (simp only [decide_eq_true_eq, decide_eq_false_iff_not, Bool.not_eq_true', Bool.not_eq_false', ne_eq, Decidable.not_not, Bool.not_eq_true, Bool.not_eq_false] at q24) | (dsimp only at q24) | skip
    refine At.region rfl rfl ?_
    first | refine Reg.pur rfl rfl rfl rfl (Pur.add64 rfl rfl (by omega)) ?_ | refine Reg.pur rfl rfl rfl rfl (Pur.add64 rfl rfl (by assumption)) ?_ | refine Reg.pur rfl rfl rfl rfl (Pur.add rfl rfl) ?_
    refine Reg.pur rfl rfl rfl rfl (Pur.mv rfl) ?_
    refine Reg.nil ?_
    refine At.via (ih (i + 1) _ ⟨by omega, rfl, vm_step hgo ?_⟩ (by omega)) ⟨rfl, rfl, rfl, rfl, trivial⟩
    have q24' : inL (l.take i) l[i] = false := by simpa using q24
    rw [hv1, decide_eq_true (by omega), q24']; rfl
  first | (simp only [decide_eq_true_eq, decide_eq_false_iff_not, Bool.not_eq_true', Bool.not_eq_false', ne_eq, Decidable.not_not, Bool.not_eq_true, Bool.not_eq_false] at q8) | (dsimp only at q8) | skip
  refine At.region rfl rfl ?_
  refine Reg.pur rfl rfl rfl rfl (Pur.asg rfl) ?_
  refine Reg.nil ?_
  refine At.ret rfl Try.func95 rfl ?_
  exact ⟨congrArg Value.bool (by unfold vmS; rw [show l.length = i by omega]; exact hgo.symm), rfl⟩
end Go.Proofs.Ytlfillhffpiffaa

namespace Go.Proofs.Ytlfillhffpiffaa
set_option linter.unusedSimpArgs false
set_option linter.unusedVariables false
set_option maxRecDepth 8000
open Go Go.Fx Go.Proofs

def funS (x : List Int) (a b : Int) (r : List Int) : List Int := ((x.set 2 a).set 3 b).take 4 ++ r
def moreS (Bs : List Bd) (out : List (List Int)) (ends : List Int) (x : List Int) : Option (List (List Int)) :=
  if x.getD 0 0 = 2 then match Bs.find? (mt false (x.getD 1 0)) with
    | some bd => some (bd.nodes.map (movS out.length))
    | none => some [x]
  else if x.getD 0 0 = 3 then
    if (rowS Bs (x.drop 4)).2 then some [funS x (ends.getD (x.getD 2 0).toNat 0) (ends.getD (x.getD 3 0).toNat 0) (rowS Bs (x.drop 4)).1] else none
  else some [x]
def goS (Bs : List Bd) : List (List Int) → List (List Int) → List Int → Option (List (List Int))
  | [], out, _ => some out
  | x :: xs, out, ends => match moreS Bs out ends x with
    | none => none
    | some m => if 256 < out.length + m.length then none else goS Bs xs (out ++ m) (ends ++ [((out.length + m.length : Nat) : Int) - 1])
def typS (Bs : List Bd) (L : List (List Int)) : Option (List (List Int)) := goS Bs L [] []

end Go.Proofs.Ytlfillhffpiffaa

namespace Go.Proofs.Ytlfillhffpiffaa
set_option linter.unusedSimpArgs false
set_option linter.unusedVariables false
set_option maxRecDepth 8000
open Go Go.Fx Go.Proofs
namespace FactsSubK
theorem ag25 : ag Try.prog 25 = some 1 := by kernel_rfl
theorem ag28 : ag Try.prog 28 = some 5 := by kernel_rfl
theorem ag47 : ag Try.prog 47 = some 9 := by kernel_rfl
theorem apt23 : appT Try.prog 23 = some (47, 9, 72) := by kernel_rfl
theorem es23 : esz Try.prog 23 = some 9 := by kernel_rfl
theorem es54 : esz Try.prog 54 = some 1 := by kernel_rfl
theorem fo25_0 : foff Try.prog 25 0 = some 0 := by kernel_rfl
theorem fo47_0 : foff Try.prog 47 0 = some 0 := by kernel_rfl
theorem fo47_1 : foff Try.prog 47 1 = some 1 := by kernel_rfl
theorem fo47_2 : foff Try.prog 47 2 = some 2 := by kernel_rfl
theorem fo47_3 : foff Try.prog 47 3 = some 3 := by kernel_rfl
theorem fo47_4 : foff Try.prog 47 4 = some 4 := by kernel_rfl
theorem fo49_2 : foff Try.prog 49 2 = some 2 := by kernel_rfl
theorem isPt143 : isPt Try.prog 143 = true := by kernel_rfl
theorem isl23 : isSl Try.prog 23 = true := by kernel_rfl
theorem mixed : Try.prog.follows .mixedOrders = true := by kernel_rfl
theorem mkT54 : mkT Try.prog 54 = some (3, .int .i64 0, 8) := by kernel_rfl
theorem pl25 : places Try.prog 25 = some [(0, 1)] := by kernel_rfl
theorem sc23 : sc Try.prog 23 = true := by kernel_rfl
theorem sc3 : sc Try.prog 3 = true := by kernel_rfl
theorem slA23 : slA Try.prog 23 = some (47, 9) := by kernel_rfl
theorem zc25 : zc Try.prog 25 = some [.slice none 0 0] := by kernel_rfl
theorem zc28 : zc Try.prog 28 = some [.int .i64 0, .int .i64 0, .int .i64 0, .int .i64 0, .int .i64 0] := by kernel_rfl
theorem zc47 : zc Try.prog 47 = some [.int .i64 0, .int .i64 0, .int .i64 0, .int .i64 0, .int .i64 0, .int .i64 0, .int .i64 0, .int .i64 0, .int .i64 0] := by kernel_rfl
end FactsSubK
open FactsSubK

def TypB (B : Nat) (H' : Heap) (v : Value) (o : Option (List (List Int))) : Prop :=
  match o with
  | none => v = .tuple #[Ty none 0 0, .bool false]
  | some out => ∃ A' cap', v = .tuple #[Ty A' out.length cap', .bool true] ∧ OwnS H' B 47 9 (.slice A' out.length cap') out.length (out.flatMap Is) ∧ Nine out ∧ out.length ≤ 256

theorem nine1 {x : List Int} (h : x.length = 9) : Nine [x] := by intro y hy; simp at hy; subst hy; exact h
theorem ends_at {ends : List Int} {m : Nat} {z : Int} (h0 : 0 ≤ z) (h : z < ends.length) : (Is (ends ++ List.replicate m 0))[0 + z.toNat * 1]? = some (I (ends.getD z.toNat 0)) := by
  rw [show 0 + z.toNat * 1 = z.toNat by omega]
  simp only [Is, List.getElem?_map]
  rw [List.getElem?_append_left (by omega), List.getD_eq_getElem?_getD, List.getElem?_eq_getElem (by omega)]; rfl
theorem more_nil {Bs : List Bd} {out : List (List Int)} {ends : List Int} {k v p q c0 c1 c2 c3 t : Int} {a : Option Addr} {P' : Bd → Nat → Nat → List Value → Prop} (hk : k = 2)
    (hf : match Bs.find? (mt false v) with | none => a = none | some bd => (∃ b o c, a = some ⟨b, o, none⟩ ∧ P' bd b o c)) (hb : (!a.isNone) = false) : moreS Bs out ends [k, v, p, q, c0, c1, c2, c3, t] = some [[k, v, p, q, c0, c1, c2, c3, t]] := by
  subst hk
  cases hq : Bs.find? (mt false v) with
  | none => simp [moreS, hq]
  | some bd => rw [hq] at hf; obtain ⟨b, o, c, rfl, _⟩ := hf; cases hb
theorem more_else {Bs : List Bd} {out : List (List Int)} {ends : List Int} {k v p q c0 c1 c2 c3 t : Int} (h2 : ¬ k = 2) (h3 : ¬ k = 3) : moreS Bs out ends [k, v, p, q, c0, c1, c2, c3, t] = some [[k, v, p, q, c0, c1, c2, c3, t]] := by
  simp [moreS, h2, h3]
theorem ends_set {ends : List Int} {n i : Nat} (hl : ends.length = i) (hi : i < n) (z : Int) : (Is (ends ++ List.replicate (n - i) 0)).set (0 + (i : Int).toNat * 1) (I z) = Is ((ends ++ [z]) ++ List.replicate (n - (i + 1)) 0) := by
  rw [show 0 + (i : Int).toNat * 1 = i by omega, Is_set, List.set_append_right _ _ (by omega), hl, Nat.sub_self, show n - i = (n - (i + 1)) + 1 by omega, List.replicate_succ, List.set_cons_zero, List.append_assoc]; rfl
theorem nod3 {k v p q c0 c1 c2 c3 t : Int} (h : nodM [k, v, p, q, c0, c1, c2, c3, t] = true) (hk : k = 3) : rowM [c0, c1, c2, c3, t] = true := by
  subst hk; simp [nodM] at h; exact h.1
theorem row_tail {r : List Int} (h : rowM r = true) : -1 ≤ r.getD 4 0 := by
  unfold rowM at h; simp only [Bool.and_eq_true, decide_eq_true_eq] at h; exact h.2.1

theorem ofType_ok {A A1 : Option Addr} {cap cap1 bt ot : Nat} {ct : List Value} {Bs : List Bd} {L : List (List Int)} {H : Heap} (hB : Bds H (.slice A Bs.length cap) Bs) (hS : SlT H Is 9 (.slice A1 L.length cap1) L) (hL : Nine L) (hM : typM L = true)
    (hT : Blk H bt ct) (hct : ct[ot]? = some (.slice A1 L.length cap1)) :
    Ret Try.prog 55 [.slice A Bs.length cap, ptr bt ot] H (fun v H' => Ext H H' ∧ TypB H.size H' v (typS Bs L)) := by
  have hlen : 1 ≤ L.length ∧ L.length ≤ 256 := by unfold typM at hM; simp only [Bool.and_eq_true, decide_eq_true_eq] at hM; exact hM.1.1
  refine Ret.of_at (N := 101) Try.call55 Try.func55 rfl rfl rfl ?_
  refine At.region rfl rfl ?_
  refine Reg.op rfl rfl rfl rfl (Does.alloc zc25) ?_
  rintro _ H1 ⟨rfl, hn1⟩
  refine Reg.pur rfl rfl rfl rfl (Pur.asg rfl) ?_
  refine Reg.nil ?_
  have hT1 := hT.ext hn1.ext
  refine At.region rfl rfl ?_
  refine Reg.pur rfl rfl rfl rfl (Pur.asg rfl) ?_
  refine Reg.nil ?_
  refine At.region rfl rfl ?_
  refine Reg.pur rfl rfl rfl rfl (Pur.mv rfl) ?_
  refine Reg.pur rfl rfl rfl rfl (Pur.nilc rfl) ?_
  refine Reg.pur rfl rfl rfl rfl (Pur.fld _ fo25_0 rfl) ?_
  refine Reg.lod rfl rfl rfl rfl (Lod.ld sc23 rfl hT1 (by simpa using hct)) ?_
  refine Reg.pur rfl rfl rfl rfl (Pur.lenS isl23 rfl) ?_
  refine Reg.op rfl rfl rfl rfl (Does.mks mkT54 rfl rfl (by omega) (by omega)) ?_
  rintro _ H2 ⟨rfl, hp2⟩
  refine Reg.pur rfl rfl rfl rfl (Pur.asg rfl) ?_
  refine Reg.nil ?_
  have hn2 : New H1 H2 (List.replicate L.length (I 0)) := ⟨_, hp2⟩
  have hEn : Own H2 H1.size (Is ([] ++ List.replicate (L.length - 0) 0)) := by have := hn2.own; rwa [show (List.replicate L.length (I 0)) = Is ([] ++ List.replicate (L.length - 0) 0) by simp [Is]] at this
  have hRb : Own H2 H.size [.slice none 0 0] := hn1.own.ext hn2.ext
  have hE2 := hn1.ext.trans hn2.ext
  have hlt1 := hn1.own.lt
  have hlt2 := hn2.own.lt
  refine At.region rfl rfl ?_
  refine Reg.pur rfl rfl rfl rfl (Pur.mv rfl) ?_
  refine Reg.pur rfl rfl rfl rfl (Pur.nilc rfl) ?_
  refine Reg.pur rfl rfl rfl rfl (Pur.fld _ fo25_0 rfl) ?_
  refine Reg.lod rfl rfl rfl rfl (Lod.ld sc23 rfl (hT1.ext hn2.ext) (by simpa using hct)) ?_
  refine Reg.pur rfl rfl rfl rfl (Pur.lenS isl23 rfl) ?_
  refine Reg.pur rfl rfl rfl rfl (Pur.mv rfl) ?_
  refine Reg.nil ?_
  refine At.loop (σ := Nat × List (List Int) × List Int × Option Addr × Nat) (fun s => [(25, I s.1), (24, I L.length), (23, .slice A1 L.length cap1), (6, .slice s.2.2.2.1 s.2.1.length s.2.2.2.2), (7, .slice (some ⟨H1.size, 0, none⟩) L.length L.length), (0, .slice A Bs.length cap), (4, ptr H.size 0)]) (fun s H' => s.1 ≤ L.length ∧ s.2.1.length ≤ 256 ∧ s.2.2.1.length = s.1 ∧ Nine s.2.1 ∧ OwnS H' H2.size 47 9 (.slice s.2.2.2.1 s.2.1.length s.2.2.2.2) s.2.1.length (s.2.1.flatMap Is) ∧ Own H' H1.size (Is (s.2.2.1 ++ List.replicate (L.length - s.1) 0)) ∧ Own H' H.size [.slice none 0 0] ∧ Ext H1 H' ∧ goS Bs (L.drop s.1) s.2.1 s.2.2.1 = typS Bs L) (fun s => L.length - s.1) (0, [], [], none, 0) rfl ⟨rfl, rfl, rfl, rfl, rfl, rfl, rfl, trivial⟩ ⟨by omega, by simp, rfl, (fun x hx => by cases hx), OwnS.nil _ _ _ _, hEn, hRb, hn2.ext, rfl⟩ ?_
  clear hEn hRb
  rintro ⟨i, out, ends, A', cap'⟩ H3 ⟨hi, hol, hel, hN, hO, hEn, hRb, hE, hgo⟩ ih
  dsimp only at hi hol hel hN hO hEn hRb hE hgo ⊢
  refine At.region rfl rfl ?_
  refine Reg.pur rfl rfl rfl rfl (Pur.lss rfl rfl) ?_
  refine Reg.nil ?_
  refine At.cond rfl rfl (fun hb1 => ?_) (fun hb1 => ?_)
  · simp only [decide_eq_true_eq] at hb1
    have hlt : i < L.length := by omega
    have hE3 := hn1.ext.trans hE
    obtain ⟨b, o, c, rfl, hB0, hd, h9⟩ := sl_at (wide9 hL) (hS.ext hE3) hlt
    have h9' := hL _ (List.getElem_mem hlt)
    have hfun := typM_all hM hlt
    have hnod := typM_nod hM hlt
    rw [dropL hlt, goS] at hgo
    generalize L[i] = x at hgo hd h9 h9' hfun hnod
    obtain ⟨k, v, p, q, c0, c1, c2, c3, t, rfl⟩ : ∃ k v p q c0 c1 c2 c3 t, x = [k, v, p, q, c0, c1, c2, c3, t] := by match x, h9' with | [k, v, p, q, c0, c1, c2, c3, t], _ => exact ⟨_, _, _, _, _, _, _, _, _, rfl⟩
    refine At.region rfl rfl ?_
    refine Reg.pur rfl rfl rfl rfl (Pur.mv rfl) ?_
    refine Reg.pur rfl rfl rfl rfl (Pur.idx _ es23 rfl rfl (by omega) hb1) ?_
    refine Reg.lod rfl rfl rfl rfl (Lod.ldn ag47 rfl hB0 hd h9) ?_
    refine Reg.op rfl rfl rfl rfl (Does.alloc zc47) ?_
    rintro _ H4 ⟨rfl, hn4⟩
    refine Reg.pur rfl rfl rfl rfl (Pur.asg rfl) ?_
    refine Reg.op0 rfl rfl rfl (Does.stn ag47 rfl rfl (ones_Is _) h9 hn4.own (by decide)) ?_
    rintro _ H5 hu5
    refine Reg.nil ?_
    have hX : Own H5 H3.size (Is [k, v, p, q, c0, c1, c2, c3, t]) := by have := hu5.own; rwa [over (by rfl)] at this
    have hE5 : Ext H3 H5 := hn4.ext.upd hu5 (Nat.le_refl _)
    refine At.region rfl rfl ?_
    refine Reg.lod rfl rfl rfl rfl (Lod.ldn ag47 rfl hX.blk (whole rfl) rfl) ?_
    refine Reg.op rfl rfl rfl rfl (Does.bslA ([[_, _, _, _, _, _, _, _, _]]) slA23 rfl rfl rfl rfl rfl rfl) ?_
    rintro _ H6 ⟨rfl, hp6⟩
    refine Reg.pur rfl rfl rfl rfl (Pur.asg rfl) ?_
    refine Reg.nil ?_
    have hn6 : New H5 H6 (Is [k, v, p, q, c0, c1, c2, c3, t]) := ⟨_, hp6⟩
    have hX6 := hX.ext hn6.ext
    have hE6 := hE5.trans hn6.ext
    have hY := hn6.own
    refine At.region rfl rfl ?_
    refine Reg.pur rfl rfl rfl rfl (Pur.fld _ fo47_0 rfl) ?_
    refine Reg.lod rfl rfl rfl rfl (Lod.ld sc3 rfl hX6.blk rfl) ?_
    refine Reg.nil ?_
    refine At.region rfl rfl ?_
    refine Reg.pur rfl rfl rfl rfl (Pur.eql rfl rfl) ?_
    refine Reg.pur rfl rfl rfl rfl (Pur.asg rfl) ?_
    refine Reg.nil ?_
    refine At.joinc (σ := List (List Int) × Option Addr × Nat) (fun s => [(10, .slice s.2.1 s.1.length s.2.2), (6, .slice A' out.length cap'), (7, .slice (some ⟨H1.size, 0, none⟩) L.length L.length), (8, I i), (25, I i), (24, I L.length), (23, .slice (some ⟨b, o, none⟩) L.length cap1), (0, .slice A Bs.length cap), (4, ptr H.size 0)]) (fun s H' => moreS Bs out ends [k, v, p, q, c0, c1, c2, c3, t] = some s.1 ∧ SlT H' Is 9 (.slice s.2.1 s.1.length s.2.2) s.1 ∧ Nine s.1 ∧ s.1.length ≤ 1954687338212 ∧ Ext H3 H') rfl (fun hJ => ?_) (fun s H7 ⟨hmo, hSm, hNm, hml, hE7⟩ => ?_)
    · refine At.cond rfl rfl (fun hb2 => ?_) (fun hb2 => ?_)
      · refine At.region rfl rfl ?_
        refine Reg.pur rfl rfl rfl rfl (Pur.mv rfl) ?_
        refine Reg.pur rfl rfl rfl rfl (Pur.fld _ fo47_1 rfl) ?_
        refine Reg.lod rfl rfl rfl rfl (Lod.ld sc3 rfl hX6.blk rfl) ?_
        refine Reg.op rfl rfl rfl rfl (Does.call rfl (find_ok (hB.ext (hE3.trans hE6)) false v)) ?_
        rintro _ H6 ⟨rfl, a, rfl, hf⟩
        refine Reg.pur rfl rfl rfl rfl (Pur.asg rfl) ?_
        refine Reg.nil ?_
        refine At.region rfl rfl ?_
        refine Reg.pur rfl rfl rfl rfl (Pur.mv rfl) ?_
        refine Reg.pur rfl rfl rfl rfl (Pur.nePN isPt143 rfl rfl) ?_
        refine Reg.nil ?_
        refine At.cond rfl rfl (fun hb3 => ?_) (fun hb3 => ?_)
        · obtain ⟨bd, hq, b', o', c', rfl, hB', hd', hok, _⟩ : ∃ bd, Bs.find? (mt false v) = some bd ∧ ∃ b o c, a = some ⟨b, o, none⟩ ∧ Blk H6 b c ∧ (c.drop o).take 8 = encB bd ∧ bd.Ok H6 ∧ ∃ oa, A = some ⟨b, oa, none⟩ := by
            cases hq : Bs.find? (mt false v) with
            | none => rw [hq] at hf; subst hf; cases hb3
            | some bd => rw [hq] at hf; exact ⟨bd, rfl, hf⟩
          refine At.region rfl rfl ?_
          refine Reg.pur rfl rfl rfl rfl (Pur.mv rfl) ?_
          refine Reg.pur rfl rfl rfl rfl (Pur.nilc rfl) ?_
          refine Reg.pur rfl rfl rfl rfl (Pur.fld _ fo49_2 rfl) ?_
          refine Reg.pur rfl rfl rfl rfl (Pur.fld _ fo25_0 rfl) ?_
          refine Reg.lod rfl rfl rfl rfl (Lod.ld sc23 rfl hB' (at_tk (j := 2) hd' (by decide) rfl)) ?_
          refine Reg.pur rfl rfl rfl rfl (Pur.mv rfl) ?_
          refine Reg.pur rfl rfl rfl rfl (Pur.lenS isl23 rfl) ?_
          refine Reg.op rfl rfl rfl rfl (Does.call rfl (moved_ok hok.nine hok.sl hok.fits out.length)) ?_
          rintro _ H7 ⟨⟨A2, cap2, rfl, _⟩, hS2, hE7⟩
          refine Reg.pur rfl rfl rfl rfl (Pur.asg rfl) ?_
          refine Reg.nil ?_
          have hS1 : ∀ H', Ext H6 H' → SlT H' Is 9 (.slice (some ⟨H5.size, 0, none⟩) 1 1) [[k, v, p, q, c0, c1, c2, c3, t]] := fun H' h => (sl_of (L := [[k, v, p, q, c0, c1, c2, c3, t]]) (cap := 1) (o := 0) (wide9 (nine1 rfl)) (by decide) hY.blk rfl (by simp) (by decide)).ext h
          first | exact At.meets rfl (hJ (bd.nodes.map (movS out.length), A2, cap2) _ ⟨by have hk2 : k = 2 := of_decide_eq_true hb2; subst hk2; simp [moreS, hq], by simp only [List.length_map]; exact hS2, nine_mov hok.nine, by simp only [List.length_map]; have := hok.fits; omega, hE6.trans hE7⟩) ⟨by simp only [List.length_map]; rfl, rfl, rfl, rfl, rfl, rfl, rfl, rfl, rfl, trivial⟩ | exact At.meets rfl (hJ ([[k, v, p, q, c0, c1, c2, c3, t]], some ⟨H5.size, 0, none⟩, 1) _ ⟨more_nil (of_decide_eq_true hb2) hf hb3, hS1 _ (Ext.refl _), nine1 rfl, by simp, hE6⟩) ⟨rfl, rfl, rfl, rfl, rfl, rfl, rfl, rfl, rfl, trivial⟩ | exact At.meets rfl (hJ ([[k, v, p, q, c0, c1, c2, c3, t]], some ⟨H5.size, 0, none⟩, 1) _ ⟨more_else (of_decide_eq_false hb2) (of_decide_eq_false hb4), hS1 _ (Ext.refl _), nine1 rfl, by simp, hE6⟩) ⟨rfl, rfl, rfl, rfl, rfl, rfl, rfl, rfl, rfl, trivial⟩ | exact At.meets rfl (hJ ([funS [k, v, p, q, c0, c1, c2, c3, t] (ends.getD p.toNat 0) (ends.getD q.toNat 0) (rowS Bs [c0, c1, c2, c3, t]).1], some ⟨H5.size, 0, none⟩, 1) _ ⟨by subst hk3; simp at hb5; simp [moreS, hb5], sl_of (L := [funS [k, v, p, q, c0, c1, c2, c3, t] (ends.getD p.toNat 0) (ends.getD q.toNat 0) (rowS Bs [c0, c1, c2, c3, t]).1]) (cap := 1) (o := 0) (wide9 (nine1 hFl)) (by decide) hF.blk (by rw [List.drop_zero, List.take_of_length_le (by simpa [Is] using Nat.le_of_eq hFl)]; simp) (by simp) (by decide), nine1 hFl, by simp, hEc⟩) ⟨rfl, rfl, rfl, rfl, rfl, rfl, rfl, rfl, rfl, trivial⟩
        have hS1 : ∀ H', Ext H6 H' → SlT H' Is 9 (.slice (some ⟨H5.size, 0, none⟩) 1 1) [[k, v, p, q, c0, c1, c2, c3, t]] := fun H' h => (sl_of (L := [[k, v, p, q, c0, c1, c2, c3, t]]) (cap := 1) (o := 0) (wide9 (nine1 rfl)) (by decide) hY.blk rfl (by simp) (by decide)).ext h
        first | exact At.meets rfl (hJ (bd.nodes.map (movS out.length), A2, cap2) _ ⟨by have hk2 : k = 2 := of_decide_eq_true hb2; subst hk2; simp [moreS, hq], by simp only [List.length_map]; exact hS2, nine_mov hok.nine, by simp only [List.length_map]; have := hok.fits; omega, hE6.trans hE7⟩) ⟨by simp only [List.length_map]; rfl, rfl, rfl, rfl, rfl, rfl, rfl, rfl, rfl, trivial⟩ | exact At.meets rfl (hJ ([[k, v, p, q, c0, c1, c2, c3, t]], some ⟨H5.size, 0, none⟩, 1) _ ⟨more_nil (of_decide_eq_true hb2) hf hb3, hS1 _ (Ext.refl _), nine1 rfl, by simp, hE6⟩) ⟨rfl, rfl, rfl, rfl, rfl, rfl, rfl, rfl, rfl, trivial⟩ | exact At.meets rfl (hJ ([[k, v, p, q, c0, c1, c2, c3, t]], some ⟨H5.size, 0, none⟩, 1) _ ⟨more_else (of_decide_eq_false hb2) (of_decide_eq_false hb4), hS1 _ (Ext.refl _), nine1 rfl, by simp, hE6⟩) ⟨rfl, rfl, rfl, rfl, rfl, rfl, rfl, rfl, rfl, trivial⟩ | exact At.meets rfl (hJ ([funS [k, v, p, q, c0, c1, c2, c3, t] (ends.getD p.toNat 0) (ends.getD q.toNat 0) (rowS Bs [c0, c1, c2, c3, t]).1], some ⟨H5.size, 0, none⟩, 1) _ ⟨by subst hk3; simp at hb5; simp [moreS, hb5], sl_of (L := [funS [k, v, p, q, c0, c1, c2, c3, t] (ends.getD p.toNat 0) (ends.getD q.toNat 0) (rowS Bs [c0, c1, c2, c3, t]).1]) (cap := 1) (o := 0) (wide9 (nine1 hFl)) (by decide) hF.blk (by rw [List.drop_zero, List.take_of_length_le (by simpa [Is] using Nat.le_of_eq hFl)]; simp) (by simp) (by decide), nine1 hFl, by simp, hEc⟩) ⟨rfl, rfl, rfl, rfl, rfl, rfl, rfl, rfl, rfl, trivial⟩
      refine At.region rfl rfl ?_
      refine Reg.pur rfl rfl rfl rfl (Pur.eql rfl rfl) ?_
      refine Reg.pur rfl rfl rfl rfl (Pur.asg rfl) ?_
      refine Reg.nil ?_
      refine At.cond rfl rfl (fun hb4 => ?_) (fun hb4 => ?_)
      · have hk3 : k = 3 := of_decide_eq_true hb4
        have hf3 : q = (i : Int) - 1 ∧ 0 ≤ p ∧ p < (i : Int) - 1 ∧ 1 ≤ i := hfun hk3
        have htl := row_tail (nod3 hnod hk3)
        refine At.region rfl rfl ?_
        refine Reg.pur rfl rfl rfl rfl (Pur.mv rfl) ?_
        refine Reg.pur rfl rfl rfl rfl (Pur.fld _ fo47_4 rfl) ?_
        refine Reg.lod rfl rfl rfl rfl (Lod.ldn ag28 rfl hX6.blk (show _ = Is [c0, c1, c2, c3, t] from rfl) rfl) ?_
        refine Reg.op rfl rfl rfl rfl (Does.call rfl (ofRow_ok (hB.ext (hE3.trans hE6)) [c0, c1, c2, c3, t] rfl htl)) ?_
        rintro _ H7 ⟨rfl, hrl, hE7⟩
        refine Reg.pur rfl rfl rfl rfl (Pur.mv rfl) ?_
        refine Reg.pur rfl rfl rfl rfl (Pur.ext rfl rfl) ?_
        refine Reg.pur rfl rfl rfl rfl (Pur.ext rfl rfl) ?_
        refine Reg.op rfl rfl rfl rfl (Does.alloc zc28) ?_
        rintro _ H8 ⟨rfl, hn8⟩
        refine Reg.op0 rfl rfl rfl (Does.stn ag28 rfl rfl (ones_Is _) (by simp [hrl]) hn8.own (by decide)) ?_
        rintro _ H9 hu9
        refine Reg.pur rfl rfl rfl rfl (Pur.asg rfl) ?_
        refine Reg.nil ?_
        have hl36 : H3.size < H6.size := hX6.lt
        have hl56 : H5.size < H6.size := hY.lt
        have hl67 := hE7.1
        have hl13 : H1.size < H3.size := hEn.lt
        have hl13' : H3.size < H5.size := hX.lt
        have hE9 : Ext H3 H9 := (((hE6.trans hE7).trans hn8.ext)).upd hu9 (by omega)
        have hX9 := ((hX6.ext hE7).ext hn8.ext).upd hu9 (by omega)
        have hY9 := ((hY.ext hE7).ext hn8.ext).upd hu9 (by omega)
        have hEn9 := hEn.ext hE9
        have hRb9 := hRb.ext hE9
        have hZ : Own H9 H7.size (Is (rowS Bs [c0, c1, c2, c3, t]).1) := by have := hu9.own; rwa [over (by rfl)] at this
        refine At.region rfl rfl ?_
        refine Reg.pur rfl rfl rfl rfl (Pur.mv rfl) ?_
        refine Reg.pur rfl rfl rfl rfl (Pur.not rfl) ?_
        refine Reg.nil ?_
        refine At.cond rfl rfl (fun hb5 => ?_) (fun hb5 => ?_)
        · refine At.region rfl rfl ?_
          refine Reg.pur rfl rfl rfl rfl (Pur.bld (cs := [_]) pl25 zc25 rfl rfl ⟨rfl, rfl⟩) ?_
          refine Reg.op0 rfl rfl rfl (Does.stn ag25 rfl rfl rfl rfl hRb9 (by simp)) ?_
          rintro _ H10 hu10
          refine Reg.pur rfl rfl rfl rfl (Pur.asg rfl) ?_
          refine Reg.nil ?_
          have hR : Own H10 H.size [.slice none 0 0] := hu10.own
          have hRl : ([.slice none 0 0] : List Value).length = 1 := rfl
          refine At.retC rfl Try.func55 ⟨_, _, _, _, rfl, rfl, ⟨_, hR.blk, .inr ⟨_, _, ag25, (whole hRl), hRl, rfl⟩⟩, ⟨_, _, rfl, rfl, rfl⟩⟩ ?_
          first | (refine ⟨(hn1.ext.trans (hE.trans hE9)).upd hu10 (Nat.le_refl _), ?_⟩; rw [← hgo, show moreS Bs out ends [k, v, p, q, c0, c1, c2, c3, t] = none by subst hk3; simp at hb5; simp [moreS, hb5]]; exact rfl) | (refine ⟨(hn1.ext.trans (hE.trans hE7)).upd hu10 (Nat.le_refl _), ?_⟩; rw [← hgo, if_pos (by simp only [decide_eq_true_eq] at hb6; omega)]; exact rfl) | (refine ⟨(hn1.ext.trans hE).upd hu10 (Nat.le_refl _), ?_⟩; simp only [decide_eq_false_iff_not] at hb1; rw [List.drop_of_length_le (by omega)] at hgo; rw [← hgo]; exact ⟨A', cap', rfl, (hO.mono (by have := hn1.ext.1; omega)).but hu10.but (fun g hg he => by obtain ⟨_, _, _, hown⟩ := own_slice hO; have := hown g hg; omega), hN, hol⟩)
        refine At.draw (fun H' => Blk H' H3.size (Is [k, v, p, q, c0, c1, c2, c3, t]) ∧ Blk H' H1.size (Is (ends ++ List.replicate (L.length - i) 0)) ∧ Blk H' H7.size (Is (rowS Bs [c0, c1, c2, c3, t]).1)) [22] mixed rfl rfl ?_
        refine RegD.tpur (i := 0) rfl rfl rfl rfl (by kernel_rfl) (Pur.mv rfl) ?_
        refine RegD.tpur (i := 1) rfl rfl rfl rfl (by kernel_rfl) (Pur.mv rfl) ?_
        refine RegD.tpur (i := 2) rfl rfl rfl rfl (by kernel_rfl) (Pur.mv rfl) ?_
        refine RegD.tpur (i := 3) rfl rfl rfl rfl (by kernel_rfl) (Pur.mv rfl) ?_
        refine RegD.tpur (i := 4) rfl rfl rfl rfl (by kernel_rfl) (Pur.fld _ fo47_2 rfl) ?_
        refine RegD.take (i := 5) rfl rfl rfl rfl (by kernel_rfl) ⟨hX9.blk, hEn9.blk, hZ.blk⟩ (fun H hS => Lod.ld sc3 rfl hS.1 rfl) ?_
        refine RegD.tpur (i := 6) rfl rfl rfl rfl (by kernel_rfl) (Pur.idx _ es54 rfl rfl (by omega) (by omega)) ?_
        refine RegD.take (i := 7) rfl rfl rfl rfl (by kernel_rfl) ⟨hX9.blk, hEn9.blk, hZ.blk⟩ (fun H hS => Lod.ld sc3 rfl hS.2.1 (ends_at (by omega) (by omega))) ?_
        refine RegD.tpur (i := 8) rfl rfl rfl rfl (by kernel_rfl) (Pur.mv rfl) ?_
        refine RegD.tpur (i := 9) rfl rfl rfl rfl (by kernel_rfl) (Pur.fld _ fo47_3 rfl) ?_
        refine RegD.take (i := 10) rfl rfl rfl rfl (by kernel_rfl) ⟨hX9.blk, hEn9.blk, hZ.blk⟩ (fun H hS => Lod.ld sc3 rfl hS.1 rfl) ?_
        refine RegD.tpur (i := 11) rfl rfl rfl rfl (by kernel_rfl) (Pur.idx _ es54 rfl rfl (by omega) (by omega)) ?_
        refine RegD.take (i := 12) rfl rfl rfl rfl (by kernel_rfl) ⟨hX9.blk, hEn9.blk, hZ.blk⟩ (fun H hS => Lod.ld sc3 rfl hS.2.1 (ends_at (by omega) (by omega))) ?_
        refine RegD.take (i := 13) rfl rfl rfl rfl (by kernel_rfl) ⟨hX9.blk, hEn9.blk, hZ.blk⟩ (fun H hS => Lod.ldn ag28 rfl hS.2.2 (whole (by simp [hrl])) (by simp [hrl])) ?_
        refine RegD.tpur (i := 14) rfl rfl rfl rfl (by kernel_rfl) (Pur.idx _ es23 rfl rfl (by omega) (by omega)) ?_
        refine RegD.tpur (i := 15) rfl rfl rfl rfl (by kernel_rfl) (Pur.fld _ fo47_2 rfl) ?_
        refine RegD.one0 (i := 16) (by kernel_rfl) rfl rfl rfl (Does.st sc3 rfl rfl rfl hY9 (by simp)) ?_
        rintro _ Ha hua
        have hXa := hX9.upd hua (by omega)
        have hEna := hEn9.upd hua (by omega)
        have hZa := hZ.upd hua (by omega)
        refine ⟨fun _ _ => ⟨hXa.blk, hEna.blk, hZa.blk⟩, ?_⟩
        refine RegD.tpur (i := 17) rfl rfl rfl rfl (by kernel_rfl) (Pur.idx _ es23 rfl rfl (by omega) (by omega)) ?_
        refine RegD.tpur (i := 18) rfl rfl rfl rfl (by kernel_rfl) (Pur.fld _ fo47_3 rfl) ?_
        refine RegD.one0 (i := 19) (by kernel_rfl) rfl rfl rfl (Does.st sc3 rfl rfl rfl hua.own (by simp)) ?_
        rintro _ Hb hub
        have hXb := hXa.upd hub (by omega)
        have hEnb := hEna.upd hub (by omega)
        have hZb := hZa.upd hub (by omega)
        refine ⟨fun _ _ => ⟨hXb.blk, hEnb.blk, hZb.blk⟩, ?_⟩
        refine RegD.tpur (i := 20) rfl rfl rfl rfl (by kernel_rfl) (Pur.idx _ es23 rfl rfl (by omega) (by omega)) ?_
        refine RegD.tpur (i := 21) rfl rfl rfl rfl (by kernel_rfl) (Pur.fld _ fo47_4 rfl) ?_
        refine RegD.one0 (i := 22) (by kernel_rfl) rfl rfl rfl (Does.stn ag28 rfl rfl (ones_Is _) (by simp [hrl]) hub.own (by simp)) ?_
        rintro _ Hc huc
        refine ⟨fun h => (by cases h), ?_⟩
        refine RegD.done (by kernel_rfl) ?_
        have hF : Own Hc H5.size (Is (funS [k, v, p, q, c0, c1, c2, c3, t] (ends.getD p.toNat 0) (ends.getD q.toNat 0) (rowS Bs [c0, c1, c2, c3, t]).1)) := by have := huc.own; simpa [Is, funS] using this
        have hEc : Ext H3 Hc := ((hE9.upd hua (by omega)).upd hub (by omega)).upd huc (by omega)
        have hFl : (funS [k, v, p, q, c0, c1, c2, c3, t] (ends.getD p.toNat 0) (ends.getD q.toNat 0) (rowS Bs [c0, c1, c2, c3, t]).1).length = 9 := by simp [funS, hrl]
        have hS1 : ∀ H', Ext H6 H' → SlT H' Is 9 (.slice (some ⟨H5.size, 0, none⟩) 1 1) [[k, v, p, q, c0, c1, c2, c3, t]] := fun H' h => (sl_of (L := [[k, v, p, q, c0, c1, c2, c3, t]]) (cap := 1) (o := 0) (wide9 (nine1 rfl)) (by decide) hY.blk rfl (by simp) (by decide)).ext h
        first | exact At.meets rfl (hJ (bd.nodes.map (movS out.length), A2, cap2) _ ⟨by have hk2 : k = 2 := of_decide_eq_true hb2; subst hk2; simp [moreS, hq], by simp only [List.length_map]; exact hS2, nine_mov hok.nine, by simp only [List.length_map]; have := hok.fits; omega, hE6.trans hE7⟩) ⟨by simp only [List.length_map]; rfl, rfl, rfl, rfl, rfl, rfl, rfl, rfl, rfl, trivial⟩ | exact At.meets rfl (hJ ([[k, v, p, q, c0, c1, c2, c3, t]], some ⟨H5.size, 0, none⟩, 1) _ ⟨more_nil (of_decide_eq_true hb2) hf hb3, hS1 _ (Ext.refl _), nine1 rfl, by simp, hE6⟩) ⟨rfl, rfl, rfl, rfl, rfl, rfl, rfl, rfl, rfl, trivial⟩ | exact At.meets rfl (hJ ([[k, v, p, q, c0, c1, c2, c3, t]], some ⟨H5.size, 0, none⟩, 1) _ ⟨more_else (of_decide_eq_false hb2) (of_decide_eq_false hb4), hS1 _ (Ext.refl _), nine1 rfl, by simp, hE6⟩) ⟨rfl, rfl, rfl, rfl, rfl, rfl, rfl, rfl, rfl, trivial⟩ | exact At.meets rfl (hJ ([funS [k, v, p, q, c0, c1, c2, c3, t] (ends.getD p.toNat 0) (ends.getD q.toNat 0) (rowS Bs [c0, c1, c2, c3, t]).1], some ⟨H5.size, 0, none⟩, 1) _ ⟨by subst hk3; simp at hb5; simp [moreS, hb5], sl_of (L := [funS [k, v, p, q, c0, c1, c2, c3, t] (ends.getD p.toNat 0) (ends.getD q.toNat 0) (rowS Bs [c0, c1, c2, c3, t]).1]) (cap := 1) (o := 0) (wide9 (nine1 hFl)) (by decide) hF.blk (by rw [List.drop_zero, List.take_of_length_le (by simpa [Is] using Nat.le_of_eq hFl)]; simp) (by simp) (by decide), nine1 hFl, by simp, hEc⟩) ⟨rfl, rfl, rfl, rfl, rfl, rfl, rfl, rfl, rfl, trivial⟩
      have hS1 : ∀ H', Ext H6 H' → SlT H' Is 9 (.slice (some ⟨H5.size, 0, none⟩) 1 1) [[k, v, p, q, c0, c1, c2, c3, t]] := fun H' h => (sl_of (L := [[k, v, p, q, c0, c1, c2, c3, t]]) (cap := 1) (o := 0) (wide9 (nine1 rfl)) (by decide) hY.blk rfl (by simp) (by decide)).ext h
      first | exact At.meets rfl (hJ (bd.nodes.map (movS out.length), A2, cap2) _ ⟨by have hk2 : k = 2 := of_decide_eq_true hb2; subst hk2; simp [moreS, hq], by simp only [List.length_map]; exact hS2, nine_mov hok.nine, by simp only [List.length_map]; have := hok.fits; omega, hE6.trans hE7⟩) ⟨by simp only [List.length_map]; rfl, rfl, rfl, rfl, rfl, rfl, rfl, rfl, rfl, trivial⟩ | exact At.meets rfl (hJ ([[k, v, p, q, c0, c1, c2, c3, t]], some ⟨H5.size, 0, none⟩, 1) _ ⟨more_nil (of_decide_eq_true hb2) hf hb3, hS1 _ (Ext.refl _), nine1 rfl, by simp, hE6⟩) ⟨rfl, rfl, rfl, rfl, rfl, rfl, rfl, rfl, rfl, trivial⟩ | exact At.meets rfl (hJ ([[k, v, p, q, c0, c1, c2, c3, t]], some ⟨H5.size, 0, none⟩, 1) _ ⟨more_else (of_decide_eq_false hb2) (of_decide_eq_false hb4), hS1 _ (Ext.refl _), nine1 rfl, by simp, hE6⟩) ⟨rfl, rfl, rfl, rfl, rfl, rfl, rfl, rfl, rfl, trivial⟩ | exact At.meets rfl (hJ ([funS [k, v, p, q, c0, c1, c2, c3, t] (ends.getD p.toNat 0) (ends.getD q.toNat 0) (rowS Bs [c0, c1, c2, c3, t]).1], some ⟨H5.size, 0, none⟩, 1) _ ⟨by subst hk3; simp at hb5; simp [moreS, hb5], sl_of (L := [funS [k, v, p, q, c0, c1, c2, c3, t] (ends.getD p.toNat 0) (ends.getD q.toNat 0) (rowS Bs [c0, c1, c2, c3, t]).1]) (cap := 1) (o := 0) (wide9 (nine1 hFl)) (by decide) hF.blk (by rw [List.drop_zero, List.take_of_length_le (by simpa [Is] using Nat.le_of_eq hFl)]; simp) (by simp) (by decide), nine1 hFl, by simp, hEc⟩) ⟨rfl, rfl, rfl, rfl, rfl, rfl, rfl, rfl, rfl, trivial⟩
    obtain ⟨m, A2, cap2⟩ := s
    dsimp only at hmo hSm hNm hml ⊢
    rw [hmo] at hgo
    dsimp only at hgo
    have hl13 : H1.size < H3.size := hEn.lt
    have hO7 := hO.ext hE7
    have hEn7 := hEn.ext hE7
    have hRb7 := hRb.ext hE7
    obtain ⟨_, _, _, hown⟩ := own_slice hO
    refine At.region rfl rfl ?_
    refine Reg.pur rfl rfl rfl rfl (Pur.mv rfl) ?_
    refine Reg.pur rfl rfl rfl rfl (Pur.lenS isl23 rfl) ?_
    refine Reg.pur rfl rfl rfl rfl (Pur.mv rfl) ?_
    refine Reg.pur rfl rfl rfl rfl (Pur.lenS isl23 rfl) ?_
    first | refine Reg.pur rfl rfl rfl rfl (Pur.add64 rfl rfl (by omega)) ?_ | refine Reg.pur rfl rfl rfl rfl (Pur.add64 rfl rfl (by assumption)) ?_ | refine Reg.pur rfl rfl rfl rfl (Pur.add rfl rfl) ?_
    refine Reg.pur rfl rfl rfl rfl (Pur.gtr rfl rfl) ?_
    refine Reg.nil ?_
    refine At.cond rfl rfl (fun hb6 => ?_) (fun hb6 => ?_)
    · refine At.region rfl rfl ?_
      refine Reg.pur rfl rfl rfl rfl (Pur.bld (cs := [_]) pl25 zc25 rfl rfl ⟨rfl, rfl⟩) ?_
      refine Reg.op0 rfl rfl rfl (Does.stn ag25 rfl rfl rfl rfl hRb7 (by simp)) ?_
      rintro _ H10 hu10
      refine Reg.pur rfl rfl rfl rfl (Pur.asg rfl) ?_
      refine Reg.nil ?_
      have hR : Own H10 H.size [.slice none 0 0] := hu10.own
      have hRl : ([.slice none 0 0] : List Value).length = 1 := rfl
      refine At.retC rfl Try.func55 ⟨_, _, _, _, rfl, rfl, ⟨_, hR.blk, .inr ⟨_, _, ag25, (whole hRl), hRl, rfl⟩⟩, ⟨_, _, rfl, rfl, rfl⟩⟩ ?_
      first | (refine ⟨(hn1.ext.trans (hE.trans hE9)).upd hu10 (Nat.le_refl _), ?_⟩; rw [← hgo, show moreS Bs out ends [k, v, p, q, c0, c1, c2, c3, t] = none by subst hk3; simp at hb5; simp [moreS, hb5]]; exact rfl) | (refine ⟨(hn1.ext.trans (hE.trans hE7)).upd hu10 (Nat.le_refl _), ?_⟩; rw [← hgo, if_pos (by simp only [decide_eq_true_eq] at hb6; omega)]; exact rfl) | (refine ⟨(hn1.ext.trans hE).upd hu10 (Nat.le_refl _), ?_⟩; simp only [decide_eq_false_iff_not] at hb1; rw [List.drop_of_length_le (by omega)] at hgo; rw [← hgo]; exact ⟨A', cap', rfl, (hO.mono (by have := hn1.ext.1; omega)).but hu10.but (fun g hg he => by obtain ⟨_, _, _, hown⟩ := own_slice hO; have := hown g hg; omega), hN, hol⟩)
    have hsm : out.length + m.length ≤ 256 := by simp only [decide_eq_false_iff_not] at hb6; omega
    refine At.region rfl rfl ?_
    refine Reg.pur rfl rfl rfl rfl (Pur.mv rfl) ?_
    refine Reg.pur rfl rfl rfl rfl (Pur.mv rfl) ?_
    refine Reg.op rfl rfl rfl rfl (Does.app apt23 rfl rfl hO7 (sl_src (wide9 hNm) hSm) (ones_flat m) (by rw [show maxLen = 9223372036854775807 from rfl]; omega) (by omega) (by have := hn2.size; have := hE7.1; omega)) ?_
    rintro v8 H8 ⟨ho8, hbut, _, _⟩
    refine Reg.pur rfl rfl rfl rfl (Pur.asg rfl) ?_
    refine Reg.nil ?_
    obtain ⟨A8, cap8, rfl, hB8⟩ := own_slice ho8
    have hE8 : Ext H1 H8 := (hE.trans hE7).trBut hbut (fun b hb h => by have := hown b h; omega)
    have hEn8 := hEn7.but hbut (fun h => by have := hown _ h; omega)
    have hRb8 := hRb7.but hbut (fun h => by have := hown _ h; omega)
    refine At.region rfl rfl ?_
    refine Reg.pur rfl rfl rfl rfl (Pur.mv rfl) ?_
    refine Reg.pur rfl rfl rfl rfl (Pur.mv rfl) ?_
    refine Reg.pur rfl rfl rfl rfl (Pur.mv rfl) ?_
    refine Reg.pur rfl rfl rfl rfl (Pur.lenS isl23 rfl) ?_
    first | refine Reg.pur rfl rfl rfl rfl (Pur.sub64 rfl rfl (by omega)) ?_ | refine Reg.pur rfl rfl rfl rfl (Pur.sub64 rfl rfl (by assumption)) ?_ | refine Reg.pur rfl rfl rfl rfl (Pur.sub rfl rfl) ?_
    refine Reg.pur rfl rfl rfl rfl (Pur.idx _ es54 rfl rfl (by omega) (by omega)) ?_
    refine Reg.op0 rfl rfl rfl (Does.st sc3 rfl rfl rfl hEn8 (by simp; omega)) ?_
    rintro _ H9 hu9
    refine Reg.nil ?_
    refine At.region rfl rfl ?_
    first | refine Reg.pur rfl rfl rfl rfl (Pur.add64 rfl rfl (by omega)) ?_ | refine Reg.pur rfl rfl rfl rfl (Pur.add64 rfl rfl (by assumption)) ?_ | refine Reg.pur rfl rfl rfl rfl (Pur.add rfl rfl) ?_
    refine Reg.pur rfl rfl rfl rfl (Pur.mv rfl) ?_
    refine Reg.nil ?_
    have hla : (out ++ m).length = out.length + m.length := List.length_append
    have hoN : OwnS H9 H2.size 47 9 (.slice A8 (out ++ m).length cap8) (out ++ m).length ((out ++ m).flatMap Is) := by rw [hla, List.flatMap_append]; exact ho8.but hu9.but (fun g hg he => by have := hB8 g hg; omega)
    have hEn9 : Own H9 H1.size (Is ((ends ++ [((out.length + m.length : Nat) : Int) - 1]) ++ List.replicate (L.length - (i + 1)) 0)) := by rw [← ends_set hel hlt]; exact hu9.own
    have hgo9 : goS Bs (L.drop (i + 1)) (out ++ m) (ends ++ [((out.length + m.length : Nat) : Int) - 1]) = typS Bs L := by rw [← hgo, if_neg (by omega)]
    rw [← hla]
    exact At.via (ih (i + 1, out ++ m, ends ++ [((out.length + m.length : Nat) : Int) - 1], A8, cap8) H9 ⟨by omega, by simp only [hla]; omega, by simp [hel], (fun x hx => (List.mem_append.1 hx).elim (hN x) (hNm x)), hoN, hEn9, hRb8.upd hu9 (by omega), hE8.upd hu9 (Nat.le_refl _), hgo9⟩ (by simp only; omega)) ⟨rfl, rfl, rfl, rfl, rfl, rfl, rfl, trivial⟩
  refine At.region rfl rfl ?_
  refine Reg.pur rfl rfl rfl rfl (Pur.mv rfl) ?_
  refine Reg.pur rfl rfl rfl rfl (Pur.bld (cs := [_]) pl25 zc25 rfl rfl ⟨rfl, rfl⟩) ?_
  refine Reg.op0 rfl rfl rfl (Does.stn ag25 rfl rfl rfl rfl hRb (by simp)) ?_
  rintro _ H10 hu10
  refine Reg.pur rfl rfl rfl rfl (Pur.asg rfl) ?_
  refine Reg.nil ?_
  have hR : Own H10 H.size [.slice A' out.length cap'] := hu10.own
  have hRl : ([.slice A' out.length cap'] : List Value).length = 1 := rfl
  refine At.retC rfl Try.func55 ⟨_, _, _, _, rfl, rfl, ⟨_, hR.blk, .inr ⟨_, _, ag25, (whole hRl), hRl, rfl⟩⟩, ⟨_, _, rfl, rfl, rfl⟩⟩ ?_
  first | (refine ⟨(hn1.ext.trans (hE.trans hE9)).upd hu10 (Nat.le_refl _), ?_⟩; rw [← hgo, show moreS Bs out ends [k, v, p, q, c0, c1, c2, c3, t] = none by subst hk3; simp at hb5; simp [moreS, hb5]]; exact rfl) | (refine ⟨(hn1.ext.trans (hE.trans hE7)).upd hu10 (Nat.le_refl _), ?_⟩; rw [← hgo, if_pos (by simp only [decide_eq_true_eq] at hb6; omega)]; exact rfl) | (refine ⟨(hn1.ext.trans hE).upd hu10 (Nat.le_refl _), ?_⟩; simp only [decide_eq_false_iff_not] at hb1; rw [List.drop_of_length_le (by omega)] at hgo; rw [← hgo]; exact ⟨A', cap', rfl, (hO.mono (by have := hn1.ext.1; omega)).but hu10.but (fun g hg he => by obtain ⟨_, _, _, hown⟩ := own_slice hO; have := hown g hg; omega), hN, hol⟩)
end Go.Proofs.Ytlfillhffpiffaa

namespace Go.Proofs.Ytlfillhffpiffaa
set_option linter.unusedSimpArgs false
set_option linter.unusedVariables false
set_option maxRecDepth 8000
open Go Go.Fx Go.Proofs
namespace FactsSubL
theorem ag25 : ag Try.prog 25 = some 1 := by kernel_rfl
theorem ag28 : ag Try.prog 28 = some 5 := by kernel_rfl
theorem ag47 : ag Try.prog 47 = some 9 := by kernel_rfl
theorem apt23 : appT Try.prog 23 = some (47, 9, 72) := by kernel_rfl
theorem apt54 : appT Try.prog 54 = some (3, 1, 8) := by kernel_rfl
theorem es22 : esz Try.prog 22 = some 8 := by kernel_rfl
theorem es23 : esz Try.prog 23 = some 9 := by kernel_rfl
theorem es54 : esz Try.prog 54 = some 1 := by kernel_rfl
theorem fo25_0 : foff Try.prog 25 0 = some 0 := by kernel_rfl
theorem fo47_0 : foff Try.prog 47 0 = some 0 := by kernel_rfl
theorem fo47_1 : foff Try.prog 47 1 = some 1 := by kernel_rfl
theorem fo47_2 : foff Try.prog 47 2 = some 2 := by kernel_rfl
theorem fo47_3 : foff Try.prog 47 3 = some 3 := by kernel_rfl
theorem fo47_4 : foff Try.prog 47 4 = some 4 := by kernel_rfl
theorem fo49_0 : foff Try.prog 49 0 = some 0 := by kernel_rfl
theorem fo49_1 : foff Try.prog 49 1 = some 1 := by kernel_rfl
theorem fo49_2 : foff Try.prog 49 2 = some 2 := by kernel_rfl
theorem isl22 : isSl Try.prog 22 = true := by kernel_rfl
theorem isl23 : isSl Try.prog 23 = true := by kernel_rfl
theorem mixed : Try.prog.follows .mixedOrders = true := by kernel_rfl
theorem pl25 : places Try.prog 25 = some [(0, 1)] := by kernel_rfl
theorem sc23 : sc Try.prog 23 = true := by kernel_rfl
theorem sc3 : sc Try.prog 3 = true := by kernel_rfl
theorem sc4 : sc Try.prog 4 = true := by kernel_rfl
theorem sl1_54 : sl1 Try.prog 54 = true := by kernel_rfl
theorem slA23 : slA Try.prog 23 = some (47, 9) := by kernel_rfl
theorem zc25 : zc Try.prog 25 = some [.slice none 0 0] := by kernel_rfl
theorem zc28 : zc Try.prog 28 = some [.int .i64 0, .int .i64 0, .int .i64 0, .int .i64 0, .int .i64 0] := by kernel_rfl
theorem zc47 : zc Try.prog 47 = some [.int .i64 0, .int .i64 0, .int .i64 0, .int .i64 0, .int .i64 0, .int .i64 0, .int .i64 0, .int .i64 0, .int .i64 0] := by kernel_rfl
end FactsSubL
open FactsSubL

theorem nine_app {L M : List (List Int)} (h : Nine L) (h' : Nine M) : Nine (L ++ M) := fun x hx => (List.mem_append.1 hx).elim (h x) (h' x)

end Go.Proofs.Ytlfillhffpiffaa

namespace Go.Proofs.Ytlfillhffpiffaa
set_option linter.unusedSimpArgs false
set_option linter.unusedVariables false
set_option maxRecDepth 8000
open Go Go.Fx Go.Proofs
namespace FactsSubM
theorem ag25 : ag Try.prog 25 = some 1 := by kernel_rfl
theorem ag28 : ag Try.prog 28 = some 5 := by kernel_rfl
theorem pl25 : places Try.prog 25 = some [(0, 1)] := by kernel_rfl
theorem pl28 : places Try.prog 28 = some [(0, 4), (4, 1)] := by kernel_rfl
theorem zc25 : zc Try.prog 25 = some [.slice none 0 0] := by kernel_rfl
theorem zc28 : zc Try.prog 28 = some [.int .i64 0, .int .i64 0, .int .i64 0, .int .i64 0, .int .i64 0] := by kernel_rfl
end FactsSubM
open FactsSubM

def TypV (B : Nat) (H' : Heap) (w v : Value) (out : List (List Int)) : Prop :=
  ∃ A' cap', v = .tuple #[Ty A' out.length cap', w] ∧ OwnS H' B 47 9 (.slice A' out.length cap') out.length (out.flatMap Is) ∧ Nine out ∧ out.length ≤ 256
theorem TypB.v {B : Nat} {H' : Heap} {v : Value} {o : Option (List (List Int))} (h : TypB B H' v o) : TypV B H' (.bool o.isSome) v (o.getD []) := by
  cases o with
  | none => exact ⟨none, 0, h, OwnS.nil _ _ _ _, (fun x hx => by cases hx), by simp⟩
  | some out => exact h
theorem TypV.non {B : Nat} {H' : Heap} {w v : Value} (h : v = .tuple #[Ty none 0 0, w]) : TypV B H' w v [] := ⟨none, 0, h, OwnS.nil _ _ _ _, (fun x hx => by cases hx), by simp⟩
def ce (b : Bool) : Int := if b then 0 else 900
def subT (Bs : List Bd) (L : List (List Int)) : Option (List (List Int)) := if bindsM Bs = true ∧ typM L = true then typS Bs L else none
theorem type_ok {A A1 : Option Addr} {cap cap1 : Nat} {Bs : List Bd} {L : List (List Int)} {H : Heap} (hB : Bds H (.slice A Bs.length cap) Bs) (hS : SlT H Is 9 (.slice A1 L.length cap1) L) (hL : Nine L) (hm : L.length * 72 ≤ 140737488351232) :
    Ret Try.prog 20 [.slice A Bs.length cap, Ty A1 L.length cap1] H (fun v H' => Ext H H' ∧ TypV H.size H' (I (ce (subT Bs L).isSome)) v ((subT Bs L).getD [])) := by
  refine Ret.of_at (N := 26) Try.call20 Try.func20 rfl rfl rfl ?_
  have hE := Ext.refl H
  refine At.region rfl rfl ?_
  refine Reg.op rfl rfl rfl rfl (Does.box rfl rfl) ?_
  rintro _ H0_0 ⟨rfl, hn0_0⟩
  have z0_0 := hn0_0.size
  replace hE := hE.ext hn0_0.ext
  have o0_0 := hn0_0.own
  refine Reg.op rfl rfl rfl rfl (Does.alloc zc25) ?_
  rintro _ H0_1 ⟨rfl, hn0_1⟩
  have z0_1 := hn0_1.size
  replace hE := hE.ext hn0_1.ext
  replace o0_0 := o0_0.ext hn0_1.ext
  have o0_1 := hn0_1.own
  refine Reg.pur rfl rfl rfl rfl (Pur.asg rfl) ?_
  refine Reg.nil ?_
  refine At.region rfl rfl ?_
  refine Reg.pur rfl rfl rfl rfl (Pur.mv rfl) ?_
  refine Reg.op rfl rfl rfl rfl (Does.call rfl (bindsMay_ok (hB.ext hE))) ?_
  rintro _ H1_1 ⟨rfl, hE1_1⟩
  have z1_1 := hE1_1.lt
  replace hE := hE.ext hE1_1
  replace o0_0 := o0_0.ext hE1_1
  replace o0_1 := o0_1.ext hE1_1
  refine Reg.pur rfl rfl rfl rfl (Pur.not rfl) ?_
  refine Reg.pur rfl rfl rfl rfl (Pur.mv rfl) ?_
  refine Reg.case 11 rfl (fun q11 => ?_) (fun q11 => ?_)
  · first | (simp only [decide_eq_true_eq, decide_eq_false_iff_not, Bool.not_eq_true', Bool.not_eq_false', ne_eq, Decidable.not_not, Bool.not_eq_true, Bool.not_eq_false] at q11) | (dsimp only at q11) | skip
    refine Reg.skip rfl rfl rfl rfl rfl rfl rfl ?_
    refine Reg.skip rfl rfl rfl rfl rfl rfl rfl ?_
    refine Reg.skip rfl rfl rfl rfl rfl rfl rfl ?_
    refine Reg.pur rfl rfl rfl rfl (Pur.pickT rfl rfl) ?_
    refine Reg.nil ?_
    refine At.condT rfl rfl rfl ?_
    refine At.region rfl rfl ?_
    refine Reg.pur rfl rfl rfl rfl (Pur.bld (cs := [_]) pl25 zc25 rfl rfl ⟨rfl, rfl⟩) ?_
    refine Reg.op0 rfl rfl rfl (Does.stn ag25 rfl rfl (by first | rfl | exact ones_Is _) (by first | rfl | (simp [*]; done)) o0_1 (by first | decide | (simp; done) | (simp; omega) | omega)) ?_
    rintro _ H2_1 hu2_1
    have z2_1 := hu2_1.size
    replace hE := hE.upw hu2_1 (by omega)
    replace o0_0 := o0_0.upw hu2_1 (by omega)
    replace o0_1 := hu2_1.own
    first | rw [over (by first | rfl | (simp; done))] at o0_1 | skip
    refine Reg.pur rfl rfl rfl rfl (Pur.asg rfl) ?_
    refine Reg.nil ?_
    refine At.retC rfl Try.func20 ⟨_, _, _, _, rfl, rfl, ⟨_, o0_1.blk, .inr ⟨_, _, ag25, (by first | exact whole rfl | exact whole (by simp [*])), (by first | rfl | simp [*]), rfl⟩⟩, ⟨_, _, rfl, rfl, rfl⟩⟩ ?_
    refine ⟨hE, ?_⟩
    rw [show subT Bs L = none by unfold subT; rw [if_neg]; simp_all]
    exact TypV.non rfl
  first | (simp only [decide_eq_true_eq, decide_eq_false_iff_not, Bool.not_eq_true', Bool.not_eq_false', ne_eq, Decidable.not_not, Bool.not_eq_true, Bool.not_eq_false] at q11) | (dsimp only at q11) | skip
  refine Reg.glod rfl rfl rfl rfl rfl rfl (Lod.ldn ag25 rfl o0_0.blk (by first | exact whole rfl | rfl | (simp only [List.drop_succ_cons, List.drop_zero, List.take_succ_cons, List.take_zero]; rfl)) (by first | rfl | (simp [*]; done))) ?_
  refine Reg.gop rfl rfl rfl rfl rfl rfl (Does.call rfl (typMay_ok L hL (hS.ext hE) (by omega))) ?_
  rintro _ H1_5 ⟨rfl, hE1_5⟩
  have z1_5 := hE1_5.lt
  replace hE := hE.ext hE1_5
  replace o0_0 := o0_0.ext hE1_5
  replace o0_1 := o0_1.ext hE1_5
  refine Reg.gpur rfl rfl rfl rfl rfl rfl (Pur.not rfl) ?_
  refine Reg.pur rfl rfl rfl rfl (Pur.pickF rfl rfl) ?_
  refine Reg.nil ?_
  refine At.cond rfl rfl (fun q15 => ?_) (fun q15 => ?_)
  · first | (simp only [decide_eq_true_eq, decide_eq_false_iff_not, Bool.not_eq_true', Bool.not_eq_false', ne_eq, Decidable.not_not, Bool.not_eq_true, Bool.not_eq_false] at q15) | (dsimp only at q15) | skip
    refine At.region rfl rfl ?_
    refine Reg.pur rfl rfl rfl rfl (Pur.bld (cs := [_]) pl25 zc25 rfl rfl ⟨rfl, rfl⟩) ?_
    refine Reg.op0 rfl rfl rfl (Does.stn ag25 rfl rfl (by first | rfl | exact ones_Is _) (by first | rfl | (simp [*]; done)) o0_1 (by first | decide | (simp; done) | (simp; omega) | omega)) ?_
    rintro _ H2_1 hu2_1
    have z2_1 := hu2_1.size
    replace hE := hE.upw hu2_1 (by omega)
    replace o0_0 := o0_0.upw hu2_1 (by omega)
    replace o0_1 := hu2_1.own
    first | rw [over (by first | rfl | (simp; done))] at o0_1 | skip
    refine Reg.pur rfl rfl rfl rfl (Pur.asg rfl) ?_
    refine Reg.nil ?_
    refine At.retC rfl Try.func20 ⟨_, _, _, _, rfl, rfl, ⟨_, o0_1.blk, .inr ⟨_, _, ag25, (by first | exact whole rfl | exact whole (by simp [*])), (by first | rfl | simp [*]), rfl⟩⟩, ⟨_, _, rfl, rfl, rfl⟩⟩ ?_
    refine ⟨hE, ?_⟩
    rw [show subT Bs L = none by unfold subT; rw [if_neg]; simp_all]
    exact TypV.non rfl
  first | (simp only [decide_eq_true_eq, decide_eq_false_iff_not, Bool.not_eq_true', Bool.not_eq_false', ne_eq, Decidable.not_not, Bool.not_eq_true, Bool.not_eq_false] at q15) | (dsimp only at q15) | skip
  have hM : typM L = true := q15
  refine At.region rfl rfl ?_
  refine Reg.pur rfl rfl rfl rfl (Pur.mv rfl) ?_
  refine Reg.op rfl rfl rfl rfl (Does.call rfl (ofType_ok (hB.ext hE) (hS.ext hE) hL hM o0_0.blk rfl)) ?_
  rintro v3_1 H3_1 ⟨hE3_1, hT3_1⟩
  have z3_1 := hE3_1.lt
  replace hE := hE.ext hE3_1
  replace o0_0 := o0_0.ext hE3_1
  replace o0_1 := o0_1.ext hE3_1
  obtain ⟨A', cap', rfl, ho, hN, hl⟩ := hT3_1.v
  have z_ho := ho.lt
  refine Reg.pur rfl rfl rfl rfl (Pur.mv rfl) ?_
  refine Reg.pur rfl rfl rfl rfl (Pur.ext rfl rfl) ?_
  refine Reg.pur rfl rfl rfl rfl (Pur.ext rfl rfl) ?_
  refine Reg.op rfl rfl rfl rfl (Does.alloc zc25) ?_
  rintro _ H3_5 ⟨rfl, hn3_5⟩
  have z3_5 := hn3_5.size
  replace hE := hE.ext hn3_5.ext
  replace o0_0 := o0_0.ext hn3_5.ext
  replace o0_1 := o0_1.ext hn3_5.ext
  replace ho := ho.ext hn3_5.ext
  have o3_5 := hn3_5.own
  refine Reg.op0 rfl rfl rfl (Does.stn ag25 rfl rfl (by first | rfl | exact ones_Is _) (by first | rfl | (simp [*]; done)) o3_5 (by first | decide | (simp; done) | (simp; omega) | omega)) ?_
  rintro _ H3_6 hu3_6
  have z3_6 := hu3_6.size
  replace hE := hE.upw hu3_6 (by omega)
  replace o0_0 := o0_0.upw hu3_6 (by omega)
  replace o0_1 := o0_1.upw hu3_6 (by omega)
  replace ho := ho.upw hu3_6 (by omega)
  replace o3_5 := hu3_6.own
  first | rw [over (by first | rfl | (simp; done))] at o3_5 | skip
  refine Reg.pur rfl rfl rfl rfl (Pur.asg rfl) ?_
  refine Reg.nil ?_
  have hq : subT Bs L = typS Bs L := by unfold subT; rw [if_pos ⟨q11, hM⟩]
  refine At.region rfl rfl ?_
  refine Reg.pur rfl rfl rfl rfl (Pur.mv rfl) ?_
  refine Reg.pur rfl rfl rfl rfl (Pur.not rfl) ?_
  refine Reg.nil ?_
  refine At.cond rfl rfl (fun q23 => ?_) (fun q23 => ?_)
  · first | (simp only [decide_eq_true_eq, decide_eq_false_iff_not, Bool.not_eq_true', Bool.not_eq_false', ne_eq, Decidable.not_not, Bool.not_eq_true, Bool.not_eq_false] at q23) | (dsimp only at q23) | skip
    refine At.region rfl rfl ?_
    refine Reg.pur rfl rfl rfl rfl (Pur.bld (cs := [_]) pl25 zc25 rfl rfl ⟨rfl, rfl⟩) ?_
    refine Reg.op0 rfl rfl rfl (Does.stn ag25 rfl rfl (by first | rfl | exact ones_Is _) (by first | rfl | (simp [*]; done)) o0_1 (by first | decide | (simp; done) | (simp; omega) | omega)) ?_
    rintro _ H5_1 hu5_1
    have z5_1 := hu5_1.size
    replace hE := hE.upw hu5_1 (by omega)
    replace o0_0 := o0_0.upw hu5_1 (by omega)
    replace ho := ho.upw hu5_1 (by omega)
    replace o3_5 := o3_5.upw hu5_1 (by omega)
    replace o0_1 := hu5_1.own
    first | rw [over (by first | rfl | (simp; done))] at o0_1 | skip
    refine Reg.pur rfl rfl rfl rfl (Pur.asg rfl) ?_
    refine Reg.nil ?_
    refine At.retC rfl Try.func20 ⟨_, _, _, _, rfl, rfl, ⟨_, o0_1.blk, .inr ⟨_, _, ag25, (by first | exact whole rfl | exact whole (by simp [*])), (by first | rfl | simp [*]), rfl⟩⟩, ⟨_, _, rfl, rfl, rfl⟩⟩ ?_
    refine ⟨hE, ?_⟩
    rw [hq]
    cases hh : typS Bs L with
    | none => exact TypV.non rfl
    | some out => rw [hh] at q23; cases q23
  first | (simp only [decide_eq_true_eq, decide_eq_false_iff_not, Bool.not_eq_true', Bool.not_eq_false', ne_eq, Decidable.not_not, Bool.not_eq_true, Bool.not_eq_false] at q23) | (dsimp only at q23) | skip
  refine At.region rfl rfl ?_
  refine Reg.lod rfl rfl rfl rfl (Lod.ldn ag25 rfl o3_5.blk (by first | exact whole rfl | rfl | (simp only [List.drop_succ_cons, List.drop_zero, List.take_succ_cons, List.take_zero]; rfl)) (by first | rfl | (simp [*]; done))) ?_
  refine Reg.op0 rfl rfl rfl (Does.stn ag25 rfl rfl (by first | rfl | exact ones_Is _) (by first | rfl | (simp [*]; done)) o0_1 (by first | decide | (simp; done) | (simp; omega) | omega)) ?_
  rintro _ H6_1 hu6_1
  have z6_1 := hu6_1.size
  replace hE := hE.upw hu6_1 (by omega)
  replace o0_0 := o0_0.upw hu6_1 (by omega)
  replace ho := ho.upw hu6_1 (by omega)
  replace o3_5 := o3_5.upw hu6_1 (by omega)
  replace o0_1 := hu6_1.own
  first | rw [over (by first | rfl | (simp; done))] at o0_1 | skip
  refine Reg.pur rfl rfl rfl rfl (Pur.asg rfl) ?_
  refine Reg.nil ?_
  refine At.retC rfl Try.func20 ⟨_, _, _, _, rfl, rfl, ⟨_, o0_1.blk, .inr ⟨_, _, ag25, (by first | exact whole rfl | exact whole (by simp [*])), (by first | rfl | simp [*]), rfl⟩⟩, ⟨_, _, rfl, rfl, rfl⟩⟩ ?_
  refine ⟨hE, ?_⟩
  rw [hq]
  rw [show (typS Bs L).isSome = true from q23]
  exact ⟨A', cap', rfl, ho.mono (by omega), hN, hl⟩

end Go.Proofs.Ytlfillhffpiffaa

namespace Go.Proofs.Ytlfillhffpiffaa
set_option linter.unusedSimpArgs false
set_option linter.unusedVariables false
set_option maxRecDepth 8000
open Go Go.Fx Go.Proofs
namespace FactsSubN
theorem ag25 : ag Try.prog 25 = some 1 := by kernel_rfl
theorem ag28 : ag Try.prog 28 = some 5 := by kernel_rfl
theorem ag49 : ag Try.prog 49 = some 8 := by kernel_rfl
theorem apt22 : appT Try.prog 22 = some (49, 8, 80) := by kernel_rfl
theorem eqt28 : eqT Try.prog 28 = some [.int .i64, .int .i64, .int .i64, .int .i64, .int .i64] := by kernel_rfl
theorem es22 : esz Try.prog 22 = some 8 := by kernel_rfl
theorem fo49_0 : foff Try.prog 49 0 = some 0 := by kernel_rfl
theorem fo49_1 : foff Try.prog 49 1 = some 1 := by kernel_rfl
theorem fo49_2 : foff Try.prog 49 2 = some 2 := by kernel_rfl
theorem fo49_3 : foff Try.prog 49 3 = some 3 := by kernel_rfl
theorem isl22 : isSl Try.prog 22 = true := by kernel_rfl
theorem mixed : Try.prog.follows .mixedOrders = true := by kernel_rfl
theorem sc3 : sc Try.prog 3 = true := by kernel_rfl
theorem sc4 : sc Try.prog 4 = true := by kernel_rfl
theorem slA22 : slA Try.prog 22 = some (49, 8) := by kernel_rfl
theorem zc49 : zc Try.prog 49 = some [.int .i64 0, .bool false, .slice none 0 0, .int .i64 0, .int .i64 0, .int .i64 0, .int .i64 0, .int .i64 0] := by kernel_rfl
end FactsSubN
open FactsSubN

def pl (b : Bd) : Int × Bool × List (List Int) × List Int := (b.var, b.isRow, b.nodes, b.row)
end Go.Proofs.Ytlfillhffpiffaa

namespace Go.Proofs.Ytlfillhffpiffaa
set_option linter.unusedSimpArgs false
set_option linter.unusedVariables false
set_option maxRecDepth 8000
open Go Go.Fx Go.Proofs
namespace FactsSchI
theorem apt54 : appT Try.prog 54 = some (3, 1, 8) := by kernel_rfl
theorem es54 : esz Try.prog 54 = some 1 := by kernel_rfl
theorem isl54 : isSl Try.prog 54 = true := by kernel_rfl
theorem mixed : Try.prog.follows .mixedOrders = true := by kernel_rfl
theorem sc3 : sc Try.prog 3 = true := by kernel_rfl
theorem sl1_54 : sl1 Try.prog 54 = true := by kernel_rfl
end FactsSchI
open FactsSchI

theorem sameI_ok {A A' : Option Addr} {cap cap' : Nat} (l m : List Int) {H : Heap} (hS : SlT H e1 1 (.slice A l.length cap) l) (hS' : SlT H e1 1 (.slice A' m.length cap') m) (hm : l.length ≤ 9223372036854775807) :
    Ret Try.prog 38 [.slice A l.length cap, .slice A' m.length cap'] H (fun v H' => v = .bool (decide (l = m)) ∧ H' = H) := by
  refine Ret.of_at (N := 26) Try.call38 Try.func38 rfl rfl rfl ?_
  have hE := Ext.refl H
  refine At.region rfl rfl ?_
  refine Reg.pur rfl rfl rfl rfl (Pur.asg rfl) ?_
  refine Reg.nil ?_
  refine At.region rfl rfl ?_
  refine Reg.pur rfl rfl rfl rfl (Pur.mv rfl) ?_
  refine Reg.pur rfl rfl rfl rfl (Pur.lenS isl54 rfl) ?_
  refine Reg.pur rfl rfl rfl rfl (Pur.mv rfl) ?_
  refine Reg.pur rfl rfl rfl rfl (Pur.lenS isl54 rfl) ?_
  refine Reg.pur rfl rfl rfl rfl (Pur.neq rfl rfl) ?_
  refine Reg.nil ?_
  refine At.cond rfl rfl (fun q10 => ?_) (fun q10 => ?_)
  · first | (simp only [decide_eq_true_eq, decide_eq_false_iff_not, Bool.not_eq_true', Bool.not_eq_false', ne_eq, Decidable.not_not, Bool.not_eq_true, Bool.not_eq_false] at q10) | (dsimp only at q10) | skip
    refine At.region rfl rfl ?_
    refine Reg.pur rfl rfl rfl rfl (Pur.asg rfl) ?_
    refine Reg.nil ?_
    refine At.ret rfl Try.func38 rfl ?_
    exact ⟨congrArg Value.bool (decide_eq_false fun e => by subst e; exact q10 rfl).symm, rfl⟩
  first | (simp only [decide_eq_true_eq, decide_eq_false_iff_not, Bool.not_eq_true', Bool.not_eq_false', ne_eq, Decidable.not_not, Bool.not_eq_true, Bool.not_eq_false] at q10) | (dsimp only at q10) | skip
  refine At.region rfl rfl ?_
  refine Reg.pur rfl rfl rfl rfl (Pur.asg rfl) ?_
  refine Reg.nil ?_
  have hll : l.length = m.length := by omega
  refine At.loop (σ := Nat) (fun i => [(5, I i), (0, .slice A l.length cap), (1, .slice A' m.length cap')]) (fun i H' => i ≤ l.length ∧ H' = H ∧ l.take i = m.take i) (fun i => l.length - i) 0 rfl ⟨rfl, rfl, rfl, trivial⟩ ⟨by omega, rfl, rfl⟩ ?_
  rintro i H ⟨hi, rfl, hgo⟩ ih
  refine At.region rfl rfl ?_
  refine Reg.pur rfl rfl rfl rfl (Pur.mv rfl) ?_
  refine Reg.pur rfl rfl rfl rfl (Pur.mv rfl) ?_
  refine Reg.pur rfl rfl rfl rfl (Pur.lenS isl54 rfl) ?_
  refine Reg.pur rfl rfl rfl rfl (Pur.lss rfl rfl) ?_
  refine Reg.nil ?_
  refine At.cond rfl rfl (fun q14 => ?_) (fun q14 => ?_)
  · first | (simp only [decide_eq_true_eq, decide_eq_false_iff_not, Bool.not_eq_true', Bool.not_eq_false', ne_eq, Decidable.not_not, Bool.not_eq_true, Bool.not_eq_false] at q14) | (dsimp only at q14) | skip
    have hlt : i < l.length := by omega
    have hlt' : i < m.length := by omega
    obtain ⟨b, o, c, rfl, hB, hc⟩ := int_at hS hlt
    obtain ⟨b', o', c', rfl, hB', hc'⟩ := int_at hS' hlt'
    refine At.drawE ((Bks.cons hB.blk (Bks.cons hB'.blk Bks.nil))) [] mixed rfl rfl ?_
    refine RegD.tpur (i := 0) rfl rfl rfl rfl (by kernel_rfl) (Pur.mv rfl) ?_
    refine RegD.tpur (i := 1) rfl rfl rfl rfl (by kernel_rfl) (Pur.mv rfl) ?_
    refine RegD.tpur (i := 2) rfl rfl rfl rfl (by kernel_rfl) (Pur.idx _ es54 rfl rfl (by omega) (by omega)) ?_
    refine RegD.take (i := 3) rfl rfl rfl rfl (by kernel_rfl) (Bks.cons hB.blk (Bks.cons hB'.blk Bks.nil)) (fun H hS => Lod.ld sc3 rfl hS.hd hc) ?_
    refine RegD.tpur (i := 4) rfl rfl rfl rfl (by kernel_rfl) (Pur.mv rfl) ?_
    refine RegD.tpur (i := 5) rfl rfl rfl rfl (by kernel_rfl) (Pur.mv rfl) ?_
    refine RegD.tpur (i := 6) rfl rfl rfl rfl (by kernel_rfl) (Pur.idx _ es54 rfl rfl (by omega) (by omega)) ?_
    refine RegD.take (i := 7) rfl rfl rfl rfl (by kernel_rfl) (Bks.cons hB.blk (Bks.cons hB'.blk Bks.nil)) (fun H hS => Lod.ld sc3 rfl hS.tl.hd hc') ?_
    refine RegD.tpur (i := 8) rfl rfl rfl rfl (by kernel_rfl) (Pur.neq rfl rfl) ?_
    refine RegD.done (by kernel_rfl) ?_
    refine At.cond rfl rfl (fun q25 => ?_) (fun q25 => ?_)
    · first | (simp only [decide_eq_true_eq, decide_eq_false_iff_not, Bool.not_eq_true', Bool.not_eq_false', ne_eq, Decidable.not_not, Bool.not_eq_true, Bool.not_eq_false] at q25) | (dsimp only at q25) | skip
      refine At.region rfl rfl ?_
      refine Reg.pur rfl rfl rfl rfl (Pur.asg rfl) ?_
      refine Reg.nil ?_
      refine At.ret rfl Try.func38 rfl ?_
      exact ⟨congrArg Value.bool (decide_eq_false fun e => by subst e; exact q25 rfl).symm, rfl⟩
    first | (simp only [decide_eq_true_eq, decide_eq_false_iff_not, Bool.not_eq_true', Bool.not_eq_false', ne_eq, Decidable.not_not, Bool.not_eq_true, Bool.not_eq_false] at q25) | (dsimp only at q25) | skip
    refine At.region rfl rfl ?_
    refine Reg.pur rfl rfl rfl rfl (Pur.mv rfl) ?_
    first | refine Reg.pur rfl rfl rfl rfl (Pur.add64 rfl rfl (by omega)) ?_ | refine Reg.pur rfl rfl rfl rfl (Pur.add64 rfl rfl (by assumption)) ?_ | refine Reg.pur rfl rfl rfl rfl (Pur.add rfl rfl) ?_
    refine Reg.pur rfl rfl rfl rfl (Pur.asg rfl) ?_
    refine Reg.nil ?_
    exact At.via (ih (i + 1) _ ⟨by omega, rfl, by rw [List.take_succ_eq_append_getElem hlt, List.take_succ_eq_append_getElem hlt', hgo, q25]⟩ (by omega)) ⟨rfl, rfl, rfl, trivial⟩
  first | (simp only [decide_eq_true_eq, decide_eq_false_iff_not, Bool.not_eq_true', Bool.not_eq_false', ne_eq, Decidable.not_not, Bool.not_eq_true, Bool.not_eq_false] at q14) | (dsimp only at q14) | skip
  refine At.region rfl rfl ?_
  refine Reg.pur rfl rfl rfl rfl (Pur.asg rfl) ?_
  refine Reg.nil ?_
  refine At.ret rfl Try.func38 rfl ?_
  rw [List.take_of_length_le (by omega), List.take_of_length_le (by omega)] at hgo
  exact ⟨congrArg Value.bool (decide_eq_true hgo).symm, rfl⟩

end Go.Proofs.Ytlfillhffpiffaa

namespace Go.Proofs.Ytlfillhffpiffaa
set_option linter.unusedSimpArgs false
set_option linter.unusedVariables false
set_option maxRecDepth 8000
open Go Go.Fx Go.Proofs
namespace FactsSchJ
theorem ag25 : ag Try.prog 25 = some 1 := by kernel_rfl
theorem fo56_0 : foff Try.prog 56 0 = some 0 := by kernel_rfl
theorem fo56_1 : foff Try.prog 56 1 = some 1 := by kernel_rfl
theorem fo56_2 : foff Try.prog 56 2 = some 2 := by kernel_rfl
theorem sc54 : sc Try.prog 54 = true := by kernel_rfl
end FactsSchJ
open FactsSchJ

structure ScR (H : Heap) (A1 : Option Addr) (c1 : Nat) (vs : List Int) (A2 : Option Addr) (c2 : Nat) (rs : List Int) (A3 : Option Addr) (c3 : Nat) (L : List (List Int)) : Prop where
  s1 : SlT H e1 1 (.slice A1 vs.length c1) vs
  s2 : SlT H e1 1 (.slice A2 rs.length c2) rs
  s3 : SlT H Is 9 (.slice A3 L.length c3) L
  nine : Nine L
theorem Sch.r {H : Heap} {B : Nat} {A1 : Option Addr} {c1 : Nat} {vs : List Int} {A2 : Option Addr} {c2 : Nat} {rs : List Int} {A3 : Option Addr} {c3 : Nat} {L : List (List Int)} (h : Sch H B A1 c1 vs A2 c2 rs A3 c3 L) : ScR H A1 c1 vs A2 c2 rs A3 c3 L :=
  ⟨h.g1.sl (wide1 _) (by decide), h.g2.sl (wide1 _) (by decide), h.g3.sl (wide9 h.nine) (by decide), h.nine⟩
theorem ScR.ext {H H' : Heap} {A1 : Option Addr} {c1 : Nat} {vs : List Int} {A2 : Option Addr} {c2 : Nat} {rs : List Int} {A3 : Option Addr} {c3 : Nat} {L : List (List Int)} (h : ScR H A1 c1 vs A2 c2 rs A3 c3 L) (hE : Ext H H') : ScR H' A1 c1 vs A2 c2 rs A3 c3 L :=
  ⟨h.s1.ext hE, h.s2.ext hE, h.s3.ext hE, h.nine⟩
end Go.Proofs.Ytlfillhffpiffaa

