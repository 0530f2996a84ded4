/-
  TargetRises: an operation that is not a handler's own rises through it. No conditions.
-/
import Derived.Test.YtjhkmebmbopfoaaMacT
import Derived.Test.YtjhkmebmbopfoaaFxL
import Derived.Test.YtjhkmebmbopfoaaRows
namespace Go.Proofs.Ytjhkmebmbopfoaa
set_option linter.unusedSimpArgs false
set_option linter.unusedVariables false
set_option maxRecDepth 100000
open Go Go.Fx Go.Proofs
namespace FactsLwTargetRises
theorem sh3 : shp Try.prog 8 3 = some [.int .i64] := by kernel_rfl
theorem sh4 : shp Try.prog 8 4 = some [.bool] := by kernel_rfl
end FactsLwTargetRises
open FactsLwTargetRises

open Go.ChangeShapes Go.WideShapes Go.ChangeAt Go.RowKit in
theorem open_TargetRises {H : Type} {enc : TypeId × Value → H} {W : World} {base : Nat} {args : Array Value} {ds gs : List (DataW H)} {before : List MemPlace}
    (hval : ∀ (j : Nat) t v, Try.f6.params[j]? = some t → args[j]? = some v → Value.okWide Try.prog W .any base t v)
    (hW : DataW.Whole enc Try.prog Try.f6.params.toList [] false W args.toList ds gs before)
    (hsz : (DataW.weightsEach Try.prog (Try.f6.params.toList ++ Rows.targetRisesSpec.plain.varTypes Try.prog) (ds ++ gs)).all (· ≤ reachBytes) = true) :
    Ret Try.prog 6 args.toList W.heap (fun v H' => v = .bool true ∧ Ext W.heap H') := by
  have h := law_open hval hW hsz
  generalize args.toList = vs at h ⊢
  match vs, h with
  | [_, _], ⟨h1, h2, _⟩ =>
    obtain ⟨c1, f1, rfl⟩ := h1 _ sh3
    obtain ⟨n1, rfl, w1⟩ := fit_int f1
    obtain ⟨c2, f2, rfl⟩ := h2 _ sh4
    obtain ⟨b2, rfl⟩ := fit_bool f2
    exact targetRises_law n1 b2 _
namespace LawTargetRises
open Go.ChangeShapes Go.WideShapes Go.ChangeAt Go.RowKit
theorem own : ownKnob Try.prog.godebug = none := by kernel_rfl
theorem laid : laidOutB Try.prog = true := by kernel_rfl
theorem pars : (Try.f6.params.toList.all fun t => Try.prog.readableRec t && decide (t < Try.prog.types.size)) = true := by kernel_rfl
set_option maxRecDepth 100000 in
theorem lifted (os : Os) (started : os.Started) (H : Type) (enc : TypeId × Value → H) :
    ReturnsInHanded {} Try.checked os 6 .any (Rows.targetRisesSpec.pre6 enc Try.prog Try.f6 Rows.targetRisesRow.domain false) (Rows.targetRisesSpec.post enc Try.prog Try.f6 false true false false) := by
  refine returnsInHanded_of_change_sized (C := Try.checked) own started (by kernel_rfl) Try.func6
    (ChangeSpec.witness6 (enc := enc) (C := Try.checked) false ⟨#[], #[.int .i64 0, .bool false], []⟩ 8 (by kernel_rfl) (by kernel_rfl) (by kernel_rfl) (by kernel_rfl)) ?_
  intro W base args ds gs before hval hW hcnd hsz _
  refine law_calls (tb := 4) laid (fun t ht => ?_) rfl Try.underlying4 rfl ?_ hW (open_TargetRises hval hW hsz)
  · have h := List.all_eq_true.1 pars t ht
    simp only [Bool.and_eq_true, decide_eq_true_eq] at h
    exact h
  · obtain ⟨p, q, hA, hV, _⟩ := hW
    have hn := trodAll_length hA
    match ds, hn with
    | [_, _], _ => rfl
theorem over : Rows.targetRisesRow.holds Try.pinned (OpenSpec.ofChange Rows.targetRisesSpec) :=
  OpenClaim.holds_of_wide 6 Try.f6 rfl rfl rfl rfl rfl rfl rfl ⟨rfl, rfl, rfl, rfl, rfl⟩ rfl rfl rfl rfl rfl (by kernel_rfl) Try.func6 (by kernel_rfl)
    (of_decide_eq_true (by kernel_rfl)) (by unfold Func.isWrapper; first | (rw [if_pos (by decide +kernel)]; kernel_rfl) | (rw [if_neg (by decide +kernel)]; exact ⟨rfl, rfl⟩))
    (fun os started H enc _ => lifted os started H enc)
end LawTargetRises
/-- The row. -/
theorem targetRises_holds : Rows.TargetRisesSaid := LawTargetRises.over
#print axioms targetRises_holds
end Go.Proofs.Ytjhkmebmbopfoaa
