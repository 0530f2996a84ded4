/-
  TargetTexts: terms by hand, and what comes of them. No conditions.
-/
import Derived.Test.YtjhkmebmbopfoaaMacT
import Derived.Test.YtjhkmebmbopfoaaFxL
import Derived.Test.YtjhkmebmbopfoaaRows
namespace Go.Proofs.Ytjhkmebmbopfoaa
set_option linter.unusedSimpArgs false
set_option linter.unusedVariables false
set_option maxRecDepth 100000
open Go Go.Fx Go.Proofs
namespace FactsLwTargetTexts
theorem sh3 : shp Try.prog 8 3 = some [.int .i64] := by kernel_rfl
end FactsLwTargetTexts
open FactsLwTargetTexts

open Go.ChangeShapes Go.WideShapes Go.ChangeAt Go.RowKit in
theorem open_TargetTexts {H : Type} {enc : TypeId × Value → H} {W : World} {base : Nat} {args : Array Value} {ds gs : List (DataW H)} {before : List MemPlace}
    (hval : ∀ (j : Nat) t v, Try.f5.params[j]? = some t → args[j]? = some v → Value.okWide Try.prog W .any base t v)
    (hW : DataW.Whole enc Try.prog Try.f5.params.toList [] false W args.toList ds gs before)
    (hsz : (DataW.weightsEach Try.prog (Try.f5.params.toList ++ Rows.targetTextsSpec.plain.varTypes Try.prog) (ds ++ gs)).all (· ≤ reachBytes) = true) :
    Ret Try.prog 5 args.toList W.heap (fun v H' => v = .bool true ∧ Ext W.heap H') := by
  have h := law_open hval hW hsz
  generalize args.toList = vs at h ⊢
  match vs, h with
  | [_, _], ⟨h1, h2, _⟩ =>
    obtain ⟨c1, f1, rfl⟩ := h1 _ sh3
    obtain ⟨n1, rfl, w1⟩ := fit_int f1
    obtain ⟨c2, f2, rfl⟩ := h2 _ sh3
    obtain ⟨n2, rfl, w2⟩ := fit_int f2
    exact targetTexts_law n1 n2 _
namespace LawTargetTexts
open Go.ChangeShapes Go.WideShapes Go.ChangeAt Go.RowKit
theorem own : ownKnob Try.prog.godebug = none := by kernel_rfl
theorem laid : laidOutB Try.prog = true := by kernel_rfl
theorem pars : (Try.f5.params.toList.all fun t => Try.prog.readableRec t && decide (t < Try.prog.types.size)) = true := by kernel_rfl
set_option maxRecDepth 100000 in
theorem lifted (os : Os) (started : os.Started) (H : Type) (enc : TypeId × Value → H) :
    ReturnsInHanded {} Try.checked os 5 .any (Rows.targetTextsSpec.pre6 enc Try.prog Try.f5 Rows.targetTextsRow.domain false) (Rows.targetTextsSpec.post enc Try.prog Try.f5 false true false false) := by
  refine returnsInHanded_of_change_sized (C := Try.checked) own started (by kernel_rfl) Try.func5
    (ChangeSpec.witness6 (enc := enc) (C := Try.checked) false ⟨#[], #[.int .i64 0, .int .i64 0], []⟩ 8 (by kernel_rfl) (by kernel_rfl) (by kernel_rfl) (by kernel_rfl)) ?_
  intro W base args ds gs before hval hW hcnd hsz _
  refine law_calls (tb := 4) laid (fun t ht => ?_) rfl Try.underlying4 rfl ?_ hW (open_TargetTexts hval hW hsz)
  · have h := List.all_eq_true.1 pars t ht
    simp only [Bool.and_eq_true, decide_eq_true_eq] at h
    exact h
  · obtain ⟨p, q, hA, hV, _⟩ := hW
    have hn := trodAll_length hA
    match ds, hn with
    | [_, _], _ => rfl
theorem over : Rows.targetTextsRow.holds Try.pinned (OpenSpec.ofChange Rows.targetTextsSpec) :=
  OpenClaim.holds_of_wide 5 Try.f5 rfl rfl rfl rfl rfl rfl rfl ⟨rfl, rfl, rfl, rfl, rfl⟩ rfl rfl rfl rfl rfl (by kernel_rfl) Try.func5 (by kernel_rfl)
    (of_decide_eq_true (by kernel_rfl)) (by unfold Func.isWrapper; first | (rw [if_pos (by decide +kernel)]; kernel_rfl) | (rw [if_neg (by decide +kernel)]; exact ⟨rfl, rfl⟩))
    (fun os started H enc _ => lifted os started H enc)
end LawTargetTexts
/-- The row. -/
theorem targetTexts_holds : Rows.TargetTextsSaid := LawTargetTexts.over
#print axioms targetTexts_holds
end Go.Proofs.Ytjhkmebmbopfoaa
