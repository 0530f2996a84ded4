/-
  UnifySwap, for any two types. No conditions.
-/
import Derived.Test.YtlfillhffpiffaaV2
import Derived.Test.YtlfillhffpiffaaRows
namespace Go.Proofs.Ytlfillhffpiffaa
set_option linter.unusedSimpArgs false
set_option linter.unusedVariables false
set_option maxRecDepth 100000
open Go Go.Fx Go.Proofs
namespace FactsLwUnifySwap
theorem sh25 : shp Try.prog 8 25 = some [.sl 72 [.int .i64, .int .i64, .int .i64, .int .i64, .int .i64, .int .i64, .int .i64, .int .i64, .int .i64]] := by kernel_rfl
end FactsLwUnifySwap
open FactsLwUnifySwap

open Go.ChangeShapes Go.WideShapes Go.ChangeAt Go.RowKit in
theorem open_UnifySwap {H : Type} {enc : TypeId × Value → H} {W : World} {base : Nat} {args : Array Value} {ds gs : List (DataW H)} {before : List MemPlace}
    (hval : ∀ (j : Nat) t v, Try.f17.params[j]? = some t → args[j]? = some v → Value.okWide Try.prog W .any base t v)
    (hW : DataW.Whole enc Try.prog Try.f17.params.toList [] false W args.toList ds gs before)
    (hsz : (DataW.weightsEach Try.prog (Try.f17.params.toList ++ Rows.unifySwapSpec.plain.varTypes Try.prog) (ds ++ gs)).all (· ≤ reachBytes) = true) :
    Ret Try.prog 17 args.toList W.heap (fun v H' => v = .bool true ∧ Ext W.heap H') := by
  have h := law_open hval hW hsz
  generalize args.toList = vs at h ⊢
  match vs, h with
  | [_, _], ⟨h1, h2, _⟩ =>
    obtain ⟨c1, f1, rfl⟩ := h1 _ sh25
    obtain ⟨v1, rfl, g1⟩ := fit_one f1
    obtain ⟨c2, f2, rfl⟩ := h2 _ sh25
    obtain ⟨v2, rfl, g2⟩ := fit_one f2
    obtain ⟨A1, k1, L, rfl, hL, hS, hl⟩ := type_of_fits g1
    obtain ⟨A2, k2, M, rfl, hM, hT, hm⟩ := type_of_fits g2
    exact unifySwap_law hL hM hS hT hl hm
namespace LawUnifySwap
open Go.ChangeShapes Go.WideShapes Go.ChangeAt Go.RowKit
theorem own : ownKnob Try.prog.godebug = none := by kernel_rfl
theorem laid : laidOutB Try.prog = true := by kernel_rfl
theorem pars : (Try.f17.params.toList.all fun t => Try.prog.readableRec t && decide (t < Try.prog.types.size)) = true := by kernel_rfl
set_option maxRecDepth 100000 in
theorem lifted (os : Os) (started : os.Started) (H : Type) (enc : TypeId × Value → H) :
    ReturnsInHanded {} Try.checked os 17 .any (Rows.unifySwapSpec.pre6 enc Try.prog Try.f17 Rows.unifySwapRow.domain false) (Rows.unifySwapSpec.post enc Try.prog Try.f17 false true false false) := by
  refine returnsInHanded_of_change_sized (C := Try.checked) own started (by kernel_rfl) Try.func17
    (ChangeSpec.witness6 (enc := enc) (C := Try.checked) false ⟨#[], #[.agg #[.slice none 0 0], .agg #[.slice none 0 0]], []⟩ 8 (by kernel_rfl) (by kernel_rfl) (by kernel_rfl) (by kernel_rfl)) ?_
  intro W base args ds gs before hval hW hcnd hsz _
  refine law_calls (tb := 4) laid (fun t ht => ?_) rfl Try.underlying4 rfl ?_ hW (open_UnifySwap hval hW hsz)
  · have h := List.all_eq_true.1 pars t ht
    simp only [Bool.and_eq_true, decide_eq_true_eq] at h
    exact h
  · obtain ⟨p, q, hA, hV, _⟩ := hW
    have hn := trodAll_length hA
    match ds, hn with
    | [_, _], _ => rfl
theorem over : Rows.unifySwapRow.holds Try.pinned (OpenSpec.ofChange Rows.unifySwapSpec) :=
  OpenClaim.holds_of_wide 17 Try.f17 rfl rfl rfl rfl rfl rfl rfl ⟨rfl, rfl, rfl, rfl, rfl⟩ rfl rfl rfl rfl rfl (by kernel_rfl) Try.func17 (by kernel_rfl)
    (of_decide_eq_true (by kernel_rfl)) (by unfold Func.isWrapper; first | (rw [if_pos (by decide +kernel)]; kernel_rfl) | (rw [if_neg (by decide +kernel)]; exact ⟨rfl, rfl⟩))
    (fun os started H enc _ => lifted os started H enc)
end LawUnifySwap
/-- The row. -/
theorem unifySwap_holds : Rows.UnifySwapSaid := LawUnifySwap.over
#print axioms unifySwap_holds
end Go.Proofs.Ytlfillhffpiffaa
