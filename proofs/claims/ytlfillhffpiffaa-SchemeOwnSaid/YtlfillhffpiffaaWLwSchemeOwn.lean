/-
  SchemeOwn, for any arguments. No conditions.
-/
import Derived.Test.YtlfillhffpiffaaW4
import Derived.Test.YtlfillhffpiffaaRows
namespace Go.Proofs.Ytlfillhffpiffaa
set_option linter.unusedSimpArgs false
set_option linter.unusedVariables false
set_option maxRecDepth 100000
open Go Go.Fx Go.Proofs
namespace FactsLwSchemeOwn
theorem sh25 : shp Try.prog 8 25 = some [.sl 72 [.int .i64, .int .i64, .int .i64, .int .i64, .int .i64, .int .i64, .int .i64, .int .i64, .int .i64]] := by kernel_rfl
theorem sh54 : shp Try.prog 8 54 = some [.sl 8 [.int .i64]] := by kernel_rfl
theorem sh57 : shp Try.prog 8 57 = some [.sl 24 [.sl 72 [.int .i64, .int .i64, .int .i64, .int .i64, .int .i64, .int .i64, .int .i64, .int .i64, .int .i64]]] := by kernel_rfl
theorem sh58 : shp Try.prog 8 58 = some [.sl 40 [.int .i64, .int .i64, .int .i64, .int .i64, .int .i64]] := by kernel_rfl
end FactsLwSchemeOwn
open FactsLwSchemeOwn

open Go.ChangeShapes Go.WideShapes Go.ChangeAt Go.RowKit in
theorem open_SchemeOwn {H : Type} {enc : TypeId × Value → H} {W : World} {base : Nat} {args : Array Value} {ds gs : List (DataW H)} {before : List MemPlace}
    (hval : ∀ (j : Nat) t v, Try.f14.params[j]? = some t → args[j]? = some v → Value.okWide Try.prog W .any base t v)
    (hW : DataW.Whole enc Try.prog Try.f14.params.toList [] false W args.toList ds gs before)
    (hsz : (DataW.weightsEach Try.prog (Try.f14.params.toList ++ Rows.schemeOwnSpec.plain.varTypes Try.prog) (ds ++ gs)).all (· ≤ reachBytes) = true) :
    Ret Try.prog 14 args.toList W.heap (fun v H' => v = .bool true ∧ Ext W.heap H') := by
  have h := law_open hval hW hsz
  generalize args.toList = vs at h ⊢
  match vs, h with
  | [_, _, _, _, _], ⟨h1, h2, h3, h4, h5, _⟩ =>
    obtain ⟨c1, f1, rfl⟩ := h1 _ sh25
    obtain ⟨v1, rfl, g1⟩ := fit_one f1
    obtain ⟨c2, f2, rfl⟩ := h2 _ sh54
    obtain ⟨v2, rfl, g2⟩ := fit_one f2
    obtain ⟨c3, f3, rfl⟩ := h3 _ sh54
    obtain ⟨v3, rfl, g3⟩ := fit_one f3
    obtain ⟨c4, f4, rfl⟩ := h4 _ sh57
    obtain ⟨v4, rfl, g4⟩ := fit_one f4
    obtain ⟨c5, f5, rfl⟩ := h5 _ sh58
    obtain ⟨v5, rfl, g5⟩ := fit_one f5
    obtain ⟨A1, k1, T, rfl, hT9, hS, hm⟩ := type_of_fits g1
    obtain ⟨A2, k2, ks, rfl, hk, hmk⟩ := ints_of_fits g2
    obtain ⟨A3, k3, ms, rfl, hr, hmr⟩ := ints_of_fits g3
    obtain ⟨A5, k5, ts, rfl, hT⟩ := types_of_fits g4
    obtain ⟨A6, k6, rs, rfl, hR, h5, hrm⟩ := rows_of_fits g5
    exact schemeOwn_law hS hT9 hm hk (by omega) hr (by omega) hT hR h5 (by omega)
namespace LawSchemeOwn
open Go.ChangeShapes Go.WideShapes Go.ChangeAt Go.RowKit
theorem own : ownKnob Try.prog.godebug = none := by kernel_rfl
theorem laid : laidOutB Try.prog = true := by kernel_rfl
theorem pars : (Try.f14.params.toList.all fun t => Try.prog.readableRec t && decide (t < Try.prog.types.size)) = true := by kernel_rfl
set_option maxRecDepth 100000 in
theorem lifted (os : Os) (started : os.Started) (H : Type) (enc : TypeId × Value → H) :
    ReturnsInHanded {} Try.checked os 14 .any (Rows.schemeOwnSpec.pre6 enc Try.prog Try.f14 Rows.schemeOwnRow.domain false) (Rows.schemeOwnSpec.post enc Try.prog Try.f14 false true false false) := by
  refine returnsInHanded_of_change_sized (C := Try.checked) own started (by kernel_rfl) Try.func14
    (ChangeSpec.witness6 (enc := enc) (C := Try.checked) false ⟨#[], #[.agg #[.slice none 0 0], .slice none 0 0, .slice none 0 0, .slice none 0 0, .slice none 0 0], []⟩ 8 (by kernel_rfl) (by kernel_rfl) (by kernel_rfl) (by kernel_rfl)) ?_
  intro W base args ds gs before hval hW hcnd hsz _
  refine law_calls (tb := 4) laid (fun t ht => ?_) rfl Try.underlying4 rfl ?_ hW (open_SchemeOwn hval hW hsz)
  · have h := List.all_eq_true.1 pars t ht
    simp only [Bool.and_eq_true, decide_eq_true_eq] at h
    exact h
  · obtain ⟨p, q, hA, hV, _⟩ := hW
    have hn := trodAll_length hA
    match ds, hn with
    | [_, _, _, _, _], _ => rfl
theorem over : Rows.schemeOwnRow.holds Try.pinned (OpenSpec.ofChange Rows.schemeOwnSpec) :=
  OpenClaim.holds_of_wide 14 Try.f14 rfl rfl rfl rfl rfl rfl rfl ⟨rfl, rfl, rfl, rfl, rfl⟩ rfl rfl rfl rfl rfl (by kernel_rfl) Try.func14 (by kernel_rfl)
    (of_decide_eq_true (by kernel_rfl)) (by unfold Func.isWrapper; first | (rw [if_pos (by decide +kernel)]; kernel_rfl) | (rw [if_neg (by decide +kernel)]; exact ⟨rfl, rfl⟩))
    (fun os started H enc _ => lifted os started H enc)
end LawSchemeOwn
/-- The row. -/
theorem schemeOwn_holds : Rows.SchemeOwnSaid := LawSchemeOwn.over
#print axioms schemeOwn_holds
end Go.Proofs.Ytlfillhffpiffaa
