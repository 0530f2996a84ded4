import Derived.Test.YtlfillhffpiffaaDoorY3
import Derived.Test.YtlfillhffpiffaaDoorRows
import Derived.Test.YtlfillhffpiffaaDoorCards
import Derived.Test.YtlfillhffpiffaaDoorTie
namespace Go.Proofs.YtlfillhffpiffaaDoor
set_option linter.unusedSimpArgs false
set_option linter.unusedVariables false
set_option maxRecDepth 100000
open Go Go.Fx Go.Proofs
namespace FactsLwMatchBoth
theorem sh55 : shp Tryd.prog 8 55 = some [.sl 72 [.int .i64, .int .i64, .int .i64, .int .i64, .int .i64, .int .i64, .int .i64, .int .i64, .int .i64]] := by kernel_rfl
end FactsLwMatchBoth
open FactsLwMatchBoth

open Go.ChangeShapes Go.WideShapes Go.ChangeAt Go.RowKit in
theorem open_MatchBoth {H : Type} {enc : TypeId × Value → H} {W : World} {base : Nat} {args : Array Value} {ds gs : List (DataW H)} {before : List MemPlace}
    (hval : ∀ (j : Nat) t v, Tryd.f10.params[j]? = some t → args[j]? = some v → Value.okWide Tryd.prog W .any base t v)
    (hW : DataW.Whole enc Tryd.prog Tryd.f10.params.toList [] false W args.toList ds gs before)
    (hsz : (DataW.weightsEach Tryd.prog (Tryd.f10.params.toList ++ Rows.matchBothSpec.plain.varTypes Tryd.prog) (ds ++ gs)).all (· ≤ reachBytes) = true) (hT : Tens W.heap) :
    Ret Tryd.prog 10 args.toList W.heap (fun v H' => v = .bool true ∧ Ext W.heap H') := by
  have h := law_open hval hW hsz
  generalize args.toList = vs at h ⊢
  match vs, h with
  | [_, _], ⟨h1, h2, _⟩ =>
    obtain ⟨c1, f1, rfl⟩ := h1 _ sh55
    obtain ⟨v1, rfl, g1⟩ := fit_one f1
    obtain ⟨c2, f2, rfl⟩ := h2 _ sh55
    obtain ⟨v2, rfl, g2⟩ := fit_one f2
    obtain ⟨A1, k1, L, rfl, hL, hS1, hl⟩ := type_of_fits g1
    obtain ⟨A2, k2, K, rfl, hK, hS2, hk⟩ := type_of_fits g2
    exact matchBoth_law hL hK hT hS1 hS2 (by omega) (by omega)
namespace LawMatchBoth
open Go.ChangeShapes Go.WideShapes Go.ChangeAt Go.RowKit
theorem pars : (Tryd.f10.params.toList.all fun t => Tryd.prog.readableRec t && decide (t < Tryd.prog.types.size)) = true := by kernel_rfl
set_option maxRecDepth 100000 in
theorem lifted (os : Os) (started : os.Started) (H : Type) (enc : TypeId × Value → H) :
    ReturnsInHanded {} Tryd.checked os 10 .any (fun w args => (Rows.matchBothSpec.pre enc Tryd.prog Tryd.f10 Rows.matchBothRow.domain false w args ∧ laidMet Tryd.prog Rows.matchBothRow.laid w) ∧ sizedMet enc Tryd.prog Tryd.f10 (OpenSpec.ofChange Rows.matchBothSpec) false w args) (Rows.matchBothSpec.post enc Tryd.prog Tryd.f10 false true false false) := by
  refine returnsInHanded_of_change_and (C := Tryd.checked) (X := fun w _ => laidMet Tryd.prog Rows.matchBothRow.laid w) (fun _ _ _ hh h => h.of_heap hh) own started (by kernel_rfl) Tryd.func10
    (ChangeSpec.witness_at (enc := enc) (C := Tryd.checked) (os := os) (X := fun w _ => laidMet Tryd.prog Rows.matchBothRow.laid w) false (laidWorld os) #[.agg #[.slice none 0 0], .agg #[.slice none 0 0]] 8 rfl (by kernel_rfl) (by kernel_rfl) (by kernel_rfl) (by kernel_rfl) (by kernel_rfl) (laid_met os _)) ?_
  intro W base args ds gs before hval hW hcnd hsz hL _
  refine law_calls (tb := 4) laidOut (fun t ht => ?_) rfl Tryd.underlying4 rfl ?_ hW (open_MatchBoth hval hW hsz (tens_of hL))
  · have h := List.all_eq_true.1 pars t ht
    simp only [Bool.and_eq_true, decide_eq_true_eq] at h
    exact h
  · obtain ⟨p, q, hA, hV, _⟩ := hW
    have hn := trodAll_length hA
    match ds, hn with
    | [_, _], _ => rfl
theorem over : Rows.matchBothRow.holds Tryd.pinned (OpenSpec.ofChange Rows.matchBothSpec) :=
  OpenClaim.holds_of_wide 10 Tryd.f10 rfl rfl rfl rfl rfl rfl rfl ⟨rfl, rfl, rfl, rfl, rfl⟩ rfl rfl rfl rfl rfl (by kernel_rfl) Tryd.func10 (by kernel_rfl)
    (of_decide_eq_true (by kernel_rfl)) (by unfold Func.isWrapper; first | (rw [if_pos (by decide +kernel)]; kernel_rfl) | (rw [if_neg (by decide +kernel)]; exact ⟨rfl, rfl⟩))
    (fun os started H enc _ => lifted os started H enc)
theorem names : Tryd.prog.funcNamed Rows.matchBothRow.func = some 10 := by kernel_rfl
theorem alone : (Tryd.f10.params.toList.all fun t => !Tryd.prog.wantsStandIn t) = true := by kernel_rfl
theorem card : Rows.MatchBothCardSaid :=
  Claim7.holds_tied_plain_at .later [] [.data, .data, .data] true Rows.matchBothCard.stood.harness false
    over (fun _ h => by cases h) (by kernel_rfl) (fun _ h => by cases h) matchBoth_row_tie rfl ⟨rfl, rfl⟩ (by kernel_rfl) rfl
    (fun f fn hf hfn => by
      obtain rfl : f = 10 := (Option.some.inj (names.symm.trans hf)).symm
      obtain rfl : fn = Tryd.f10 := (Option.some.inj (Tryd.func10.symm.trans hfn)).symm
      exact ⟨by kernel_rfl, fun j t ht => by
        have h := List.all_eq_true.1 alone t (by rw [← Array.getElem?_toList] at ht; exact List.mem_of_getElem? ht)
        have h2 : Tryd.prog.wantsStandIn t = false := by simpa using h
        exact h2⟩)
    (by kernel_rfl)
end LawMatchBoth
/-- The card. -/
theorem matchBoth_holds : Rows.MatchBothCardSaid := LawMatchBoth.card
#print axioms matchBoth_holds
end Go.Proofs.YtlfillhffpiffaaDoor
