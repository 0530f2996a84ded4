/-
  DirectParts, for any nodes, any place: the tied card. No conditions.
-/
import Derived.Test.YtjhkmebmbopfoaaDoorNodN
import Derived.Test.YtjhkmebmbopfoaaDoorNLaw
import Derived.Test.YtjhkmebmbopfoaaDoorRows
import Derived.Test.YtjhkmebmbopfoaaDoorCards
import Derived.Test.YtjhkmebmbopfoaaDoorTie
namespace Go.Proofs.YtjhkmebmbopfoaaDoor
set_option linter.unusedSimpArgs false
set_option linter.unusedVariables false
set_option maxRecDepth 100000
open Go Go.Fx Go.Proofs
namespace FactsLwDirectParts
theorem sh25 : shp Tryd.prog 8 25 = some [.sl 32 [.str, .int .i64, .int .i64], .sl 112 [.int .i64, .int .i64, .int .i64, .int .i64, .int .i64, .str, .str, .str, .str, .int .i64]] := by kernel_rfl
theorem sh3 : shp Tryd.prog 8 3 = some [.int .i64] := by kernel_rfl
end FactsLwDirectParts
open FactsLwDirectParts

open Go.ChangeShapes Go.WideShapes Go.ChangeAt Go.RowKit in
theorem open_DirectParts {H : Type} {enc : TypeId × Value → H} {W : World} {base : Nat} {args : Array Value} {ds gs : List (DataW H)} {before : List MemPlace}
    (hval : ∀ (j : Nat) t v, Tryd.f4.params[j]? = some t → args[j]? = some v → Value.okWide Tryd.prog W .any base t v)
    (hW : DataW.Whole enc Tryd.prog Tryd.f4.params.toList [] false W args.toList ds gs before)
    (hsz : (DataW.weightsEach Tryd.prog (Tryd.f4.params.toList ++ Rows.directPartsSpec.plain.varTypes Tryd.prog) (ds ++ gs)).all (· ≤ reachBytes) = true) (hT : Tens W.heap) :
    Ret Tryd.prog 4 args.toList W.heap (fun v H' => v = .bool true ∧ Ext W.heap H') := by
  have h := law_open hval hW hsz
  generalize args.toList = vs at h ⊢
  match vs, h with
  | [_, _], ⟨h1, h2, _⟩ =>
    obtain ⟨c1, f1, rfl⟩ := h1 _ sh25
    obtain ⟨c2, f2, rfl⟩ := h2 _ sh3
    obtain ⟨n2, rfl, w2⟩ := fit_int f2
    simp only [fits] at f1
    obtain ⟨vo, _, rfl, _, vn, _, rfl, g2, rfl⟩ := f1
    obtain ⟨A, cap, L, rfl, hS, hL, hm⟩ := nodes_of_fits g2
    exact directParts_law L hL n2 hS (by omega)
namespace LawDirectParts
open Go.ChangeShapes Go.WideShapes Go.ChangeAt Go.RowKit
theorem pars : (Tryd.f4.params.toList.all fun t => Tryd.prog.readableRec t && decide (t < Tryd.prog.types.size)) = true := by kernel_rfl
set_option maxRecDepth 100000 in
theorem lifted (os : Os) (started : os.Started) (H : Type) (enc : TypeId × Value → H) :
    ReturnsInHanded {} Tryd.checked os 4 .any (fun w args => (Rows.directPartsSpec.pre enc Tryd.prog Tryd.f4 Rows.directPartsRow.domain false w args ∧ laidMet Tryd.prog Rows.directPartsRow.laid w) ∧ sizedMet enc Tryd.prog Tryd.f4 (OpenSpec.ofChange Rows.directPartsSpec) false w args) (Rows.directPartsSpec.post enc Tryd.prog Tryd.f4 false true false false) := by
  refine returnsInHanded_of_change_and (C := Tryd.checked) (X := fun w _ => laidMet Tryd.prog Rows.directPartsRow.laid w) (fun _ _ _ hh h => h.of_heap hh) own started (by kernel_rfl) Tryd.func4
    (ChangeSpec.witness_at (enc := enc) (C := Tryd.checked) (os := os) (X := fun w _ => laidMet Tryd.prog Rows.directPartsRow.laid w) false (laidWorld os) #[.agg #[.slice none 0 0, .slice none 0 0], .int .i64 0] 8 rfl (by kernel_rfl) (by kernel_rfl) (by kernel_rfl) (by kernel_rfl) (by kernel_rfl) (laid_met os _)) ?_
  intro W base args ds gs before hval hW hcnd hsz hL _
  refine law_calls (tb := 4) laidOut (fun t ht => ?_) rfl Tryd.underlying4 rfl ?_ hW (open_DirectParts hval hW hsz (tens_of hL))
  · have h := List.all_eq_true.1 pars t ht
    simp only [Bool.and_eq_true, decide_eq_true_eq] at h
    exact h
  · obtain ⟨p, q, hA, hV, _⟩ := hW
    have hn := trodAll_length hA
    match ds, hn with
    | [_, _], _ => rfl
theorem over : Rows.directPartsRow.holds Tryd.pinned (OpenSpec.ofChange Rows.directPartsSpec) :=
  OpenClaim.holds_of_wide 4 Tryd.f4 rfl rfl rfl rfl rfl rfl rfl ⟨rfl, rfl, rfl, rfl, rfl⟩ rfl rfl rfl rfl rfl (by kernel_rfl) Tryd.func4 (by kernel_rfl)
    (of_decide_eq_true (by kernel_rfl)) (by unfold Func.isWrapper; first | (rw [if_pos (by decide +kernel)]; kernel_rfl) | (rw [if_neg (by decide +kernel)]; exact ⟨rfl, rfl⟩))
    (fun os started H enc _ => lifted os started H enc)
theorem names : Tryd.prog.funcNamed Rows.directPartsRow.func = some 4 := by kernel_rfl
theorem alone : (Tryd.f4.params.toList.all fun t => !Tryd.prog.wantsStandIn t) = true := by kernel_rfl
theorem card : Rows.DirectPartsCardSaid :=
  Claim7.holds_tied_plain_at .later [] [.data, .pinned] true Rows.directPartsCard.stood.harness false
    over (fun _ h => by cases h) (by kernel_rfl) (fun _ h => by cases h) directParts_row_tie rfl ⟨rfl, rfl⟩ (by kernel_rfl) rfl
    (fun f fn hf hfn => by
      obtain rfl : f = 4 := (Option.some.inj (names.symm.trans hf)).symm
      obtain rfl : fn = Tryd.f4 := (Option.some.inj (Tryd.func4.symm.trans hfn)).symm
      exact ⟨by kernel_rfl, fun j t ht => by
        have h := List.all_eq_true.1 alone t (by rw [← Array.getElem?_toList] at ht; exact List.mem_of_getElem? ht)
        have h2 : Tryd.prog.wantsStandIn t = false := by simpa using h
        exact h2⟩)
    (by kernel_rfl)
end LawDirectParts
/-- The card. -/
theorem directParts_holds : Rows.DirectPartsCardSaid := LawDirectParts.card
#print axioms directParts_holds
end Go.Proofs.YtjhkmebmbopfoaaDoor
