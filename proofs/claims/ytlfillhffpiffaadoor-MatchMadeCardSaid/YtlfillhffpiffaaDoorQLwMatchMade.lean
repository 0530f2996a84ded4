import Derived.Test.YtlfillhffpiffaaDoorQ3
import Derived.Test.YtlfillhffpiffaaDoorRows
import Derived.Test.YtlfillhffpiffaaDoorCards
import Derived.Test.YtlfillhffpiffaaDoorTie
namespace Go.Proofs.YtlfillhffpiffaaDoor
set_option linter.unusedSimpArgs false
set_option linter.unusedVariables false
set_option maxRecDepth 100000
open Go Go.Fx Go.Proofs
namespace FactsLwMatchMade
theorem sh25 : shp Tryd.prog 8 25 = some [.sl 80 [.int .i64, .bool, .sl 72 [.int .i64, .int .i64, .int .i64, .int .i64, .int .i64, .int .i64, .int .i64, .int .i64, .int .i64], .int .i64, .int .i64, .int .i64, .int .i64, .int .i64]] := by kernel_rfl
theorem sh55 : shp Tryd.prog 8 55 = some [.sl 72 [.int .i64, .int .i64, .int .i64, .int .i64, .int .i64, .int .i64, .int .i64, .int .i64, .int .i64]] := by kernel_rfl
end FactsLwMatchMade
open FactsLwMatchMade

open Go.ChangeShapes Go.WideShapes Go.ChangeAt Go.RowKit in
theorem open_MatchMade {H : Type} {enc : TypeId × Value → H} {W : World} {base : Nat} {args : Array Value} {ds gs : List (DataW H)} {before : List MemPlace}
    (hval : ∀ (j : Nat) t v, Tryd.f17.params[j]? = some t → args[j]? = some v → Value.okWide Tryd.prog W .any base t v)
    (hW : DataW.Whole enc Tryd.prog Tryd.f17.params.toList [] false W args.toList ds gs before)
    (hsz : (DataW.weightsEach Tryd.prog (Tryd.f17.params.toList ++ Rows.matchMadeSpec.plain.varTypes Tryd.prog) (ds ++ gs)).all (· ≤ reachBytes) = true) (hT : Tens W.heap) :
    Ret Tryd.prog 17 args.toList W.heap (fun v H' => v = .bool true ∧ Ext W.heap H') := by
  have h := law_open hval hW hsz
  generalize args.toList = vs at h ⊢
  match vs, h with
  | [_, _, _], ⟨h1, h2, h3, _⟩ =>
    obtain ⟨c1, f1, rfl⟩ := h1 _ sh55
    obtain ⟨v1, rfl, g1⟩ := fit_one f1
    obtain ⟨c2, f2, rfl⟩ := h2 _ sh25
    obtain ⟨v2, rfl, g2⟩ := fit_one f2
    obtain ⟨c3, f3, rfl⟩ := h3 _ sh25
    obtain ⟨v3, rfl, g3⟩ := fit_one f3
    obtain ⟨A1, k1, L, rfl, hL, hS, hl⟩ := type_of_fits g1
    obtain ⟨A2, k2, Bs, rfl, hB⟩ := binds_of_fits g2
    obtain ⟨A3, k3, Cs, rfl, hC⟩ := binds_of_fits g3
    exact matchMade_law hL hT hS hl hB hC
namespace LawMatchMade
open Go.ChangeShapes Go.WideShapes Go.ChangeAt Go.RowKit
theorem pars : (Tryd.f17.params.toList.all fun t => Tryd.prog.readableRec t && decide (t < Tryd.prog.types.size)) = true := by kernel_rfl
set_option maxRecDepth 100000 in
theorem lifted (os : Os) (started : os.Started) (H : Type) (enc : TypeId × Value → H) :
    ReturnsInHanded {} Tryd.checked os 17 .any (fun w args => (Rows.matchMadeSpec.pre enc Tryd.prog Tryd.f17 Rows.matchMadeRow.domain false w args ∧ laidMet Tryd.prog Rows.matchMadeRow.laid w) ∧ sizedMet enc Tryd.prog Tryd.f17 (OpenSpec.ofChange Rows.matchMadeSpec) false w args) (Rows.matchMadeSpec.post enc Tryd.prog Tryd.f17 false true false false) := by
  refine returnsInHanded_of_change_and (C := Tryd.checked) (X := fun w _ => laidMet Tryd.prog Rows.matchMadeRow.laid w) (fun _ _ _ hh h => h.of_heap hh) own started (by kernel_rfl) Tryd.func17
    (ChangeSpec.witness_at (enc := enc) (C := Tryd.checked) (os := os) (X := fun w _ => laidMet Tryd.prog Rows.matchMadeRow.laid w) false (laidWorld os) #[.agg #[.slice none 0 0], .slice none 0 0, .slice none 0 0] 8 rfl (by kernel_rfl) (by kernel_rfl) (by kernel_rfl) (by kernel_rfl) (by kernel_rfl) (laid_met os _)) ?_
  intro W base args ds gs before hval hW hcnd hsz hL _
  refine law_calls (tb := 4) laidOut (fun t ht => ?_) rfl Tryd.underlying4 rfl ?_ hW (open_MatchMade hval hW hsz (tens_of hL))
  · have h := List.all_eq_true.1 pars t ht
    simp only [Bool.and_eq_true, decide_eq_true_eq] at h
    exact h
  · obtain ⟨p, q, hA, hV, _⟩ := hW
    have hn := trodAll_length hA
    match ds, hn with
    | [_, _, _], _ => rfl
theorem over : Rows.matchMadeRow.holds Tryd.pinned (OpenSpec.ofChange Rows.matchMadeSpec) :=
  OpenClaim.holds_of_wide 17 Tryd.f17 rfl rfl rfl rfl rfl rfl rfl ⟨rfl, rfl, rfl, rfl, rfl⟩ rfl rfl rfl rfl rfl (by kernel_rfl) Tryd.func17 (by kernel_rfl)
    (of_decide_eq_true (by kernel_rfl)) (by unfold Func.isWrapper; first | (rw [if_pos (by decide +kernel)]; kernel_rfl) | (rw [if_neg (by decide +kernel)]; exact ⟨rfl, rfl⟩))
    (fun os started H enc _ => lifted os started H enc)
theorem names : Tryd.prog.funcNamed Rows.matchMadeRow.func = some 17 := by kernel_rfl
theorem alone : (Tryd.f17.params.toList.all fun t => !Tryd.prog.wantsStandIn t) = true := by kernel_rfl
theorem card : Rows.MatchMadeCardSaid :=
  Claim7.holds_tied_plain_at .later [] [.data, .data, .data] true Rows.matchMadeCard.stood.harness false
    over (fun _ h => by cases h) (by kernel_rfl) (fun _ h => by cases h) matchMade_row_tie rfl ⟨rfl, rfl⟩ (by kernel_rfl) rfl
    (fun f fn hf hfn => by
      obtain rfl : f = 17 := (Option.some.inj (names.symm.trans hf)).symm
      obtain rfl : fn = Tryd.f17 := (Option.some.inj (Tryd.func17.symm.trans hfn)).symm
      exact ⟨by kernel_rfl, fun j t ht => by
        have h := List.all_eq_true.1 alone t (by rw [← Array.getElem?_toList] at ht; exact List.mem_of_getElem? ht)
        have h2 : Tryd.prog.wantsStandIn t = false := by simpa using h
        exact h2⟩)
    (by kernel_rfl)
end LawMatchMade
/-- The card. -/
theorem matchMade_holds : Rows.MatchMadeCardSaid := LawMatchMade.card
#print axioms matchMade_holds
end Go.Proofs.YtlfillhffpiffaaDoor
