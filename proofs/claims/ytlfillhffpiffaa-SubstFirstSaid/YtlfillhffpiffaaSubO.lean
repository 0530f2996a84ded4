/-
  What substitution makes hangs on the plain binds alone; chapter 9's awake.
-/
import Derived.Test.YtlfillhffpiffaaSubN
namespace Go.Proofs.Ytlfillhffpiffaa
set_option linter.unusedSimpArgs false
set_option linter.unusedVariables false
set_option maxRecDepth 8000
open Go Go.Fx Go.Proofs
namespace FactsSubO

end FactsSubO
open FactsSubO

theorem find_pl {r : Bool} {v : Int} : ∀ {Bs Cs : List Bd}, Bs.map pl = Cs.map pl → (Bs.find? (mt r v)).map pl = (Cs.find? (mt r v)).map pl
  | [], [], _ => rfl
  | [], _ :: _, h => by cases h
  | _ :: _, [], h => by cases h
  | b :: Bs, c :: Cs, h => by
    simp only [List.map_cons, List.cons.injEq] at h
    have hm : mt r v b = mt r v c := by
      have := h.1
      simp only [pl, Prod.mk.injEq] at this
      simp only [mt, this.1, this.2.1]
    rw [List.find?_cons, List.find?_cons, hm]
    split
    · simp [h.1]
    · exact find_pl h.2
theorem bindM_pl {b c : Bd} (h : pl b = pl c) : bindM b = bindM c := by
  simp only [pl, Prod.mk.injEq] at h
  unfold bindM
  rw [h.1, h.2.1, h.2.2.1, h.2.2.2]
theorem all_pl : ∀ {Bs Cs : List Bd}, Bs.map pl = Cs.map pl → Bs.all bindM = Cs.all bindM
  | [], [], _ => rfl
  | [], _ :: _, h => by cases h
  | _ :: _, [], h => by cases h
  | b :: Bs, c :: Cs, h => by
    simp only [List.map_cons, List.cons.injEq] at h
    rw [List.all_cons, List.all_cons, bindM_pl h.1, all_pl h.2]
theorem bindsM_pl {Bs Cs : List Bd} (h : Bs.map pl = Cs.map pl) : bindsM Bs = bindsM Cs := by
  unfold bindsM
  have := congrArg List.length h
  simp only [List.length_map] at this
  rw [all_pl h, this]
theorem rowS_pl {Bs Cs : List Bd} (h : Bs.map pl = Cs.map pl) (r : List Int) : rowS Bs r = rowS Cs r := by
  have hf := find_pl (r := true) (v := r.getD 4 0) h
  unfold rowS
  cases hb : Bs.find? (mt true (r.getD 4 0)) with
  | none =>
    cases hc : Cs.find? (mt true (r.getD 4 0)) with
    | none => rfl
    | some c => rw [hb, hc] at hf; cases hf
  | some b =>
    cases hc : Cs.find? (mt true (r.getD 4 0)) with
    | none => rw [hb, hc] at hf; cases hf
    | some c =>
      rw [hb, hc] at hf
      simp only [Option.map_some, Option.some.injEq, pl, Prod.mk.injEq] at hf
      simp only [hf.2.2.2]
theorem moreS_pl {Bs Cs : List Bd} (h : Bs.map pl = Cs.map pl) (out : List (List Int)) (ends : List Int) (x : List Int) : moreS Bs out ends x = moreS Cs out ends x := by
  have hf := find_pl (r := false) (v := x.getD 1 0) h
  unfold moreS
  rw [rowS_pl h]
  cases hb : Bs.find? (mt false (x.getD 1 0)) with
  | none =>
    cases hc : Cs.find? (mt false (x.getD 1 0)) with
    | none => rfl
    | some c => rw [hb, hc] at hf; cases hf
  | some b =>
    cases hc : Cs.find? (mt false (x.getD 1 0)) with
    | none => rw [hb, hc] at hf; cases hf
    | some c =>
      rw [hb, hc] at hf
      simp only [Option.map_some, Option.some.injEq, pl, Prod.mk.injEq] at hf
      simp only [hf.2.2.1]
theorem goS_pl {Bs Cs : List Bd} (h : Bs.map pl = Cs.map pl) : ∀ (L out : List (List Int)) (ends : List Int), goS Bs L out ends = goS Cs L out ends
  | [], _, _ => rfl
  | x :: L, out, ends => by
    rw [goS, goS, moreS_pl h]
    split
    · rfl
    · split
      · rfl
      · exact goS_pl h L _ _
theorem subT_pl {Bs Cs : List Bd} (h : Bs.map pl = Cs.map pl) (L : List (List Int)) : subT Bs L = subT Cs L := by
  unfold subT typS; rw [bindsM_pl h, goS_pl h]
theorem subR_pl {Bs Cs : List Bd} (h : Bs.map pl = Cs.map pl) (r : List Int) : subR Bs r = subR Cs r := by
  unfold subR; rw [bindsM_pl h, rowS_pl h]

theorem numE_ok (n : Int) (H : Heap) : Ret Try.prog 25 [I n] H (fun v H' => v = I n ∧ H' = H) := by
  refine Ret.of_at (N := 4) Try.call25 Try.func25 rfl rfl rfl ?_
  refine At.region rfl rfl ?_
  refine Reg.pur rfl rfl rfl rfl (Pur.asg rfl) ?_
  refine Reg.nil ?_
  refine At.region rfl rfl ?_
  refine Reg.pur rfl rfl rfl rfl (Pur.mv rfl) ?_
  refine Reg.pur rfl rfl rfl rfl (Pur.asg rfl) ?_
  refine Reg.nil ?_
  refine At.ret rfl Try.func25 rfl ?_
  exact ⟨rfl, rfl⟩
end Go.Proofs.Ytlfillhffpiffaa
