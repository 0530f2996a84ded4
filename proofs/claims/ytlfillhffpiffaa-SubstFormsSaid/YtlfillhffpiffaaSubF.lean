/-
  typ.Moved.
-/
import Derived.Test.YtlfillhffpiffaaSubE
namespace Go.Proofs.Ytlfillhffpiffaa
set_option linter.unusedSimpArgs false
set_option linter.unusedVariables false
set_option maxRecDepth 8000
open Go Go.Fx Go.Proofs
namespace FactsSubF
theorem es23 : esz Try.prog 23 = some 9 := by kernel_rfl
theorem fo47_0 : foff Try.prog 47 0 = some 0 := by kernel_rfl
theorem fo47_2 : foff Try.prog 47 2 = some 2 := by kernel_rfl
theorem fo47_3 : foff Try.prog 47 3 = some 3 := by kernel_rfl
theorem isl23 : isSl Try.prog 23 = true := by kernel_rfl
theorem sc3 : sc Try.prog 3 = true := by kernel_rfl
end FactsSubF
open FactsSubF

def movS (by' : Int) (x : List Int) : List Int := if x.getD 0 0 = 3 then (x.set 2 (IntKind.i64.wrap (x.getD 2 0 + by'))).set 3 (IntKind.i64.wrap (x.getD 3 0 + by')) else x
theorem movS_len (by' : Int) (x : List Int) : (movS by' x).length = x.length := by unfold movS; split <;> simp
theorem nine_mov {by' : Int} {L : List (List Int)} (h : Nine L) : Nine (L.map (movS by')) := by
  intro x hx
  obtain ⟨y, hy, rfl⟩ := List.mem_map.1 hx
  rw [movS_len]; exact h y hy
def mid (by' : Int) (L : List (List Int)) (i : Nat) : List (List Int) := (L.take i).map (movS by') ++ L.drop i
theorem mid_len (by' : Int) (L : List (List Int)) (i : Nat) : (mid by' L i).length = L.length := by
  unfold mid; simp; omega
theorem mid_nine {by' : Int} {L : List (List Int)} (h : Nine L) (i : Nat) : Nine (mid by' L i) := by
  intro x hx
  unfold mid at hx
  rcases List.mem_append.1 hx with hx | hx
  · exact nine_mov (fun y hy => h y (List.mem_of_mem_take hy)) x hx
  · exact h x (List.mem_of_mem_drop hx)
theorem mid_get (by' : Int) {L : List (List Int)} {i : Nat} (h : i < L.length) : (mid by' L i).getD i [] = L[i] := by
  unfold mid
  rw [List.getD_eq_getElem?_getD, List.getElem?_append_right (by simp; omega)]
  simp [Nat.min_eq_left (Nat.le_of_lt h), List.getElem?_eq_getElem h]
theorem mid_set (by' : Int) {L : List (List Int)} {i : Nat} (h : i < L.length) : (mid by' L i).set i (movS by' L[i]) = mid by' L (i + 1) := by
  unfold mid
  rw [List.set_append_right _ _ (by simp; omega), List.take_succ_eq_append_getElem h, List.map_append, List.append_assoc]
  congr 1
  simp only [List.length_map, List.length_take, Nat.min_eq_left (Nat.le_of_lt h), Nat.sub_self]
  rw [dropL h]; rfl
theorem mid_same (by' : Int) {L : List (List Int)} {i : Nat} (h : i < L.length) (hm : movS by' L[i] = L[i]) : mid by' L (i + 1) = mid by' L i := by
  unfold mid
  rw [List.take_succ_eq_append_getElem h, List.map_append, List.append_assoc, dropL h]
  simp only [List.map_cons, List.map_nil, hm, List.singleton_append]
theorem mid_all (by' : Int) (L : List (List Int)) {i : Nat} (h : L.length ≤ i) : mid by' L i = L.map (movS by') := by
  unfold mid; rw [List.take_of_length_le h, List.drop_of_length_le h, List.append_nil]
theorem rd {c : List Value} {M : List (List Int)} {n i j : Nat} (h : c.take (n * 9) = M.flatMap Is) (hM : Nine M) (hl : M.length = n) (hi : i < n) (hj : j < 9) : c[0 + (i : Int).toNat * 9 + j]? = some (I ((M.getD i []).getD j 0)) := by
  subst hl
  have h1 : (c.drop (i * 9)).take 9 = Is M[i] := by rw [take_mid h (by omega)]; exact flat_at M i (wide9 hM) hi
  have h2 : M.getD i [] = M[i] := by simp [List.getD_eq_getElem?_getD, List.getElem?_eq_getElem hi]
  rw [h2, Nat.zero_add]
  exact at_tk h1 hj (at_Is (by rw [hM _ (List.getElem_mem hi)]; exact hj))
theorem wr {c : List Value} {M : List (List Int)} {n i j : Nat} (h : c.take (n * 9) = M.flatMap Is) (hM : Nine M) (hl : M.length = n) (hi : i < n) (hj : j < 9) (v : Int) : (c.set (0 + (i : Int).toNat * 9 + j) (I v)).take (n * 9) = (M.set i ((M.getD i []).set j v)).flatMap Is := by
  subst hl
  rw [Nat.zero_add, List.take_set, h]
  exact flat_set hM hi hj v
theorem len_of {c : List Value} {M : List (List Int)} {n : Nat} (h : c.take (n * 9) = M.flatMap Is) (hM : Nine M) (hl : M.length = n) : n * 9 ≤ c.length := by
  have := congrArg List.length h
  rw [List.length_take, flat_len (wide9 hM), hl] at this; omega
theorem nine_set {M : List (List Int)} (hM : Nine M) (i j : Nat) (v : Int) : Nine (M.set i ((M.getD i []).set j v)) := by
  intro x hx
  by_cases hi : i < M.length
  · rcases List.mem_or_eq_of_mem_set hx with h | h
    · exact hM x h
    · subst h
      rw [List.length_set, List.getD_eq_getElem?_getD, List.getElem?_eq_getElem hi]; exact hM _ (List.getElem_mem hi)
  · rw [List.set_eq_of_length_le (by omega)] at hx; exact hM x hx

theorem moved_ok {A : Option Addr} {cap : Nat} {L : List (List Int)} (hL : Nine L) {H : Heap} (hS : SlT H Is 9 (.slice A L.length cap) L) (hb : L.length * 72 ≤ 140737488351232) (by' : Int) :
    Ret Try.prog 88 [.slice A L.length cap, I by'] H (fun v H' => (∃ A' cap', v = .slice A' L.length cap' ∧ (L.length = 0 ∨ ∃ g, H.size ≤ g ∧ A' = some ⟨g, 0, none⟩)) ∧ SlT H' Is 9 v (L.map (movS by')) ∧ Ext H H') := by
  refine Ret.of_at (N := 40) Try.call88 Try.func88 rfl rfl rfl ?_
  refine At.region rfl rfl ?_
  refine Reg.pur rfl rfl rfl rfl (Pur.asg rfl) ?_
  refine Reg.nil ?_
  refine At.region rfl rfl ?_
  refine Reg.pur rfl rfl rfl rfl (Pur.mv rfl) ?_
  refine Reg.op rfl rfl rfl rfl (Does.call rfl (cloneT_ok hL hS hb)) ?_
  rintro v H1 ⟨ho, hE1⟩
  refine Reg.pur rfl rfl rfl rfl (Pur.asg rfl) ?_
  refine Reg.nil ?_
  obtain ⟨A', cap', rfl, hc1, hc2, hc3, g, c0, hg⟩ : ∃ A' cap', v = .slice A' L.length cap' ∧ L.length ≤ cap' ∧ cap' ≤ maxLen ∧ (A' = none → cap' = 0) ∧ ∃ g c, L.length = 0 ∨ (H.size ≤ g ∧ A' = some ⟨g, 0, none⟩ ∧ Own H1 g c ∧ c.take (L.length * 9) = (mid by' L 0).flatMap Is) := by
    obtain ⟨_, ⟨rfl, h0⟩ | ⟨g, cap, cur, rfl, h2, h3, h4, h5, h6, h7⟩⟩ := ho
    · exact ⟨none, 0, by rw [h0], by omega, by decide, fun _ => rfl, 0, [], .inl h0⟩
    · exact ⟨_, cap, rfl, h4, h5, (fun h => by cases h), g, cur.toList, .inr ⟨h2, rfl, ⟨_, by simpa using h3⟩, h7⟩⟩
  refine At.region rfl rfl ?_
  refine Reg.pur rfl rfl rfl rfl (Pur.mv rfl) ?_
  refine Reg.pur rfl rfl rfl rfl (Pur.lenS isl23 rfl) ?_
  refine Reg.pur rfl rfl rfl rfl (Pur.mv rfl) ?_
  refine Reg.nil ?_
  refine At.loop (σ := Nat × List Value) (fun s => [(11, I s.1), (10, I L.length), (5, .slice A' L.length cap'), (1, I by')]) (fun s H' => s.1 ≤ L.length ∧ Ext H H' ∧ (L.length = 0 ∨ (H.size ≤ g ∧ A' = some ⟨g, 0, none⟩ ∧ Own H' g s.2 ∧ s.2.take (L.length * 9) = (mid by' L s.1).flatMap Is))) (fun s => L.length - s.1) (0, c0) rfl ⟨rfl, rfl, rfl, rfl, trivial⟩ ⟨by omega, hE1, hg⟩ ?_
  clear hg ho
  rintro ⟨i, c⟩ H2 ⟨hi, hE, hI⟩ ih
  dsimp only at hi hE hI ⊢
  refine At.region rfl rfl ?_
  refine Reg.pur rfl rfl rfl rfl (Pur.lss rfl rfl) ?_
  refine Reg.nil ?_
  refine At.cond rfl rfl (fun hb1 => ?_) (fun hb1 => ?_)
  · refine At.region rfl rfl ?_
    refine Reg.pur rfl rfl rfl rfl (Pur.mv rfl) ?_
    refine Reg.pur rfl rfl rfl rfl (Pur.asg rfl) ?_
    refine Reg.nil ?_
    simp only [decide_eq_true_eq] at hb1
    have hlt : i < L.length := by omega
    obtain ⟨hgH, rfl, hO, htk⟩ := hI.resolve_left (by omega)
    have hN := mid_nine (by' := by') hL i
    have hln := mid_len by' L i
    have hcl := len_of htk hN hln
    have r0 := rd htk hN hln hlt (j := 0) (by omega)
    have r2 := rd htk hN hln hlt (j := 2) (by omega)
    have hx9 := hL _ (List.getElem_mem hlt)
    have hms := mid_set by' hlt
    rw [mid_get by' hlt] at r0 r2
    refine At.region rfl rfl ?_
    refine Reg.pur rfl rfl rfl rfl (Pur.mv rfl) ?_
    refine Reg.pur rfl rfl rfl rfl (Pur.mv rfl) ?_
    refine Reg.pur rfl rfl rfl rfl (Pur.idx _ es23 rfl rfl (by omega) hb1) ?_
    refine Reg.pur rfl rfl rfl rfl (Pur.fld _ fo47_0 rfl) ?_
    refine Reg.lod rfl rfl rfl rfl (Lod.ld sc3 rfl hO.blk r0) ?_
    refine Reg.pur rfl rfl rfl rfl (Pur.eql rfl rfl) ?_
    refine Reg.nil ?_
    refine At.cond rfl rfl (fun hb2 => ?_) (fun hb2 => ?_)
    · refine At.region rfl rfl ?_
      refine Reg.pur rfl rfl rfl rfl (Pur.mv rfl) ?_
      refine Reg.pur rfl rfl rfl rfl (Pur.mv rfl) ?_
      refine Reg.pur rfl rfl rfl rfl (Pur.idx _ es23 rfl rfl (by omega) (by omega)) ?_
      refine Reg.pur rfl rfl rfl rfl (Pur.fld _ fo47_2 rfl) ?_
      refine Reg.lod rfl rfl rfl rfl (Lod.ld sc3 rfl hO.blk r2) ?_
      refine Reg.pur rfl rfl rfl rfl (Pur.mv rfl) ?_
      first | refine Reg.pur rfl rfl rfl rfl (Pur.add64 rfl rfl (by omega)) ?_ | refine Reg.pur rfl rfl rfl rfl (Pur.add64 rfl rfl (by assumption)) ?_ | refine Reg.pur rfl rfl rfl rfl (Pur.add rfl rfl) ?_
      refine Reg.pur rfl rfl rfl rfl (Pur.idx _ es23 rfl rfl (by omega) (by omega)) ?_
      refine Reg.pur rfl rfl rfl rfl (Pur.fld _ fo47_2 rfl) ?_
      refine Reg.op0 rfl rfl rfl (Does.st sc3 rfl rfl rfl hO (by omega)) ?_
      rintro _ H3 hu3
      refine Reg.nil ?_
      have t3 := wr htk hN hln hlt (j := 2) (by omega) (IntKind.i64.wrap (L[i].getD 2 0 + by'))
      have N3 := nine_set hN i 2 (IntKind.i64.wrap (L[i].getD 2 0 + by'))
      have l3 : ((mid by' L i).set i (((mid by' L i).getD i []).set 2 (IntKind.i64.wrap (L[i].getD 2 0 + by')))).length = L.length := by rw [List.length_set]; exact hln
      have g3 : ((mid by' L i).set i (((mid by' L i).getD i []).set 2 (IntKind.i64.wrap (L[i].getD 2 0 + by')))).getD i [] = L[i].set 2 (IntKind.i64.wrap (L[i].getD 2 0 + by')) := by rw [mid_get by' hlt, List.getD_eq_getElem?_getD, List.getElem?_set]; simp [hln, hlt]
      have r3 := rd t3 N3 l3 hlt (j := 3) (by omega)
      rw [g3, show (L[i].set 2 (IntKind.i64.wrap (L[i].getD 2 0 + by'))).getD 3 0 = L[i].getD 3 0 by simp [List.getD_eq_getElem?_getD, List.getElem?_set]] at r3
      refine At.region rfl rfl ?_
      refine Reg.pur rfl rfl rfl rfl (Pur.mv rfl) ?_
      refine Reg.pur rfl rfl rfl rfl (Pur.mv rfl) ?_
      refine Reg.pur rfl rfl rfl rfl (Pur.idx _ es23 rfl rfl (by omega) (by omega)) ?_
      refine Reg.pur rfl rfl rfl rfl (Pur.fld _ fo47_3 rfl) ?_
      refine Reg.lod rfl rfl rfl rfl (Lod.ld sc3 rfl hu3.own.blk r3) ?_
      refine Reg.pur rfl rfl rfl rfl (Pur.mv rfl) ?_
      first | refine Reg.pur rfl rfl rfl rfl (Pur.add64 rfl rfl (by omega)) ?_ | refine Reg.pur rfl rfl rfl rfl (Pur.add64 rfl rfl (by assumption)) ?_ | refine Reg.pur rfl rfl rfl rfl (Pur.add rfl rfl) ?_
      refine Reg.pur rfl rfl rfl rfl (Pur.idx _ es23 rfl rfl (by omega) (by omega)) ?_
      refine Reg.pur rfl rfl rfl rfl (Pur.fld _ fo47_3 rfl) ?_
      refine Reg.op0 rfl rfl rfl (Does.st sc3 rfl rfl rfl hu3.own (by rw [List.length_set]; omega)) ?_
      rintro _ H4 hu4
      refine Reg.nil ?_
      have t4 := wr t3 N3 l3 hlt (j := 3) (by omega) (IntKind.i64.wrap (L[i].getD 3 0 + by'))
      refine At.region rfl rfl ?_
      first | refine Reg.pur rfl rfl rfl rfl (Pur.add64 rfl rfl (by omega)) ?_ | refine Reg.pur rfl rfl rfl rfl (Pur.add64 rfl rfl (by assumption)) ?_ | refine Reg.pur rfl rfl rfl rfl (Pur.add rfl rfl) ?_
      refine Reg.pur rfl rfl rfl rfl (Pur.mv rfl) ?_
      refine Reg.nil ?_
      first | (rw [g3, List.set_set, show (L[i].set 2 (IntKind.i64.wrap (L[i].getD 2 0 + by'))).set 3 (IntKind.i64.wrap (L[i].getD 3 0 + by')) = movS by' L[i] by unfold movS; rw [if_pos (of_decide_eq_true hb2)], hms] at t4; exact At.via (ih (i + 1, _) H4 ⟨by omega, (hE.upd hu3 hgH).upd hu4 hgH, .inr ⟨hgH, rfl, hu4.own, t4⟩⟩ (by simp only; omega)) ⟨rfl, rfl, rfl, rfl, trivial⟩) | (rw [← mid_same by' hlt (by unfold movS; rw [if_neg (of_decide_eq_false hb2)])] at htk; exact At.via (ih (i + 1, c) _ ⟨by omega, hE, .inr ⟨hgH, rfl, hO, htk⟩⟩ (by simp only; omega)) ⟨rfl, rfl, rfl, rfl, trivial⟩)
    · refine At.region rfl rfl ?_
      first | refine Reg.pur rfl rfl rfl rfl (Pur.add64 rfl rfl (by omega)) ?_ | refine Reg.pur rfl rfl rfl rfl (Pur.add64 rfl rfl (by assumption)) ?_ | refine Reg.pur rfl rfl rfl rfl (Pur.add rfl rfl) ?_
      refine Reg.pur rfl rfl rfl rfl (Pur.mv rfl) ?_
      refine Reg.nil ?_
      first | (rw [g3, List.set_set, show (L[i].set 2 (IntKind.i64.wrap (L[i].getD 2 0 + by'))).set 3 (IntKind.i64.wrap (L[i].getD 3 0 + by')) = movS by' L[i] by unfold movS; rw [if_pos (of_decide_eq_true hb2)], hms] at t4; exact At.via (ih (i + 1, _) H4 ⟨by omega, (hE.upd hu3 hgH).upd hu4 hgH, .inr ⟨hgH, rfl, hu4.own, t4⟩⟩ (by simp only; omega)) ⟨rfl, rfl, rfl, rfl, trivial⟩) | (rw [← mid_same by' hlt (by unfold movS; rw [if_neg (of_decide_eq_false hb2)])] at htk; exact At.via (ih (i + 1, c) _ ⟨by omega, hE, .inr ⟨hgH, rfl, hO, htk⟩⟩ (by simp only; omega)) ⟨rfl, rfl, rfl, rfl, trivial⟩)
  · refine At.region rfl rfl ?_
    refine Reg.pur rfl rfl rfl rfl (Pur.mv rfl) ?_
    refine Reg.pur rfl rfl rfl rfl (Pur.asg rfl) ?_
    refine Reg.nil ?_
    refine At.ret rfl Try.func88 rfl ?_
    simp only [decide_eq_false_iff_not] at hb1
    refine ⟨⟨A', cap', rfl, hI.imp id (fun ⟨h1, h2, _⟩ => ⟨g, h1, h2⟩)⟩, ?_, hE⟩
    rcases hI with h0 | ⟨h1, rfl, hO, htk⟩
    · obtain rfl : L = [] := List.length_eq_zero_iff.1 h0
      exact ⟨A', cap', rfl, by simp, hc2, hc3, .inl rfl⟩
    · rw [mid_all by' L (by omega)] at htk
      have := sl_of (L := L.map (movS by')) (o := 0) (wide9 (nine_mov hL)) (by decide) hO.blk (by rw [List.drop_zero, List.length_map]; exact htk) (by rw [List.length_map]; exact hc1) hc2
      rw [List.length_map] at this
      exact this
end Go.Proofs.Ytlfillhffpiffaa
