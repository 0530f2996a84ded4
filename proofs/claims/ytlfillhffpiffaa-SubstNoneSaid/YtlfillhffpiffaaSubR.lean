/-
  Binds that touch nothing let a type stay; the first bind counts.
-/
import Derived.Test.YtlfillhffpiffaaSubQ
namespace Go.Proofs.Ytlfillhffpiffaa
set_option linter.unusedSimpArgs false
set_option linter.unusedVariables false
set_option maxRecDepth 8000
open Go Go.Fx Go.Proofs

theorem range_getD {i : Nat} {z : Int} (h0 : 0 ≤ z) (h1 : z < i) : ((List.range i).map fun n : Nat => (n : Int)).getD z.toNat 0 = z := by
  rw [List.getD_eq_getElem?_getD, List.getElem?_map, List.getElem?_range (by omega)]
  simp; omega
theorem funS_same {x : List Int} (hx : x.length = 9) : funS x (x.getD 2 0) (x.getD 3 0) (x.drop 4) = x := by
  match x, hx with
  | [k, v, a, b, c0, c1, c2, c3, t], _ => rfl
theorem more_same {Bs : List Bd} {out : List (List Int)} {x : List Int} {i : Nat} (hx : x.length = 9) (hf : x.getD 0 0 = 3 → x.getD 3 0 = (i : Int) - 1 ∧ 0 ≤ x.getD 2 0 ∧ x.getD 2 0 < (i : Int) - 1 ∧ 1 ≤ i)
    (h2 : x.getD 0 0 = 2 → Bs.find? (mt false (x.getD 1 0)) = none) (h3 : x.getD 0 0 = 3 → rowS Bs (x.drop 4) = (x.drop 4, true)) : moreS Bs out ((List.range i).map fun n : Nat => (n : Int)) x = some [x] := by
  unfold moreS
  split
  · rename_i h; rw [h2 h]
  · split
    · rename_i h
      have := hf h
      rw [h3 h, range_getD (by omega) (by omega), range_getD (by omega) (by omega)]
      simp only [if_true, funS_same hx]
    · rfl
theorem goS_same {Bs : List Bd} {L : List (List Int)} (hL : Nine L) (hM : typM L = true) (h2 : ∀ x ∈ L, x.getD 0 0 = 2 → Bs.find? (mt false (x.getD 1 0)) = none) (h3 : ∀ x ∈ L, x.getD 0 0 = 3 → rowS Bs (x.drop 4) = (x.drop 4, true)) :
    ∀ k i, i + k = L.length → goS Bs (L.drop i) (L.take i) ((List.range i).map fun n : Nat => (n : Int)) = some L
  | 0, i, h => by rw [List.drop_of_length_le (by omega), List.take_of_length_le (by omega)]; rfl
  | k + 1, i, h => by
    have hlt : i < L.length := by omega
    have hlen : L.length ≤ 256 := by unfold typM at hM; simp only [Bool.and_eq_true, decide_eq_true_eq] at hM; exact hM.1.1.2
    have hm := List.getElem_mem hlt
    have ih := goS_same hL hM h2 h3 k (i + 1) (by omega)
    rw [List.take_succ_eq_append_getElem hlt, List.range_succ, List.map_append] at ih
    rw [dropL hlt, goS, more_same (hL _ hm) (typM_all hM hlt) (h2 _ hm) (h3 _ hm)]
    dsimp only
    have hl : (L.take i).length + [L[i]].length = i + 1 := by simp; omega
    rw [hl, if_neg (by omega), show ((i + 1 : Nat) : Int) - 1 = (i : Int) by omega]
    exact ih
theorem typS_same {Bs : List Bd} {L : List (List Int)} (hL : Nine L) (hM : typM L = true) (h2 : ∀ x ∈ L, x.getD 0 0 = 2 → Bs.find? (mt false (x.getD 1 0)) = none) (h3 : ∀ x ∈ L, x.getD 0 0 = 3 → rowS Bs (x.drop 4) = (x.drop 4, true)) :
    typS Bs L = some L := goS_same hL hM h2 h3 L.length 0 (by omega)

/-- is a bind's variable there? -/
def inT (b : Bd) (x : List Int) : Bool := (!b.isRow && decide (x.getD 0 0 = 2) && decide (x.getD 1 0 = b.var)) || (b.isRow && decide (x.getD 0 0 = 3) && decide (x.getD 8 0 = b.var))
theorem drop4_tail {x : List Int} (hx : x.length = 9) : (x.drop 4).getD 4 0 = x.getD 8 0 := by
  match x, hx with
  | [k, v, a, b, c0, c1, c2, c3, t], _ => rfl
theorem typS_notin {Bs : List Bd} {L : List (List Int)} (hL : Nine L) (hM : typM L = true) (h : ∀ b ∈ Bs, L.any (inT b) = false) : typS Bs L = some L := by
  have key : ∀ b ∈ Bs, ∀ x ∈ L, inT b x = false := fun b hb x hx => by
    have := h b hb
    rw [List.any_eq_false] at this
    simpa using this x hx
  refine typS_same hL hM (fun x hx hk => ?_) (fun x hx hk => ?_)
  · rw [List.find?_eq_none]
    intro b hb hm
    have := key b hb x hx
    simp only [mt, Bool.and_eq_true, beq_iff_eq, decide_eq_true_eq] at hm
    unfold inT at this
    rw [hm.1, decide_eq_true hk, decide_eq_true hm.2.symm] at this
    cases this
  · refine rowS_none ?_
    rw [List.find?_eq_none]
    intro b hb hm
    have := key b hb x hx
    simp only [mt, Bool.and_eq_true, beq_iff_eq, decide_eq_true_eq, drop4_tail (hL x hx)] at hm
    unfold inT at this
    rw [hm.1, decide_eq_true hk, decide_eq_true hm.2.symm] at this
    simp at this

theorem goS_like {Bs Cs : List Bd} (P : List Int → Prop) (h : ∀ out ends x, P x → moreS Bs out ends x = moreS Cs out ends x) : ∀ (L out : List (List Int)) (ends : List Int), (∀ x ∈ L, P x) → goS Bs L out ends = goS Cs L out ends
  | [], _, _, _ => rfl
  | x :: L, out, ends, hP => by
    rw [goS, goS, h _ _ _ (hP x List.mem_cons_self)]
    split
    · rfl
    · split
      · rfl
      · exact goS_like P h L _ _ (fun y hy => hP y (List.mem_cons_of_mem _ hy))
theorem wrap0 {n : Int} (h : 0 ≤ n ∧ n ≤ 32) : IntKind.i64.wrap (n + 0) = n := by rw [Int.add_zero]; exact wrap_in (by omega)
theorem row_zero {r : List Int} (hr : r.length = 5) (hm : rowM r = true) : sumOk r [0, 0, 0, 0, r.getD 4 0] = true ∧ sumR r [0, 0, 0, 0, r.getD 4 0] = r := by
  match r, hr with
  | [a, b, c, d, t], _ =>
    simp only [rowM, List.take_succ_cons, List.take_zero, List.all_cons, List.all_nil, Bool.and_true, Bool.and_eq_true, okc, decide_eq_true_eq] at hm
    obtain ⟨⟨ha, hb, hc, hd⟩, _⟩ := hm
    have e0 : sm [a, b, c, d, t] [0, 0, 0, 0, [a, b, c, d, t].getD 4 0] 0 = a := wrap0 ha
    have e1 : sm [a, b, c, d, t] [0, 0, 0, 0, [a, b, c, d, t].getD 4 0] 1 = b := wrap0 hb
    have e2 : sm [a, b, c, d, t] [0, 0, 0, 0, [a, b, c, d, t].getD 4 0] 2 = c := wrap0 hc
    have e3 : sm [a, b, c, d, t] [0, 0, 0, 0, [a, b, c, d, t].getD 4 0] 3 = d := wrap0 hd
    constructor
    · rw [sumOk, show List.range 4 = [0, 1, 2, 3] from rfl]
      simp only [List.all_cons, List.all_nil, e0, e1, e2, e3, Bool.and_true, Bool.and_eq_true, decide_eq_true_eq]
      omega
    · rw [sumR, show List.range 4 = [0, 1, 2, 3] from rfl]
      simp only [List.map_cons, List.map_nil, e0, e1, e2, e3]
      rfl
theorem first_row {x : Int} {A B : Option Addr} {ca cb : Nat} {La Lb : List (List Int)} {r : List Int} (hr : r.length = 5) (hm : rowM r = true) :
    rowS [⟨x, true, none, 0, [], [0, 0, 0, 0, x]⟩, ⟨x, false, A, ca, La, noRow⟩, ⟨x, false, B, cb, Lb, noRow⟩, ⟨x, true, none, 0, [], [0, 0, 0, 0, -1]⟩] r = (r, true) := by
  by_cases h0 : r.getD 4 0 < 0
  · exact rowS_lo h0
  · by_cases hx : x = r.getD 4 0
    · subst hx
      have := row_zero hr hm
      rw [rowS_sum h0 (bd := ⟨r.getD 4 0, true, none, 0, [], [0, 0, 0, 0, r.getD 4 0]⟩) (by simp [mt]) this.1, this.2]
    · exact rowS_none (by generalize r.getD 4 0 = z at hx; simp [mt, hx])
theorem one_row {x : Int} {A : Option Addr} {ca : Nat} {La : List (List Int)} {r : List Int} : rowS [⟨x, false, A, ca, La, noRow⟩] r = (r, true) := by
  by_cases h0 : r.getD 4 0 < 0
  · exact rowS_lo h0
  · exact rowS_none (by simp [mt])
theorem nodM_row {x : List Int} (h : nodM x = true) (h3 : x.getD 0 0 = 3) : rowM (x.drop 4) = true := by
  unfold nodM at h; rw [if_pos h3] at h; simp only [Bool.and_eq_true] at h; exact h.1
theorem typM_all_nod {L : List (List Int)} (h : typM L = true) : ∀ x ∈ L, nodM x = true := by
  unfold typM at h; simp only [Bool.and_eq_true, List.all_eq_true] at h; exact h.1.2
/-- the first bind of a variable counts -/
theorem first_typ {x : Int} (h0 : 0 ≤ x ∧ x ≤ 3) {A B : Option Addr} {ca cb : Nat} {La Lb L : List (List Int)} (hL : Nine L) (hb : typM Lb = true) :
    subT [⟨x, true, none, 0, [], [0, 0, 0, 0, x]⟩, ⟨x, false, A, ca, La, noRow⟩, ⟨x, false, B, cb, Lb, noRow⟩, ⟨x, true, none, 0, [], [0, 0, 0, 0, -1]⟩] L = subT [⟨x, false, A, ca, La, noRow⟩] L := by
  have hr1 : rowM [0, 0, 0, 0, x] = true := by simp [rowM, okc]; omega
  have hr2 : rowM [0, 0, 0, 0, -1] = true := by decide
  have hx : decide (0 ≤ x ∧ x < 4096) = true := decide_eq_true (by omega)
  have hB : bindsM [⟨x, true, none, 0, [], [0, 0, 0, 0, x]⟩, ⟨x, false, A, ca, La, noRow⟩, ⟨x, false, B, cb, Lb, noRow⟩, ⟨x, true, none, 0, [], [0, 0, 0, 0, -1]⟩] = bindsM [⟨x, false, A, ca, La, noRow⟩] := by
    simp [bindsM, bindM, hr1, hr2, hx, hb]
  unfold subT
  rw [hB]
  split
  · rename_i h
    have hn := typM_all_nod h.2
    refine goS_like (fun y => nodM y = true ∧ y.length = 9) (fun out ends y hy => ?_) L [] [] (fun y hy => ⟨hn y hy, hL y hy⟩)
    unfold moreS
    split
    · generalize y.getD 1 0 = z
      by_cases hv : x = z <;> simp [mt, hv]
    · split
      · rename_i h3
        rw [first_row (by simp [hy.2]) (nodM_row hy.1 h3), one_row]
      · rfl
  · rfl
theorem bad_typ {Bs : List Bd} {L : List (List Int)} {b : Bd} (hb : b ∈ Bs) (h : bindM b = false) : subT Bs L = none := by
  unfold subT
  rw [if_neg]
  rintro ⟨h1, _⟩
  unfold bindsM at h1
  simp only [Bool.and_eq_true, List.all_eq_true] at h1
  rw [h1.2 b hb] at h; cases h
theorem bad_row {Bs : List Bd} {r : List Int} {b : Bd} (hb : b ∈ Bs) (h : bindM b = false) : subR Bs r = (noRow, false) := by
  unfold subR
  rw [if_neg]
  rintro ⟨h1, _⟩
  unfold bindsM at h1
  simp only [Bool.and_eq_true, List.all_eq_true] at h1
  rw [h1.2 b hb] at h; cases h
end Go.Proofs.Ytlfillhffpiffaa
