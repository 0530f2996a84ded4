/-
  Rows of ints, slices of such.
-/
import Derived.Test.YtjhkmebmbopfoaaDoorFxH
import Derived.Test.YtjhkmebmbopfoaaDoorFxS
namespace Go.Fx
set_option linter.unusedSimpArgs false
set_option linter.unusedVariables false
open Go

abbrev I (n : Int) : Value := .int .i64 n
abbrev ptr (b o : Nat) : Value := .pointer (some ⟨b, o, none⟩)
abbrev Is (xs : List Int) : List Value := xs.map (Value.int .i64)
theorem at_Is {xs : List Int} {o : Nat} (h : o < xs.length) : (Is xs)[o]? = some (I (xs.getD o 0)) := by
  simp [Is, List.getElem?_eq_getElem h]
theorem Is_set {xs : List Int} {o : Nat} {n : Int} : (Is xs).set o (I n) = Is (xs.set o n) := by simp [Is, List.map_set]
theorem drop_getD {os : List Nat} {i : Nat} (h : i < os.length) : os.drop i = os.getD i 0 :: os.drop (i + 1) := by
  rw [List.drop_eq_getElem_cons h]; simp [List.getElem?_eq_getElem h]
theorem ptr_at {os : List Nat} {i b : Nat} (h : i < os.length) : (os.map (ptr b))[0 + (i : Int).toNat * 1]? = some (ptr b (os.getD i 0)) := by
  simp [List.getElem?_eq_getElem h]
theorem lkI {e : Env} {j : Nat} {a b : Int} (h : lk e j = some (I a)) (hab : a = b) : lk e j = some (I b) := by rw [h, hab]
theorem ones_Is (x : List Int) : ones (Is x) = true := by simp [ones, Is, Value.oneCell']
theorem Ext.trBut {A B C : Heap} {S : Nat → Prop} (h : Ext A B) (k : But S B C) (hs : ∀ b, b < A.size → ¬ S b) : Ext A C :=
  ⟨Nat.le_trans h.1 k.1, fun b hb => (k.2 b (Nat.lt_of_lt_of_le hb h.1) (hs b hb)).trans (h.2 b hb)⟩
theorem at_tk {c vs : List Value} {o m j : Nat} {v : Value} (h : (c.drop o).take m = vs) (hj : j < m) (hv : vs[j]? = some v) : c[o + j]? = some v := by
  rw [← h, List.getElem?_take, if_pos hj, List.getElem?_drop] at hv; exact hv
theorem take_mid {c xs : List Value} {M o m : Nat} (h : c.take M = xs) (hle : o + m ≤ M) : (c.drop o).take m = (xs.drop o).take m := by
  rw [← h, List.drop_take, List.take_take, Nat.min_eq_left (by omega)]
theorem all_take {α : Type} {L : List α} {p : α → Bool} {i : Nat} (hi : i < L.length) : (L.take (i + 1)).all p = ((L.take i).all p && p L[i]) := by
  rw [List.take_succ_eq_append_getElem hi, List.all_append]; simp
theorem all_of_take {α : Type} {L : List α} {p : α → Bool} {i : Nat} (hi : i < L.length) (h : p L[i] = false) : L.all p = false := by
  cases hh : L.all p with
  | false => rfl
  | true => rw [List.all_eq_true] at hh; rw [hh _ (List.getElem_mem hi)] at h; cases h
theorem dropL {α : Type} {L : List α} {i : Nat} (h : i < L.length) : L.drop i = L[i] :: L.drop (i + 1) := List.drop_eq_getElem_cons h
theorem whole {c : List Value} {n : Nat} (h : c.length = n) : (c.drop 0).take n = c := by rw [List.drop_zero, List.take_of_length_le (by omega)]
theorem over {z c : List Value} {n : Nat} (h : z.length = n) : z.take 0 ++ c ++ z.drop (0 + n) = c := by rw [List.take_zero, List.nil_append, List.drop_of_length_le (by omega), List.append_nil]

theorem ones_flat (L : List (List Int)) : ones (L.flatMap Is) = true := by
  simp only [ones, List.all_eq_true, List.mem_flatMap]
  rintro v ⟨x, _, hv⟩
  have := ones_Is x
  simp only [ones, List.all_eq_true] at this
  exact this v hv
/-! things of n cells each -/
section
variable {α : Type} {enc : α → List Value} {n : Nat} {L : List α}
/-- all of L have n cells -/
abbrev Wide (enc : α → List Value) (n : Nat) (L : List α) : Prop := ∀ x ∈ L, (enc x).length = n

theorem sl_at (hL : Wide enc n L) {H : Heap} {A : Option Addr} {cap : Nat} (hS : SlT H enc n (.slice A L.length cap) L) {i : Nat} (hi : i < L.length) :
    ∃ b o c, A = some ⟨b, o, none⟩ ∧ Blk H b c ∧ (c.drop (o + i * n)).take n = enc L[i] ∧ (enc L[i]).length = n := by
  obtain ⟨b, o, c, h1, h2, h3, h4⟩ := hS.at hi
  exact ⟨b, o, c, h1, h2, h4, hL _ (List.getElem_mem hi)⟩
theorem flat_len : ∀ {L : List α} (hL : Wide enc n L), (L.flatMap enc).length = L.length * n
  | [], _ => by simp
  | x :: L, h => by
    rw [List.flatMap_cons, List.length_append, flat_len (fun y hy => h y (List.mem_cons_of_mem _ hy)), h x List.mem_cons_self, List.length_cons, Nat.add_mul]; omega
theorem all_cells {c : List Value} : ∀ (L : List α) (o : Nat), Wide enc n L →
    (∀ i (h : i < L.length), o + i * n + n ≤ c.length ∧ (c.drop (o + i * n)).take n = enc L[i]) → (c.drop o).take (L.length * n) = L.flatMap enc
  | [], o, _, _ => by simp
  | x :: L, o, hL, h => by
    have h0 := h 0 (by simp)
    simp only [Nat.zero_mul, Nat.add_zero, List.getElem_cons_zero] at h0
    have ih := all_cells L (o + n) (fun y hy => hL y (List.mem_cons_of_mem _ hy)) (fun i hi => by
      have := h (i + 1) (by simpa using hi)
      simp only [List.getElem_cons_succ] at this
      rw [show o + n + i * n = o + (i + 1) * n from by rw [Nat.add_mul]; omega]
      exact this)
    rw [List.flatMap_cons, ← h0.2, ← ih, List.length_cons, Nat.add_mul, Nat.one_mul, Nat.add_comm (L.length * n) n, List.take_add, List.drop_drop]
theorem sl_src (hL : Wide enc n L) {H : Heap} {v : Value} (h : SlT H enc n v L) : Src H v n L.length (L.flatMap enc) := by
  obtain ⟨A, cap, rfl, _, _, h0, h3⟩ := h
  refine ⟨flat_len hL, A, cap, rfl, h0, h3.imp id ?_⟩
  rintro ⟨b, o, c, rfl, hb, h4⟩
  exact ⟨b, o, c, rfl, hb, all_cells L o hL h4⟩
theorem sl_of (hL : Wide enc n L) (hn : 0 < n) {H : Heap} {b o cap : Nat} {c : List Value} (hb : Blk H b c) (h : (c.drop o).take (L.length * n) = L.flatMap enc) (h1 : L.length ≤ cap) (h2 : cap ≤ 9223372036854775807) :
    SlT H enc n (.slice (some ⟨b, o, none⟩) L.length cap) L := by
  have hlen := congrArg List.length h
  rw [List.length_take, List.length_drop, flat_len hL] at hlen
  refine ⟨_, cap, rfl, h1, h2, (fun h => by cases h), ?_⟩
  by_cases h0 : L.length = 0
  · exact .inl h0
  · refine .inr ⟨b, o, c, rfl, hb, fun i hi => ?_⟩
    have e : i * n + n ≤ L.length * n := by rw [← Nat.succ_mul]; exact Nat.mul_le_mul_right n hi
    have h3 : L.length * n ≤ c.length - o := by omega
    refine ⟨?_, ?_⟩
    · have : 0 < L.length * n := Nat.mul_pos (by omega) hn
      omega
    · rw [← List.drop_drop, take_mid h e]
      exact flat_at L i hL hi
theorem sl_new (hL : Wide enc n L) (hn : 0 < n) {H H' : Heap} (h : New H H' (L.flatMap enc)) (h2 : L.length ≤ 9223372036854775807) : SlT H' enc n (.slice (some ⟨H.size, 0, none⟩) L.length L.length) L :=
  sl_of hL hn h.own.blk (by rw [List.drop_zero, List.take_of_length_le (by rw [flat_len hL]; exact Nat.le_refl _)]) (Nat.le_refl _) h2
theorem sl_nil (H : Heap) : SlT H enc n (.slice none 0 0) [] := ⟨none, 0, rfl, Nat.le_refl _, by decide, fun _ => rfl, .inl rfl⟩
theorem own_sl (hL : Wide enc n L) (hn : 0 < n) {H : Heap} {B : Nat} {ty : TypeId} {v : Value} (h : OwnS H B ty n v L.length (L.flatMap enc)) : SlT H enc n v L := by
  obtain ⟨h1, ⟨rfl, h0⟩ | ⟨g, cap, cur, rfl, h2, h3, h4, h5, h6, h7⟩⟩ := h
  · have : L = [] := by simpa using h0
    subst this; exact sl_nil H
  · exact sl_of (o := 0) hL hn ⟨ty, _, by simpa using h3⟩ (by simpa using h7) h4 h5
end
end Go.Fx
