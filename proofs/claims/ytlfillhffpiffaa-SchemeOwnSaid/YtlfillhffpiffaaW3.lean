/-
  Parts of the proof, 3.
-/
import Derived.Test.YtlfillhffpiffaaW2
namespace Go.Proofs.Ytlfillhffpiffaa
set_option linter.unusedSimpArgs false
set_option linter.unusedVariables false
set_option maxRecDepth 8000
open Go Go.Fx Go.Proofs
namespace FactsSchL

end FactsSchL
open FactsSchL

theorem filter_len {a : Int} : ∀ {l : List Int}, l.Pairwise (· ≠ ·) → l.length ≤ (l.filter (fun x => decide (x ≠ a))).length + 1
  | [], _ => by simp
  | x :: l, h => by
    rw [List.pairwise_cons] at h
    by_cases hx : x = a
    · subst hx
      have hf : l.filter (fun y => decide (y ≠ x)) = l := by
        rw [List.filter_eq_self]
        intro y hy
        simpa using fun e : y = x => h.1 y hy e.symm
      rw [List.filter_cons_of_neg (by simp), hf]; simp
    · rw [List.filter_cons_of_pos (by simpa using hx)]
      have := filter_len (a := a) h.2
      simp only [List.length_cons]; omega
theorem pigeon : ∀ (N : Nat) (l : List Int), l.Pairwise (· ≠ ·) → (∀ x ∈ l, 0 ≤ x ∧ x < (N : Int)) → l.length ≤ N
  | 0, l, _, h => by
    cases l with
    | nil => simp
    | cons x l => have := h x List.mem_cons_self; omega
  | N + 1, l, hp, h => by
    have h1 := filter_len (a := (N : Int)) hp
    have h2 := pigeon N (l.filter (fun x => decide (x ≠ (N : Int)))) (hp.filter _) (fun x hx => by
      rw [List.mem_filter] at hx
      have := h x hx.1
      have h3 : x ≠ (N : Int) := by simpa using hx.2
      omega)
    omega
theorem vmS_len {l : List Int} (h : vmS l = true) : l.length ≤ 4096 := by
  unfold vmS at h
  rw [List.all_eq_true] at h
  have key : ∀ i (hi : i < l.length), (0 ≤ l[i] ∧ l[i] < 4096) ∧ inL (l.take i) l[i] = false := by
    intro i hi
    have := h i (List.mem_range.2 hi)
    unfold vm1 at this
    rw [getD_at hi] at this
    simpa using this
  refine pigeon 4096 l ?_ ?_
  · rw [List.pairwise_iff_getElem]
    intro i j hi hj hij e
    have := (key j hj).2
    rw [← Bool.not_eq_true, inL_mem] at this
    refine this ?_
    rw [List.mem_take_iff_getElem]
    exact ⟨i, by omega, e⟩
  · intro x hx
    obtain ⟨i, hi, rfl⟩ := List.mem_iff_getElem.1 hx
    exact (key i hi).1

structure Td where
  A : Option Addr
  cap : Nat
  nodes : List (List Int)
abbrev encT (t : Td) : List Value := [.slice t.A t.nodes.length t.cap]
structure Td.Ok (H : Heap) (t : Td) : Prop where
  sl : SlT H Is 9 (.slice t.A t.nodes.length t.cap) t.nodes
  nine : Nine t.nodes
  fits : t.nodes.length * 72 ≤ 140737488351232
structure Tds (H : Heap) (v : Value) (L : List Td) : Prop where
  sl : SlT H encT 1 v L
  ok : ∀ t ∈ L, t.Ok H
  fits : L.length ≤ 9223372036854775807
theorem Tds.ext {H H' : Heap} {v : Value} {L : List Td} (h : Tds H v L) (he : Ext H H') : Tds H' v L := ⟨h.sl.ext he, fun t ht => ⟨(h.ok t ht).sl.ext he, (h.ok t ht).nine, (h.ok t ht).fits⟩, h.fits⟩
theorem wideT (L : List Td) : Wide encT 1 L := fun _ _ => rfl
abbrev Five (L : List (List Int)) : Prop := ∀ x ∈ L, x.length = 5
theorem wide5 {L : List (List Int)} (h : Five L) : Wide Is 5 L := fun x hx => by simp [Is, h x hx]

def bT (v : Int) (t : Td) : Bd := ⟨v, false, t.A, t.cap, t.nodes, noRow⟩
def bR (v : Int) (r : List Int) : Bd := ⟨v, true, none, 0, [], r⟩
def takB (vs : List Int) (ts : List Td) (us : List Int) (rs : List (List Int)) : List Bd := List.zipWith bT vs ts ++ List.zipWith bR us rs
def takO (vs : List Int) (ts : List Td) (us : List Int) (rs : List (List Int)) : Bool := vmS vs && vmS us && decide (ts.length = vs.length) && decide (rs.length = us.length)
theorem zip_take {α β γ : Type} {f : α → β → γ} {l : List α} {m : List β} {i : Nat} (h : i < l.length) (h' : i < m.length) : (List.zipWith f l m).take (i + 1) = (List.zipWith f l m).take i ++ [f l[i] m[i]] := by
  rw [List.take_succ_eq_append_getElem (by simp; omega), List.getElem_zipWith]
end Go.Proofs.Ytlfillhffpiffaa

namespace Go.Proofs.Ytlfillhffpiffaa
set_option linter.unusedSimpArgs false
set_option linter.unusedVariables false
set_option maxRecDepth 8000
open Go Go.Fx Go.Proofs
namespace FactsSubO

end FactsSubO
open FactsSubO

theorem numE_ok (n : Int) (H : Heap) : Ret Try.prog 25 [I n] H (fun v H' => v = I n ∧ H' = H) := by
  refine Ret.of_at (N := 4) Try.call25 Try.func25 rfl rfl rfl ?_
  refine At.region rfl rfl ?_
  refine Reg.pur rfl rfl rfl rfl (Pur.asg rfl) ?_
  refine Reg.nil ?_
  refine At.region rfl rfl ?_
  refine Reg.pur rfl rfl rfl rfl (Pur.mv rfl) ?_
  refine Reg.pur rfl rfl rfl rfl (Pur.asg rfl) ?_
  refine Reg.nil ?_
  refine At.ret rfl Try.func25 rfl ?_
  exact ⟨rfl, rfl⟩
end Go.Proofs.Ytlfillhffpiffaa

namespace Go.Proofs.Ytlfillhffpiffaa
set_option linter.unusedSimpArgs false
set_option linter.unusedVariables false
set_option maxRecDepth 8000
open Go Go.Fx Go.Proofs
namespace FactsSubP
theorem ag25 : ag Try.prog 25 = some 1 := by kernel_rfl
theorem ag28 : ag Try.prog 28 = some 5 := by kernel_rfl
theorem arr26 : arr Try.prog 26 = some (4, 1) := by kernel_rfl
theorem eqt28 : eqT Try.prog 28 = some [.int .i64, .int .i64, .int .i64, .int .i64, .int .i64] := by kernel_rfl
theorem es23 : esz Try.prog 23 = some 9 := by kernel_rfl
theorem fo25_0 : foff Try.prog 25 0 = some 0 := by kernel_rfl
theorem fo28_0 : foff Try.prog 28 0 = some 0 := by kernel_rfl
theorem fo28_1 : foff Try.prog 28 1 = some 4 := by kernel_rfl
theorem fo47_2 : foff Try.prog 47 2 = some 2 := by kernel_rfl
theorem fo47_4 : foff Try.prog 47 4 = some 4 := by kernel_rfl
theorem isl23 : isSl Try.prog 23 = true := by kernel_rfl
theorem mixed : Try.prog.follows .mixedOrders = true := by kernel_rfl
theorem pl25 : places Try.prog 25 = some [(0, 1)] := by kernel_rfl
theorem pl28 : places Try.prog 28 = some [(0, 4), (4, 1)] := by kernel_rfl
theorem pl47 : places Try.prog 47 = some [(0, 1), (1, 1), (2, 1), (3, 1), (4, 5)] := by kernel_rfl
theorem pl49 : places Try.prog 49 = some [(0, 1), (1, 1), (2, 1), (3, 5)] := by kernel_rfl
theorem sc23 : sc Try.prog 23 = true := by kernel_rfl
theorem sc3 : sc Try.prog 3 = true := by kernel_rfl
theorem slA22 : slA Try.prog 22 = some (49, 8) := by kernel_rfl
theorem slA23 : slA Try.prog 23 = some (47, 9) := by kernel_rfl
theorem zc25 : zc Try.prog 25 = some [.slice none 0 0] := by kernel_rfl
theorem zc28 : zc Try.prog 28 = some [.int .i64 0, .int .i64 0, .int .i64 0, .int .i64 0, .int .i64 0] := by kernel_rfl
theorem zc47 : zc Try.prog 47 = some [.int .i64 0, .int .i64 0, .int .i64 0, .int .i64 0, .int .i64 0, .int .i64 0, .int .i64 0, .int .i64 0, .int .i64 0] := by kernel_rfl
theorem zc49 : zc Try.prog 49 = some [.int .i64 0, .bool false, .slice none 0 0, .int .i64 0, .int .i64 0, .int .i64 0, .int .i64 0, .int .i64 0] := by kernel_rfl
end FactsSubP
open FactsSubP

theorem nine_lit {L : List (List Int)} (h : (L.all fun x => x.length == 9) = true) : Nine L := by
  intro x hx
  have := List.all_eq_true.1 h x hx
  simpa using this
theorem ok_lit {H : Heap} {v : Int} {r : Bool} {row : List Int} {A : Option Addr} {cap : Nat} {nodes : List (List Int)} (hs : SlT H Is 9 (.slice A nodes.length cap) nodes) (h9 : Nine nodes) (hr : row.length = 5) (hl : nodes.length ≤ 256) : Bd.Ok H ⟨v, r, A, cap, nodes, row⟩ :=
  ⟨hs, h9, hr, by dsimp only; omega⟩
theorem ok_nil {H : Heap} {v : Int} {r : Bool} {row : List Int} (h : row.length = 5) : Bd.Ok H ⟨v, r, none, 0, [], row⟩ := ok_lit (sl_nil _) (nine_lit rfl) h (by decide)
theorem all_one {α : Type} {P : α → Prop} {a : α} (ha : P a) : ∀ x ∈ [a], P x := by intro x hx; simp at hx; subst hx; exact ha
end Go.Proofs.Ytlfillhffpiffaa

namespace Go.Proofs.Ytlfillhffpiffaa
set_option linter.unusedSimpArgs false
set_option linter.unusedVariables false
set_option maxRecDepth 8000
set_option maxHeartbeats 1000000
open Go Go.Fx Go.Proofs
namespace FactsSchM
theorem ag25 : ag Try.prog 25 = some 1 := by kernel_rfl
theorem ag28 : ag Try.prog 28 = some 5 := by kernel_rfl
theorem apt22 : appT Try.prog 22 = some (49, 8, 80) := by kernel_rfl
theorem es54 : esz Try.prog 54 = some 1 := by kernel_rfl
theorem es57 : esz Try.prog 57 = some 1 := by kernel_rfl
theorem es58 : esz Try.prog 58 = some 5 := by kernel_rfl
theorem fo56_0 : foff Try.prog 56 0 = some 0 := by kernel_rfl
theorem fo56_1 : foff Try.prog 56 1 = some 1 := by kernel_rfl
theorem isl54 : isSl Try.prog 54 = true := by kernel_rfl
theorem isl57 : isSl Try.prog 57 = true := by kernel_rfl
theorem isl58 : isSl Try.prog 58 = true := by kernel_rfl
theorem mixed : Try.prog.follows .mixedOrders = true := by kernel_rfl
theorem pl49 : places Try.prog 49 = some [(0, 1), (1, 1), (2, 1), (3, 5)] := by kernel_rfl
theorem sc3 : sc Try.prog 3 = true := by kernel_rfl
theorem sc54 : sc Try.prog 54 = true := by kernel_rfl
theorem slA22 : slA Try.prog 22 = some (49, 8) := by kernel_rfl
theorem zc25 : zc Try.prog 25 = some [.slice none 0 0] := by kernel_rfl
theorem zc28 : zc Try.prog 28 = some [.int .i64 0, .int .i64 0, .int .i64 0, .int .i64 0, .int .i64 0] := by kernel_rfl
theorem zc49 : zc Try.prog 49 = some [.int .i64 0, .bool false, .slice none 0 0, .int .i64 0, .int .i64 0, .int .i64 0, .int .i64 0, .int .i64 0] := by kernel_rfl
end FactsSchM
open FactsSchM

theorem bds_nil' (H : Heap) : Bds H (.slice none ([] : List Bd).length 0) [] := ⟨sl_nil H, (fun b hb => by cases hb), by simp⟩
theorem ones_fl (b : Bd) : ones ([b].flatMap encB) = true := by simpa using ones_encB b
theorem takB_ok {H : Heap} {v : Value} {vs us : List Int} {ts : List Td} {rs : List (List Int)} (hT : Tds H v ts) (h5 : Five rs) : ∀ b ∈ takB vs ts us rs, b.Ok H := by
  intro b hb
  rcases List.mem_append.1 hb with hb | hb
  · obtain ⟨i, hi, rfl⟩ := List.mem_iff_getElem.1 hb
    simp only [List.length_zipWith] at hi
    rw [List.getElem_zipWith]
    have := hT.ok _ (List.getElem_mem (show i < ts.length by omega))
    exact ⟨this.sl, this.nine, rfl, this.fits⟩
  · obtain ⟨i, hi, rfl⟩ := List.mem_iff_getElem.1 hb
    simp only [List.length_zipWith] at hi
    rw [List.getElem_zipWith]
    exact ok_nil (h5 _ (List.getElem_mem (show i < rs.length by omega)))
def BndP (H : Heap) (vs : List Int) (ts : List Td) (us : List Int) (rs : List (List Int)) (v : Value) (H' : Heap) : Prop :=
  Ext H H' ∧ ∃ A' cap' out, v = .tuple #[.slice A' out.length cap', ev31 (if takO vs ts us rs then none else some 1200)] ∧ (takO vs ts us rs = true → out = takB vs ts us rs) ∧ Bds H' (.slice A' out.length cap') out

theorem binds_ok {A1 A2 Aq Ar : Option Addr} {c1 c2 ct cr sb : Nat} {c3 : Value} {vs us : List Int} {ts : List Td} {rs : List (List Int)} {H : Heap} (hb : Blk H sb [.slice A1 vs.length c1, .slice A2 us.length c2, c3]) (h1 : SlT H e1 1 (.slice A1 vs.length c1) vs) (h2 : SlT H e1 1 (.slice A2 us.length c2) us)
    (hm : vs.length ≤ 9223372036854775807 ∧ us.length ≤ 9223372036854775807) (hT : Tds H (.slice Aq ts.length ct) ts) (hR : SlT H Is 5 (.slice Ar rs.length cr) rs) (h5 : Five rs) (hrm : rs.length ≤ 9223372036854775807) :
    Ret Try.prog 69 [ptr sb 0, .slice Aq ts.length ct, .slice Ar rs.length cr] H (BndP H vs ts us rs) := by
  have htm := hT.fits
  refine Ret.of_at (N := 89) Try.call69 Try.func69 rfl rfl rfl ?_
  have hE := Ext.refl H
  have z_hb := hb.lt
  refine At.region rfl rfl ?_
  refine Reg.pur rfl rfl rfl rfl (Pur.asg rfl) ?_
  refine Reg.pur rfl rfl rfl rfl (Pur.asg rfl) ?_
  refine Reg.nil ?_
  refine At.region rfl rfl ?_
  refine Reg.pur rfl rfl rfl rfl (Pur.mv rfl) ?_
  refine Reg.pur rfl rfl rfl rfl (Pur.nilc rfl) ?_
  refine Reg.pur rfl rfl rfl rfl (Pur.fld _ fo56_0 rfl) ?_
  refine Reg.lod rfl rfl rfl rfl (Lod.ld sc54 rfl hb rfl) ?_
  refine Reg.op rfl rfl rfl rfl (Does.call rfl (varsMay_ok vs (h1.ext hE) hm.1)) ?_
  rintro _ H ⟨rfl, rfl⟩
  refine Reg.pur rfl rfl rfl rfl (Pur.not rfl) ?_
  refine Reg.pur rfl rfl rfl rfl (Pur.mv rfl) ?_
  refine Reg.case 19 rfl (fun q19 => ?_) (fun q19 => ?_)
  · first | (simp only [decide_eq_true_eq, decide_eq_false_iff_not, Bool.not_eq_true', Bool.not_eq_false', ne_eq, Decidable.not_not, Bool.not_eq_true, Bool.not_eq_false] at q19) | (dsimp only at q19) | skip
    refine Reg.skip rfl rfl rfl rfl rfl rfl rfl ?_
    refine Reg.skip rfl rfl rfl rfl rfl rfl rfl ?_
    refine Reg.skip rfl rfl rfl rfl rfl rfl rfl ?_
    refine Reg.skip rfl rfl rfl rfl rfl rfl rfl ?_
    refine Reg.skip rfl rfl rfl rfl rfl rfl rfl ?_
    refine Reg.skip rfl rfl rfl rfl rfl rfl rfl ?_
    refine Reg.pur rfl rfl rfl rfl (Pur.pickT rfl rfl) ?_
    refine Reg.pur rfl rfl rfl rfl (Pur.mv rfl) ?_
    refine Reg.skip rfl rfl rfl rfl rfl rfl rfl ?_
    refine Reg.skip rfl rfl rfl rfl rfl rfl rfl ?_
    refine Reg.skip rfl rfl rfl rfl rfl rfl rfl ?_
    refine Reg.skip rfl rfl rfl rfl rfl rfl rfl ?_
    refine Reg.skip rfl rfl rfl rfl rfl rfl rfl ?_
    refine Reg.skip rfl rfl rfl rfl rfl rfl rfl ?_
    refine Reg.skip rfl rfl rfl rfl rfl rfl rfl ?_
    refine Reg.skip rfl rfl rfl rfl rfl rfl rfl ?_
    refine Reg.pur rfl rfl rfl rfl (Pur.pickT rfl rfl) ?_
    refine Reg.pur rfl rfl rfl rfl (Pur.mv rfl) ?_
    refine Reg.skip rfl rfl rfl rfl rfl rfl rfl ?_
    refine Reg.skip rfl rfl rfl rfl rfl rfl rfl ?_
    refine Reg.skip rfl rfl rfl rfl rfl rfl rfl ?_
    refine Reg.skip rfl rfl rfl rfl rfl rfl rfl ?_
    refine Reg.skip rfl rfl rfl rfl rfl rfl rfl ?_
    refine Reg.skip rfl rfl rfl rfl rfl rfl rfl ?_
    refine Reg.skip rfl rfl rfl rfl rfl rfl rfl ?_
    refine Reg.skip rfl rfl rfl rfl rfl rfl rfl ?_
    refine Reg.pur rfl rfl rfl rfl (Pur.pickT rfl rfl) ?_
    refine Reg.nil ?_
    refine At.condT rfl rfl rfl ?_
    refine At.region rfl rfl ?_
    refine Reg.pur rfl rfl rfl rfl (Pur.mki (by kernel_rfl) rfl) ?_
    refine Reg.pur rfl rfl rfl rfl (Pur.asg rfl) ?_
    refine Reg.pur rfl rfl rfl rfl (Pur.asg rfl) ?_
    refine Reg.nil ?_
    refine At.ret rfl Try.func69 rfl ?_
    have ho : takO vs ts us rs = false := by { unfold takO; revert q19; cases vmS vs <;> cases vmS us <;> simp <;> (intros; omega) }
    exact ⟨hE, none, 0, [], by rw [ho]; rfl, (fun h => by rw [ho] at h; cases h), bds_nil' _⟩
  first | (simp only [decide_eq_true_eq, decide_eq_false_iff_not, Bool.not_eq_true', Bool.not_eq_false', ne_eq, Decidable.not_not, Bool.not_eq_true, Bool.not_eq_false] at q19) | (dsimp only at q19) | skip
  refine Reg.gpur rfl rfl rfl rfl rfl rfl (Pur.mv rfl) ?_
  refine Reg.gpur rfl rfl rfl rfl rfl rfl (Pur.nilc rfl) ?_
  refine Reg.gpur rfl rfl rfl rfl rfl rfl (Pur.fld _ fo56_1 rfl) ?_
  refine Reg.glod rfl rfl rfl rfl rfl rfl (Lod.ld sc54 rfl hb rfl) ?_
  refine Reg.gop rfl rfl rfl rfl rfl rfl (Does.call rfl (varsMay_ok us (h2.ext hE) hm.2)) ?_
  rintro _ H ⟨rfl, rfl⟩
  refine Reg.gpur rfl rfl rfl rfl rfl rfl (Pur.not rfl) ?_
  refine Reg.pur rfl rfl rfl rfl (Pur.pickF rfl rfl) ?_
  refine Reg.pur rfl rfl rfl rfl (Pur.mv rfl) ?_
  refine Reg.case 27 rfl (fun q27 => ?_) (fun q27 => ?_)
  · first | (simp only [decide_eq_true_eq, decide_eq_false_iff_not, Bool.not_eq_true', Bool.not_eq_false', ne_eq, Decidable.not_not, Bool.not_eq_true, Bool.not_eq_false] at q27) | (dsimp only at q27) | skip
    refine Reg.skip rfl rfl rfl rfl rfl rfl rfl ?_
    refine Reg.skip rfl rfl rfl rfl rfl rfl rfl ?_
    refine Reg.skip rfl rfl rfl rfl rfl rfl rfl ?_
    refine Reg.skip rfl rfl rfl rfl rfl rfl rfl ?_
    refine Reg.skip rfl rfl rfl rfl rfl rfl rfl ?_
    refine Reg.skip rfl rfl rfl rfl rfl rfl rfl ?_
    refine Reg.skip rfl rfl rfl rfl rfl rfl rfl ?_
    refine Reg.skip rfl rfl rfl rfl rfl rfl rfl ?_
    refine Reg.pur rfl rfl rfl rfl (Pur.pickT rfl rfl) ?_
    refine Reg.pur rfl rfl rfl rfl (Pur.mv rfl) ?_
    refine Reg.skip rfl rfl rfl rfl rfl rfl rfl ?_
    refine Reg.skip rfl rfl rfl rfl rfl rfl rfl ?_
    refine Reg.skip rfl rfl rfl rfl rfl rfl rfl ?_
    refine Reg.skip rfl rfl rfl rfl rfl rfl rfl ?_
    refine Reg.skip rfl rfl rfl rfl rfl rfl rfl ?_
    refine Reg.skip rfl rfl rfl rfl rfl rfl rfl ?_
    refine Reg.skip rfl rfl rfl rfl rfl rfl rfl ?_
    refine Reg.skip rfl rfl rfl rfl rfl rfl rfl ?_
    refine Reg.pur rfl rfl rfl rfl (Pur.pickT rfl rfl) ?_
    refine Reg.nil ?_
    refine At.condT rfl rfl rfl ?_
    refine At.region rfl rfl ?_
    refine Reg.pur rfl rfl rfl rfl (Pur.mki (by kernel_rfl) rfl) ?_
    refine Reg.pur rfl rfl rfl rfl (Pur.asg rfl) ?_
    refine Reg.pur rfl rfl rfl rfl (Pur.asg rfl) ?_
    refine Reg.nil ?_
    refine At.ret rfl Try.func69 rfl ?_
    have ho : takO vs ts us rs = false := by { unfold takO; revert q19 q27; cases vmS vs <;> cases vmS us <;> simp <;> (intros; omega) }
    exact ⟨hE, none, 0, [], by rw [ho]; rfl, (fun h => by rw [ho] at h; cases h), bds_nil' _⟩
  first | (simp only [decide_eq_true_eq, decide_eq_false_iff_not, Bool.not_eq_true', Bool.not_eq_false', ne_eq, Decidable.not_not, Bool.not_eq_true, Bool.not_eq_false] at q27) | (dsimp only at q27) | skip
  refine Reg.gpur rfl rfl rfl rfl rfl rfl (Pur.mv rfl) ?_
  refine Reg.gpur rfl rfl rfl rfl rfl rfl (Pur.lenS isl57 rfl) ?_
  refine Reg.gpur rfl rfl rfl rfl rfl rfl (Pur.mv rfl) ?_
  refine Reg.gpur rfl rfl rfl rfl rfl rfl (Pur.nilc rfl) ?_
  refine Reg.gpur rfl rfl rfl rfl rfl rfl (Pur.fld _ fo56_0 rfl) ?_
  refine Reg.glod rfl rfl rfl rfl rfl rfl (Lod.ld sc54 rfl hb rfl) ?_
  refine Reg.gpur rfl rfl rfl rfl rfl rfl (Pur.lenS isl54 rfl) ?_
  refine Reg.gpur rfl rfl rfl rfl rfl rfl (Pur.neq rfl rfl) ?_
  refine Reg.pur rfl rfl rfl rfl (Pur.pickF rfl rfl) ?_
  refine Reg.pur rfl rfl rfl rfl (Pur.mv rfl) ?_
  refine Reg.case 37 rfl (fun q37 => ?_) (fun q37 => ?_)
  · first | (simp only [decide_eq_true_eq, decide_eq_false_iff_not, Bool.not_eq_true', Bool.not_eq_false', ne_eq, Decidable.not_not, Bool.not_eq_true, Bool.not_eq_false] at q37) | (dsimp only at q37) | skip
    refine Reg.skip rfl rfl rfl rfl rfl rfl rfl ?_
    refine Reg.skip rfl rfl rfl rfl rfl rfl rfl ?_
    refine Reg.skip rfl rfl rfl rfl rfl rfl rfl ?_
    refine Reg.skip rfl rfl rfl rfl rfl rfl rfl ?_
    refine Reg.skip rfl rfl rfl rfl rfl rfl rfl ?_
    refine Reg.skip rfl rfl rfl rfl rfl rfl rfl ?_
    refine Reg.skip rfl rfl rfl rfl rfl rfl rfl ?_
    refine Reg.skip rfl rfl rfl rfl rfl rfl rfl ?_
    refine Reg.pur rfl rfl rfl rfl (Pur.pickT rfl rfl) ?_
    refine Reg.nil ?_
    refine At.condT rfl rfl rfl ?_
    refine At.region rfl rfl ?_
    refine Reg.pur rfl rfl rfl rfl (Pur.mki (by kernel_rfl) rfl) ?_
    refine Reg.pur rfl rfl rfl rfl (Pur.asg rfl) ?_
    refine Reg.pur rfl rfl rfl rfl (Pur.asg rfl) ?_
    refine Reg.nil ?_
    refine At.ret rfl Try.func69 rfl ?_
    have ho : takO vs ts us rs = false := by { unfold takO; revert q19 q27 q37; cases vmS vs <;> cases vmS us <;> simp <;> (intros; omega) }
    exact ⟨hE, none, 0, [], by rw [ho]; rfl, (fun h => by rw [ho] at h; cases h), bds_nil' _⟩
  first | (simp only [decide_eq_true_eq, decide_eq_false_iff_not, Bool.not_eq_true', Bool.not_eq_false', ne_eq, Decidable.not_not, Bool.not_eq_true, Bool.not_eq_false] at q37) | (dsimp only at q37) | skip
  refine Reg.gpur rfl rfl rfl rfl rfl rfl (Pur.mv rfl) ?_
  refine Reg.gpur rfl rfl rfl rfl rfl rfl (Pur.lenS isl58 rfl) ?_
  refine Reg.gpur rfl rfl rfl rfl rfl rfl (Pur.mv rfl) ?_
  refine Reg.gpur rfl rfl rfl rfl rfl rfl (Pur.nilc rfl) ?_
  refine Reg.gpur rfl rfl rfl rfl rfl rfl (Pur.fld _ fo56_1 rfl) ?_
  refine Reg.glod rfl rfl rfl rfl rfl rfl (Lod.ld sc54 rfl hb rfl) ?_
  refine Reg.gpur rfl rfl rfl rfl rfl rfl (Pur.lenS isl54 rfl) ?_
  refine Reg.gpur rfl rfl rfl rfl rfl rfl (Pur.neq rfl rfl) ?_
  refine Reg.pur rfl rfl rfl rfl (Pur.pickF rfl rfl) ?_
  refine Reg.nil ?_
  refine At.cond rfl rfl (fun q46 => ?_) (fun q46 => ?_)
  · first | (simp only [decide_eq_true_eq, decide_eq_false_iff_not, Bool.not_eq_true', Bool.not_eq_false', ne_eq, Decidable.not_not, Bool.not_eq_true, Bool.not_eq_false] at q46) | (dsimp only at q46) | skip
    refine At.region rfl rfl ?_
    refine Reg.pur rfl rfl rfl rfl (Pur.mki (by kernel_rfl) rfl) ?_
    refine Reg.pur rfl rfl rfl rfl (Pur.asg rfl) ?_
    refine Reg.pur rfl rfl rfl rfl (Pur.asg rfl) ?_
    refine Reg.nil ?_
    refine At.ret rfl Try.func69 rfl ?_
    have ho : takO vs ts us rs = false := by { unfold takO; revert q19 q27 q37 q46; cases vmS vs <;> cases vmS us <;> simp <;> (intros; omega) }
    exact ⟨hE, none, 0, [], by rw [ho]; rfl, (fun h => by rw [ho] at h; cases h), bds_nil' _⟩
  first | (simp only [decide_eq_true_eq, decide_eq_false_iff_not, Bool.not_eq_true', Bool.not_eq_false', ne_eq, Decidable.not_not, Bool.not_eq_true, Bool.not_eq_false] at q46) | (dsimp only at q46) | skip
  have hq1 : vmS vs = true := q19
  have hq2 : vmS us = true := q27
  have hl1 : ts.length = vs.length := by omega
  have hl2 : rs.length = us.length := by omega
  have hv4 := vmS_len hq1
  have hu4 := vmS_len hq2
  have ho : takO vs ts us rs = true := by unfold takO; rw [hq1, hq2, decide_eq_true hl1, decide_eq_true hl2]; rfl
  refine At.region rfl rfl ?_
  refine Reg.pur rfl rfl rfl rfl (Pur.asg rfl) ?_
  refine Reg.nil ?_
  refine At.region rfl rfl ?_
  refine Reg.pur rfl rfl rfl rfl (Pur.mv rfl) ?_
  refine Reg.pur rfl rfl rfl rfl (Pur.lenS isl57 rfl) ?_
  refine Reg.pur rfl rfl rfl rfl (Pur.mv rfl) ?_
  refine Reg.nil ?_
  refine At.loop (σ := Nat × List Bd × Option Addr × Nat) (fun (i, out, A', cap') => [(50, I i), (49, I ts.length), (48, .slice Aq ts.length ct), (8, .slice A' out.length cap'), (0, ptr sb 0), (2, .slice Ar rs.length cr)]) (fun (i, out, A', cap') H' => i ≤ ts.length ∧ out = (List.zipWith bT vs ts).take i ∧ Gs H' H.size 49 8 A' cap' out.length (out.flatMap encB) ∧ Ext H H') (fun s => ts.length - s.1) (0, [], none, 0) rfl ⟨rfl, rfl, rfl, rfl, rfl, rfl, trivial⟩ ⟨by omega, by simp, OwnS.nilG, hE⟩ ?_
  rintro ⟨i, out, A', cap'⟩ H3 ⟨hi, hout, hg, hE⟩ ih
  dsimp only at hi hout hg ⊢
  have z_hE := hE.lt
  have z_hg := hg.lt
  have hol : out.length ≤ i := by rw [hout, List.length_take]; omega
  refine At.region rfl rfl ?_
  refine Reg.pur rfl rfl rfl rfl (Pur.lss rfl rfl) ?_
  refine Reg.nil ?_
  refine At.cond rfl rfl (fun q51 => ?_) (fun q51 => ?_)
  · first | (simp only [decide_eq_true_eq, decide_eq_false_iff_not, Bool.not_eq_true', Bool.not_eq_false', ne_eq, Decidable.not_not, Bool.not_eq_true, Bool.not_eq_false] at q51) | (dsimp only at q51) | skip
    have hlt : i < ts.length := by omega
    have hlv : i < vs.length := by omega
    have hb3 := hb.ext hE
    obtain ⟨b, o, c, rfl, hB, hd, _⟩ := sl_at (wideT ts) (hT.ext hE).sl hlt
    obtain ⟨b', o', c', rfl, hB', hc'⟩ := int_at (h1.ext hE) hlv
    have hnx := zip_take (f := bT) hlv hlt
    rw [← hout] at hnx
    generalize ts[i] = td at hd hnx
    generalize vs[i] = vi at hc' hnx
    have z_hb3 := hb3.lt
    have z_hB' := hB'.lt
    refine At.region rfl rfl ?_
    refine Reg.pur rfl rfl rfl rfl (Pur.mv rfl) ?_
    refine Reg.pur rfl rfl rfl rfl (Pur.idx _ es57 rfl rfl (by omega) (by omega)) ?_
    refine Reg.lod rfl rfl rfl rfl (Lod.ldn ag25 rfl hB hd rfl) ?_
    refine Reg.op rfl rfl rfl rfl (Does.alloc zc25) ?_
    rintro _ H6_3 ⟨rfl, hn6_3⟩
    have z6_3 := hn6_3.size
    replace hE := hE.ext hn6_3.ext
    replace hg := hg.ext hn6_3.ext
    replace hb3 := hb3.ext hn6_3.ext
    replace hB' := hB'.ext hn6_3.ext
    have o6_3 := hn6_3.own
    refine Reg.pur rfl rfl rfl rfl (Pur.asg rfl) ?_
    refine Reg.op0 rfl rfl rfl (Does.stn ag25 rfl rfl (by first | rfl | exact ones_Is _) (by first | rfl | (simp [*]; done)) o6_3 (by first | decide | (simp; done) | (simp; omega) | omega)) ?_
    rintro _ H6_5 hu6_5
    have z6_5 := hu6_5.size
    replace hE := hE.upw hu6_5 (by omega)
    replace hg := hg.upw hu6_5 (by omega)
    replace hb3 := hb3.upw hu6_5 (by omega)
    replace hB' := hB'.upw hu6_5 (by omega)
    replace o6_3 := hu6_5.own
    first | rw [over (by first | rfl | (simp; done))] at o6_3 | skip
    refine Reg.nil ?_
    refine At.drawE ((Bks.cons hb3.blk (Bks.cons hB'.blk (Bks.cons o6_3.blk Bks.nil)))) [] mixed rfl rfl ?_
    refine RegD.tpur (i := 0) rfl rfl rfl rfl (by kernel_rfl) (Pur.mv rfl) ?_
    refine RegD.tpur (i := 1) rfl rfl rfl rfl (by kernel_rfl) (Pur.mv rfl) ?_
    refine RegD.tpur (i := 2) rfl rfl rfl rfl (by kernel_rfl) (Pur.nilc rfl) ?_
    refine RegD.tpur (i := 3) rfl rfl rfl rfl (by kernel_rfl) (Pur.fld _ fo56_0 rfl) ?_
    refine RegD.take (i := 4) rfl rfl rfl rfl (by kernel_rfl) (Bks.cons hb3.blk (Bks.cons hB'.blk (Bks.cons o6_3.blk Bks.nil))) (fun H hS => Lod.ld sc54 rfl hS.hd rfl) ?_
    refine RegD.tpur (i := 5) rfl rfl rfl rfl (by kernel_rfl) (Pur.mv rfl) ?_
    refine RegD.tpur (i := 6) rfl rfl rfl rfl (by kernel_rfl) (Pur.idx _ es54 rfl rfl (by omega) (by omega)) ?_
    refine RegD.take (i := 7) rfl rfl rfl rfl (by kernel_rfl) (Bks.cons hb3.blk (Bks.cons hB'.blk (Bks.cons o6_3.blk Bks.nil))) (fun H hS => Lod.ld sc3 rfl hS.tl.hd hc') ?_
    refine RegD.take (i := 8) rfl rfl rfl rfl (by kernel_rfl) (Bks.cons hb3.blk (Bks.cons hB'.blk (Bks.cons o6_3.blk Bks.nil))) (fun H hS => Lod.ldn ag25 rfl hS.tl.tl.hd (by first | exact whole rfl | rfl | (simp only [List.drop_succ_cons, List.drop_zero, List.take_succ_cons, List.take_zero]; rfl)) (by first | rfl | (simp [*]; done))) ?_
    refine RegD.tpur (i := 9) rfl rfl rfl rfl (by kernel_rfl) (Pur.bld (cs := [_, _, _, _, _, _, _, _]) pl49 zc49 rfl rfl ⟨rfl, rfl, rfl, rfl, rfl, rfl, rfl, rfl, rfl⟩) ?_
    refine RegD.one (i := 10) (by kernel_rfl) rfl rfl rfl rfl (Does.bslA ([[_, _, _, _, _, _, _, _]]) slA22 rfl rfl rfl rfl rfl rfl) ?_
    rintro _ H7_10 ⟨rfl, hp7_10⟩
    have hn7_10 := New.of_eq hp7_10
    have z7_10 := hn7_10.size
    replace hE := hE.ext hn7_10.ext
    replace hg := hg.ext hn7_10.ext
    replace hb3 := hb3.ext hn7_10.ext
    replace hB' := hB'.ext hn7_10.ext
    replace o6_3 := o6_3.ext hn7_10.ext
    have o7_10 := hn7_10.own
    refine ⟨fun _ _ => (Bks.cons hb3.blk (Bks.cons hB'.blk (Bks.cons o6_3.blk Bks.nil))), ?_⟩
    have hzb : b' < H.size := by { obtain ⟨_, _, _, e, hB0, _⟩ := int_at h1 hlv; cases e; exact hB0.lt }
    refine RegD.one (i := 11) (by kernel_rfl) rfl rfl rfl rfl (Does.appL apt22 rfl rfl (by decide) hg (fun x hx ↦ by simp at hx; subst hx; rfl) (sl_one (x := bT vi td) rfl (by decide) hn7_10) (ones_fl _) (by simp; omega) (by omega)) ?_
    rintro _ H7_11 ⟨A7_11, cap7_11, rfl, g7_11, hbut7_11, ha7_11⟩
    have z7_11 := hbut7_11.lt
    replace hE := hE.via hbut7_11 (by first | omega | (intro g; omega) | (intro g hg; omega) | (intro g hg h; omega))
    replace hb3 := hb3.via hbut7_11 (by first | omega | (intro g; omega) | (intro g hg; omega) | (intro g hg h; omega))
    replace hB' := hB'.via hbut7_11 (by first | omega | (intro g; omega) | (intro g hg; omega) | (intro g hg h; omega))
    replace o6_3 := o6_3.via hbut7_11 (by first | omega | (intro g; omega) | (intro g hg; omega) | (intro g hg h; omega))
    replace o7_10 := o7_10.via hbut7_11 (by first | omega | (intro g; omega) | (intro g hg; omega) | (intro g hg h; omega))
    replace hg := g7_11
    have zg7_11 := g7_11.lt
    refine ⟨fun _ _ => (Bks.cons hb3.blk (Bks.cons hB'.blk (Bks.cons o6_3.blk Bks.nil))), ?_⟩
    refine RegD.tpur (i := 12) rfl rfl rfl rfl (by kernel_rfl) (Pur.asg rfl) ?_
    refine RegD.done (by kernel_rfl) ?_
    refine At.region rfl rfl ?_
    first | refine Reg.pur rfl rfl rfl rfl (Pur.add64 rfl rfl (by omega)) ?_ | refine Reg.pur rfl rfl rfl rfl (Pur.add64 rfl rfl (by assumption)) ?_ | refine Reg.pur rfl rfl rfl rfl (Pur.add rfl rfl) ?_
    refine Reg.pur rfl rfl rfl rfl (Pur.mv rfl) ?_
    refine Reg.nil ?_
    exact At.via (ih (i + 1, out ++ [bT vi td], A7_11, cap7_11) _ ⟨by omega, hnx.symm, hg, hE⟩ (by simp only; omega)) ⟨rfl, rfl, rfl, rfl, rfl, rfl, trivial⟩
  first | (simp only [decide_eq_true_eq, decide_eq_false_iff_not, Bool.not_eq_true', Bool.not_eq_false', ne_eq, Decidable.not_not, Bool.not_eq_true, Bool.not_eq_false] at q51) | (dsimp only at q51) | skip
  refine At.region rfl rfl ?_
  refine Reg.pur rfl rfl rfl rfl (Pur.mv rfl) ?_
  refine Reg.pur rfl rfl rfl rfl (Pur.lenS isl58 rfl) ?_
  refine Reg.pur rfl rfl rfl rfl (Pur.mv rfl) ?_
  refine Reg.nil ?_
  have hall : out = List.zipWith bT vs ts := by rw [hout, List.take_of_length_le (by simp; omega)]
  clear ih
  refine At.loop (σ := Nat × List Bd × Option Addr × Nat) (fun (j, out', A', cap') => [(70, I j), (69, I rs.length), (68, .slice Ar rs.length cr), (8, .slice A' out'.length cap'), (0, ptr sb 0)]) (fun (j, out', A', cap') H' => j ≤ rs.length ∧ out' = List.zipWith bT vs ts ++ (List.zipWith bR us rs).take j ∧ Gs H' H.size 49 8 A' cap' out'.length (out'.flatMap encB) ∧ Ext H H') (fun s => rs.length - s.1) (0, out, A', cap') rfl ⟨rfl, rfl, rfl, rfl, rfl, trivial⟩ ⟨by omega, by simp [hall], hg, hE⟩ ?_
  clear hg hE hout hall hol hi q51
  rintro ⟨j, out', A', cap'⟩ H5 ⟨hj, hout, hg, hE⟩ ih
  dsimp only at hj hout hg ⊢
  have z_hE := hE.lt
  have z_hg := hg.lt
  have hol : out'.length ≤ 4096 + j := by rw [hout, List.length_append, List.length_take]; simp; omega
  refine At.region rfl rfl ?_
  refine Reg.pur rfl rfl rfl rfl (Pur.lss rfl rfl) ?_
  refine Reg.nil ?_
  refine At.cond rfl rfl (fun q71 => ?_) (fun q71 => ?_)
  · first | (simp only [decide_eq_true_eq, decide_eq_false_iff_not, Bool.not_eq_true', Bool.not_eq_false', ne_eq, Decidable.not_not, Bool.not_eq_true, Bool.not_eq_false] at q71) | (dsimp only at q71) | skip
    have hlt : j < rs.length := by omega
    have hlv : j < us.length := by omega
    have hb3 := hb.ext hE
    obtain ⟨b, o, c, rfl, hB, hd, h5'⟩ := sl_at (wide5 h5) (hR.ext hE) hlt
    have h55 := h5 _ (List.getElem_mem hlt)
    obtain ⟨b', o', c', rfl, hB', hc'⟩ := int_at (h2.ext hE) hlv
    have hnx := zip_take (f := bR) hlv hlt
    generalize rs[j] = r at hd hnx h5' h55
    generalize us[j] = vi at hc' hnx
    obtain ⟨ra, rb, rc, rd, re, rfl⟩ : ∃ a b c d e, r = [a, b, c, d, e] := by match r, h55 with | [a, b, c, d, e], _ => exact ⟨_, _, _, _, _, rfl⟩
    have z_hb3 := hb3.lt
    have z_hB' := hB'.lt
    refine At.region rfl rfl ?_
    refine Reg.pur rfl rfl rfl rfl (Pur.mv rfl) ?_
    refine Reg.pur rfl rfl rfl rfl (Pur.idx _ es58 rfl rfl (by omega) (by omega)) ?_
    refine Reg.lod rfl rfl rfl rfl (Lod.ldn ag28 rfl hB hd h5') ?_
    refine Reg.op rfl rfl rfl rfl (Does.alloc zc28) ?_
    rintro _ H11_3 ⟨rfl, hn11_3⟩
    have z11_3 := hn11_3.size
    replace hE := hE.ext hn11_3.ext
    replace hg := hg.ext hn11_3.ext
    replace hb3 := hb3.ext hn11_3.ext
    replace hB' := hB'.ext hn11_3.ext
    have o11_3 := hn11_3.own
    refine Reg.pur rfl rfl rfl rfl (Pur.asg rfl) ?_
    refine Reg.op0 rfl rfl rfl (Does.stn ag28 rfl rfl (by first | rfl | exact ones_Is _) (by first | rfl | (simp [*]; done)) o11_3 (by first | decide | (simp; done) | (simp; omega) | omega)) ?_
    rintro _ H11_5 hu11_5
    have z11_5 := hu11_5.size
    replace hE := hE.upw hu11_5 (by omega)
    replace hg := hg.upw hu11_5 (by omega)
    replace hb3 := hb3.upw hu11_5 (by omega)
    replace hB' := hB'.upw hu11_5 (by omega)
    replace o11_3 := hu11_5.own
    first | rw [over (by first | rfl | (simp; done))] at o11_3 | skip
    refine Reg.nil ?_
    refine At.drawE ((Bks.cons hb3.blk (Bks.cons hB'.blk (Bks.cons o11_3.blk Bks.nil)))) [] mixed rfl rfl ?_
    refine RegD.tpur (i := 0) rfl rfl rfl rfl (by kernel_rfl) (Pur.mv rfl) ?_
    refine RegD.tpur (i := 1) rfl rfl rfl rfl (by kernel_rfl) (Pur.mv rfl) ?_
    refine RegD.tpur (i := 2) rfl rfl rfl rfl (by kernel_rfl) (Pur.nilc rfl) ?_
    refine RegD.tpur (i := 3) rfl rfl rfl rfl (by kernel_rfl) (Pur.fld _ fo56_1 rfl) ?_
    refine RegD.take (i := 4) rfl rfl rfl rfl (by kernel_rfl) (Bks.cons hb3.blk (Bks.cons hB'.blk (Bks.cons o11_3.blk Bks.nil))) (fun H hS => Lod.ld sc54 rfl hS.hd rfl) ?_
    refine RegD.tpur (i := 5) rfl rfl rfl rfl (by kernel_rfl) (Pur.mv rfl) ?_
    refine RegD.tpur (i := 6) rfl rfl rfl rfl (by kernel_rfl) (Pur.idx _ es54 rfl rfl (by omega) (by omega)) ?_
    refine RegD.take (i := 7) rfl rfl rfl rfl (by kernel_rfl) (Bks.cons hb3.blk (Bks.cons hB'.blk (Bks.cons o11_3.blk Bks.nil))) (fun H hS => Lod.ld sc3 rfl hS.tl.hd hc') ?_
    refine RegD.take (i := 8) rfl rfl rfl rfl (by kernel_rfl) (Bks.cons hb3.blk (Bks.cons hB'.blk (Bks.cons o11_3.blk Bks.nil))) (fun H hS => Lod.ldn ag28 rfl hS.tl.tl.hd (by first | exact whole rfl | rfl | (simp only [List.drop_succ_cons, List.drop_zero, List.take_succ_cons, List.take_zero]; rfl)) (by first | rfl | (simp [*]; done))) ?_
    refine RegD.tpur (i := 9) rfl rfl rfl rfl (by kernel_rfl) (Pur.bld (cs := [_, _, _, _, _, _, _, _]) pl49 zc49 rfl rfl ⟨rfl, rfl, rfl, rfl, rfl, rfl, rfl, rfl, rfl⟩) ?_
    refine RegD.one (i := 10) (by kernel_rfl) rfl rfl rfl rfl (Does.bslA ([[_, _, _, _, _, _, _, _]]) slA22 rfl rfl rfl rfl rfl rfl) ?_
    rintro _ H12_10 ⟨rfl, hp12_10⟩
    have hn12_10 := New.of_eq hp12_10
    have z12_10 := hn12_10.size
    replace hE := hE.ext hn12_10.ext
    replace hg := hg.ext hn12_10.ext
    replace hb3 := hb3.ext hn12_10.ext
    replace hB' := hB'.ext hn12_10.ext
    replace o11_3 := o11_3.ext hn12_10.ext
    have o12_10 := hn12_10.own
    refine ⟨fun _ _ => (Bks.cons hb3.blk (Bks.cons hB'.blk (Bks.cons o11_3.blk Bks.nil))), ?_⟩
    have hzb : b' < H.size := by { obtain ⟨_, _, _, e, hB0, _⟩ := int_at h2 hlv; cases e; exact hB0.lt }
    refine RegD.one (i := 11) (by kernel_rfl) rfl rfl rfl rfl (Does.appL apt22 rfl rfl (by decide) hg (fun x hx ↦ by simp at hx; subst hx; rfl) (sl_one (x := bR vi [ra, rb, rc, rd, re]) rfl (by decide) hn12_10) (ones_fl _) (by simp; omega) (by omega)) ?_
    rintro _ H12_11 ⟨A12_11, cap12_11, rfl, g12_11, hbut12_11, ha12_11⟩
    have z12_11 := hbut12_11.lt
    replace hE := hE.via hbut12_11 (by first | omega | (intro g; omega) | (intro g hg; omega) | (intro g hg h; omega))
    replace hb3 := hb3.via hbut12_11 (by first | omega | (intro g; omega) | (intro g hg; omega) | (intro g hg h; omega))
    replace hB' := hB'.via hbut12_11 (by first | omega | (intro g; omega) | (intro g hg; omega) | (intro g hg h; omega))
    replace o11_3 := o11_3.via hbut12_11 (by first | omega | (intro g; omega) | (intro g hg; omega) | (intro g hg h; omega))
    replace o12_10 := o12_10.via hbut12_11 (by first | omega | (intro g; omega) | (intro g hg; omega) | (intro g hg h; omega))
    replace hg := g12_11
    have zg12_11 := g12_11.lt
    refine ⟨fun _ _ => (Bks.cons hb3.blk (Bks.cons hB'.blk (Bks.cons o11_3.blk Bks.nil))), ?_⟩
    refine RegD.tpur (i := 12) rfl rfl rfl rfl (by kernel_rfl) (Pur.asg rfl) ?_
    refine RegD.done (by kernel_rfl) ?_
    refine At.region rfl rfl ?_
    first | refine Reg.pur rfl rfl rfl rfl (Pur.add64 rfl rfl (by omega)) ?_ | refine Reg.pur rfl rfl rfl rfl (Pur.add64 rfl rfl (by assumption)) ?_ | refine Reg.pur rfl rfl rfl rfl (Pur.add rfl rfl) ?_
    refine Reg.pur rfl rfl rfl rfl (Pur.mv rfl) ?_
    refine Reg.nil ?_
    exact At.via (ih (j + 1, out' ++ [bR vi [ra, rb, rc, rd, re]], A12_11, cap12_11) _ ⟨by omega, by rw [hnx, hout, List.append_assoc], hg, hE⟩ (by simp only; omega)) ⟨rfl, rfl, rfl, rfl, rfl, trivial⟩
  first | (simp only [decide_eq_true_eq, decide_eq_false_iff_not, Bool.not_eq_true', Bool.not_eq_false', ne_eq, Decidable.not_not, Bool.not_eq_true, Bool.not_eq_false] at q71) | (dsimp only at q71) | skip
  refine At.region rfl rfl ?_
  refine Reg.pur rfl rfl rfl rfl (Pur.mv rfl) ?_
  refine Reg.pur rfl rfl rfl rfl (Pur.asg rfl) ?_
  refine Reg.pur rfl rfl rfl rfl (Pur.asg rfl) ?_
  refine Reg.nil ?_
  refine At.ret rfl Try.func69 rfl ?_
  have hall : out' = takB vs ts us rs := by rw [hout, List.take_of_length_le (by simp; omega)]; rfl
  have hok := takB_ok (vs := vs) (us := us) hT h5
  rw [← hall] at hok
  exact ⟨hE, A', cap', out', by rw [ho]; rfl, fun _ => hall, ⟨own_sl (fun x hx => (hok x hx).len) (by decide) hg, fun x hx => (hok x hx).ext hE, by omega⟩⟩
end Go.Proofs.Ytlfillhffpiffaa

namespace Go.Proofs.Ytlfillhffpiffaa
set_option linter.unusedSimpArgs false
set_option linter.unusedVariables false
set_option maxRecDepth 8000
set_option maxHeartbeats 1000000
open Go Go.Fx Go.Proofs
namespace FactsSchN
theorem ag25 : ag Try.prog 25 = some 1 := by kernel_rfl
theorem ag28 : ag Try.prog 28 = some 5 := by kernel_rfl
theorem apt22 : appT Try.prog 22 = some (49, 8, 80) := by kernel_rfl
theorem es54 : esz Try.prog 54 = some 1 := by kernel_rfl
theorem es57 : esz Try.prog 57 = some 1 := by kernel_rfl
theorem es58 : esz Try.prog 58 = some 5 := by kernel_rfl
theorem fo56_0 : foff Try.prog 56 0 = some 0 := by kernel_rfl
theorem fo56_1 : foff Try.prog 56 1 = some 1 := by kernel_rfl
theorem fo56_2 : foff Try.prog 56 2 = some 2 := by kernel_rfl
theorem isl54 : isSl Try.prog 54 = true := by kernel_rfl
theorem isl57 : isSl Try.prog 57 = true := by kernel_rfl
theorem isl58 : isSl Try.prog 58 = true := by kernel_rfl
theorem mixed : Try.prog.follows .mixedOrders = true := by kernel_rfl
theorem pl25 : places Try.prog 25 = some [(0, 1)] := by kernel_rfl
theorem pl49 : places Try.prog 49 = some [(0, 1), (1, 1), (2, 1), (3, 5)] := by kernel_rfl
theorem sc3 : sc Try.prog 3 = true := by kernel_rfl
theorem sc54 : sc Try.prog 54 = true := by kernel_rfl
theorem slA22 : slA Try.prog 22 = some (49, 8) := by kernel_rfl
theorem zc25 : zc Try.prog 25 = some [.slice none 0 0] := by kernel_rfl
theorem zc49 : zc Try.prog 49 = some [.int .i64 0, .bool false, .slice none 0 0, .int .i64 0, .int .i64 0, .int .i64 0, .int .i64 0, .int .i64 0] := by kernel_rfl
end FactsSchN
open FactsSchN

theorem ce_ne' {α : Type} {o : Option α} (h : ¬ ce o.isSome = 0) : o = none := by
  cases o with
  | none => rfl
  | some _ => exact (h rfl).elim
theorem ce_eq' {α : Type} {o : Option α} (h : ce o.isSome = 0) : ∃ m, o = some m := by
  cases o with
  | none => cases h
  | some m => exact ⟨m, rfl⟩
def takT (vs : List Int) (ts : List Td) (us : List Int) (rs : List (List Int)) (L : List (List Int)) : Option (List (List Int)) := if takO vs ts us rs then subT (takB vs ts us rs) L else none
def TakP (H : Heap) (vs : List Int) (ts : List Td) (us : List Int) (rs : List (List Int)) (L : List (List Int)) (v : Value) (H' : Heap) : Prop :=
  Ext H H' ∧ TypV H.size H' (I (cs (takT vs ts us rs L).isSome)) v ((takT vs ts us rs L).getD [])
theorem tak_no {H H' : Heap} {vs us : List Int} {ts : List Td} {rs L : List (List Int)} {v : Value} (h : takT vs ts us rs L = none) (hE : Ext H H') (hv : v = .tuple #[Ty none 0 0, I 1200]) : TakP H vs ts us rs L v H' := by
  refine ⟨hE, ?_⟩; rw [h]; exact TypV.non hv

theorem take_ok {A1 A2 A3 Aq Ar : Option Addr} {c1 c2 c3 ct cr : Nat} {vs us : List Int} {L : List (List Int)} {ts : List Td} {rs : List (List Int)} {H : Heap} (hs : ScR H A1 c1 vs A2 c2 us A3 c3 L)
    (hm : vs.length ≤ 9223372036854775807 ∧ us.length ≤ 9223372036854775807) (hmL : L.length * 72 ≤ 140737488351232) (hT : Tds H (.slice Aq ts.length ct) ts) (hR : SlT H Is 5 (.slice Ar rs.length cr) rs) (h5 : Five rs) (hrm : rs.length ≤ 9223372036854775807) :
    Ret Try.prog 32 [ScV A1 vs.length c1 A2 us.length c2 A3 L.length c3, .slice Aq ts.length ct, .slice Ar rs.length cr] H (TakP H vs ts us rs L) := by
  refine Ret.of_at (N := 33) Try.call32 Try.func32 rfl rfl rfl ?_
  have hE := Ext.refl H
  refine At.region rfl rfl ?_
  refine Reg.op rfl rfl rfl rfl (Does.box rfl rfl) ?_
  rintro _ H0_0 ⟨rfl, hn0_0⟩
  have z0_0 := hn0_0.size
  replace hE := hE.ext hn0_0.ext
  have o0_0 := hn0_0.own
  refine Reg.op rfl rfl rfl rfl (Does.alloc zc25) ?_
  rintro _ H0_1 ⟨rfl, hn0_1⟩
  have z0_1 := hn0_1.size
  replace hE := hE.ext hn0_1.ext
  replace o0_0 := o0_0.ext hn0_1.ext
  have o0_1 := hn0_1.own
  refine Reg.pur rfl rfl rfl rfl (Pur.asg rfl) ?_
  refine Reg.nil ?_
  refine At.region rfl rfl ?_
  refine Reg.pur rfl rfl rfl rfl (Pur.mv rfl) ?_
  refine Reg.pur rfl rfl rfl rfl (Pur.mv rfl) ?_
  refine Reg.op rfl rfl rfl rfl (Does.call rfl (binds_ok o0_0.blk (hs.s1.ext hE) (hs.s2.ext hE) hm (hT.ext hE) (hR.ext hE) h5 hrm)) ?_
  rintro v1_2 H1_2 ⟨hE1_2, A', cap', out, rfl, hout, hB⟩
  have z1_2 := hE1_2.lt
  replace hE := hE.ext hE1_2
  replace o0_0 := o0_0.ext hE1_2
  replace o0_1 := o0_1.ext hE1_2
  have hE1 := Ext.refl H1_2
  have z_hE1 := hE1.lt
  refine Reg.pur rfl rfl rfl rfl (Pur.mv rfl) ?_
  refine Reg.pur rfl rfl rfl rfl (Pur.ext rfl rfl) ?_
  refine Reg.pur rfl rfl rfl rfl (Pur.ext rfl rfl) ?_
  refine Reg.pur rfl rfl rfl rfl (Pur.asg rfl) ?_
  refine Reg.pur rfl rfl rfl rfl (Pur.asg rfl) ?_
  refine Reg.nil ?_
  refine At.region rfl rfl ?_
  refine Reg.pur rfl rfl rfl rfl (Pur.mv rfl) ?_
  refine Reg.pur rfl rfl rfl rfl (Pur.mki (by kernel_rfl) rfl) ?_
  refine Reg.op rfl rfl rfl rfl (Does.call rfl (errorsIs_ok _ 1200 _)) ?_
  rintro _ H1_2 ⟨rfl, rfl⟩
  refine Reg.nil ?_
  refine At.cond rfl rfl (fun q20 => ?_) (fun q20 => ?_)
  · first | (simp only [decide_eq_true_eq, decide_eq_false_iff_not, Bool.not_eq_true', Bool.not_eq_false', ne_eq, Decidable.not_not, Bool.not_eq_true, Bool.not_eq_false] at q20) | (dsimp only at q20) | skip

    refine At.region rfl rfl ?_
    refine Reg.pur rfl rfl rfl rfl (Pur.bld (cs := [_]) pl25 zc25 rfl rfl ⟨rfl, rfl⟩) ?_
    refine Reg.op0 rfl rfl rfl (Does.stn ag25 rfl rfl (by first | rfl | exact ones_Is _) (by first | rfl | (simp [*]; done)) o0_1 (by first | decide | (simp; done) | (simp; omega) | omega)) ?_
    rintro _ H3_1 hu3_1
    have z3_1 := hu3_1.size
    replace hE := hE.upw hu3_1 (by omega)
    replace o0_0 := o0_0.upw hu3_1 (by omega)
    replace o0_1 := hu3_1.own
    first | rw [over (by first | rfl | (simp; done))] at o0_1 | skip
    refine Reg.pur rfl rfl rfl rfl (Pur.asg rfl) ?_
    refine Reg.nil ?_
    refine At.retC rfl Try.func32 ⟨_, _, _, _, rfl, rfl, ⟨_, o0_1.blk, .inr ⟨_, _, ag25, (by first | exact whole rfl | exact whole (by simp [*])), (by first | rfl | simp [*]), rfl⟩⟩, ⟨_, _, rfl, rfl, rfl⟩⟩ ?_
    exact tak_no (by unfold takT; rw [if_neg (by intro h; rw [h] at q20; simp at q20)]) hE rfl
  first | (simp only [decide_eq_true_eq, decide_eq_false_iff_not, Bool.not_eq_true', Bool.not_eq_false', ne_eq, Decidable.not_not, Bool.not_eq_true, Bool.not_eq_false] at q20) | (dsimp only at q20) | skip
  have ho : takO vs ts us rs = true := by { cases h : takO vs ts us rs with | true => rfl | false => rw [h] at q20; exact (q20 rfl).elim }
  have hq : takT vs ts us rs L = subT out L := by unfold takT; rw [if_pos ho, hout ho]
  refine At.region rfl rfl ?_
  refine Reg.pur rfl rfl rfl rfl (Pur.mv rfl) ?_
  refine Reg.pur rfl rfl rfl rfl (Pur.fld _ fo56_2 rfl) ?_
  refine Reg.lod rfl rfl rfl rfl (Lod.ldn ag25 rfl o0_0.blk (by first | exact whole rfl | rfl | (simp only [List.drop_succ_cons, List.drop_zero, List.take_succ_cons, List.take_zero]; rfl)) (by first | rfl | (simp [*]; done))) ?_
  refine Reg.op rfl rfl rfl rfl (Does.call rfl (type_ok (hB.ext hE1) (hs.s3.ext hE) hs.nine hmL)) ?_
  rintro v4_3 H4_3 ⟨hE4_3, hTv4_3⟩
  have z4_3 := hE4_3.lt
  replace hE := hE.ext hE4_3
  replace o0_0 := o0_0.ext hE4_3
  replace o0_1 := o0_1.ext hE4_3
  replace hE1 := hE1.ext hE4_3
  obtain ⟨A4, cap4, rfl, ho4, hN4, hl4⟩ := hTv4_3
  have z_ho4 := ho4.lt

  refine Reg.pur rfl rfl rfl rfl (Pur.mv rfl) ?_
  refine Reg.pur rfl rfl rfl rfl (Pur.ext rfl rfl) ?_
  refine Reg.pur rfl rfl rfl rfl (Pur.ext rfl rfl) ?_
  refine Reg.op rfl rfl rfl rfl (Does.alloc zc25) ?_
  rintro _ H4_7 ⟨rfl, hn4_7⟩
  have z4_7 := hn4_7.size
  replace hE := hE.ext hn4_7.ext
  replace o0_0 := o0_0.ext hn4_7.ext
  replace o0_1 := o0_1.ext hn4_7.ext
  replace ho4 := ho4.ext hn4_7.ext
  have o4_7 := hn4_7.own
  refine Reg.op0 rfl rfl rfl (Does.stn ag25 rfl rfl (by first | rfl | exact ones_Is _) (by first | rfl | (simp [*]; done)) o4_7 (by first | decide | (simp; done) | (simp; omega) | omega)) ?_
  rintro _ H4_8 hu4_8
  have z4_8 := hu4_8.size
  replace hE := hE.upw hu4_8 (by omega)
  replace o0_0 := o0_0.upw hu4_8 (by omega)
  replace o0_1 := o0_1.upw hu4_8 (by omega)
  replace ho4 := ho4.upw hu4_8 (by omega)
  replace o4_7 := hu4_8.own
  first | rw [over (by first | rfl | (simp; done))] at o4_7 | skip
  refine Reg.pur rfl rfl rfl rfl (Pur.asg rfl) ?_
  refine Reg.nil ?_
  refine At.region rfl rfl ?_
  refine Reg.pur rfl rfl rfl rfl (Pur.mv rfl) ?_
  refine Reg.pur rfl rfl rfl rfl (Pur.neq rfl rfl) ?_
  refine Reg.nil ?_
  refine At.cond rfl rfl (fun q30 => ?_) (fun q30 => ?_)
  · first | (simp only [decide_eq_true_eq, decide_eq_false_iff_not, Bool.not_eq_true', Bool.not_eq_false', ne_eq, Decidable.not_not, Bool.not_eq_true, Bool.not_eq_false] at q30) | (dsimp only at q30) | skip
    refine At.region rfl rfl ?_
    refine Reg.pur rfl rfl rfl rfl (Pur.bld (cs := [_]) pl25 zc25 rfl rfl ⟨rfl, rfl⟩) ?_
    refine Reg.op0 rfl rfl rfl (Does.stn ag25 rfl rfl (by first | rfl | exact ones_Is _) (by first | rfl | (simp [*]; done)) o0_1 (by first | decide | (simp; done) | (simp; omega) | omega)) ?_
    rintro _ H6_1 hu6_1
    have z6_1 := hu6_1.size
    replace hE := hE.upw hu6_1 (by omega)
    replace o0_0 := o0_0.upw hu6_1 (by omega)
    replace ho4 := ho4.upw hu6_1 (by omega)
    replace o4_7 := o4_7.upw hu6_1 (by omega)
    replace o0_1 := hu6_1.own
    first | rw [over (by first | rfl | (simp; done))] at o0_1 | skip
    refine Reg.pur rfl rfl rfl rfl (Pur.asg rfl) ?_
    refine Reg.nil ?_
    refine At.retC rfl Try.func32 ⟨_, _, _, _, rfl, rfl, ⟨_, o0_1.blk, .inr ⟨_, _, ag25, (by first | exact whole rfl | exact whole (by simp [*])), (by first | rfl | simp [*]), rfl⟩⟩, ⟨_, _, rfl, rfl, rfl⟩⟩ ?_
    exact tak_no (by rw [hq]; exact ce_ne' q30) hE rfl
  first | (simp only [decide_eq_true_eq, decide_eq_false_iff_not, Bool.not_eq_true', Bool.not_eq_false', ne_eq, Decidable.not_not, Bool.not_eq_true, Bool.not_eq_false] at q30) | (dsimp only at q30) | skip
  refine At.region rfl rfl ?_
  refine Reg.lod rfl rfl rfl rfl (Lod.ldn ag25 rfl o4_7.blk (by first | exact whole rfl | rfl | (simp only [List.drop_succ_cons, List.drop_zero, List.take_succ_cons, List.take_zero]; rfl)) (by first | rfl | (simp [*]; done))) ?_
  refine Reg.op0 rfl rfl rfl (Does.stn ag25 rfl rfl (by first | rfl | exact ones_Is _) (by first | rfl | (simp [*]; done)) o0_1 (by first | decide | (simp; done) | (simp; omega) | omega)) ?_
  rintro _ H7_1 hu7_1
  have z7_1 := hu7_1.size
  replace hE := hE.upw hu7_1 (by omega)
  replace o0_0 := o0_0.upw hu7_1 (by omega)
  replace ho4 := ho4.upw hu7_1 (by omega)
  replace o4_7 := o4_7.upw hu7_1 (by omega)
  replace o0_1 := hu7_1.own
  first | rw [over (by first | rfl | (simp; done))] at o0_1 | skip
  refine Reg.pur rfl rfl rfl rfl (Pur.asg rfl) ?_
  refine Reg.nil ?_
  refine At.retC rfl Try.func32 ⟨_, _, _, _, rfl, rfl, ⟨_, o0_1.blk, .inr ⟨_, _, ag25, (by first | exact whole rfl | exact whole (by simp [*])), (by first | rfl | simp [*]), rfl⟩⟩, ⟨_, _, rfl, rfl, rfl⟩⟩ ?_
  refine ⟨hE, ?_⟩
  obtain ⟨M, hM⟩ := ce_eq' q30
  rw [hq, hM]
  rw [hM] at ho4 hN4 hl4
  exact ⟨A4, cap4, rfl, ho4.mono (by omega), hN4, hl4⟩

end Go.Proofs.Ytlfillhffpiffaa

namespace Go.Proofs.Ytlfillhffpiffaa
set_option linter.unusedSimpArgs false
set_option linter.unusedVariables false
set_option maxRecDepth 8000
set_option maxHeartbeats 1000000
open Go Go.Fx Go.Proofs
namespace FactsSchO
theorem ag25 : ag Try.prog 25 = some 1 := by kernel_rfl
theorem ag56 : ag Try.prog 56 = some 3 := by kernel_rfl
theorem es23 : esz Try.prog 23 = some 9 := by kernel_rfl
theorem fo25_0 : foff Try.prog 25 0 = some 0 := by kernel_rfl
theorem fo28_1 : foff Try.prog 28 1 = some 4 := by kernel_rfl
theorem fo47_0 : foff Try.prog 47 0 = some 0 := by kernel_rfl
theorem fo47_1 : foff Try.prog 47 1 = some 1 := by kernel_rfl
theorem fo47_4 : foff Try.prog 47 4 = some 4 := by kernel_rfl
theorem fo56_0 : foff Try.prog 56 0 = some 0 := by kernel_rfl
theorem fo56_1 : foff Try.prog 56 1 = some 1 := by kernel_rfl
theorem isl23 : isSl Try.prog 23 = true := by kernel_rfl
theorem pl25 : places Try.prog 25 = some [(0, 1)] := by kernel_rfl
theorem pl28 : places Try.prog 28 = some [(0, 4), (4, 1)] := by kernel_rfl
theorem pl47 : places Try.prog 47 = some [(0, 1), (1, 1), (2, 1), (3, 1), (4, 5)] := by kernel_rfl
theorem sc23 : sc Try.prog 23 = true := by kernel_rfl
theorem sc3 : sc Try.prog 3 = true := by kernel_rfl
theorem sc54 : sc Try.prog 54 = true := by kernel_rfl
theorem sl1_54 : sl1 Try.prog 54 = true := by kernel_rfl
theorem slA23 : slA Try.prog 23 = some (47, 9) := by kernel_rfl
theorem slA57 : slA Try.prog 57 = some (25, 1) := by kernel_rfl
theorem slA58 : slA Try.prog 58 = some (28, 5) := by kernel_rfl
theorem zc25 : zc Try.prog 25 = some [.slice none 0 0] := by kernel_rfl
theorem zc28 : zc Try.prog 28 = some [.int .i64 0, .int .i64 0, .int .i64 0, .int .i64 0, .int .i64 0] := by kernel_rfl
theorem zc47 : zc Try.prog 47 = some [.int .i64 0, .int .i64 0, .int .i64 0, .int .i64 0, .int .i64 0, .int .i64 0, .int .i64 0, .int .i64 0, .int .i64 0] := by kernel_rfl
theorem zc56 : zc Try.prog 56 = some [.slice none 0 0, .slice none 0 0, .slice none 0 0] := by kernel_rfl
end FactsSchO
open FactsSchO

abbrev kF : List (List Int) := [[2, 5, 0, 0, 0, 0, 0, 0, 0], [2, 1, 0, 0, 0, 0, 0, 0, 0], [3, 0, 0, 1, 0, 0, 0, 0, 2]]
abbrev kB : List (List Int) := [[1, 0, 0, 0, 0, 0, 0, 0, 0]]
abbrev kM : List (List Int) := [[1, 0, 0, 0, 0, 0, 0, 0, 0], [2, 1, 0, 0, 0, 0, 0, 0, 0], [3, 0, 0, 1, 0, 0, 0, 0, -1]]
theorem kV : cloV kF [1] = [5] := by kernel_rfl
theorem kR : cloR kF [] = [2] := by kernel_rfl
theorem kT : cloT kF = kF := by kernel_rfl
theorem kO : typM kF = true := by kernel_rfl
theorem kV0 : cloV [] [] = [] := by kernel_rfl
theorem kR0 : cloR [] [] = [] := by kernel_rfl
theorem kT0 : cloT [] = [] := by kernel_rfl
theorem kO0 : typM [] = false := by kernel_rfl
theorem kTak (A : Option Addr) (c : Nat) : takT [5] [⟨A, c, kB⟩] [2] [[0, 0, 0, 0, -1]] kF = some kM := by kernel_rfl
theorem k5 : Five [[0, 0, 0, 0, -1]] := by intro x hx; simp at hx; subst hx; rfl
theorem k50 : Five [] := fun x hx => by cases hx
theorem kTak0 : takT [5] [] [2] [] kF = none := by kernel_rfl
theorem tds_nil (H : Heap) : Tds H (.slice none ([] : List Td).length 0) [] := ⟨sl_nil H, (fun b hb => by cases hb), by simp⟩
theorem sl_nil0 {α : Type} {enc : α → List Value} {n : Nat} (H : Heap) : SlT H enc n (.slice none ([] : List α).length 0) [] := sl_nil H

theorem awake12_ok (H : Heap) : Ret Try.prog 36 [] H (fun v H' => v = .bool true ∧ Ext H H') := by
  refine Ret.of_at (N := 104) Try.call36 Try.func36 rfl rfl rfl ?_
  have hE := Ext.refl H
  refine At.region rfl rfl ?_
  refine Reg.pur rfl rfl rfl rfl (Pur.asg rfl) ?_
  refine Reg.nil ?_
  refine At.region rfl rfl ?_
  refine Reg.pur rfl rfl rfl rfl (Pur.bld (cs := [_, _, _, _, _, _, _, _, _]) pl47 zc47 rfl rfl ⟨rfl, rfl, rfl, rfl, rfl, rfl, rfl, rfl, rfl, rfl⟩) ?_
  refine Reg.pur rfl rfl rfl rfl (Pur.bld (cs := [_, _, _, _, _, _, _, _, _]) pl47 zc47 rfl rfl ⟨rfl, rfl, rfl, rfl, rfl, rfl, rfl, rfl, rfl, rfl⟩) ?_
  refine Reg.pur rfl rfl rfl rfl (Pur.bld (cs := [_, _, _, _, _]) pl28 zc28 rfl rfl ⟨rfl, rfl, rfl, rfl, rfl, rfl⟩) ?_
  refine Reg.pur rfl rfl rfl rfl (Pur.bld (cs := [_, _, _, _, _, _, _, _, _]) pl47 zc47 rfl rfl ⟨rfl, rfl, rfl, rfl, rfl, rfl, rfl, rfl, rfl, rfl⟩) ?_
  refine Reg.op rfl rfl rfl rfl (Does.bslA ([[_, _, _, _, _, _, _, _, _], [_, _, _, _, _, _, _, _, _], [_, _, _, _, _, _, _, _, _]]) slA23 rfl rfl rfl rfl rfl rfl) ?_
  rintro _ H1_4 ⟨rfl, hp1_4⟩
  have hn1_4 := New.of_eq hp1_4
  have z1_4 := hn1_4.size
  replace hE := hE.ext hn1_4.ext
  have o1_4 := hn1_4.own
  have hS1 : SlT H1_4 Is 9 (.slice (some ⟨H.size, 0, none⟩) 3 3) kF := sl_new (L := kF) (wide9 (nine_lit rfl)) (by decide) hn1_4 (by decide)
  have hE1 := Ext.refl H1_4
  have z_hE1 := hE1.lt
  refine Reg.pur rfl rfl rfl rfl (Pur.bld (cs := [_]) pl25 zc25 rfl rfl ⟨rfl, rfl⟩) ?_
  refine Reg.op rfl rfl rfl rfl (Does.alloc zc25) ?_
  rintro _ H1_6 ⟨rfl, hn1_6⟩
  have z1_6 := hn1_6.size
  replace hE := hE.ext hn1_6.ext
  replace o1_4 := o1_4.ext hn1_6.ext
  replace hE1 := hE1.ext hn1_6.ext
  have o1_6 := hn1_6.own
  refine Reg.op0 rfl rfl rfl (Does.stn ag25 rfl rfl (by first | rfl | exact ones_Is _) (by first | rfl | (simp [*]; done)) o1_6 (by first | decide | (simp; done) | (simp; omega) | omega)) ?_
  rintro _ H1_7 hu1_7
  have z1_7 := hu1_7.size
  replace hE := hE.upw hu1_7 (by omega)
  replace o1_4 := o1_4.upw hu1_7 (by omega)
  replace hE1 := hE1.upw hu1_7 (by omega)
  replace o1_6 := hu1_7.own
  first | rw [over (by first | rfl | (simp; done))] at o1_6 | skip
  refine Reg.nil ?_
  refine At.region rfl rfl ?_
  refine Reg.lod rfl rfl rfl rfl (Lod.ldn ag25 rfl o1_6.blk (by first | exact whole rfl | rfl | (simp only [List.drop_succ_cons, List.drop_zero, List.take_succ_cons, List.take_zero]; rfl)) (by first | rfl | (simp [*]; done))) ?_
  refine Reg.op rfl rfl rfl rfl (Does.bsl1T sl1_54 Try.underlying54 rfl rfl rfl rfl rfl) ?_
  rintro _ H2_1 ⟨rfl, hp2_1⟩
  have hn2_1 := New.of_eq hp2_1
  have z2_1 := hn2_1.size
  replace hE := hE.ext hn2_1.ext
  replace o1_4 := o1_4.ext hn2_1.ext
  replace hE1 := hE1.ext hn2_1.ext
  replace o1_6 := o1_6.ext hn2_1.ext
  have o2_1 := hn2_1.own
  have hS2 : SlT H2_1 e1 1 (.slice (some ⟨H1_7.size, 0, none⟩) 1 1) [1] := sl_new (L := [1]) (wide1 _) (by decide) hn2_1 (by decide)
  refine Reg.op rfl rfl rfl rfl (Does.call rfl (close_ok (L := kF) (ks := [1]) (ms := []) (nine_lit rfl) (hS1.ext hE1) (by decide) hS2 (by decide) (sl_nil0 _) (by decide))) ?_
  rintro v2_2 H2_2 ⟨hE2_2, A1, c1, A2, c2, A3, c3, rfl, hs2_2⟩
  have z2_2 := hE2_2.lt
  replace hE := hE.ext hE2_2
  replace o1_4 := o1_4.ext hE2_2
  replace hE1 := hE1.ext hE2_2
  replace o1_6 := o1_6.ext hE2_2
  replace o2_1 := o2_1.ext hE2_2
  rw [kV, kR, kT] at hs2_2
  rw [kV, kR, kT, kO]
  have hE2 := Ext.refl H2_2
  have z_hE2 := hE2.lt
  refine Reg.pur rfl rfl rfl rfl (Pur.mv rfl) ?_
  refine Reg.pur rfl rfl rfl rfl (Pur.ext rfl rfl) ?_
  refine Reg.pur rfl rfl rfl rfl (Pur.ext rfl rfl) ?_
  refine Reg.op rfl rfl rfl rfl (Does.alloc zc56) ?_
  rintro _ H2_6 ⟨rfl, hn2_6⟩
  have z2_6 := hn2_6.size
  replace hE := hE.ext hn2_6.ext
  replace o1_4 := o1_4.ext hn2_6.ext
  replace hE1 := hE1.ext hn2_6.ext
  replace o1_6 := o1_6.ext hn2_6.ext
  replace o2_1 := o2_1.ext hn2_6.ext
  replace hE2 := hE2.ext hn2_6.ext
  have o2_6 := hn2_6.own
  refine Reg.op0 rfl rfl rfl (Does.stn ag56 rfl rfl (by first | rfl | exact ones_Is _) (by first | rfl | (simp [*]; done)) o2_6 (by first | decide | (simp; done) | (simp; omega) | omega)) ?_
  rintro _ H2_7 hu2_7
  have z2_7 := hu2_7.size
  replace hE := hE.upw hu2_7 (by omega)
  replace o1_4 := o1_4.upw hu2_7 (by omega)
  replace hE1 := hE1.upw hu2_7 (by omega)
  replace o1_6 := o1_6.upw hu2_7 (by omega)
  replace o2_1 := o2_1.upw hu2_7 (by omega)
  replace hE2 := hE2.upw hu2_7 (by omega)
  replace o2_6 := hu2_7.own
  first | rw [over (by first | rfl | (simp; done))] at o2_6 | skip
  refine Reg.pur rfl rfl rfl rfl (Pur.asg rfl) ?_
  refine Reg.nil ?_
  refine At.region rfl rfl ?_
  refine Reg.lod rfl rfl rfl rfl (Lod.ldn ag56 rfl o2_6.blk (by first | exact whole rfl | rfl | (simp only [List.drop_succ_cons, List.drop_zero, List.take_succ_cons, List.take_zero]; rfl)) (by first | rfl | (simp [*]; done))) ?_
  refine Reg.pur rfl rfl rfl rfl (Pur.bld (cs := [_, _, _, _, _, _, _, _, _]) pl47 zc47 rfl rfl ⟨rfl, rfl, rfl, rfl, rfl, rfl, rfl, rfl, rfl, rfl⟩) ?_
  refine Reg.op rfl rfl rfl rfl (Does.bslA ([[_, _, _, _, _, _, _, _, _]]) slA23 rfl rfl rfl rfl rfl rfl) ?_
  rintro _ H3_2 ⟨rfl, hp3_2⟩
  have hn3_2 := New.of_eq hp3_2
  have z3_2 := hn3_2.size
  replace hE := hE.ext hn3_2.ext
  replace o1_4 := o1_4.ext hn3_2.ext
  replace hE1 := hE1.ext hn3_2.ext
  replace o1_6 := o1_6.ext hn3_2.ext
  replace o2_1 := o2_1.ext hn3_2.ext
  replace hE2 := hE2.ext hn3_2.ext
  replace o2_6 := o2_6.ext hn3_2.ext
  have o3_2 := hn3_2.own
  have hS3 : SlT H3_2 Is 9 (.slice (some ⟨H2_7.size, 0, none⟩) 1 1) kB := sl_new (L := kB) (wide9 (nine_lit rfl)) (by decide) hn3_2 (by decide)
  have hE3 := Ext.refl H3_2
  have z_hE3 := hE3.lt
  refine Reg.pur rfl rfl rfl rfl (Pur.bld (cs := [_]) pl25 zc25 rfl rfl ⟨rfl, rfl⟩) ?_
  refine Reg.op rfl rfl rfl rfl (Does.bslA ([[_]]) slA57 rfl rfl rfl rfl rfl rfl) ?_
  rintro _ H3_4 ⟨rfl, hp3_4⟩
  have hn3_4 := New.of_eq hp3_4
  have z3_4 := hn3_4.size
  replace hE := hE.ext hn3_4.ext
  replace o1_4 := o1_4.ext hn3_4.ext
  replace hE1 := hE1.ext hn3_4.ext
  replace o1_6 := o1_6.ext hn3_4.ext
  replace o2_1 := o2_1.ext hn3_4.ext
  replace hE2 := hE2.ext hn3_4.ext
  replace o2_6 := o2_6.ext hn3_4.ext
  replace o3_2 := o3_2.ext hn3_4.ext
  replace hE3 := hE3.ext hn3_4.ext
  have o3_4 := hn3_4.own
  have hT3 : Tds H3_4 (.slice (some ⟨H3_2.size, 0, none⟩) 1 1) [⟨some ⟨H2_7.size, 0, none⟩, 1, kB⟩] := ⟨sl_new (L := [(⟨some ⟨H2_7.size, 0, none⟩, 1, kB⟩ : Td)]) (wideT _) (by decide) hn3_4 (Nat.le_of_ble_eq_true rfl), all_one ⟨hS3.ext hE3, nine_lit rfl, by simp⟩, Nat.le_of_ble_eq_true rfl⟩
  have hE4 := Ext.refl H3_4
  have z_hE4 := hE4.lt
  refine Reg.pur rfl rfl rfl rfl (Pur.bld (cs := [_, _, _, _, _]) pl28 zc28 rfl rfl ⟨rfl, rfl, rfl, rfl, rfl, rfl⟩) ?_
  refine Reg.op rfl rfl rfl rfl (Does.bslA ([[_, _, _, _, _]]) slA58 rfl rfl rfl rfl rfl rfl) ?_
  rintro _ H3_6 ⟨rfl, hp3_6⟩
  have hn3_6 := New.of_eq hp3_6
  have z3_6 := hn3_6.size
  replace hE := hE.ext hn3_6.ext
  replace o1_4 := o1_4.ext hn3_6.ext
  replace hE1 := hE1.ext hn3_6.ext
  replace o1_6 := o1_6.ext hn3_6.ext
  replace o2_1 := o2_1.ext hn3_6.ext
  replace hE2 := hE2.ext hn3_6.ext
  replace o2_6 := o2_6.ext hn3_6.ext
  replace o3_2 := o3_2.ext hn3_6.ext
  replace hE3 := hE3.ext hn3_6.ext
  replace o3_4 := o3_4.ext hn3_6.ext
  replace hE4 := hE4.ext hn3_6.ext
  have o3_6 := hn3_6.own
  have hR3 : SlT H3_6 Is 5 (.slice (some ⟨H3_4.size, 0, none⟩) 1 1) [[0, 0, 0, 0, -1]] := sl_new (L := [[0, 0, 0, 0, -1]]) (wide5 k5) (by decide) hn3_6 (by decide)
  refine Reg.op rfl rfl rfl rfl (Does.call rfl (take_ok (vs := [5]) (us := [2]) (L := kF) (ts := [⟨some ⟨H2_7.size, 0, none⟩, 1, kB⟩]) (rs := [[0, 0, 0, 0, -1]]) (hs2_2.r.ext hE2) ⟨by decide, by decide⟩ (by decide) (hT3.ext hE4) hR3 k5 (by decide))) ?_
  rintro v3_7 H3_7 ⟨hE3_7, hTv3_7⟩
  have z3_7 := hE3_7.lt
  replace hE := hE.ext hE3_7
  replace o1_4 := o1_4.ext hE3_7
  replace hE1 := hE1.ext hE3_7
  replace o1_6 := o1_6.ext hE3_7
  replace o2_1 := o2_1.ext hE3_7
  replace hE2 := hE2.ext hE3_7
  replace o2_6 := o2_6.ext hE3_7
  replace o3_2 := o3_2.ext hE3_7
  replace hE3 := hE3.ext hE3_7
  replace o3_4 := o3_4.ext hE3_7
  replace hE4 := hE4.ext hE3_7
  replace o3_6 := o3_6.ext hE3_7
  rw [kTak] at hTv3_7
  obtain ⟨A7, cap7, rfl, ho7, _, _⟩ := hTv3_7
  have z_ho7 := ho7.lt
  refine Reg.pur rfl rfl rfl rfl (Pur.mv rfl) ?_
  refine Reg.pur rfl rfl rfl rfl (Pur.ext rfl rfl) ?_
  refine Reg.pur rfl rfl rfl rfl (Pur.ext rfl rfl) ?_
  refine Reg.op rfl rfl rfl rfl (Does.alloc zc25) ?_
  rintro _ H3_11 ⟨rfl, hn3_11⟩
  have z3_11 := hn3_11.size
  replace hE := hE.ext hn3_11.ext
  replace o1_4 := o1_4.ext hn3_11.ext
  replace hE1 := hE1.ext hn3_11.ext
  replace o1_6 := o1_6.ext hn3_11.ext
  replace o2_1 := o2_1.ext hn3_11.ext
  replace hE2 := hE2.ext hn3_11.ext
  replace o2_6 := o2_6.ext hn3_11.ext
  replace o3_2 := o3_2.ext hn3_11.ext
  replace hE3 := hE3.ext hn3_11.ext
  replace o3_4 := o3_4.ext hn3_11.ext
  replace hE4 := hE4.ext hn3_11.ext
  replace o3_6 := o3_6.ext hn3_11.ext
  replace ho7 := ho7.ext hn3_11.ext
  have o3_11 := hn3_11.own
  refine Reg.op0 rfl rfl rfl (Does.stn ag25 rfl rfl (by first | rfl | exact ones_Is _) (by first | rfl | (simp [*]; done)) o3_11 (by first | decide | (simp; done) | (simp; omega) | omega)) ?_
  rintro _ H3_12 hu3_12
  have z3_12 := hu3_12.size
  replace hE := hE.upw hu3_12 (by omega)
  replace o1_4 := o1_4.upw hu3_12 (by omega)
  replace hE1 := hE1.upw hu3_12 (by omega)
  replace o1_6 := o1_6.upw hu3_12 (by omega)
  replace o2_1 := o2_1.upw hu3_12 (by omega)
  replace hE2 := hE2.upw hu3_12 (by omega)
  replace o2_6 := o2_6.upw hu3_12 (by omega)
  replace o3_2 := o3_2.upw hu3_12 (by omega)
  replace hE3 := hE3.upw hu3_12 (by omega)
  replace o3_4 := o3_4.upw hu3_12 (by omega)
  replace hE4 := hE4.upw hu3_12 (by omega)
  replace o3_6 := o3_6.upw hu3_12 (by omega)
  replace ho7 := ho7.upw hu3_12 (by omega)
  replace o3_11 := hu3_12.own
  first | rw [over (by first | rfl | (simp; done))] at o3_11 | skip
  refine Reg.pur rfl rfl rfl rfl (Pur.asg rfl) ?_
  refine Reg.nil ?_
  refine At.region rfl rfl ?_
  refine Reg.lod rfl rfl rfl rfl (Lod.ldn ag56 rfl o2_6.blk (by first | exact whole rfl | rfl | (simp only [List.drop_succ_cons, List.drop_zero, List.take_succ_cons, List.take_zero]; rfl)) (by first | rfl | (simp [*]; done))) ?_
  refine Reg.op rfl rfl rfl rfl (Does.call rfl (take_ok (vs := [5]) (us := [2]) (L := kF) (ts := []) (rs := []) (hs2_2.r.ext hE2) ⟨by decide, by decide⟩ (by decide) (tds_nil _) (sl_nil0 _) k50 (by decide))) ?_
  rintro v4_1 H4_1 ⟨hE4_1, hTv4_1⟩
  have z4_1 := hE4_1.lt
  replace hE := hE.ext hE4_1
  replace o1_4 := o1_4.ext hE4_1
  replace hE1 := hE1.ext hE4_1
  replace o1_6 := o1_6.ext hE4_1
  replace o2_1 := o2_1.ext hE4_1
  replace hE2 := hE2.ext hE4_1
  replace o2_6 := o2_6.ext hE4_1
  replace o3_2 := o3_2.ext hE4_1
  replace hE3 := hE3.ext hE4_1
  replace o3_4 := o3_4.ext hE4_1
  replace hE4 := hE4.ext hE4_1
  replace o3_6 := o3_6.ext hE4_1
  replace ho7 := ho7.ext hE4_1
  replace o3_11 := o3_11.ext hE4_1
  rw [kTak0] at hTv4_1
  obtain ⟨A8, cap8, rfl, _, _, _⟩ := hTv4_1
  refine Reg.pur rfl rfl rfl rfl (Pur.mv rfl) ?_
  refine Reg.pur rfl rfl rfl rfl (Pur.ext rfl rfl) ?_
  refine Reg.pur rfl rfl rfl rfl (Pur.ext rfl rfl) ?_
  refine Reg.op rfl rfl rfl rfl (Does.alloc zc25) ?_
  rintro _ H4_5 ⟨rfl, hn4_5⟩
  have z4_5 := hn4_5.size
  replace hE := hE.ext hn4_5.ext
  replace o1_4 := o1_4.ext hn4_5.ext
  replace hE1 := hE1.ext hn4_5.ext
  replace o1_6 := o1_6.ext hn4_5.ext
  replace o2_1 := o2_1.ext hn4_5.ext
  replace hE2 := hE2.ext hn4_5.ext
  replace o2_6 := o2_6.ext hn4_5.ext
  replace o3_2 := o3_2.ext hn4_5.ext
  replace hE3 := hE3.ext hn4_5.ext
  replace o3_4 := o3_4.ext hn4_5.ext
  replace hE4 := hE4.ext hn4_5.ext
  replace o3_6 := o3_6.ext hn4_5.ext
  replace ho7 := ho7.ext hn4_5.ext
  replace o3_11 := o3_11.ext hn4_5.ext
  have o4_5 := hn4_5.own
  refine Reg.op0 rfl rfl rfl (Does.stn ag25 rfl rfl (by first | rfl | exact ones_Is _) (by first | rfl | (simp [*]; done)) o4_5 (by first | decide | (simp; done) | (simp; omega) | omega)) ?_
  rintro _ H4_6 hu4_6
  have z4_6 := hu4_6.size
  replace hE := hE.upw hu4_6 (by omega)
  replace o1_4 := o1_4.upw hu4_6 (by omega)
  replace hE1 := hE1.upw hu4_6 (by omega)
  replace o1_6 := o1_6.upw hu4_6 (by omega)
  replace o2_1 := o2_1.upw hu4_6 (by omega)
  replace hE2 := hE2.upw hu4_6 (by omega)
  replace o2_6 := o2_6.upw hu4_6 (by omega)
  replace o3_2 := o3_2.upw hu4_6 (by omega)
  replace hE3 := hE3.upw hu4_6 (by omega)
  replace o3_4 := o3_4.upw hu4_6 (by omega)
  replace hE4 := hE4.upw hu4_6 (by omega)
  replace o3_6 := o3_6.upw hu4_6 (by omega)
  replace ho7 := ho7.upw hu4_6 (by omega)
  replace o3_11 := o3_11.upw hu4_6 (by omega)
  replace o4_5 := hu4_6.own
  first | rw [over (by first | rfl | (simp; done))] at o4_5 | skip
  refine Reg.pur rfl rfl rfl rfl (Pur.asg rfl) ?_
  refine Reg.nil ?_
  refine At.region rfl rfl ?_
  refine Reg.pur rfl rfl rfl rfl (Pur.bld (cs := [_]) pl25 zc25 rfl rfl ⟨rfl, rfl⟩) ?_
  refine Reg.op rfl rfl rfl rfl (Does.call rfl (close_ok (A := none) (L := []) (ks := []) (ms := []) (nine_lit rfl) (sl_nil _) (by decide) (sl_nil0 _) (by decide) (sl_nil0 _) (by decide))) ?_
  rintro v5_1 H5_1 ⟨hE5_1, B1, d1, B2, d2, B3, d3, rfl, hs5_1⟩
  have z5_1 := hE5_1.lt
  replace hE := hE.ext hE5_1
  replace o1_4 := o1_4.ext hE5_1
  replace hE1 := hE1.ext hE5_1
  replace o1_6 := o1_6.ext hE5_1
  replace o2_1 := o2_1.ext hE5_1
  replace hE2 := hE2.ext hE5_1
  replace o2_6 := o2_6.ext hE5_1
  replace o3_2 := o3_2.ext hE5_1
  replace hE3 := hE3.ext hE5_1
  replace o3_4 := o3_4.ext hE5_1
  replace hE4 := hE4.ext hE5_1
  replace o3_6 := o3_6.ext hE5_1
  replace ho7 := ho7.ext hE5_1
  replace o3_11 := o3_11.ext hE5_1
  replace o4_5 := o4_5.ext hE5_1
  rw [kV0, kR0, kT0, kO0]
  refine Reg.pur rfl rfl rfl rfl (Pur.mv rfl) ?_
  refine Reg.pur rfl rfl rfl rfl (Pur.ext rfl rfl) ?_
  refine Reg.pur rfl rfl rfl rfl (Pur.ext rfl rfl) ?_
  refine Reg.op rfl rfl rfl rfl (Does.alloc zc56) ?_
  rintro _ H5_5 ⟨rfl, hn5_5⟩
  have z5_5 := hn5_5.size
  replace hE := hE.ext hn5_5.ext
  replace o1_4 := o1_4.ext hn5_5.ext
  replace hE1 := hE1.ext hn5_5.ext
  replace o1_6 := o1_6.ext hn5_5.ext
  replace o2_1 := o2_1.ext hn5_5.ext
  replace hE2 := hE2.ext hn5_5.ext
  replace o2_6 := o2_6.ext hn5_5.ext
  replace o3_2 := o3_2.ext hn5_5.ext
  replace hE3 := hE3.ext hn5_5.ext
  replace o3_4 := o3_4.ext hn5_5.ext
  replace hE4 := hE4.ext hn5_5.ext
  replace o3_6 := o3_6.ext hn5_5.ext
  replace ho7 := ho7.ext hn5_5.ext
  replace o3_11 := o3_11.ext hn5_5.ext
  replace o4_5 := o4_5.ext hn5_5.ext
  have o5_5 := hn5_5.own
  refine Reg.op0 rfl rfl rfl (Does.stn ag56 rfl rfl (by first | rfl | exact ones_Is _) (by first | rfl | (simp [*]; done)) o5_5 (by first | decide | (simp; done) | (simp; omega) | omega)) ?_
  rintro _ H5_6 hu5_6
  have z5_6 := hu5_6.size
  replace hE := hE.upw hu5_6 (by omega)
  replace o1_4 := o1_4.upw hu5_6 (by omega)
  replace hE1 := hE1.upw hu5_6 (by omega)
  replace o1_6 := o1_6.upw hu5_6 (by omega)
  replace o2_1 := o2_1.upw hu5_6 (by omega)
  replace hE2 := hE2.upw hu5_6 (by omega)
  replace o2_6 := o2_6.upw hu5_6 (by omega)
  replace o3_2 := o3_2.upw hu5_6 (by omega)
  replace hE3 := hE3.upw hu5_6 (by omega)
  replace o3_4 := o3_4.upw hu5_6 (by omega)
  replace hE4 := hE4.upw hu5_6 (by omega)
  replace o3_6 := o3_6.upw hu5_6 (by omega)
  replace ho7 := ho7.upw hu5_6 (by omega)
  replace o3_11 := o3_11.upw hu5_6 (by omega)
  replace o4_5 := o4_5.upw hu5_6 (by omega)
  replace o5_5 := hu5_6.own
  first | rw [over (by first | rfl | (simp; done))] at o5_5 | skip
  refine Reg.pur rfl rfl rfl rfl (Pur.asg rfl) ?_
  refine Reg.nil ?_
  refine At.region rfl rfl ?_
  refine Reg.pur rfl rfl rfl rfl (Pur.fld _ fo56_0 rfl) ?_
  refine Reg.lod rfl rfl rfl rfl (Lod.ld sc54 rfl o2_6.blk (by first | rfl | (simp; done))) ?_
  refine Reg.op rfl rfl rfl rfl (Does.bsl1T sl1_54 Try.underlying54 rfl rfl rfl rfl rfl) ?_
  rintro _ H6_2 ⟨rfl, hp6_2⟩
  have hn6_2 := New.of_eq hp6_2
  have z6_2 := hn6_2.size
  replace hE := hE.ext hn6_2.ext
  replace o1_4 := o1_4.ext hn6_2.ext
  replace hE1 := hE1.ext hn6_2.ext
  replace o1_6 := o1_6.ext hn6_2.ext
  replace o2_1 := o2_1.ext hn6_2.ext
  replace hE2 := hE2.ext hn6_2.ext
  replace o2_6 := o2_6.ext hn6_2.ext
  replace o3_2 := o3_2.ext hn6_2.ext
  replace hE3 := hE3.ext hn6_2.ext
  replace o3_4 := o3_4.ext hn6_2.ext
  replace hE4 := hE4.ext hn6_2.ext
  replace o3_6 := o3_6.ext hn6_2.ext
  replace ho7 := ho7.ext hn6_2.ext
  replace o3_11 := o3_11.ext hn6_2.ext
  replace o4_5 := o4_5.ext hn6_2.ext
  replace o5_5 := o5_5.ext hn6_2.ext
  have o6_2 := hn6_2.own
  have hS6 : SlT H6_2 e1 1 (.slice (some ⟨H5_6.size, 0, none⟩) 1 1) [5] := sl_new (L := [5]) (wide1 _) (by decide) hn6_2 (by decide)
  refine Reg.op rfl rfl rfl rfl (Does.call rfl (sameI_ok [5] [5] (hs2_2.r.ext hE2).s1 hS6 (by decide))) ?_
  rintro _ H6_2 ⟨rfl, rfl⟩
  refine Reg.pur rfl rfl rfl rfl (Pur.mv rfl) ?_
  refine Reg.known (b' := true) 47 rfl (by rfl) ?_
  refine Reg.gpur rfl rfl rfl rfl rfl rfl (Pur.fld _ fo56_1 rfl) ?_
  refine Reg.glod rfl rfl rfl rfl rfl rfl (Lod.ld sc54 rfl o2_6.blk (by first | rfl | (simp; done))) ?_
  refine Reg.gop rfl rfl rfl rfl rfl rfl (Does.bsl1T sl1_54 Try.underlying54 rfl rfl rfl rfl rfl) ?_
  rintro _ H6_7 ⟨rfl, hp6_7⟩
  have hn6_7 := New.of_eq hp6_7
  have z6_7 := hn6_7.size
  replace hE := hE.ext hn6_7.ext
  replace o1_4 := o1_4.ext hn6_7.ext
  replace hE1 := hE1.ext hn6_7.ext
  replace o1_6 := o1_6.ext hn6_7.ext
  replace o2_1 := o2_1.ext hn6_7.ext
  replace hE2 := hE2.ext hn6_7.ext
  replace o2_6 := o2_6.ext hn6_7.ext
  replace o3_2 := o3_2.ext hn6_7.ext
  replace hE3 := hE3.ext hn6_7.ext
  replace o3_4 := o3_4.ext hn6_7.ext
  replace hE4 := hE4.ext hn6_7.ext
  replace o3_6 := o3_6.ext hn6_7.ext
  replace ho7 := ho7.ext hn6_7.ext
  replace o3_11 := o3_11.ext hn6_7.ext
  replace o4_5 := o4_5.ext hn6_7.ext
  replace o5_5 := o5_5.ext hn6_7.ext
  replace o6_2 := o6_2.ext hn6_7.ext
  have o6_7 := hn6_7.own
  have hS7 : SlT H6_7 e1 1 (.slice (some ⟨H6_2.size, 0, none⟩) 1 1) [2] := sl_new (L := [2]) (wide1 _) (by decide) hn6_7 (by decide)
  refine Reg.gop rfl rfl rfl rfl rfl rfl (Does.call rfl (sameI_ok [2] [2] (hs2_2.r.ext hE2).s2 hS7 (by decide))) ?_
  rintro _ H6_7 ⟨rfl, rfl⟩
  refine Reg.pur rfl rfl rfl rfl (Pur.pickT rfl rfl) ?_
  refine Reg.pur rfl rfl rfl rfl (Pur.mv rfl) ?_
  refine Reg.known (b' := true) 53 rfl (by rfl) ?_
  refine Reg.gpur rfl rfl rfl rfl rfl rfl (Pur.mv rfl) ?_
  refine Reg.gop rfl rfl rfl rfl rfl rfl (Does.call rfl (numE_ok _ _)) ?_
  rintro _ H6_7 ⟨rfl, rfl⟩
  refine Reg.gpur rfl rfl rfl rfl rfl rfl (Pur.eql rfl rfl) ?_
  refine Reg.pur rfl rfl rfl rfl (Pur.pickT rfl rfl) ?_
  refine Reg.pur rfl rfl rfl rfl (Pur.mv rfl) ?_
  refine Reg.known (b' := true) 58 rfl (by rfl) ?_
  refine Reg.gpur rfl rfl rfl rfl rfl rfl (Pur.fld _ fo25_0 rfl) ?_
  refine Reg.glod rfl rfl rfl rfl rfl rfl (Lod.ld sc23 rfl o3_11.blk (by first | rfl | (simp; done))) ?_
  refine Reg.gpur rfl rfl rfl rfl rfl rfl (Pur.lenS isl23 rfl) ?_
  refine Reg.gpur rfl rfl rfl rfl rfl rfl (Pur.eql rfl rfl) ?_
  refine Reg.pur rfl rfl rfl rfl (Pur.pickT rfl rfl) ?_
  refine Reg.pur rfl rfl rfl rfl (Pur.mv rfl) ?_
  refine Reg.known (b' := true) 64 rfl (by rfl) ?_
  refine Reg.gpur rfl rfl rfl rfl rfl rfl (Pur.fld _ fo25_0 rfl) ?_
  refine Reg.glod rfl rfl rfl rfl rfl rfl (Lod.ld sc23 rfl o3_11.blk (by first | rfl | (simp; done))) ?_
  obtain ⟨g7, c7, rfl, hg7, hc7, _⟩ := ho7.blk (by decide)
  refine Reg.gpur rfl rfl rfl rfl rfl rfl (Pur.idx _ es23 rfl rfl (by decide) (by decide)) ?_
  refine Reg.gpur rfl rfl rfl rfl rfl rfl (Pur.fld _ fo47_0 rfl) ?_
  refine Reg.glod rfl rfl rfl rfl rfl rfl (Lod.ld sc3 rfl hg7.blk (tk_at hc7 rfl)) ?_
  refine Reg.gpur rfl rfl rfl rfl rfl rfl (Pur.eql rfl rfl) ?_
  refine Reg.pur rfl rfl rfl rfl (Pur.pickT rfl rfl) ?_
  refine Reg.pur rfl rfl rfl rfl (Pur.mv rfl) ?_
  refine Reg.known (b' := true) 72 rfl (by rfl) ?_
  refine Reg.gpur rfl rfl rfl rfl rfl rfl (Pur.fld _ fo25_0 rfl) ?_
  refine Reg.glod rfl rfl rfl rfl rfl rfl (Lod.ld sc23 rfl o3_11.blk (by first | rfl | (simp; done))) ?_
  refine Reg.gpur rfl rfl rfl rfl rfl rfl (Pur.idx _ es23 rfl rfl (by decide) (by decide)) ?_
  refine Reg.gpur rfl rfl rfl rfl rfl rfl (Pur.fld _ fo47_1 rfl) ?_
  refine Reg.glod rfl rfl rfl rfl rfl rfl (Lod.ld sc3 rfl hg7.blk (tk_at hc7 rfl)) ?_
  refine Reg.gpur rfl rfl rfl rfl rfl rfl (Pur.eql rfl rfl) ?_
  refine Reg.pur rfl rfl rfl rfl (Pur.pickT rfl rfl) ?_
  refine Reg.pur rfl rfl rfl rfl (Pur.mv rfl) ?_
  refine Reg.known (b' := true) 80 rfl (by rfl) ?_
  refine Reg.gpur rfl rfl rfl rfl rfl rfl (Pur.fld _ fo25_0 rfl) ?_
  refine Reg.glod rfl rfl rfl rfl rfl rfl (Lod.ld sc23 rfl o3_11.blk (by first | rfl | (simp; done))) ?_
  refine Reg.gpur rfl rfl rfl rfl rfl rfl (Pur.idx _ es23 rfl rfl (by decide) (by decide)) ?_
  refine Reg.gpur rfl rfl rfl rfl rfl rfl (Pur.fld _ fo47_4 rfl) ?_
  refine Reg.gpur rfl rfl rfl rfl rfl rfl (Pur.fld _ fo28_1 rfl) ?_
  refine Reg.glod rfl rfl rfl rfl rfl rfl (Lod.ld sc3 rfl hg7.blk (tk_at hc7 rfl)) ?_
  refine Reg.gpur rfl rfl rfl rfl rfl rfl (Pur.eql rfl rfl) ?_
  refine Reg.pur rfl rfl rfl rfl (Pur.pickT rfl rfl) ?_
  refine Reg.pur rfl rfl rfl rfl (Pur.mv rfl) ?_
  refine Reg.known (b' := true) 89 rfl (by rfl) ?_
  refine Reg.gpur rfl rfl rfl rfl rfl rfl (Pur.mv rfl) ?_
  refine Reg.gop rfl rfl rfl rfl rfl rfl (Does.call rfl (numE_ok _ _)) ?_
  rintro _ H6_7 ⟨rfl, rfl⟩
  refine Reg.gpur rfl rfl rfl rfl rfl rfl (Pur.eql rfl rfl) ?_
  refine Reg.pur rfl rfl rfl rfl (Pur.pickT rfl rfl) ?_
  refine Reg.pur rfl rfl rfl rfl (Pur.mv rfl) ?_
  refine Reg.known (b' := true) 94 rfl (by rfl) ?_
  refine Reg.gpur rfl rfl rfl rfl rfl rfl (Pur.mv rfl) ?_
  refine Reg.gop rfl rfl rfl rfl rfl rfl (Does.call rfl (numE_ok _ _)) ?_
  rintro _ H6_7 ⟨rfl, rfl⟩
  refine Reg.gpur rfl rfl rfl rfl rfl rfl (Pur.eql rfl rfl) ?_
  refine Reg.pur rfl rfl rfl rfl (Pur.pickT rfl rfl) ?_
  refine Reg.pur rfl rfl rfl rfl (Pur.mv rfl) ?_
  refine Reg.known (b' := true) 99 rfl (by rfl) ?_
  refine Reg.gpur rfl rfl rfl rfl rfl rfl (Pur.mv rfl) ?_
  refine Reg.gop rfl rfl rfl rfl rfl rfl (Does.call rfl (numE_ok _ _)) ?_
  rintro _ H6_7 ⟨rfl, rfl⟩
  refine Reg.gpur rfl rfl rfl rfl rfl rfl (Pur.eql rfl rfl) ?_
  refine Reg.pur rfl rfl rfl rfl (Pur.pickT rfl rfl) ?_
  refine Reg.pur rfl rfl rfl rfl (Pur.asg rfl) ?_
  refine Reg.nil ?_
  refine At.ret rfl Try.func36 rfl ?_
  exact ⟨rfl, hE⟩
end Go.Proofs.Ytlfillhffpiffaa

namespace Go.Proofs.Ytlfillhffpiffaa
set_option linter.unusedSimpArgs false
set_option linter.unusedVariables false
set_option maxRecDepth 8000
set_option maxHeartbeats 2000000
open Go Go.Fx Go.Proofs
namespace FactsSchP
theorem ag25 : ag Try.prog 25 = some 1 := by kernel_rfl
theorem ag56 : ag Try.prog 56 = some 3 := by kernel_rfl
theorem fo56_0 : foff Try.prog 56 0 = some 0 := by kernel_rfl
theorem fo56_1 : foff Try.prog 56 1 = some 1 := by kernel_rfl
theorem fo56_2 : foff Try.prog 56 2 = some 2 := by kernel_rfl
theorem mixed : Try.prog.follows .mixedOrders = true := by kernel_rfl
theorem pl56 : places Try.prog 56 = some [(0, 1), (1, 1), (2, 1)] := by kernel_rfl
theorem sc54 : sc Try.prog 54 = true := by kernel_rfl
theorem zc25 : zc Try.prog 25 = some [.slice none 0 0] := by kernel_rfl
theorem zc56 : zc Try.prog 56 = some [.slice none 0 0, .slice none 0 0, .slice none 0 0] := by kernel_rfl
end FactsSchP
open FactsSchP

theorem clo_len (T : List (List Int)) (ks ms : List Int) (h : T.length ≤ 9223372036854775807) : (cloV T ks).length ≤ 9223372036854775807 ∧ (cloR T ms).length ≤ 9223372036854775807 ∧ (cloT T).length ≤ 9223372036854775807 := by
  unfold cloV cloR cloT
  cases hM : typM T with
  | false => simp
  | true =>
    have h1 := vars_256 hM
    have h2 : (wo (varsS T ([], [])).1 ks).length ≤ (varsS T ([], [])).1.length := List.length_filter_le _ _
    have h3 : (wo (varsS T ([], [])).2 ms).length ≤ (varsS T ([], [])).2.length := List.length_filter_le _ _
    simp only [if_true]
    omega
end Go.Proofs.Ytlfillhffpiffaa

namespace Go.Proofs.Ytlfillhffpiffaa
set_option linter.unusedSimpArgs false
set_option linter.unusedVariables false
set_option maxRecDepth 8000
set_option maxHeartbeats 1000000
open Go Go.Fx Go.Proofs
namespace FactsSchQ
theorem ag25 : ag Try.prog 25 = some 1 := by kernel_rfl
theorem ag56 : ag Try.prog 56 = some 3 := by kernel_rfl
theorem apt54 : appT Try.prog 54 = some (3, 1, 8) := by kernel_rfl
theorem es54 : esz Try.prog 54 = some 1 := by kernel_rfl
theorem fo25_0 : foff Try.prog 25 0 = some 0 := by kernel_rfl
theorem fo56_0 : foff Try.prog 56 0 = some 0 := by kernel_rfl
theorem fo56_1 : foff Try.prog 56 1 = some 1 := by kernel_rfl
theorem fo56_2 : foff Try.prog 56 2 = some 2 := by kernel_rfl
theorem isl23 : isSl Try.prog 23 = true := by kernel_rfl
theorem isl54 : isSl Try.prog 54 = true := by kernel_rfl
theorem mixed : Try.prog.follows .mixedOrders = true := by kernel_rfl
theorem sc23 : sc Try.prog 23 = true := by kernel_rfl
theorem sc3 : sc Try.prog 3 = true := by kernel_rfl
theorem sc54 : sc Try.prog 54 = true := by kernel_rfl
theorem sl1_54 : sl1 Try.prog 54 = true := by kernel_rfl
theorem zc56 : zc Try.prog 56 = some [.slice none 0 0, .slice none 0 0, .slice none 0 0] := by kernel_rfl
end FactsSchQ
open FactsSchQ

end Go.Proofs.Ytlfillhffpiffaa

namespace Go.Proofs.Ytlfillhffpiffaa
set_option linter.unusedSimpArgs false
set_option linter.unusedVariables false
set_option maxRecDepth 8000
set_option maxHeartbeats 2000000
open Go Go.Fx Go.Proofs
namespace FactsSchR
theorem ag25 : ag Try.prog 25 = some 1 := by kernel_rfl
theorem ag56 : ag Try.prog 56 = some 3 := by kernel_rfl
theorem apt57 : appT Try.prog 57 = some (25, 1, 24) := by kernel_rfl
theorem es54 : esz Try.prog 54 = some 1 := by kernel_rfl
theorem es57 : esz Try.prog 57 = some 1 := by kernel_rfl
theorem fo25_0 : foff Try.prog 25 0 = some 0 := by kernel_rfl
theorem fo56_0 : foff Try.prog 56 0 = some 0 := by kernel_rfl
theorem fo56_1 : foff Try.prog 56 1 = some 1 := by kernel_rfl
theorem fo56_2 : foff Try.prog 56 2 = some 2 := by kernel_rfl
theorem isl23 : isSl Try.prog 23 = true := by kernel_rfl
theorem pl25 : places Try.prog 25 = some [(0, 1)] := by kernel_rfl
theorem pl28 : places Try.prog 28 = some [(0, 4), (4, 1)] := by kernel_rfl
theorem pl47 : places Try.prog 47 = some [(0, 1), (1, 1), (2, 1), (3, 1), (4, 5)] := by kernel_rfl
theorem pl56 : places Try.prog 56 = some [(0, 1), (1, 1), (2, 1)] := by kernel_rfl
theorem sc23 : sc Try.prog 23 = true := by kernel_rfl
theorem sc3 : sc Try.prog 3 = true := by kernel_rfl
theorem sc54 : sc Try.prog 54 = true := by kernel_rfl
theorem sl1_54 : sl1 Try.prog 54 = true := by kernel_rfl
theorem slA23 : slA Try.prog 23 = some (47, 9) := by kernel_rfl
theorem slA57 : slA Try.prog 57 = some (25, 1) := by kernel_rfl
theorem slA58 : slA Try.prog 58 = some (28, 5) := by kernel_rfl
theorem zc25 : zc Try.prog 25 = some [.slice none 0 0] := by kernel_rfl
theorem zc28 : zc Try.prog 28 = some [.int .i64 0, .int .i64 0, .int .i64 0, .int .i64 0, .int .i64 0] := by kernel_rfl
theorem zc47 : zc Try.prog 47 = some [.int .i64 0, .int .i64 0, .int .i64 0, .int .i64 0, .int .i64 0, .int .i64 0, .int .i64 0, .int .i64 0, .int .i64 0] := by kernel_rfl
theorem zc56 : zc Try.prog 56 = some [.slice none 0 0, .slice none 0 0, .slice none 0 0] := by kernel_rfl
end FactsSchR
open FactsSchR

theorem five1 {r : List Int} (h : r.length = 5) : Five [r] := by intro x hx; simp at hx; subst hx; exact h
end Go.Proofs.Ytlfillhffpiffaa

namespace Go.Proofs.Ytlfillhffpiffaa
set_option linter.unusedSimpArgs false
set_option linter.unusedVariables false
set_option maxRecDepth 8000
open Go Go.Fx Go.Proofs
namespace FactsSubQ
theorem ag25 : ag Try.prog 25 = some 1 := by kernel_rfl
theorem ag28 : ag Try.prog 28 = some 5 := by kernel_rfl
theorem eqt28 : eqT Try.prog 28 = some [.int .i64, .int .i64, .int .i64, .int .i64, .int .i64] := by kernel_rfl
theorem mixed : Try.prog.follows .mixedOrders = true := by kernel_rfl
theorem zc25 : zc Try.prog 25 = some [.slice none 0 0] := by kernel_rfl
theorem zc28 : zc Try.prog 28 = some [.int .i64 0, .int .i64 0, .int .i64 0, .int .i64 0, .int .i64 0] := by kernel_rfl
end FactsSubQ
open FactsSubQ

theorem type_of_fits {H : Heap} {v : Value} (h : fitc H (.sl 72 (List.replicate 9 (.int .i64))) v) : ∃ (A : Option Addr) (cap : Nat) (L : List (List Int)), v = .slice A L.length cap ∧ Nine L ∧ SlT H Is 9 (.slice A L.length cap) L ∧ L.length * 72 ≤ 140737488351232 := by
  obtain ⟨L, hL, hS, hb⟩ := SlT.of_fits (p := fun x : List Int => x.length = 9) (enc := Is) h (fun cs h => by obtain ⟨xs, rfl, hl, _⟩ := fit_ints h; exact ⟨xs, hl, rfl⟩)
  have hS' := hS
  obtain ⟨A, cap, rfl, _⟩ := hS'
  exact ⟨A, cap, L, rfl, hL, hS, by rw [show reachBytes = 140737488351232 from rfl] at hb; omega⟩
end Go.Proofs.Ytlfillhffpiffaa

namespace Go.Proofs.Ytlfillhffpiffaa
set_option linter.unusedSimpArgs false
set_option linter.unusedVariables false
set_option maxRecDepth 8000
set_option maxHeartbeats 1000000
open Go Go.Fx Go.Proofs
namespace FactsSchS
theorem ag25 : ag Try.prog 25 = some 1 := by kernel_rfl
theorem ag28 : ag Try.prog 28 = some 5 := by kernel_rfl
theorem ag47 : ag Try.prog 47 = some 9 := by kernel_rfl
theorem apt23 : appT Try.prog 23 = some (47, 9, 72) := by kernel_rfl
theorem es23 : esz Try.prog 23 = some 9 := by kernel_rfl
theorem fo25_0 : foff Try.prog 25 0 = some 0 := by kernel_rfl
theorem fo47_0 : foff Try.prog 47 0 = some 0 := by kernel_rfl
theorem fo47_2 : foff Try.prog 47 2 = some 2 := by kernel_rfl
theorem fo47_3 : foff Try.prog 47 3 = some 3 := by kernel_rfl
theorem isl23 : isSl Try.prog 23 = true := by kernel_rfl
theorem pl25 : places Try.prog 25 = some [(0, 1)] := by kernel_rfl
theorem pl47 : places Try.prog 47 = some [(0, 1), (1, 1), (2, 1), (3, 1), (4, 5)] := by kernel_rfl
theorem sc23 : sc Try.prog 23 = true := by kernel_rfl
theorem sc3 : sc Try.prog 3 = true := by kernel_rfl
theorem slA23 : slA Try.prog 23 = some (47, 9) := by kernel_rfl
theorem zc25 : zc Try.prog 25 = some [.slice none 0 0] := by kernel_rfl
theorem zc47 : zc Try.prog 47 = some [.int .i64 0, .int .i64 0, .int .i64 0, .int .i64 0, .int .i64 0, .int .i64 0, .int .i64 0, .int .i64 0, .int .i64 0] := by kernel_rfl
end FactsSchS
open FactsSchS

end Go.Proofs.Ytlfillhffpiffaa

namespace Go.Proofs.Ytlfillhffpiffaa
set_option linter.unusedSimpArgs false
set_option linter.unusedVariables false
set_option maxRecDepth 8000
set_option maxHeartbeats 1000000
open Go Go.Fx Go.Proofs
namespace FactsSchT
theorem ag25 : ag Try.prog 25 = some 1 := by kernel_rfl
theorem ag28 : ag Try.prog 28 = some 5 := by kernel_rfl
theorem ag56 : ag Try.prog 56 = some 3 := by kernel_rfl
theorem fo25_0 : foff Try.prog 25 0 = some 0 := by kernel_rfl
theorem isl23 : isSl Try.prog 23 = true := by kernel_rfl
theorem mixed : Try.prog.follows .mixedOrders = true := by kernel_rfl
theorem pl25 : places Try.prog 25 = some [(0, 1)] := by kernel_rfl
theorem pl28 : places Try.prog 28 = some [(0, 4), (4, 1)] := by kernel_rfl
theorem pl47 : places Try.prog 47 = some [(0, 1), (1, 1), (2, 1), (3, 1), (4, 5)] := by kernel_rfl
theorem sc23 : sc Try.prog 23 = true := by kernel_rfl
theorem slA23 : slA Try.prog 23 = some (47, 9) := by kernel_rfl
theorem slA57 : slA Try.prog 57 = some (25, 1) := by kernel_rfl
theorem slA58 : slA Try.prog 58 = some (28, 5) := by kernel_rfl
theorem zc25 : zc Try.prog 25 = some [.slice none 0 0] := by kernel_rfl
theorem zc28 : zc Try.prog 28 = some [.int .i64 0, .int .i64 0, .int .i64 0, .int .i64 0, .int .i64 0] := by kernel_rfl
theorem zc47 : zc Try.prog 47 = some [.int .i64 0, .int .i64 0, .int .i64 0, .int .i64 0, .int .i64 0, .int .i64 0, .int .i64 0, .int .i64 0, .int .i64 0] := by kernel_rfl
theorem zc56 : zc Try.prog 56 = some [.slice none 0 0, .slice none 0 0, .slice none 0 0] := by kernel_rfl
end FactsSchT
open FactsSchT

theorem goS_cons (Bs : List Bd) (x : List Int) (xs out : List (List Int)) (ends : List Int) : goS Bs (x :: xs) out ends = match moreS Bs out ends x with
    | none => none
    | some m => if 256 < out.length + m.length then none else goS Bs xs (out ++ m) (ends ++ [((out.length + m.length : Nat) : Int) - 1]) := rfl
end Go.Proofs.Ytlfillhffpiffaa

namespace Go.Proofs.Ytlfillhffpiffaa
set_option linter.unusedSimpArgs false
set_option linter.unusedVariables false
set_option maxRecDepth 8000
open Go Go.Fx Go.Proofs

inductive Tm where
  | bas (k : Bool)
  | var (v : Int)
  | fn (a : Tm) (r : List Int) (b : Tm)
deriving DecidableEq
def Tm.sz : Tm → Nat
  | .bas _ => 1
  | .var _ => 1
  | .fn a _ b => a.sz + b.sz + 1
theorem Tm.sz_pos : ∀ t : Tm, 1 ≤ t.sz
  | .bas _ => Nat.le_refl 1
  | .var _ => Nat.le_refl 1
  | .fn a _ b => by simp only [Tm.sz]; omega
def Tm.ok : Tm → Prop
  | .bas _ => True
  | .var v => 0 ≤ v ∧ v < 4096
  | .fn a r b => a.ok ∧ r.length = 5 ∧ rowM r = true ∧ b.ok
abbrev bNode (k : Bool) : List Int := [if k then 1 else 0, 0, 0, 0, 0, 0, 0, 0, 0]
abbrev vNode (v : Int) : List Int := [2, v, 0, 0, 0, 0, 0, 0, 0]
abbrev fNode (a b : Int) (r : List Int) : List Int := [3, 0, a, b] ++ r
def Tm.enc (k : Int) : Tm → List (List Int)
  | .bas b => [bNode b]
  | .var v => [vNode v]
  | .fn a r b => a.enc k ++ b.enc (k + a.sz) ++ [fNode (k + a.sz - 1) (k + a.sz + b.sz - 1) r]
theorem Tm.enc_len : ∀ (t : Tm) (k : Int), (t.enc k).length = t.sz
  | .bas _, _ => rfl
  | .var _, _ => rfl
  | .fn a r b, k => by simp only [Tm.enc, List.length_append, Tm.enc_len a, Tm.enc_len b, Tm.sz, List.length_singleton]
theorem Tm.enc_nine : ∀ (t : Tm) (k : Int), t.ok → Nine (t.enc k)
  | .bas _, _, _ => nine1 rfl
  | .var _, _, _ => nine1 rfl
  | .fn a r b, k, h => nine_app (nine_app (a.enc_nine k h.1) (b.enc_nine _ h.2.2.2)) (nine1 (by simp [h.2.1]))
theorem mov_fn {j a b : Int} {r : List Int} (h1 : -9223372036854775808 ≤ a + j ∧ a + j ≤ 9223372036854775807) (h2 : -9223372036854775808 ≤ b + j ∧ b + j ≤ 9223372036854775807) : movS j (fNode a b r) = fNode (a + j) (b + j) r := by
  unfold movS
  rw [if_pos (by rfl)]
  show [3, 0, IntKind.i64.wrap (a + j), IntKind.i64.wrap (b + j)] ++ r = _
  rw [wrap_in h1, wrap_in h2]
theorem Tm.enc_mov : ∀ (t : Tm) (k j : Int), -1000000 ≤ k → -1000000 ≤ k + j → k ≤ 1000000 → k + j ≤ 1000000 → k + t.sz ≤ 1000000 → k + j + t.sz ≤ 1000000 → (t.enc k).map (movS j) = t.enc (k + j)
  | .bas b, _, _, _, _, _, _, _, _ => by cases b <;> rfl
  | .var _, _, _, _, _, _, _, _, _ => rfl
  | .fn a r b, k, j, h1, h2, h3, h4, h5, h6 => by
    have ha := a.sz_pos
    have hb := b.sz_pos
    simp only [Tm.sz, Int.natCast_add] at h5 h6
    simp only [Tm.enc, List.map_append, List.map_cons, List.map_nil]
    rw [Tm.enc_mov a k j h1 h2 h3 h4 (by omega) (by omega), Tm.enc_mov b (k + a.sz) j (by omega) (by omega) (by omega) (by omega) (by omega) (by omega), mov_fn (by omega) (by omega)]
    rw [show k + (a.sz : Int) + j = k + j + a.sz by omega, show k + (a.sz : Int) - 1 + j = k + j + a.sz - 1 by omega, show k + (a.sz : Int) + b.sz - 1 + j = k + j + a.sz + b.sz - 1 by omega]

theorem nod_fn {x : List Int} (h9 : x.length = 9) (hn : nodM x = true) (hk : x.getD 0 0 = 3) : ∃ r, r.length = 5 ∧ rowM r = true ∧ x = fNode (x.getD 2 0) (x.getD 3 0) r := by
  match x, h9 with
  | [k, v, p, q, c0, c1, c2, c3, t], _ =>
    unfold nodM at hn
    rw [if_pos hk] at hn
    simp only [Bool.and_eq_true, decide_eq_true_eq] at hn
    obtain ⟨h1, h2⟩ := hn
    change k = 3 at hk
    change v = 0 at h2
    subst hk h2
    exact ⟨[c0, c1, c2, c3, t], rfl, h1, rfl⟩
theorem nod_else {x : List Int} (hn : nodM x = true) (hk : x.getD 0 0 ≠ 3) : (∃ b, x = bNode b) ∨ ∃ v, 0 ≤ v ∧ v < 4096 ∧ x = vNode v := by
  unfold nodM at hn
  rw [if_neg hk] at hn
  split at hn
  · simp only [Bool.and_eq_true, decide_eq_true_eq] at hn
    exact .inr ⟨_, hn.1.1, hn.1.2, hn.2⟩
  · split at hn
    · rename_i h
      rw [decide_eq_true_eq] at hn
      rcases h with h | h
      · rw [h] at hn; exact .inl ⟨false, hn⟩
      · rw [h] at hn; exact .inl ⟨true, hn⟩
    · cases hn
theorem el_nat {L : List (List Int)} {n : Nat} (h : n < L.length) : el L (n : Int) = L[n] := by
  simp [el, List.getD_eq_getElem?_getD, List.getElem?_eq_getElem h]
abbrev seg (L : List (List Int)) (p z : Int) : List (List Int) := (L.drop p.toNat).take (z + 1 - p).toNat
theorem seg_app {L : List (List Int)} {p q z : Int} (h0 : 0 ≤ p) (h1 : p ≤ q) (h2 : q ≤ z + 1) : seg L p (q - 1) ++ seg L q z = seg L p z := by
  have h : (z + 1 - p).toNat = (q - 1 + 1 - p).toNat + (z + 1 - q).toNat := by omega
  unfold seg
  rw [h, List.take_add, List.drop_drop, show p.toNat + (q - 1 + 1 - p).toNat = q.toNat by omega]
theorem seg_one {L : List (List Int)} {z : Int} (h0 : 0 ≤ z) (h1 : z < L.length) : seg L z z = [el L z] := by
  obtain ⟨n, rfl⟩ := Int.eq_ofNat_of_zero_le h0
  unfold seg
  rw [show ((n : Int) + 1 - n).toNat = 1 by omega, el_nat (by omega), Int.toNat_natCast, List.drop_eq_getElem_cons (by omega)]
  rfl
theorem dec_at {L : List (List Int)} (h9 : Nine L) (hn : L.all nodM = true) : ∀ (f : Nat) (z : Int), 0 ≤ z → z < L.length → 0 ≤ bgn L f z → ∃ t : Tm, t.ok ∧ seg L (bgn L f z) z = t.enc (bgn L f z) ∧ (t.sz : Int) = z + 1 - bgn L f z
  | 0, z, _, _, h => by simp only [bgn] at h; omega
  | f + 1, z, h0, h1, h => by
    have hx : el L z ∈ L := by
      obtain ⟨n, rfl⟩ := Int.eq_ofNat_of_zero_le h0
      rw [el_nat (by omega)]; exact List.getElem_mem _
    have hx9 := h9 _ hx
    have hxn := List.all_eq_true.1 hn _ hx
    by_cases hk : (el L z).getD 0 0 = 3
    · obtain ⟨hz, hB, hb, hA, hbA⟩ := bgn_fun h hk
      have hle := bgn_le L f ((el L z).getD 3 0) (by omega)
      have hle2 := bgn_le L f ((el L z).getD 2 0) (by omega)
      have hq : bgn L (f + 1) z = bgn L f ((el L z).getD 2 0) := by
        rw [bgn_succ, if_neg (by omega), if_neg (by omega), if_neg (by omega)]
      obtain ⟨a, ha, hsa, hza⟩ := dec_at h9 hn f ((el L z).getD 2 0) (by omega) (by omega) hbA
      obtain ⟨b, hb', hsb, hzb⟩ := dec_at h9 hn f ((el L z).getD 3 0) (by omega) (by omega) (by omega)
      obtain ⟨r, hr5, hrm, hx⟩ := nod_fn hx9 hxn hk
      have e0 := seg_one h0 h1
      rw [hx] at e0
      rw [hq]
      clear h hq hxn hx9 hx hk hn h9
      generalize (el L z).getD 2 0 = A at *
      generalize (el L z).getD 3 0 = B at *
      generalize bgn L f A = p at *
      generalize bgn L f B = q at *
      subst hA hB
      refine ⟨.fn a r b, ⟨ha, hr5, hrm, hb'⟩, ?_, by simp only [Tm.sz]; omega⟩
      rw [← seg_app (L := L) (p := p) (q := z) (z := z) (by omega) (by omega) (by omega), ← seg_app (L := L) (p := p) (q := q) (z := z - 1) (by omega) (by omega) (by omega), hsa, hsb, e0]
      simp only [Tm.enc]
      rw [show p + (a.sz : Int) = q by omega, show q + (b.sz : Int) - 1 = z - 1 by omega]
    · have hq : bgn L (f + 1) z = z := by rw [bgn_succ, if_pos hk]
      rw [hq, seg_one h0 h1]
      rcases nod_else hxn hk with ⟨b, hb⟩ | ⟨v, hv1, hv2, hv⟩
      · exact ⟨.bas b, trivial, by rw [hb]; rfl, by simp only [Tm.sz]; omega⟩
      · exact ⟨.var v, ⟨hv1, hv2⟩, by rw [hv]; rfl, by simp only [Tm.sz]; omega⟩

theorem el_mid {pre post : List (List Int)} {x : List Int} : el (pre ++ x :: post) (pre.length : Int) = x := by
  simp [el, List.getD_eq_getElem?_getD]
theorem enc_bgn : ∀ (t : Tm) (f : Nat) (pre post : List (List Int)), t.sz ≤ f → bgn (pre ++ t.enc pre.length ++ post) f ((pre.length : Int) + t.sz - 1) = pre.length
  | t, 0, _, _, h => by have := t.sz_pos; omega
  | .bas b, f + 1, pre, post, h => by
    rw [bgn_succ, if_pos]
    · simp only [Tm.sz]; omega
    · rw [show (pre.length : Int) + (Tm.bas b).sz - 1 = pre.length by simp only [Tm.sz]; omega]
      simp only [Tm.enc, List.append_assoc, List.singleton_append]
      rw [el_mid]
      cases b <;> decide
  | .var v, f + 1, pre, post, h => by
    rw [bgn_succ, if_pos]
    · simp only [Tm.sz]; omega
    · rw [show (pre.length : Int) + (Tm.var v).sz - 1 = pre.length by simp only [Tm.sz]; omega]
      simp only [Tm.enc, List.append_assoc, List.singleton_append]
      rw [el_mid]
      show (2 : Int) ≠ 3
      decide
  | .fn a r b, f + 1, pre, post, h => by
    have ha := a.sz_pos
    have hb := b.sz_pos
    simp only [Tm.sz] at h ⊢
    have hp : ((pre ++ a.enc pre.length).length : Int) = (pre.length : Int) + a.sz := by rw [List.length_append, Tm.enc_len]; omega
    have hp2 : ((pre ++ a.enc pre.length ++ b.enc ((pre.length : Int) + a.sz)).length : Int) = (pre.length : Int) + a.sz + b.sz := by rw [List.length_append, List.length_append, Tm.enc_len, Tm.enc_len]; omega
    have hL1 : pre ++ (Tm.fn a r b).enc pre.length ++ post = (pre ++ a.enc pre.length ++ b.enc ((pre.length : Int) + a.sz)) ++ fNode ((pre.length : Int) + a.sz - 1) ((pre.length : Int) + a.sz + b.sz - 1) r :: post := by
      simp only [Tm.enc, List.append_assoc, List.singleton_append]
    have hL2 : pre ++ (Tm.fn a r b).enc pre.length ++ post = (pre ++ a.enc pre.length) ++ b.enc ((pre ++ a.enc pre.length).length : Int) ++ (fNode ((pre.length : Int) + a.sz - 1) ((pre.length : Int) + a.sz + b.sz - 1) r :: post) := by
      rw [hp]; simp only [Tm.enc, List.append_assoc, List.singleton_append]
    have hL3 : pre ++ (Tm.fn a r b).enc pre.length ++ post = pre ++ a.enc pre.length ++ (b.enc ((pre.length : Int) + a.sz) ++ fNode ((pre.length : Int) + a.sz - 1) ((pre.length : Int) + a.sz + b.sz - 1) r :: post) := by
      simp only [Tm.enc, List.append_assoc, List.singleton_append]
    have hel : el (pre ++ (Tm.fn a r b).enc pre.length ++ post) ((pre.length : Int) + (a.sz + b.sz + 1 : Nat) - 1) = fNode ((pre.length : Int) + a.sz - 1) ((pre.length : Int) + a.sz + b.sz - 1) r := by
      rw [hL1, show (pre.length : Int) + (a.sz + b.sz + 1 : Nat) - 1 = ((pre ++ a.enc pre.length ++ b.enc ((pre.length : Int) + a.sz)).length : Int) by rw [hp2]; omega, el_mid]
    have hb1 : bgn (pre ++ (Tm.fn a r b).enc pre.length ++ post) f ((pre.length : Int) + a.sz + b.sz - 1) = (pre.length : Int) + a.sz := by
      rw [hL2, ← hp, enc_bgn b f _ _ (by omega)]
    have hb2 : bgn (pre ++ (Tm.fn a r b).enc pre.length ++ post) f ((pre.length : Int) + a.sz - 1) = pre.length := by
      rw [hL3, enc_bgn a f _ _ (by omega)]
    have e2 : (fNode ((pre.length : Int) + a.sz - 1) ((pre.length : Int) + a.sz + b.sz - 1) r).getD 2 0 = (pre.length : Int) + a.sz - 1 := rfl
    have e3 : (fNode ((pre.length : Int) + a.sz - 1) ((pre.length : Int) + a.sz + b.sz - 1) r).getD 3 0 = (pre.length : Int) + a.sz + b.sz - 1 := rfl
    have e0 : (fNode ((pre.length : Int) + a.sz - 1) ((pre.length : Int) + a.sz + b.sz - 1) r).getD 0 0 = 3 := rfl
    rw [bgn_succ, hel, e0, e2, e3, hb1, hb2, if_neg (by decide), if_neg (by omega), if_neg (by omega)]
theorem enc_nod : ∀ (t : Tm) (k : Int), t.ok → ∀ x ∈ t.enc k, nodM x = true
  | .bas b, _, _, x, h => by rw [List.mem_singleton.1 h]; cases b <;> decide
  | .var v, _, hk, x, h => by
    rw [List.mem_singleton.1 h]
    unfold nodM
    rw [if_neg (by show ¬ (2 : Int) = 3; decide), if_pos (by rfl)]
    simp only [Bool.and_eq_true, decide_eq_true_eq]
    exact ⟨hk, rfl⟩
  | .fn a r b, k, hk, x, h => by
    simp only [Tm.enc, List.mem_append, List.mem_singleton] at h
    rcases h with (h | h) | h
    · exact enc_nod a _ hk.1 x h
    · exact enc_nod b _ hk.2.2.2 x h
    · subst h
      unfold nodM
      rw [if_pos (by rfl)]
      simp only [Bool.and_eq_true, decide_eq_true_eq]
      exact ⟨hk.2.2.1, rfl⟩
theorem enc_typ {t : Tm} (h : t.ok) (hs : t.sz ≤ 256) : typM (t.enc 0) = true := by
  have := t.sz_pos
  unfold typM
  rw [Tm.enc_len]
  simp only [Bool.and_eq_true, decide_eq_true_eq, List.all_eq_true]
  have hb := enc_bgn t t.sz [] [] (Nat.le_refl _)
  simp only [List.nil_append, List.append_nil, List.length_nil, Int.natCast_zero, Int.zero_add] at hb
  exact ⟨⟨⟨by omega, hs⟩, enc_nod t 0 h⟩, hb⟩
theorem typ_dec {L : List (List Int)} (h9 : Nine L) (h : typM L = true) : ∃ t : Tm, t.ok ∧ L = t.enc 0 ∧ t.sz ≤ 256 := by
  obtain ⟨⟨h1, h2⟩, hb⟩ := typM_bgn h
  unfold typM at h
  simp only [Bool.and_eq_true] at h
  obtain ⟨t, ht, hs, hz⟩ := dec_at h9 h.1.2 L.length ((L.length : Int) - 1) (by omega) (by omega) (by omega)
  rw [hb] at hs hz
  refine ⟨t, ht, ?_, by omega⟩
  rw [← hs]
  unfold seg
  rw [List.take_of_length_le (by simp)]
  rfl
theorem enc_parts (a : Tm) (r : List Int) (b : Tm) : el ((Tm.fn a r b).enc 0) (((Tm.fn a r b).enc 0).length - 1 : Int) = fNode ((a.sz : Int) - 1) ((a.sz : Int) + b.sz - 1) r ∧
    bgn ((Tm.fn a r b).enc 0) ((Tm.fn a r b).enc 0).length ((a.sz : Int) - 1) = 0 ∧ bgn ((Tm.fn a r b).enc 0) ((Tm.fn a r b).enc 0).length ((a.sz : Int) + b.sz - 1) = a.sz ∧
    seg ((Tm.fn a r b).enc 0) 0 ((a.sz : Int) - 1) = a.enc 0 ∧ seg ((Tm.fn a r b).enc 0) a.sz ((a.sz : Int) + b.sz - 1) = b.enc a.sz := by
  have ha := a.sz_pos
  have hb := b.sz_pos
  have hl : ((Tm.fn a r b).enc 0).length = a.sz + b.sz + 1 := Tm.enc_len _ _
  have hL : (Tm.fn a r b).enc 0 = a.enc 0 ++ b.enc a.sz ++ [fNode ((a.sz : Int) - 1) ((a.sz : Int) + b.sz - 1) r] := by simp only [Tm.enc, Int.zero_add]
  have l1 : (a.enc 0).length = a.sz := Tm.enc_len _ _
  have l2 : (b.enc a.sz).length = b.sz := Tm.enc_len _ _
  refine ⟨?_, ?_, ?_, ?_, ?_⟩
  · rw [hl, hL, show ((a.sz + b.sz + 1 : Nat) : Int) - 1 = ((a.enc 0 ++ b.enc a.sz).length : Int) by rw [List.length_append, l1, l2]; omega, el_mid]
  · have := enc_bgn a (a.sz + b.sz + 1) [] (b.enc a.sz ++ [fNode ((a.sz : Int) - 1) ((a.sz : Int) + b.sz - 1) r]) (by omega)
    rw [hl, hL, List.append_assoc]
    simpa using this
  · have := enc_bgn b (a.sz + b.sz + 1) (a.enc 0) [fNode ((a.sz : Int) - 1) ((a.sz : Int) + b.sz - 1) r] (by omega)
    rw [l1] at this
    rw [hl, hL]
    exact this
  · unfold seg
    rw [hL, List.append_assoc, show ((a.sz : Int) - 1 + 1 - 0).toNat = (a.enc 0).length by rw [l1]; omega]
    show List.take _ (_ ++ _) = _
    rw [List.take_left]
  · unfold seg
    rw [hL, List.append_assoc, show ((a.sz : Int)).toNat = (a.enc 0).length by rw [l1]; omega, List.drop_left, show ((a.sz : Int) + b.sz - 1 + 1 - a.sz).toNat = (b.enc a.sz).length by rw [l2]; omega, List.take_left]
end Go.Proofs.Ytlfillhffpiffaa

namespace Go.Fx
open Go
set_option linter.unusedSimpArgs false
set_option linter.unusedVariables false
theorem Pur.cutB {P : Program} {dst : Option Tmp} {ty : TypeId} {pos : String} {aft : Array Edge} {gd : Option (Nat × Bool)} {e : Env} {t : TypeId} {x y z : Operand} {b o : Nat} {n c s : Nat} {k k' : IntKind} {l h : Int} (hs : esz P t = some s) (hx : ev e x = some (.slice (some ⟨b, o, none⟩) n c)) (hy : ev e y = some (.int k l)) (hz : ev e z = some (.int k' h)) (h0 : 0 ≤ l) (h1 : l ≤ h) (h2 : h ≤ c) (h3 : l < c) :
    Pur P ⟨dst, .slice t x (some y) (some z) none, ty, pos, aft, gd⟩ e (.slice (some ⟨b, o + l.toNat * s, none⟩) (h.toNat - l.toNat) (c - l.toNat)) := by
  intro a w hA
  have e1 := hA.ev hx
  have e2 := hA.ev hy
  have e3 := hA.ev hz
  unfold esz at hs
  split at hs
  case h_2 => cases hs
  rename_i el hu
  simp only [Option.map_eq_some_iff] at hs
  obtain ⟨i, hi, rfl⟩ := hs
  have g1 : 0 ≤ h ∧ h ≤ (c : Int) := by omega
  have g2 : 0 ≤ l ∧ l ≤ ((h.toNat : Nat) : Int) := by omega
  have hne : c ≠ l.toNat := by omega
  simp only [execOp, e1, e2, e3, Option.map_some, Option.map_none, Instr.sliceAt, Sem.run_bind, run_underlying hu, Result.andThen_ok, Instr.slice, Instr.sliceBounds, Sem.run_pure, Instr.sliceBound, asIntOf, run_sizeOf' hi, if_pos g1, if_pos g2]
  simp [g1, g2, Addr.add, hne]
end Go.Fx
namespace Go.Proofs.Ytlfillhffpiffaa
set_option linter.unusedSimpArgs false
set_option linter.unusedVariables false
set_option maxRecDepth 8000
open Go Go.Fx Go.Proofs
namespace FactsUniC
theorem ag25 : ag Try.prog 25 = some 1 := by kernel_rfl
theorem es23 : esz Try.prog 23 = some 9 := by kernel_rfl
theorem fo25_0 : foff Try.prog 25 0 = some 0 := by kernel_rfl
theorem fo47_2 : foff Try.prog 47 2 = some 2 := by kernel_rfl
theorem fo47_3 : foff Try.prog 47 3 = some 3 := by kernel_rfl
theorem isl23 : isSl Try.prog 23 = true := by kernel_rfl
theorem mixed : Try.prog.follows .mixedOrders = true := by kernel_rfl
theorem pl25 : places Try.prog 25 = some [(0, 1)] := by kernel_rfl
theorem sc23 : sc Try.prog 23 = true := by kernel_rfl
theorem sc3 : sc Try.prog 3 = true := by kernel_rfl
theorem zc25 : zc Try.prog 25 = some [.slice none 0 0] := by kernel_rfl
end FactsUniC
open FactsUniC

def TyF (B : Nat) (H : Heap) (v : Value) (M : List (List Int)) : Prop := ∃ A cap, v = Ty A M.length cap ∧ SlT H Is 9 (.slice A M.length cap) M ∧ (M.length = 0 ∨ (B : Int) ≤ ob A)
theorem TyF.ext {B : Nat} {H H' : Heap} {v : Value} {M : List (List Int)} (h : TyF B H v M) (he : Ext H H') : TyF B H' v M := by
  obtain ⟨A, cap, h1, h2, h3⟩ := h
  exact ⟨A, cap, h1, h2.ext he, h3⟩
theorem TyF.via {B : Nat} {H H' : Heap} {S : Nat → Prop} {v : Value} {M : List (List Int)} (h : TyF B H v M) (he : But S H H') (hs : ∀ g, B ≤ g → ¬ S g) : TyF B H' v M := by
  obtain ⟨A, cap, h1, h2, h3⟩ := h
  exact ⟨A, cap, h1, h2.via he (fun h0 g hg => hs g (by omega)), h3⟩
theorem TyF.upw {B b : Nat} {H H' : Heap} {c : List Value} {v : Value} {M : List (List Int)} (h : TyF B H v M) (u : Upd H H' b c) (hb : b < B) : TyF B H' v M :=
  h.via u.but (fun g hg e => by omega)
theorem TyF.mono {B B' : Nat} {H : Heap} {v : Value} {M : List (List Int)} (h : TyF B H v M) (hb : B' ≤ B) : TyF B' H v M := by
  obtain ⟨A, cap, h1, h2, h3⟩ := h
  exact ⟨A, cap, h1, h2, by omega⟩
theorem TyF.lt {B : Nat} {H : Heap} {v : Value} {M : List (List Int)} (h : TyF B H v M) : True := trivial
theorem TyF.one {B : Nat} {H : Heap} {v : Value} {M : List (List Int)} (h : TyF B H v M) : ∃ A n c, v = .agg #[.slice A n c] := by
  obtain ⟨A, cap, h1, _⟩ := h
  exact ⟨A, _, cap, h1⟩
theorem sl_seg {H : Heap} {b o cap lo hi : Nat} {L : List (List Int)} (hS : SlT H Is 9 (.slice (some ⟨b, o, none⟩) L.length cap) L) (h1 : lo ≤ hi) (h2 : hi ≤ L.length) (h3 : lo < L.length) :
    SlT H Is 9 (.slice (some ⟨b, o + lo * 9, none⟩) (hi - lo) (cap - lo)) ((L.drop lo).take (hi - lo)) ∧ hi ≤ cap := by
  obtain ⟨A, cap', he, k1, k2, _, k4⟩ := hS
  cases he
  obtain ⟨b', o', c, hA, hB, hc⟩ := k4.resolve_left (by omega)
  cases hA
  have hl : ((L.drop lo).take (hi - lo)).length = hi - lo := by rw [List.length_take, List.length_drop]; omega
  refine ⟨⟨_, cap - lo, by rw [hl], by rw [hl]; omega, by omega, (fun h => by cases h), .inr ⟨b, o + lo * 9, c, rfl, hB, fun i hi' => ?_⟩⟩, by omega⟩
  rw [hl] at hi'
  have := hc (lo + i) (by omega)
  rw [show o + lo * 9 + i * 9 = o + (lo + i) * 9 by omega]
  refine ⟨this.1, ?_⟩
  rw [this.2]
  congr 1
  rw [List.getElem_take, List.getElem_drop]
theorem nine_seg {L : List (List Int)} (h : Nine L) (p q : Nat) : Nine ((L.drop p).take q) := fun x hx => h x (List.mem_of_mem_drop (List.mem_of_mem_take hx))
theorem part_ok {L : List (List Int)} (hL : Nine L) {A : Option Addr} {cap yb yo : Nat} {cy : List Value} (hcy : cy[yo]? = some (.slice A L.length cap)) {H : Heap} (hS : SlT H Is 9 (.slice A L.length cap) L) (hY : Blk H yb cy) (h256 : L.length ≤ 256) {z p : Int} (h0 : 0 ≤ z) (h1 : z < L.length) (hp : bgn L L.length z = p) (hp0 : 0 ≤ p) :
    Ret Try.prog 130 [ptr yb yo, I z] H (fun v H' => TyF H.size H' v ((seg L p z).map (movS (-p))) ∧ Ext H H') := by
  obtain ⟨b, o, c, rfl, _⟩ := el_cells hL hS h0 h1
  have hle := bgn_le L L.length z h0
  rw [hp] at hle
  have hsg := sl_seg (lo := p.toNat) (hi := (z + 1).toNat) hS (by omega) (by omega) (by omega)
  have hsl : ((L.drop p.toNat).take ((z + 1).toNat - p.toNat)).length = (z + 1).toNat - p.toNat := by rw [List.length_take, List.length_drop]; omega
  have hsd : seg L p z = (L.drop p.toNat).take ((z + 1).toNat - p.toNat) := by unfold seg; congr 1; omega
  have h9 := nine_seg hL p.toNat ((z + 1).toNat - p.toNat)
  rw [hsd]
  generalize (L.drop p.toNat).take ((z + 1).toNat - p.toNat) = M at hsg hsl h9
  rw [← hsl] at hsg
  refine Ret.of_at (N := 24) Try.call130 Try.func130 rfl rfl rfl ?_
  have hE := Ext.refl H
  have z_hE := hE.lt
  have z_hY := hY.lt
  refine At.region rfl rfl ?_
  refine Reg.op rfl rfl rfl rfl (Does.alloc zc25) ?_
  rintro _ H0_0 ⟨rfl, hn0_0⟩
  have z0_0 := hn0_0.size
  replace hE := hE.ext hn0_0.ext
  replace hY := hY.ext hn0_0.ext
  have o0_0 := hn0_0.own
  refine Reg.nil ?_
  refine At.region rfl rfl ?_
  refine Reg.pur rfl rfl rfl rfl (Pur.mv rfl) ?_
  refine Reg.pur rfl rfl rfl rfl (Pur.nilc rfl) ?_
  refine Reg.pur rfl rfl rfl rfl (Pur.fld _ fo25_0 rfl) ?_
  refine Reg.lod rfl rfl rfl rfl (Lod.ld sc23 rfl hY hcy) ?_
  refine Reg.pur rfl rfl rfl rfl (Pur.mv rfl) ?_
  refine Reg.op rfl rfl rfl rfl (Does.call rfl (begin_ok L hL (hS.ext hE) (by omega) L.length z h0 h1 (by omega))) ?_
  rintro _ H0_0 ⟨rfl, rfl⟩
  refine Reg.pur rfl rfl rfl rfl (Pur.asg rfl) ?_
  refine Reg.nil ?_
  refine At.region rfl rfl ?_
  rw [hp]
  refine Reg.pur rfl rfl rfl rfl (Pur.mv rfl) ?_
  refine Reg.pur rfl rfl rfl rfl (Pur.nilc rfl) ?_
  refine Reg.pur rfl rfl rfl rfl (Pur.fld _ fo25_0 rfl) ?_
  refine Reg.lod rfl rfl rfl rfl (Lod.ld sc23 rfl hY hcy) ?_
  refine Reg.pur rfl rfl rfl rfl (Pur.mv rfl) ?_
  refine Reg.pur rfl rfl rfl rfl (Pur.mv rfl) ?_
  first | refine Reg.pur rfl rfl rfl rfl (Pur.add64 rfl rfl (by omega)) ?_ | refine Reg.pur rfl rfl rfl rfl (Pur.add64 rfl rfl (by assumption)) ?_ | refine Reg.pur rfl rfl rfl rfl (Pur.add rfl rfl) ?_
  refine Reg.pur rfl rfl rfl rfl (Pur.cutB es23 rfl rfl rfl (by omega) (by omega) (by omega) (by omega)) ?_
  rw [← hsl]
  refine Reg.pur rfl rfl rfl rfl (Pur.mv rfl) ?_
  refine Reg.pur rfl rfl rfl rfl (Pur.neg64 rfl (by omega)) ?_
  refine Reg.op rfl rfl rfl rfl (Does.call rfl (moved_ok h9 (hsg.1.ext hE) (by omega) (-p))) ?_
  rintro v2_10 H2_10 ⟨⟨A', cap', rfl, hA'⟩, hS', hE2_10⟩
  have z2_10 := hE2_10.lt
  replace hE := hE.ext hE2_10
  replace hY := hY.ext hE2_10
  replace o0_0 := o0_0.ext hE2_10
  have hA2 : M.length = 0 ∨ (H0_0.size : Int) ≤ ob A' := hA'.imp id (by rintro ⟨g, hg, rfl⟩; exact Int.ofNat_le.2 hg)
  refine Reg.pur rfl rfl rfl rfl (Pur.bld (cs := [_]) pl25 zc25 rfl rfl ⟨rfl, rfl⟩) ?_
  refine Reg.op0 rfl rfl rfl (Does.stn ag25 rfl rfl (by first | rfl | exact ones_Is _) (by first | rfl | (simp [*]; done)) o0_0 (by first | decide | (simp; done) | (simp; omega) | omega)) ?_
  rintro _ H2_12 hu2_12
  have z2_12 := hu2_12.size
  replace hE := hE.upw hu2_12 (by omega)
  replace hY := hY.upw hu2_12 (by omega)
  replace o0_0 := hu2_12.own
  first | rw [over (by first | rfl | (simp; done))] at o0_0 | skip
  refine Reg.nil ?_
  refine At.retC rfl Try.func130 ⟨_, _, _, _, rfl, rfl, ⟨_, o0_0.blk, .inr ⟨_, _, ag25, (by first | exact whole rfl | exact whole (by simp [*])), (by first | rfl | simp [*]), rfl⟩⟩, rfl⟩ ?_
  refine ⟨⟨A', cap', by rw [List.length_map]; rfl, ?_, by rw [List.length_map]; omega⟩, hE⟩
  rw [List.length_map]
  exact hS'.upw hu2_12 (by omega)
theorem root_ok {L : List (List Int)} {A : Option Addr} {b o cap yb yo : Nat} {cy : List Value} (hcy : cy[yo]? = some (.slice A L.length cap)) {H : Heap} (hA : A = some ⟨b, o, none⟩) (hY : Blk H yb cy) (h256 : L.length ≤ 256) (h1 : 1 ≤ L.length) :
    Ret Try.prog 103 [ptr yb yo] H (fun v H' => v = ptr b (o + (L.length - 1) * 9) ∧ H' = H) := by
  subst hA
  refine Ret.of_at (N := 14) Try.call103 Try.func103 rfl rfl rfl ?_
  have hE := Ext.refl H

  refine At.region rfl rfl ?_
  refine Reg.pur rfl rfl rfl rfl (Pur.asg rfl) ?_
  refine Reg.nil ?_
  refine At.drawE ((Bks.cons hY.blk Bks.nil)) [] mixed rfl rfl ?_
  refine RegD.tpur (i := 0) rfl rfl rfl rfl (by kernel_rfl) (Pur.mv rfl) ?_
  refine RegD.tpur (i := 1) rfl rfl rfl rfl (by kernel_rfl) (Pur.nilc rfl) ?_
  refine RegD.tpur (i := 2) rfl rfl rfl rfl (by kernel_rfl) (Pur.fld _ fo25_0 rfl) ?_
  refine RegD.take (i := 3) rfl rfl rfl rfl (by kernel_rfl) (Bks.cons hY.blk Bks.nil) (fun H hS => Lod.ld sc23 rfl hS.hd hcy) ?_
  refine RegD.tpur (i := 4) rfl rfl rfl rfl (by kernel_rfl) (Pur.mv rfl) ?_
  refine RegD.tpur (i := 5) rfl rfl rfl rfl (by kernel_rfl) (Pur.nilc rfl) ?_
  refine RegD.tpur (i := 6) rfl rfl rfl rfl (by kernel_rfl) (Pur.fld _ fo25_0 rfl) ?_
  refine RegD.take (i := 7) rfl rfl rfl rfl (by kernel_rfl) (Bks.cons hY.blk Bks.nil) (fun H hS => Lod.ld sc23 rfl hS.hd hcy) ?_
  refine RegD.tpur (i := 8) rfl rfl rfl rfl (by kernel_rfl) (Pur.lenS isl23 rfl) ?_
  first | refine RegD.tpur (i := 9) rfl rfl rfl rfl (by kernel_rfl) (Pur.sub64 rfl rfl (by omega)) ?_ | refine RegD.tpur (i := 9) rfl rfl rfl rfl (by kernel_rfl) (Pur.sub64 rfl rfl (by assumption)) ?_ | refine RegD.tpur (i := 9) rfl rfl rfl rfl (by kernel_rfl) (Pur.sub rfl rfl) ?_
  refine RegD.tpur (i := 10) rfl rfl rfl rfl (by kernel_rfl) (Pur.idx _ es23 rfl rfl (by omega) (by omega)) ?_
  refine RegD.tpur (i := 11) rfl rfl rfl rfl (by kernel_rfl) (Pur.asg rfl) ?_
  refine RegD.done (by kernel_rfl) ?_
  refine At.ret rfl Try.func103 rfl ?_
  refine ⟨?_, rfl⟩
  rw [show ((L.length : Int) - 1).toNat = L.length - 1 by omega]
theorem sides_ok {a b : Tm} {r : List Int} (hok : (Tm.fn a r b).ok) (hsz : (Tm.fn a r b).sz ≤ 256) {A : Option Addr} {cap yb yo : Nat} {cy : List Value} (hcy : cy[yo]? = some (.slice A ((Tm.fn a r b).enc 0).length cap)) {H : Heap} (hS : SlT H Is 9 (.slice A ((Tm.fn a r b).enc 0).length cap) ((Tm.fn a r b).enc 0)) (hY : Blk H yb cy) :
    Ret Try.prog 105 [ptr yb yo] H (fun v H' => (∃ v1 v2, v = .tuple #[v1, v2] ∧ TyF H.size H' v1 (a.enc 0) ∧ TyF H.size H' v2 (b.enc 0)) ∧ Ext H H') := by
  have hL := (Tm.fn a r b).enc_nine 0 hok
  have hlen : ((Tm.fn a r b).enc 0).length = a.sz + b.sz + 1 := Tm.enc_len _ _
  have haz := a.sz_pos
  have hbz := b.sz_pos
  simp only [Tm.sz] at hsz
  obtain ⟨e1, e2, e3, e4, e5⟩ := enc_parts a r b
  have ha' := Tm.enc_mov a 0 (-0) (by omega) (by omega) (by omega) (by omega) (by omega) (by omega)
  have hb' := Tm.enc_mov b a.sz (-a.sz) (by omega) (by omega) (by omega) (by omega) (by omega) (by omega)
  rw [show (a.sz : Int) + -a.sz = 0 by omega] at hb'
  obtain ⟨b0, o0, c0, rfl, hB, hd, hx9, hat⟩ := el_cells hL hS (z := (((Tm.fn a r b).enc 0).length : Int) - 1) (by omega) (by omega)
  rw [e1] at hat
  rw [show ((((Tm.fn a r b).enc 0).length : Int) - 1).toNat = ((Tm.fn a r b).enc 0).length - 1 by omega] at hat
  generalize hLg : (Tm.fn a r b).enc 0 = L at *
  refine Ret.of_at (N := 19) Try.call105 Try.func105 rfl rfl rfl ?_
  have hE := Ext.refl H
  have z_hE := hE.lt
  have z_hY := hY.lt
  have z_hB := hB.lt
  refine At.region rfl rfl ?_
  refine Reg.op rfl rfl rfl rfl (Does.alloc zc25) ?_
  rintro _ H0_0 ⟨rfl, hn0_0⟩
  have z0_0 := hn0_0.size
  replace hE := hE.ext hn0_0.ext
  replace hY := hY.ext hn0_0.ext
  replace hB := hB.ext hn0_0.ext
  have o0_0 := hn0_0.own
  refine Reg.op rfl rfl rfl rfl (Does.alloc zc25) ?_
  rintro _ H0_1 ⟨rfl, hn0_1⟩
  have z0_1 := hn0_1.size
  replace hE := hE.ext hn0_1.ext
  replace hY := hY.ext hn0_1.ext
  replace hB := hB.ext hn0_1.ext
  replace o0_0 := o0_0.ext hn0_1.ext
  have o0_1 := hn0_1.own
  refine Reg.nil ?_
  refine At.region rfl rfl ?_
  refine Reg.pur rfl rfl rfl rfl (Pur.mv rfl) ?_
  refine Reg.op rfl rfl rfl rfl (Does.call rfl (root_ok hcy rfl hY (by omega) (by omega))) ?_
  rintro _ H0_1 ⟨rfl, rfl⟩
  refine Reg.pur rfl rfl rfl rfl (Pur.asg rfl) ?_
  refine Reg.nil ?_
  refine At.drawE ((Bks.cons hB.blk (Bks.cons hY.blk Bks.nil))) [13] mixed rfl rfl ?_
  refine RegD.tpur (i := 0) rfl rfl rfl rfl (by kernel_rfl) (Pur.mv rfl) ?_
  refine RegD.tpur (i := 1) rfl rfl rfl rfl (by kernel_rfl) (Pur.mv rfl) ?_
  refine RegD.tpur (i := 2) rfl rfl rfl rfl (by kernel_rfl) (Pur.nilc rfl) ?_
  refine RegD.tpur (i := 3) rfl rfl rfl rfl (by kernel_rfl) (Pur.fld _ fo47_2 rfl) ?_
  refine RegD.take (i := 4) rfl rfl rfl rfl (by kernel_rfl) (Bks.cons hB.blk (Bks.cons hY.blk Bks.nil)) (fun H hS => Lod.ld sc3 rfl hS.hd (hat 2 (by omega))) ?_
  refine RegD.tpur (i := 6) rfl rfl rfl rfl (by kernel_rfl) (Pur.mv rfl) ?_
  refine RegD.tpur (i := 7) rfl rfl rfl rfl (by kernel_rfl) (Pur.mv rfl) ?_
  refine RegD.tpur (i := 8) rfl rfl rfl rfl (by kernel_rfl) (Pur.nilc rfl) ?_
  refine RegD.tpur (i := 9) rfl rfl rfl rfl (by kernel_rfl) (Pur.fld _ fo47_3 rfl) ?_
  refine RegD.take (i := 10) rfl rfl rfl rfl (by kernel_rfl) (Bks.cons hB.blk (Bks.cons hY.blk Bks.nil)) (fun H hS => Lod.ld sc3 rfl hS.hd (hat 3 (by omega))) ?_
  refine RegD.one (i := 5) (by kernel_rfl) rfl rfl rfl rfl (Does.call rfl (part_ok hL hcy (hS.ext hE) hY (by omega) (z := (a.sz : Int) - 1) (p := 0) (by omega) (by omega) e2 (by omega))) ?_
  rintro v1 H2_5 ⟨hT1, hE2_5⟩
  have z2_5 := hE2_5.lt
  replace hE := hE.ext hE2_5
  replace hY := hY.ext hE2_5
  replace hB := hB.ext hE2_5
  replace o0_0 := o0_0.ext hE2_5
  replace o0_1 := o0_1.ext hE2_5
  rw [e4, ha'] at hT1
  have z_hT1 := hT1.lt
  obtain ⟨B1, n1, k1, rfl⟩ := hT1.one
  refine ⟨fun _ _ => (Bks.cons hB.blk (Bks.cons hY.blk Bks.nil)), ?_⟩
  refine RegD.one (i := 11) (by kernel_rfl) rfl rfl rfl rfl (Does.call rfl (part_ok hL hcy (hS.ext hE) hY (by omega) (z := (a.sz : Int) + b.sz - 1) (p := a.sz) (by omega) (by omega) e3 (by omega))) ?_
  rintro v2 H2_11 ⟨hT2, hE2_11⟩
  have z2_11 := hE2_11.lt
  replace hE := hE.ext hE2_11
  replace hY := hY.ext hE2_11
  replace hB := hB.ext hE2_11
  replace o0_0 := o0_0.ext hE2_11
  replace o0_1 := o0_1.ext hE2_11
  replace hT1 := hT1.ext hE2_11
  rw [e5, hb'] at hT2
  have z_hT2 := hT2.lt
  obtain ⟨B2, n2, k2, rfl⟩ := hT2.one
  refine ⟨fun _ _ => (Bks.cons hB.blk (Bks.cons hY.blk Bks.nil)), ?_⟩
  refine RegD.one0 (i := 12) (by kernel_rfl) rfl rfl rfl (Does.stn ag25 rfl rfl (by first | rfl | exact ones_Is _) (by first | rfl | (simp [*]; done)) o0_0 (by first | decide | (simp; done) | (simp; omega) | omega)) ?_
  rintro _ H2_12 hu2_12
  have z2_12 := hu2_12.size
  replace hE := hE.upw hu2_12 (by omega)
  replace hY := hY.upw hu2_12 (by omega)
  replace hB := hB.upw hu2_12 (by omega)
  replace o0_1 := o0_1.upw hu2_12 (by omega)
  replace hT1 := hT1.upw hu2_12 (by omega)
  replace hT2 := hT2.upw hu2_12 (by omega)
  replace o0_0 := hu2_12.own
  first | rw [over (by first | rfl | (simp; done))] at o0_0 | skip
  refine ⟨fun _ _ => (Bks.cons hB.blk (Bks.cons hY.blk Bks.nil)), ?_⟩
  refine RegD.one0 (i := 13) (by kernel_rfl) rfl rfl rfl (Does.stn ag25 rfl rfl (by first | rfl | exact ones_Is _) (by first | rfl | (simp [*]; done)) o0_1 (by first | decide | (simp; done) | (simp; omega) | omega)) ?_
  rintro _ H2_13 hu2_13
  have z2_13 := hu2_13.size
  replace hE := hE.upw hu2_13 (by omega)
  replace hY := hY.upw hu2_13 (by omega)
  replace hB := hB.upw hu2_13 (by omega)
  replace o0_0 := o0_0.upw hu2_13 (by omega)
  replace hT1 := hT1.upw hu2_13 (by omega)
  replace hT2 := hT2.upw hu2_13 (by omega)
  replace o0_1 := hu2_13.own
  first | rw [over (by first | rfl | (simp; done))] at o0_1 | skip
  refine ⟨fun h => (by cases h), ?_⟩
  refine RegD.done (by kernel_rfl) ?_
  refine At.retC rfl Try.func105 ⟨_, _, _, _, rfl, rfl, ⟨_, o0_0.blk, .inr ⟨_, _, ag25, (by first | exact whole rfl | exact whole (by simp [*])), (by first | rfl | simp [*]), rfl⟩⟩, ⟨_, _, _, _, rfl, rfl, ⟨_, o0_1.blk, .inr ⟨_, _, ag25, (by first | exact whole rfl | exact whole (by simp [*])), (by first | rfl | simp [*]), rfl⟩⟩, rfl⟩⟩ ?_
  exact ⟨⟨_, _, rfl, hT1.mono (by omega), hT2.mono (by omega)⟩, hE⟩
end Go.Proofs.Ytlfillhffpiffaa

namespace Go.Proofs.Ytlfillhffpiffaa
set_option linter.unusedSimpArgs false
set_option linter.unusedVariables false
set_option maxRecDepth 8000
open Go Go.Fx Go.Proofs

def lkE (k : Int) : List MapEntry → Option Value
  | [] => none
  | e :: es => match e.key with
    | .int .i64 a => if k = a then some e.val else lkE k es
    | _ => none
def AllI (es : List MapEntry) : Prop := ∀ e ∈ es, ∃ a, e.key = I a
theorem lk_cons {k a : Int} {v : Value} {n : Nat} {es : List MapEntry} : lkE k (⟨I a, v, n⟩ :: es) = if k = a then some v else lkE k es := rfl
theorem mfind_ok (k : Int) : ∀ (es : List MapEntry) (i : Nat), AllI es → (lkE k es = none ∧ Instr.findNow (.int .i64) (I k) es i = some none) ∨
    ∃ j v, lkE k es = some v ∧ Instr.findNow (.int .i64) (I k) es i = some (some (i + j, v)) ∧ (es[j]?).map (·.key) = some (I k) ∧ ∀ w, AllI (es.modify j fun e => { e with key := I k, val := w }) ∧ ∀ k', lkE k' (es.modify j fun e => { e with key := I k, val := w }) = if k' = k then some w else lkE k' es
  | [], i, _ => .inl ⟨rfl, rfl⟩
  | ⟨ky, v, n⟩ :: es, i, h => by
    obtain ⟨a, ha⟩ := h _ List.mem_cons_self
    dsimp only at ha
    subst ha
    have hr : AllI es := fun e he => h e (List.mem_cons_of_mem _ he)
    by_cases hk : k = a
    · subst hk
      refine .inr ⟨0, v, by rw [lk_cons, if_pos rfl], by simp [Instr.findNow, Instr.sameNow], rfl, fun w => ⟨?_, fun k' => ?_⟩⟩
      · intro e he
        simp only [List.modify_zero_cons, List.mem_cons] at he
        rcases he with rfl | he
        · exact ⟨k, rfl⟩
        · exact hr e he
      · simp only [List.modify_zero_cons]
        rw [lk_cons, lk_cons]
        by_cases h' : k' = k <;> simp [h']
    · have hne : Instr.findNow (.int .i64) (I k) (⟨I a, v, n⟩ :: es) i = Instr.findNow (.int .i64) (I k) es (i + 1) := by simp [Instr.findNow, Instr.sameNow, show (k == a) = false from by simpa using hk]
      rw [lk_cons, if_neg hk, hne]
      rcases mfind_ok k es (i + 1) hr with ⟨h1, h2⟩ | ⟨j, v', h1, h2, h3, h4⟩
      · exact .inl ⟨h1, h2⟩
      · refine .inr ⟨j + 1, v', h1, by rw [h2]; congr 3; omega, by simpa using h3, fun w => ⟨?_, fun k' => ?_⟩⟩
        · intro e he
          simp only [List.modify_succ_cons, List.mem_cons] at he
          rcases he with rfl | he
          · exact ⟨a, rfl⟩
          · exact (h4 w).1 e he
        · simp only [List.modify_succ_cons]
          rw [lk_cons, lk_cons, (h4 w).2 k']
          by_cases h1 : k' = a
          · rw [if_pos h1, if_pos h1, if_neg (by omega)]
          · rw [if_neg h1, if_neg h1]
theorem lk_push {k : Int} {w : Value} {n : Nat} : ∀ {es : List MapEntry}, AllI es → lkE k es = none → ∀ k', lkE k' (es ++ [⟨I k, w, n⟩]) = if k' = k then some w else lkE k' es
  | [], _, _, k' => by rw [List.nil_append, lk_cons]
  | ⟨ky, v, m⟩ :: es, h, h0, k' => by
    obtain ⟨a, ha⟩ := h _ List.mem_cons_self
    dsimp only at ha
    subst ha
    rw [lk_cons] at h0
    rw [List.cons_append, lk_cons, lk_cons]
    have hka : k ≠ a := by intro e; rw [if_pos e] at h0; cases h0
    rw [if_neg hka] at h0
    rw [lk_push (fun e he => h e (List.mem_cons_of_mem _ he)) h0 k']
    by_cases h1 : k' = a
    · rw [if_pos h1, if_pos h1, if_neg (by omega)]
    · rw [if_neg h1, if_neg h1]
def Mp (H : Heap) (b : Nat) (f : Int → Option Value) : Prop := ∃ E c, H[b]? = some (.map E c) ∧ AllI E.toList ∧ ∀ k, lkE k E.toList = f k
theorem Mp.lt {H : Heap} {b : Nat} {f : Int → Option Value} (h : Mp H b f) : b < H.size := by
  obtain ⟨E, c, h, _⟩ := h
  rcases Nat.lt_or_ge b H.size with h' | h'
  · exact h'
  · simp [Array.getElem?_eq_none h'] at h
theorem Mp.via {H H' : Heap} {S : Nat → Prop} {b : Nat} {f : Int → Option Value} (h : Mp H b f) (he : But S H H') (hb : ¬ S b) : Mp H' b f := by
  have hl := h.lt
  obtain ⟨E, c, h, k⟩ := h
  exact ⟨E, c, by rw [he.2 b hl hb]; exact h, k⟩
theorem Mp.ext {H H' : Heap} {b : Nat} {f : Int → Option Value} (h : Mp H b f) (he : Ext H H') : Mp H' b f := h.via (S := fun _ => False) he.but id
theorem Mp.upw {H H' : Heap} {b b' : Nat} {c : List Value} {f : Int → Option Value} (h : Mp H b f) (u : Upd H H' b' c) (hb : b ≠ b') : Mp H' b f := h.via u.but hb
theorem Mp.ne {H : Heap} {b b' : Nat} {c : List Value} {f : Int → Option Value} (h : Mp H b f) (k : Blk H b' c) : b' ≠ b := by
  rintro rfl
  obtain ⟨E, c, h, _⟩ := h
  obtain ⟨T, fr, k⟩ := k
  rw [h] at k; cases k
theorem sl_but {α : Type} {H H' : Heap} {enc : α → List Value} {n b1 b2 len cap : Nat} {f1 f2 : Int → Option Value} {A : Option Addr} {L : List α} (h : SlT H enc n (.slice A len cap) L) (h1 : Mp H b1 f1) (h2 : Mp H b2 f2) (he : But (fun g => g = b1 ∨ g = b2) H H') : SlT H' enc n (.slice A len cap) L := by
  obtain ⟨A', cap', e, k1, k2, k0, k3⟩ := h
  refine ⟨A', cap', e, k1, k2, k0, k3.imp id ?_⟩
  rintro ⟨b, o, c, rfl, hb, k4⟩
  exact ⟨b, o, c, rfl, hb.but he (fun hs => hs.elim (h1.ne hb) (h2.ne hb)), k4⟩
def zv (P : Program) (t : TypeId) : Option Value := (P.info? t).bind (·.zero)
section rules
variable {P : Program} {dst : Option Tmp} {ty : TypeId} {pos : String} {aft : Array Edge} {gd : Option (Nat × Bool)} {e : Env} {H : Heap}
theorem key_run {kt : TypeId} (hk : P.underlying kt = some (.int .i64)) (em : Bool) (n : Nat) (k : Int) (w : World) : (Instr.checkKey em (n + 1) kt (I k)).run P w = .ok () w := by
  unfold Instr.checkKey
  simp only [Sem.run_bind, run_underlying hk, Result.andThen_ok]
  rfl
theorem fk_run {kt : TypeId} (hk : P.underlying kt = some (.int .i64)) {k : Int} {es : List MapEntry} {r : Option (Nat × Value)} (h : Instr.findNow (.int .i64) (I k) es 0 = some r) (w : World) : (Instr.findKey kt (I k) es).run P w = .ok r w := by
  unfold Instr.findKey
  simp only [Sem.run_bind, run_underlying hk, Result.andThen_ok, h, Sem.run_pure]
theorem go_run {w : World} {r : Nat} {es : Array MapEntry} {c : Nat} (hb : w.heap[r]? = some (.map es c)) : (getObj r).run P w = .ok (.map es c) w := by
  simp [getObj, Sem.run, hb]
theorem so_run {w : World} {r : Nat} {es : Array MapEntry} {c : Nat} (o : Obj) (hb : w.heap[r]? = some (.map es c)) : (setObj r o).run P w = .ok () { w with heap := w.heap.setIfInBounds r o } := by
  simp [setObj, Sem.run, hb]
theorem Lod.mlk {mt kt et : TypeId} {x y : Operand} {b : Nat} {f : Int → Option Value} {k : Int} {z : Value} (hm : P.underlying mt = some (.map kt et)) (hk : P.underlying kt = some (.int .i64)) (hz : zv P et = some z)
    (hx : ev e x = some (.map (some b))) (hy : ev e y = some (I k)) (hM : Mp H b f) : Lod P ⟨dst, .lookup mt x y true, ty, pos, aft, gd⟩ e H (.tuple #[(f k).getD z, .bool (f k).isSome]) := by
  intro A w hw hA
  obtain ⟨E, c, h1, h2, h3⟩ := hM
  have hb : w.heap[b]? = some (.map E c) := by rw [hw]; exact h1
  have hzr : (zeroValue et).run P w = .ok z w := by
    simp only [zv, Option.bind_eq_some_iff] at hz
    obtain ⟨i, hi, hv⟩ := hz
    simp [zeroValue, typeInfo, hi, hv]
  simp only [execOp, hA.ev hx, hA.ev hy, Instr.lookup, Sem.run_bind, run_underlying hm, Result.andThen_ok, go_run hb, Sem.run_pure, key_run hk]
  rcases mfind_ok k E.toList 0 h2 with ⟨k1, k2⟩ | ⟨j, v, k1, k2, _⟩
  · rw [fk_run hk k2]
    rw [h3] at k1
    simp [hzr, k1]
  · rw [fk_run hk k2]
    rw [h3] at k1
    simp [k1]
theorem Does.mup {mt kt et : TypeId} {x y u : Operand} {b : Nat} {f : Int → Option Value} {k : Int} {v : Value} (hm : P.underlying mt = some (.map kt et)) (hk : P.underlying kt = some (.int .i64))
    (hx : ev e x = some (.map (some b))) (hy : ev e y = some (I k)) (hu : ev e u = some v) (hM : Mp H b f) :
    Does P ⟨dst, .mapUpdate mt x y u, ty, pos, aft, gd⟩ e H (fun _ H' => Mp H' b (fun j => if j = k then some v else f j) ∧ But (· = b) H H' ∧ H'.size = H.size) := by
  intro w0 n a hA K Q hK
  obtain ⟨E, c, h1, h2, h3⟩ := hM
  have hl : b < H.size := (show Mp H b f from ⟨E, c, h1, h2, h3⟩).lt
  have hb : (mk w0 H n).heap[b]? = some (.map E c) := h1
  have key : ∃ o : Obj, (∃ E' c', o = .map E' c' ∧ AllI E'.toList ∧ ∀ j, lkE j E'.toList = if j = k then some v else f j) ∧ (execOp a.eval ⟨dst, .mapUpdate mt x y u, ty, pos, aft, gd⟩).run P (mk w0 H n) = .ok .skip (mk w0 (H.setIfInBounds b o) n) := by
    simp only [execOp, hA.ev hx, hA.ev hy, hA.ev hu, Instr.mapUpdate, Sem.run_bind, run_underlying hm, Result.andThen_ok, go_run hb, key_run hk]
    rcases mfind_ok k E.toList 0 h2 with ⟨k1, k2⟩ | ⟨j, v', k1, k2, k3, k4⟩
    · rw [fk_run hk k2]
      refine ⟨.map (E.push ⟨I k, v, c⟩) (c + 1), ⟨_, _, rfl, ?_, ?_⟩, ?_⟩
      · rw [Array.toList_push]
        intro e he
        rcases List.mem_append.1 he with he | he
        · exact h2 e he
        · rw [List.mem_singleton] at he; subst he; exact ⟨k, rfl⟩
      · intro j
        rw [Array.toList_push, lk_push h2 k1 j, h3]
      · simp only [Result.andThen_ok, so_run _ hb]
        simp [mk]
    · rw [fk_run hk k2]
      refine ⟨.map (E.modify (0 + j) fun e => { e with key := I k, val := v }) c, ⟨_, _, rfl, ?_, ?_⟩, ?_⟩
      · rw [Array.toList_modify, Nat.zero_add]; exact (k4 v).1
      · intro i
        rw [Array.toList_modify, Nat.zero_add, (k4 v).2 i, h3]
      · have hky : (((E[0 + j]?).map (·.key)).getD (I k)) = I k := by
          have : (E.toList[j]?).map (·.key) = some (I k) := k3
          rw [Nat.zero_add, ← Array.getElem?_toList, this]; rfl
        have hst : (Instr.keyThatStays (I k) (I k)).run P (mk w0 H n) = .ok (I k) (mk w0 H n) := by
          unfold Instr.keyThatStays
          rw [if_pos (by simp [Instr.sameBits])]
          simp
        simp only [Result.andThen_ok, Sem.run_bind, hky, hst, so_run _ hb]
        simp [mk]
  obtain ⟨o, ⟨E', c', rfl, g1, g2⟩, hrun⟩ := key
  unfold Oper.wp
  rw [hrun]
  refine hK _ _ n ⟨⟨E', c', by simp [hl], g1, g2⟩, ⟨by simp, fun b' hb' hne => ?_⟩, by simp⟩
  rw [Array.getElem?_setIfInBounds_ne (fun h => hne h.symm)]
theorem Does.mkm {t : TypeId} : Does P ⟨dst, .makeMap t none, ty, pos, aft, gd⟩ e H (fun u H' => u = .map (some H.size) ∧ Mp H' H.size (fun _ => none) ∧ Ext H H' ∧ H'.size = H.size + 1) := by
  intro w0 n a hA K Q hK
  have hrun : (execOp a.eval ⟨dst, .makeMap t none, ty, pos, aft, gd⟩).run P (mk w0 H n) = .ok (.value (.map (some H.size))) (mk w0 (H.push (.map #[] 0)) n) := by
    simp only [execOp, Instr.makeMap, Sem.run_bind, run_newObj, Result.andThen_ok, Sem.run_pure]; rfl
  unfold Oper.wp
  rw [hrun]
  refine hK _ _ n ⟨rfl, ⟨#[], 0, by simp, fun e he => by simp at he, fun k => rfl⟩, ⟨by simp, fun b hb => ?_⟩, by simp⟩
  rw [Array.getElem?_push, if_neg (by omega)]
theorem Lod.mlk' {mt kt et : TypeId} {x y : Operand} {b : Nat} {f : Int → Option Value} {k : Int} {z v : Value} {ok : Bool} (hm : P.underlying mt = some (.map kt et)) (hk : P.underlying kt = some (.int .i64)) (hz : zv P et = some z)
    (hv : (f k).getD z = v) (hok : (f k).isSome = ok) (hx : ev e x = some (.map (some b))) (hy : ev e y = some (I k)) (hM : Mp H b f) : Lod P ⟨dst, .lookup mt x y true, ty, pos, aft, gd⟩ e H (.tuple #[v, .bool ok]) := by
  subst hv hok; exact Lod.mlk hm hk hz hx hy hM
theorem At.drawM {f : FuncId} {N : Nat} {R : Value → Heap → Prop} {k : List Item} {ops : Array Oper} {k' : List Item} {m b : Nat} {l : List (Nat × List Value)} {F : Int → Option Value} (h0 : Bks l H ∧ Mp H b F) (fs : List Nat) (hm : P.follows .mixedOrders = true) (hh : hd 60 k = .region ops true k') (hi : ops.size = m)
    (h : RegD P ops N (fun H' => Bks l H' ∧ Mp H' b F) fs m (Array.replicate m false) (fun e' H' => At P f N R (k := k') e' H') e H) : At P f N R (k := k) e H := At.draw (fun H' => Bks l H' ∧ Mp H' b F) fs hm hh hi h
end rules
def Chg (b1 b2 : Nat) (H H' : Heap) : Prop := But (fun g => g = b1 ∨ g = b2) H H'
section chg
variable {b1 b2 : Nat} {A B C : Heap}
theorem Chg.refl : Chg b1 b2 A A := But.refl _ _
theorem Chg.of (h : Ext A B) : Chg b1 b2 A B := h.but
theorem Chg.trans (h : Chg b1 b2 A B) (k : Chg b1 b2 B C) : Chg b1 b2 A C := But.trans h k
theorem Chg.ext (h : Chg b1 b2 A B) (k : Ext B C) : Chg b1 b2 A C := But.trans h k.but
theorem Chg.lt (h : Chg b1 b2 A B) : A.size ≤ B.size := h.1
theorem Chg.via {S : Nat → Prop} (h : Chg b1 b2 A B) (k : But S B C) (hs : ∀ g, g < A.size → S g → g = b1 ∨ g = b2) : Chg b1 b2 A C :=
  ⟨Nat.le_trans h.1 k.1, fun b hb hS => (k.2 b (Nat.lt_of_lt_of_le hb h.1) (fun hk => hS (hs b hb hk))).trans (h.2 b hb hS)⟩
theorem Chg.upw {b' : Nat} {c' : List Value} (h : Chg b1 b2 A B) (u : Upd B C b' c') (hb : A.size ≤ b') : Chg b1 b2 A C :=
  h.via u.but (fun g hg e => by omega)
end chg
end Go.Proofs.Ytlfillhffpiffaa

namespace Go.Proofs.Ytlfillhffpiffaa
set_option linter.unusedSimpArgs false
set_option linter.unusedVariables false
set_option maxRecDepth 8000
open Go Go.Fx Go.Proofs

inductive Bt where
  | t (v : Int) (u : Tm)
  | r (v : Int) (s : List Int)
def Bt.pl : Bt → Int × Bool × List (List Int) × List Int
  | .t v u => (v, false, u.enc 0, noRow)
  | .r v s => (v, true, [], s)
def Bt.ok : Bt → Prop
  | .t v u => u.ok ∧ u.sz ≤ 256
  | .r v s => s.length = 5 ∧ rowM s = true
def findT : List Bt → Int → Option Tm
  | [], _ => none
  | .t w u :: l, v => if w = v then some u else findT l v
  | .r _ _ :: l, v => findT l v
def findR : List Bt → Int → Option (List Int)
  | [], _ => none
  | .r w s :: l, v => if w = v then some s else findR l v
  | .t _ _ :: l, v => findR l v
theorem find_T {v : Int} : ∀ {Bs : List Bd} {Ts : List Bt}, Bs.map pl = Ts.map Bt.pl → (Bs.find? (mt false v)).map (·.nodes) = (findT Ts v).map (·.enc 0)
  | [], [], _ => rfl
  | [], _ :: _, h => by simp at h
  | _ :: _, [], h => by simp at h
  | b :: Bs, .t w u :: Ts, h => by
    simp only [List.map_cons, List.cons.injEq] at h
    obtain ⟨h1, h2⟩ := h
    simp only [pl, Bt.pl, Prod.mk.injEq] at h1
    have hm : mt false v b = decide (w = v) := by unfold mt; rw [h1.2.1, h1.1]; rfl
    rw [List.find?_cons, hm]
    simp only [findT]
    by_cases hw : w = v
    · rw [if_pos hw, decide_eq_true hw]; simp only [Option.map_some]; rw [h1.2.2.1]
    · rw [if_neg hw, decide_eq_false hw]; exact find_T h2
  | b :: Bs, .r w s :: Ts, h => by
    simp only [List.map_cons, List.cons.injEq] at h
    obtain ⟨h1, h2⟩ := h
    simp only [pl, Bt.pl, Prod.mk.injEq] at h1
    have hm : mt false v b = false := by unfold mt; rw [h1.2.1]; rfl
    rw [List.find?_cons, hm]
    simp only [findT]
    exact find_T h2
theorem find_R {v : Int} : ∀ {Bs : List Bd} {Ts : List Bt}, Bs.map pl = Ts.map Bt.pl → (Bs.find? (mt true v)).map (·.row) = findR Ts v
  | [], [], _ => rfl
  | [], _ :: _, h => by simp at h
  | _ :: _, [], h => by simp at h
  | b :: Bs, .r w s :: Ts, h => by
    simp only [List.map_cons, List.cons.injEq] at h
    obtain ⟨h1, h2⟩ := h
    simp only [pl, Bt.pl, Prod.mk.injEq] at h1
    have hm : mt true v b = decide (w = v) := by unfold mt; rw [h1.2.1, h1.1]; rfl
    rw [List.find?_cons, hm]
    simp only [findR]
    by_cases hw : w = v
    · rw [if_pos hw, decide_eq_true hw]; simp only [Option.map_some]; rw [h1.2.2.2]
    · rw [if_neg hw, decide_eq_false hw]; exact find_R h2
  | b :: Bs, .t w u :: Ts, h => by
    simp only [List.map_cons, List.cons.injEq] at h
    obtain ⟨h1, h2⟩ := h
    simp only [pl, Bt.pl, Prod.mk.injEq] at h1
    have hm : mt true v b = false := by unfold mt; rw [h1.2.1]; rfl
    rw [List.find?_cons, hm]
    simp only [findR]
    exact find_R h2
def rwS (Ts : List Bt) (r : List Int) : Option (List Int) :=
  if r.getD 4 0 < 0 then some r else match findR Ts (r.getD 4 0) with
    | none => some r
    | some s => if sumOk r s then some (sumR r s) else none
def rwP (o : Option (List Int)) : List Int × Bool := match o with | some x => (x, true) | none => (noRow, false)
theorem rowS_rw {Bs : List Bd} {Ts : List Bt} (h : Bs.map pl = Ts.map Bt.pl) (r : List Int) : rowS Bs r = rwP (rwS Ts r) := by
  have hf := find_R (v := r.getD 4 0) h
  unfold rowS rwS
  split
  · rfl
  · cases hq : Bs.find? (mt true (r.getD 4 0)) with
    | none => rw [hq] at hf; rw [← hf]; rfl
    | some bd =>
      rw [hq] at hf; rw [← hf]
      simp only [Option.map_some]
      split <;> rfl
def sub (Ts : List Bt) : Tm → Option Tm
  | .bas k => some (.bas k)
  | .var v => match findT Ts v with | some u => some u | none => some (.var v)
  | .fn a r b => match sub Ts a, rwS Ts r, sub Ts b with
    | some a', some r', some b' => some (.fn a' r' b')
    | _, _, _ => none
def tys (Ts : List Bt) (t : Tm) : Option Tm := match sub Ts t with
  | some u => if u.sz ≤ 256 then some u else none
  | none => none

def tys' (n : Nat) (o : Option Tm) : Option Tm := match o with | some u => if n + u.sz ≤ 256 then some u else none | none => none
theorem ends_get {ends es fs : List Int} {j : Nat} (h : j < es.length) : (ends ++ es ++ fs).getD (ends.length + j) 0 = es.getD j 0 := by
  simp [List.getD_eq_getElem?_getD, List.getElem?_append, h]
  rw [if_neg (by omega)]; rfl
theorem go_one {Bs : List Bd} {x : List Int} {rest out m : List (List Int)} {ends : List Int} (h : moreS Bs out ends x = some m) :
    goS Bs (x :: rest) out ends = if 256 < out.length + m.length then none else goS Bs rest (out ++ m) (ends ++ [((out.length + m.length : Nat) : Int) - 1]) := by
  rw [goS_cons, h]
def GoP (Bs : List Bd) (t : Tm) (o : Option Tm) (out rest : List (List Int)) (ends : List Int) : Prop :=
  match tys' out.length o with
    | some u => ∃ es : List Int, es.length = t.sz ∧ es.getD (t.sz - 1) 0 = (out.length : Int) + u.sz - 1 ∧ goS Bs (t.enc ends.length ++ rest) out ends = goS Bs rest (out ++ u.enc out.length) (ends ++ es)
    | none => goS Bs (t.enc ends.length ++ rest) out ends = none
theorem go_leaf {Bs : List Bd} {t u : Tm} {x : List Int} {out rest : List (List Int)} {ends : List Int} (ht : t.sz = 1) (hx : t.enc ends.length = [x]) (hm : moreS Bs out ends x = some (u.enc out.length)) : GoP Bs t (some u) out rest ends := by
  unfold GoP tys'
  have h1 := go_one (rest := rest) hm
  rw [Tm.enc_len] at h1
  dsimp only
  by_cases hs : out.length + u.sz ≤ 256
  · rw [if_pos hs]
    rw [if_neg (by omega)] at h1
    refine ⟨_, ?_, ?_, by rw [hx]; exact h1⟩
    · rw [ht]; rfl
    · rw [ht]; show ((out.length + u.sz : Nat) : Int) - 1 = _; omega
  · rw [if_neg hs]
    rw [if_pos (by omega)] at h1
    dsimp only
    rw [hx]; exact h1
theorem more_var {Bs : List Bd} {Ts : List Bt} (h : Bs.map pl = Ts.map Bt.pl) (hok : ∀ b ∈ Ts, b.ok) {out : List (List Int)} (ho : out.length ≤ 256) {ends : List Int} {v : Int} :
    moreS Bs out ends (vNode v) = some ((match findT Ts v with | some u => u | none => Tm.var v).enc out.length) := by
  have hf := find_T (v := v) h
  unfold moreS
  rw [if_pos (by rfl)]
  show (match Bs.find? (mt false v) with | some bd => some (bd.nodes.map (movS out.length)) | none => some [vNode v]) = _
  cases hq : findT Ts v with
  | none =>
    rw [hq] at hf
    cases hb : Bs.find? (mt false v) with
    | none => rfl
    | some bd => rw [hb] at hf; cases hf
  | some u =>
    rw [hq] at hf
    have hu : u.sz ≤ 256 := by
      have : ∀ {l : List Bt}, (∀ b ∈ l, b.ok) → findT l v = some u → u.sz ≤ 256 := by
        intro l
        induction l with
        | nil => intro _ h; cases h
        | cons b l ih =>
          intro hl h
          cases b with
          | t w x =>
            simp only [findT] at h
            split at h
            · cases h; exact (hl _ List.mem_cons_self).2
            · exact ih (fun b hb => hl b (List.mem_cons_of_mem _ hb)) h
          | r w x => exact ih (fun b hb => hl b (List.mem_cons_of_mem _ hb)) h
      exact this hok hq
    cases hb : Bs.find? (mt false v) with
    | none => rw [hb] at hf; cases hf
    | some bd =>
      rw [hb] at hf
      simp only [Option.map_some, Option.some.injEq] at hf
      dsimp only
      rw [hf, Tm.enc_mov u 0 out.length (by omega) (by omega) (by omega) (by omega) (by omega) (by omega), Int.zero_add]
theorem go_enc {Bs : List Bd} {Ts : List Bt} (h : Bs.map pl = Ts.map Bt.pl) (hok : ∀ b ∈ Ts, b.ok) : ∀ (t : Tm) (out rest : List (List Int)) (ends : List Int), out.length ≤ 256 → GoP Bs t (sub Ts t) out rest ends
  | .bas b, out, rest, ends, ho => go_leaf rfl rfl (by cases b <;> rfl)
  | .var v, out, rest, ends, ho => by
    have := more_var h hok ho (ends := ends) (v := v)
    simp only [sub]
    cases hq : findT Ts v with
    | none => rw [hq] at this; exact go_leaf rfl rfl this
    | some u => rw [hq] at this; exact go_leaf rfl rfl this
  | .fn a r b, out, rest, ends, ho => by
    have haz := a.sz_pos
    have hbz := b.sz_pos
    have ha := go_enc h hok a out (b.enc (ends.length + a.sz) ++ fNode (ends.length + a.sz - 1) (ends.length + a.sz + b.sz - 1) r :: rest) ends ho
    have hL : (Tm.fn a r b).enc ends.length ++ rest = a.enc ends.length ++ (b.enc (ends.length + a.sz) ++ fNode (ends.length + a.sz - 1) (ends.length + a.sz + b.sz - 1) r :: rest) := by
      simp only [Tm.enc, List.append_assoc, List.singleton_append]
    unfold GoP
    rw [hL]
    unfold GoP at ha
    simp only [sub]
    cases hsa : sub Ts a with
    | none => rw [hsa] at ha; exact ha
    | some ua =>
      rw [hsa] at ha
      have huz := ua.sz_pos
      unfold tys' at ha
      dsimp only at ha
      by_cases h1 : out.length + ua.sz ≤ 256
      · rw [if_pos h1] at ha
        obtain ⟨es, hes, hel, hga⟩ := ha
        rw [hga]
        have hb := go_enc h hok b (out ++ ua.enc out.length) (fNode (ends.length + a.sz - 1) (ends.length + a.sz + b.sz - 1) r :: rest) (ends ++ es) (by rw [List.length_append, Tm.enc_len]; exact h1)
        unfold GoP at hb
        rw [List.length_append, Tm.enc_len, List.length_append, hes] at hb
        simp only [Int.natCast_add] at hb
        cases hsb : sub Ts b with
        | none =>
          rw [hsb] at hb
          have : tys' out.length (match some ua, rwS Ts r, (none : Option Tm) with | some a', some r', some b' => some (Tm.fn a' r' b') | _, _, _ => none) = none := by cases rwS Ts r <;> rfl
          rw [this]
          exact hb
        | some ub =>
          rw [hsb] at hb
          have hvz := ub.sz_pos
          unfold tys' at hb
          dsimp only at hb
          by_cases h2 : out.length + ua.sz + ub.sz ≤ 256
          · rw [if_pos h2] at hb
            obtain ⟨fs, hfs, hfl, hgb⟩ := hb
            rw [hgb]
            have hi1 : ((ends ++ es ++ fs).getD ((fNode (ends.length + a.sz - 1) (ends.length + a.sz + b.sz - 1) r).getD 2 0).toNat 0) = (out.length : Int) + ua.sz - 1 := by
              rw [show ((fNode (ends.length + a.sz - 1) (ends.length + a.sz + b.sz - 1) r).getD 2 0).toNat = ends.length + (a.sz - 1) by show ((ends.length : Int) + a.sz - 1).toNat = _; omega, ends_get (by omega), hel]
            have hi2 : ((ends ++ es ++ fs).getD ((fNode (ends.length + a.sz - 1) (ends.length + a.sz + b.sz - 1) r).getD 3 0).toNat 0) = (out.length : Int) + ua.sz + ub.sz - 1 := by
              have := ends_get (ends := ends ++ es) (es := fs) (fs := []) (j := b.sz - 1) (by omega)
              rw [List.append_nil] at this
              rw [show ((fNode (ends.length + a.sz - 1) (ends.length + a.sz + b.sz - 1) r).getD 3 0).toNat = (ends ++ es).length + (b.sz - 1) by rw [List.length_append, hes]; show ((ends.length : Int) + a.sz + b.sz - 1).toNat = _; omega, this, hfl]
            have hrow := rowS_rw h r
            have hdr : (fNode (ends.length + a.sz - 1) (ends.length + a.sz + b.sz - 1) r).drop 4 = r := rfl
            cases hr : rwS Ts r with
            | none =>
              rw [hr] at hrow
              dsimp only [tys']
              rw [goS_cons]
              have hm : moreS Bs (out ++ ua.enc out.length ++ ub.enc ((out.length : Int) + ua.sz)) (ends ++ es ++ fs) (fNode (ends.length + a.sz - 1) (ends.length + a.sz + b.sz - 1) r) = none := by
                unfold moreS
                rw [if_neg (by show ¬ (3 : Int) = 2; decide), if_pos (by rfl), hdr, hrow]
                rfl
              rw [hm]
            | some r' =>
              rw [hr] at hrow
              have hm : moreS Bs (out ++ ua.enc out.length ++ ub.enc ((out.length : Int) + ua.sz)) (ends ++ es ++ fs) (fNode (ends.length + a.sz - 1) (ends.length + a.sz + b.sz - 1) r) = some [fNode ((out.length : Int) + ua.sz - 1) ((out.length : Int) + ua.sz + ub.sz - 1) r'] := by
                unfold moreS
                rw [if_neg (by show ¬ (3 : Int) = 2; decide), if_pos (by rfl), hdr, hrow, hi1, hi2]
                rfl
              have hl : (out ++ ua.enc out.length ++ ub.enc ((out.length : Int) + ua.sz)).length = out.length + ua.sz + ub.sz := by rw [List.length_append, List.length_append, Tm.enc_len, Tm.enc_len]
              have h3 := go_one (rest := rest) hm
              rw [hl, List.length_singleton] at h3
              rw [h3]
              dsimp only [tys']
              have hz : (Tm.fn ua r' ub).sz = ua.sz + ub.sz + 1 := rfl
              have hz' : (Tm.fn a r b).sz = a.sz + b.sz + 1 := rfl
              by_cases h4 : out.length + (Tm.fn ua r' ub).sz ≤ 256
              · rw [if_pos h4, if_neg (by omega)]
                refine ⟨es ++ fs ++ [((out.length + ua.sz + ub.sz + 1 : Nat) : Int) - 1], by rw [List.length_append, List.length_append, hes, hfs]; rfl, ?_, ?_⟩
                · rw [show (Tm.fn a r b).sz - 1 = (es ++ fs).length by rw [List.length_append, hes, hfs]; rfl]
                  simp [List.getD_eq_getElem?_getD]; omega
                · simp only [Tm.enc, List.append_assoc]
              · rw [if_neg h4, if_pos (by omega)]
          · rw [if_neg h2] at hb
            have : tys' out.length (match some ua, rwS Ts r, some ub with | some a', some r', some b' => some (Tm.fn a' r' b') | _, _, _ => none) = none := by
              cases rwS Ts r with
              | none => rfl
              | some r' => dsimp only [tys']; rw [if_neg (by simp only [Tm.sz]; omega)]
            rw [this]
            exact hb
      · rw [if_neg h1] at ha
        have : tys' out.length (match some ua, rwS Ts r, sub Ts b with | some a', some r', some b' => some (Tm.fn a' r' b') | _, _, _ => none) = none := by
          cases rwS Ts r with
          | none => rfl
          | some r' =>
            cases sub Ts b with
            | none => rfl
            | some ub => dsimp only [tys']; rw [if_neg (by simp only [Tm.sz]; omega)]
        rw [this]
        exact ha
theorem typS_tys {Bs : List Bd} {Ts : List Bt} (h : Bs.map pl = Ts.map Bt.pl) (hok : ∀ b ∈ Ts, b.ok) (t : Tm) : typS Bs (t.enc 0) = (tys Ts t).map (·.enc 0) := by
  have := go_enc h hok t [] [] [] (by simp)
  unfold GoP tys' at this
  unfold typS tys
  simp only [List.append_nil, List.length_nil, Nat.zero_add, List.nil_append, Int.natCast_zero] at this
  cases hs : sub Ts t with
  | none => rw [hs] at this; exact this
  | some u =>
    rw [hs] at this
    dsimp only at this ⊢
    by_cases h1 : u.sz ≤ 256
    · rw [if_pos h1] at this ⊢
      obtain ⟨es, _, _, hg⟩ := this
      rw [hg]; rfl
    · rw [if_neg h1] at this ⊢
      exact this
end Go.Proofs.Ytlfillhffpiffaa

namespace Go.Proofs.Ytlfillhffpiffaa
set_option linter.unusedSimpArgs false
set_option linter.unusedVariables false
set_option maxRecDepth 8000
open Go Go.Fx Go.Proofs
namespace FactsUniA
theorem ag26 : ag Try.prog 26 = some 4 := by kernel_rfl
theorem ag49 : ag Try.prog 49 = some 8 := by kernel_rfl
theorem arr26 : arr Try.prog 26 = some (4, 1) := by kernel_rfl
theorem fo28_0 : foff Try.prog 28 0 = some 0 := by kernel_rfl
theorem pl28 : places Try.prog 28 = some [(0, 4), (4, 1)] := by kernel_rfl
theorem pl49 : places Try.prog 49 = some [(0, 1), (1, 1), (2, 1), (3, 5)] := by kernel_rfl
theorem sc3 : sc Try.prog 3 = true := by kernel_rfl
theorem zc28 : zc Try.prog 28 = some [.int .i64 0, .int .i64 0, .int .i64 0, .int .i64 0, .int .i64 0] := by kernel_rfl
theorem zc49 : zc Try.prog 49 = some [.int .i64 0, .bool false, .slice none 0 0, .int .i64 0, .int .i64 0, .int .i64 0, .int .i64 0, .int .i64 0] := by kernel_rfl
end FactsUniA
open FactsUniA

theorem rowM_all {r : List Int} (h : rowM r = true) {i : Nat} (hi : i < 4) (hl : r.length = 5) : 0 ≤ r.getD i 0 ∧ r.getD i 0 ≤ 32 := by
  unfold rowM at h
  simp only [Bool.and_eq_true] at h
  have := List.all_eq_true.1 h.1 (r.getD i 0) (by
    rw [← take4_at hl hi]; exact List.getElem_mem _)
  simpa [okc] using this
theorem rowM_t {r : List Int} (h : rowM r = true) : -1 ≤ r.getD 4 0 ∧ r.getD 4 0 < 4096 := by
  unfold rowM at h
  simp only [Bool.and_eq_true, decide_eq_true_eq] at h
  exact h.2

end Go.Proofs.Ytlfillhffpiffaa

namespace Go.Proofs.Ytlfillhffpiffaa
set_option linter.unusedSimpArgs false
set_option linter.unusedVariables false
set_option maxRecDepth 8000
open Go Go.Fx Go.Proofs
namespace FactsUniB
theorem ag26 : ag Try.prog 26 = some 4 := by kernel_rfl
theorem ag28 : ag Try.prog 28 = some 5 := by kernel_rfl
theorem arr26 : arr Try.prog 26 = some (4, 1) := by kernel_rfl
theorem fo28_0 : foff Try.prog 28 0 = some 0 := by kernel_rfl
theorem fo28_1 : foff Try.prog 28 1 = some 4 := by kernel_rfl
theorem mixed : Try.prog.follows .mixedOrders = true := by kernel_rfl
theorem sc3 : sc Try.prog 3 = true := by kernel_rfl
theorem slA22 : slA Try.prog 22 = some (49, 8) := by kernel_rfl
end FactsUniB
open FactsUniB

end Go.Proofs.Ytlfillhffpiffaa

namespace Go.Proofs.Ytlfillhffpiffaa
set_option linter.unusedSimpArgs false
set_option linter.unusedVariables false
set_option maxRecDepth 8000
open Go Go.Fx Go.Proofs

def bt (b : Bd) : Bt := .r b.var b.row
theorem find_some {v : Int} {u : Tm} : ∀ {l : List Bt}, findT l v = some u → Bt.t v u ∈ l
  | [], h => by cases h
  | .t w x :: l, h => by
    simp only [findT] at h
    split at h
    · rename_i hw; cases h; subst hw; exact List.mem_cons_self
    · exact List.mem_cons_of_mem _ (find_some h)
  | .r w s :: l, h => List.mem_cons_of_mem _ (find_some (l := l) h)
theorem findR_some {v : Int} {u : List Int} : ∀ {l : List Bt}, findR l v = some u → Bt.r v u ∈ l
  | [], h => by cases h
  | .r w x :: l, h => by
    simp only [findR] at h
    split at h
    · rename_i hw; cases h; subst hw; exact List.mem_cons_self
    · exact List.mem_cons_of_mem _ (findR_some h)
  | .t w s :: l, h => List.mem_cons_of_mem _ (findR_some (l := l) h)
theorem sub_fn {Ts : List Bt} {a b u : Tm} {r : List Int} (h : sub Ts (.fn a r b) = some u) : ∃ a' r' b', sub Ts a = some a' ∧ rwS Ts r = some r' ∧ sub Ts b = some b' ∧ u = .fn a' r' b' := by
  simp only [sub] at h
  cases ha : sub Ts a with
  | none => rw [ha] at h; cases h
  | some a' =>
    cases hr : rwS Ts r with
    | none => rw [ha, hr] at h; cases h
    | some r' =>
      cases hb : sub Ts b with
      | none => rw [ha, hr, hb] at h; cases h
      | some b' => rw [ha, hr, hb] at h; cases h; exact ⟨_, _, _, rfl, rfl, rfl, rfl⟩
theorem row_five {r : List Int} (h : r.length = 5) : ∃ a b c d e, r = [a, b, c, d, e] := by
  match r, h with
  | [a, b, c, d, e], _ => exact ⟨a, b, c, d, e, rfl⟩
theorem sum_ok {r s : List Int} (hr : r.length = 5) (hrm : rowM r = true) (hs : s.length = 5) (hsm : rowM s = true) (h : sumOk r s = true) : (sumR r s).length = 5 ∧ rowM (sumR r s) = true := by
  obtain ⟨a, b, c, d, e, rfl⟩ := row_five hr
  obtain ⟨a', b', c', d', e', rfl⟩ := row_five hs
  refine ⟨rfl, ?_⟩
  have f := fun i (hi : i < 4) => rowM_all hrm hi hr
  have g := fun i (hi : i < 4) => rowM_all hsm hi hs
  have t := rowM_t hsm
  have f0 := f 0 (by decide); have f1 := f 1 (by decide); have f2 := f 2 (by decide); have f3 := f 3 (by decide)
  have g0 := g 0 (by decide); have g1 := g 1 (by decide); have g2 := g 2 (by decide); have g3 := g 3 (by decide)
  simp only [List.getD_cons_zero, List.getD_cons_succ] at f0 f1 f2 f3 g0 g1 g2 g3 t
  unfold sumOk at h
  simp only [List.all_eq_true, List.mem_range, decide_eq_true_eq, sm] at h
  have h0 := h 0 (by decide); have h1 := h 1 (by decide); have h2 := h 2 (by decide); have h3 := h 3 (by decide)
  simp only [List.getD_cons_zero, List.getD_cons_succ] at h0 h1 h2 h3
  rw [wrap_in (n := a + a') (by omega)] at h0
  rw [wrap_in (n := b + b') (by omega)] at h1
  rw [wrap_in (n := c + c') (by omega)] at h2
  rw [wrap_in (n := d + d') (by omega)] at h3
  have e : sumR [a, b, c, d, e] [a', b', c', d', e'] = [a + a', b + b', c + c', d + d', e'] := by
    show [IntKind.i64.wrap (a + a'), IntKind.i64.wrap (b + b'), IntKind.i64.wrap (c + c'), IntKind.i64.wrap (d + d'), e'] = _
    rw [wrap_in (by omega), wrap_in (by omega), wrap_in (by omega), wrap_in (by omega)]
  rw [e]
  rw [decide_eq_true_eq] at h0 h1 h2 h3
  unfold rowM
  simp [okc]
  omega
theorem rw_ok {Ts : List Bt} (hT : ∀ b ∈ Ts, b.ok) {r u : List Int} (hr : r.length = 5) (hrm : rowM r = true) (h : rwS Ts r = some u) : u.length = 5 ∧ rowM u = true := by
  unfold rwS at h
  split at h
  · cases h; exact ⟨hr, hrm⟩
  · split at h
    · cases h; exact ⟨hr, hrm⟩
    · rename_i s hf
      split at h
      · rename_i hs
        cases h
        have := hT _ (findR_some hf)
        exact sum_ok hr hrm this.1 this.2 hs
      · cases h
theorem sub_ok {Ts : List Bt} (hT : ∀ b ∈ Ts, b.ok) : ∀ {t u : Tm}, t.ok → sub Ts t = some u → u.ok
  | .bas k, u, _, h => by cases h; trivial
  | .var w, u, ht, h => by
    simp only [sub] at h
    cases hf : findT Ts w with
    | none => rw [hf] at h; cases h; exact ht
    | some x => rw [hf] at h; cases h; exact (hT _ (find_some hf)).1
  | .fn a r b, u, ht, h => by
    obtain ⟨a', r', b', h1, h2, h3, rfl⟩ := sub_fn h
    have := rw_ok hT ht.2.1 ht.2.2.1 h2
    exact ⟨sub_ok hT ht.1 h1, this.1, this.2, sub_ok hT ht.2.2.2 h3⟩
theorem tys_sub {Ts : List Bt} {t u : Tm} (h : tys Ts t = some u) : sub Ts t = some u ∧ u.sz ≤ 256 := by
  unfold tys at h
  cases hs : sub Ts t with
  | none => rw [hs] at h; cases h
  | some x =>
    rw [hs] at h
    dsimp only at h
    split at h
    · rename_i hz; cases h; exact ⟨rfl, hz⟩
    · cases h

end Go.Proofs.Ytlfillhffpiffaa

namespace Go.Fx
open Go
set_option linter.unusedSimpArgs false
set_option linter.unusedVariables false
section
variable {P : Program} {dst : Option Tmp} {ty : TypeId} {pos : String} {aft : Array Edge} {gd : Option (Nat × Bool)} {e : Env} {H H' : Heap}
end
end Go.Fx
namespace Go.Proofs.Ytlfillhffpiffaa
set_option linter.unusedSimpArgs false
set_option linter.unusedVariables false
set_option maxRecDepth 8000
open Go Go.Fx Go.Proofs

theorem flat_at {α : Type} {enc : α → List Value} {n : Nat} {L : List α} (hL : Wide enc n L) {i : Nat} (hi : i < L.length) :
    ∃ p q, L.flatMap enc = p ++ enc L[i] ++ q ∧ p.length = i * n ∧ ∀ x, (L.set i x).flatMap enc = p ++ enc x ++ q := by
  refine ⟨(L.take i).flatMap enc, (L.drop (i + 1)).flatMap enc, ?_, ?_, fun x => ?_⟩
  · have h : L = L.take i ++ L[i] :: L.drop (i + 1) := by rw [← List.drop_eq_getElem_cons hi, List.take_append_drop]
    have h2 : L.flatMap enc = (L.take i ++ L[i] :: L.drop (i + 1)).flatMap enc := congrArg (·.flatMap enc) h
    rw [h2]
    simp only [List.flatMap_append, List.flatMap_cons, List.append_assoc]
  · rw [flat_len (fun x hx => hL x (List.mem_of_mem_take hx)), List.length_take]; congr 1; omega
  · rw [List.set_eq_take_append_cons_drop, if_pos hi]
    simp [List.flatMap_append, List.flatMap_cons]
end Go.Proofs.Ytlfillhffpiffaa

namespace Go.Proofs.Ytlfillhffpiffaa
set_option linter.unusedSimpArgs false
set_option linter.unusedVariables false
set_option maxRecDepth 8000
open Go Go.Fx Go.Proofs
namespace FactsUniH
theorem ag25 : ag Try.prog 25 = some 1 := by kernel_rfl
theorem ag28 : ag Try.prog 28 = some 5 := by kernel_rfl
theorem mixed : Try.prog.follows .mixedOrders = true := by kernel_rfl
theorem pl25 : places Try.prog 25 = some [(0, 1)] := by kernel_rfl
theorem pl28 : places Try.prog 28 = some [(0, 4), (4, 1)] := by kernel_rfl
theorem zc25 : zc Try.prog 25 = some [.slice none 0 0] := by kernel_rfl
theorem zc28 : zc Try.prog 28 = some [.int .i64 0, .int .i64 0, .int .i64 0, .int .i64 0, .int .i64 0] := by kernel_rfl
end FactsUniH
open FactsUniH

end Go.Proofs.Ytlfillhffpiffaa

namespace Go.Proofs.Ytlfillhffpiffaa
set_option linter.unusedSimpArgs false
set_option linter.unusedVariables false
set_option maxRecDepth 8000
set_option maxHeartbeats 800000
open Go Go.Fx Go.Proofs
namespace FactsUniI
theorem ag25 : ag Try.prog 25 = some 1 := by kernel_rfl
theorem ag28 : ag Try.prog 28 = some 5 := by kernel_rfl
theorem ag49 : ag Try.prog 49 = some 8 := by kernel_rfl
theorem apt22 : appT Try.prog 22 = some (49, 8, 80) := by kernel_rfl
theorem es22 : esz Try.prog 22 = some 8 := by kernel_rfl
theorem fo49_1 : foff Try.prog 49 1 = some 1 := by kernel_rfl
theorem fo49_2 : foff Try.prog 49 2 = some 2 := by kernel_rfl
theorem fo49_3 : foff Try.prog 49 3 = some 3 := by kernel_rfl
theorem isl22 : isSl Try.prog 22 = true := by kernel_rfl
theorem mixed : Try.prog.follows .mixedOrders = true := by kernel_rfl
theorem sc4 : sc Try.prog 4 = true := by kernel_rfl
theorem slA22 : slA Try.prog 22 = some (49, 8) := by kernel_rfl
end FactsUniI
open FactsUniI

theorem pl_at {Bs : List Bd} {Ts : List Bt} (h : Bs.map pl = Ts.map Bt.pl) {i : Nat} (hi : i < Bs.length) (hj : i < Ts.length) : pl Bs[i] = Ts[i].pl := by
  have := congrArg (fun l => l[i]?) h
  simpa [List.getElem?_map, List.getElem?_eq_getElem hi, List.getElem?_eq_getElem hj] using this
end Go.Proofs.Ytlfillhffpiffaa

namespace Go.Proofs.Ytlfillhffpiffaa
set_option linter.unusedSimpArgs false
set_option linter.unusedVariables false
set_option maxRecDepth 8000
open Go Go.Fx Go.Proofs
namespace FactsUniJ
theorem ag47 : ag Try.prog 47 = some 9 := by kernel_rfl
theorem es23 : esz Try.prog 23 = some 9 := by kernel_rfl
theorem isl23 : isSl Try.prog 23 = true := by kernel_rfl
end FactsUniJ
open FactsUniJ

end Go.Proofs.Ytlfillhffpiffaa

namespace Go.Proofs.Ytlfillhffpiffaa
set_option linter.unusedSimpArgs false
set_option linter.unusedVariables false
set_option maxRecDepth 8000
open Go Go.Fx Go.Proofs
namespace FactsUniK
theorem ag25 : ag Try.prog 25 = some 1 := by kernel_rfl
theorem fo25_0 : foff Try.prog 25 0 = some 0 := by kernel_rfl
theorem fo28_1 : foff Try.prog 28 1 = some 4 := by kernel_rfl
theorem fo47_0 : foff Try.prog 47 0 = some 0 := by kernel_rfl
theorem fo47_1 : foff Try.prog 47 1 = some 1 := by kernel_rfl
theorem fo47_4 : foff Try.prog 47 4 = some 4 := by kernel_rfl
theorem pl49 : places Try.prog 49 = some [(0, 1), (1, 1), (2, 1), (3, 5)] := by kernel_rfl
theorem sc23 : sc Try.prog 23 = true := by kernel_rfl
theorem sc3 : sc Try.prog 3 = true := by kernel_rfl
theorem zc49 : zc Try.prog 49 = some [.int .i64 0, .bool false, .slice none 0 0, .int .i64 0, .int .i64 0, .int .i64 0, .int .i64 0, .int .i64 0] := by kernel_rfl
end FactsUniK
open FactsUniK

end Go.Proofs.Ytlfillhffpiffaa

namespace Go.Proofs.Ytlfillhffpiffaa
set_option linter.unusedSimpArgs false
set_option linter.unusedVariables false
set_option maxRecDepth 8000
open Go Go.Fx Go.Proofs

def adR (r s : List Int) : List Int := [r.getD 0 0 + s.getD 0 0, r.getD 1 0 + s.getD 1 0, r.getD 2 0 + s.getD 2 0, r.getD 3 0 + s.getD 3 0, s.getD 4 0]
theorem adR_z {r : List Int} (h : r.length = 5) : adR r [0, 0, 0, 0, r.getD 4 0] = r := by
  obtain ⟨a, b, c, d, e, rfl⟩ := row_five h
  simp [adR]
theorem sumR_ad {r s : List Int} (hr : r.length = 5) (hrm : rowM r = true) (hs : s.length = 5) (hsm : rowM s = true) : sumR r s = adR r s := by
  have f := fun i (hi : i < 4) => rowM_all hrm hi hr
  have g := fun i (hi : i < 4) => rowM_all hsm hi hs
  have f0 := f 0 (by decide); have f1 := f 1 (by decide); have f2 := f 2 (by decide); have f3 := f 3 (by decide)
  have g0 := g 0 (by decide); have g1 := g 1 (by decide); have g2 := g 2 (by decide); have g3 := g 3 (by decide)
  show [IntKind.i64.wrap (r.getD 0 0 + s.getD 0 0), IntKind.i64.wrap (r.getD 1 0 + s.getD 1 0), IntKind.i64.wrap (r.getD 2 0 + s.getD 2 0), IntKind.i64.wrap (r.getD 3 0 + s.getD 3 0), s.getD 4 0] = _
  rw [wrap_in (by omega), wrap_in (by omega), wrap_in (by omega), wrap_in (by omega)]
  rfl

structure Asg where
  T : Int → Tm
  R : Int → List Int
def Asg.row (θ : Asg) (r : List Int) : List Int := if r.getD 4 0 < 0 then r else adR r (θ.R (r.getD 4 0))
def Asg.tm (θ : Asg) : Tm → Tm
  | .bas k => .bas k
  | .var v => θ.T v
  | .fn a r b => .fn (θ.tm a) (θ.row r) (θ.tm b)
theorem Asg.row_no {θ : Asg} {r : List Int} (h : r.getD 4 0 < 0) : θ.row r = r := if_pos h
theorem Asg.row_yes {θ : Asg} {r : List Int} (h : ¬ r.getD 4 0 < 0) : θ.row r = adR r (θ.R (r.getD 4 0)) := if_neg h
def asg (l : List Bt) : Asg := ⟨fun v => match findT l v with | some u => u | none => .var v, fun v => match findR l v with | some s => s | none => [0, 0, 0, 0, v]⟩
theorem rw_asg {l : List Bt} (hl : ∀ b ∈ l, b.ok) {r u : List Int} (hr : r.length = 5) (hrm : rowM r = true) (h : rwS l r = some u) : (asg l).row r = u := by
  unfold rwS at h
  by_cases h0 : r.getD 4 0 < 0
  · rw [if_pos h0] at h; cases h; exact Asg.row_no h0
  · rw [if_neg h0] at h
    rw [Asg.row_yes h0]
    cases hf : findR l (r.getD 4 0) with
    | none =>
      rw [hf] at h; cases h
      have : (asg l).R (r.getD 4 0) = [0, 0, 0, 0, r.getD 4 0] := by unfold asg; dsimp only; rw [hf]
      rw [this]; exact adR_z hr
    | some s =>
      rw [hf] at h
      dsimp only at h
      split at h
      · cases h
        have : (asg l).R (r.getD 4 0) = s := by unfold asg; dsimp only; rw [hf]
        have hs := hl _ (findR_some hf)
        rw [this, sumR_ad hr hrm hs.1 hs.2]
      · cases h
theorem sub_asg {l : List Bt} (hl : ∀ b ∈ l, b.ok) : ∀ {t u : Tm}, t.ok → sub l t = some u → (asg l).tm t = u
  | .bas k, u, _, h => by cases h; rfl
  | .var w, u, ht, h => by
    simp only [sub] at h
    show (match findT l w with | some u => u | none => Tm.var w) = u
    cases hf : findT l w with
    | none => rw [hf] at h; cases h; rfl
    | some x => rw [hf] at h; cases h; rfl
  | .fn a r b, u, ht, h => by
    obtain ⟨a', r', b', h1, h2, h3, rfl⟩ := sub_fn h
    simp only [Asg.tm]
    rw [sub_asg hl ht.1 h1, rw_asg hl ht.2.1 ht.2.2.1 h2, sub_asg hl ht.2.2.2 h3]

end Go.Proofs.Ytlfillhffpiffaa

namespace Go.Fx
open Go
end Go.Fx
namespace Go.Proofs.Ytlfillhffpiffaa
set_option linter.unusedSimpArgs false
set_option linter.unusedVariables false
set_option maxRecDepth 8000
open Go Go.Fx Go.Proofs
namespace FactsUniL
theorem ag28 : ag Try.prog 28 = some 5 := by kernel_rfl
theorem ag49 : ag Try.prog 49 = some 8 := by kernel_rfl
theorem es22 : esz Try.prog 22 = some 8 := by kernel_rfl
theorem isl22 : isSl Try.prog 22 = true := by kernel_rfl
theorem mixed : Try.prog.follows .mixedOrders = true := by kernel_rfl
theorem sc3 : sc Try.prog 3 = true := by kernel_rfl
theorem zc49 : zc Try.prog 49 = some [.int .i64 0, .bool false, .slice none 0 0, .int .i64 0, .int .i64 0, .int .i64 0, .int .i64 0, .int .i64 0] := by kernel_rfl
end FactsUniL
open FactsUniL

end Go.Proofs.Ytlfillhffpiffaa

namespace Go.Proofs.Ytlfillhffpiffaa
set_option linter.unusedSimpArgs false
set_option linter.unusedVariables false
set_option maxRecDepth 8000
set_option maxHeartbeats 4000000
open Go Go.Fx Go.Proofs
namespace FactsUniY
theorem ag25 : ag Try.prog 25 = some 1 := by kernel_rfl
theorem ag28 : ag Try.prog 28 = some 5 := by kernel_rfl
theorem ag47 : ag Try.prog 47 = some 9 := by kernel_rfl
theorem eqt47 : eqT Try.prog 47 = some [.int .i64, .int .i64, .int .i64, .int .i64, .int .i64, .int .i64, .int .i64, .int .i64, .int .i64] := by kernel_rfl
theorem fo47_0 : foff Try.prog 47 0 = some 0 := by kernel_rfl
theorem fo47_1 : foff Try.prog 47 1 = some 1 := by kernel_rfl
theorem fo47_4 : foff Try.prog 47 4 = some 4 := by kernel_rfl
theorem mixed : Try.prog.follows .mixedOrders = true := by kernel_rfl
theorem sc3 : sc Try.prog 3 = true := by kernel_rfl
theorem zc25 : zc Try.prog 25 = some [.slice none 0 0] := by kernel_rfl
end FactsUniY
open FactsUniY

def Tm.lst : Tm → List Int
  | .bas k => bNode k
  | .var v => vNode v
  | .fn a r b => fNode ((a.sz : Int) - 1) ((a.sz : Int) + b.sz - 1) r
theorem lst_el : ∀ t : Tm, el (t.enc 0) (((t.enc 0).length : Int) - 1) = t.lst
  | .bas k => rfl
  | .var v => rfl
  | .fn a r b => (enc_parts a r b).1
theorem lst_var {t : Tm} (h : t.lst.getD 0 0 = 2) : ∃ v, t = .var v := by
  cases t with
  | bas k => cases k <;> simp [Tm.lst] at h
  | var v => exact ⟨v, rfl⟩
  | fn a r b => simp [Tm.lst] at h
theorem lst_fn {t : Tm} (h : t.lst.getD 0 0 = 3) : ∃ a r b, t = .fn a r b := by
  cases t with
  | bas k => cases k <;> simp [Tm.lst] at h
  | var v => simp [Tm.lst] at h
  | fn a r b => exact ⟨a, r, b, rfl⟩
theorem nod_row {c : List Value} {o : Nat} {a b : Int} {r : List Int} (h : (c.drop o).take 9 = Is (fNode a b r)) (hr : r.length = 5) : (c.drop (o + 4)).take 5 = Is r := by
  rw [← List.drop_drop, take_mid h (by decide)]
  simp [Is]
  rw [List.take_of_length_le (by simp [hr])]
end Go.Proofs.Ytlfillhffpiffaa

namespace Go.Proofs.Ytlfillhffpiffaa
set_option linter.unusedSimpArgs false
set_option linter.unusedVariables false
set_option maxRecDepth 8000
open Go Go.Fx Go.Proofs
namespace FactsUniD
theorem ag25 : ag Try.prog 25 = some 1 := by kernel_rfl
theorem ag47 : ag Try.prog 47 = some 9 := by kernel_rfl
theorem apt23 : appT Try.prog 23 = some (47, 9, 72) := by kernel_rfl
theorem es23 : esz Try.prog 23 = some 9 := by kernel_rfl
theorem fo25_0 : foff Try.prog 25 0 = some 0 := by kernel_rfl
theorem fo47_0 : foff Try.prog 47 0 = some 0 := by kernel_rfl
theorem fo47_2 : foff Try.prog 47 2 = some 2 := by kernel_rfl
theorem fo47_3 : foff Try.prog 47 3 = some 3 := by kernel_rfl
theorem isl23 : isSl Try.prog 23 = true := by kernel_rfl
theorem mixed : Try.prog.follows .mixedOrders = true := by kernel_rfl
theorem pl25 : places Try.prog 25 = some [(0, 1)] := by kernel_rfl
theorem sc23 : sc Try.prog 23 = true := by kernel_rfl
theorem sc3 : sc Try.prog 3 = true := by kernel_rfl
theorem slA23 : slA Try.prog 23 = some (47, 9) := by kernel_rfl
theorem zc25 : zc Try.prog 25 = some [.slice none 0 0] := by kernel_rfl
theorem zc47 : zc Try.prog 47 = some [.int .i64 0, .int .i64 0, .int .i64 0, .int .i64 0, .int .i64 0, .int .i64 0, .int .i64 0, .int .i64 0, .int .i64 0] := by kernel_rfl
end FactsUniD
open FactsUniD

end Go.Proofs.Ytlfillhffpiffaa

namespace Go.Proofs.Ytlfillhffpiffaa
set_option linter.unusedSimpArgs false
set_option linter.unusedVariables false
set_option maxRecDepth 8000
set_option maxHeartbeats 1000000
open Go Go.Fx Go.Proofs
namespace FactsUniRA
theorem ag25 : ag Try.prog 25 = some 1 := by kernel_rfl
theorem ag28 : ag Try.prog 28 = some 5 := by kernel_rfl
theorem ag49 : ag Try.prog 49 = some 8 := by kernel_rfl
theorem apt22 : appT Try.prog 22 = some (49, 8, 80) := by kernel_rfl
theorem es22 : esz Try.prog 22 = some 8 := by kernel_rfl
theorem es23 : esz Try.prog 23 = some 9 := by kernel_rfl
theorem fo25_0 : foff Try.prog 25 0 = some 0 := by kernel_rfl
theorem fo28_1 : foff Try.prog 28 1 = some 4 := by kernel_rfl
theorem fo47_0 : foff Try.prog 47 0 = some 0 := by kernel_rfl
theorem fo47_4 : foff Try.prog 47 4 = some 4 := by kernel_rfl
theorem fo49_1 : foff Try.prog 49 1 = some 1 := by kernel_rfl
theorem fo49_2 : foff Try.prog 49 2 = some 2 := by kernel_rfl
theorem fo49_3 : foff Try.prog 49 3 = some 3 := by kernel_rfl
theorem isl22 : isSl Try.prog 22 = true := by kernel_rfl
theorem isl23 : isSl Try.prog 23 = true := by kernel_rfl
theorem mixed : Try.prog.follows .mixedOrders = true := by kernel_rfl
theorem sc23 : sc Try.prog 23 = true := by kernel_rfl
theorem sc3 : sc Try.prog 3 = true := by kernel_rfl
theorem sc4 : sc Try.prog 4 = true := by kernel_rfl
theorem slA22 : slA Try.prog 22 = some (49, 8) := by kernel_rfl
theorem zc25 : zc Try.prog 25 = some [.slice none 0 0] := by kernel_rfl
theorem zc28 : zc Try.prog 28 = some [.int .i64 0, .int .i64 0, .int .i64 0, .int .i64 0, .int .i64 0] := by kernel_rfl
theorem zc49 : zc Try.prog 49 = some [.int .i64 0, .bool false, .slice none 0 0, .int .i64 0, .int .i64 0, .int .i64 0, .int .i64 0, .int .i64 0] := by kernel_rfl
end FactsUniRA
open FactsUniRA

end Go.Proofs.Ytlfillhffpiffaa

namespace Go.Proofs.Ytlfillhffpiffaa
set_option linter.unusedSimpArgs false
set_option linter.unusedVariables false
set_option maxRecDepth 8000
open Go Go.Fx Go.Proofs

structure Asg.Ok (θ : Asg) : Prop where
  len : ∀ v, 0 ≤ v → (θ.R v).length = 5
  pos : ∀ v, 0 ≤ v → ∀ i, i < 4 → 0 ≤ (θ.R v).getD i 0
  tl : ∀ v, 0 ≤ v → -1 ≤ (θ.R v).getD 4 0
end Go.Proofs.Ytlfillhffpiffaa

namespace Go.Proofs.Ytlfillhffpiffaa
set_option linter.unusedSimpArgs false
set_option linter.unusedVariables false
set_option maxRecDepth 8000
open Go Go.Fx Go.Proofs

theorem asg_ok {l : List Bt} (h : ∀ b ∈ l, b.ok) : (asg l).Ok := by
  have key : ∀ v, 0 ≤ v → ((asg l).R v).length = 5 ∧ (∀ i, i < 4 → 0 ≤ ((asg l).R v).getD i 0) ∧ -1 ≤ ((asg l).R v).getD 4 0 := by
    intro v hv
    unfold asg
    dsimp only
    cases hf : findR l v with
    | none =>
      refine ⟨rfl, fun i hi => ?_, by show -1 ≤ v; omega⟩
      match i, hi with
      | 0, _ => exact Int.le_refl _
      | 1, _ => exact Int.le_refl _
      | 2, _ => exact Int.le_refl _
      | 3, _ => exact Int.le_refl _
    | some s =>
      have hs := h _ (findR_some hf)
      exact ⟨hs.1, fun i hi => (rowM_all hs.2 hi hs.1).1, (rowM_t hs.2).1⟩
  exact ⟨fun v hv => (key v hv).1, fun v hv => (key v hv).2.1, fun v hv => (key v hv).2.2⟩
def dfR (g s : List Int) : List Int := [s.getD 0 0 - g.getD 0 0, s.getD 1 0 - g.getD 1 0, s.getD 2 0 - g.getD 2 0, s.getD 3 0 - g.getD 3 0, s.getD 4 0]
def posR (d : List Int) : Bool := decide (0 ≤ d.getD 0 0 ∧ 0 ≤ d.getD 1 0 ∧ 0 ≤ d.getD 2 0 ∧ 0 ≤ d.getD 3 0)
def instR (M : List Bt) (g s : List Int) : Option (List Bt) :=
  if posR (dfR g s) = false then none else if g.getD 4 0 < 0 then (if g = s then some M else none)
  else match findR M (g.getD 4 0) with
    | none => some (M ++ [.r (g.getD 4 0) (dfR g s)])
    | some d => if d = dfR g s then some M else none
def inst (M : List Bt) : Tm → Tm → Option (List Bt)
  | .var v, s => match findT M v with
    | none => some (M ++ [.t v s])
    | some t => if t = s then some M else none
  | .bas k, .bas l => if k = l then some M else none
  | .fn a r b, .fn a' r' b' => match inst M a a' with
    | none => none
    | some M1 => match instR M1 r r' with
      | none => none
      | some M2 => inst M2 b b'
  | _, _ => none
def Has (θ : Asg) (M : List Bt) : Prop := (∀ v u, findT M v = some u → θ.T v = u) ∧ ∀ v d, findR M v = some d → θ.R v = d
theorem has_nil (θ : Asg) : Has θ [] := ⟨fun v u h => (by cases h), fun v u h => (by cases h)⟩
theorem findT_app {v : Int} : ∀ {l m : List Bt}, findT (l ++ m) v = match findT l v with | some u => some u | none => findT m v
  | [], m => rfl
  | .t w u :: l, m => by
    simp only [List.cons_append, findT]
    by_cases h : w = v
    · rw [if_pos h, if_pos h]
    · rw [if_neg h, if_neg h]; exact findT_app
  | .r w u :: l, m => by
    simp only [List.cons_append, findT]; exact findT_app
theorem findR_app {v : Int} : ∀ {l m : List Bt}, findR (l ++ m) v = match findR l v with | some u => some u | none => findR m v
  | [], m => rfl
  | .r w u :: l, m => by
    simp only [List.cons_append, findR]
    by_cases h : w = v
    · rw [if_pos h, if_pos h]
    · rw [if_neg h, if_neg h]; exact findR_app
  | .t w u :: l, m => by
    simp only [List.cons_append, findR]; exact findR_app
theorem has_T {θ : Asg} {M : List Bt} {v : Int} {u : Tm} (hn : findT M v = none) : Has θ (M ++ [.t v u]) ↔ Has θ M ∧ θ.T v = u := by
  constructor
  · rintro ⟨h1, h2⟩
    refine ⟨⟨fun w x hx => h1 w x (by rw [findT_app, hx]), fun w x hx => h2 w x (by rw [findR_app, hx])⟩, h1 v u ?_⟩
    rw [findT_app, hn]; simp [findT]
  · rintro ⟨⟨h1, h2⟩, h3⟩
    refine ⟨fun w x hx => ?_, fun w x hx => ?_⟩
    · rw [findT_app] at hx
      cases hf : findT M w with
      | some y => rw [hf] at hx; cases hx; exact h1 w _ hf
      | none =>
        rw [hf] at hx
        simp only [findT] at hx
        split at hx
        · rename_i hvw; cases hx; subst hvw; exact h3
        · cases hx
    · rw [findR_app] at hx
      cases hf : findR M w with
      | some y => rw [hf] at hx; cases hx; exact h2 w _ hf
      | none => rw [hf] at hx; cases hx
theorem has_R {θ : Asg} {M : List Bt} {v : Int} {u : List Int} (hn : findR M v = none) : Has θ (M ++ [.r v u]) ↔ Has θ M ∧ θ.R v = u := by
  constructor
  · rintro ⟨h1, h2⟩
    refine ⟨⟨fun w x hx => h1 w x (by rw [findT_app, hx]), fun w x hx => h2 w x (by rw [findR_app, hx])⟩, h2 v u ?_⟩
    rw [findR_app, hn]; simp [findR]
  · rintro ⟨⟨h1, h2⟩, h3⟩
    refine ⟨fun w x hx => ?_, fun w x hx => ?_⟩
    · rw [findT_app] at hx
      cases hf : findT M w with
      | some y => rw [hf] at hx; cases hx; exact h1 w _ hf
      | none => rw [hf] at hx; cases hx
    · rw [findR_app] at hx
      cases hf : findR M w with
      | some y => rw [hf] at hx; cases hx; exact h2 w _ hf
      | none =>
        rw [hf] at hx
        simp only [findR] at hx
        split at hx
        · rename_i hvw; cases hx; subst hvw; exact h3
        · cases hx
theorem df_eq {g s X : List Int} (hX : X.length = 5) (h : adR g X = s) : dfR g s = X := by
  subst h
  obtain ⟨a, b, c, d, e, rfl⟩ := row_five hX
  unfold dfR adR
  simp only [List.getD_cons_zero, List.getD_cons_succ]
  simp only [List.cons.injEq, and_true]
  omega
theorem instR_iff {θ : Asg} (hθ : θ.Ok) {M : List Bt} {g s : List Int} (hg : g.length = 5) (hs : s.length = 5) (h : Has θ M) (he : θ.row g = s) : ∃ M', instR M g s = some M' ∧ Has θ M' := by
  unfold instR
  by_cases h0 : g.getD 4 0 < 0
  · rw [Asg.row_no h0] at he
    subst he
    rw [if_neg (by unfold posR dfR; simp), if_pos h0, if_pos rfl]
    exact ⟨M, rfl, h⟩
  · rw [Asg.row_yes h0] at he
    have hd := df_eq (hθ.len _ (by omega)) he
    have hp := hθ.pos (g.getD 4 0) (by omega)
    rw [if_neg (by
      rw [hd]
      unfold posR
      simp only [decide_eq_false_iff_not, Decidable.not_not]
      exact ⟨hp 0 (by decide), hp 1 (by decide), hp 2 (by decide), hp 3 (by decide)⟩), if_neg h0]
    cases hf : findR M (g.getD 4 0) with
    | none => exact ⟨_, rfl, (has_R hf).2 ⟨h, hd.symm⟩⟩
    | some d =>
      have := h.2 _ _ hf
      dsimp only
      rw [if_pos (by rw [hd]; exact this.symm)]
      exact ⟨M, rfl, h⟩
theorem inst_of {θ : Asg} (hθ : θ.Ok) : ∀ {g s : Tm} {M : List Bt}, g.ok → s.ok → Has θ M → θ.tm g = s → ∃ M', inst M g s = some M' ∧ Has θ M'
  | .bas k, s, M, _, _, h, he => by
    obtain rfl : s = .bas k := he.symm
    exact ⟨M, by simp [inst], h⟩
  | .var v, s, M, _, _, h, he => by
    simp only [inst]
    cases hf : findT M v with
    | none => exact ⟨_, rfl, (has_T hf).2 ⟨h, he⟩⟩
    | some t =>
      dsimp only
      rw [if_pos ((h.1 _ _ hf).symm.trans he)]
      exact ⟨M, rfl, h⟩
  | .fn a r b, .fn a' r' b', M, hg, hs, h, he => by
    simp only [Asg.tm, Tm.fn.injEq] at he
    obtain ⟨M1, e1, h1⟩ := inst_of hθ hg.1 hs.1 h he.1
    obtain ⟨M2, e2, h2⟩ := instR_iff hθ hg.2.1 hs.2.1 h1 he.2.1
    obtain ⟨M3, e3, h3⟩ := inst_of hθ hg.2.2.2 hs.2.2.2 h2 he.2.2
    refine ⟨M3, ?_, h3⟩
    simp only [inst, e1, e2, e3]
  | .fn a r b, .bas k, M, _, _, _, he => by cases he
  | .fn a r b, .var k, M, _, _, _, he => by cases he
end Go.Proofs.Ytlfillhffpiffaa

namespace Go.Proofs.Ytlfillhffpiffaa
set_option linter.unusedSimpArgs false
set_option linter.unusedVariables false
set_option maxRecDepth 8000
set_option maxHeartbeats 1000000
open Go Go.Fx Go.Proofs
namespace FactsUniMA
theorem ag26 : ag Try.prog 26 = some 4 := by kernel_rfl
theorem ag28 : ag Try.prog 28 = some 5 := by kernel_rfl
theorem ag47 : ag Try.prog 47 = some 9 := by kernel_rfl
theorem ag49 : ag Try.prog 49 = some 8 := by kernel_rfl
theorem apt22 : appT Try.prog 22 = some (49, 8, 80) := by kernel_rfl
theorem arr26 : arr Try.prog 26 = some (4, 1) := by kernel_rfl
theorem eqt28 : eqT Try.prog 28 = some [.int .i64, .int .i64, .int .i64, .int .i64, .int .i64] := by kernel_rfl
theorem eqt47 : eqT Try.prog 47 = some [.int .i64, .int .i64, .int .i64, .int .i64, .int .i64, .int .i64, .int .i64, .int .i64, .int .i64] := by kernel_rfl
theorem es22 : esz Try.prog 22 = some 8 := by kernel_rfl
theorem es23 : esz Try.prog 23 = some 9 := by kernel_rfl
theorem fo25_0 : foff Try.prog 25 0 = some 0 := by kernel_rfl
theorem fo28_0 : foff Try.prog 28 0 = some 0 := by kernel_rfl
theorem fo28_1 : foff Try.prog 28 1 = some 4 := by kernel_rfl
theorem fo49_0 : foff Try.prog 49 0 = some 0 := by kernel_rfl
theorem fo49_1 : foff Try.prog 49 1 = some 1 := by kernel_rfl
theorem fo49_3 : foff Try.prog 49 3 = some 3 := by kernel_rfl
theorem isl22 : isSl Try.prog 22 = true := by kernel_rfl
theorem isl23 : isSl Try.prog 23 = true := by kernel_rfl
theorem mixed : Try.prog.follows .mixedOrders = true := by kernel_rfl
theorem sc23 : sc Try.prog 23 = true := by kernel_rfl
theorem sc3 : sc Try.prog 3 = true := by kernel_rfl
theorem sc4 : sc Try.prog 4 = true := by kernel_rfl
theorem slA22 : slA Try.prog 22 = some (49, 8) := by kernel_rfl
theorem zc49 : zc Try.prog 49 = some [.int .i64 0, .bool false, .slice none 0 0, .int .i64 0, .int .i64 0, .int .i64 0, .int .i64 0, .int .i64 0] := by kernel_rfl
end FactsUniMA
open FactsUniMA

def dfS (g s : List Int) (k : Nat) : List Int := (List.range 4).map fun j => if j < k then s.getD j 0 - g.getD j 0 else 0
def posTo (g s : List Int) (k : Nat) : Bool := (List.range k).all fun j => decide (0 ≤ s.getD j 0 - g.getD j 0)
theorem dfS_len (g s : List Int) (k : Nat) : (dfS g s k).length = 4 := rfl
theorem dfS_set (g s : List Int) {k : Nat} (h : k < 4) : (dfS g s k).set k (s.getD k 0 - g.getD k 0) = dfS g s (k + 1) := by
  apply List.ext_getElem (by simp [dfS])
  intro j h1 h2
  rw [List.getElem_set]
  simp only [dfS, List.getElem_map, List.getElem_range]
  split
  · rename_i e; subst e; rw [if_pos (by omega)]
  · rename_i e
    by_cases h3 : j < k
    · rw [if_pos h3, if_pos (by omega)]
    · rw [if_neg h3, if_neg (by omega)]
theorem dfS_at (g s : List Int) {k : Nat} (h : k < 4) : (dfS g s (k + 1)).getD k 0 = s.getD k 0 - g.getD k 0 := by simp [dfS, h]
theorem posTo_succ (g s : List Int) (k : Nat) : posTo g s (k + 1) = (posTo g s k && decide (0 ≤ s.getD k 0 - g.getD k 0)) := by simp [posTo, List.range_succ]
theorem posTo_all (g s : List Int) : posTo g s 4 = posR (dfR g s) := by
  unfold posTo posR dfR
  simp only [List.getD_cons_zero, List.getD_cons_succ]
  simp [List.range, List.range.loop, Bool.decide_and]
end Go.Proofs.Ytlfillhffpiffaa

namespace Go.Proofs.Ytlfillhffpiffaa
set_option linter.unusedSimpArgs false
set_option linter.unusedVariables false
set_option maxRecDepth 8000
set_option maxHeartbeats 1000000
open Go Go.Fx Go.Proofs
namespace FactsUniNB
theorem ag47 : ag Try.prog 47 = some 9 := by kernel_rfl
theorem eqt47 : eqT Try.prog 47 = some [.int .i64, .int .i64, .int .i64, .int .i64, .int .i64, .int .i64, .int .i64, .int .i64, .int .i64] := by kernel_rfl
theorem es23 : esz Try.prog 23 = some 9 := by kernel_rfl
theorem fo25_0 : foff Try.prog 25 0 = some 0 := by kernel_rfl
theorem isl23 : isSl Try.prog 23 = true := by kernel_rfl
theorem mixed : Try.prog.follows .mixedOrders = true := by kernel_rfl
theorem sc23 : sc Try.prog 23 = true := by kernel_rfl
end FactsUniNB
open FactsUniNB

theorem eqN_ok {A A' : Option Addr} {cap cap' : Nat} {L L' : List (List Int)} (hL : Nine L) (hL' : Nine L') {H : Heap} (hS : SlT H Is 9 (.slice A L.length cap) L) (hS' : SlT H Is 9 (.slice A' L'.length cap') L') (hm : L.length ≤ 9223372036854775807) :
    Ret Try.prog 136 [.slice A L.length cap, .slice A' L'.length cap'] H (fun v H' => v = .bool (decide (L = L')) ∧ H' = H) := by
  refine Ret.of_at (N := 26) Try.call136 Try.func136 rfl rfl rfl ?_
  have hE := Ext.refl H

  refine At.region rfl rfl ?_
  refine Reg.pur rfl rfl rfl rfl (Pur.asg rfl) ?_
  refine Reg.nil ?_
  refine At.region rfl rfl ?_
  refine Reg.pur rfl rfl rfl rfl (Pur.mv rfl) ?_
  refine Reg.pur rfl rfl rfl rfl (Pur.lenS isl23 rfl) ?_
  refine Reg.pur rfl rfl rfl rfl (Pur.mv rfl) ?_
  refine Reg.pur rfl rfl rfl rfl (Pur.lenS isl23 rfl) ?_
  refine Reg.pur rfl rfl rfl rfl (Pur.neq rfl rfl) ?_
  refine Reg.nil ?_
  refine At.cond rfl rfl (fun q10 => ?_) (fun q10 => ?_)
  · first | (simp only [decide_eq_true_eq, decide_eq_false_iff_not, Bool.not_eq_true', Bool.not_eq_false', ne_eq, Decidable.not_not, Bool.not_eq_true, Bool.not_eq_false] at q10) | (dsimp only at q10) | skip
    refine At.region rfl rfl ?_
    refine Reg.pur rfl rfl rfl rfl (Pur.asg rfl) ?_
    refine Reg.nil ?_
    refine At.ret rfl Try.func136 rfl ?_
    exact ⟨congrArg Value.bool (decide_eq_false (fun h => by subst h; exact q10 rfl)).symm, rfl⟩
  first | (simp only [decide_eq_true_eq, decide_eq_false_iff_not, Bool.not_eq_true', Bool.not_eq_false', ne_eq, Decidable.not_not, Bool.not_eq_true, Bool.not_eq_false] at q10) | (dsimp only at q10) | skip
  have hll : L.length = L'.length := by omega
  refine At.region rfl rfl ?_
  refine Reg.pur rfl rfl rfl rfl (Pur.mv rfl) ?_
  refine Reg.pur rfl rfl rfl rfl (Pur.lenS isl23 rfl) ?_
  refine Reg.pur rfl rfl rfl rfl (Pur.mv rfl) ?_
  refine Reg.nil ?_
  refine At.loop (σ := Nat) (fun i => [(13, I i), (12, I L.length), (0, .slice A L.length cap), (1, .slice A' L'.length cap')]) (fun i H' => i ≤ L.length ∧ L.take i = L'.take i ∧ H' = H) (fun i => L.length - i) 0 rfl ⟨rfl, rfl, rfl, rfl, trivial⟩ ⟨by omega, rfl, rfl⟩ ?_
  rintro i H ⟨hi, hgo, rfl⟩ ih
  refine At.region rfl rfl ?_
  refine Reg.pur rfl rfl rfl rfl (Pur.lss rfl rfl) ?_
  refine Reg.nil ?_
  refine At.cond rfl rfl (fun q14 => ?_) (fun q14 => ?_)
  · first | (simp only [decide_eq_true_eq, decide_eq_false_iff_not, Bool.not_eq_true', Bool.not_eq_false', ne_eq, Decidable.not_not, Bool.not_eq_true, Bool.not_eq_false] at q14) | (dsimp only at q14) | skip
    refine At.region rfl rfl ?_
    refine Reg.pur rfl rfl rfl rfl (Pur.mv rfl) ?_
    refine Reg.pur rfl rfl rfl rfl (Pur.asg rfl) ?_
    refine Reg.nil ?_
    have hlt : i < L.length := by omega
    have hlt' : i < L'.length := by omega
    obtain ⟨b, o, c, rfl, hB, hd, h9⟩ := sl_at (wide9 hL) hS hlt
    obtain ⟨b', o', c', rfl, hB', hd', h9'⟩ := sl_at (wide9 hL') hS' hlt'
    have hf := fks_ints .i64 L[i]
    have hf' := fks_ints .i64 L'[i]
    rw [hL _ (List.getElem_mem hlt)] at hf
    rw [hL' _ (List.getElem_mem hlt')] at hf'
    have hq := eqs_ints .i64 L[i] L'[i]
    refine At.drawE ((Bks.cons hB.blk (Bks.cons hB'.blk Bks.nil))) [] mixed rfl rfl ?_
    refine RegD.tpur (i := 0) rfl rfl rfl rfl (by kernel_rfl) (Pur.mv rfl) ?_
    refine RegD.tpur (i := 1) rfl rfl rfl rfl (by kernel_rfl) (Pur.mv rfl) ?_
    refine RegD.tpur (i := 2) rfl rfl rfl rfl (by kernel_rfl) (Pur.idx _ es23 rfl rfl (by omega) (by omega)) ?_
    refine RegD.take (i := 3) rfl rfl rfl rfl (by kernel_rfl) (Bks.cons hB.blk (Bks.cons hB'.blk Bks.nil)) (fun H hS => Lod.ldn ag47 rfl hS.hd hd h9) ?_
    refine RegD.tpur (i := 4) rfl rfl rfl rfl (by kernel_rfl) (Pur.mv rfl) ?_
    refine RegD.tpur (i := 5) rfl rfl rfl rfl (by kernel_rfl) (Pur.mv rfl) ?_
    refine RegD.tpur (i := 6) rfl rfl rfl rfl (by kernel_rfl) (Pur.idx _ es23 rfl rfl (by omega) (by omega)) ?_
    refine RegD.take (i := 7) rfl rfl rfl rfl (by kernel_rfl) (Bks.cons hB.blk (Bks.cons hB'.blk Bks.nil)) (fun H hS => Lod.ldn ag47 rfl hS.tl.hd hd' h9') ?_
    refine RegD.tpur (i := 8) rfl rfl rfl rfl (by kernel_rfl) (Pur.neA eqt47 rfl rfl hf hf') ?_
    refine RegD.done (by kernel_rfl) ?_
    refine At.cond rfl rfl (fun q24 => ?_) (fun q24 => ?_)
    · first | (simp only [decide_eq_true_eq, decide_eq_false_iff_not, Bool.not_eq_true', Bool.not_eq_false', ne_eq, Decidable.not_not, Bool.not_eq_true, Bool.not_eq_false] at q24) | (dsimp only at q24) | skip
      refine At.region rfl rfl ?_
      refine Reg.pur rfl rfl rfl rfl (Pur.asg rfl) ?_
      refine Reg.nil ?_
      refine At.ret rfl Try.func136 rfl ?_
      refine ⟨congrArg Value.bool (decide_eq_false (fun h => ?_)).symm, rfl⟩
      subst h
      rw [hq] at q24
      simp at q24
    first | (simp only [decide_eq_true_eq, decide_eq_false_iff_not, Bool.not_eq_true', Bool.not_eq_false', ne_eq, Decidable.not_not, Bool.not_eq_true, Bool.not_eq_false] at q24) | (dsimp only at q24) | skip
    refine At.region rfl rfl ?_
    first | refine Reg.pur rfl rfl rfl rfl (Pur.add64 rfl rfl (by omega)) ?_ | refine Reg.pur rfl rfl rfl rfl (Pur.add64 rfl rfl (by assumption)) ?_ | refine Reg.pur rfl rfl rfl rfl (Pur.add rfl rfl) ?_
    refine Reg.pur rfl rfl rfl rfl (Pur.mv rfl) ?_
    refine Reg.nil ?_
    rw [hq] at q24
    have hq1 : L[i] = L'[i] := by simpa using q24
    exact At.meets rfl (ih (i + 1) _ ⟨by omega, by rw [List.take_succ_eq_append_getElem hlt, List.take_succ_eq_append_getElem hlt', hgo, hq1], rfl⟩ (by omega)) ⟨rfl, rfl, rfl, rfl, trivial⟩
  first | (simp only [decide_eq_true_eq, decide_eq_false_iff_not, Bool.not_eq_true', Bool.not_eq_false', ne_eq, Decidable.not_not, Bool.not_eq_true, Bool.not_eq_false] at q14) | (dsimp only at q14) | skip
  refine At.region rfl rfl ?_
  refine Reg.pur rfl rfl rfl rfl (Pur.asg rfl) ?_
  refine Reg.nil ?_
  refine At.ret rfl Try.func136 rfl ?_
  rw [List.take_of_length_le (by omega), List.take_of_length_le (by omega)] at hgo
  exact ⟨congrArg Value.bool (decide_eq_true hgo).symm, rfl⟩
theorem same_ok {A A' : Option Addr} {cap cap' yb yo zb zo : Nat} {cy cz : List Value} {L L' : List (List Int)} (hL : Nine L) (hL' : Nine L') (hcy : cy[yo]? = some (.slice A L.length cap)) (hcz : cz[zo]? = some (.slice A' L'.length cap')) {H : Heap} (hY : Blk H yb cy) (hZ : Blk H zb cz)
    (hS : SlT H Is 9 (.slice A L.length cap) L) (hS' : SlT H Is 9 (.slice A' L'.length cap') L') (hm : L.length ≤ 9223372036854775807) :
    Ret Try.prog 112 [ptr yb yo, ptr zb zo] H (fun v H' => v = .bool (decide (L = L')) ∧ H' = H) := by
  refine Ret.of_at (N := 14) Try.call112 Try.func112 rfl rfl rfl ?_
  have hE := Ext.refl H

  refine At.region rfl rfl ?_
  refine Reg.pur rfl rfl rfl rfl (Pur.asg rfl) ?_
  refine Reg.nil ?_
  refine At.drawE ((Bks.cons hY.blk (Bks.cons hZ.blk Bks.nil))) [8] mixed rfl rfl ?_
  refine RegD.tpur (i := 0) rfl rfl rfl rfl (by kernel_rfl) (Pur.mv rfl) ?_
  refine RegD.tpur (i := 1) rfl rfl rfl rfl (by kernel_rfl) (Pur.nilc rfl) ?_
  refine RegD.tpur (i := 2) rfl rfl rfl rfl (by kernel_rfl) (Pur.fld _ fo25_0 rfl) ?_
  refine RegD.take (i := 3) rfl rfl rfl rfl (by kernel_rfl) (Bks.cons hY.blk (Bks.cons hZ.blk Bks.nil)) (fun H hS => Lod.ld sc23 rfl hS.hd hcy) ?_
  refine RegD.tpur (i := 4) rfl rfl rfl rfl (by kernel_rfl) (Pur.mv rfl) ?_
  refine RegD.tpur (i := 5) rfl rfl rfl rfl (by kernel_rfl) (Pur.nilc rfl) ?_
  refine RegD.tpur (i := 6) rfl rfl rfl rfl (by kernel_rfl) (Pur.fld _ fo25_0 rfl) ?_
  refine RegD.take (i := 7) rfl rfl rfl rfl (by kernel_rfl) (Bks.cons hY.blk (Bks.cons hZ.blk Bks.nil)) (fun H hS => Lod.ld sc23 rfl hS.tl.hd hcz) ?_
  refine RegD.one (i := 8) (by kernel_rfl) rfl rfl rfl rfl (Does.call rfl (eqN_ok hL hL' hS hS' hm)) ?_
  rintro _ H ⟨rfl, rfl⟩
  refine ⟨fun h => (by cases h), ?_⟩
  refine RegD.tpur (i := 9) rfl rfl rfl rfl (by kernel_rfl) (Pur.asg rfl) ?_
  refine RegD.done (by kernel_rfl) ?_
  refine At.ret rfl Try.func112 rfl ?_
  exact ⟨rfl, rfl⟩
end Go.Proofs.Ytlfillhffpiffaa

namespace Go.Proofs.Ytlfillhffpiffaa
set_option linter.unusedSimpArgs false
set_option linter.unusedVariables false
set_option maxRecDepth 8000
set_option maxHeartbeats 1000000
open Go Go.Fx Go.Proofs
namespace FactsUniNC
theorem ag26 : ag Try.prog 26 = some 4 := by kernel_rfl
theorem ag28 : ag Try.prog 28 = some 5 := by kernel_rfl
theorem arr1_26 : arr1 Try.prog 26 = some 4 := by kernel_rfl
theorem arr26 : arr Try.prog 26 = some (4, 1) := by kernel_rfl
theorem eqt28 : eqT Try.prog 28 = some [.int .i64, .int .i64, .int .i64, .int .i64, .int .i64] := by kernel_rfl
theorem fo133_1 : foff Try.prog 133 1 = some 1 := by kernel_rfl
theorem fo28_0 : foff Try.prog 28 0 = some 0 := by kernel_rfl
theorem fo28_1 : foff Try.prog 28 1 = some 4 := by kernel_rfl
theorem mixed : Try.prog.follows .mixedOrders = true := by kernel_rfl
theorem pl28 : places Try.prog 28 = some [(0, 4), (4, 1)] := by kernel_rfl
theorem sc131 : sc Try.prog 131 = true := by kernel_rfl
theorem sc3 : sc Try.prog 3 = true := by kernel_rfl
theorem zc28 : zc Try.prog 28 = some [.int .i64 0, .int .i64 0, .int .i64 0, .int .i64 0, .int .i64 0] := by kernel_rfl
end FactsUniNC
open FactsUniNC

theorem zv_row : zv Try.prog 28 = some (.agg (Is [0, 0, 0, 0, 0]).toArray) := by kernel_rfl
def rst (g s : List Int) (k : Nat) : List Int := dfS g s k ++ [s.getD 4 0]
theorem rst_len (g s : List Int) (k : Nat) : (rst g s k).length = 5 := rfl
theorem rst_all (g s : List Int) : rst g s 4 = dfR g s := rfl
theorem rst_set (g s : List Int) {k : Nat} (h : k < 4) : (rst g s k).set k (s.getD k 0 - g.getD k 0) = rst g s (k + 1) := by
  unfold rst
  rw [List.set_append_left _ _ (by rw [dfS_len]; exact h), dfS_set g s h]
theorem rst_at (g s : List Int) {k : Nat} (h : k < 4) : (rst g s (k + 1)).getD k 0 = s.getD k 0 - g.getD k 0 := by
  have h1 := dfS_at g s h
  unfold rst
  rw [List.getD_eq_getElem?_getD, List.getElem?_append_left (by rw [dfS_len]; exact h), ← List.getD_eq_getElem?_getD, h1]
theorem neg_of {g s : List Int} {i : Nat} (hi : i < 4) (h : s.getD i 0 - g.getD i 0 < 0) : posR (dfR g s) = false := by
  unfold posR dfR
  rw [decide_eq_false_iff_not]
  simp only [List.getD_cons_zero, List.getD_cons_succ]
  match i, hi with
  | 0, _ => omega
  | 1, _ => omega
  | 2, _ => omega
  | 3, _ => omega
theorem df_none {g s : List Int} (hg5 : g.length = 5) (hs5 : s.length = 5) (h4 : g.getD 4 0 = -1) : dfR g s = [0, 0, 0, 0, -1] ↔ g = s := by
  obtain ⟨a, b, c, d, e, rfl⟩ := row_five hg5
  obtain ⟨a', b', c', d', e', rfl⟩ := row_five hs5
  have h4' : e = -1 := h4
  subst h4'
  simp only [dfR, List.getD_cons_zero, List.getD_cons_succ, List.cons.injEq, and_true]
  omega
def RwM (f : Int → Option Value) (M : List Bt) : Prop := (∀ v, f v = (findR M v).map (fun d => Value.agg (Is d).toArray)) ∧ ∀ v d, findR M v = some d → d.length = 5
theorem rw_upd {f : Int → Option Value} {M M' : List Bt} {g s : List Int} (h : RwM f M) (hp : ¬ posR (dfR g s) = false) (ht : ¬ g.getD 4 0 < 0) (e : instR M g s = some M') :
    RwM (fun j => if j = g.getD 4 0 then some (.agg (Is (rst g s 4)).toArray) else f j) M' := by
  unfold instR at e
  rw [if_neg hp, if_neg ht] at e
  cases hf : findR M (g.getD 4 0) with
  | none =>
    rw [hf] at e
    cases e
    have key : ∀ v, findR (M ++ [.r (g.getD 4 0) (dfR g s)]) v = if v = g.getD 4 0 then some (dfR g s) else findR M v := by
      intro v
      rw [findR_app]
      by_cases hv : v = g.getD 4 0
      · rw [if_pos hv, hv, hf]
        simp [findR]
      · rw [if_neg hv]
        cases findR M v with
        | some u => rfl
        | none => simp only [findR]; rw [if_neg (fun e => hv e.symm)]
    refine ⟨fun v => ?_, fun v d hd => ?_⟩
    · rw [key v, rst_all]
      show (if v = g.getD 4 0 then _ else _) = _
      by_cases hv : v = g.getD 4 0
      · rw [if_pos hv, if_pos hv]; rfl
      · rw [if_neg hv, if_neg hv]; exact h.1 v
    · rw [key v] at hd
      split at hd
      · cases hd; rfl
      · exact h.2 v d hd
  | some d =>
    rw [hf] at e
    dsimp only at e
    split at e
    · rename_i hd
      cases e
      refine ⟨fun v => ?_, h.2⟩
      show (if v = g.getD 4 0 then _ else _) = _
      by_cases hv : v = g.getD 4 0
      · rw [if_pos hv, hv, hf, rst_all, hd]; rfl
      · rw [if_neg hv]; exact h.1 v
    · cases e
theorem mrowG_ok {H : Heap} {mb b1 b2 gb go sb so : Nat} {cg cs : List Value} {f1 f2 : Int → Option Value} {M : List Bt} {g s : List Int} (hg5 : g.length = 5) (hg : rowM g = true) (hs5 : s.length = 5) (hs : rowM s = true)
    (om : Own H mb [.map (some b1), .map (some b2)]) (hM1 : Mp H b1 f1) (hM2 : Mp H b2 f2) (h12 : b1 ≠ b2) (hR : RwM f2 M) (hG : Blk H gb cg) (hcg : (cg.drop go).take 5 = Is g) (hZ : Blk H sb cs) (hcs : (cs.drop so).take 5 = Is s) :
    Ret Try.prog 113 [ptr mb 0, ptr gb go, ptr sb so] H (fun v H' => v = .bool (instR M g s).isSome ∧ ∃ f2', (∀ M', instR M g s = some M' → RwM f2' M') ∧ Mp H' b1 f1 ∧ Mp H' b2 f2' ∧ Chg b1 b2 H H') := by
  have zG := hG.lt
  have zZ := hZ.lt
  have zM := om.lt
  have z1 := hM1.lt
  have z2 := hM2.lt
  have n1 := hM1.ne hG
  have n2 := hM2.ne hG
  have n3 := hM1.ne hZ
  have n4 := hM2.ne hZ
  have n5 := hM1.ne om.blk
  have n6 := hM2.ne om.blk
  have hC : Chg b1 b2 H H := Chg.refl
  have ag := fun i (hi : i < 4) => rowM_all hg hi hg5
  have as' := fun i (hi : i < 4) => rowM_all hs hi hs5
  have at4 := rowM_t hg
  have hgt : ∀ {j : Nat}, j < 5 → cg[go + j]? = some (I (g.getD j 0)) := fun hj => at_tk hcg hj (at_Is (by omega))
  have hst : ∀ {j : Nat}, j < 5 → cs[so + j]? = some (I (s.getD j 0)) := fun hj => at_tk hcs hj (at_Is (by omega))
  refine Ret.of_at (N := 78) Try.call113 Try.func113 rfl rfl rfl ?_
  have hE := Ext.refl H
  have z_hC := hC.lt
  have z_om := om.lt
  have z_hM1 := hM1.lt
  have z_hM2 := hM2.lt
  have z_hG := hG.lt
  have z_hZ := hZ.lt
  refine At.region rfl rfl ?_
  refine Reg.pur rfl rfl rfl rfl (Pur.asg rfl) ?_
  refine Reg.nil ?_
  refine At.region rfl rfl ?_
  refine Reg.pur rfl rfl rfl rfl (Pur.mv rfl) ?_
  refine Reg.pur rfl rfl rfl rfl (Pur.nilc rfl) ?_
  refine Reg.pur rfl rfl rfl rfl (Pur.fld _ fo28_1 rfl) ?_
  refine Reg.lod rfl rfl rfl rfl (Lod.ld sc3 rfl hZ (hst (j := 4) (by omega))) ?_
  refine Reg.pur rfl rfl rfl rfl (Pur.bld (cs := [_, _, _, _, _]) pl28 zc28 rfl rfl ⟨rfl, rfl, rfl, rfl, rfl, rfl⟩) ?_
  refine Reg.op rfl rfl rfl rfl (Does.alloc zc28) ?_
  rintro _ H1_5 ⟨rfl, hn1_5⟩
  have z1_5 := hn1_5.size
  replace hC := hC.ext hn1_5.ext
  replace om := om.ext hn1_5.ext
  replace hM1 := hM1.ext hn1_5.ext
  replace hM2 := hM2.ext hn1_5.ext
  replace hG := hG.ext hn1_5.ext
  replace hZ := hZ.ext hn1_5.ext
  have o1_5 := hn1_5.own
  refine Reg.op0 rfl rfl rfl (Does.stn ag28 rfl rfl (by first | rfl | exact ones_Is _) (by first | rfl | (simp [*]; done)) o1_5 (by first | decide | (simp; done) | (simp; omega) | omega)) ?_
  rintro _ H1_6 hu1_6
  have z1_6 := hu1_6.size
  replace hC := hC.upw hu1_6 (by omega)
  replace om := om.upw hu1_6 (by omega)
  replace hM1 := hM1.upw hu1_6 (by omega)
  replace hM2 := hM2.upw hu1_6 (by omega)
  replace hG := hG.upw hu1_6 (by omega)
  replace hZ := hZ.upw hu1_6 (by omega)
  replace o1_5 := hu1_6.own
  first | rw [over (by first | rfl | (simp; done))] at o1_5 | skip
  refine Reg.nil ?_

  have od : Own H1_6 H.size (Is (rst g s 0)) := o1_5
  have z_od := od.lt
  refine At.region rfl rfl ?_
  refine Reg.pur rfl rfl rfl rfl (Pur.mv rfl) ?_
  refine Reg.pur rfl rfl rfl rfl (Pur.nilc rfl) ?_
  refine Reg.pur rfl rfl rfl rfl (Pur.fld _ fo28_0 rfl) ?_
  refine Reg.lod rfl rfl rfl rfl (Lod.ldn ag26 rfl hG (show _ = Is (g.take 4) by rw [Nat.add_zero]; have h9 := congrArg (List.take 4) hcg; rw [List.take_take] at h9; rw [show min 4 5 = 4 from rfl] at h9; rw [h9]; simp [Is, List.map_take]) (by simp [Is]; omega)) ?_
  refine Reg.pur rfl rfl rfl rfl (Pur.mv rfl) ?_
  refine Reg.nil ?_
  have h4 : (g.take 4).length = 4 := by simp; omega
  refine At.loop (σ := Nat) (fun i => [(21, I i), (20, .agg (Is (g.take 4)).toArray), (7, ptr H.size 0), (0, ptr mb 0), (1, ptr gb go), (2, ptr sb so)]) (fun i H' => i ≤ 4 ∧ Chg b1 b2 H H' ∧ Own H' mb [.map (some b1), .map (some b2)] ∧ Mp H' b1 f1 ∧ Mp H' b2 f2 ∧ Blk H' gb cg ∧ Blk H' sb cs ∧ Own H' H.size (Is (rst g s i)) ∧ posTo g s i = true) (fun i => 4 - i) 0 rfl ⟨rfl, rfl, rfl, rfl, rfl, rfl, trivial⟩ ⟨by omega, hC, om, hM1, hM2, hG, hZ, od, rfl⟩ ?_
  clear hC om hM1 hM2 hG hZ od
  rintro i H2 ⟨hi, hC, om, hM1, hM2, hG, hZ, od, hpo⟩ ih
  have z_hC := hC.lt
  have z_om := om.lt
  have z_hM1 := hM1.lt
  have z_hM2 := hM2.lt
  have z_hG := hG.lt
  have z_hZ := hZ.lt
  have z_od := od.lt
  refine At.region rfl rfl ?_
  refine Reg.pur rfl rfl rfl rfl (Pur.lss rfl rfl) ?_
  refine Reg.nil ?_
  refine At.cond rfl rfl (fun q22 => ?_) (fun q22 => ?_)
  · first | (simp only [decide_eq_true_eq, decide_eq_false_iff_not, Bool.not_eq_true', Bool.not_eq_false', ne_eq, Decidable.not_not, Bool.not_eq_true, Bool.not_eq_false] at q22) | (dsimp only at q22) | skip
    have hlt : i < (g.take 4).length := by omega
    have hat := take4_at hg5 (i := i) (by omega)
    have hai : (Is (g.take 4))[(i : Int).toNat]? = some (I (g.getD i 0)) := by
      have : (Is (g.take 4))[i]? = some (I (g.take 4)[i]) := by simp only [Is, List.getElem?_map, List.getElem?_eq_getElem hlt, Option.map_some]
      rw [hat] at this
      exact this
    have hi4 : i < 4 := by omega
    have hg1 := ag i hi4
    have hs1 := as' i hi4
    refine At.region rfl rfl ?_
    refine Reg.pur rfl rfl rfl rfl (Pur.mv rfl) ?_
    refine Reg.pur rfl rfl rfl rfl (Pur.ixA arr1_26 rfl rfl (by omega) (by omega) hai) ?_
    refine Reg.pur rfl rfl rfl rfl (Pur.asg rfl) ?_
    refine Reg.pur rfl rfl rfl rfl (Pur.asg rfl) ?_
    refine Reg.nil ?_
    refine At.region rfl rfl ?_
    refine Reg.pur rfl rfl rfl rfl (Pur.mv rfl) ?_
    refine Reg.pur rfl rfl rfl rfl (Pur.mv rfl) ?_
    refine Reg.pur rfl rfl rfl rfl (Pur.mv rfl) ?_
    refine Reg.pur rfl rfl rfl rfl (Pur.nilc rfl) ?_
    refine Reg.pur rfl rfl rfl rfl (Pur.fld _ fo28_0 rfl) ?_
    refine Reg.pur rfl rfl rfl rfl (Pur.idxP arr26 rfl rfl (by omega) (by omega)) ?_
    refine Reg.lod rfl rfl rfl rfl (Lod.ld sc3 rfl hZ (show _ = some (I (s.getD i 0)) by rw [show so + 0 + (i : Int).toNat * 1 = so + i by omega]; exact hst (by omega))) ?_
    refine Reg.pur rfl rfl rfl rfl (Pur.mv rfl) ?_
    first | refine Reg.pur rfl rfl rfl rfl (Pur.sub64 rfl rfl (by omega)) ?_ | refine Reg.pur rfl rfl rfl rfl (Pur.sub64 rfl rfl (by assumption)) ?_ | refine Reg.pur rfl rfl rfl rfl (Pur.sub rfl rfl) ?_
    refine Reg.pur rfl rfl rfl rfl (Pur.fld _ fo28_0 rfl) ?_
    refine Reg.pur rfl rfl rfl rfl (Pur.idxP arr26 rfl rfl (by omega) (by omega)) ?_
    refine Reg.op0 rfl rfl rfl (Does.st sc3 rfl rfl rfl od (by simp [rst_len]; omega)) ?_
    rintro _ H5_11 hu5_11
    have z5_11 := hu5_11.size
    replace hC := hC.upw hu5_11 (by omega)
    replace om := om.upw hu5_11 (by omega)
    replace hM1 := hM1.upw hu5_11 (by omega)
    replace hM2 := hM2.upw hu5_11 (by omega)
    replace hG := hG.upw hu5_11 (by omega)
    replace hZ := hZ.upw hu5_11 (by omega)
    replace od := hu5_11.own
    replace od := od.of (c' := Is (rst g s (i + 1))) (by rw [← rst_set g s hi4, show 0 + 0 + (i : Int).toNat * 1 = i by omega]; simp [Is, List.map_set])
    refine Reg.nil ?_
    refine At.region rfl rfl ?_
    refine Reg.pur rfl rfl rfl rfl (Pur.mv rfl) ?_
    refine Reg.pur rfl rfl rfl rfl (Pur.fld _ fo28_0 rfl) ?_
    refine Reg.pur rfl rfl rfl rfl (Pur.idxP arr26 rfl rfl (by omega) (by omega)) ?_
    refine Reg.lod rfl rfl rfl rfl (Lod.ld sc3 rfl od.blk (show _ = some (I ((rst g s (i + 1)).getD i 0)) by rw [show 0 + 0 + (i : Int).toNat * 1 = i by omega]; exact at_Is (by rw [rst_len]; omega))) ?_
    refine Reg.pur rfl rfl rfl rfl (Pur.lss rfl rfl) ?_
    refine Reg.nil ?_
    refine At.cond rfl rfl (fun q40 => ?_) (fun q40 => ?_)
    · first | (simp only [decide_eq_true_eq, decide_eq_false_iff_not, Bool.not_eq_true', Bool.not_eq_false', ne_eq, Decidable.not_not, Bool.not_eq_true, Bool.not_eq_false] at q40) | (dsimp only at q40) | skip
      refine At.region rfl rfl ?_
      refine Reg.pur rfl rfl rfl rfl (Pur.asg rfl) ?_
      refine Reg.nil ?_
      refine At.ret rfl Try.func113 rfl ?_
      have hne : instR M g s = none := by unfold instR; rw [if_pos (neg_of hi4 (by rw [rst_at g s hi4] at q40; exact q40))]
      exact ⟨by rw [hne]; rfl, f2, (fun M' h => by rw [hne] at h; cases h), hM1, hM2, hC⟩
    first | (simp only [decide_eq_true_eq, decide_eq_false_iff_not, Bool.not_eq_true', Bool.not_eq_false', ne_eq, Decidable.not_not, Bool.not_eq_true, Bool.not_eq_false] at q40) | (dsimp only at q40) | skip
    refine At.region rfl rfl ?_
    first | refine Reg.pur rfl rfl rfl rfl (Pur.add64 rfl rfl (by omega)) ?_ | refine Reg.pur rfl rfl rfl rfl (Pur.add64 rfl rfl (by assumption)) ?_ | refine Reg.pur rfl rfl rfl rfl (Pur.add rfl rfl) ?_
    refine Reg.pur rfl rfl rfl rfl (Pur.mv rfl) ?_
    refine Reg.nil ?_
    have hps := posTo_succ g s i
    rw [rst_at g s hi4] at q40
    exact At.meets rfl (ih (i + 1) _ ⟨by omega, hC, om, hM1, hM2, hG, hZ, od, by rw [hps, hpo, decide_eq_true (by omega)]; rfl⟩ (by omega)) ⟨rfl, rfl, rfl, rfl, rfl, rfl, trivial⟩
  first | (simp only [decide_eq_true_eq, decide_eq_false_iff_not, Bool.not_eq_true', Bool.not_eq_false', ne_eq, Decidable.not_not, Bool.not_eq_true, Bool.not_eq_false] at q22) | (dsimp only at q22) | skip
  obtain rfl : i = 4 := by omega
  rw [posTo_all] at hpo
  have hpn : ¬ posR (dfR g s) = false := by rw [hpo]; decide
  clear ih
  refine At.region rfl rfl ?_
  refine Reg.pur rfl rfl rfl rfl (Pur.mv rfl) ?_
  refine Reg.pur rfl rfl rfl rfl (Pur.nilc rfl) ?_
  refine Reg.pur rfl rfl rfl rfl (Pur.fld _ fo28_1 rfl) ?_
  refine Reg.lod rfl rfl rfl rfl (Lod.ld sc3 rfl hG (hgt (j := 4) (by omega))) ?_
  refine Reg.pur rfl rfl rfl rfl (Pur.eql rfl rfl) ?_
  refine Reg.nil ?_
  refine At.cond rfl rfl (fun q46 => ?_) (fun q46 => ?_)
  · first | (simp only [decide_eq_true_eq, decide_eq_false_iff_not, Bool.not_eq_true', Bool.not_eq_false', ne_eq, Decidable.not_not, Bool.not_eq_true, Bool.not_eq_false] at q46) | (dsimp only at q46) | skip
    have hfr := fks_ints .i64 (rst g s 4)
    have hfn := fks_ints .i64 [0, 0, 0, 0, -1]
    have hei := eqs_ints .i64 (rst g s 4) [0, 0, 0, 0, -1]
    refine At.region rfl rfl ?_
    refine Reg.lod rfl rfl rfl rfl (Lod.ldn ag28 rfl od.blk (whole rfl) rfl) ?_
    refine Reg.pur rfl rfl rfl rfl (Pur.bld (cs := [_, _, _, _, _]) pl28 zc28 rfl rfl ⟨rfl, rfl, rfl, rfl, rfl, rfl⟩) ?_
    refine Reg.pur rfl rfl rfl rfl (Pur.eqA eqt28 rfl rfl hfr hfn) ?_
    refine Reg.pur rfl rfl rfl rfl (Pur.asg rfl) ?_
    refine Reg.nil ?_
    refine At.ret rfl Try.func113 rfl ?_
    have hio : instR M g s = if g = s then some M else none := by unfold instR; rw [if_neg hpn, if_pos (by omega)]
    have hdn := df_none hg5 hs5 q46
    refine ⟨?_, f2, fun M' hM' => ?_, hM1, hM2, hC⟩
    · refine (congrArg Value.bool hei).trans ?_
      rw [hio, rst_all]
      by_cases h : g = s
      · rw [if_pos h, decide_eq_true (hdn.2 h)]; rfl
      · rw [if_neg h, decide_eq_false (fun e => h (hdn.1 e))]; rfl
    · rw [hio] at hM'; split at hM' <;> cases hM'; exact hR
  first | (simp only [decide_eq_true_eq, decide_eq_false_iff_not, Bool.not_eq_true', Bool.not_eq_false', ne_eq, Decidable.not_not, Bool.not_eq_true, Bool.not_eq_false] at q46) | (dsimp only at q46) | skip
  have hk0 : ¬ g.getD 4 0 < 0 := by omega
  have hd5 : ((findR M (g.getD 4 0)).getD [0, 0, 0, 0, 0]).length = 5 := by cases hf : findR M (g.getD 4 0) with | none => rfl | some d => exact hR.2 _ d hf
  have hv1 : (f2 (g.getD 4 0)).getD (.agg (Is [0, 0, 0, 0, 0]).toArray) = .agg (Is ((findR M (g.getD 4 0)).getD [0, 0, 0, 0, 0])).toArray := by rw [hR.1]; cases findR M (g.getD 4 0) <;> rfl
  have hv2 : (f2 (g.getD 4 0)).isSome = (findR M (g.getD 4 0)).isSome := by rw [hR.1]; cases findR M (g.getD 4 0) <;> rfl
  refine At.drawM ((And.intro (Bks.cons om.blk (Bks.cons hG.blk Bks.nil)) hM2)) [13] mixed rfl rfl ?_
  refine RegD.tpur (i := 0) rfl rfl rfl rfl (by kernel_rfl) (Pur.mv rfl) ?_
  refine RegD.tpur (i := 1) rfl rfl rfl rfl (by kernel_rfl) (Pur.nilc rfl) ?_
  refine RegD.tpur (i := 2) rfl rfl rfl rfl (by kernel_rfl) (Pur.fld _ fo133_1 rfl) ?_
  refine RegD.take (i := 3) rfl rfl rfl rfl (by kernel_rfl) (And.intro (Bks.cons om.blk (Bks.cons hG.blk Bks.nil)) hM2) (fun H hS => Lod.ld sc131 rfl hS.1.hd rfl) ?_
  refine RegD.tpur (i := 4) rfl rfl rfl rfl (by kernel_rfl) (Pur.mv rfl) ?_
  refine RegD.tpur (i := 5) rfl rfl rfl rfl (by kernel_rfl) (Pur.nilc rfl) ?_
  refine RegD.tpur (i := 6) rfl rfl rfl rfl (by kernel_rfl) (Pur.fld _ fo28_1 rfl) ?_
  refine RegD.take (i := 7) rfl rfl rfl rfl (by kernel_rfl) (And.intro (Bks.cons om.blk (Bks.cons hG.blk Bks.nil)) hM2) (fun H hS => Lod.ld sc3 rfl hS.1.tl.hd (hgt (j := 4) (by omega))) ?_
  refine RegD.take (i := 8) rfl rfl rfl rfl (by kernel_rfl) (And.intro (Bks.cons om.blk (Bks.cons hG.blk Bks.nil)) hM2) (fun H hS => Lod.mlk' Try.underlying131 Try.underlying3 zv_row hv1 hv2 rfl rfl hS.2) ?_
  refine RegD.tpur (i := 9) rfl rfl rfl rfl (by kernel_rfl) (Pur.mv rfl) ?_
  refine RegD.tpur (i := 10) rfl rfl rfl rfl (by kernel_rfl) (Pur.ext rfl rfl) ?_
  refine RegD.tpur (i := 11) rfl rfl rfl rfl (by kernel_rfl) (Pur.ext rfl rfl) ?_
  refine RegD.one (i := 12) (by kernel_rfl) rfl rfl rfl rfl (Does.alloc zc28) ?_
  rintro _ H11_12 ⟨rfl, hn11_12⟩
  have z11_12 := hn11_12.size
  replace hC := hC.ext hn11_12.ext
  replace om := om.ext hn11_12.ext
  replace hM1 := hM1.ext hn11_12.ext
  replace hM2 := hM2.ext hn11_12.ext
  replace hG := hG.ext hn11_12.ext
  replace hZ := hZ.ext hn11_12.ext
  replace od := od.ext hn11_12.ext
  have o11_12 := hn11_12.own
  refine ⟨fun _ _ => (And.intro (Bks.cons om.blk (Bks.cons hG.blk Bks.nil)) hM2), ?_⟩
  refine RegD.one0 (i := 13) (by kernel_rfl) rfl rfl rfl (Does.stn ag28 rfl rfl (ones_Is _) (by rw [List.length_map]; exact hd5) o11_12 (by decide)) ?_
  rintro _ H11_13 hu11_13
  have z11_13 := hu11_13.size
  replace hC := hC.upw hu11_13 (by omega)
  replace om := om.upw hu11_13 (by omega)
  replace hM1 := hM1.upw hu11_13 (by omega)
  replace hM2 := hM2.upw hu11_13 (by omega)
  replace hG := hG.upw hu11_13 (by omega)
  replace hZ := hZ.upw hu11_13 (by omega)
  replace od := od.upw hu11_13 (by omega)
  replace o11_12 := hu11_13.own
  first | rw [over (by first | rfl | (simp; done))] at o11_12 | skip
  refine ⟨fun h => (by cases h), ?_⟩
  refine RegD.tpur (i := 14) rfl rfl rfl rfl (by kernel_rfl) (Pur.asg rfl) ?_
  refine RegD.done (by kernel_rfl) ?_
  refine At.drawE ((Bks.cons om.blk (Bks.cons hG.blk (Bks.cons od.blk Bks.nil)))) [9] mixed rfl rfl ?_
  refine RegD.tpur (i := 0) rfl rfl rfl rfl (by kernel_rfl) (Pur.mv rfl) ?_
  refine RegD.tpur (i := 1) rfl rfl rfl rfl (by kernel_rfl) (Pur.nilc rfl) ?_
  refine RegD.tpur (i := 2) rfl rfl rfl rfl (by kernel_rfl) (Pur.fld _ fo133_1 rfl) ?_
  refine RegD.take (i := 3) rfl rfl rfl rfl (by kernel_rfl) (Bks.cons om.blk (Bks.cons hG.blk (Bks.cons od.blk Bks.nil))) (fun H hS => Lod.ld sc131 rfl hS.hd rfl) ?_
  refine RegD.tpur (i := 4) rfl rfl rfl rfl (by kernel_rfl) (Pur.mv rfl) ?_
  refine RegD.tpur (i := 5) rfl rfl rfl rfl (by kernel_rfl) (Pur.nilc rfl) ?_
  refine RegD.tpur (i := 6) rfl rfl rfl rfl (by kernel_rfl) (Pur.fld _ fo28_1 rfl) ?_
  refine RegD.take (i := 7) rfl rfl rfl rfl (by kernel_rfl) (Bks.cons om.blk (Bks.cons hG.blk (Bks.cons od.blk Bks.nil))) (fun H hS => Lod.ld sc3 rfl hS.tl.hd (hgt (j := 4) (by omega))) ?_
  refine RegD.take (i := 8) rfl rfl rfl rfl (by kernel_rfl) (Bks.cons om.blk (Bks.cons hG.blk (Bks.cons od.blk Bks.nil))) (fun H hS => Lod.ldn ag28 rfl hS.tl.tl.hd (whole rfl) rfl) ?_

  refine RegD.one0 (i := 9) (by kernel_rfl) rfl rfl rfl (Does.mup Try.underlying131 Try.underlying3 rfl rfl rfl hM2) ?_
  rintro _ H12_9 ⟨hm12_9, hbut12_9, hsz12_9⟩
  have z12_9 := hbut12_9.lt
  replace hC := hC.via hbut12_9 (by first | omega | (intro g; omega) | (intro g hg; omega) | (intro g hg h; omega))
  replace om := om.via hbut12_9 (by first | omega | (intro g; omega) | (intro g hg; omega) | (intro g hg h; omega))
  replace hM1 := hM1.via hbut12_9 (by first | omega | (intro g; omega) | (intro g hg; omega) | (intro g hg h; omega))
  replace hG := hG.via hbut12_9 (by first | omega | (intro g; omega) | (intro g hg; omega) | (intro g hg h; omega))
  replace hZ := hZ.via hbut12_9 (by first | omega | (intro g; omega) | (intro g hg; omega) | (intro g hg h; omega))
  replace od := od.via hbut12_9 (by first | omega | (intro g; omega) | (intro g hg; omega) | (intro g hg h; omega))
  replace o11_12 := o11_12.via hbut12_9 (by first | omega | (intro g; omega) | (intro g hg; omega) | (intro g hg h; omega))
  refine ⟨fun h => (by cases h), ?_⟩
  refine RegD.done (by kernel_rfl) ?_
  have hfd := fks_ints .i64 ((findR M (g.getD 4 0)).getD [0, 0, 0, 0, 0])
  rw [hd5] at hfd
  have hfr := fks_ints .i64 (rst g s 4)
  have hei := eqs_ints .i64 ((findR M (g.getD 4 0)).getD [0, 0, 0, 0, 0]) (rst g s 4)
  refine At.region rfl rfl ?_
  refine Reg.pur rfl rfl rfl rfl (Pur.mv rfl) ?_
  refine Reg.pur rfl rfl rfl rfl (Pur.not rfl) ?_
  refine Reg.pur rfl rfl rfl rfl (Pur.mv rfl) ?_
  refine Reg.case 73 rfl (fun q73 => ?_) (fun q73 => ?_)
  · first | (simp only [decide_eq_true_eq, decide_eq_false_iff_not, Bool.not_eq_true', Bool.not_eq_false', ne_eq, Decidable.not_not, Bool.not_eq_true, Bool.not_eq_false] at q73) | (dsimp only at q73) | skip
    refine Reg.skip rfl rfl rfl rfl rfl rfl rfl ?_
    refine Reg.skip rfl rfl rfl rfl rfl rfl rfl ?_
    refine Reg.skip rfl rfl rfl rfl rfl rfl rfl ?_
    refine Reg.pur rfl rfl rfl rfl (Pur.pickT rfl rfl) ?_
    refine Reg.pur rfl rfl rfl rfl (Pur.asg rfl) ?_
    refine Reg.nil ?_
    refine At.ret rfl Try.func113 rfl ?_
    have hio : instR M g s = match findR M (g.getD 4 0) with | none => some (M ++ [.r (g.getD 4 0) (dfR g s)]) | some d => if d = dfR g s then some M else none := by unfold instR; rw [if_neg hpn, if_neg hk0]; try (cases findR M (g.getD 4 0) <;> rfl)
    refine ⟨?_, _, fun M' hM' => rw_upd hR hpn hk0 hM', hM1, hm12_9, hC⟩
    cases hf : findR M (g.getD 4 0) with
    | none => first | (rw [hf] at q73; cases q73; done) | (rw [hio, hf]; rfl)
    | some d =>
      first
      | (rw [hf] at q73; cases q73; done)
      | (rw [hf] at hei
         refine (congrArg Value.bool hei).trans ?_
         rw [hio, hf, rst_all]
         show Value.bool (decide (d = dfR g s)) = Value.bool (if d = dfR g s then some M else none).isSome
         by_cases h : d = dfR g s
         · rw [if_pos h, decide_eq_true h]; rfl
         · rw [if_neg h, decide_eq_false h]; rfl)
  first | (simp only [decide_eq_true_eq, decide_eq_false_iff_not, Bool.not_eq_true', Bool.not_eq_false', ne_eq, Decidable.not_not, Bool.not_eq_true, Bool.not_eq_false] at q73) | (dsimp only at q73) | skip
  refine Reg.glod rfl rfl rfl rfl rfl rfl (Lod.ldn ag28 rfl o11_12.blk (whole (by rw [List.length_map]; exact hd5)) (by rw [List.length_map]; exact hd5)) ?_
  refine Reg.glod rfl rfl rfl rfl rfl rfl (Lod.ldn ag28 rfl od.blk (whole rfl) rfl) ?_
  refine Reg.gpur rfl rfl rfl rfl rfl rfl (Pur.eqA eqt28 rfl rfl hfd hfr) ?_
  refine Reg.pur rfl rfl rfl rfl (Pur.pickF rfl rfl) ?_
  refine Reg.pur rfl rfl rfl rfl (Pur.asg rfl) ?_
  refine Reg.nil ?_
  refine At.ret rfl Try.func113 rfl ?_
  have hio : instR M g s = match findR M (g.getD 4 0) with | none => some (M ++ [.r (g.getD 4 0) (dfR g s)]) | some d => if d = dfR g s then some M else none := by unfold instR; rw [if_neg hpn, if_neg hk0]; try (cases findR M (g.getD 4 0) <;> rfl)
  refine ⟨?_, _, fun M' hM' => rw_upd hR hpn hk0 hM', hM1, hm12_9, hC⟩
  cases hf : findR M (g.getD 4 0) with
  | none => first | (rw [hf] at q73; cases q73; done) | (rw [hio, hf]; rfl)
  | some d =>
    first
    | (rw [hf] at q73; cases q73; done)
    | (rw [hf] at hei
       refine (congrArg Value.bool hei).trans ?_
       rw [hio, hf, rst_all]
       show Value.bool (decide (d = dfR g s)) = Value.bool (if d = dfR g s then some M else none).isSome
       by_cases h : d = dfR g s
       · rw [if_pos h, decide_eq_true h]; rfl
       · rw [if_neg h, decide_eq_false h]; rfl)
end Go.Proofs.Ytlfillhffpiffaa

namespace Go.Proofs.Ytlfillhffpiffaa
set_option linter.unusedSimpArgs false
set_option linter.unusedVariables false
set_option maxRecDepth 8000
set_option maxHeartbeats 1000000
open Go Go.Fx Go.Proofs
namespace FactsUniZ
theorem ag25 : ag Try.prog 25 = some 1 := by kernel_rfl
theorem fo25_0 : foff Try.prog 25 0 = some 0 := by kernel_rfl
theorem sc23 : sc Try.prog 23 = true := by kernel_rfl
end FactsUniZ
open FactsUniZ

theorem enc_inj {t u : Tm} (ht : t.ok) (hu : u.ok) (htz : t.sz ≤ 256) (h : t.enc 0 = u.enc 0) : t = u := by
  suffices key : ∀ (t u : Tm) (k : Int), t.ok → u.ok → t.enc k = u.enc k → t = u from key t u 0 ht hu h
  intro t
  induction t with
  | bas k =>
    intro u j _ _ h
    cases u with
    | bas l => cases k <;> cases l <;> first | rfl | (simp [Tm.enc] at h)
    | var v => cases k <;> simp [Tm.enc] at h
    | fn a r b =>
      have := congrArg List.length h
      rw [Tm.enc_len, Tm.enc_len] at this
      have := a.sz_pos; have := b.sz_pos
      simp only [Tm.sz] at *; omega
  | var v =>
    intro u j _ _ h
    cases u with
    | bas l => cases l <;> simp [Tm.enc] at h
    | var w => simp [Tm.enc] at h; rw [h]
    | fn a r b =>
      have := congrArg List.length h
      rw [Tm.enc_len, Tm.enc_len] at this
      have := a.sz_pos; have := b.sz_pos
      simp only [Tm.sz] at *; omega
  | fn a r b iha ihb =>
    intro u j ht hu h
    cases u with
    | bas l =>
      have := congrArg List.length h
      rw [Tm.enc_len, Tm.enc_len] at this
      have := a.sz_pos; have := b.sz_pos
      simp only [Tm.sz] at *; omega
    | var w =>
      have := congrArg List.length h
      rw [Tm.enc_len, Tm.enc_len] at this
      have := a.sz_pos; have := b.sz_pos
      simp only [Tm.sz] at *; omega
    | fn a' r' b' =>
      simp only [Tm.enc] at h
      have hlen := congrArg List.length h
      simp only [List.length_append, Tm.enc_len, List.length_singleton] at hlen
      have h2 := List.append_inj_right' h rfl
      have h1 := List.append_inj_left' h rfl
      simp only [List.cons.injEq, and_true, List.cons_append, List.nil_append] at h2
      have hsz : a.sz = a'.sz := by have := h2.2.2.1; omega
      have e1 := List.append_inj_left h1 (by rw [Tm.enc_len, Tm.enc_len, hsz])
      have e2 := List.append_inj_right h1 (by rw [Tm.enc_len, Tm.enc_len, hsz])
      rw [← hsz] at e2
      rw [iha a' j ht.1 hu.1 e1, ihb b' _ ht.2.2.2 hu.2.2.2 e2, h2.2.2.2.2]
end Go.Proofs.Ytlfillhffpiffaa

namespace Go.Proofs.Ytlfillhffpiffaa
set_option linter.unusedSimpArgs false
set_option linter.unusedVariables false
set_option maxRecDepth 8000
set_option maxHeartbeats 600000
open Go Go.Fx Go.Proofs
namespace FactsUniND
theorem ag25 : ag Try.prog 25 = some 1 := by kernel_rfl
theorem fo133_0 : foff Try.prog 133 0 = some 0 := by kernel_rfl
theorem fo47_0 : foff Try.prog 47 0 = some 0 := by kernel_rfl
theorem fo47_1 : foff Try.prog 47 1 = some 1 := by kernel_rfl
theorem fo47_4 : foff Try.prog 47 4 = some 4 := by kernel_rfl
theorem mixed : Try.prog.follows .mixedOrders = true := by kernel_rfl
theorem sc130 : sc Try.prog 130 = true := by kernel_rfl
theorem sc3 : sc Try.prog 3 = true := by kernel_rfl
theorem zc25 : zc Try.prog 25 = some [.slice none 0 0] := by kernel_rfl
end FactsUniND
open FactsUniND

theorem zv_type : zv Try.prog 25 = some (.agg #[.slice none 0 0]) := by kernel_rfl
theorem at0 (v : Value) : ([v] : List Value)[0]? = some v := rfl
theorem one_at {c : List Value} {o : Nat} {v : Value} (h : c[o]? = some v) : (c.drop o).take 1 = [v] := by
  have hl : o < c.length := by
    rcases Nat.lt_or_ge o c.length with h' | h'
    · exact h'
    · rw [List.getElem?_eq_none h'] at h; cases h
  rw [List.drop_eq_getElem_cons hl]
  rw [List.getElem?_eq_getElem hl] at h
  simp at h
  simp [h]
def TyM (H : Heap) (f : Int → Option Value) (M : List Bt) : Prop := ∀ v, (findT M v = none → f v = none) ∧ ∀ t, findT M v = some t → t.ok ∧ t.sz ≤ 256 ∧ ∃ A cap, f v = some (.agg #[.slice A (t.enc 0).length cap]) ∧ SlT H Is 9 (.slice A (t.enc 0).length cap) (t.enc 0)
theorem TyM.chg {b1 b2 : Nat} {H H' : Heap} {f g1 g2 : Int → Option Value} {M : List Bt} (h : TyM H f M) (h1 : Mp H b1 g1) (h2 : Mp H b2 g2) (hC : Chg b1 b2 H H') : TyM H' f M := fun v =>
  ⟨(h v).1, fun t ht => by
    obtain ⟨k1, k2, A, cap, k3, k4⟩ := (h v).2 t ht
    exact ⟨k1, k2, A, cap, k3, sl_but k4 h1 h2 hC⟩⟩
theorem ty_upd {H : Heap} {f : Int → Option Value} {M M' : List Bt} {v : Int} {s : Tm} {A : Option Addr} {cap : Nat} (h : TyM H f M) (hs : SlT H Is 9 (.slice A (s.enc 0).length cap) (s.enc 0)) (ho : s.ok) (hz : s.sz ≤ 256) (e : inst M (.var v) s = some M') :
    TyM H (fun j => if j = v then some (.agg #[.slice A (s.enc 0).length cap]) else f j) M' := by
  have key : ∀ w, findT M' w = if w = v then some s else findT M w := by
    intro w
    cases hf : findT M v with
    | none =>
      simp only [inst, hf] at e
      cases e
      rw [findT_app]
      by_cases hw : w = v
      · rw [if_pos hw, hw, hf]; simp [findT]
      · rw [if_neg hw]
        cases findT M w with
        | some u => rfl
        | none => simp only [findT]; rw [if_neg (fun e => hw e.symm)]
    | some t =>
      simp only [inst, hf] at e
      split at e
      · rename_i ht
        cases e
        by_cases hw : w = v
        · rw [if_pos hw, hw, hf, ht]
        · rw [if_neg hw]
      · cases e
  intro w
  rw [key w]
  by_cases hw : w = v
  · refine ⟨fun h0 => (by rw [if_pos hw] at h0; cases h0), fun t ht => ?_⟩
    rw [if_pos hw] at ht
    cases ht
    exact ⟨ho, hz, A, cap, if_pos hw, hs⟩
  · refine ⟨fun h0 => ?_, fun t ht => ?_⟩
    · rw [if_neg hw] at h0
      exact (if_neg hw).trans ((h w).1 h0)
    · rw [if_neg hw] at ht
      obtain ⟨k1, k2, A', cap', k3, k4⟩ := (h w).2 t ht
      exact ⟨k1, k2, A', cap', (if_neg hw).trans k3, k4⟩
theorem rw_t {f : Int → Option Value} {M M' : List Bt} {v : Int} {s : Tm} (h : RwM f M) (e : inst M (.var v) s = some M') : RwM f M' := by
  have key : ∀ w, findR M' w = findR M w := by
    intro w
    cases hf : findT M v with
    | none =>
      simp only [inst, hf] at e
      cases e
      rw [findR_app]
      cases findR M w with
      | some u => rfl
      | none => rfl
    | some t =>
      simp only [inst, hf] at e
      split at e
      · cases e; rfl
      · cases e
  exact ⟨fun w => by rw [key w]; exact h.1 w, fun w d hd => h.2 w d (by rw [← key w]; exact hd)⟩
theorem ty_r {H : Heap} {f : Int → Option Value} {M M' : List Bt} {g s : List Int} (h : TyM H f M) (e : instR M g s = some M') : TyM H f M' := by
  have key : ∀ w, findT M' w = findT M w := by
    intro w
    unfold instR at e
    split at e
    · cases e
    · split at e
      · split at e
        · cases e; rfl
        · cases e
      · split at e
        · cases e
          rw [findT_app]
          cases findT M w with
          | some u => rfl
          | none => rfl
        · split at e
          · cases e; rfl
          · cases e
  exact fun w => ⟨fun h0 => (h w).1 (by rw [← key w]; exact h0), fun t ht => (h w).2 t (by rw [← key w]; exact ht)⟩
def TyR (b1 b2 : Nat) (H : Heap) (r : Option (List Bt)) (v : Value) (H' : Heap) : Prop := v = .bool r.isSome ∧ ∃ f1' f2', (∀ M', r = some M' → TyM H' f1' M' ∧ RwM f2' M') ∧ Mp H' b1 f1' ∧ Mp H' b2 f2' ∧ Chg b1 b2 H H'
theorem inst_leaf {M : List Bt} {p q : Tm} (h2 : p.lst.getD 0 0 ≠ 2) (h : p.lst.getD 0 0 ≠ q.lst.getD 0 0 ∨ p.lst.getD 0 0 ≠ 3) : inst M p q = if p.lst.getD 0 0 = q.lst.getD 0 0 then some M else none := by
  cases p with
  | var v => exact absurd rfl h2
  | bas k =>
    cases q with
    | bas l => cases k <;> cases l <;> rfl
    | var v => cases k <;> rfl
    | fn a r b => cases k <;> rfl
  | fn a r b =>
    cases q with
    | bas l => cases l <;> rfl
    | var v => rfl
    | fn a' r' b' => exact (h.elim (fun h => absurd rfl h) (fun h => absurd rfl h))
theorem typedG_ok {mb b1 b2 : Nat} (h12 : b1 ≠ b2) : ∀ (n : Nat) (p q : Tm), p.sz ≤ n → p.ok → p.sz ≤ 256 → q.ok → q.sz ≤ 256 → ∀ {H : Heap} {yb yo zb zo cp cq : Nat} {Ap Aq : Option Addr} {cy cz : List Value} {f1 f2 : Int → Option Value} {M : List Bt},
    Own H mb [.map (some b1), .map (some b2)] → Mp H b1 f1 → Mp H b2 f2 → TyM H f1 M → RwM f2 M → Blk H yb cy → cy[yo]? = some (.slice Ap (p.enc 0).length cp) → SlT H Is 9 (.slice Ap (p.enc 0).length cp) (p.enc 0) → Blk H zb cz → cz[zo]? = some (.slice Aq (q.enc 0).length cq) → SlT H Is 9 (.slice Aq (q.enc 0).length cq) (q.enc 0) →
    Ret Try.prog 80 [ptr mb 0, ptr yb yo, ptr zb zo] H (TyR b1 b2 H (inst M p q)) := by
  intro n
  induction n with
  | zero => intro p _ h; have := p.sz_pos; omega
  | succ n ihn =>
  intro p q hn hpo hpz hqo hqz H yb yo zb zo cp cq Ap Aq cy cz f1 f2 M om hM1 hM2 hTy hRw hY hcy hS1 hZ hcz hS2
  have hM10 := hM1
  have hM20 := hM2
  have hC : Chg b1 b2 H H := Chg.refl
  have hpn := p.enc_len 0
  have hqn := q.enc_len 0
  have hp1 := p.sz_pos
  have hq1 := q.sz_pos
  obtain ⟨bp, op, kp, rfl, hBp, hdp, hxp, hatp⟩ := el_cells (p.enc_nine 0 hpo) hS1 (z := ((p.enc 0).length : Int) - 1) (by omega) (by omega)
  obtain ⟨bq, oq, kq, rfl, hBq, hdq, hxq, hatq⟩ := el_cells (q.enc_nine 0 hqo) hS2 (z := ((q.enc 0).length : Int) - 1) (by omega) (by omega)
  rw [lst_el, show (((p.enc 0).length : Int) - 1).toNat = (p.enc 0).length - 1 by omega] at hdp hatp
  rw [lst_el, show (((q.enc 0).length : Int) - 1).toNat = (q.enc 0).length - 1 by omega] at hdq hatq
  rw [lst_el] at hxp hxq
  have n1 := hM1.ne hBp
  have n2 := hM2.ne hBp
  have n3 := hM1.ne hBq
  have n4 := hM2.ne hBq
  have n5 := hM1.ne om.blk
  have n6 := hM2.ne om.blk
  have n7 := hM1.ne hZ
  have n8 := hM2.ne hZ
  have n9 := hM1.ne hY
  have n10 := hM2.ne hY
  have z1 := hM1.lt
  have z2 := hM2.lt
  refine Ret.of_at (N := 104) Try.call80 Try.func80 rfl rfl rfl ?_
  have hE := Ext.refl H
  have z_hC := hC.lt
  have z_om := om.lt
  have z_hM1 := hM1.lt
  have z_hM2 := hM2.lt
  have z_hBp := hBp.lt
  have z_hBq := hBq.lt
  have z_hY := hY.lt
  have z_hZ := hZ.lt
  refine At.region rfl rfl ?_
  refine Reg.pur rfl rfl rfl rfl (Pur.asg rfl) ?_
  refine Reg.nil ?_
  refine At.region rfl rfl ?_
  refine Reg.pur rfl rfl rfl rfl (Pur.mv rfl) ?_
  refine Reg.op rfl rfl rfl rfl (Does.call rfl (root_ok hcy rfl hY (by omega) (by omega))) ?_
  rintro _ H ⟨rfl, rfl⟩
  refine Reg.pur rfl rfl rfl rfl (Pur.mv rfl) ?_
  refine Reg.op rfl rfl rfl rfl (Does.call rfl (root_ok hcz rfl hZ (by omega) (by omega))) ?_
  rintro _ H ⟨rfl, rfl⟩
  refine Reg.pur rfl rfl rfl rfl (Pur.asg rfl) ?_
  refine Reg.pur rfl rfl rfl rfl (Pur.asg rfl) ?_
  refine Reg.nil ?_
  refine At.region rfl rfl ?_
  refine Reg.pur rfl rfl rfl rfl (Pur.mv rfl) ?_
  refine Reg.pur rfl rfl rfl rfl (Pur.nilc rfl) ?_
  refine Reg.pur rfl rfl rfl rfl (Pur.fld _ fo47_0 rfl) ?_
  refine Reg.lod rfl rfl rfl rfl (Lod.ld sc3 rfl hBp (hatp 0 (by decide))) ?_
  refine Reg.pur rfl rfl rfl rfl (Pur.eql rfl rfl) ?_
  refine Reg.nil ?_
  refine At.cond rfl rfl (fun q23 => ?_) (fun q23 => ?_)
  · first | (simp only [decide_eq_true_eq, decide_eq_false_iff_not, Bool.not_eq_true', Bool.not_eq_false', ne_eq, Decidable.not_not, Bool.not_eq_true, Bool.not_eq_false] at q23) | (dsimp only at q23) | skip
    obtain ⟨v, rfl⟩ := lst_var q23
    obtain ⟨Av, lv, cv, hv1, hv2, hv3⟩ : ∃ Av lv cv, (f1 v).getD (.agg #[.slice none 0 0]) = .agg #[.slice Av lv cv] ∧ (f1 v).isSome = (findT M v).isSome ∧ ∀ t, findT M v = some t → t.ok ∧ t.sz ≤ 256 ∧ lv = (t.enc 0).length ∧ SlT H Is 9 (.slice Av lv cv) (t.enc 0) := by
      cases hf : findT M v with
      | none => exact ⟨none, 0, 0, by rw [(hTy v).1 hf]; rfl, by rw [(hTy v).1 hf]; rfl, fun t ht => by cases ht⟩
      | some t =>
        obtain ⟨k1, k2, A, cap, k3, k4⟩ := (hTy v).2 t hf
        exact ⟨A, _, cap, by rw [k3]; rfl, by rw [k3]; rfl, fun t' ht => by cases ht; exact ⟨k1, k2, rfl, k4⟩⟩
    refine At.drawM ((And.intro (Bks.cons om.blk (Bks.cons hBp.blk Bks.nil)) hM1)) [13] mixed rfl rfl ?_
    refine RegD.tpur (i := 0) rfl rfl rfl rfl (by kernel_rfl) (Pur.mv rfl) ?_
    refine RegD.tpur (i := 1) rfl rfl rfl rfl (by kernel_rfl) (Pur.nilc rfl) ?_
    refine RegD.tpur (i := 2) rfl rfl rfl rfl (by kernel_rfl) (Pur.fld _ fo133_0 rfl) ?_
    refine RegD.take (i := 3) rfl rfl rfl rfl (by kernel_rfl) (And.intro (Bks.cons om.blk (Bks.cons hBp.blk Bks.nil)) hM1) (fun H hS => Lod.ld sc130 rfl hS.1.hd rfl) ?_
    refine RegD.tpur (i := 4) rfl rfl rfl rfl (by kernel_rfl) (Pur.mv rfl) ?_
    refine RegD.tpur (i := 5) rfl rfl rfl rfl (by kernel_rfl) (Pur.nilc rfl) ?_
    refine RegD.tpur (i := 6) rfl rfl rfl rfl (by kernel_rfl) (Pur.fld _ fo47_1 rfl) ?_
    refine RegD.take (i := 7) rfl rfl rfl rfl (by kernel_rfl) (And.intro (Bks.cons om.blk (Bks.cons hBp.blk Bks.nil)) hM1) (fun H hS => Lod.ld sc3 rfl hS.1.tl.hd (hatp 1 (by decide))) ?_
    refine RegD.take (i := 8) rfl rfl rfl rfl (by kernel_rfl) (And.intro (Bks.cons om.blk (Bks.cons hBp.blk Bks.nil)) hM1) (fun H hS => Lod.mlk' (k := v) Try.underlying130 Try.underlying3 zv_type hv1 hv2 rfl rfl hS.2) ?_
    refine RegD.tpur (i := 9) rfl rfl rfl rfl (by kernel_rfl) (Pur.mv rfl) ?_
    refine RegD.tpur (i := 10) rfl rfl rfl rfl (by kernel_rfl) (Pur.ext rfl rfl) ?_
    refine RegD.tpur (i := 11) rfl rfl rfl rfl (by kernel_rfl) (Pur.ext rfl rfl) ?_
    refine RegD.one (i := 12) (by kernel_rfl) rfl rfl rfl rfl (Does.alloc zc25) ?_
    rintro _ H3_12 ⟨rfl, hn3_12⟩
    have z3_12 := hn3_12.size
    replace hC := hC.ext hn3_12.ext
    replace om := om.ext hn3_12.ext
    replace hM1 := hM1.ext hn3_12.ext
    replace hM2 := hM2.ext hn3_12.ext
    replace hBp := hBp.ext hn3_12.ext
    replace hBq := hBq.ext hn3_12.ext
    replace hY := hY.ext hn3_12.ext
    replace hZ := hZ.ext hn3_12.ext
    have o3_12 := hn3_12.own
    refine ⟨fun _ _ => (And.intro (Bks.cons om.blk (Bks.cons hBp.blk Bks.nil)) hM1), ?_⟩
    refine RegD.one0 (i := 13) (by kernel_rfl) rfl rfl rfl (Does.stn ag25 rfl rfl (by first | rfl | exact ones_Is _) (by first | rfl | (simp [*]; done)) o3_12 (by first | decide | (simp; done) | (simp; omega) | omega)) ?_
    rintro _ H3_13 hu3_13
    have z3_13 := hu3_13.size
    replace hC := hC.upw hu3_13 (by omega)
    replace om := om.upw hu3_13 (by omega)
    replace hM1 := hM1.upw hu3_13 (by omega)
    replace hM2 := hM2.upw hu3_13 (by omega)
    replace hBp := hBp.upw hu3_13 (by omega)
    replace hBq := hBq.upw hu3_13 (by omega)
    replace hY := hY.upw hu3_13 (by omega)
    replace hZ := hZ.upw hu3_13 (by omega)
    replace o3_12 := hu3_13.own
    first | rw [over (by first | rfl | (simp; done))] at o3_12 | skip
    refine ⟨fun h => (by cases h), ?_⟩
    refine RegD.tpur (i := 14) rfl rfl rfl rfl (by kernel_rfl) (Pur.asg rfl) ?_
    refine RegD.done (by kernel_rfl) ?_
    refine At.drawE ((Bks.cons om.blk (Bks.cons hBp.blk (Bks.cons hZ.blk Bks.nil)))) [11] mixed rfl rfl ?_
    refine RegD.tpur (i := 0) rfl rfl rfl rfl (by kernel_rfl) (Pur.mv rfl) ?_
    refine RegD.tpur (i := 1) rfl rfl rfl rfl (by kernel_rfl) (Pur.nilc rfl) ?_
    refine RegD.tpur (i := 2) rfl rfl rfl rfl (by kernel_rfl) (Pur.fld _ fo133_0 rfl) ?_
    refine RegD.take (i := 3) rfl rfl rfl rfl (by kernel_rfl) (Bks.cons om.blk (Bks.cons hBp.blk (Bks.cons hZ.blk Bks.nil))) (fun H hS => Lod.ld sc130 rfl hS.hd rfl) ?_
    refine RegD.tpur (i := 4) rfl rfl rfl rfl (by kernel_rfl) (Pur.mv rfl) ?_
    refine RegD.tpur (i := 5) rfl rfl rfl rfl (by kernel_rfl) (Pur.nilc rfl) ?_
    refine RegD.tpur (i := 6) rfl rfl rfl rfl (by kernel_rfl) (Pur.fld _ fo47_1 rfl) ?_
    refine RegD.take (i := 7) rfl rfl rfl rfl (by kernel_rfl) (Bks.cons om.blk (Bks.cons hBp.blk (Bks.cons hZ.blk Bks.nil))) (fun H hS => Lod.ld sc3 rfl hS.tl.hd (hatp 1 (by decide))) ?_
    refine RegD.tpur (i := 8) rfl rfl rfl rfl (by kernel_rfl) (Pur.mv rfl) ?_
    refine RegD.tpur (i := 9) rfl rfl rfl rfl (by kernel_rfl) (Pur.nilc rfl) ?_
    refine RegD.take (i := 10) rfl rfl rfl rfl (by kernel_rfl) (Bks.cons om.blk (Bks.cons hBp.blk (Bks.cons hZ.blk Bks.nil))) (fun H hS => Lod.ldn ag25 rfl hS.tl.tl.hd (one_at hcz) rfl) ?_

    refine RegD.one0 (i := 11) (by kernel_rfl) rfl rfl rfl (Does.mup (k := v) Try.underlying130 Try.underlying3 rfl rfl rfl hM1) ?_
    rintro _ H4_11 ⟨hm4_11, hbut4_11, hsz4_11⟩
    have z4_11 := hbut4_11.lt
    replace hC := hC.via hbut4_11 (by first | omega | (intro g; omega) | (intro g hg; omega) | (intro g hg h; omega))
    replace om := om.via hbut4_11 (by first | omega | (intro g; omega) | (intro g hg; omega) | (intro g hg h; omega))
    replace hM2 := hM2.via hbut4_11 (by first | omega | (intro g; omega) | (intro g hg; omega) | (intro g hg h; omega))
    replace hBp := hBp.via hbut4_11 (by first | omega | (intro g; omega) | (intro g hg; omega) | (intro g hg h; omega))
    replace hBq := hBq.via hbut4_11 (by first | omega | (intro g; omega) | (intro g hg; omega) | (intro g hg h; omega))
    replace hY := hY.via hbut4_11 (by first | omega | (intro g; omega) | (intro g hg; omega) | (intro g hg h; omega))
    replace hZ := hZ.via hbut4_11 (by first | omega | (intro g; omega) | (intro g hg; omega) | (intro g hg h; omega))
    replace o3_12 := o3_12.via hbut4_11 (by first | omega | (intro g; omega) | (intro g hg; omega) | (intro g hg h; omega))
    refine ⟨fun h => (by cases h), ?_⟩
    refine RegD.done (by kernel_rfl) ?_
    refine At.region rfl rfl ?_
    refine Reg.pur rfl rfl rfl rfl (Pur.mv rfl) ?_
    refine Reg.pur rfl rfl rfl rfl (Pur.not rfl) ?_
    refine Reg.pur rfl rfl rfl rfl (Pur.mv rfl) ?_
    refine Reg.case 49 rfl (fun q49 => ?_) (fun q49 => ?_)
    · first | (simp only [decide_eq_true_eq, decide_eq_false_iff_not, Bool.not_eq_true', Bool.not_eq_false', ne_eq, Decidable.not_not, Bool.not_eq_true, Bool.not_eq_false] at q49) | (dsimp only at q49) | skip
      refine Reg.skip rfl rfl rfl rfl rfl rfl rfl ?_
      refine Reg.skip rfl rfl rfl rfl rfl rfl rfl ?_
      refine Reg.pur rfl rfl rfl rfl (Pur.pickT rfl rfl) ?_
      refine Reg.pur rfl rfl rfl rfl (Pur.asg rfl) ?_
      refine Reg.nil ?_
      refine At.ret rfl Try.func80 rfl ?_
      refine ⟨?_, _, f2, fun M' hM' => ⟨ty_upd (hTy.chg hM10 hM20 hC) (sl_but hS2 hM10 hM20 hC) hqo hqz hM', rw_t hRw hM'⟩, hm4_11, hM2, hC⟩
      first
      | (have h0 : findT M v = none := by simpa using q49
         simp only [inst, h0]; rfl)
      | (simp only [inst, hf]
         by_cases h : t = q
         · rw [if_pos h, decide_eq_true (by rw [h])]; rfl
         · rw [if_neg h, decide_eq_false (fun e => h (enc_inj t1 hqo t2 e))]; rfl)
    first | (simp only [decide_eq_true_eq, decide_eq_false_iff_not, Bool.not_eq_true', Bool.not_eq_false', ne_eq, Decidable.not_not, Bool.not_eq_true, Bool.not_eq_false] at q49) | (dsimp only at q49) | skip
    refine Reg.gpur rfl rfl rfl rfl rfl rfl (Pur.mv rfl) ?_
    obtain ⟨t, hf⟩ := Option.isSome_iff_exists.1 q49
    obtain ⟨t1, t2, rfl, t3⟩ := hv3 t hf
    refine Reg.gop rfl rfl rfl rfl rfl rfl (Does.call rfl (same_ok (t.enc_nine 0 t1) (q.enc_nine 0 hqo) rfl hcz o3_12.blk hZ (sl_but t3 hM10 hM20 hC) (sl_but hS2 hM10 hM20 hC) (by rw [Tm.enc_len]; omega))) ?_
    rintro _ H4_11 ⟨rfl, rfl⟩
    refine Reg.pur rfl rfl rfl rfl (Pur.pickF rfl rfl) ?_
    refine Reg.pur rfl rfl rfl rfl (Pur.asg rfl) ?_
    refine Reg.nil ?_
    refine At.ret rfl Try.func80 rfl ?_
    refine ⟨?_, _, f2, fun M' hM' => ⟨ty_upd (hTy.chg hM10 hM20 hC) (sl_but hS2 hM10 hM20 hC) hqo hqz hM', rw_t hRw hM'⟩, hm4_11, hM2, hC⟩
    first
    | (have h0 : findT M v = none := by simpa using q49
       simp only [inst, h0]; rfl)
    | (simp only [inst, hf]
       by_cases h : t = q
       · rw [if_pos h, decide_eq_true (by rw [h])]; rfl
       · rw [if_neg h, decide_eq_false (fun e => h (enc_inj t1 hqo t2 e))]; rfl)
  first | (simp only [decide_eq_true_eq, decide_eq_false_iff_not, Bool.not_eq_true', Bool.not_eq_false', ne_eq, Decidable.not_not, Bool.not_eq_true, Bool.not_eq_false] at q23) | (dsimp only at q23) | skip
  refine At.drawE ((Bks.cons hBp.blk (Bks.cons hBq.blk Bks.nil))) [] mixed rfl rfl ?_
  refine RegD.tpur (i := 0) rfl rfl rfl rfl (by kernel_rfl) (Pur.mv rfl) ?_
  refine RegD.tpur (i := 1) rfl rfl rfl rfl (by kernel_rfl) (Pur.nilc rfl) ?_
  refine RegD.tpur (i := 2) rfl rfl rfl rfl (by kernel_rfl) (Pur.fld _ fo47_0 rfl) ?_
  refine RegD.take (i := 3) rfl rfl rfl rfl (by kernel_rfl) (Bks.cons hBp.blk (Bks.cons hBq.blk Bks.nil)) (fun H hS => Lod.ld sc3 rfl hS.hd (hatp 0 (by decide))) ?_
  refine RegD.tpur (i := 4) rfl rfl rfl rfl (by kernel_rfl) (Pur.mv rfl) ?_
  refine RegD.tpur (i := 5) rfl rfl rfl rfl (by kernel_rfl) (Pur.nilc rfl) ?_
  refine RegD.tpur (i := 6) rfl rfl rfl rfl (by kernel_rfl) (Pur.fld _ fo47_0 rfl) ?_
  refine RegD.take (i := 7) rfl rfl rfl rfl (by kernel_rfl) (Bks.cons hBp.blk (Bks.cons hBq.blk Bks.nil)) (fun H hS => Lod.ld sc3 rfl hS.tl.hd (hatq 0 (by decide))) ?_
  refine RegD.tpur (i := 8) rfl rfl rfl rfl (by kernel_rfl) (Pur.neq rfl rfl) ?_
  refine RegD.tpur (i := 9) rfl rfl rfl rfl (by kernel_rfl) (Pur.mv rfl) ?_
  refine RegD.case 62 rfl (fun q62 => ?_) (fun q62 => ?_)
  · first | (simp only [decide_eq_true_eq, decide_eq_false_iff_not, Bool.not_eq_true', Bool.not_eq_false', ne_eq, Decidable.not_not, Bool.not_eq_true, Bool.not_eq_false] at q62) | (dsimp only at q62) | skip
    refine RegD.skip (i := 10) rfl rfl rfl rfl rfl rfl rfl (by kernel_rfl) ?_
    refine RegD.skip (i := 11) rfl rfl rfl rfl rfl rfl rfl (by kernel_rfl) ?_
    refine RegD.skip (i := 12) rfl rfl rfl rfl rfl rfl rfl (by kernel_rfl) ?_
    refine RegD.skip (i := 13) rfl rfl rfl rfl rfl rfl rfl (by kernel_rfl) ?_
    refine RegD.skip (i := 14) rfl rfl rfl rfl rfl rfl rfl (by kernel_rfl) ?_
    refine RegD.tpur (i := 15) rfl rfl rfl rfl (by kernel_rfl) (Pur.pickT rfl rfl) ?_
    refine RegD.done (by kernel_rfl) ?_
    refine At.condT rfl rfl rfl ?_
    refine At.drawE ((Bks.cons hBp.blk (Bks.cons hBq.blk Bks.nil))) [] mixed rfl rfl ?_
    refine RegD.tpur (i := 0) rfl rfl rfl rfl (by kernel_rfl) (Pur.mv rfl) ?_
    refine RegD.tpur (i := 1) rfl rfl rfl rfl (by kernel_rfl) (Pur.nilc rfl) ?_
    refine RegD.tpur (i := 2) rfl rfl rfl rfl (by kernel_rfl) (Pur.fld _ fo47_0 rfl) ?_
    refine RegD.take (i := 3) rfl rfl rfl rfl (by kernel_rfl) (Bks.cons hBp.blk (Bks.cons hBq.blk Bks.nil)) (fun H hS => Lod.ld sc3 rfl hS.hd (hatp 0 (by decide))) ?_
    refine RegD.tpur (i := 4) rfl rfl rfl rfl (by kernel_rfl) (Pur.mv rfl) ?_
    refine RegD.tpur (i := 5) rfl rfl rfl rfl (by kernel_rfl) (Pur.nilc rfl) ?_
    refine RegD.tpur (i := 6) rfl rfl rfl rfl (by kernel_rfl) (Pur.fld _ fo47_0 rfl) ?_
    refine RegD.take (i := 7) rfl rfl rfl rfl (by kernel_rfl) (Bks.cons hBp.blk (Bks.cons hBq.blk Bks.nil)) (fun H hS => Lod.ld sc3 rfl hS.tl.hd (hatq 0 (by decide))) ?_
    refine RegD.tpur (i := 8) rfl rfl rfl rfl (by kernel_rfl) (Pur.eql rfl rfl) ?_
    refine RegD.tpur (i := 9) rfl rfl rfl rfl (by kernel_rfl) (Pur.asg rfl) ?_
    refine RegD.done (by kernel_rfl) ?_
    refine At.ret rfl Try.func80 rfl ?_
    rw [inst_leaf (M := M) q23 (by first | exact .inl q62 | exact .inr q68)]
    refine ⟨?_, f1, f2, fun M' h => ?_, hM1, hM2, hC⟩
    · by_cases h : p.lst.getD 0 0 = q.lst.getD 0 0
      · rw [if_pos h, decide_eq_true h]; rfl
      · rw [if_neg h, decide_eq_false h]; rfl
    · by_cases hk : p.lst.getD 0 0 = q.lst.getD 0 0
      · rw [if_pos hk] at h; cases h; exact ⟨hTy.chg hM10 hM20 hC, hRw⟩
      · rw [if_neg hk] at h; cases h
  first | (simp only [decide_eq_true_eq, decide_eq_false_iff_not, Bool.not_eq_true', Bool.not_eq_false', ne_eq, Decidable.not_not, Bool.not_eq_true, Bool.not_eq_false] at q62) | (dsimp only at q62) | skip
  refine RegD.gtpur (i := 10) rfl rfl rfl rfl rfl rfl (by kernel_rfl) (Pur.mv rfl) ?_
  refine RegD.gtpur (i := 11) rfl rfl rfl rfl rfl rfl (by kernel_rfl) (Pur.nilc rfl) ?_
  refine RegD.gtpur (i := 12) rfl rfl rfl rfl rfl rfl (by kernel_rfl) (Pur.fld _ fo47_0 rfl) ?_
  refine RegD.gtake (i := 13) rfl rfl rfl rfl rfl rfl (by kernel_rfl) (Bks.cons hBp.blk (Bks.cons hBq.blk Bks.nil)) (fun H hS => Lod.ld sc3 rfl hS.hd (hatp 0 (by decide))) ?_
  refine RegD.gtpur (i := 14) rfl rfl rfl rfl rfl rfl (by kernel_rfl) (Pur.neq rfl rfl) ?_
  refine RegD.tpur (i := 15) rfl rfl rfl rfl (by kernel_rfl) (Pur.pickF rfl rfl) ?_
  refine RegD.done (by kernel_rfl) ?_
  refine At.cond rfl rfl (fun q68 => ?_) (fun q68 => ?_)
  · first | (simp only [decide_eq_true_eq, decide_eq_false_iff_not, Bool.not_eq_true', Bool.not_eq_false', ne_eq, Decidable.not_not, Bool.not_eq_true, Bool.not_eq_false] at q68) | (dsimp only at q68) | skip
    refine At.drawE ((Bks.cons hBp.blk (Bks.cons hBq.blk Bks.nil))) [] mixed rfl rfl ?_
    refine RegD.tpur (i := 0) rfl rfl rfl rfl (by kernel_rfl) (Pur.mv rfl) ?_
    refine RegD.tpur (i := 1) rfl rfl rfl rfl (by kernel_rfl) (Pur.nilc rfl) ?_
    refine RegD.tpur (i := 2) rfl rfl rfl rfl (by kernel_rfl) (Pur.fld _ fo47_0 rfl) ?_
    refine RegD.take (i := 3) rfl rfl rfl rfl (by kernel_rfl) (Bks.cons hBp.blk (Bks.cons hBq.blk Bks.nil)) (fun H hS => Lod.ld sc3 rfl hS.hd (hatp 0 (by decide))) ?_
    refine RegD.tpur (i := 4) rfl rfl rfl rfl (by kernel_rfl) (Pur.mv rfl) ?_
    refine RegD.tpur (i := 5) rfl rfl rfl rfl (by kernel_rfl) (Pur.nilc rfl) ?_
    refine RegD.tpur (i := 6) rfl rfl rfl rfl (by kernel_rfl) (Pur.fld _ fo47_0 rfl) ?_
    refine RegD.take (i := 7) rfl rfl rfl rfl (by kernel_rfl) (Bks.cons hBp.blk (Bks.cons hBq.blk Bks.nil)) (fun H hS => Lod.ld sc3 rfl hS.tl.hd (hatq 0 (by decide))) ?_
    refine RegD.tpur (i := 8) rfl rfl rfl rfl (by kernel_rfl) (Pur.eql rfl rfl) ?_
    refine RegD.tpur (i := 9) rfl rfl rfl rfl (by kernel_rfl) (Pur.asg rfl) ?_
    refine RegD.done (by kernel_rfl) ?_
    refine At.ret rfl Try.func80 rfl ?_
    rw [inst_leaf (M := M) q23 (by first | exact .inl q62 | exact .inr q68)]
    refine ⟨?_, f1, f2, fun M' h => ?_, hM1, hM2, hC⟩
    · by_cases h : p.lst.getD 0 0 = q.lst.getD 0 0
      · rw [if_pos h, decide_eq_true h]; rfl
      · rw [if_neg h, decide_eq_false h]; rfl
    · by_cases hk : p.lst.getD 0 0 = q.lst.getD 0 0
      · rw [if_pos hk] at h; cases h; exact ⟨hTy.chg hM10 hM20 hC, hRw⟩
      · rw [if_neg hk] at h; cases h
  first | (simp only [decide_eq_true_eq, decide_eq_false_iff_not, Bool.not_eq_true', Bool.not_eq_false', ne_eq, Decidable.not_not, Bool.not_eq_true, Bool.not_eq_false] at q68) | (dsimp only at q68) | skip
  obtain ⟨x1, r1, x2, rfl⟩ := lst_fn q68
  obtain ⟨y1, r2, y2, rfl⟩ := lst_fn (q62.symm.trans q68)
  have hrp := nod_row hdp hpo.2.1
  have hrq := nod_row hdq hqo.2.1
  have hS1c := sl_but hS1 hM10 hM20 hC
  have hS2c := sl_but hS2 hM10 hM20 hC
  simp only [Tm.sz] at hn hpz hqz
  have z_hS2c := hS2c.lt
  refine At.region rfl rfl ?_
  refine Reg.pur rfl rfl rfl rfl (Pur.mv rfl) ?_
  refine Reg.op rfl rfl rfl rfl (Does.call rfl (sides_ok hpo (by simp only [Tm.sz]; omega) hcy hS1c hY)) ?_
  rintro v8_1 H8_1 ⟨⟨v1, v2, rfl, hT1, hT2⟩, hE8_1⟩
  have z8_1 := hE8_1.lt
  replace hC := hC.ext hE8_1
  replace om := om.ext hE8_1
  replace hM1 := hM1.ext hE8_1
  replace hM2 := hM2.ext hE8_1
  replace hBp := hBp.ext hE8_1
  replace hBq := hBq.ext hE8_1
  replace hY := hY.ext hE8_1
  replace hZ := hZ.ext hE8_1
  replace hS2c := hS2c.ext hE8_1
  obtain ⟨B1, k1, rfl, hQ1, hb1⟩ := hT1
  obtain ⟨B2, k2, rfl, hQ2, hb2⟩ := hT2
  have z_hQ1 := hQ1.lt
  have z_hQ2 := hQ2.lt
  refine Reg.pur rfl rfl rfl rfl (Pur.mv rfl) ?_
  refine Reg.pur rfl rfl rfl rfl (Pur.ext rfl rfl) ?_
  refine Reg.pur rfl rfl rfl rfl (Pur.ext rfl rfl) ?_
  refine Reg.op rfl rfl rfl rfl (Does.alloc zc25) ?_
  rintro _ H8_5 ⟨rfl, hn8_5⟩
  have z8_5 := hn8_5.size
  replace hC := hC.ext hn8_5.ext
  replace om := om.ext hn8_5.ext
  replace hM1 := hM1.ext hn8_5.ext
  replace hM2 := hM2.ext hn8_5.ext
  replace hBp := hBp.ext hn8_5.ext
  replace hBq := hBq.ext hn8_5.ext
  replace hY := hY.ext hn8_5.ext
  replace hZ := hZ.ext hn8_5.ext
  replace hS2c := hS2c.ext hn8_5.ext
  replace hQ1 := hQ1.ext hn8_5.ext
  replace hQ2 := hQ2.ext hn8_5.ext
  have o8_5 := hn8_5.own
  refine Reg.op rfl rfl rfl rfl (Does.alloc zc25) ?_
  rintro _ H8_6 ⟨rfl, hn8_6⟩
  have z8_6 := hn8_6.size
  replace hC := hC.ext hn8_6.ext
  replace om := om.ext hn8_6.ext
  replace hM1 := hM1.ext hn8_6.ext
  replace hM2 := hM2.ext hn8_6.ext
  replace hBp := hBp.ext hn8_6.ext
  replace hBq := hBq.ext hn8_6.ext
  replace hY := hY.ext hn8_6.ext
  replace hZ := hZ.ext hn8_6.ext
  replace hS2c := hS2c.ext hn8_6.ext
  replace hQ1 := hQ1.ext hn8_6.ext
  replace hQ2 := hQ2.ext hn8_6.ext
  replace o8_5 := o8_5.ext hn8_6.ext
  have o8_6 := hn8_6.own
  refine Reg.op0 rfl rfl rfl (Does.stn ag25 rfl rfl (by first | rfl | exact ones_Is _) (by first | rfl | (simp [*]; done)) o8_5 (by first | decide | (simp; done) | (simp; omega) | omega)) ?_
  rintro _ H8_7 hu8_7
  have z8_7 := hu8_7.size
  replace hC := hC.upw hu8_7 (by omega)
  replace om := om.upw hu8_7 (by omega)
  replace hM1 := hM1.upw hu8_7 (by omega)
  replace hM2 := hM2.upw hu8_7 (by omega)
  replace hBp := hBp.upw hu8_7 (by omega)
  replace hBq := hBq.upw hu8_7 (by omega)
  replace hY := hY.upw hu8_7 (by omega)
  replace hZ := hZ.upw hu8_7 (by omega)
  replace hS2c := hS2c.upw hu8_7 (by omega)
  replace hQ1 := hQ1.upw hu8_7 (by omega)
  replace hQ2 := hQ2.upw hu8_7 (by omega)
  replace o8_6 := o8_6.upw hu8_7 (by omega)
  replace o8_5 := hu8_7.own
  first | rw [over (by first | rfl | (simp; done))] at o8_5 | skip
  refine Reg.op0 rfl rfl rfl (Does.stn ag25 rfl rfl (by first | rfl | exact ones_Is _) (by first | rfl | (simp [*]; done)) o8_6 (by first | decide | (simp; done) | (simp; omega) | omega)) ?_
  rintro _ H8_8 hu8_8
  have z8_8 := hu8_8.size
  replace hC := hC.upw hu8_8 (by omega)
  replace om := om.upw hu8_8 (by omega)
  replace hM1 := hM1.upw hu8_8 (by omega)
  replace hM2 := hM2.upw hu8_8 (by omega)
  replace hBp := hBp.upw hu8_8 (by omega)
  replace hBq := hBq.upw hu8_8 (by omega)
  replace hY := hY.upw hu8_8 (by omega)
  replace hZ := hZ.upw hu8_8 (by omega)
  replace hS2c := hS2c.upw hu8_8 (by omega)
  replace hQ1 := hQ1.upw hu8_8 (by omega)
  replace hQ2 := hQ2.upw hu8_8 (by omega)
  replace o8_5 := o8_5.upw hu8_8 (by omega)
  replace o8_6 := hu8_8.own
  first | rw [over (by first | rfl | (simp; done))] at o8_6 | skip
  refine Reg.nil ?_
  refine At.region rfl rfl ?_
  refine Reg.pur rfl rfl rfl rfl (Pur.mv rfl) ?_
  refine Reg.op rfl rfl rfl rfl (Does.call rfl (sides_ok hqo (by simp only [Tm.sz]; omega) hcz hS2c hZ)) ?_
  rintro v9_1 H9_1 ⟨⟨v1, v2, rfl, hT1, hT2⟩, hE9_1⟩
  have z9_1 := hE9_1.lt
  replace hC := hC.ext hE9_1
  replace om := om.ext hE9_1
  replace hM1 := hM1.ext hE9_1
  replace hM2 := hM2.ext hE9_1
  replace hBp := hBp.ext hE9_1
  replace hBq := hBq.ext hE9_1
  replace hY := hY.ext hE9_1
  replace hZ := hZ.ext hE9_1
  replace hS2c := hS2c.ext hE9_1
  replace hQ1 := hQ1.ext hE9_1
  replace hQ2 := hQ2.ext hE9_1
  replace o8_5 := o8_5.ext hE9_1
  replace o8_6 := o8_6.ext hE9_1
  obtain ⟨B3, k3, rfl, hQ3, hb3⟩ := hT1
  obtain ⟨B4, k4, rfl, hQ4, hb4⟩ := hT2
  have z_hQ3 := hQ3.lt
  have z_hQ4 := hQ4.lt
  refine Reg.pur rfl rfl rfl rfl (Pur.mv rfl) ?_
  refine Reg.pur rfl rfl rfl rfl (Pur.ext rfl rfl) ?_
  refine Reg.pur rfl rfl rfl rfl (Pur.ext rfl rfl) ?_
  refine Reg.op rfl rfl rfl rfl (Does.alloc zc25) ?_
  rintro _ H9_5 ⟨rfl, hn9_5⟩
  have z9_5 := hn9_5.size
  replace hC := hC.ext hn9_5.ext
  replace om := om.ext hn9_5.ext
  replace hM1 := hM1.ext hn9_5.ext
  replace hM2 := hM2.ext hn9_5.ext
  replace hBp := hBp.ext hn9_5.ext
  replace hBq := hBq.ext hn9_5.ext
  replace hY := hY.ext hn9_5.ext
  replace hZ := hZ.ext hn9_5.ext
  replace hS2c := hS2c.ext hn9_5.ext
  replace hQ1 := hQ1.ext hn9_5.ext
  replace hQ2 := hQ2.ext hn9_5.ext
  replace o8_5 := o8_5.ext hn9_5.ext
  replace o8_6 := o8_6.ext hn9_5.ext
  replace hQ3 := hQ3.ext hn9_5.ext
  replace hQ4 := hQ4.ext hn9_5.ext
  have o9_5 := hn9_5.own
  refine Reg.op rfl rfl rfl rfl (Does.alloc zc25) ?_
  rintro _ H9_6 ⟨rfl, hn9_6⟩
  have z9_6 := hn9_6.size
  replace hC := hC.ext hn9_6.ext
  replace om := om.ext hn9_6.ext
  replace hM1 := hM1.ext hn9_6.ext
  replace hM2 := hM2.ext hn9_6.ext
  replace hBp := hBp.ext hn9_6.ext
  replace hBq := hBq.ext hn9_6.ext
  replace hY := hY.ext hn9_6.ext
  replace hZ := hZ.ext hn9_6.ext
  replace hS2c := hS2c.ext hn9_6.ext
  replace hQ1 := hQ1.ext hn9_6.ext
  replace hQ2 := hQ2.ext hn9_6.ext
  replace o8_5 := o8_5.ext hn9_6.ext
  replace o8_6 := o8_6.ext hn9_6.ext
  replace hQ3 := hQ3.ext hn9_6.ext
  replace hQ4 := hQ4.ext hn9_6.ext
  replace o9_5 := o9_5.ext hn9_6.ext
  have o9_6 := hn9_6.own
  refine Reg.op0 rfl rfl rfl (Does.stn ag25 rfl rfl (by first | rfl | exact ones_Is _) (by first | rfl | (simp [*]; done)) o9_5 (by first | decide | (simp; done) | (simp; omega) | omega)) ?_
  rintro _ H9_7 hu9_7
  have z9_7 := hu9_7.size
  replace hC := hC.upw hu9_7 (by omega)
  replace om := om.upw hu9_7 (by omega)
  replace hM1 := hM1.upw hu9_7 (by omega)
  replace hM2 := hM2.upw hu9_7 (by omega)
  replace hBp := hBp.upw hu9_7 (by omega)
  replace hBq := hBq.upw hu9_7 (by omega)
  replace hY := hY.upw hu9_7 (by omega)
  replace hZ := hZ.upw hu9_7 (by omega)
  replace hS2c := hS2c.upw hu9_7 (by omega)
  replace hQ1 := hQ1.upw hu9_7 (by omega)
  replace hQ2 := hQ2.upw hu9_7 (by omega)
  replace o8_5 := o8_5.upw hu9_7 (by omega)
  replace o8_6 := o8_6.upw hu9_7 (by omega)
  replace hQ3 := hQ3.upw hu9_7 (by omega)
  replace hQ4 := hQ4.upw hu9_7 (by omega)
  replace o9_6 := o9_6.upw hu9_7 (by omega)
  replace o9_5 := hu9_7.own
  first | rw [over (by first | rfl | (simp; done))] at o9_5 | skip
  refine Reg.op0 rfl rfl rfl (Does.stn ag25 rfl rfl (by first | rfl | exact ones_Is _) (by first | rfl | (simp [*]; done)) o9_6 (by first | decide | (simp; done) | (simp; omega) | omega)) ?_
  rintro _ H9_8 hu9_8
  have z9_8 := hu9_8.size
  replace hC := hC.upw hu9_8 (by omega)
  replace om := om.upw hu9_8 (by omega)
  replace hM1 := hM1.upw hu9_8 (by omega)
  replace hM2 := hM2.upw hu9_8 (by omega)
  replace hBp := hBp.upw hu9_8 (by omega)
  replace hBq := hBq.upw hu9_8 (by omega)
  replace hY := hY.upw hu9_8 (by omega)
  replace hZ := hZ.upw hu9_8 (by omega)
  replace hS2c := hS2c.upw hu9_8 (by omega)
  replace hQ1 := hQ1.upw hu9_8 (by omega)
  replace hQ2 := hQ2.upw hu9_8 (by omega)
  replace o8_5 := o8_5.upw hu9_8 (by omega)
  replace o8_6 := o8_6.upw hu9_8 (by omega)
  replace hQ3 := hQ3.upw hu9_8 (by omega)
  replace hQ4 := hQ4.upw hu9_8 (by omega)
  replace o9_5 := o9_5.upw hu9_8 (by omega)
  replace o9_6 := hu9_8.own
  first | rw [over (by first | rfl | (simp; done))] at o9_6 | skip
  refine Reg.nil ?_
  refine At.drawE (Bks.nil) [] mixed rfl rfl ?_
  refine RegD.tpur (i := 0) rfl rfl rfl rfl (by kernel_rfl) (Pur.mv rfl) ?_
  have hMa := hM1
  have hMb := hM2
  refine RegD.one (i := 1) (by kernel_rfl) rfl rfl rfl rfl (Does.call rfl (ihn x1 y1 (by omega) hpo.1 (by omega) hqo.1 (by omega) om hM1 hM2 (hTy.chg hM10 hM20 hC) hRw o8_5.blk (at0 _) hQ1 o9_5.blk (at0 _) hQ3)) ?_
  rintro v10_1 H10_1 hP1
  obtain ⟨rfl, g1, g2, hPM, hM1, hM2, hC1⟩ := hP1
  replace hC := hC.trans hC1
  replace om := om.via hC1 (not_or.2 ⟨n5, n6⟩)
  replace hBp := hBp.via hC1 (not_or.2 ⟨n1, n2⟩)
  replace hBq := hBq.via hC1 (not_or.2 ⟨n3, n4⟩)
  replace hQ2 := sl_but hQ2 hMa hMb hC1
  replace hQ4 := sl_but hQ4 hMa hMb hC1
  replace o8_6 := o8_6.via hC1 (by clear n1 n2 n3 n4 n5 n6 n7 n8 n9 n10 h12; omega)
  replace o9_6 := o9_6.via hC1 (by clear n1 n2 n3 n4 n5 n6 n7 n8 n9 n10 h12; omega)
  refine ⟨fun _ _ => Bks.nil, ?_⟩
  refine RegD.tpur (i := 2) rfl rfl rfl rfl (by kernel_rfl) (Pur.mv rfl) ?_
  refine RegD.case 90 rfl (fun q90 => ?_) (fun q90 => ?_)
  · first | (simp only [decide_eq_true_eq, decide_eq_false_iff_not, Bool.not_eq_true', Bool.not_eq_false', ne_eq, Decidable.not_not, Bool.not_eq_true, Bool.not_eq_false] at q90) | (dsimp only at q90) | skip
    refine RegD.gtpur (i := 3) rfl rfl rfl rfl rfl rfl (by kernel_rfl) (Pur.mv rfl) ?_
    refine RegD.gtpur (i := 4) rfl rfl rfl rfl rfl rfl (by kernel_rfl) (Pur.mv rfl) ?_
    refine RegD.gtpur (i := 5) rfl rfl rfl rfl rfl rfl (by kernel_rfl) (Pur.nilc rfl) ?_
    refine RegD.gtpur (i := 6) rfl rfl rfl rfl rfl rfl (by kernel_rfl) (Pur.fld _ fo47_4 rfl) ?_
    refine RegD.gtpur (i := 7) rfl rfl rfl rfl rfl rfl (by kernel_rfl) (Pur.mv rfl) ?_
    refine RegD.gtpur (i := 8) rfl rfl rfl rfl rfl rfl (by kernel_rfl) (Pur.nilc rfl) ?_
    refine RegD.gtpur (i := 9) rfl rfl rfl rfl rfl rfl (by kernel_rfl) (Pur.fld _ fo47_4 rfl) ?_
    obtain ⟨M1, hi1⟩ := Option.isSome_iff_exists.1 q90
    obtain ⟨hT1, hR1⟩ := hPM M1 hi1
    have hMc := hM1
    have hMd := hM2
    refine RegD.gone (i := 10) (by kernel_rfl) rfl rfl rfl rfl rfl rfl (Does.call rfl (mrowG_ok hpo.2.1 hpo.2.2.1 hqo.2.1 hqo.2.2.1 om hM1 hM2 h12 hR1 hBp hrp hBq hrq)) ?_
    rintro _ H10_10 ⟨rfl, g3, hPR, hM1, hM2, hC2⟩
    replace hC := hC.trans hC2
    replace om := om.via hC2 (not_or.2 ⟨n5, n6⟩)
    replace hQ2 := sl_but hQ2 hMc hMd hC2
    replace hQ4 := sl_but hQ4 hMc hMd hC2
    replace o8_6 := o8_6.via hC2 (by clear n1 n2 n3 n4 n5 n6 n7 n8 n9 n10 h12; omega)
    replace o9_6 := o9_6.via hC2 (by clear n1 n2 n3 n4 n5 n6 n7 n8 n9 n10 h12; omega)
    refine ⟨fun _ _ => Bks.nil, ?_⟩
    refine RegD.tpur (i := 11) rfl rfl rfl rfl (by kernel_rfl) (Pur.pickT rfl rfl) ?_
    refine RegD.tpur (i := 12) rfl rfl rfl rfl (by kernel_rfl) (Pur.mv rfl) ?_
    refine RegD.case 100 rfl (fun q100 => ?_) (fun q100 => ?_)
    · first | (simp only [decide_eq_true_eq, decide_eq_false_iff_not, Bool.not_eq_true', Bool.not_eq_false', ne_eq, Decidable.not_not, Bool.not_eq_true, Bool.not_eq_false] at q100) | (dsimp only at q100) | skip
      refine RegD.gtpur (i := 13) rfl rfl rfl rfl rfl rfl (by kernel_rfl) (Pur.mv rfl) ?_
      obtain ⟨M2, hi2⟩ := Option.isSome_iff_exists.1 q100
      refine RegD.gone (i := 14) (by kernel_rfl) rfl rfl rfl rfl rfl rfl (Does.call rfl (ihn x2 y2 (by omega) hpo.2.2.2 (by omega) hqo.2.2.2 (by omega) om hM1 hM2 (ty_r (hT1.chg hMc hMd hC2) hi2) (hPR M2 hi2) o8_6.blk (at0 _) hQ2 o9_6.blk (at0 _) hQ4)) ?_
      rintro v10_14 H10_14 hP3
      obtain ⟨rfl, g4, g5, hPZ, hM1, hM2, hC3⟩ := hP3
      refine ⟨fun _ _ => Bks.nil, ?_⟩
      refine RegD.tpur (i := 15) rfl rfl rfl rfl (by kernel_rfl) (Pur.pickT rfl rfl) ?_
      refine RegD.tpur (i := 16) rfl rfl rfl rfl (by kernel_rfl) (Pur.asg rfl) ?_
      refine RegD.done (by kernel_rfl) ?_
      refine At.ret rfl Try.func80 rfl ?_
      first
      | (have e : inst M (.fn x1 r1 x2) (.fn y1 r2 y2) = inst M2 x2 y2 := by simp only [inst, hi1, hi2]
         rw [e]
         exact ⟨rfl, g4, g5, hPZ, hM1, hM2, hC.trans hC3⟩)
      | (have e : inst M (.fn x1 r1 x2) (.fn y1 r2 y2) = none := by simp only [inst, hi1, Option.isSome_eq_false_iff.1 q100]; first | rfl | (rw [Option.isNone_iff_eq_none.1 (Option.isSome_eq_false_iff.1 q100)])
         rw [e]
         exact ⟨rfl, g1, g3, (fun M' h => by cases h), hM1, hM2, hC⟩)
      | (have e0 : inst M x1 y1 = none := Option.isNone_iff_eq_none.1 (Option.isSome_eq_false_iff.1 q90)
         have e : inst M (.fn x1 r1 x2) (.fn y1 r2 y2) = none := by simp only [inst, e0]
         rw [e]
         exact ⟨rfl, g1, g2, (fun M' h => by cases h), hM1, hM2, hC⟩)
    first | (simp only [decide_eq_true_eq, decide_eq_false_iff_not, Bool.not_eq_true', Bool.not_eq_false', ne_eq, Decidable.not_not, Bool.not_eq_true, Bool.not_eq_false] at q100) | (dsimp only at q100) | skip
    refine RegD.skip (i := 13) rfl rfl rfl rfl rfl rfl rfl (by kernel_rfl) ?_
    refine RegD.skip (i := 14) rfl rfl rfl rfl rfl rfl rfl (by kernel_rfl) ?_
    refine RegD.tpur (i := 15) rfl rfl rfl rfl (by kernel_rfl) (Pur.pickF rfl rfl) ?_
    refine RegD.tpur (i := 16) rfl rfl rfl rfl (by kernel_rfl) (Pur.asg rfl) ?_
    refine RegD.done (by kernel_rfl) ?_
    refine At.ret rfl Try.func80 rfl ?_
    first
    | (have e : inst M (.fn x1 r1 x2) (.fn y1 r2 y2) = inst M2 x2 y2 := by simp only [inst, hi1, hi2]
       rw [e]
       exact ⟨rfl, g4, g5, hPZ, hM1, hM2, hC.trans hC3⟩)
    | (have e : inst M (.fn x1 r1 x2) (.fn y1 r2 y2) = none := by simp only [inst, hi1, Option.isSome_eq_false_iff.1 q100]; first | rfl | (rw [Option.isNone_iff_eq_none.1 (Option.isSome_eq_false_iff.1 q100)])
       rw [e]
       exact ⟨rfl, g1, g3, (fun M' h => by cases h), hM1, hM2, hC⟩)
    | (have e0 : inst M x1 y1 = none := Option.isNone_iff_eq_none.1 (Option.isSome_eq_false_iff.1 q90)
       have e : inst M (.fn x1 r1 x2) (.fn y1 r2 y2) = none := by simp only [inst, e0]
       rw [e]
       exact ⟨rfl, g1, g2, (fun M' h => by cases h), hM1, hM2, hC⟩)
  first | (simp only [decide_eq_true_eq, decide_eq_false_iff_not, Bool.not_eq_true', Bool.not_eq_false', ne_eq, Decidable.not_not, Bool.not_eq_true, Bool.not_eq_false] at q90) | (dsimp only at q90) | skip
  refine RegD.skip (i := 3) rfl rfl rfl rfl rfl rfl rfl (by kernel_rfl) ?_
  refine RegD.skip (i := 4) rfl rfl rfl rfl rfl rfl rfl (by kernel_rfl) ?_
  refine RegD.skip (i := 5) rfl rfl rfl rfl rfl rfl rfl (by kernel_rfl) ?_
  refine RegD.skip (i := 6) rfl rfl rfl rfl rfl rfl rfl (by kernel_rfl) ?_
  refine RegD.skip (i := 7) rfl rfl rfl rfl rfl rfl rfl (by kernel_rfl) ?_
  refine RegD.skip (i := 8) rfl rfl rfl rfl rfl rfl rfl (by kernel_rfl) ?_
  refine RegD.skip (i := 9) rfl rfl rfl rfl rfl rfl rfl (by kernel_rfl) ?_
  refine RegD.skip (i := 10) rfl rfl rfl rfl rfl rfl rfl (by kernel_rfl) ?_
  refine RegD.tpur (i := 11) rfl rfl rfl rfl (by kernel_rfl) (Pur.pickF rfl rfl) ?_
  refine RegD.tpur (i := 12) rfl rfl rfl rfl (by kernel_rfl) (Pur.mv rfl) ?_
  refine RegD.skip (i := 13) rfl rfl rfl rfl rfl rfl rfl (by kernel_rfl) ?_
  refine RegD.skip (i := 14) rfl rfl rfl rfl rfl rfl rfl (by kernel_rfl) ?_
  refine RegD.tpur (i := 15) rfl rfl rfl rfl (by kernel_rfl) (Pur.pickF rfl rfl) ?_
  refine RegD.tpur (i := 16) rfl rfl rfl rfl (by kernel_rfl) (Pur.asg rfl) ?_
  refine RegD.done (by kernel_rfl) ?_
  refine At.ret rfl Try.func80 rfl ?_
  first
  | (have e : inst M (.fn x1 r1 x2) (.fn y1 r2 y2) = inst M2 x2 y2 := by simp only [inst, hi1, hi2]
     rw [e]
     exact ⟨rfl, g4, g5, hPZ, hM1, hM2, hC.trans hC3⟩)
  | (have e : inst M (.fn x1 r1 x2) (.fn y1 r2 y2) = none := by simp only [inst, hi1, Option.isSome_eq_false_iff.1 q100]; first | rfl | (rw [Option.isNone_iff_eq_none.1 (Option.isSome_eq_false_iff.1 q100)])
     rw [e]
     exact ⟨rfl, g1, g3, (fun M' h => by cases h), hM1, hM2, hC⟩)
  | (have e0 : inst M x1 y1 = none := Option.isNone_iff_eq_none.1 (Option.isSome_eq_false_iff.1 q90)
     have e : inst M (.fn x1 r1 x2) (.fn y1 r2 y2) = none := by simp only [inst, e0]
     rw [e]
     exact ⟨rfl, g1, g2, (fun M' h => by cases h), hM1, hM2, hC⟩)
end Go.Proofs.Ytlfillhffpiffaa

namespace Go.Proofs.Ytlfillhffpiffaa
set_option linter.unusedSimpArgs false
set_option linter.unusedVariables false
set_option maxRecDepth 8000
set_option maxHeartbeats 600000
open Go Go.Fx Go.Proofs
namespace FactsUniNE
theorem ag25 : ag Try.prog 25 = some 1 := by kernel_rfl
theorem pl133 : places Try.prog 133 = some [(0, 1), (1, 1)] := by kernel_rfl
theorem zc133 : zc Try.prog 133 = some [.map none, .map none] := by kernel_rfl
end FactsUniNE
open FactsUniNE

theorem tyM_nil (H : Heap) : TyM H (fun _ => none) [] := fun v => ⟨fun _ => rfl, fun t h => by cases h⟩
theorem rwM_nil : RwM (fun _ => none) [] := ⟨fun v => rfl, fun v d h => by cases h⟩
theorem instance_ok {g s : Tm} (hg : g.ok) (hgz : g.sz ≤ 256) (hs : s.ok) (hsz : s.sz ≤ 256) {A1 A2 : Option Addr} {c1 c2 : Nat} {H : Heap} (hS1 : SlT H Is 9 (.slice A1 (g.enc 0).length c1) (g.enc 0)) (hS2 : SlT H Is 9 (.slice A2 (s.enc 0).length c2) (s.enc 0)) :
    Ret Try.prog 49 [Ty A1 (g.enc 0).length c1, Ty A2 (s.enc 0).length c2] H (fun v H' => v = .tuple #[.bool (inst [] g s).isSome, I 0] ∧ Ext H H') := by
  have hgl := g.enc_len 0
  have hsl := s.enc_len 0
  refine Ret.of_at (N := 21) Try.call49 Try.func49 rfl rfl rfl ?_
  have hE := Ext.refl H
  refine At.region rfl rfl ?_
  refine Reg.op rfl rfl rfl rfl (Does.box rfl rfl) ?_
  rintro _ H0_0 ⟨rfl, hn0_0⟩
  have z0_0 := hn0_0.size
  replace hE := hE.ext hn0_0.ext
  have o0_0 := hn0_0.own
  refine Reg.op rfl rfl rfl rfl (Does.box rfl rfl) ?_
  rintro _ H0_1 ⟨rfl, hn0_1⟩
  have z0_1 := hn0_1.size
  replace hE := hE.ext hn0_1.ext
  replace o0_0 := o0_0.ext hn0_1.ext
  have o0_1 := hn0_1.own
  refine Reg.pur rfl rfl rfl rfl (Pur.asg rfl) ?_
  refine Reg.pur rfl rfl rfl rfl (Pur.asg rfl) ?_
  refine Reg.nil ?_
  refine At.region rfl rfl ?_
  refine Reg.lod rfl rfl rfl rfl (Lod.ldn ag25 rfl o0_0.blk (whole rfl) rfl) ?_
  refine Reg.op rfl rfl rfl rfl (Does.call rfl (typMay_ok _ (g.enc_nine 0 hg) (hS1.ext hE) (by omega))) ?_
  rintro _ H1_1 ⟨rfl, hE1_1⟩
  have z1_1 := hE1_1.lt
  replace hE := hE.ext hE1_1
  replace o0_0 := o0_0.ext hE1_1
  replace o0_1 := o0_1.ext hE1_1
  refine Reg.pur rfl rfl rfl rfl (Pur.not rfl) ?_
  refine Reg.pur rfl rfl rfl rfl (Pur.mv rfl) ?_
  refine Reg.known (b' := false) 10 rfl (by rw [enc_typ hg hgz]; rfl) ?_
  refine Reg.glod rfl rfl rfl rfl rfl rfl (Lod.ldn ag25 rfl o0_1.blk (whole rfl) rfl) ?_
  refine Reg.gop rfl rfl rfl rfl rfl rfl (Does.call rfl (typMay_ok _ (s.enc_nine 0 hs) (hS2.ext hE) (by omega))) ?_
  rintro _ H1_5 ⟨rfl, hE1_5⟩
  have z1_5 := hE1_5.lt
  replace hE := hE.ext hE1_5
  replace o0_0 := o0_0.ext hE1_5
  replace o0_1 := o0_1.ext hE1_5
  refine Reg.gpur rfl rfl rfl rfl rfl rfl (Pur.not rfl) ?_
  refine Reg.pur rfl rfl rfl rfl (Pur.pickF rfl rfl) ?_
  refine Reg.nil ?_
  refine At.condF rfl rfl (by rw [enc_typ hs hsz]; rfl) ?_
  refine At.region rfl rfl ?_
  refine Reg.op rfl rfl rfl rfl (Does.mkm) ?_
  rintro _ H3_0 ⟨rfl, hm3_0, hE3_0, hsz3_0⟩
  have z3_0 := hE3_0.lt
  replace hE := hE.ext hE3_0
  replace o0_0 := o0_0.ext hE3_0
  replace o0_1 := o0_1.ext hE3_0
  have z_hm3_0 := hm3_0.lt
  refine Reg.op rfl rfl rfl rfl (Does.mkm) ?_
  rintro _ H3_1 ⟨rfl, hm3_1, hE3_1, hsz3_1⟩
  have z3_1 := hE3_1.lt
  replace hE := hE.ext hE3_1
  replace o0_0 := o0_0.ext hE3_1
  replace o0_1 := o0_1.ext hE3_1
  replace hm3_0 := hm3_0.ext hE3_1
  have z_hm3_1 := hm3_1.lt
  refine Reg.pur rfl rfl rfl rfl (Pur.bld (cs := [_, _]) pl133 zc133 rfl rfl ⟨rfl, rfl, rfl⟩) ?_
  refine Reg.op rfl rfl rfl rfl (Does.box rfl rfl) ?_
  rintro _ H3_3 ⟨rfl, hn3_3⟩
  have z3_3 := hn3_3.size
  replace hE := hE.ext hn3_3.ext
  replace o0_0 := o0_0.ext hn3_3.ext
  replace o0_1 := o0_1.ext hn3_3.ext
  replace hm3_0 := hm3_0.ext hn3_3.ext
  replace hm3_1 := hm3_1.ext hn3_3.ext
  have o3_3 := hn3_3.own
  refine Reg.pur rfl rfl rfl rfl (Pur.asg rfl) ?_
  refine Reg.nil ?_
  refine At.region rfl rfl ?_
  refine Reg.pur rfl rfl rfl rfl (Pur.mv rfl) ?_
  refine Reg.op rfl rfl rfl rfl (Does.call rfl (typedG_ok (by omega) g.sz g s (Nat.le_refl _) hg hgz hs hsz o3_3 hm3_0 hm3_1 (tyM_nil _) rwM_nil o0_0.blk (at0 _) (hS1.ext hE) o0_1.blk (at0 _) (hS2.ext hE))) ?_
  rintro v4_1 H4_1 hP
  obtain ⟨rfl, f1, f2, _, _, _, hC⟩ := hP
  refine Reg.pur rfl rfl rfl rfl (Pur.asg rfl) ?_
  refine Reg.pur rfl rfl rfl rfl (Pur.asg rfl) ?_
  refine Reg.nil ?_
  refine At.ret rfl Try.func49 rfl ?_
  exact ⟨rfl, hE.via hC (fun x hx h => by omega)⟩
end Go.Proofs.Ytlfillhffpiffaa

namespace Go.Proofs.Ytlfillhffpiffaa
set_option linter.unusedSimpArgs false
set_option linter.unusedVariables false
set_option maxRecDepth 8000
set_option maxHeartbeats 4000000
open Go Go.Fx Go.Proofs
namespace FactsUniMB
theorem ag25 : ag Try.prog 25 = some 1 := by kernel_rfl
theorem ag28 : ag Try.prog 28 = some 5 := by kernel_rfl
theorem ag47 : ag Try.prog 47 = some 9 := by kernel_rfl
theorem apt22 : appT Try.prog 22 = some (49, 8, 80) := by kernel_rfl
theorem es22 : esz Try.prog 22 = some 8 := by kernel_rfl
theorem es23 : esz Try.prog 23 = some 9 := by kernel_rfl
theorem fo25_0 : foff Try.prog 25 0 = some 0 := by kernel_rfl
theorem fo47_0 : foff Try.prog 47 0 = some 0 := by kernel_rfl
theorem fo47_1 : foff Try.prog 47 1 = some 1 := by kernel_rfl
theorem fo47_2 : foff Try.prog 47 2 = some 2 := by kernel_rfl
theorem fo47_3 : foff Try.prog 47 3 = some 3 := by kernel_rfl
theorem fo47_4 : foff Try.prog 47 4 = some 4 := by kernel_rfl
theorem fo49_0 : foff Try.prog 49 0 = some 0 := by kernel_rfl
theorem fo49_1 : foff Try.prog 49 1 = some 1 := by kernel_rfl
theorem fo49_2 : foff Try.prog 49 2 = some 2 := by kernel_rfl
theorem isl22 : isSl Try.prog 22 = true := by kernel_rfl
theorem mixed : Try.prog.follows .mixedOrders = true := by kernel_rfl
theorem pl49 : places Try.prog 49 = some [(0, 1), (1, 1), (2, 1), (3, 5)] := by kernel_rfl
theorem sc23 : sc Try.prog 23 = true := by kernel_rfl
theorem sc3 : sc Try.prog 3 = true := by kernel_rfl
theorem sc4 : sc Try.prog 4 = true := by kernel_rfl
theorem slA22 : slA Try.prog 22 = some (49, 8) := by kernel_rfl
theorem zc25 : zc Try.prog 25 = some [.slice none 0 0] := by kernel_rfl
theorem zc47 : zc Try.prog 47 = some [.int .i64 0, .int .i64 0, .int .i64 0, .int .i64 0, .int .i64 0, .int .i64 0, .int .i64 0, .int .i64 0, .int .i64 0] := by kernel_rfl
theorem zc49 : zc Try.prog 49 = some [.int .i64 0, .bool false, .slice none 0 0, .int .i64 0, .int .i64 0, .int .i64 0, .int .i64 0, .int .i64 0] := by kernel_rfl
end FactsUniMB
open FactsUniMB

end Go.Proofs.Ytlfillhffpiffaa

namespace Go.Proofs.Ytlfillhffpiffaa
set_option linter.unusedSimpArgs false
set_option linter.unusedVariables false
set_option maxRecDepth 8000
set_option maxHeartbeats 1000000
open Go Go.Fx Go.Proofs
namespace FactsUniAA
theorem ag25 : ag Try.prog 25 = some 1 := by kernel_rfl
theorem ag28 : ag Try.prog 28 = some 5 := by kernel_rfl
theorem es22 : esz Try.prog 22 = some 8 := by kernel_rfl
theorem fo49_0 : foff Try.prog 49 0 = some 0 := by kernel_rfl
theorem fo49_2 : foff Try.prog 49 2 = some 2 := by kernel_rfl
theorem isl22 : isSl Try.prog 22 = true := by kernel_rfl
theorem pl25 : places Try.prog 25 = some [(0, 1)] := by kernel_rfl
theorem pl47 : places Try.prog 47 = some [(0, 1), (1, 1), (2, 1), (3, 1), (4, 5)] := by kernel_rfl
theorem sc3 : sc Try.prog 3 = true := by kernel_rfl
theorem slA23 : slA Try.prog 23 = some (47, 9) := by kernel_rfl
theorem zc25 : zc Try.prog 25 = some [.slice none 0 0] := by kernel_rfl
theorem zc47 : zc Try.prog 47 = some [.int .i64 0, .int .i64 0, .int .i64 0, .int .i64 0, .int .i64 0, .int .i64 0, .int .i64 0, .int .i64 0, .int .i64 0] := by kernel_rfl
end FactsUniAA
open FactsUniAA

end Go.Proofs.Ytlfillhffpiffaa

namespace Go.Proofs.Ytlfillhffpiffaa
set_option linter.unusedSimpArgs false
set_option linter.unusedVariables false
set_option maxRecDepth 8000
set_option maxHeartbeats 1000000
open Go Go.Fx Go.Proofs
namespace FactsUniAB
theorem ag25 : ag Try.prog 25 = some 1 := by kernel_rfl
theorem ag28 : ag Try.prog 28 = some 5 := by kernel_rfl
theorem eqt28 : eqT Try.prog 28 = some [.int .i64, .int .i64, .int .i64, .int .i64, .int .i64] := by kernel_rfl
theorem es22 : esz Try.prog 22 = some 8 := by kernel_rfl
theorem fo49_0 : foff Try.prog 49 0 = some 0 := by kernel_rfl
theorem fo49_1 : foff Try.prog 49 1 = some 1 := by kernel_rfl
theorem fo49_2 : foff Try.prog 49 2 = some 2 := by kernel_rfl
theorem fo49_3 : foff Try.prog 49 3 = some 3 := by kernel_rfl
theorem isl22 : isSl Try.prog 22 = true := by kernel_rfl
theorem mixed : Try.prog.follows .mixedOrders = true := by kernel_rfl
theorem pl25 : places Try.prog 25 = some [(0, 1)] := by kernel_rfl
theorem pl28 : places Try.prog 28 = some [(0, 4), (4, 1)] := by kernel_rfl
theorem pl47 : places Try.prog 47 = some [(0, 1), (1, 1), (2, 1), (3, 1), (4, 5)] := by kernel_rfl
theorem sc3 : sc Try.prog 3 = true := by kernel_rfl
theorem sc4 : sc Try.prog 4 = true := by kernel_rfl
theorem slA23 : slA Try.prog 23 = some (47, 9) := by kernel_rfl
theorem zc25 : zc Try.prog 25 = some [.slice none 0 0] := by kernel_rfl
theorem zc28 : zc Try.prog 28 = some [.int .i64 0, .int .i64 0, .int .i64 0, .int .i64 0, .int .i64 0] := by kernel_rfl
theorem zc47 : zc Try.prog 47 = some [.int .i64 0, .int .i64 0, .int .i64 0, .int .i64 0, .int .i64 0, .int .i64 0, .int .i64 0, .int .i64 0, .int .i64 0] := by kernel_rfl
end FactsUniAB
open FactsUniAB

end Go.Proofs.Ytlfillhffpiffaa

namespace Go.Proofs.Ytlfillhffpiffaa
set_option linter.unusedSimpArgs false
set_option linter.unusedVariables false
set_option maxRecDepth 8000
set_option maxHeartbeats 1000000
open Go Go.Fx Go.Proofs
namespace FactsUniAE
theorem ag25 : ag Try.prog 25 = some 1 := by kernel_rfl
theorem ag47 : ag Try.prog 47 = some 9 := by kernel_rfl
theorem es22 : esz Try.prog 22 = some 8 := by kernel_rfl
theorem es23 : esz Try.prog 23 = some 9 := by kernel_rfl
theorem fo25_0 : foff Try.prog 25 0 = some 0 := by kernel_rfl
theorem fo28_1 : foff Try.prog 28 1 = some 4 := by kernel_rfl
theorem fo47_0 : foff Try.prog 47 0 = some 0 := by kernel_rfl
theorem fo47_1 : foff Try.prog 47 1 = some 1 := by kernel_rfl
theorem fo47_4 : foff Try.prog 47 4 = some 4 := by kernel_rfl
theorem fo49_0 : foff Try.prog 49 0 = some 0 := by kernel_rfl
theorem fo49_1 : foff Try.prog 49 1 = some 1 := by kernel_rfl
theorem isl22 : isSl Try.prog 22 = true := by kernel_rfl
theorem isl23 : isSl Try.prog 23 = true := by kernel_rfl
theorem mixed : Try.prog.follows .mixedOrders = true := by kernel_rfl
theorem sc23 : sc Try.prog 23 = true := by kernel_rfl
theorem sc3 : sc Try.prog 3 = true := by kernel_rfl
theorem sc4 : sc Try.prog 4 = true := by kernel_rfl
theorem zc25 : zc Try.prog 25 = some [.slice none 0 0] := by kernel_rfl
theorem zc47 : zc Try.prog 47 = some [.int .i64 0, .int .i64 0, .int .i64 0, .int .i64 0, .int .i64 0, .int .i64 0, .int .i64 0, .int .i64 0, .int .i64 0] := by kernel_rfl
end FactsUniAE
open FactsUniAE

theorem subT_tys {Bs : List Bd} {Ts : List Bt} {t : Tm} {X : List (List Int)} (h : Bs.map pl = Ts.map Bt.pl) (hok : ∀ b ∈ Ts, b.ok) (hX : subT Bs (t.enc 0) = some X) : ∃ p, tys Ts t = some p ∧ X = p.enc 0 := by
  unfold subT at hX
  split at hX
  · rw [typS_tys h hok t] at hX
    cases hp : tys Ts t with
    | none => rw [hp] at hX; cases hX
    | some p => rw [hp] at hX; exact ⟨p, rfl, (Option.some.inj hX).symm⟩
  · cases hX
end Go.Proofs.Ytlfillhffpiffaa

namespace Go.Proofs.Ytlfillhffpiffaa
set_option linter.unusedSimpArgs false
set_option linter.unusedVariables false
set_option maxRecDepth 8000
set_option maxHeartbeats 1000000
open Go Go.Fx Go.Proofs
namespace FactsUniMC
theorem ag25 : ag Try.prog 25 = some 1 := by kernel_rfl
theorem fo25_0 : foff Try.prog 25 0 = some 0 := by kernel_rfl
theorem isl23 : isSl Try.prog 23 = true := by kernel_rfl
theorem sc23 : sc Try.prog 23 = true := by kernel_rfl
theorem sc4 : sc Try.prog 4 = true := by kernel_rfl
theorem zc25 : zc Try.prog 25 = some [.slice none 0 0] := by kernel_rfl
end FactsUniMC
open FactsUniMC

theorem binds_tree : ∀ {Bs : List Bd}, (∀ b ∈ Bs, Nine b.nodes ∧ b.row.length = 5) → Bs.all bindM = true → ∃ Ts : List Bt, Bs.map pl = Ts.map Bt.pl ∧ ∀ b ∈ Ts, b.ok
  | [], _, _ => ⟨[], rfl, fun b hb => by cases hb⟩
  | b :: Bs, h, hb => by
    rw [List.all_cons, Bool.and_eq_true] at hb
    obtain ⟨Ts, h1, h2⟩ := binds_tree (fun x hx => h x (List.mem_cons_of_mem _ hx)) hb.2
    obtain ⟨h9, h5⟩ := h b List.mem_cons_self
    have hm := hb.1
    unfold bindM at hm
    rw [Bool.and_eq_true] at hm
    cases hr : b.isRow with
    | true =>
      rw [hr] at hm
      simp only [if_true, Bool.and_eq_true, decide_eq_true_eq] at hm
      refine ⟨.r b.var b.row :: Ts, ?_, fun x hx => ?_⟩
      · rw [List.map_cons, List.map_cons, h1]
        congr 1
        unfold pl Bt.pl
        rw [hr, List.eq_nil_of_length_eq_zero hm.2.1]
      · rcases List.mem_cons.1 hx with rfl | hx
        · exact ⟨h5, hm.2.2⟩
        · exact h2 x hx
    | false =>
      rw [hr] at hm
      simp only [Bool.false_eq_true, if_false, Bool.and_eq_true, decide_eq_true_eq] at hm
      obtain ⟨t, ht, hn, hz⟩ := typ_dec h9 hm.2.2
      refine ⟨.t b.var t :: Ts, ?_, fun x hx => ?_⟩
      · rw [List.map_cons, List.map_cons, h1]
        congr 1
        unfold pl Bt.pl
        rw [hr, hm.2.1, hn]
      · rcases List.mem_cons.1 hx with rfl | hx
        · exact ⟨ht, hz⟩
        · exact h2 x hx
theorem subT_some {Bs : List Bd} {L X : List (List Int)} (h : subT Bs L = some X) : bindsM Bs = true ∧ typM L = true := by
  unfold subT at h
  split at h
  · assumption
  · cases h
end Go.Proofs.Ytlfillhffpiffaa

namespace Go.Proofs.Ytlfillhffpiffaa
set_option linter.unusedSimpArgs false
set_option linter.unusedVariables false
set_option maxRecDepth 8000
open Go Go.Fx Go.Proofs

theorem own_inst {Bs : List Bd} {L W : List (List Int)} (hB : ∀ b ∈ Bs, Nine b.nodes ∧ b.row.length = 5) (hL : Nine L) (h : subT Bs L = some W) :
    ∃ t w : Tm, L = t.enc 0 ∧ W = w.enc 0 ∧ t.ok ∧ w.ok ∧ t.sz ≤ 256 ∧ w.sz ≤ 256 ∧ (inst [] t w).isSome = true := by
  obtain ⟨hb, hT⟩ := subT_some h
  unfold bindsM at hb
  rw [Bool.and_eq_true] at hb
  obtain ⟨Ts, k1, k2⟩ := binds_tree hB hb.2
  obtain ⟨t, ht, rfl, htz⟩ := typ_dec hL hT
  obtain ⟨u, hu, rfl⟩ := subT_tys k1 k2 h
  have huo := sub_ok k2 ht (tys_sub hu).1
  obtain ⟨M', hM, _⟩ := inst_of (asg_ok k2) ht huo (has_nil _) (sub_asg k2 ht (tys_sub hu).1)
  exact ⟨t, u, rfl, rfl, ht, huo, htz, (tys_sub hu).2, by rw [hM]; rfl⟩
end Go.Proofs.Ytlfillhffpiffaa

