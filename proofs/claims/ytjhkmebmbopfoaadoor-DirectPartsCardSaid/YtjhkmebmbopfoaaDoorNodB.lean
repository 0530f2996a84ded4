/-
  Nodes: tree.may.
-/
import Derived.Test.YtjhkmebmbopfoaaDoorNodA
namespace Go.Proofs.YtjhkmebmbopfoaaDoor
set_option linter.unusedSimpArgs false
set_option linter.unusedVariables false
set_option maxRecDepth 8000
set_option maxHeartbeats 1000000
open Go Go.Fx Go.Proofs
namespace FactsNodB
theorem ag35 : ag Tryd.prog 35 = some 10 := by kernel_rfl
theorem eqt35 : eqT Tryd.prog 35 = some [.int .i64, .int .i64, .int .i64, .int .i64, .int .i64, .str, .str, .str, .str, .int .i64] := by kernel_rfl
theorem es129 : esz Tryd.prog 129 = some 1 := by kernel_rfl
theorem es79 : esz Tryd.prog 79 = some 1 := by kernel_rfl
theorem fo35_0 : foff Tryd.prog 35 0 = some 0 := by kernel_rfl
theorem fo35_4 : foff Tryd.prog 35 4 = some 4 := by kernel_rfl
theorem fo35_9 : foff Tryd.prog 35 9 = some 9 := by kernel_rfl
theorem isl129 : isSl Tryd.prog 129 = true := by kernel_rfl
theorem isl79 : isSl Tryd.prog 79 = true := by kernel_rfl
theorem pl35 : places Tryd.prog 35 = some [(0, 1), (1, 1), (2, 1), (3, 1), (4, 1), (5, 1), (6, 1), (7, 1), (8, 1), (9, 1)] := by kernel_rfl
theorem sc131 : sc Tryd.prog 131 = true := by kernel_rfl
theorem sc3 : sc Tryd.prog 3 = true := by kernel_rfl
theorem sc82 : sc Tryd.prog 82 = true := by kernel_rfl
theorem sc9 : sc Tryd.prog 9 = true := by kernel_rfl
theorem zc35 : zc Tryd.prog 35 = some [.int .i64 0, .int .i64 0, .int .i64 0, .int .i64 0, .int .i64 0, .string ⟨#[]⟩, .string ⟨#[]⟩, .string ⟨#[]⟩, .string ⟨#[]⟩, .int .i64 0] := by kernel_rfl
end FactsNodB
open FactsNodB

/-- a row that stands in a block behind lo, or has nothing -/
def PtrO (H : Heap) (lo : Nat) (A : Option Addr) (vs : List Value) : Prop := vs.length = 0 ∨ ∃ B, lo ≤ B ∧ A = some ⟨B, 0, none⟩ ∧ Own H B vs
theorem PtrO.ext {H H' : Heap} {lo : Nat} {A : Option Addr} {vs : List Value} (h : PtrO H lo A vs) (he : Ext H H') : PtrO H' lo A vs :=
  h.imp id fun ⟨B, h1, h2, h3⟩ => ⟨B, h1, h2, h3.ext he⟩
theorem PtrO.upw {H H' : Heap} {lo b' : Nat} {c' : List Value} {A : Option Addr} {vs : List Value} (h : PtrO H lo A vs) (u : Upd H H' b' c') (hb : b' < lo) : PtrO H' lo A vs :=
  h.imp id fun ⟨B, h1, h2, h3⟩ => ⟨B, h1, h2, h3.upw u (by omega)⟩
theorem PtrO.lt {H : Heap} {lo : Nat} {A : Option Addr} {vs : List Value} (h : PtrO H lo A vs) : True := trivial
theorem PtrO.of {H H' : Heap} {v : Value} {b : Nat} {os : List Nat} (h : PtrS H H' v b os) : ∃ A, v = .slice A os.length os.length ∧ PtrO H' H.size A (os.map (ptr b)) ∧ Ext H H' := by
  obtain ⟨h1, A, h2, h3⟩ := h
  exact ⟨A, h2, h3.imp (fun h => by simpa using h) id, h1⟩
theorem PtrO.get {H : Heap} {lo : Nat} {A : Option Addr} {os : List Nat} {b i : Nat} (h : PtrO H lo A (os.map (ptr b))) (hi : i < os.length) : ∃ B, lo ≤ B ∧ A = some ⟨B, 0, none⟩ ∧ Own H B (os.map (ptr b)) ∧ (os.map (ptr b))[0 + (i : Int).toNat * 1]? = some (ptr b (os.getD i 0)) := by
  obtain ⟨B, h1, h2, h3⟩ := h.resolve_left (by rw [List.length_map]; omega)
  exact ⟨B, h1, h2, h3, ptr_at hi⟩

def sget (n : Nd) (o : Nat) : BS := if o = 5 then n.nm else if o = 6 then n.x else if o = 7 then n.y else n.z
def sclr (n : Nd) (o : Nat) : Nd := if o = 5 then { n with nm := [] } else if o = 6 then { n with x := [] } else if o = 7 then { n with y := [] } else { n with z := [] }
def iget (n : Nd) (o : Nat) : Int := if o = 1 then n.a else if o = 2 then n.b else n.c
def iclr (n : Nd) (o : Nat) : Nd := if o = 1 then { n with a := 0 } else if o = 2 then { n with b := 0 } else { n with c := 0 }
theorem off4 {o : Nat} (h : 5 ≤ o ∧ o ≤ 8) : o = 5 ∨ o = 6 ∨ o = 7 ∨ o = 8 := by omega
theorem off3 {o : Nat} (h : 1 ≤ o ∧ o ≤ 3) : o = 1 ∨ o = 2 ∨ o = 3 := by omega
theorem eN_str {n : Nd} {o : Nat} (h : 5 ≤ o ∧ o ≤ 8) : (eN n)[o]? = some (S (sget n o)) := by rcases off4 h with rfl | rfl | rfl | rfl <;> rfl
theorem eN_sclr {n : Nd} {o : Nat} (h : 5 ≤ o ∧ o ≤ 8) : (eN n).set o (S []) = eN (sclr n o) := by rcases off4 h with rfl | rfl | rfl | rfl <;> rfl
theorem eN_int {n : Nd} {o : Nat} (h : 1 ≤ o ∧ o ≤ 3) : (eN n)[o]? = some (I (iget n o)) := by rcases off3 h with rfl | rfl | rfl <;> rfl
theorem eN_iclr {n : Nd} {o : Nat} (h : 1 ≤ o ∧ o ≤ 3) : (eN n).set o (I 0) = eN (iclr n o) := by rcases off3 h with rfl | rfl | rfl <;> rfl
theorem sclr_same {n : Nd} {o : Nat} (h : 5 ≤ o ∧ o ≤ 8) : (sclr n o).k = n.k ∧ (sclr n o).p = n.p ∧ (sclr n o).num = n.num := by rcases off4 h with rfl | rfl | rfl | rfl <;> exact ⟨rfl, rfl, rfl⟩
theorem iclr_same {n : Nd} {o : Nat} (h : 1 ≤ o ∧ o ≤ 3) : (iclr n o).k = n.k ∧ (iclr n o).p = n.p ∧ (iclr n o).num = n.num := by rcases off3 h with rfl | rfl | rfl <;> exact ⟨rfl, rfl, rfl⟩
theorem nn_lt (k : Int) : (nnOffs k).length ≤ 4 ∧ ∀ i, i < (nnOffs k).length → 5 ≤ (nnOffs k).getD i 0 ∧ (nnOffs k).getD i 0 ≤ 8 := by
  unfold nnOffs
  split
  · decide
  · split
    · decide
    · split
      · decide
      · split
        · decide
        · exact ⟨by simp, fun i h => by simp at h⟩
theorem nk_lt (k : Int) : (nkOffs k).length ≤ 3 ∧ ∀ i, i < (nkOffs k).length → 1 ≤ (nkOffs k).getD i 0 ∧ (nkOffs k).getD i 0 ≤ 3 := by
  unfold nkOffs
  split
  · decide
  · split
    · decide
    · split
      · decide
      · exact ⟨by simp, fun i h => by simp at h⟩
theorem nn_in (k : Int) (i : Nat) (h : i < (nnOffs k).length) : 5 ≤ (nnOffs k).getD i 0 ∧ (nnOffs k).getD i 0 ≤ 8 := (nn_lt k).2 i h
theorem nk_in (k : Int) (i : Nat) (h : i < (nkOffs k).length) : 1 ≤ (nkOffs k).getD i 0 ∧ (nkOffs k).getD i 0 ≤ 3 := (nk_lt k).2 i h
theorem nn_len (k : Int) : (nnOffs k).length ≤ 4 := (nn_lt k).1
theorem nk_len (k : Int) : (nkOffs k).length ≤ 3 := (nk_lt k).1

def namesN : List Nat → Nd → Option Nd
  | [], n => some n
  | o :: os, n => if nmMay (sget n o) then namesN os (sclr n o) else none
def clrN (os : List Nat) (n : Nd) : Nd := os.foldl iclr n
def lastN (named : Bool) (n : Nd) : Nd := if decide (0 ≤ nMost n.k) || (!named && nNum n.k) then { n with num := 0 } else n
/-- may a node be? -/
def mayN (named : Bool) (n : Nd) : Bool :=
  if n.k < 0 ∨ 10 < n.k ∨ n.p < 0 ∨ 4096 < n.p then false else
  if 0 ≤ nMost n.k ∧ (n.num < 0 ∨ nMost n.k < n.num) then false else
  match (if named then namesN (nnOffs n.k) n else some n) with
  | none => false
  | some m => decide (lastN named (clrN (nkOffs n.k) m) = { k := n.k, a := 0, b := 0, c := 0, num := 0, nm := [], x := [], y := [], z := [], p := n.p })
theorem nnames_ok0 {b : Nat} {k : Int} {c : List Value} {H : Heap} (hb : Blk H b c) (hk : c[0]? = some (I k)) :
    Ret Tryd.prog 93 [ptr b 0] H (fun v H' => ∃ A, v = .slice A (nnOffs k).length (nnOffs k).length ∧ PtrO H' H.size A ((nnOffs k).map (ptr b)) ∧ Ext H H') := by
  refine (nnames_ok (o := 0) hb hk).mono fun v H' h => ?_
  simp only [Nat.zero_add, List.map_id'] at h
  exact PtrO.of h
theorem nkids_ok0 {b : Nat} {k : Int} {c : List Value} {H : Heap} (hb : Blk H b c) (hk : c[0]? = some (I k)) :
    Ret Tryd.prog 38 [ptr b 0] H (fun v H' => ∃ A, v = .slice A (nkOffs k).length (nkOffs k).length ∧ PtrO H' H.size A ((nkOffs k).map (ptr b)) ∧ Ext H H') := by
  refine (nkids_ok (o := 0) hb hk).mono fun v H' h => ?_
  simp only [Nat.zero_add, List.map_id'] at h
  exact PtrO.of h
theorem mayN_k {named : Bool} {n : Nd} (h : n.k < 0 ∨ 10 < n.k ∨ n.p < 0 ∨ 4096 < n.p) : mayN named n = false := if_pos h
theorem mayN_n {named : Bool} {n : Nd} (h : 0 ≤ nMost n.k ∧ (n.num < 0 ∨ nMost n.k < n.num)) : mayN named n = false := by
  by_cases h1 : n.k < 0 ∨ 10 < n.k ∨ n.p < 0 ∨ 4096 < n.p
  · exact mayN_k h1
  · unfold mayN; rw [if_neg h1, if_pos h]
theorem mayN_s {named : Bool} {n : Nd} (h : (if named then namesN (nnOffs n.k) n else some n) = none) : mayN named n = false := by
  by_cases h1 : n.k < 0 ∨ 10 < n.k ∨ n.p < 0 ∨ 4096 < n.p
  · exact mayN_k h1
  · by_cases h2 : 0 ≤ nMost n.k ∧ (n.num < 0 ∨ nMost n.k < n.num)
    · exact mayN_n h2
    · unfold mayN; rw [if_neg h1, if_neg h2, h]
theorem mayN_y {named : Bool} {n m : Nd} (h1 : ¬ (n.k < 0 ∨ 10 < n.k ∨ n.p < 0 ∨ 4096 < n.p)) (h2 : ¬ (0 ≤ nMost n.k ∧ (n.num < 0 ∨ nMost n.k < n.num))) (h : (if named then namesN (nnOffs n.k) n else some n) = some m) :
    mayN named n = decide (lastN named (clrN (nkOffs n.k) m) = { k := n.k, a := 0, b := 0, c := 0, num := 0, nm := [], x := [], y := [], z := [], p := n.p }) := by
  unfold mayN; rw [if_neg h1, if_neg h2, h]

/-- its texts are short -/
def Shr (n : Nd) : Prop := n.nm.length ≤ 140737488355328 ∧ n.x.length ≤ 140737488355328 ∧ n.y.length ≤ 140737488355328 ∧ n.z.length ≤ 140737488355328
theorem Shr.get {n : Nd} (h : Shr n) (o : Nat) : (sget n o).length ≤ 140737488355328 := by
  unfold sget; repeat' split
  · exact h.1
  · exact h.2.1
  · exact h.2.2.1
  · exact h.2.2.2
theorem Shr.clr {n : Nd} (h : Shr n) (o : Nat) : Shr (sclr n o) := by
  obtain ⟨h1, h2, h3, h4⟩ := h
  unfold sclr; repeat' split
  all_goals refine ⟨?_, ?_, ?_, ?_⟩ <;> first | assumption | (simp; done)
theorem fks_eN (n : Nd) : fks [.int .i64, .int .i64, .int .i64, .int .i64, .int .i64, .str, .str, .str, .str, .int .i64] (eN n) :=
  ⟨⟨_, rfl⟩, ⟨_, rfl⟩, ⟨_, rfl⟩, ⟨_, rfl⟩, ⟨_, rfl⟩, ⟨_, rfl⟩, ⟨_, rfl⟩, ⟨_, rfl⟩, ⟨_, rfl⟩, ⟨_, rfl⟩, trivial⟩
theorem eqs_eN (n m : Nd) : eqs (eN n) (eN m) = decide (n = m) := by
  have hs : ∀ a b : BS, ((bs a).toList == (bs b).toList) = (a == b) := fun a b => by
    rw [str_beq]; by_cases h : a = b
    · subst h; simp
    · rw [beq_false_of_ne h]; exact decide_eq_false h
  cases n; cases m
  simp only [eN, eqs, eqv, hs, Nd.mk.injEq, Bool.and_true]
  rw [Bool.eq_iff_iff]
  simp
theorem nmay_ok (x : Nd) (hx : Shr x) (named : Bool) (H : Heap) :
    Ret Tryd.prog 65 [.agg (eN x).toArray, .bool named] H (fun v H' => v = .bool (mayN named x) ∧ Ext H H') := by
  refine Ret.of_at (N := 87) Tryd.call65 Tryd.func65 rfl rfl rfl ?_
  have hE := Ext.refl H
  refine At.region rfl rfl ?_
  refine Reg.op rfl rfl rfl rfl (Does.box rfl rfl) ?_
  rintro _ H0_0 ⟨rfl, hn0_0⟩
  have z0_0 := hn0_0.size
  replace hE := hE.ext hn0_0.ext
  have o0_0 := hn0_0.own
  refine Reg.pur rfl rfl rfl rfl (Pur.asg rfl) ?_
  refine Reg.nil ?_
  refine At.region rfl rfl ?_
  refine Reg.pur rfl rfl rfl rfl (Pur.fld _ fo35_0 rfl) ?_
  refine Reg.lod rfl rfl rfl rfl (Lod.ld sc3 rfl o0_0.blk (by first | rfl | (simp; done))) ?_
  refine Reg.pur rfl rfl rfl rfl (Pur.lss rfl rfl) ?_
  refine Reg.pur rfl rfl rfl rfl (Pur.mv rfl) ?_
  refine Reg.case 13 rfl (fun q13 => ?_) (fun q13 => ?_)
  · first | (simp only [decide_eq_true_eq, decide_eq_false_iff_not, Bool.not_eq_true', Bool.not_eq_false', ne_eq, Decidable.not_not, Bool.not_eq_true, Bool.not_eq_false] at q13) | (dsimp only at q13) | skip
    refine Reg.skip rfl rfl rfl rfl rfl rfl rfl ?_
    refine Reg.skip rfl rfl rfl rfl rfl rfl rfl ?_
    refine Reg.skip rfl rfl rfl rfl rfl rfl rfl ?_
    refine Reg.pur rfl rfl rfl rfl (Pur.pickT rfl rfl) ?_
    refine Reg.pur rfl rfl rfl rfl (Pur.mv rfl) ?_
    refine Reg.skip rfl rfl rfl rfl rfl rfl rfl ?_
    refine Reg.skip rfl rfl rfl rfl rfl rfl rfl ?_
    refine Reg.skip rfl rfl rfl rfl rfl rfl rfl ?_
    refine Reg.pur rfl rfl rfl rfl (Pur.pickT rfl rfl) ?_
    refine Reg.pur rfl rfl rfl rfl (Pur.mv rfl) ?_
    refine Reg.skip rfl rfl rfl rfl rfl rfl rfl ?_
    refine Reg.skip rfl rfl rfl rfl rfl rfl rfl ?_
    refine Reg.skip rfl rfl rfl rfl rfl rfl rfl ?_
    refine Reg.pur rfl rfl rfl rfl (Pur.pickT rfl rfl) ?_
    refine Reg.nil ?_
    refine At.condT rfl rfl rfl ?_
    refine At.region rfl rfl ?_
    refine Reg.pur rfl rfl rfl rfl (Pur.asg rfl) ?_
    refine Reg.nil ?_
    refine At.ret rfl Tryd.func65 rfl ?_
    exact ⟨by rw [mayN_k (by omega)], hE⟩
  first | (simp only [decide_eq_true_eq, decide_eq_false_iff_not, Bool.not_eq_true', Bool.not_eq_false', ne_eq, Decidable.not_not, Bool.not_eq_true, Bool.not_eq_false] at q13) | (dsimp only at q13) | skip
  refine Reg.gpur rfl rfl rfl rfl rfl rfl (Pur.fld _ fo35_0 rfl) ?_
  refine Reg.glod rfl rfl rfl rfl rfl rfl (Lod.ld sc3 rfl o0_0.blk (by first | rfl | (simp; done))) ?_
  refine Reg.gpur rfl rfl rfl rfl rfl rfl (Pur.gtr rfl rfl) ?_
  refine Reg.pur rfl rfl rfl rfl (Pur.pickF rfl rfl) ?_
  refine Reg.pur rfl rfl rfl rfl (Pur.mv rfl) ?_
  refine Reg.case 18 rfl (fun q18 => ?_) (fun q18 => ?_)
  · first | (simp only [decide_eq_true_eq, decide_eq_false_iff_not, Bool.not_eq_true', Bool.not_eq_false', ne_eq, Decidable.not_not, Bool.not_eq_true, Bool.not_eq_false] at q18) | (dsimp only at q18) | skip
    refine Reg.skip rfl rfl rfl rfl rfl rfl rfl ?_
    refine Reg.skip rfl rfl rfl rfl rfl rfl rfl ?_
    refine Reg.skip rfl rfl rfl rfl rfl rfl rfl ?_
    refine Reg.pur rfl rfl rfl rfl (Pur.pickT rfl rfl) ?_
    refine Reg.pur rfl rfl rfl rfl (Pur.mv rfl) ?_
    refine Reg.skip rfl rfl rfl rfl rfl rfl rfl ?_
    refine Reg.skip rfl rfl rfl rfl rfl rfl rfl ?_
    refine Reg.skip rfl rfl rfl rfl rfl rfl rfl ?_
    refine Reg.pur rfl rfl rfl rfl (Pur.pickT rfl rfl) ?_
    refine Reg.nil ?_
    refine At.condT rfl rfl rfl ?_
    refine At.region rfl rfl ?_
    refine Reg.pur rfl rfl rfl rfl (Pur.asg rfl) ?_
    refine Reg.nil ?_
    refine At.ret rfl Tryd.func65 rfl ?_
    exact ⟨by rw [mayN_k (by omega)], hE⟩
  first | (simp only [decide_eq_true_eq, decide_eq_false_iff_not, Bool.not_eq_true', Bool.not_eq_false', ne_eq, Decidable.not_not, Bool.not_eq_true, Bool.not_eq_false] at q18) | (dsimp only at q18) | skip
  refine Reg.gpur rfl rfl rfl rfl rfl rfl (Pur.fld _ fo35_9 rfl) ?_
  refine Reg.glod rfl rfl rfl rfl rfl rfl (Lod.ld sc3 rfl o0_0.blk (by first | rfl | (simp; done))) ?_
  refine Reg.gpur rfl rfl rfl rfl rfl rfl (Pur.lss rfl rfl) ?_
  refine Reg.pur rfl rfl rfl rfl (Pur.pickF rfl rfl) ?_
  refine Reg.pur rfl rfl rfl rfl (Pur.mv rfl) ?_
  refine Reg.case 23 rfl (fun q23 => ?_) (fun q23 => ?_)
  · first | (simp only [decide_eq_true_eq, decide_eq_false_iff_not, Bool.not_eq_true', Bool.not_eq_false', ne_eq, Decidable.not_not, Bool.not_eq_true, Bool.not_eq_false] at q23) | (dsimp only at q23) | skip
    refine Reg.skip rfl rfl rfl rfl rfl rfl rfl ?_
    refine Reg.skip rfl rfl rfl rfl rfl rfl rfl ?_
    refine Reg.skip rfl rfl rfl rfl rfl rfl rfl ?_
    refine Reg.pur rfl rfl rfl rfl (Pur.pickT rfl rfl) ?_
    refine Reg.nil ?_
    refine At.condT rfl rfl rfl ?_
    refine At.region rfl rfl ?_
    refine Reg.pur rfl rfl rfl rfl (Pur.asg rfl) ?_
    refine Reg.nil ?_
    refine At.ret rfl Tryd.func65 rfl ?_
    exact ⟨by rw [mayN_k (by omega)], hE⟩
  first | (simp only [decide_eq_true_eq, decide_eq_false_iff_not, Bool.not_eq_true', Bool.not_eq_false', ne_eq, Decidable.not_not, Bool.not_eq_true, Bool.not_eq_false] at q23) | (dsimp only at q23) | skip
  refine Reg.gpur rfl rfl rfl rfl rfl rfl (Pur.fld _ fo35_9 rfl) ?_
  refine Reg.glod rfl rfl rfl rfl rfl rfl (Lod.ld sc3 rfl o0_0.blk (by first | rfl | (simp; done))) ?_
  refine Reg.gpur rfl rfl rfl rfl rfl rfl (Pur.gtr rfl rfl) ?_
  refine Reg.pur rfl rfl rfl rfl (Pur.pickF rfl rfl) ?_
  refine Reg.nil ?_
  refine At.cond rfl rfl (fun q27 => ?_) (fun q27 => ?_)
  · first | (simp only [decide_eq_true_eq, decide_eq_false_iff_not, Bool.not_eq_true', Bool.not_eq_false', ne_eq, Decidable.not_not, Bool.not_eq_true, Bool.not_eq_false] at q27) | (dsimp only at q27) | skip
    refine At.region rfl rfl ?_
    refine Reg.pur rfl rfl rfl rfl (Pur.asg rfl) ?_
    refine Reg.nil ?_
    refine At.ret rfl Tryd.func65 rfl ?_
    exact ⟨by rw [mayN_k (by omega)], hE⟩
  first | (simp only [decide_eq_true_eq, decide_eq_false_iff_not, Bool.not_eq_true', Bool.not_eq_false', ne_eq, Decidable.not_not, Bool.not_eq_true, Bool.not_eq_false] at q27) | (dsimp only at q27) | skip
  refine At.region rfl rfl ?_
  refine Reg.pur rfl rfl rfl rfl (Pur.fld _ fo35_0 rfl) ?_
  refine Reg.lod rfl rfl rfl rfl (Lod.ld sc3 rfl o0_0.blk (by first | rfl | (simp; done))) ?_
  refine Reg.op rfl rfl rfl rfl (Does.call rfl (nmost_ok _ _)) ?_
  rintro _ H0_0 ⟨rfl, rfl⟩
  refine Reg.pur rfl rfl rfl rfl (Pur.asg rfl) ?_
  refine Reg.nil ?_
  refine At.region rfl rfl ?_
  refine Reg.pur rfl rfl rfl rfl (Pur.mv rfl) ?_
  refine Reg.pur rfl rfl rfl rfl (Pur.geq rfl rfl) ?_
  refine Reg.pur rfl rfl rfl rfl (Pur.mv rfl) ?_
  refine Reg.case 33 rfl (fun q33 => ?_) (fun q33 => ?_)
  · first | (simp only [decide_eq_true_eq, decide_eq_false_iff_not, Bool.not_eq_true', Bool.not_eq_false', ne_eq, Decidable.not_not, Bool.not_eq_true, Bool.not_eq_false] at q33) | (dsimp only at q33) | skip
    refine Reg.gpur rfl rfl rfl rfl rfl rfl (Pur.fld _ fo35_4 rfl) ?_
    refine Reg.glod rfl rfl rfl rfl rfl rfl (Lod.ld sc3 rfl o0_0.blk (by first | rfl | (simp; done))) ?_
    refine Reg.gpur rfl rfl rfl rfl rfl rfl (Pur.lss rfl rfl) ?_
    refine Reg.gpur rfl rfl rfl rfl rfl rfl (Pur.mv rfl) ?_
    refine Reg.case 37 rfl (fun q37 => ?_) (fun q37 => ?_)
    · first | (simp only [decide_eq_true_eq, decide_eq_false_iff_not, Bool.not_eq_true', Bool.not_eq_false', ne_eq, Decidable.not_not, Bool.not_eq_true, Bool.not_eq_false] at q37) | (dsimp only at q37) | skip
      refine Reg.skip rfl rfl rfl rfl rfl rfl rfl ?_
      refine Reg.skip rfl rfl rfl rfl rfl rfl rfl ?_
      refine Reg.skip rfl rfl rfl rfl rfl rfl rfl ?_
      refine Reg.skip rfl rfl rfl rfl rfl rfl rfl ?_
      refine Reg.gpur rfl rfl rfl rfl rfl rfl (Pur.pickT rfl rfl) ?_
      refine Reg.pur rfl rfl rfl rfl (Pur.pickT rfl rfl) ?_
      refine Reg.nil ?_
      refine At.condT rfl rfl rfl ?_
      refine At.region rfl rfl ?_
      refine Reg.pur rfl rfl rfl rfl (Pur.asg rfl) ?_
      refine Reg.nil ?_
      refine At.ret rfl Tryd.func65 rfl ?_
      exact ⟨by rw [mayN_n (by omega)], hE⟩
    first | (simp only [decide_eq_true_eq, decide_eq_false_iff_not, Bool.not_eq_true', Bool.not_eq_false', ne_eq, Decidable.not_not, Bool.not_eq_true, Bool.not_eq_false] at q37) | (dsimp only at q37) | skip
    refine Reg.gpur rfl rfl rfl rfl rfl rfl (Pur.fld _ fo35_4 rfl) ?_
    refine Reg.glod rfl rfl rfl rfl rfl rfl (Lod.ld sc3 rfl o0_0.blk (by first | rfl | (simp; done))) ?_
    refine Reg.gpur rfl rfl rfl rfl rfl rfl (Pur.mv rfl) ?_
    refine Reg.gpur rfl rfl rfl rfl rfl rfl (Pur.gtr rfl rfl) ?_
    refine Reg.gpur rfl rfl rfl rfl rfl rfl (Pur.pickF rfl rfl) ?_
    refine Reg.pur rfl rfl rfl rfl (Pur.pickT rfl rfl) ?_
    refine Reg.nil ?_
    refine At.cond rfl rfl (fun q43 => ?_) (fun q43 => ?_)
    · first | (simp only [decide_eq_true_eq, decide_eq_false_iff_not, Bool.not_eq_true', Bool.not_eq_false', ne_eq, Decidable.not_not, Bool.not_eq_true, Bool.not_eq_false] at q43) | (dsimp only at q43) | skip
      refine At.region rfl rfl ?_
      refine Reg.pur rfl rfl rfl rfl (Pur.asg rfl) ?_
      refine Reg.nil ?_
      refine At.ret rfl Tryd.func65 rfl ?_
      exact ⟨by rw [mayN_n (by omega)], hE⟩
    first | (simp only [decide_eq_true_eq, decide_eq_false_iff_not, Bool.not_eq_true', Bool.not_eq_false', ne_eq, Decidable.not_not, Bool.not_eq_true, Bool.not_eq_false] at q43) | (dsimp only at q43) | skip
    refine At.region rfl rfl ?_
    refine Reg.pur rfl rfl rfl rfl (Pur.mv rfl) ?_
    refine Reg.nil ?_
    refine At.joinc (σ := Nd) (fun _ => [(2, ptr H.size 0), (5, I (nMost x.k)), (1, .bool named)]) (fun m H' => Own H' H.size (eN m) ∧ Ext H H' ∧ (if named then namesN (nnOffs x.k) x else some x) = some m ∧ m.k = x.k ∧ m.p = x.p ∧ m.num = x.num) rfl (fun hJ => ?_) (fun m H3 hs => ?_)
    · refine At.cond rfl rfl (fun q44 => ?_) (fun q44 => ?_)
      · first | (simp only [decide_eq_true_eq, decide_eq_false_iff_not, Bool.not_eq_true', Bool.not_eq_false', ne_eq, Decidable.not_not, Bool.not_eq_true, Bool.not_eq_false] at q44) | (dsimp only at q44) | skip
        refine At.region rfl rfl ?_
        refine Reg.op rfl rfl rfl rfl (Does.call rfl (nnames_ok0 o0_0.blk rfl)) ?_
        rintro _ H7_0 ⟨A, rfl, hA, hE7_0⟩
        have z7_0 := hE7_0.lt
        replace hE := hE.ext hE7_0
        replace o0_0 := o0_0.ext hE7_0
        have z_hA := hA.lt
        refine Reg.pur rfl rfl rfl rfl (Pur.lenS isl129 rfl) ?_
        refine Reg.pur rfl rfl rfl rfl (Pur.mv rfl) ?_
        refine Reg.nil ?_
        refine At.loop (σ := Nat × Nd) (fun s => [(47, I s.1), (45, .slice A (nnOffs x.k).length (nnOffs x.k).length), (46, I (nnOffs x.k).length), (2, ptr H.size 0), (5, I (nMost x.k)), (1, .bool named)]) (fun s H' => s.1 ≤ (nnOffs x.k).length ∧ Own H' H.size (eN s.2) ∧ PtrO H' H0_0.size A ((nnOffs x.k).map (ptr H.size)) ∧ Ext H H' ∧ namesN ((nnOffs x.k).drop s.1) s.2 = namesN (nnOffs x.k) x ∧ (s.2.k = x.k ∧ s.2.p = x.p ∧ s.2.num = x.num) ∧ Shr s.2) (fun s => (nnOffs x.k).length - s.1) (0, x) rfl ⟨rfl, rfl, rfl, rfl, rfl, rfl, trivial⟩ ⟨by omega, o0_0, hA, hE, rfl, ⟨rfl, rfl, rfl⟩, hx⟩ ?_
        clear hA o0_0 hE
        rintro ⟨i, n⟩ H5 ⟨hi, o0_0, hA, hE, hgo, hsm, hsh⟩ ih
        dsimp only at hi o0_0 hgo hsm hsh ⊢
        refine At.region rfl rfl ?_
        refine Reg.pur rfl rfl rfl rfl (Pur.lss rfl rfl) ?_
        refine Reg.nil ?_
        refine At.cond rfl rfl (fun q48 => ?_) (fun q48 => ?_)
        · first | (simp only [decide_eq_true_eq, decide_eq_false_iff_not, Bool.not_eq_true', Bool.not_eq_false', ne_eq, Decidable.not_not, Bool.not_eq_true, Bool.not_eq_false] at q48) | (dsimp only at q48) | skip
          have hl4 := nn_len x.k
          have hlt : i < (nnOffs x.k).length := by omega
          have ho := nn_in x.k i hlt
          rw [drop_getD hlt, namesN] at hgo
          obtain ⟨B, hlo, rfl, hO, hg⟩ := hA.get hlt
          refine At.region rfl rfl ?_
          refine Reg.pur rfl rfl rfl rfl (Pur.idx _ es129 rfl rfl (by omega) (by omega)) ?_
          refine Reg.lod rfl rfl rfl rfl (Lod.ld sc131 rfl hO.blk hg) ?_
          refine Reg.pur rfl rfl rfl rfl (Pur.asg rfl) ?_
          refine Reg.nil ?_
          refine At.region rfl rfl ?_
          refine Reg.pur rfl rfl rfl rfl (Pur.mv rfl) ?_
          refine Reg.pur rfl rfl rfl rfl (Pur.nilc rfl) ?_
          refine Reg.lod rfl rfl rfl rfl (Lod.ld sc9 rfl o0_0.blk (eN_str ho)) ?_
          refine Reg.op rfl rfl rfl rfl (Does.call rfl (nameMay_ok _ (hsh.get _) _)) ?_
          rintro _ H10_3 ⟨rfl, hE10_3⟩
          have z10_3 := hE10_3.lt
          replace hE := hE.ext hE10_3
          replace o0_0 := o0_0.ext hE10_3
          replace hA := hA.ext hE10_3
          refine Reg.pur rfl rfl rfl rfl (Pur.not rfl) ?_
          refine Reg.nil ?_
          refine At.cond rfl rfl (fun q55 => ?_) (fun q55 => ?_)
          · first | (simp only [decide_eq_true_eq, decide_eq_false_iff_not, Bool.not_eq_true', Bool.not_eq_false', ne_eq, Decidable.not_not, Bool.not_eq_true, Bool.not_eq_false] at q55) | (dsimp only at q55) | skip
            refine At.region rfl rfl ?_
            refine Reg.pur rfl rfl rfl rfl (Pur.asg rfl) ?_
            refine Reg.nil ?_
            refine At.ret rfl Tryd.func65 rfl ?_
            refine ⟨congrArg Value.bool (mayN_s ?_).symm, hE⟩
            rw [if_pos ‹named = true›, ← hgo, if_neg (nt ‹_›)]
          first | (simp only [decide_eq_true_eq, decide_eq_false_iff_not, Bool.not_eq_true', Bool.not_eq_false', ne_eq, Decidable.not_not, Bool.not_eq_true, Bool.not_eq_false] at q55) | (dsimp only at q55) | skip
          refine At.region rfl rfl ?_
          refine Reg.pur rfl rfl rfl rfl (Pur.mv rfl) ?_
          refine Reg.pur rfl rfl rfl rfl (Pur.nilc rfl) ?_
          refine Reg.op0 rfl rfl rfl (Does.st sc9 rfl rfl rfl o0_0 (by rw [eN_len]; omega)) ?_
          rintro _ H12_2 hu12_2
          have z12_2 := hu12_2.size
          replace hE := hE.upw hu12_2 (by omega)
          replace hA := hA.upw hu12_2 (by omega)
          replace o0_0 := hu12_2.own
          replace o0_0 : Own H12_2 H.size (eN (sclr n ((nnOffs x.k).getD i 0))) := by have e := eN_sclr (n := n) ho; have := hu12_2.own; rw [← e]; exact this
          refine Reg.nil ?_
          refine At.region rfl rfl ?_
          refine Reg.pur rfl rfl rfl rfl (Pur.add64 rfl rfl (by omega)) ?_
          refine Reg.pur rfl rfl rfl rfl (Pur.mv rfl) ?_
          refine Reg.nil ?_
          rw [if_pos ‹_›] at hgo
          have hq := sclr_same (n := n) ho
          exact At.meets rfl (ih (i + 1, sclr n ((nnOffs x.k).getD i 0)) _ ⟨by omega, o0_0, hA, hE, hgo, ⟨by rw [hq.1, hsm.1], by rw [hq.2.1, hsm.2.1], by rw [hq.2.2, hsm.2.2]⟩, hsh.clr _⟩ (by simp only; omega)) ⟨rfl, rfl, rfl, rfl, rfl, rfl, trivial⟩
        first | (simp only [decide_eq_true_eq, decide_eq_false_iff_not, Bool.not_eq_true', Bool.not_eq_false', ne_eq, Decidable.not_not, Bool.not_eq_true, Bool.not_eq_false] at q48) | (dsimp only at q48) | skip
        rw [List.drop_of_length_le (by omega), namesN] at hgo
        exact At.meets rfl (hJ n _ ⟨o0_0, hE, by rw [if_pos ‹named = true›]; exact hgo.symm, hsm⟩) ⟨rfl, rfl, rfl, trivial⟩
      first | (simp only [decide_eq_true_eq, decide_eq_false_iff_not, Bool.not_eq_true', Bool.not_eq_false', ne_eq, Decidable.not_not, Bool.not_eq_true, Bool.not_eq_false] at q44) | (dsimp only at q44) | skip
      exact At.meets rfl (hJ x _ ⟨o0_0, hE, by rw [if_neg (nt ‹named = false›)], rfl, rfl, rfl⟩) ⟨rfl, rfl, rfl, trivial⟩
    obtain ⟨o0_0, hE, hm, hk, hp, hn⟩ := hs
    have hz3 := o0_0.lt
    refine At.region rfl rfl ?_
    refine Reg.op rfl rfl rfl rfl (Does.call rfl (nkids_ok0 (k := x.k) o0_0.blk (by rw [← hk]; rfl))) ?_
    rintro _ H14_0 ⟨A, rfl, hA, hE14_0⟩
    have z14_0 := hE14_0.lt
    replace hE := hE.ext hE14_0
    replace o0_0 := o0_0.ext hE14_0
    have z_hA := hA.lt
    refine Reg.pur rfl rfl rfl rfl (Pur.lenS isl79 rfl) ?_
    refine Reg.pur rfl rfl rfl rfl (Pur.mv rfl) ?_
    refine Reg.nil ?_
    refine At.loop (σ := Nat × Nd) (fun s => [(61, I s.1), (59, .slice A (nkOffs x.k).length (nkOffs x.k).length), (60, I (nkOffs x.k).length), (2, ptr H.size 0), (5, I (nMost x.k)), (1, .bool named)]) (fun s H' => s.1 ≤ (nkOffs x.k).length ∧ Own H' H.size (eN s.2) ∧ PtrO H' H3.size A ((nkOffs x.k).map (ptr H.size)) ∧ Ext H H' ∧ clrN ((nkOffs x.k).drop s.1) s.2 = clrN (nkOffs x.k) m ∧ (s.2.k = x.k ∧ s.2.p = x.p ∧ s.2.num = x.num)) (fun s => (nkOffs x.k).length - s.1) (0, m) rfl ⟨rfl, rfl, rfl, rfl, rfl, rfl, trivial⟩ ⟨by omega, o0_0, hA, hE, rfl, hk, hp, hn⟩ ?_
    clear hA hE
    rintro ⟨i, n⟩ H5 ⟨hi, o0_0, hA, hE, hgo, hsm⟩ ih
    dsimp only at hi o0_0 hgo hsm ⊢
    refine At.region rfl rfl ?_
    refine Reg.pur rfl rfl rfl rfl (Pur.lss rfl rfl) ?_
    refine Reg.nil ?_
    refine At.cond rfl rfl (fun q62 => ?_) (fun q62 => ?_)
    · first | (simp only [decide_eq_true_eq, decide_eq_false_iff_not, Bool.not_eq_true', Bool.not_eq_false', ne_eq, Decidable.not_not, Bool.not_eq_true, Bool.not_eq_false] at q62) | (dsimp only at q62) | skip
      have hl4 := nk_len x.k
      have hlt : i < (nkOffs x.k).length := by omega
      have ho := nk_in x.k i hlt
      rw [drop_getD hlt] at hgo
      obtain ⟨B, hlo, rfl, hO, hg⟩ := hA.get hlt
      refine At.region rfl rfl ?_
      refine Reg.pur rfl rfl rfl rfl (Pur.idx _ es79 rfl rfl (by omega) (by omega)) ?_
      refine Reg.lod rfl rfl rfl rfl (Lod.ld sc82 rfl hO.blk hg) ?_
      refine Reg.pur rfl rfl rfl rfl (Pur.asg rfl) ?_
      refine Reg.nil ?_
      refine At.region rfl rfl ?_
      refine Reg.pur rfl rfl rfl rfl (Pur.mv rfl) ?_
      refine Reg.pur rfl rfl rfl rfl (Pur.nilc rfl) ?_
      refine Reg.op0 rfl rfl rfl (Does.st sc3 rfl rfl rfl o0_0 (by rw [eN_len]; omega)) ?_
      rintro _ H17_2 hu17_2
      have z17_2 := hu17_2.size
      replace hE := hE.upw hu17_2 (by omega)
      replace hA := hA.upw hu17_2 (by omega)
      replace o0_0 := hu17_2.own
      replace o0_0 : Own H17_2 H.size (eN (iclr n ((nkOffs x.k).getD i 0))) := by have e := eN_iclr (n := n) ho; have := hu17_2.own; rw [← e]; exact this
      refine Reg.nil ?_
      refine At.region rfl rfl ?_
      refine Reg.pur rfl rfl rfl rfl (Pur.add64 rfl rfl (by omega)) ?_
      refine Reg.pur rfl rfl rfl rfl (Pur.mv rfl) ?_
      refine Reg.nil ?_
      have hq := iclr_same (n := n) ho
      exact At.meets rfl (ih (i + 1, iclr n ((nkOffs x.k).getD i 0)) _ ⟨by omega, o0_0, hA, hE, hgo, ⟨by rw [hq.1, hsm.1], by rw [hq.2.1, hsm.2.1], by rw [hq.2.2, hsm.2.2]⟩⟩ (by simp only; omega)) ⟨rfl, rfl, rfl, rfl, rfl, rfl, trivial⟩
    first | (simp only [decide_eq_true_eq, decide_eq_false_iff_not, Bool.not_eq_true', Bool.not_eq_false', ne_eq, Decidable.not_not, Bool.not_eq_true, Bool.not_eq_false] at q62) | (dsimp only at q62) | skip
    rw [List.drop_of_length_le (by omega)] at hgo
    refine At.region rfl rfl ?_
    refine Reg.pur rfl rfl rfl rfl (Pur.mv rfl) ?_
    refine Reg.pur rfl rfl rfl rfl (Pur.geq rfl rfl) ?_
    refine Reg.pur rfl rfl rfl rfl (Pur.mv rfl) ?_
    refine Reg.known (b' := true) 70 rfl (by first | exact q33 | exact decide_eq_true q33 | exact decide_eq_false q33 | simpa using q33) ?_
    refine Reg.skip rfl rfl rfl rfl rfl rfl rfl ?_
    refine Reg.skip rfl rfl rfl rfl rfl rfl rfl ?_
    refine Reg.skip rfl rfl rfl rfl rfl rfl rfl ?_
    refine Reg.skipU rfl rfl rfl rfl rfl rfl ?_
    refine Reg.skipU rfl rfl rfl rfl rfl rfl ?_
    refine Reg.skipU rfl rfl rfl rfl rfl rfl ?_
    refine Reg.skip rfl rfl rfl rfl rfl rfl rfl ?_
    refine Reg.pur rfl rfl rfl rfl (Pur.pickT rfl rfl) ?_
    refine Reg.nil ?_
    refine At.joinc (σ := Unit) (fun _ => [(2, ptr H.size 0)]) (fun _ H' => Own H' H.size (eN (lastN named n)) ∧ Ext H H') rfl (fun hJ => ?_) (fun _ H7 hs => ?_)
    · refine At.condT rfl rfl rfl ?_
      refine At.region rfl rfl ?_
      refine Reg.pur rfl rfl rfl rfl (Pur.fld _ fo35_4 rfl) ?_
      refine Reg.op0 rfl rfl rfl (Does.st sc3 rfl rfl rfl o0_0 (by rw [eN_len]; decide)) ?_
      rintro _ H20_1 hu20_1
      have z20_1 := hu20_1.size
      replace hE := hE.upw hu20_1 (by omega)
      replace hA := hA.upw hu20_1 (by omega)
      replace o0_0 := hu20_1.own
      refine Reg.nil ?_
      have e : lastN named n = { n with num := 0 } := if_pos (by rw [hsm.1]; simp [*])
      exact At.meets rfl (hJ () _ ⟨by rw [e]; exact o0_0, hE⟩) ⟨rfl, trivial⟩
    obtain ⟨o0_0, hE⟩ := hs
    have hl : (lastN named n).k = x.k ∧ (lastN named n).p = x.p := by unfold lastN; split <;> exact ⟨hsm.1, hsm.2.1⟩
    refine At.region rfl rfl ?_
    refine Reg.lod rfl rfl rfl rfl (Lod.ldn ag35 rfl o0_0.blk (whole rfl) rfl) ?_
    refine Reg.pur rfl rfl rfl rfl (Pur.fld _ fo35_0 rfl) ?_
    refine Reg.lod rfl rfl rfl rfl (Lod.ld sc3 rfl o0_0.blk (by show some (I (lastN named n).k) = _; rw [hl.1])) ?_
    refine Reg.pur rfl rfl rfl rfl (Pur.fld _ fo35_9 rfl) ?_
    refine Reg.lod rfl rfl rfl rfl (Lod.ld sc3 rfl o0_0.blk (by show some (I (lastN named n).p) = _; rw [hl.2])) ?_
    refine Reg.pur rfl rfl rfl rfl (Pur.bld (cs := [_, _, _, _, _, _, _, _, _, _]) pl35 zc35 rfl rfl ⟨rfl, rfl, rfl, rfl, rfl, rfl, rfl, rfl, rfl, rfl, rfl⟩) ?_
    refine Reg.pur rfl rfl rfl rfl (Pur.eqA eqt35 rfl rfl (fks_eN _) (fks_eN { k := x.k, a := 0, b := 0, c := 0, num := 0, nm := [], x := [], y := [], z := [], p := x.p })) ?_
    refine Reg.pur rfl rfl rfl rfl (Pur.asg rfl) ?_
    refine Reg.nil ?_
    refine At.ret rfl Tryd.func65 rfl ?_
    refine ⟨?_, hE⟩
    rw [mayN_y (m := m) (by omega) (by omega) hm, ← hgo]
    exact congrArg Value.bool (eqs_eN (lastN named n) { k := x.k, a := 0, b := 0, c := 0, num := 0, nm := [], x := [], y := [], z := [], p := x.p })
  first | (simp only [decide_eq_true_eq, decide_eq_false_iff_not, Bool.not_eq_true', Bool.not_eq_false', ne_eq, Decidable.not_not, Bool.not_eq_true, Bool.not_eq_false] at q33) | (dsimp only at q33) | skip
  refine Reg.skip rfl rfl rfl rfl rfl rfl rfl ?_
  refine Reg.skip rfl rfl rfl rfl rfl rfl rfl ?_
  refine Reg.skip rfl rfl rfl rfl rfl rfl rfl ?_
  refine Reg.skip rfl rfl rfl rfl rfl rfl rfl ?_
  refine Reg.skipU rfl rfl rfl rfl rfl rfl ?_
  refine Reg.skipU rfl rfl rfl rfl rfl rfl ?_
  refine Reg.skipU rfl rfl rfl rfl rfl rfl ?_
  refine Reg.skipU rfl rfl rfl rfl rfl rfl ?_
  refine Reg.skip rfl rfl rfl rfl rfl rfl rfl ?_
  refine Reg.pur rfl rfl rfl rfl (Pur.pickF rfl rfl) ?_
  refine Reg.nil ?_
  refine At.condF rfl rfl rfl ?_
  refine At.region rfl rfl ?_
  refine Reg.pur rfl rfl rfl rfl (Pur.mv rfl) ?_
  refine Reg.nil ?_
  refine At.joinc (σ := Nd) (fun _ => [(2, ptr H.size 0), (5, I (nMost x.k)), (1, .bool named)]) (fun m H' => Own H' H.size (eN m) ∧ Ext H H' ∧ (if named then namesN (nnOffs x.k) x else some x) = some m ∧ m.k = x.k ∧ m.p = x.p ∧ m.num = x.num) rfl (fun hJ => ?_) (fun m H3 hs => ?_)
  · refine At.cond rfl rfl (fun q44 => ?_) (fun q44 => ?_)
    · first | (simp only [decide_eq_true_eq, decide_eq_false_iff_not, Bool.not_eq_true', Bool.not_eq_false', ne_eq, Decidable.not_not, Bool.not_eq_true, Bool.not_eq_false] at q44) | (dsimp only at q44) | skip
      refine At.region rfl rfl ?_
      refine Reg.op rfl rfl rfl rfl (Does.call rfl (nnames_ok0 o0_0.blk rfl)) ?_
      rintro _ H7_0 ⟨A, rfl, hA, hE7_0⟩
      have z7_0 := hE7_0.lt
      replace hE := hE.ext hE7_0
      replace o0_0 := o0_0.ext hE7_0
      have z_hA := hA.lt
      refine Reg.pur rfl rfl rfl rfl (Pur.lenS isl129 rfl) ?_
      refine Reg.pur rfl rfl rfl rfl (Pur.mv rfl) ?_
      refine Reg.nil ?_
      refine At.loop (σ := Nat × Nd) (fun s => [(47, I s.1), (45, .slice A (nnOffs x.k).length (nnOffs x.k).length), (46, I (nnOffs x.k).length), (2, ptr H.size 0), (5, I (nMost x.k)), (1, .bool named)]) (fun s H' => s.1 ≤ (nnOffs x.k).length ∧ Own H' H.size (eN s.2) ∧ PtrO H' H0_0.size A ((nnOffs x.k).map (ptr H.size)) ∧ Ext H H' ∧ namesN ((nnOffs x.k).drop s.1) s.2 = namesN (nnOffs x.k) x ∧ (s.2.k = x.k ∧ s.2.p = x.p ∧ s.2.num = x.num) ∧ Shr s.2) (fun s => (nnOffs x.k).length - s.1) (0, x) rfl ⟨rfl, rfl, rfl, rfl, rfl, rfl, trivial⟩ ⟨by omega, o0_0, hA, hE, rfl, ⟨rfl, rfl, rfl⟩, hx⟩ ?_
      clear hA o0_0 hE
      rintro ⟨i, n⟩ H5 ⟨hi, o0_0, hA, hE, hgo, hsm, hsh⟩ ih
      dsimp only at hi o0_0 hgo hsm hsh ⊢
      refine At.region rfl rfl ?_
      refine Reg.pur rfl rfl rfl rfl (Pur.lss rfl rfl) ?_
      refine Reg.nil ?_
      refine At.cond rfl rfl (fun q48 => ?_) (fun q48 => ?_)
      · first | (simp only [decide_eq_true_eq, decide_eq_false_iff_not, Bool.not_eq_true', Bool.not_eq_false', ne_eq, Decidable.not_not, Bool.not_eq_true, Bool.not_eq_false] at q48) | (dsimp only at q48) | skip
        have hl4 := nn_len x.k
        have hlt : i < (nnOffs x.k).length := by omega
        have ho := nn_in x.k i hlt
        rw [drop_getD hlt, namesN] at hgo
        obtain ⟨B, hlo, rfl, hO, hg⟩ := hA.get hlt
        refine At.region rfl rfl ?_
        refine Reg.pur rfl rfl rfl rfl (Pur.idx _ es129 rfl rfl (by omega) (by omega)) ?_
        refine Reg.lod rfl rfl rfl rfl (Lod.ld sc131 rfl hO.blk hg) ?_
        refine Reg.pur rfl rfl rfl rfl (Pur.asg rfl) ?_
        refine Reg.nil ?_
        refine At.region rfl rfl ?_
        refine Reg.pur rfl rfl rfl rfl (Pur.mv rfl) ?_
        refine Reg.pur rfl rfl rfl rfl (Pur.nilc rfl) ?_
        refine Reg.lod rfl rfl rfl rfl (Lod.ld sc9 rfl o0_0.blk (eN_str ho)) ?_
        refine Reg.op rfl rfl rfl rfl (Does.call rfl (nameMay_ok _ (hsh.get _) _)) ?_
        rintro _ H10_3 ⟨rfl, hE10_3⟩
        have z10_3 := hE10_3.lt
        replace hE := hE.ext hE10_3
        replace o0_0 := o0_0.ext hE10_3
        replace hA := hA.ext hE10_3
        refine Reg.pur rfl rfl rfl rfl (Pur.not rfl) ?_
        refine Reg.nil ?_
        refine At.cond rfl rfl (fun q55 => ?_) (fun q55 => ?_)
        · first | (simp only [decide_eq_true_eq, decide_eq_false_iff_not, Bool.not_eq_true', Bool.not_eq_false', ne_eq, Decidable.not_not, Bool.not_eq_true, Bool.not_eq_false] at q55) | (dsimp only at q55) | skip
          refine At.region rfl rfl ?_
          refine Reg.pur rfl rfl rfl rfl (Pur.asg rfl) ?_
          refine Reg.nil ?_
          refine At.ret rfl Tryd.func65 rfl ?_
          refine ⟨congrArg Value.bool (mayN_s ?_).symm, hE⟩
          rw [if_pos ‹named = true›, ← hgo, if_neg (nt ‹_›)]
        first | (simp only [decide_eq_true_eq, decide_eq_false_iff_not, Bool.not_eq_true', Bool.not_eq_false', ne_eq, Decidable.not_not, Bool.not_eq_true, Bool.not_eq_false] at q55) | (dsimp only at q55) | skip
        refine At.region rfl rfl ?_
        refine Reg.pur rfl rfl rfl rfl (Pur.mv rfl) ?_
        refine Reg.pur rfl rfl rfl rfl (Pur.nilc rfl) ?_
        refine Reg.op0 rfl rfl rfl (Does.st sc9 rfl rfl rfl o0_0 (by rw [eN_len]; omega)) ?_
        rintro _ H12_2 hu12_2
        have z12_2 := hu12_2.size
        replace hE := hE.upw hu12_2 (by omega)
        replace hA := hA.upw hu12_2 (by omega)
        replace o0_0 := hu12_2.own
        replace o0_0 : Own H12_2 H.size (eN (sclr n ((nnOffs x.k).getD i 0))) := by have e := eN_sclr (n := n) ho; have := hu12_2.own; rw [← e]; exact this
        refine Reg.nil ?_
        refine At.region rfl rfl ?_
        refine Reg.pur rfl rfl rfl rfl (Pur.add64 rfl rfl (by omega)) ?_
        refine Reg.pur rfl rfl rfl rfl (Pur.mv rfl) ?_
        refine Reg.nil ?_
        rw [if_pos ‹_›] at hgo
        have hq := sclr_same (n := n) ho
        exact At.meets rfl (ih (i + 1, sclr n ((nnOffs x.k).getD i 0)) _ ⟨by omega, o0_0, hA, hE, hgo, ⟨by rw [hq.1, hsm.1], by rw [hq.2.1, hsm.2.1], by rw [hq.2.2, hsm.2.2]⟩, hsh.clr _⟩ (by simp only; omega)) ⟨rfl, rfl, rfl, rfl, rfl, rfl, trivial⟩
      first | (simp only [decide_eq_true_eq, decide_eq_false_iff_not, Bool.not_eq_true', Bool.not_eq_false', ne_eq, Decidable.not_not, Bool.not_eq_true, Bool.not_eq_false] at q48) | (dsimp only at q48) | skip
      rw [List.drop_of_length_le (by omega), namesN] at hgo
      exact At.meets rfl (hJ n _ ⟨o0_0, hE, by rw [if_pos ‹named = true›]; exact hgo.symm, hsm⟩) ⟨rfl, rfl, rfl, trivial⟩
    first | (simp only [decide_eq_true_eq, decide_eq_false_iff_not, Bool.not_eq_true', Bool.not_eq_false', ne_eq, Decidable.not_not, Bool.not_eq_true, Bool.not_eq_false] at q44) | (dsimp only at q44) | skip
    exact At.meets rfl (hJ x _ ⟨o0_0, hE, by rw [if_neg (nt ‹named = false›)], rfl, rfl, rfl⟩) ⟨rfl, rfl, rfl, trivial⟩
  obtain ⟨o0_0, hE, hm, hk, hp, hn⟩ := hs
  have hz3 := o0_0.lt
  refine At.region rfl rfl ?_
  refine Reg.op rfl rfl rfl rfl (Does.call rfl (nkids_ok0 (k := x.k) o0_0.blk (by rw [← hk]; rfl))) ?_
  rintro _ H14_0 ⟨A, rfl, hA, hE14_0⟩
  have z14_0 := hE14_0.lt
  replace hE := hE.ext hE14_0
  replace o0_0 := o0_0.ext hE14_0
  have z_hA := hA.lt
  refine Reg.pur rfl rfl rfl rfl (Pur.lenS isl79 rfl) ?_
  refine Reg.pur rfl rfl rfl rfl (Pur.mv rfl) ?_
  refine Reg.nil ?_
  refine At.loop (σ := Nat × Nd) (fun s => [(61, I s.1), (59, .slice A (nkOffs x.k).length (nkOffs x.k).length), (60, I (nkOffs x.k).length), (2, ptr H.size 0), (5, I (nMost x.k)), (1, .bool named)]) (fun s H' => s.1 ≤ (nkOffs x.k).length ∧ Own H' H.size (eN s.2) ∧ PtrO H' H3.size A ((nkOffs x.k).map (ptr H.size)) ∧ Ext H H' ∧ clrN ((nkOffs x.k).drop s.1) s.2 = clrN (nkOffs x.k) m ∧ (s.2.k = x.k ∧ s.2.p = x.p ∧ s.2.num = x.num)) (fun s => (nkOffs x.k).length - s.1) (0, m) rfl ⟨rfl, rfl, rfl, rfl, rfl, rfl, trivial⟩ ⟨by omega, o0_0, hA, hE, rfl, hk, hp, hn⟩ ?_
  clear hA hE
  rintro ⟨i, n⟩ H5 ⟨hi, o0_0, hA, hE, hgo, hsm⟩ ih
  dsimp only at hi o0_0 hgo hsm ⊢
  refine At.region rfl rfl ?_
  refine Reg.pur rfl rfl rfl rfl (Pur.lss rfl rfl) ?_
  refine Reg.nil ?_
  refine At.cond rfl rfl (fun q62 => ?_) (fun q62 => ?_)
  · first | (simp only [decide_eq_true_eq, decide_eq_false_iff_not, Bool.not_eq_true', Bool.not_eq_false', ne_eq, Decidable.not_not, Bool.not_eq_true, Bool.not_eq_false] at q62) | (dsimp only at q62) | skip
    have hl4 := nk_len x.k
    have hlt : i < (nkOffs x.k).length := by omega
    have ho := nk_in x.k i hlt
    rw [drop_getD hlt] at hgo
    obtain ⟨B, hlo, rfl, hO, hg⟩ := hA.get hlt
    refine At.region rfl rfl ?_
    refine Reg.pur rfl rfl rfl rfl (Pur.idx _ es79 rfl rfl (by omega) (by omega)) ?_
    refine Reg.lod rfl rfl rfl rfl (Lod.ld sc82 rfl hO.blk hg) ?_
    refine Reg.pur rfl rfl rfl rfl (Pur.asg rfl) ?_
    refine Reg.nil ?_
    refine At.region rfl rfl ?_
    refine Reg.pur rfl rfl rfl rfl (Pur.mv rfl) ?_
    refine Reg.pur rfl rfl rfl rfl (Pur.nilc rfl) ?_
    refine Reg.op0 rfl rfl rfl (Does.st sc3 rfl rfl rfl o0_0 (by rw [eN_len]; omega)) ?_
    rintro _ H17_2 hu17_2
    have z17_2 := hu17_2.size
    replace hE := hE.upw hu17_2 (by omega)
    replace hA := hA.upw hu17_2 (by omega)
    replace o0_0 := hu17_2.own
    replace o0_0 : Own H17_2 H.size (eN (iclr n ((nkOffs x.k).getD i 0))) := by have e := eN_iclr (n := n) ho; have := hu17_2.own; rw [← e]; exact this
    refine Reg.nil ?_
    refine At.region rfl rfl ?_
    refine Reg.pur rfl rfl rfl rfl (Pur.add64 rfl rfl (by omega)) ?_
    refine Reg.pur rfl rfl rfl rfl (Pur.mv rfl) ?_
    refine Reg.nil ?_
    have hq := iclr_same (n := n) ho
    exact At.meets rfl (ih (i + 1, iclr n ((nkOffs x.k).getD i 0)) _ ⟨by omega, o0_0, hA, hE, hgo, ⟨by rw [hq.1, hsm.1], by rw [hq.2.1, hsm.2.1], by rw [hq.2.2, hsm.2.2]⟩⟩ (by simp only; omega)) ⟨rfl, rfl, rfl, rfl, rfl, rfl, trivial⟩
  first | (simp only [decide_eq_true_eq, decide_eq_false_iff_not, Bool.not_eq_true', Bool.not_eq_false', ne_eq, Decidable.not_not, Bool.not_eq_true, Bool.not_eq_false] at q62) | (dsimp only at q62) | skip
  rw [List.drop_of_length_le (by omega)] at hgo
  refine At.region rfl rfl ?_
  refine Reg.pur rfl rfl rfl rfl (Pur.mv rfl) ?_
  refine Reg.pur rfl rfl rfl rfl (Pur.geq rfl rfl) ?_
  refine Reg.pur rfl rfl rfl rfl (Pur.mv rfl) ?_
  refine Reg.known (b' := false) 70 rfl (by first | exact q33 | exact decide_eq_true q33 | exact decide_eq_false q33 | simpa using q33) ?_
  refine Reg.gpur rfl rfl rfl rfl rfl rfl (Pur.mv rfl) ?_
  refine Reg.gpur rfl rfl rfl rfl rfl rfl (Pur.not rfl) ?_
  refine Reg.gpur rfl rfl rfl rfl rfl rfl (Pur.mv rfl) ?_
  refine Reg.case 73 rfl (fun q73 => ?_) (fun q73 => ?_)
  · first | (simp only [decide_eq_true_eq, decide_eq_false_iff_not, Bool.not_eq_true', Bool.not_eq_false', ne_eq, Decidable.not_not, Bool.not_eq_true, Bool.not_eq_false] at q73) | (dsimp only at q73) | skip
    refine Reg.gpur rfl rfl rfl rfl rfl rfl (Pur.fld _ fo35_0 rfl) ?_
    refine Reg.glod rfl rfl rfl rfl rfl rfl (Lod.ld sc3 rfl o0_0.blk (by show some (I n.k) = _; rw [hsm.1])) ?_
    refine Reg.gop rfl rfl rfl rfl rfl rfl (Does.call rfl (numbered_ok _ _)) ?_
    rintro _ H14_0 ⟨rfl, rfl⟩
    refine Reg.gpur rfl rfl rfl rfl rfl rfl (Pur.pickT rfl rfl) ?_
    refine Reg.pur rfl rfl rfl rfl (Pur.pickF rfl rfl) ?_
    refine Reg.nil ?_
    refine At.joinc (σ := Unit) (fun _ => [(2, ptr H.size 0)]) (fun _ H' => Own H' H.size (eN (lastN named n)) ∧ Ext H H') rfl (fun hJ => ?_) (fun _ H7 hs => ?_)
    · refine At.cond rfl rfl (fun q78 => ?_) (fun q78 => ?_)
      · first | (simp only [decide_eq_true_eq, decide_eq_false_iff_not, Bool.not_eq_true', Bool.not_eq_false', ne_eq, Decidable.not_not, Bool.not_eq_true, Bool.not_eq_false] at q78) | (dsimp only at q78) | skip
        refine At.region rfl rfl ?_
        refine Reg.pur rfl rfl rfl rfl (Pur.fld _ fo35_4 rfl) ?_
        refine Reg.op0 rfl rfl rfl (Does.st sc3 rfl rfl rfl o0_0 (by rw [eN_len]; decide)) ?_
        rintro _ H20_1 hu20_1
        have z20_1 := hu20_1.size
        replace hE := hE.upw hu20_1 (by omega)
        replace hA := hA.upw hu20_1 (by omega)
        replace o0_0 := hu20_1.own
        refine Reg.nil ?_
        have e : lastN named n = { n with num := 0 } := if_pos (by rw [hsm.1]; simp [*])
        exact At.meets rfl (hJ () _ ⟨by rw [e]; exact o0_0, hE⟩) ⟨rfl, trivial⟩
      first | (simp only [decide_eq_true_eq, decide_eq_false_iff_not, Bool.not_eq_true', Bool.not_eq_false', ne_eq, Decidable.not_not, Bool.not_eq_true, Bool.not_eq_false] at q78) | (dsimp only at q78) | skip
      have e : lastN named n = n := if_neg (by rw [hsm.1]; simp [*])
      exact At.meets rfl (hJ () _ ⟨by rw [e]; exact o0_0, hE⟩) ⟨rfl, trivial⟩
    obtain ⟨o0_0, hE⟩ := hs
    have hl : (lastN named n).k = x.k ∧ (lastN named n).p = x.p := by unfold lastN; split <;> exact ⟨hsm.1, hsm.2.1⟩
    refine At.region rfl rfl ?_
    refine Reg.lod rfl rfl rfl rfl (Lod.ldn ag35 rfl o0_0.blk (whole rfl) rfl) ?_
    refine Reg.pur rfl rfl rfl rfl (Pur.fld _ fo35_0 rfl) ?_
    refine Reg.lod rfl rfl rfl rfl (Lod.ld sc3 rfl o0_0.blk (by show some (I (lastN named n).k) = _; rw [hl.1])) ?_
    refine Reg.pur rfl rfl rfl rfl (Pur.fld _ fo35_9 rfl) ?_
    refine Reg.lod rfl rfl rfl rfl (Lod.ld sc3 rfl o0_0.blk (by show some (I (lastN named n).p) = _; rw [hl.2])) ?_
    refine Reg.pur rfl rfl rfl rfl (Pur.bld (cs := [_, _, _, _, _, _, _, _, _, _]) pl35 zc35 rfl rfl ⟨rfl, rfl, rfl, rfl, rfl, rfl, rfl, rfl, rfl, rfl, rfl⟩) ?_
    refine Reg.pur rfl rfl rfl rfl (Pur.eqA eqt35 rfl rfl (fks_eN _) (fks_eN { k := x.k, a := 0, b := 0, c := 0, num := 0, nm := [], x := [], y := [], z := [], p := x.p })) ?_
    refine Reg.pur rfl rfl rfl rfl (Pur.asg rfl) ?_
    refine Reg.nil ?_
    refine At.ret rfl Tryd.func65 rfl ?_
    refine ⟨?_, hE⟩
    rw [mayN_y (m := m) (by omega) (by omega) hm, ← hgo]
    exact congrArg Value.bool (eqs_eN (lastN named n) { k := x.k, a := 0, b := 0, c := 0, num := 0, nm := [], x := [], y := [], z := [], p := x.p })
  first | (simp only [decide_eq_true_eq, decide_eq_false_iff_not, Bool.not_eq_true', Bool.not_eq_false', ne_eq, Decidable.not_not, Bool.not_eq_true, Bool.not_eq_false] at q73) | (dsimp only at q73) | skip
  refine Reg.skip rfl rfl rfl rfl rfl rfl rfl ?_
  refine Reg.skip rfl rfl rfl rfl rfl rfl rfl ?_
  refine Reg.skip rfl rfl rfl rfl rfl rfl rfl ?_
  refine Reg.gpur rfl rfl rfl rfl rfl rfl (Pur.pickF rfl rfl) ?_
  refine Reg.pur rfl rfl rfl rfl (Pur.pickF rfl rfl) ?_
  refine Reg.nil ?_
  refine At.joinc (σ := Unit) (fun _ => [(2, ptr H.size 0)]) (fun _ H' => Own H' H.size (eN (lastN named n)) ∧ Ext H H') rfl (fun hJ => ?_) (fun _ H7 hs => ?_)
  · refine At.condF rfl rfl rfl ?_
    have e : lastN named n = n := if_neg (by rw [hsm.1]; simp [*])
    exact At.meets rfl (hJ () _ ⟨by rw [e]; exact o0_0, hE⟩) ⟨rfl, trivial⟩
  obtain ⟨o0_0, hE⟩ := hs
  have hl : (lastN named n).k = x.k ∧ (lastN named n).p = x.p := by unfold lastN; split <;> exact ⟨hsm.1, hsm.2.1⟩
  refine At.region rfl rfl ?_
  refine Reg.lod rfl rfl rfl rfl (Lod.ldn ag35 rfl o0_0.blk (whole rfl) rfl) ?_
  refine Reg.pur rfl rfl rfl rfl (Pur.fld _ fo35_0 rfl) ?_
  refine Reg.lod rfl rfl rfl rfl (Lod.ld sc3 rfl o0_0.blk (by show some (I (lastN named n).k) = _; rw [hl.1])) ?_
  refine Reg.pur rfl rfl rfl rfl (Pur.fld _ fo35_9 rfl) ?_
  refine Reg.lod rfl rfl rfl rfl (Lod.ld sc3 rfl o0_0.blk (by show some (I (lastN named n).p) = _; rw [hl.2])) ?_
  refine Reg.pur rfl rfl rfl rfl (Pur.bld (cs := [_, _, _, _, _, _, _, _, _, _]) pl35 zc35 rfl rfl ⟨rfl, rfl, rfl, rfl, rfl, rfl, rfl, rfl, rfl, rfl, rfl⟩) ?_
  refine Reg.pur rfl rfl rfl rfl (Pur.eqA eqt35 rfl rfl (fks_eN _) (fks_eN { k := x.k, a := 0, b := 0, c := 0, num := 0, nm := [], x := [], y := [], z := [], p := x.p })) ?_
  refine Reg.pur rfl rfl rfl rfl (Pur.asg rfl) ?_
  refine Reg.nil ?_
  refine At.ret rfl Tryd.func65 rfl ?_
  refine ⟨?_, hE⟩
  rw [mayN_y (m := m) (by omega) (by omega) hm, ← hgo]
  exact congrArg Value.bool (eqs_eN (lastN named n) { k := x.k, a := 0, b := 0, c := 0, num := 0, nm := [], x := [], y := [], z := [], p := x.p })
end Go.Proofs.YtjhkmebmbopfoaaDoor
