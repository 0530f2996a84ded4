/-
  Parts of the proof, 3.
-/
import Derived.Laws.BytesString
import Derived.Shelf.Strings.Builder1
import Derived.Shelf.Strings.Builder2
import Derived.Shelf.Strings.OnBuilder
import Derived.Shelf.Strconv.Itoa0
import Derived.Shelf.Strconv.Itoa1
import Derived.Shelf.LaysM
import Derived.Shelf.Strconv.Itoa2
import Derived.Shelf.Strconv.Itoa3
import Derived.Test.YtlfillhffpiffaaDoorProg
import Derived.Lib.LaidU8
import Derived.Test.YtlfillhffpiffaaDoorP2
namespace Go.Proofs.YtlfillhffpiffaaDoor
set_option linter.unusedSimpArgs false
set_option linter.unusedVariables false
set_option maxRecDepth 8000
set_option maxHeartbeats 1000000
open Go Go.Fx Go.Proofs
namespace FactsUniMA
theorem ag22 : ag Tryd.prog 22 = some 4 := by kernel_rfl
theorem ag24 : ag Tryd.prog 24 = some 5 := by kernel_rfl
theorem ag57 : ag Tryd.prog 57 = some 8 := by kernel_rfl
theorem ag65 : ag Tryd.prog 65 = some 9 := by kernel_rfl
theorem apt25 : appT Tryd.prog 25 = some (57, 8, 80) := by kernel_rfl
theorem arr22 : arr Tryd.prog 22 = some (4, 1) := by kernel_rfl
theorem eqt24 : eqT Tryd.prog 24 = some [.int .i64, .int .i64, .int .i64, .int .i64, .int .i64] := by kernel_rfl
theorem eqt65 : eqT Tryd.prog 65 = some [.int .i64, .int .i64, .int .i64, .int .i64, .int .i64, .int .i64, .int .i64, .int .i64, .int .i64] := by kernel_rfl
theorem es25 : esz Tryd.prog 25 = some 8 := by kernel_rfl
theorem es53 : esz Tryd.prog 53 = some 9 := by kernel_rfl
theorem fo105_0 : foff Tryd.prog 105 0 = some 0 := by kernel_rfl
theorem fo105_1 : foff Tryd.prog 105 1 = some 1 := by kernel_rfl
theorem fo24_0 : foff Tryd.prog 24 0 = some 0 := by kernel_rfl
theorem fo24_1 : foff Tryd.prog 24 1 = some 4 := by kernel_rfl
theorem fo55_0 : foff Tryd.prog 55 0 = some 0 := by kernel_rfl
theorem fo57_0 : foff Tryd.prog 57 0 = some 0 := by kernel_rfl
theorem fo57_1 : foff Tryd.prog 57 1 = some 1 := by kernel_rfl
theorem fo57_3 : foff Tryd.prog 57 3 = some 3 := by kernel_rfl
theorem isl25 : isSl Tryd.prog 25 = true := by kernel_rfl
theorem isl53 : isSl Tryd.prog 53 = true := by kernel_rfl
theorem mixed : Tryd.prog.follows .mixedOrders = true := by kernel_rfl
theorem sc25 : sc Tryd.prog 25 = true := by kernel_rfl
theorem sc3 : sc Tryd.prog 3 = true := by kernel_rfl
theorem sc4 : sc Tryd.prog 4 = true := by kernel_rfl
theorem sc53 : sc Tryd.prog 53 = true := by kernel_rfl
theorem slA25 : slA Tryd.prog 25 = some (57, 8) := by kernel_rfl
theorem zc22 : zc Tryd.prog 22 = some [.int .i64 0, .int .i64 0, .int .i64 0, .int .i64 0] := by kernel_rfl
theorem zc57 : zc Tryd.prog 57 = some [.int .i64 0, .bool false, .slice none 0 0, .int .i64 0, .int .i64 0, .int .i64 0, .int .i64 0, .int .i64 0] := by kernel_rfl
end FactsUniMA
open FactsUniMA

theorem sameR_ok {A A' : Option Addr} {cap cap' : Nat} {L L' : List (List Int)} (hL : Nine L) (hL' : Nine L') {H : Heap} (hS : SlT H Is 9 (.slice A L.length cap) L) (hS' : SlT H Is 9 (.slice A' L'.length cap') L') (hm : L.length ≤ 9223372036854775807) :
    Ret Tryd.prog 82 [Ty A L.length cap, Ty A' L'.length cap'] H (fun v H' => v = .bool (decide (L = L')) ∧ Ext H H') := by
  refine Ret.of_at (N := 31) Tryd.call82 Tryd.func82 rfl rfl rfl ?_
  have hE := Ext.refl H
  refine At.region rfl rfl ?_
  refine Reg.op rfl rfl rfl rfl (Does.box rfl rfl) ?_
  rintro _ H0_0 ⟨rfl, hn0_0⟩
  have z0_0 := hn0_0.size
  replace hE := hE.ext hn0_0.ext
  have o0_0 := hn0_0.own
  refine Reg.op rfl rfl rfl rfl (Does.box rfl rfl) ?_
  rintro _ H0_1 ⟨rfl, hn0_1⟩
  have z0_1 := hn0_1.size
  replace hE := hE.ext hn0_1.ext
  replace o0_0 := o0_0.ext hn0_1.ext
  have o0_1 := hn0_1.own
  refine Reg.pur rfl rfl rfl rfl (Pur.asg rfl) ?_
  refine Reg.nil ?_
  refine At.region rfl rfl ?_
  refine Reg.pur rfl rfl rfl rfl (Pur.fld _ fo55_0 rfl) ?_
  refine Reg.lod rfl rfl rfl rfl (Lod.ld sc53 rfl o0_0.blk rfl) ?_
  refine Reg.pur rfl rfl rfl rfl (Pur.lenS isl53 rfl) ?_
  refine Reg.pur rfl rfl rfl rfl (Pur.fld _ fo55_0 rfl) ?_
  refine Reg.lod rfl rfl rfl rfl (Lod.ld sc53 rfl o0_1.blk rfl) ?_
  refine Reg.pur rfl rfl rfl rfl (Pur.lenS isl53 rfl) ?_
  refine Reg.pur rfl rfl rfl rfl (Pur.neq rfl rfl) ?_
  refine Reg.nil ?_
  refine At.cond rfl rfl (fun q12 => ?_) (fun q12 => ?_)
  · first | (simp only [decide_eq_true_eq, decide_eq_false_iff_not, Bool.not_eq_true', Bool.not_eq_false', ne_eq, Decidable.not_not, Bool.not_eq_true, Bool.not_eq_false] at q12) | (dsimp only at q12) | skip
    refine At.region rfl rfl ?_
    refine Reg.pur rfl rfl rfl rfl (Pur.asg rfl) ?_
    refine Reg.nil ?_
    refine At.ret rfl Tryd.func82 rfl ?_
    exact ⟨congrArg Value.bool (decide_eq_false (fun h => by subst h; exact q12 rfl)).symm, hE⟩
  first | (simp only [decide_eq_true_eq, decide_eq_false_iff_not, Bool.not_eq_true', Bool.not_eq_false', ne_eq, Decidable.not_not, Bool.not_eq_true, Bool.not_eq_false] at q12) | (dsimp only at q12) | skip
  have hll : L.length = L'.length := by omega
  refine At.region rfl rfl ?_
  refine Reg.pur rfl rfl rfl rfl (Pur.asg rfl) ?_
  refine Reg.nil ?_
  refine At.loop (σ := Nat) (fun i => [(5, I i), (2, ptr H.size 0), (3, ptr H0_0.size 0)]) (fun i H' => i ≤ L.length ∧ Own H' H.size [.slice A L.length cap] ∧ Own H' H0_0.size [.slice A' L'.length cap'] ∧ L.take i = L'.take i ∧ Ext H H') (fun i => L.length - i) 0 rfl ⟨rfl, rfl, rfl, trivial⟩ ⟨by omega, o0_0, o0_1, rfl, hE⟩ ?_
  clear o0_0 o0_1 hE
  rintro i H3 ⟨hi, o0_0, o0_1, hgo, hE⟩ ih
  have z_hE := hE.lt
  have z_o0_0 := o0_0.lt
  have z_o0_1 := o0_1.lt
  refine At.region rfl rfl ?_
  refine Reg.pur rfl rfl rfl rfl (Pur.mv rfl) ?_
  refine Reg.pur rfl rfl rfl rfl (Pur.fld _ fo55_0 rfl) ?_
  refine Reg.lod rfl rfl rfl rfl (Lod.ld sc53 rfl o0_0.blk rfl) ?_
  refine Reg.pur rfl rfl rfl rfl (Pur.lenS isl53 rfl) ?_
  refine Reg.pur rfl rfl rfl rfl (Pur.lss rfl rfl) ?_
  refine Reg.nil ?_
  refine At.cond rfl rfl (fun q17 => ?_) (fun q17 => ?_)
  · first | (simp only [decide_eq_true_eq, decide_eq_false_iff_not, Bool.not_eq_true', Bool.not_eq_false', ne_eq, Decidable.not_not, Bool.not_eq_true, Bool.not_eq_false] at q17) | (dsimp only at q17) | skip
    have hlt : i < L.length := by omega
    have hlt' : i < L'.length := by omega
    obtain ⟨b, o, c, rfl, hB, hd, h9⟩ := sl_at (wide9 hL) (hS.ext hE) hlt
    obtain ⟨b', o', c', rfl, hB', hd', h9'⟩ := sl_at (wide9 hL') (hS'.ext hE) hlt'
    have hf := fks_ints .i64 L[i]
    have hf' := fks_ints .i64 L'[i]
    rw [hL _ (List.getElem_mem hlt)] at hf
    rw [hL' _ (List.getElem_mem hlt')] at hf'
    have hq := eqs_ints .i64 L[i] L'[i]
    refine At.drawE ((Bks.cons o0_0.blk (Bks.cons o0_1.blk (Bks.cons hB.blk (Bks.cons hB'.blk Bks.nil))))) [] mixed rfl rfl ?_
    refine RegD.tpur (i := 0) rfl rfl rfl rfl (by kernel_rfl) (Pur.fld _ fo55_0 rfl) ?_
    refine RegD.take (i := 1) rfl rfl rfl rfl (by kernel_rfl) (Bks.cons o0_0.blk (Bks.cons o0_1.blk (Bks.cons hB.blk (Bks.cons hB'.blk Bks.nil)))) (fun H hS => Lod.ld sc53 rfl hS.hd rfl) ?_
    refine RegD.tpur (i := 2) rfl rfl rfl rfl (by kernel_rfl) (Pur.mv rfl) ?_
    refine RegD.tpur (i := 3) rfl rfl rfl rfl (by kernel_rfl) (Pur.idx _ es53 rfl rfl (by omega) (by omega)) ?_
    refine RegD.take (i := 4) rfl rfl rfl rfl (by kernel_rfl) (Bks.cons o0_0.blk (Bks.cons o0_1.blk (Bks.cons hB.blk (Bks.cons hB'.blk Bks.nil)))) (fun H hS => Lod.ldn ag65 rfl hS.tl.tl.hd hd h9) ?_
    refine RegD.tpur (i := 5) rfl rfl rfl rfl (by kernel_rfl) (Pur.fld _ fo55_0 rfl) ?_
    refine RegD.take (i := 6) rfl rfl rfl rfl (by kernel_rfl) (Bks.cons o0_0.blk (Bks.cons o0_1.blk (Bks.cons hB.blk (Bks.cons hB'.blk Bks.nil)))) (fun H hS => Lod.ld sc53 rfl hS.tl.hd rfl) ?_
    refine RegD.tpur (i := 7) rfl rfl rfl rfl (by kernel_rfl) (Pur.mv rfl) ?_
    refine RegD.tpur (i := 8) rfl rfl rfl rfl (by kernel_rfl) (Pur.idx _ es53 rfl rfl (by omega) (by omega)) ?_
    refine RegD.take (i := 9) rfl rfl rfl rfl (by kernel_rfl) (Bks.cons o0_0.blk (Bks.cons o0_1.blk (Bks.cons hB.blk (Bks.cons hB'.blk Bks.nil)))) (fun H hS => Lod.ldn ag65 rfl hS.tl.tl.tl.hd hd' h9') ?_
    refine RegD.tpur (i := 10) rfl rfl rfl rfl (by kernel_rfl) (Pur.neA eqt65 rfl rfl hf hf') ?_
    refine RegD.done (by kernel_rfl) ?_
    refine At.cond rfl rfl (fun q30 => ?_) (fun q30 => ?_)
    · first | (simp only [decide_eq_true_eq, decide_eq_false_iff_not, Bool.not_eq_true', Bool.not_eq_false', ne_eq, Decidable.not_not, Bool.not_eq_true, Bool.not_eq_false] at q30) | (dsimp only at q30) | skip
      refine At.region rfl rfl ?_
      refine Reg.pur rfl rfl rfl rfl (Pur.asg rfl) ?_
      refine Reg.nil ?_
      refine At.ret rfl Tryd.func82 rfl ?_
      refine ⟨congrArg Value.bool (decide_eq_false (fun h => ?_)).symm, hE⟩
      subst h
      rw [hq] at q30
      simp at q30
    first | (simp only [decide_eq_true_eq, decide_eq_false_iff_not, Bool.not_eq_true', Bool.not_eq_false', ne_eq, Decidable.not_not, Bool.not_eq_true, Bool.not_eq_false] at q30) | (dsimp only at q30) | skip
    refine At.region rfl rfl ?_
    refine Reg.pur rfl rfl rfl rfl (Pur.mv rfl) ?_
    first | refine Reg.pur rfl rfl rfl rfl (Pur.add64 rfl rfl (by omega)) ?_ | refine Reg.pur rfl rfl rfl rfl (Pur.add64 rfl rfl (by assumption)) ?_ | refine Reg.pur rfl rfl rfl rfl (Pur.add rfl rfl) ?_
    refine Reg.pur rfl rfl rfl rfl (Pur.asg rfl) ?_
    refine Reg.nil ?_
    rw [hq] at q30
    have hq1 : L[i] = L'[i] := by simpa using q30
    exact At.via (ih (i + 1) _ ⟨by omega, o0_0, o0_1, by rw [List.take_succ_eq_append_getElem hlt, List.take_succ_eq_append_getElem hlt', hgo, hq1], hE⟩ (by omega)) ⟨rfl, rfl, rfl, trivial⟩
  first | (simp only [decide_eq_true_eq, decide_eq_false_iff_not, Bool.not_eq_true', Bool.not_eq_false', ne_eq, Decidable.not_not, Bool.not_eq_true, Bool.not_eq_false] at q17) | (dsimp only at q17) | skip
  refine At.region rfl rfl ?_
  refine Reg.pur rfl rfl rfl rfl (Pur.asg rfl) ?_
  refine Reg.nil ?_
  refine At.ret rfl Tryd.func82 rfl ?_
  rw [List.take_of_length_le (by omega), List.take_of_length_le (by omega)] at hgo
  exact ⟨congrArg Value.bool (decide_eq_true hgo).symm, hE⟩

structure Mts (H : Heap) (lo sb : Nat) (A : Option Addr) (cap : Nat) (Bs : List Bd) (M : List Bt) : Prop where
  g : Gs H lo 57 8 A cap Bs.length (Bs.flatMap encB)
  ok : ∀ b ∈ Bs, b.Ok H
  off : ∀ b ∈ Bs, b.nodes.length = 0 ∨ (ob b.A ≠ ob A ∧ ob b.A ≠ sb)
  pl : Bs.map pl = M.map Bt.pl
  d : ob A ≠ sb
  lo : lo ≤ sb
  tok : ∀ v u, Bt.t v u ∈ M → u.ok
theorem Mts.lenT {H : Heap} {lo sb cap : Nat} {A : Option Addr} {Bs : List Bd} {M : List Bt} (h : Mts H lo sb A cap Bs M) : M.length = Bs.length := by
  have := congrArg List.length h.pl
  simpa using this.symm
theorem Mts.wide {H : Heap} {lo sb cap : Nat} {A : Option Addr} {Bs : List Bd} {M : List Bt} (h : Mts H lo sb A cap Bs M) : Wide encB 8 Bs := fun b hb => (h.ok b hb).len
theorem Mts.ext {H H' : Heap} {lo sb cap : Nat} {A : Option Addr} {Bs : List Bd} {M : List Bt} (h : Mts H lo sb A cap Bs M) (he : Ext H H') : Mts H' lo sb A cap Bs M :=
  ⟨h.g.ext he, fun b hb => (h.ok b hb).ext he, h.off, h.pl, h.d, h.lo, h.tok⟩
theorem Mts.lt {H : Heap} {lo sb cap : Nat} {A : Option Addr} {Bs : List Bd} {M : List Bt} (h : Mts H lo sb A cap Bs M) : ob A < H.size ∧ (ob A = -1 ∨ (lo : Int) ≤ ob A) ∧ ob A ≠ sb ∧ lo ≤ sb := ⟨h.g.lt.1, h.g.lt.2, h.d, h.lo⟩
theorem Mts.sb {H H' : Heap} {lo sb cap : Nat} {A : Option Addr} {Bs : List Bd} {M : List Bt} {c : List Value} (h : Mts H lo sb A cap Bs M) (u : Upd H H' sb c) : Mts H' lo sb A cap Bs M :=
  ⟨h.g.upw u h.d, fun b hb => (h.ok b hb).upw u (by have := h.off b hb; omega), h.off, h.pl, h.d, h.lo, h.tok⟩
theorem Mts.blk {H : Heap} {lo sb cap : Nat} {A : Option Addr} {Bs : List Bd} {M : List Bt} (h : Mts H lo sb A cap Bs M) (h0 : 0 < Bs.length) : ∃ g c, A = some ⟨g, 0, none⟩ ∧ Blk H g c ∧ c.take (Bs.length * 8) = Bs.flatMap encB := by
  obtain ⟨g, c, h1, h2, h3, _⟩ := h.g.blk h0
  exact ⟨g, c, h1, h2.blk, h3⟩
theorem Mts.app {H H' : Heap} {lo sb cap cap' : Nat} {A A' : Option Addr} {Bs : List Bd} {M : List Bt} {bd : Bd} {b : Bt} (h : Mts H lo sb A cap Bs M) (hpl : Go.Proofs.YtlfillhffpiffaaDoor.pl bd = b.pl) (hok : bd.Ok H) (hoff : bd.nodes.length = 0 ∨ (ob bd.A ≠ ob A ∧ ob bd.A ≠ sb)) (htk : ∀ v u, b = .t v u → u.ok) (hg : Gs H' lo 57 8 A' cap' (Bs ++ [bd]).length ((Bs ++ [bd]).flatMap encB)) (he : But (fun g => g = sb ∨ (g : Int) = ob A) H H') (hA : ob A' = ob A ∨ (H.size : Int) ≤ ob A') (hsb : sb < H.size) : Mts H' lo sb A' cap' (Bs ++ [bd]) (M ++ [b]) := by
  have hd := h.d
  have k : ∀ x ∈ Bs ++ [bd], x.Ok H ∧ (x.nodes.length = 0 ∨ (ob x.A ≠ ob A ∧ ob x.A ≠ sb)) := fun x hx => by
    rcases List.mem_append.1 hx with hx | hx
    · exact ⟨h.ok x hx, h.off x hx⟩
    · rw [List.mem_singleton.1 hx]; exact ⟨hok, hoff⟩
  refine ⟨hg, fun x hx => ?_, fun x hx => ?_, ?_, by omega, h.lo, fun v u hm => ?_⟩
  · obtain ⟨k1, k2⟩ := k x hx
    exact k1.via he (fun h0 g hg hh => by omega)
  · obtain ⟨k1, k2⟩ := k x hx
    have := k1.lt
    omega
  · rw [List.map_append, List.map_append, h.pl]; simp [hpl]
  · rcases List.mem_append.1 hm with hm | hm
    · exact h.tok v u hm
    · exact htk v u (List.mem_singleton.1 hm).symm
structure Osb (H : Heap) (sb : Nat) (H' : Heap) : Prop where
  but : But (fun g => g = sb) H H'
theorem Osb.lt {H H' : Heap} {sb : Nat} (h : Osb H sb H') : H.size ≤ H'.size := h.but.1
theorem Osb.ext {H H1 H' : Heap} {sb : Nat} (h : Osb H sb H1) (he : Ext H1 H') : Osb H sb H' := ⟨h.but.trans he.but⟩
theorem Osb.upw {H H1 H' : Heap} {sb b : Nat} {c : List Value} (h : Osb H sb H1) (u : Upd H1 H' b c) (hb : H.size ≤ b ∨ b = sb) : Osb H sb H' :=
  ⟨⟨Nat.le_trans h.but.1 (Nat.le_of_eq u.1.symm), fun g hg hS => by rw [u.2.2 g (fun e => by subst e; rcases hb with hb | hb; omega; exact hS hb), h.but.2 g hg hS]⟩⟩
theorem Osb.md {H H' : Heap} {sb : Nat} (h : Osb H sb H') (A : Option Addr) : Md sb A A H H' := ⟨h.but.mono (fun b hb e => .inl e), .inl rfl⟩
theorem Mts.osb {H H' : Heap} {lo sb cap : Nat} {A : Option Addr} {Bs : List Bd} {M : List Bt} (h : Mts H lo sb A cap Bs M) (u : Osb H sb H') : Mts H' lo sb A cap Bs M :=
  ⟨h.g.via u.but (fun g hg e => h.d (by rw [← hg, e])), fun b hb => (h.ok b hb).via u.but (fun h0 g hg e => by have := h.off b hb; omega), h.off, h.pl, h.d, h.lo, h.tok⟩
def MtP (H : Heap) (lo sb : Nat) (A : Option Addr) (Bs : List Bd) (n : Nat) (ok : Bool) (r : Option (List Bt)) (H' : Heap) : Prop :=
  ∃ A' cap' Bs' M' ok', Mts H' lo sb A' cap' Bs' M' ∧ Own H' sb [.slice A' Bs'.length cap', .bool ok'] ∧ Md sb A A' H H' ∧ Bs'.length ≤ Bs.length + n ∧ ok' = (ok && r.isSome) ∧ (ok = true → ∀ M2, r = some M2 → M' = M2)

def dfS (g s : List Int) (k : Nat) : List Int := (List.range 4).map fun j => if j < k then s.getD j 0 - g.getD j 0 else 0
def posTo (g s : List Int) (k : Nat) : Bool := (List.range k).all fun j => decide (0 ≤ s.getD j 0 - g.getD j 0)
theorem dfS_len (g s : List Int) (k : Nat) : (dfS g s k).length = 4 := rfl
theorem dfS_set (g s : List Int) {k : Nat} (h : k < 4) : (dfS g s k).set k (s.getD k 0 - g.getD k 0) = dfS g s (k + 1) := by
  apply List.ext_getElem (by simp [dfS])
  intro j h1 h2
  rw [List.getElem_set]
  simp only [dfS, List.getElem_map, List.getElem_range]
  split
  · rename_i e; subst e; rw [if_pos (by omega)]
  · rename_i e
    by_cases h3 : j < k
    · rw [if_pos h3, if_pos (by omega)]
    · rw [if_neg h3, if_neg (by omega)]
theorem dfS_at (g s : List Int) {k : Nat} (h : k < 4) : (dfS g s (k + 1)).getD k 0 = s.getD k 0 - g.getD k 0 := by simp [dfS, h]
theorem posTo_succ (g s : List Int) (k : Nat) : posTo g s (k + 1) = (posTo g s k && decide (0 ≤ s.getD k 0 - g.getD k 0)) := by simp [posTo, List.range_succ]
theorem dfS_all (g s : List Int) : dfS g s 4 ++ [s.getD 4 0] = dfR g s := rfl
theorem posTo_all (g s : List Int) : posTo g s 4 = posR (dfR g s) := by
  unfold posTo posR dfR
  simp only [List.getD_cons_zero, List.getD_cons_succ]
  simp [List.range, List.range.loop, Bool.decide_and]
theorem take_findR {M : List Bt} {v : Int} {i : Nat} (hi : i < M.length) (h : findR (M.take i) v = none) : findR (M.take (i + 1)) v = findR [M[i]] v := by
  rw [List.take_succ_eq_append_getElem hi, findR_app, h]
theorem hit_findR {M : List Bt} {v : Int} {i : Nat} (hi : i < M.length) (h : findR (M.take i) v = none) {d : List Int} (hd : M[i] = .r v d) : findR M v = some d := by
  have e : M = M.take i ++ M[i] :: M.drop (i + 1) := by rw [← List.drop_eq_getElem_cons hi, List.take_append_drop]
  rw [e, findR_app, h, hd]; simp [findR]
theorem take_findT {M : List Bt} {v : Int} {i : Nat} (hi : i < M.length) (h : findT (M.take i) v = none) : findT (M.take (i + 1)) v = findT [M[i]] v := by
  rw [List.take_succ_eq_append_getElem hi, findT_app, h]
theorem hit_findT {M : List Bt} {v : Int} {i : Nat} (hi : i < M.length) (h : findT (M.take i) v = none) {d : Tm} (hd : M[i] = .t v d) : findT M v = some d := by
  have e : M = M.take i ++ M[i] :: M.drop (i + 1) := by rw [← List.drop_eq_getElem_cons hi, List.take_append_drop]
  rw [e, findT_app, h, hd]; simp [findT]
theorem instR_neg {M : List Bt} {g s : List Int} {ok : Bool} (h : (ok && posR (dfR g s)) = false) (hk : ok = true) : instR M g s = none := by
  unfold instR
  rw [hk, Bool.true_and] at h
  exact if_pos h
theorem neg_val {M : List Bt} {g s : List Int} {ok : Bool} (h : (ok && posR (dfR g s)) = false) : false = (ok && (instR M g s).isSome) := by
  cases hk : ok with
  | false => rfl
  | true => rw [instR_neg h hk]; rfl
theorem pos_of {g s : List Int} {ok : Bool} (h : (ok && posR (dfR g s)) = true) : ok = true ∧ ¬ posR (dfR g s) = false := by
  rw [Bool.and_eq_true] at h
  exact ⟨h.1, by rw [h.2]; decide⟩
theorem mrow_ok {H : Heap} {lo sb cap : Nat} {A : Option Addr} {Bs : List Bd} {M : List Bt} {ok : Bool} (h : Mts H lo sb A cap Bs M) (ho : Own H sb [.slice A Bs.length cap, .bool ok]) (hl : Bs.length < 100000) {g s : List Int} (hg5 : g.length = 5) (hg : rowM g = true) (hs5 : s.length = 5) (hs : rowM s = true) :
    Ret Tryd.prog 83 [ptr sb 0, .agg (Is g).toArray, .agg (Is s).toArray] H (fun _ => MtP H lo sb A Bs 1 ok (instR M g s)) := by
  have hgl := h.lt
  have ag := fun i (hi : i < 4) => rowM_all hg hi hg5
  have aS' := fun i (hi : i < 4) => rowM_all hs hi hs5
  refine Ret.of_at (N := 119) Tryd.call83 Tryd.func83 rfl rfl rfl ?_
  have hE := Ext.refl H
  have z_hE := hE.lt
  have z_ho := ho.lt
  refine At.region rfl rfl ?_
  refine Reg.op rfl rfl rfl rfl (Does.box rfl rfl) ?_
  rintro _ H0_0 ⟨rfl, hn0_0⟩
  have z0_0 := hn0_0.size
  replace hE := hE.ext hn0_0.ext
  replace ho := ho.ext hn0_0.ext
  have o0_0 := hn0_0.own
  refine Reg.op rfl rfl rfl rfl (Does.box rfl rfl) ?_
  rintro _ H0_1 ⟨rfl, hn0_1⟩
  have z0_1 := hn0_1.size
  replace hE := hE.ext hn0_1.ext
  replace ho := ho.ext hn0_1.ext
  replace o0_0 := o0_0.ext hn0_1.ext
  have o0_1 := hn0_1.own
  refine Reg.nil ?_
  refine At.region rfl rfl ?_
  refine Reg.op rfl rfl rfl rfl (Does.alloc zc22) ?_
  rintro _ H1_0 ⟨rfl, hn1_0⟩
  have z1_0 := hn1_0.size
  replace hE := hE.ext hn1_0.ext
  replace ho := ho.ext hn1_0.ext
  replace o0_0 := o0_0.ext hn1_0.ext
  replace o0_1 := o0_1.ext hn1_0.ext
  have o1_0 := hn1_0.own
  refine Reg.nil ?_
  refine At.region rfl rfl ?_
  refine Reg.pur rfl rfl rfl rfl (Pur.asg rfl) ?_
  refine Reg.nil ?_
  refine At.loop (σ := Nat) (fun k => [(7, I k), (6, ptr H0_1.size 0), (5, ptr H0_0.size 0), (4, ptr H.size 0), (0, ptr sb 0)]) (fun k H' => k ≤ 4 ∧ Own H' H0_1.size (Is (dfS g s k)) ∧ Own H' H.size (Is g) ∧ Own H' H0_0.size (Is s) ∧ Own H' sb [.slice A Bs.length cap, .bool (ok && posTo g s k)] ∧ Osb H sb H') (fun k => 4 - k) 0 rfl ⟨rfl, rfl, rfl, rfl, rfl, trivial⟩ ⟨by omega, o1_0, o0_0, o0_1, by simpa [posTo] using ho, ⟨hE.but⟩⟩ ?_
  have hsb0 := z_ho
  clear ho o1_0 o0_0 o0_1 hE
  rintro k H3 ⟨hk, od, og, os, ho, hO⟩ ih
  have z_hO := hO.lt
  have z_ho := ho.lt
  have z_od := od.lt
  have z_og := og.lt
  have z_os := os.lt
  refine At.region rfl rfl ?_
  refine Reg.pur rfl rfl rfl rfl (Pur.mv rfl) ?_
  refine Reg.pur rfl rfl rfl rfl (Pur.lss rfl rfl) ?_
  refine Reg.nil ?_
  refine At.cond rfl rfl (fun q11 => ?_) (fun q11 => ?_)
  · first | (simp only [decide_eq_true_eq, decide_eq_false_iff_not, Bool.not_eq_true', Bool.not_eq_false', ne_eq, Decidable.not_not, Bool.not_eq_true, Bool.not_eq_false] at q11) | (dsimp only at q11) | skip
    have hk4 : k < 4 := by omega
    have hg1 := ag k hk4
    have hs1 := aS' k hk4
    have hdl := dfS_len g s k
    refine At.drawE ((Bks.cons og.blk (Bks.cons os.blk Bks.nil))) [11] mixed rfl rfl ?_
    refine RegD.tpur (i := 0) rfl rfl rfl rfl (by kernel_rfl) (Pur.mv rfl) ?_
    refine RegD.tpur (i := 1) rfl rfl rfl rfl (by kernel_rfl) (Pur.mv rfl) ?_
    refine RegD.tpur (i := 2) rfl rfl rfl rfl (by kernel_rfl) (Pur.fld _ fo24_0 rfl) ?_
    refine RegD.tpur (i := 3) rfl rfl rfl rfl (by kernel_rfl) (Pur.idxP arr22 rfl rfl (by omega) (by omega)) ?_
    refine RegD.take (i := 4) rfl rfl rfl rfl (by kernel_rfl) (Bks.cons og.blk (Bks.cons os.blk Bks.nil)) (fun H hS => Lod.ld sc3 rfl hS.tl.hd (show _ = some (I (s.getD k 0)) by rw [Int.toNat_natCast, show 0 + 0 + k * 1 = k by omega]; exact at_Is (by omega))) ?_
    refine RegD.tpur (i := 5) rfl rfl rfl rfl (by kernel_rfl) (Pur.mv rfl) ?_
    refine RegD.tpur (i := 6) rfl rfl rfl rfl (by kernel_rfl) (Pur.fld _ fo24_0 rfl) ?_
    refine RegD.tpur (i := 7) rfl rfl rfl rfl (by kernel_rfl) (Pur.idxP arr22 rfl rfl (by omega) (by omega)) ?_
    refine RegD.take (i := 8) rfl rfl rfl rfl (by kernel_rfl) (Bks.cons og.blk (Bks.cons os.blk Bks.nil)) (fun H hS => Lod.ld sc3 rfl hS.hd (show _ = some (I (g.getD k 0)) by rw [Int.toNat_natCast, show 0 + 0 + k * 1 = k by omega]; exact at_Is (by omega))) ?_
    first | refine RegD.tpur (i := 9) rfl rfl rfl rfl (by kernel_rfl) (Pur.sub64 rfl rfl (by omega)) ?_ | refine RegD.tpur (i := 9) rfl rfl rfl rfl (by kernel_rfl) (Pur.sub64 rfl rfl (by assumption)) ?_ | refine RegD.tpur (i := 9) rfl rfl rfl rfl (by kernel_rfl) (Pur.sub rfl rfl) ?_
    refine RegD.tpur (i := 10) rfl rfl rfl rfl (by kernel_rfl) (Pur.idxP arr22 rfl rfl (by omega) (by omega)) ?_
    refine RegD.one0 (i := 11) (by kernel_rfl) rfl rfl rfl (Does.st sc3 rfl rfl rfl od (by rw [List.length_map, hdl]; omega)) ?_
    rintro _ H5_11 hu5_11
    have z5_11 := hu5_11.size
    replace hO := hO.upw hu5_11 (by omega)
    replace ho := ho.upw hu5_11 (by omega)
    replace og := og.upw hu5_11 (by omega)
    replace os := os.upw hu5_11 (by omega)
    replace od := hu5_11.own
    replace od := od.of (c' := Is (dfS g s (k + 1))) (by rw [← dfS_set g s hk4, Nat.zero_add, Nat.mul_one, Int.toNat_natCast]; simp [Is, List.map_set])
    refine ⟨fun h => (by cases h), ?_⟩
    refine RegD.done (by kernel_rfl) ?_
    refine At.region rfl rfl ?_
    refine Reg.pur rfl rfl rfl rfl (Pur.mv rfl) ?_
    refine Reg.pur rfl rfl rfl rfl (Pur.mv rfl) ?_
    refine Reg.pur rfl rfl rfl rfl (Pur.nilc rfl) ?_
    refine Reg.pur rfl rfl rfl rfl (Pur.fld _ fo105_1 rfl) ?_
    refine Reg.lod rfl rfl rfl rfl (Lod.ld sc4 rfl ho.blk rfl) ?_
    refine Reg.pur rfl rfl rfl rfl (Pur.mv rfl) ?_
    refine Reg.case 30 rfl (fun q30 => ?_) (fun q30 => ?_)
    · first | (simp only [decide_eq_true_eq, decide_eq_false_iff_not, Bool.not_eq_true', Bool.not_eq_false', ne_eq, Decidable.not_not, Bool.not_eq_true, Bool.not_eq_false] at q30) | (dsimp only at q30) | skip
      refine Reg.gpur rfl rfl rfl rfl rfl rfl (Pur.mv rfl) ?_
      refine Reg.gpur rfl rfl rfl rfl rfl rfl (Pur.idxP arr22 rfl rfl (by omega) (by omega)) ?_
      refine Reg.glod rfl rfl rfl rfl rfl rfl (Lod.ld sc3 rfl od.blk (show _ = some (I ((dfS g s (k + 1)).getD k 0)) by rw [Nat.zero_add, Nat.mul_one, Int.toNat_natCast]; exact at_Is (by rw [dfS_len]; omega))) ?_
      refine Reg.gpur rfl rfl rfl rfl rfl rfl (Pur.geq rfl rfl) ?_
      refine Reg.pur rfl rfl rfl rfl (Pur.pickT rfl rfl) ?_
      refine Reg.pur rfl rfl rfl rfl (Pur.nilc rfl) ?_
      refine Reg.pur rfl rfl rfl rfl (Pur.fld _ fo105_1 rfl) ?_
      refine Reg.op0 rfl rfl rfl (Does.st sc4 rfl rfl rfl ho (by first | decide | (simp; done) | (simp; omega) | omega)) ?_
      rintro _ H6_13 hu6_13
      have z6_13 := hu6_13.size
      replace hO := hO.upw hu6_13 (by omega)
      replace od := od.upw hu6_13 (by omega)
      replace og := og.upw hu6_13 (by omega)
      replace os := os.upw hu6_13 (by omega)
      replace ho := hu6_13.own
      refine Reg.nil ?_
      refine At.region rfl rfl ?_
      refine Reg.pur rfl rfl rfl rfl (Pur.mv rfl) ?_
      first | refine Reg.pur rfl rfl rfl rfl (Pur.add64 rfl rfl (by omega)) ?_ | refine Reg.pur rfl rfl rfl rfl (Pur.add64 rfl rfl (by assumption)) ?_ | refine Reg.pur rfl rfl rfl rfl (Pur.add rfl rfl) ?_
      refine Reg.pur rfl rfl rfl rfl (Pur.asg rfl) ?_
      refine Reg.nil ?_
      have hds := dfS_at g s hk4
      have hps := posTo_succ g s k
      have hpo : Own H6_13 sb [.slice A Bs.length cap, .bool (ok && posTo g s (k + 1))] := ho.of (by rw [hps, ← Bool.and_assoc]; first | (rw [q30, Bool.true_and, hds]; rfl) | (rw [q30, Bool.false_and]; rfl))
      exact At.via (ih (k + 1) _ ⟨by omega, od, og, os, hpo, hO⟩ (by omega)) ⟨rfl, rfl, rfl, rfl, rfl, trivial⟩
    first | (simp only [decide_eq_true_eq, decide_eq_false_iff_not, Bool.not_eq_true', Bool.not_eq_false', ne_eq, Decidable.not_not, Bool.not_eq_true, Bool.not_eq_false] at q30) | (dsimp only at q30) | skip
    refine Reg.skip rfl rfl rfl rfl rfl rfl rfl ?_
    refine Reg.skip rfl rfl rfl rfl rfl rfl rfl ?_
    refine Reg.skip rfl rfl rfl rfl rfl rfl rfl ?_
    refine Reg.skip rfl rfl rfl rfl rfl rfl rfl ?_
    refine Reg.pur rfl rfl rfl rfl (Pur.pickF rfl rfl) ?_
    refine Reg.pur rfl rfl rfl rfl (Pur.nilc rfl) ?_
    refine Reg.pur rfl rfl rfl rfl (Pur.fld _ fo105_1 rfl) ?_
    refine Reg.op0 rfl rfl rfl (Does.st sc4 rfl rfl rfl ho (by first | decide | (simp; done) | (simp; omega) | omega)) ?_
    rintro _ H6_13 hu6_13
    have z6_13 := hu6_13.size
    replace hO := hO.upw hu6_13 (by omega)
    replace od := od.upw hu6_13 (by omega)
    replace og := og.upw hu6_13 (by omega)
    replace os := os.upw hu6_13 (by omega)
    replace ho := hu6_13.own
    refine Reg.nil ?_
    refine At.region rfl rfl ?_
    refine Reg.pur rfl rfl rfl rfl (Pur.mv rfl) ?_
    first | refine Reg.pur rfl rfl rfl rfl (Pur.add64 rfl rfl (by omega)) ?_ | refine Reg.pur rfl rfl rfl rfl (Pur.add64 rfl rfl (by assumption)) ?_ | refine Reg.pur rfl rfl rfl rfl (Pur.add rfl rfl) ?_
    refine Reg.pur rfl rfl rfl rfl (Pur.asg rfl) ?_
    refine Reg.nil ?_
    have hds := dfS_at g s hk4
    have hps := posTo_succ g s k
    have hpo : Own H6_13 sb [.slice A Bs.length cap, .bool (ok && posTo g s (k + 1))] := ho.of (by rw [hps, ← Bool.and_assoc]; first | (rw [q30, Bool.true_and, hds]; rfl) | (rw [q30, Bool.false_and]; rfl))
    exact At.via (ih (k + 1) _ ⟨by omega, od, og, os, hpo, hO⟩ (by omega)) ⟨rfl, rfl, rfl, rfl, rfl, trivial⟩
  first | (simp only [decide_eq_true_eq, decide_eq_false_iff_not, Bool.not_eq_true', Bool.not_eq_false', ne_eq, Decidable.not_not, Bool.not_eq_true, Bool.not_eq_false] at q11) | (dsimp only at q11) | skip
  obtain rfl : k = 4 := by omega
  rw [posTo_all] at ho
  clear ih
  refine At.region rfl rfl ?_
  refine Reg.pur rfl rfl rfl rfl (Pur.fld _ fo24_1 rfl) ?_
  refine Reg.lod rfl rfl rfl rfl (Lod.ld sc3 rfl og.blk (hat4 g hg5)) ?_
  refine Reg.pur rfl rfl rfl rfl (Pur.lss rfl rfl) ?_
  refine Reg.nil ?_
  refine At.cond rfl rfl (fun q40 => ?_) (fun q40 => ?_)
  · first | (simp only [decide_eq_true_eq, decide_eq_false_iff_not, Bool.not_eq_true', Bool.not_eq_false', ne_eq, Decidable.not_not, Bool.not_eq_true, Bool.not_eq_false] at q40) | (dsimp only at q40) | skip
    have hfg := fks_ints .i64 g
    have hfs := fks_ints .i64 s
    rw [hg5] at hfg
    rw [hs5] at hfs
    have hei := eqs_ints .i64 g s
    refine At.region rfl rfl ?_
    refine Reg.pur rfl rfl rfl rfl (Pur.mv rfl) ?_
    refine Reg.pur rfl rfl rfl rfl (Pur.mv rfl) ?_
    refine Reg.pur rfl rfl rfl rfl (Pur.nilc rfl) ?_
    refine Reg.pur rfl rfl rfl rfl (Pur.fld _ fo105_1 rfl) ?_
    refine Reg.lod rfl rfl rfl rfl (Lod.ld sc4 rfl ho.blk rfl) ?_
    refine Reg.pur rfl rfl rfl rfl (Pur.mv rfl) ?_
    refine Reg.case 46 rfl (fun q46 => ?_) (fun q46 => ?_)
    · first | (simp only [decide_eq_true_eq, decide_eq_false_iff_not, Bool.not_eq_true', Bool.not_eq_false', ne_eq, Decidable.not_not, Bool.not_eq_true, Bool.not_eq_false] at q46) | (dsimp only at q46) | skip
      refine Reg.glod rfl rfl rfl rfl rfl rfl (Lod.ldn ag24 rfl og.blk (whole (by simp [hg5])) (by simp [hg5])) ?_
      refine Reg.glod rfl rfl rfl rfl rfl rfl (Lod.ldn ag24 rfl os.blk (whole (by simp [hs5])) (by simp [hs5])) ?_
      refine Reg.gpur rfl rfl rfl rfl rfl rfl (Pur.eqA eqt24 rfl rfl hfg hfs) ?_
      refine Reg.pur rfl rfl rfl rfl (Pur.pickT rfl rfl) ?_
      refine Reg.pur rfl rfl rfl rfl (Pur.nilc rfl) ?_
      refine Reg.pur rfl rfl rfl rfl (Pur.fld _ fo105_1 rfl) ?_
      refine Reg.op0 rfl rfl rfl (Does.st sc4 rfl rfl rfl ho (by first | decide | (simp; done) | (simp; omega) | omega)) ?_
      rintro _ H8_12 hu8_12
      have z8_12 := hu8_12.size
      replace hO := hO.upw hu8_12 (by omega)
      replace od := od.upw hu8_12 (by omega)
      replace og := og.upw hu8_12 (by omega)
      replace os := os.upw hu8_12 (by omega)
      replace ho := hu8_12.own
      refine Reg.nil ?_
      refine At.ret rfl Tryd.func83 rfl ?_
      obtain ⟨hk1, hk2⟩ := pos_of q46
      have hi1 : instR M g s = if g = s then some M else none := by unfold instR; rw [if_neg hk2, if_pos q40]
      refine ⟨A, cap, Bs, M, _, h.osb hO, ho, hO.md A, by omega, ?_, fun hok M2 hM2 => ?_⟩
      · rw [hei, hi1, hk1]; by_cases hgs' : g = s <;> simp [hgs']
      · rw [hi1] at hM2; split at hM2 <;> cases hM2; rfl
    first | (simp only [decide_eq_true_eq, decide_eq_false_iff_not, Bool.not_eq_true', Bool.not_eq_false', ne_eq, Decidable.not_not, Bool.not_eq_true, Bool.not_eq_false] at q46) | (dsimp only at q46) | skip
    refine Reg.skip rfl rfl rfl rfl rfl rfl rfl ?_
    refine Reg.skip rfl rfl rfl rfl rfl rfl rfl ?_
    refine Reg.skip rfl rfl rfl rfl rfl rfl rfl ?_
    refine Reg.pur rfl rfl rfl rfl (Pur.pickF rfl rfl) ?_
    refine Reg.pur rfl rfl rfl rfl (Pur.nilc rfl) ?_
    refine Reg.pur rfl rfl rfl rfl (Pur.fld _ fo105_1 rfl) ?_
    refine Reg.op0 rfl rfl rfl (Does.st sc4 rfl rfl rfl ho (by first | decide | (simp; done) | (simp; omega) | omega)) ?_
    rintro _ H8_12 hu8_12
    have z8_12 := hu8_12.size
    replace hO := hO.upw hu8_12 (by omega)
    replace od := od.upw hu8_12 (by omega)
    replace og := og.upw hu8_12 (by omega)
    replace os := os.upw hu8_12 (by omega)
    replace ho := hu8_12.own
    refine Reg.nil ?_
    refine At.ret rfl Tryd.func83 rfl ?_
    refine ⟨A, cap, Bs, M, _, h.osb hO, ho, hO.md A, by omega, neg_val q46, fun hok M2 hM2 => ?_⟩
    rw [instR_neg q46 hok] at hM2; cases hM2
  first | (simp only [decide_eq_true_eq, decide_eq_false_iff_not, Bool.not_eq_true', Bool.not_eq_false', ne_eq, Decidable.not_not, Bool.not_eq_true, Bool.not_eq_false] at q40) | (dsimp only at q40) | skip
  refine At.region rfl rfl ?_
  refine Reg.pur rfl rfl rfl rfl (Pur.fld _ fo24_1 rfl) ?_
  refine Reg.lod rfl rfl rfl rfl (Lod.ld sc3 rfl og.blk (hat4 g hg5)) ?_
  refine Reg.lod rfl rfl rfl rfl (Lod.ldn ag22 rfl od.blk (whole rfl) rfl) ?_
  refine Reg.pur rfl rfl rfl rfl (Pur.fld _ fo24_1 rfl) ?_
  refine Reg.lod rfl rfl rfl rfl (Lod.ld sc3 rfl os.blk (hat4 s hs5)) ?_
  refine Reg.op rfl rfl rfl rfl (Does.call rfl (rowBindR_ok _ _ _ (dfS_len g s 4))) ?_
  rintro _ H9_5 ⟨rfl, hE9_5⟩
  have z9_5 := hE9_5.lt
  replace hO := hO.ext hE9_5
  replace ho := ho.ext hE9_5
  replace od := od.ext hE9_5
  replace og := og.ext hE9_5
  replace os := os.ext hE9_5
  refine Reg.op rfl rfl rfl rfl (Does.alloc zc57) ?_
  rintro _ H9_6 ⟨rfl, hn9_6⟩
  have z9_6 := hn9_6.size
  replace hO := hO.ext hn9_6.ext
  replace ho := ho.ext hn9_6.ext
  replace od := od.ext hn9_6.ext
  replace og := og.ext hn9_6.ext
  replace os := os.ext hn9_6.ext
  have o9_6 := hn9_6.own
  refine Reg.op0 rfl rfl rfl (Does.stn ag57 rfl rfl (ones_encB _) rfl o9_6 (Nat.le_refl _)) ?_
  rintro _ H9_7 hu9_7
  have z9_7 := hu9_7.size
  replace hO := hO.upw hu9_7 (by omega)
  replace ho := ho.upw hu9_7 (by omega)
  replace od := od.upw hu9_7 (by omega)
  replace og := og.upw hu9_7 (by omega)
  replace os := os.upw hu9_7 (by omega)
  replace o9_6 := hu9_7.own
  first | rw [over (by first | rfl | (simp; done))] at o9_6 | skip
  replace o9_6 := o9_6.of (c' := encB (bR (g.getD 4 0) (dfR g s))) (by rw [← dfS_all])
  refine Reg.nil ?_
  refine At.region rfl rfl ?_
  refine Reg.pur rfl rfl rfl rfl (Pur.asg rfl) ?_
  refine Reg.nil ?_
  have hMt := h.osb hO
  have hMtg := hMt.lt
  have hlT := h.lenT
  refine At.loop (σ := Nat) (fun i => [(9, I i), (8, ptr H9_5.size 0), (4, ptr H.size 0), (0, ptr sb 0)]) (fun i H' => i ≤ Bs.length ∧ H' = H9_7 ∧ findR (M.take i) (g.getD 4 0) = none) (fun i => Bs.length - i) 0 rfl ⟨rfl, rfl, rfl, rfl, trivial⟩ ⟨by omega, rfl, rfl⟩ ?_
  rintro i H3' ⟨hi, rfl, hnf⟩ ih
  refine At.region rfl rfl ?_
  refine Reg.pur rfl rfl rfl rfl (Pur.mv rfl) ?_
  refine Reg.pur rfl rfl rfl rfl (Pur.mv rfl) ?_
  refine Reg.pur rfl rfl rfl rfl (Pur.nilc rfl) ?_
  refine Reg.pur rfl rfl rfl rfl (Pur.fld _ fo105_0 rfl) ?_
  refine Reg.lod rfl rfl rfl rfl (Lod.ld sc25 rfl ho.blk rfl) ?_
  refine Reg.pur rfl rfl rfl rfl (Pur.lenS isl25 rfl) ?_
  refine Reg.pur rfl rfl rfl rfl (Pur.lss rfl rfl) ?_
  refine Reg.nil ?_
  refine At.cond rfl rfl (fun q65 => ?_) (fun q65 => ?_)
  · first | (simp only [decide_eq_true_eq, decide_eq_false_iff_not, Bool.not_eq_true', Bool.not_eq_false', ne_eq, Decidable.not_not, Bool.not_eq_true, Bool.not_eq_false] at q65) | (dsimp only at q65) | skip
    have hib : i < Bs.length := by omega
    have hjm : i < M.length := by omega
    obtain ⟨gq, cq, rfl, hBq, hcq⟩ := hMt.blk (by omega)
    have hdi := row_rd hMt.wide hib hcq
    have hpi := pl_at hMt.pl hib hjm
    have hrw := (hMt.ok _ (List.getElem_mem hib)).row
    refine At.drawE ((Bks.cons hBq.blk (Bks.cons ho.blk (Bks.cons og.blk Bks.nil)))) [] mixed rfl rfl ?_
    refine RegD.tpur (i := 0) rfl rfl rfl rfl (by kernel_rfl) (Pur.mv rfl) ?_
    refine RegD.tpur (i := 1) rfl rfl rfl rfl (by kernel_rfl) (Pur.nilc rfl) ?_
    refine RegD.tpur (i := 2) rfl rfl rfl rfl (by kernel_rfl) (Pur.fld _ fo105_0 rfl) ?_
    refine RegD.take (i := 3) rfl rfl rfl rfl (by kernel_rfl) (Bks.cons hBq.blk (Bks.cons ho.blk (Bks.cons og.blk Bks.nil))) (fun H hS => Lod.ld sc25 rfl hS.tl.hd rfl) ?_
    refine RegD.tpur (i := 4) rfl rfl rfl rfl (by kernel_rfl) (Pur.mv rfl) ?_
    refine RegD.tpur (i := 5) rfl rfl rfl rfl (by kernel_rfl) (Pur.idx _ es25 rfl rfl (by omega) (by omega)) ?_
    refine RegD.tpur (i := 6) rfl rfl rfl rfl (by kernel_rfl) (Pur.fld _ fo57_1 rfl) ?_
    refine RegD.take (i := 7) rfl rfl rfl rfl (by kernel_rfl) (Bks.cons hBq.blk (Bks.cons ho.blk (Bks.cons og.blk Bks.nil))) (fun H hS => Lod.ld sc4 rfl hS.hd (by rw [Int.toNat_natCast, Nat.zero_add]; exact at_tk hdi (j := 1) (by decide) rfl)) ?_
    refine RegD.tpur (i := 8) rfl rfl rfl rfl (by kernel_rfl) (Pur.mv rfl) ?_
    refine RegD.case 76 rfl (fun q76 => ?_) (fun q76 => ?_)
    · first | (simp only [decide_eq_true_eq, decide_eq_false_iff_not, Bool.not_eq_true', Bool.not_eq_false', ne_eq, Decidable.not_not, Bool.not_eq_true, Bool.not_eq_false] at q76) | (dsimp only at q76) | skip
      refine RegD.gtpur (i := 9) rfl rfl rfl rfl rfl rfl (by kernel_rfl) (Pur.mv rfl) ?_
      refine RegD.gtpur (i := 10) rfl rfl rfl rfl rfl rfl (by kernel_rfl) (Pur.nilc rfl) ?_
      refine RegD.gtpur (i := 11) rfl rfl rfl rfl rfl rfl (by kernel_rfl) (Pur.fld _ fo105_0 rfl) ?_
      refine RegD.gtake (i := 12) rfl rfl rfl rfl rfl rfl (by kernel_rfl) (Bks.cons hBq.blk (Bks.cons ho.blk (Bks.cons og.blk Bks.nil))) (fun H hS => Lod.ld sc25 rfl hS.tl.hd rfl) ?_
      refine RegD.gtpur (i := 13) rfl rfl rfl rfl rfl rfl (by kernel_rfl) (Pur.mv rfl) ?_
      refine RegD.gtpur (i := 14) rfl rfl rfl rfl rfl rfl (by kernel_rfl) (Pur.idx _ es25 rfl rfl (by omega) (by omega)) ?_
      refine RegD.gtpur (i := 15) rfl rfl rfl rfl rfl rfl (by kernel_rfl) (Pur.fld _ fo57_0 rfl) ?_
      refine RegD.gtake (i := 16) rfl rfl rfl rfl rfl rfl (by kernel_rfl) (Bks.cons hBq.blk (Bks.cons ho.blk (Bks.cons og.blk Bks.nil))) (fun H hS => Lod.ld sc3 rfl hS.hd (by rw [Int.toNat_natCast, Nat.zero_add]; exact at_tk hdi (j := 0) (by decide) rfl)) ?_
      refine RegD.gtpur (i := 17) rfl rfl rfl rfl rfl rfl (by kernel_rfl) (Pur.fld _ fo24_1 rfl) ?_
      refine RegD.gtake (i := 18) rfl rfl rfl rfl rfl rfl (by kernel_rfl) (Bks.cons hBq.blk (Bks.cons ho.blk (Bks.cons og.blk Bks.nil))) (fun H hS => Lod.ld sc3 rfl hS.tl.tl.hd (hat4 g hg5)) ?_
      refine RegD.gtpur (i := 19) rfl rfl rfl rfl rfl rfl (by kernel_rfl) (Pur.eql rfl rfl) ?_
      refine RegD.tpur (i := 20) rfl rfl rfl rfl (by kernel_rfl) (Pur.pickT rfl rfl) ?_
      refine RegD.done (by kernel_rfl) ?_
      refine At.cond rfl rfl (fun q88 => ?_) (fun q88 => ?_)
      · first | (simp only [decide_eq_true_eq, decide_eq_false_iff_not, Bool.not_eq_true', Bool.not_eq_false', ne_eq, Decidable.not_not, Bool.not_eq_true, Bool.not_eq_false] at q88) | (dsimp only at q88) | skip
        have hrl : (cq.drop (0 + (i : Int).toNat * 8 + 3)).take 5 = Is Bs[i].row := by { rw [Int.toNat_natCast, Nat.zero_add, ← List.drop_drop, take_mid hdi (by decide)]; exact enc_row hrw }
        have hrd : ((encB (bR (g.getD 4 0) (dfR g s))).drop (0 + 3)).take 5 = Is (dfR g s) := rfl
        have hfb := fks_ints .i64 Bs[i].row
        have hfd := fks_ints .i64 (dfR g s)
        rw [hrw] at hfb
        have hei := eqs_ints .i64 Bs[i].row (dfR g s)
        refine At.drawE ((Bks.cons hBq.blk (Bks.cons ho.blk (Bks.cons o9_6.blk Bks.nil)))) [20] mixed rfl rfl ?_
        refine RegD.tpur (i := 0) rfl rfl rfl rfl (by kernel_rfl) (Pur.mv rfl) ?_
        refine RegD.tpur (i := 1) rfl rfl rfl rfl (by kernel_rfl) (Pur.mv rfl) ?_
        refine RegD.tpur (i := 2) rfl rfl rfl rfl (by kernel_rfl) (Pur.nilc rfl) ?_
        refine RegD.tpur (i := 3) rfl rfl rfl rfl (by kernel_rfl) (Pur.fld _ fo105_1 rfl) ?_
        refine RegD.take (i := 4) rfl rfl rfl rfl (by kernel_rfl) (Bks.cons hBq.blk (Bks.cons ho.blk (Bks.cons o9_6.blk Bks.nil))) (fun H hS => Lod.ld sc4 rfl hS.tl.hd rfl) ?_
        refine RegD.tpur (i := 5) rfl rfl rfl rfl (by kernel_rfl) (Pur.mv rfl) ?_
        refine RegD.case 94 rfl (fun q94 => ?_) (fun q94 => ?_)
        · first | (simp only [decide_eq_true_eq, decide_eq_false_iff_not, Bool.not_eq_true', Bool.not_eq_false', ne_eq, Decidable.not_not, Bool.not_eq_true, Bool.not_eq_false] at q94) | (dsimp only at q94) | skip
          refine RegD.gtpur (i := 6) rfl rfl rfl rfl rfl rfl (by kernel_rfl) (Pur.mv rfl) ?_
          refine RegD.gtpur (i := 7) rfl rfl rfl rfl rfl rfl (by kernel_rfl) (Pur.nilc rfl) ?_
          refine RegD.gtpur (i := 8) rfl rfl rfl rfl rfl rfl (by kernel_rfl) (Pur.fld _ fo105_0 rfl) ?_
          refine RegD.gtake (i := 9) rfl rfl rfl rfl rfl rfl (by kernel_rfl) (Bks.cons hBq.blk (Bks.cons ho.blk (Bks.cons o9_6.blk Bks.nil))) (fun H hS => Lod.ld sc25 rfl hS.tl.hd rfl) ?_
          refine RegD.gtpur (i := 10) rfl rfl rfl rfl rfl rfl (by kernel_rfl) (Pur.mv rfl) ?_
          refine RegD.gtpur (i := 11) rfl rfl rfl rfl rfl rfl (by kernel_rfl) (Pur.idx _ es25 rfl rfl (by omega) (by omega)) ?_
          refine RegD.gtpur (i := 12) rfl rfl rfl rfl rfl rfl (by kernel_rfl) (Pur.fld _ fo57_3 rfl) ?_
          refine RegD.gtake (i := 13) rfl rfl rfl rfl rfl rfl (by kernel_rfl) (Bks.cons hBq.blk (Bks.cons ho.blk (Bks.cons o9_6.blk Bks.nil))) (fun H hS => Lod.ldn ag24 rfl hS.hd hrl (by simp [hrw])) ?_
          refine RegD.gtpur (i := 14) rfl rfl rfl rfl rfl rfl (by kernel_rfl) (Pur.fld _ fo57_3 rfl) ?_
          refine RegD.gtake (i := 15) rfl rfl rfl rfl rfl rfl (by kernel_rfl) (Bks.cons hBq.blk (Bks.cons ho.blk (Bks.cons o9_6.blk Bks.nil))) (fun H hS => Lod.ldn ag24 rfl hS.tl.tl.hd hrd rfl) ?_
          refine RegD.gtpur (i := 16) rfl rfl rfl rfl rfl rfl (by kernel_rfl) (Pur.eqA eqt24 rfl rfl hfb hfd) ?_
          refine RegD.tpur (i := 17) rfl rfl rfl rfl (by kernel_rfl) (Pur.pickT rfl rfl) ?_
          refine RegD.tpur (i := 18) rfl rfl rfl rfl (by kernel_rfl) (Pur.nilc rfl) ?_
          refine RegD.tpur (i := 19) rfl rfl rfl rfl (by kernel_rfl) (Pur.fld _ fo105_1 rfl) ?_
          refine RegD.one0 (i := 20) (by kernel_rfl) rfl rfl rfl (Does.st sc4 rfl rfl rfl ho (by first | decide | (simp; done) | (simp; omega) | omega)) ?_
          rintro _ H14_20 hu14_20
          have z14_20 := hu14_20.size
          replace hO := hO.upw hu14_20 (by omega)
          replace od := od.upw hu14_20 (by omega)
          replace og := og.upw hu14_20 (by omega)
          replace os := os.upw hu14_20 (by omega)
          replace o9_6 := o9_6.upw hu14_20 (by omega)
          replace ho := hu14_20.own
          refine ⟨fun h => (by cases h), ?_⟩
          refine RegD.done (by kernel_rfl) ?_
          refine At.ret rfl Tryd.func83 rfl ?_
          obtain ⟨d1, hd1⟩ : ∃ d1, M[i] = .r (g.getD 4 0) d1 := by { generalize M[i] = x at hpi; cases x with | r v w => (have e1 : Bs[i].var = v := congrArg (fun p => p.1) hpi; exact ⟨w, by rw [← q88, e1]⟩) | t v w => (have e1 : Bs[i].isRow = false := congrArg (fun p => p.2.1) hpi; rw [e1] at q76; cases q76) }
          have hhit := hit_findR hjm hnf hd1
          have hrow : Bs[i].row = d1 := by { rw [hd1] at hpi; exact congrArg (fun p => p.2.2.2) hpi }
          obtain ⟨hk1, hk2⟩ := pos_of q94
          have hi1 : instR M g s = if d1 = dfR g s then some M else none := by unfold instR; rw [if_neg hk2, if_neg q40, hhit]
          refine ⟨_, cap, Bs, M, _, h.osb hO, ho, hO.md _, by omega, ?_, fun hok M2 hM2 => ?_⟩
          · rw [hei, hi1, hk1, hrow]; by_cases hgs' : d1 = dfR g s <;> simp [hgs']
          · rw [hi1] at hM2; split at hM2 <;> cases hM2; rfl
        first | (simp only [decide_eq_true_eq, decide_eq_false_iff_not, Bool.not_eq_true', Bool.not_eq_false', ne_eq, Decidable.not_not, Bool.not_eq_true, Bool.not_eq_false] at q94) | (dsimp only at q94) | skip
        refine RegD.skip (i := 6) rfl rfl rfl rfl rfl rfl rfl (by kernel_rfl) ?_
        refine RegD.skip (i := 7) rfl rfl rfl rfl rfl rfl rfl (by kernel_rfl) ?_
        refine RegD.skip (i := 8) rfl rfl rfl rfl rfl rfl rfl (by kernel_rfl) ?_
        refine RegD.skip (i := 9) rfl rfl rfl rfl rfl rfl rfl (by kernel_rfl) ?_
        refine RegD.skip (i := 10) rfl rfl rfl rfl rfl rfl rfl (by kernel_rfl) ?_
        refine RegD.skip (i := 11) rfl rfl rfl rfl rfl rfl rfl (by kernel_rfl) ?_
        refine RegD.skip (i := 12) rfl rfl rfl rfl rfl rfl rfl (by kernel_rfl) ?_
        refine RegD.skip (i := 13) rfl rfl rfl rfl rfl rfl rfl (by kernel_rfl) ?_
        refine RegD.skip (i := 14) rfl rfl rfl rfl rfl rfl rfl (by kernel_rfl) ?_
        refine RegD.skip (i := 15) rfl rfl rfl rfl rfl rfl rfl (by kernel_rfl) ?_
        refine RegD.skip (i := 16) rfl rfl rfl rfl rfl rfl rfl (by kernel_rfl) ?_
        refine RegD.tpur (i := 17) rfl rfl rfl rfl (by kernel_rfl) (Pur.pickF rfl rfl) ?_
        refine RegD.tpur (i := 18) rfl rfl rfl rfl (by kernel_rfl) (Pur.nilc rfl) ?_
        refine RegD.tpur (i := 19) rfl rfl rfl rfl (by kernel_rfl) (Pur.fld _ fo105_1 rfl) ?_
        refine RegD.one0 (i := 20) (by kernel_rfl) rfl rfl rfl (Does.st sc4 rfl rfl rfl ho (by first | decide | (simp; done) | (simp; omega) | omega)) ?_
        rintro _ H14_20 hu14_20
        have z14_20 := hu14_20.size
        replace hO := hO.upw hu14_20 (by omega)
        replace od := od.upw hu14_20 (by omega)
        replace og := og.upw hu14_20 (by omega)
        replace os := os.upw hu14_20 (by omega)
        replace o9_6 := o9_6.upw hu14_20 (by omega)
        replace ho := hu14_20.own
        refine ⟨fun h => (by cases h), ?_⟩
        refine RegD.done (by kernel_rfl) ?_
        refine At.ret rfl Tryd.func83 rfl ?_
        refine ⟨_, cap, Bs, M, _, h.osb hO, ho, hO.md _, by omega, neg_val q94, fun hok M2 hM2 => ?_⟩
        rw [instR_neg q94 hok] at hM2; cases hM2
      first | (simp only [decide_eq_true_eq, decide_eq_false_iff_not, Bool.not_eq_true', Bool.not_eq_false', ne_eq, Decidable.not_not, Bool.not_eq_true, Bool.not_eq_false] at q88) | (dsimp only at q88) | skip
      refine At.region rfl rfl ?_
      refine Reg.pur rfl rfl rfl rfl (Pur.mv rfl) ?_
      first | refine Reg.pur rfl rfl rfl rfl (Pur.add64 rfl rfl (by omega)) ?_ | refine Reg.pur rfl rfl rfl rfl (Pur.add64 rfl rfl (by assumption)) ?_ | refine Reg.pur rfl rfl rfl rfl (Pur.add rfl rfl) ?_
      refine Reg.pur rfl rfl rfl rfl (Pur.asg rfl) ?_
      refine Reg.nil ?_
      have hnx : findR (M.take (i + 1)) (g.getD 4 0) = none := by { rw [take_findR hjm hnf]; generalize M[i] = x at hpi; cases x with | t v w => rfl | r v w => (have e1 : Bs[i].var = v := congrArg (fun p => p.1) hpi; have e2 : Bs[i].isRow = true := congrArg (fun p => p.2.1) hpi; simp only [findR]; rw [if_neg (fun e => by simp_all)]) }
      exact At.via (ih (i + 1) _ ⟨by omega, rfl, hnx⟩ (by omega)) ⟨rfl, rfl, rfl, rfl, trivial⟩
    first | (simp only [decide_eq_true_eq, decide_eq_false_iff_not, Bool.not_eq_true', Bool.not_eq_false', ne_eq, Decidable.not_not, Bool.not_eq_true, Bool.not_eq_false] at q76) | (dsimp only at q76) | skip
    refine RegD.skip (i := 9) rfl rfl rfl rfl rfl rfl rfl (by kernel_rfl) ?_
    refine RegD.skip (i := 10) rfl rfl rfl rfl rfl rfl rfl (by kernel_rfl) ?_
    refine RegD.skip (i := 11) rfl rfl rfl rfl rfl rfl rfl (by kernel_rfl) ?_
    refine RegD.skip (i := 12) rfl rfl rfl rfl rfl rfl rfl (by kernel_rfl) ?_
    refine RegD.skip (i := 13) rfl rfl rfl rfl rfl rfl rfl (by kernel_rfl) ?_
    refine RegD.skip (i := 14) rfl rfl rfl rfl rfl rfl rfl (by kernel_rfl) ?_
    refine RegD.skip (i := 15) rfl rfl rfl rfl rfl rfl rfl (by kernel_rfl) ?_
    refine RegD.skip (i := 16) rfl rfl rfl rfl rfl rfl rfl (by kernel_rfl) ?_
    refine RegD.skip (i := 17) rfl rfl rfl rfl rfl rfl rfl (by kernel_rfl) ?_
    refine RegD.skip (i := 18) rfl rfl rfl rfl rfl rfl rfl (by kernel_rfl) ?_
    refine RegD.skip (i := 19) rfl rfl rfl rfl rfl rfl rfl (by kernel_rfl) ?_
    refine RegD.tpur (i := 20) rfl rfl rfl rfl (by kernel_rfl) (Pur.pickF rfl rfl) ?_
    refine RegD.done (by kernel_rfl) ?_
    refine At.condF rfl rfl rfl ?_
    refine At.region rfl rfl ?_
    refine Reg.pur rfl rfl rfl rfl (Pur.mv rfl) ?_
    first | refine Reg.pur rfl rfl rfl rfl (Pur.add64 rfl rfl (by omega)) ?_ | refine Reg.pur rfl rfl rfl rfl (Pur.add64 rfl rfl (by assumption)) ?_ | refine Reg.pur rfl rfl rfl rfl (Pur.add rfl rfl) ?_
    refine Reg.pur rfl rfl rfl rfl (Pur.asg rfl) ?_
    refine Reg.nil ?_
    have hnx : findR (M.take (i + 1)) (g.getD 4 0) = none := by { rw [take_findR hjm hnf]; generalize M[i] = x at hpi; cases x with | t v w => rfl | r v w => (have e1 : Bs[i].var = v := congrArg (fun p => p.1) hpi; have e2 : Bs[i].isRow = true := congrArg (fun p => p.2.1) hpi; simp only [findR]; rw [if_neg (fun e => by simp_all)]) }
    exact At.via (ih (i + 1) _ ⟨by omega, rfl, hnx⟩ (by omega)) ⟨rfl, rfl, rfl, rfl, trivial⟩
  first | (simp only [decide_eq_true_eq, decide_eq_false_iff_not, Bool.not_eq_true', Bool.not_eq_false', ne_eq, Decidable.not_not, Bool.not_eq_true, Bool.not_eq_false] at q65) | (dsimp only at q65) | skip
  refine At.drawE ((Bks.cons ho.blk (Bks.cons o9_6.blk Bks.nil))) [10] mixed rfl rfl ?_
  refine RegD.tpur (i := 0) rfl rfl rfl rfl (by kernel_rfl) (Pur.mv rfl) ?_
  refine RegD.tpur (i := 1) rfl rfl rfl rfl (by kernel_rfl) (Pur.mv rfl) ?_
  refine RegD.tpur (i := 2) rfl rfl rfl rfl (by kernel_rfl) (Pur.nilc rfl) ?_
  refine RegD.tpur (i := 3) rfl rfl rfl rfl (by kernel_rfl) (Pur.fld _ fo105_0 rfl) ?_
  refine RegD.take (i := 4) rfl rfl rfl rfl (by kernel_rfl) (Bks.cons ho.blk (Bks.cons o9_6.blk Bks.nil)) (fun H hS => Lod.ld sc25 rfl hS.hd rfl) ?_
  refine RegD.take (i := 5) rfl rfl rfl rfl (by kernel_rfl) (Bks.cons ho.blk (Bks.cons o9_6.blk Bks.nil)) (fun H hS => Lod.ldn ag57 rfl hS.tl.hd (whole rfl) rfl) ?_
  refine RegD.one (i := 6) (by kernel_rfl) rfl rfl rfl rfl (Does.bslA ([encB (bR (g.getD 4 0) (dfR g s))]) slA25 rfl rfl rfl rfl rfl rfl) ?_
  rintro _ H15_6 ⟨rfl, hp15_6⟩
  have hn15_6 := New.of_eq hp15_6
  have z15_6 := hn15_6.size
  replace hO := hO.ext hn15_6.ext
  replace ho := ho.ext hn15_6.ext
  replace od := od.ext hn15_6.ext
  replace og := og.ext hn15_6.ext
  replace os := os.ext hn15_6.ext
  replace o9_6 := o9_6.ext hn15_6.ext
  have o15_6 := hn15_6.own
  refine ⟨fun _ _ => (Bks.cons ho.blk (Bks.cons o9_6.blk Bks.nil)), ?_⟩
  have hgs := hMt.g.ext hn15_6.ext
  have hE15 := hn15_6.ext
  have hO15 := hO

  have z_hgs := hgs.lt
  refine RegD.one (i := 7) (by kernel_rfl) rfl rfl rfl rfl (Does.appL apt25 rfl rfl (by decide) hgs (fun x hx ↦ by rw [List.mem_singleton.1 hx]; rfl) (sl_one (x := bR (g.getD 4 0) (dfR g s)) rfl (by decide) hn15_6) (ones_fl _) (by simp; omega) (by omega)) ?_
  rintro _ H15_7 ⟨A15_7, cap15_7, rfl, g15_7, hbut15_7, ha15_7⟩
  have z15_7 := hbut15_7.lt
  replace ho := ho.via hbut15_7 (by first | omega | (intro g; omega) | (intro g hg; omega) | (intro g hg h; omega))
  replace o9_6 := o9_6.via hbut15_7 (by first | omega | (intro g; omega) | (intro g hg; omega) | (intro g hg h; omega))
  replace o15_6 := o15_6.via hbut15_7 (by first | omega | (intro g; omega) | (intro g hg; omega) | (intro g hg h; omega))
  replace hgs := g15_7
  have zg15_7 := g15_7.lt
  refine ⟨fun _ _ => (Bks.cons ho.blk (Bks.cons o9_6.blk Bks.nil)), ?_⟩
  refine RegD.tpur (i := 8) rfl rfl rfl rfl (by kernel_rfl) (Pur.nilc rfl) ?_
  refine RegD.tpur (i := 9) rfl rfl rfl rfl (by kernel_rfl) (Pur.fld _ fo105_0 rfl) ?_
  refine RegD.one0 (i := 10) (by kernel_rfl) rfl rfl rfl (Does.st sc25 rfl rfl rfl ho (by first | decide | (simp; done) | (simp; omega) | omega)) ?_
  rintro _ H15_10 hu15_10
  have z15_10 := hu15_10.size
  replace o9_6 := o9_6.upw hu15_10 (by omega)
  replace o15_6 := o15_6.upw hu15_10 (by omega)
  replace hgs := hgs.upw hu15_10 (by omega)
  replace ho := hu15_10.own
  refine ⟨fun h => (by cases h), ?_⟩
  refine RegD.done (by kernel_rfl) ?_
  refine At.fall rfl Tryd.func83 rfl ?_
  have hbs : But (fun x => x = sb ∨ (x : Int) = ob A) H15_6 H15_10 := (hbut15_7.mono (fun b hb e => Or.inr e)).trans (hu15_10.but.mono (fun b hb e => Or.inl e))
  have hnn : findR M (g.getD 4 0) = none := by rw [List.take_of_length_le (by omega)] at hnf; exact hnf
  have hbd := bR_ok (g.getD 4 0) (dfR g s) rfl H15_6
  have hap := (hMt.ext hE15).app (b := .r (g.getD 4 0) (dfR g s)) rfl hbd (.inl rfl) (fun v u e => by cases e) hgs hbs (by omega) (by omega)
  refine ⟨_, _, _, _, _, hap, ho, (hO15.md A).trans ⟨hbs, by omega⟩, by simp, ?_, fun hok M2 hM2 => ?_⟩
  · cases hqq : (ok && posR (dfR g s)) with
    | false => exact neg_val hqq
    | true =>
      obtain ⟨hk1, hk2⟩ := pos_of hqq
      rw [show instR M g s = some (M ++ [.r (g.getD 4 0) (dfR g s)]) by unfold instR; rw [if_neg hk2, if_neg q40, hnn], hk1]; rfl
  · cases hqq : (ok && posR (dfR g s)) with
    | false => rw [instR_neg hqq hok] at hM2; cases hM2
    | true =>
      obtain ⟨hk1, hk2⟩ := pos_of hqq
      rw [show instR M g s = some (M ++ [.r (g.getD 4 0) (dfR g s)]) by unfold instR; rw [if_neg hk2, if_neg q40, hnn]] at hM2
      exact Option.some.inj hM2
end Go.Proofs.YtlfillhffpiffaaDoor

namespace Go.Proofs.YtlfillhffpiffaaDoor
set_option linter.unusedSimpArgs false
set_option linter.unusedVariables false
set_option maxRecDepth 8000
set_option maxHeartbeats 1000000
open Go Go.Fx Go.Proofs
namespace FactsUniNB
theorem ag65 : ag Tryd.prog 65 = some 9 := by kernel_rfl
theorem eqt65 : eqT Tryd.prog 65 = some [.int .i64, .int .i64, .int .i64, .int .i64, .int .i64, .int .i64, .int .i64, .int .i64, .int .i64] := by kernel_rfl
theorem es53 : esz Tryd.prog 53 = some 9 := by kernel_rfl
theorem fo55_0 : foff Tryd.prog 55 0 = some 0 := by kernel_rfl
theorem isl53 : isSl Tryd.prog 53 = true := by kernel_rfl
theorem mixed : Tryd.prog.follows .mixedOrders = true := by kernel_rfl
theorem sc53 : sc Tryd.prog 53 = true := by kernel_rfl
end FactsUniNB
open FactsUniNB

theorem eqN_ok {A A' : Option Addr} {cap cap' : Nat} {L L' : List (List Int)} (hL : Nine L) (hL' : Nine L') {H : Heap} (hS : SlT H Is 9 (.slice A L.length cap) L) (hS' : SlT H Is 9 (.slice A' L'.length cap') L') (hm : L.length ≤ 9223372036854775807) :
    Ret Tryd.prog 102 [.slice A L.length cap, .slice A' L'.length cap'] H (fun v H' => v = .bool (decide (L = L')) ∧ H' = H) := by
  refine Ret.of_at (N := 26) Tryd.call102 Tryd.func102 rfl rfl rfl ?_
  have hE := Ext.refl H

  refine At.region rfl rfl ?_
  refine Reg.pur rfl rfl rfl rfl (Pur.asg rfl) ?_
  refine Reg.nil ?_
  refine At.region rfl rfl ?_
  refine Reg.pur rfl rfl rfl rfl (Pur.mv rfl) ?_
  refine Reg.pur rfl rfl rfl rfl (Pur.lenS isl53 rfl) ?_
  refine Reg.pur rfl rfl rfl rfl (Pur.mv rfl) ?_
  refine Reg.pur rfl rfl rfl rfl (Pur.lenS isl53 rfl) ?_
  refine Reg.pur rfl rfl rfl rfl (Pur.neq rfl rfl) ?_
  refine Reg.nil ?_
  refine At.cond rfl rfl (fun q10 => ?_) (fun q10 => ?_)
  · first | (simp only [decide_eq_true_eq, decide_eq_false_iff_not, Bool.not_eq_true', Bool.not_eq_false', ne_eq, Decidable.not_not, Bool.not_eq_true, Bool.not_eq_false] at q10) | (dsimp only at q10) | skip
    refine At.region rfl rfl ?_
    refine Reg.pur rfl rfl rfl rfl (Pur.asg rfl) ?_
    refine Reg.nil ?_
    refine At.ret rfl Tryd.func102 rfl ?_
    exact ⟨congrArg Value.bool (decide_eq_false (fun h => by subst h; exact q10 rfl)).symm, rfl⟩
  first | (simp only [decide_eq_true_eq, decide_eq_false_iff_not, Bool.not_eq_true', Bool.not_eq_false', ne_eq, Decidable.not_not, Bool.not_eq_true, Bool.not_eq_false] at q10) | (dsimp only at q10) | skip
  have hll : L.length = L'.length := by omega
  refine At.region rfl rfl ?_
  refine Reg.pur rfl rfl rfl rfl (Pur.mv rfl) ?_
  refine Reg.pur rfl rfl rfl rfl (Pur.lenS isl53 rfl) ?_
  refine Reg.pur rfl rfl rfl rfl (Pur.mv rfl) ?_
  refine Reg.nil ?_
  refine At.loop (σ := Nat) (fun i => [(13, I i), (12, I L.length), (0, .slice A L.length cap), (1, .slice A' L'.length cap')]) (fun i H' => i ≤ L.length ∧ L.take i = L'.take i ∧ H' = H) (fun i => L.length - i) 0 rfl ⟨rfl, rfl, rfl, rfl, trivial⟩ ⟨by omega, rfl, rfl⟩ ?_
  rintro i H ⟨hi, hgo, rfl⟩ ih
  refine At.region rfl rfl ?_
  refine Reg.pur rfl rfl rfl rfl (Pur.lss rfl rfl) ?_
  refine Reg.nil ?_
  refine At.cond rfl rfl (fun q14 => ?_) (fun q14 => ?_)
  · first | (simp only [decide_eq_true_eq, decide_eq_false_iff_not, Bool.not_eq_true', Bool.not_eq_false', ne_eq, Decidable.not_not, Bool.not_eq_true, Bool.not_eq_false] at q14) | (dsimp only at q14) | skip
    refine At.region rfl rfl ?_
    refine Reg.pur rfl rfl rfl rfl (Pur.mv rfl) ?_
    refine Reg.pur rfl rfl rfl rfl (Pur.asg rfl) ?_
    refine Reg.nil ?_
    have hlt : i < L.length := by omega
    have hlt' : i < L'.length := by omega
    obtain ⟨b, o, c, rfl, hB, hd, h9⟩ := sl_at (wide9 hL) hS hlt
    obtain ⟨b', o', c', rfl, hB', hd', h9'⟩ := sl_at (wide9 hL') hS' hlt'
    have hf := fks_ints .i64 L[i]
    have hf' := fks_ints .i64 L'[i]
    rw [hL _ (List.getElem_mem hlt)] at hf
    rw [hL' _ (List.getElem_mem hlt')] at hf'
    have hq := eqs_ints .i64 L[i] L'[i]
    refine At.drawE ((Bks.cons hB.blk (Bks.cons hB'.blk Bks.nil))) [] mixed rfl rfl ?_
    refine RegD.tpur (i := 0) rfl rfl rfl rfl (by kernel_rfl) (Pur.mv rfl) ?_
    refine RegD.tpur (i := 1) rfl rfl rfl rfl (by kernel_rfl) (Pur.mv rfl) ?_
    refine RegD.tpur (i := 2) rfl rfl rfl rfl (by kernel_rfl) (Pur.idx _ es53 rfl rfl (by omega) (by omega)) ?_
    refine RegD.take (i := 3) rfl rfl rfl rfl (by kernel_rfl) (Bks.cons hB.blk (Bks.cons hB'.blk Bks.nil)) (fun H hS => Lod.ldn ag65 rfl hS.hd hd h9) ?_
    refine RegD.tpur (i := 4) rfl rfl rfl rfl (by kernel_rfl) (Pur.mv rfl) ?_
    refine RegD.tpur (i := 5) rfl rfl rfl rfl (by kernel_rfl) (Pur.mv rfl) ?_
    refine RegD.tpur (i := 6) rfl rfl rfl rfl (by kernel_rfl) (Pur.idx _ es53 rfl rfl (by omega) (by omega)) ?_
    refine RegD.take (i := 7) rfl rfl rfl rfl (by kernel_rfl) (Bks.cons hB.blk (Bks.cons hB'.blk Bks.nil)) (fun H hS => Lod.ldn ag65 rfl hS.tl.hd hd' h9') ?_
    refine RegD.tpur (i := 8) rfl rfl rfl rfl (by kernel_rfl) (Pur.neA eqt65 rfl rfl hf hf') ?_
    refine RegD.done (by kernel_rfl) ?_
    refine At.cond rfl rfl (fun q24 => ?_) (fun q24 => ?_)
    · first | (simp only [decide_eq_true_eq, decide_eq_false_iff_not, Bool.not_eq_true', Bool.not_eq_false', ne_eq, Decidable.not_not, Bool.not_eq_true, Bool.not_eq_false] at q24) | (dsimp only at q24) | skip
      refine At.region rfl rfl ?_
      refine Reg.pur rfl rfl rfl rfl (Pur.asg rfl) ?_
      refine Reg.nil ?_
      refine At.ret rfl Tryd.func102 rfl ?_
      refine ⟨congrArg Value.bool (decide_eq_false (fun h => ?_)).symm, rfl⟩
      subst h
      rw [hq] at q24
      simp at q24
    first | (simp only [decide_eq_true_eq, decide_eq_false_iff_not, Bool.not_eq_true', Bool.not_eq_false', ne_eq, Decidable.not_not, Bool.not_eq_true, Bool.not_eq_false] at q24) | (dsimp only at q24) | skip
    refine At.region rfl rfl ?_
    first | refine Reg.pur rfl rfl rfl rfl (Pur.add64 rfl rfl (by omega)) ?_ | refine Reg.pur rfl rfl rfl rfl (Pur.add64 rfl rfl (by assumption)) ?_ | refine Reg.pur rfl rfl rfl rfl (Pur.add rfl rfl) ?_
    refine Reg.pur rfl rfl rfl rfl (Pur.mv rfl) ?_
    refine Reg.nil ?_
    rw [hq] at q24
    have hq1 : L[i] = L'[i] := by simpa using q24
    exact At.meets rfl (ih (i + 1) _ ⟨by omega, by rw [List.take_succ_eq_append_getElem hlt, List.take_succ_eq_append_getElem hlt', hgo, hq1], rfl⟩ (by omega)) ⟨rfl, rfl, rfl, rfl, trivial⟩
  first | (simp only [decide_eq_true_eq, decide_eq_false_iff_not, Bool.not_eq_true', Bool.not_eq_false', ne_eq, Decidable.not_not, Bool.not_eq_true, Bool.not_eq_false] at q14) | (dsimp only at q14) | skip
  refine At.region rfl rfl ?_
  refine Reg.pur rfl rfl rfl rfl (Pur.asg rfl) ?_
  refine Reg.nil ?_
  refine At.ret rfl Tryd.func102 rfl ?_
  rw [List.take_of_length_le (by omega), List.take_of_length_le (by omega)] at hgo
  exact ⟨congrArg Value.bool (decide_eq_true hgo).symm, rfl⟩
theorem same_ok {A A' : Option Addr} {cap cap' yb yo zb zo : Nat} {cy cz : List Value} {L L' : List (List Int)} (hL : Nine L) (hL' : Nine L') (hcy : cy[yo]? = some (.slice A L.length cap)) (hcz : cz[zo]? = some (.slice A' L'.length cap')) {H : Heap} (hY : Blk H yb cy) (hZ : Blk H zb cz)
    (hS : SlT H Is 9 (.slice A L.length cap) L) (hS' : SlT H Is 9 (.slice A' L'.length cap') L') (hm : L.length ≤ 9223372036854775807) :
    Ret Tryd.prog 78 [ptr yb yo, ptr zb zo] H (fun v H' => v = .bool (decide (L = L')) ∧ H' = H) := by
  refine Ret.of_at (N := 14) Tryd.call78 Tryd.func78 rfl rfl rfl ?_
  have hE := Ext.refl H

  refine At.region rfl rfl ?_
  refine Reg.pur rfl rfl rfl rfl (Pur.asg rfl) ?_
  refine Reg.nil ?_
  refine At.drawE ((Bks.cons hY.blk (Bks.cons hZ.blk Bks.nil))) [8] mixed rfl rfl ?_
  refine RegD.tpur (i := 0) rfl rfl rfl rfl (by kernel_rfl) (Pur.mv rfl) ?_
  refine RegD.tpur (i := 1) rfl rfl rfl rfl (by kernel_rfl) (Pur.nilc rfl) ?_
  refine RegD.tpur (i := 2) rfl rfl rfl rfl (by kernel_rfl) (Pur.fld _ fo55_0 rfl) ?_
  refine RegD.take (i := 3) rfl rfl rfl rfl (by kernel_rfl) (Bks.cons hY.blk (Bks.cons hZ.blk Bks.nil)) (fun H hS => Lod.ld sc53 rfl hS.hd hcy) ?_
  refine RegD.tpur (i := 4) rfl rfl rfl rfl (by kernel_rfl) (Pur.mv rfl) ?_
  refine RegD.tpur (i := 5) rfl rfl rfl rfl (by kernel_rfl) (Pur.nilc rfl) ?_
  refine RegD.tpur (i := 6) rfl rfl rfl rfl (by kernel_rfl) (Pur.fld _ fo55_0 rfl) ?_
  refine RegD.take (i := 7) rfl rfl rfl rfl (by kernel_rfl) (Bks.cons hY.blk (Bks.cons hZ.blk Bks.nil)) (fun H hS => Lod.ld sc53 rfl hS.tl.hd hcz) ?_
  refine RegD.one (i := 8) (by kernel_rfl) rfl rfl rfl rfl (Does.call rfl (eqN_ok hL hL' hS hS' hm)) ?_
  rintro _ H ⟨rfl, rfl⟩
  refine ⟨fun h => (by cases h), ?_⟩
  refine RegD.tpur (i := 9) rfl rfl rfl rfl (by kernel_rfl) (Pur.asg rfl) ?_
  refine RegD.done (by kernel_rfl) ?_
  refine At.ret rfl Tryd.func78 rfl ?_
  exact ⟨rfl, rfl⟩
end Go.Proofs.YtlfillhffpiffaaDoor

namespace Go.Proofs.YtlfillhffpiffaaDoor
set_option linter.unusedSimpArgs false
set_option linter.unusedVariables false
set_option maxRecDepth 8000
set_option maxHeartbeats 1000000
open Go Go.Fx Go.Proofs
namespace FactsUniNC
theorem ag22 : ag Tryd.prog 22 = some 4 := by kernel_rfl
theorem ag24 : ag Tryd.prog 24 = some 5 := by kernel_rfl
theorem arr1_22 : arr1 Tryd.prog 22 = some 4 := by kernel_rfl
theorem arr22 : arr Tryd.prog 22 = some (4, 1) := by kernel_rfl
theorem eqt24 : eqT Tryd.prog 24 = some [.int .i64, .int .i64, .int .i64, .int .i64, .int .i64] := by kernel_rfl
theorem fo100_1 : foff Tryd.prog 100 1 = some 1 := by kernel_rfl
theorem fo24_0 : foff Tryd.prog 24 0 = some 0 := by kernel_rfl
theorem fo24_1 : foff Tryd.prog 24 1 = some 4 := by kernel_rfl
theorem mixed : Tryd.prog.follows .mixedOrders = true := by kernel_rfl
theorem pl24 : places Tryd.prog 24 = some [(0, 4), (4, 1)] := by kernel_rfl
theorem sc3 : sc Tryd.prog 3 = true := by kernel_rfl
theorem sc98 : sc Tryd.prog 98 = true := by kernel_rfl
theorem zc24 : zc Tryd.prog 24 = some [.int .i64 0, .int .i64 0, .int .i64 0, .int .i64 0, .int .i64 0] := by kernel_rfl
end FactsUniNC
open FactsUniNC

theorem zv_row : zv Tryd.prog 24 = some (.agg (Is [0, 0, 0, 0, 0]).toArray) := by kernel_rfl
def rst (g s : List Int) (k : Nat) : List Int := dfS g s k ++ [s.getD 4 0]
theorem rst_len (g s : List Int) (k : Nat) : (rst g s k).length = 5 := rfl
theorem rst_all (g s : List Int) : rst g s 4 = dfR g s := rfl
theorem rst_set (g s : List Int) {k : Nat} (h : k < 4) : (rst g s k).set k (s.getD k 0 - g.getD k 0) = rst g s (k + 1) := by
  unfold rst
  rw [List.set_append_left _ _ (by rw [dfS_len]; exact h), dfS_set g s h]
theorem rst_at (g s : List Int) {k : Nat} (h : k < 4) : (rst g s (k + 1)).getD k 0 = s.getD k 0 - g.getD k 0 := by
  have h1 := dfS_at g s h
  unfold rst
  rw [List.getD_eq_getElem?_getD, List.getElem?_append_left (by rw [dfS_len]; exact h), ← List.getD_eq_getElem?_getD, h1]
theorem neg_of {g s : List Int} {i : Nat} (hi : i < 4) (h : s.getD i 0 - g.getD i 0 < 0) : posR (dfR g s) = false := by
  unfold posR dfR
  rw [decide_eq_false_iff_not]
  simp only [List.getD_cons_zero, List.getD_cons_succ]
  match i, hi with
  | 0, _ => omega
  | 1, _ => omega
  | 2, _ => omega
  | 3, _ => omega
theorem df_none {g s : List Int} (hg5 : g.length = 5) (hs5 : s.length = 5) (h4 : g.getD 4 0 = -1) : dfR g s = [0, 0, 0, 0, -1] ↔ g = s := by
  obtain ⟨a, b, c, d, e, rfl⟩ := row_five hg5
  obtain ⟨a', b', c', d', e', rfl⟩ := row_five hs5
  have h4' : e = -1 := h4
  subst h4'
  simp only [dfR, List.getD_cons_zero, List.getD_cons_succ, List.cons.injEq, and_true]
  omega
def RwM (f : Int → Option Value) (M : List Bt) : Prop := (∀ v, f v = (findR M v).map (fun d => Value.agg (Is d).toArray)) ∧ ∀ v d, findR M v = some d → d.length = 5
theorem rw_upd {f : Int → Option Value} {M M' : List Bt} {g s : List Int} (h : RwM f M) (hp : ¬ posR (dfR g s) = false) (ht : ¬ g.getD 4 0 < 0) (e : instR M g s = some M') :
    RwM (fun j => if j = g.getD 4 0 then some (.agg (Is (rst g s 4)).toArray) else f j) M' := by
  unfold instR at e
  rw [if_neg hp, if_neg ht] at e
  cases hf : findR M (g.getD 4 0) with
  | none =>
    rw [hf] at e
    cases e
    have key : ∀ v, findR (M ++ [.r (g.getD 4 0) (dfR g s)]) v = if v = g.getD 4 0 then some (dfR g s) else findR M v := by
      intro v
      rw [findR_app]
      by_cases hv : v = g.getD 4 0
      · rw [if_pos hv, hv, hf]
        simp [findR]
      · rw [if_neg hv]
        cases findR M v with
        | some u => rfl
        | none => simp only [findR]; rw [if_neg (fun e => hv e.symm)]
    refine ⟨fun v => ?_, fun v d hd => ?_⟩
    · rw [key v, rst_all]
      show (if v = g.getD 4 0 then _ else _) = _
      by_cases hv : v = g.getD 4 0
      · rw [if_pos hv, if_pos hv]; rfl
      · rw [if_neg hv, if_neg hv]; exact h.1 v
    · rw [key v] at hd
      split at hd
      · cases hd; rfl
      · exact h.2 v d hd
  | some d =>
    rw [hf] at e
    dsimp only at e
    split at e
    · rename_i hd
      cases e
      refine ⟨fun v => ?_, h.2⟩
      show (if v = g.getD 4 0 then _ else _) = _
      by_cases hv : v = g.getD 4 0
      · rw [if_pos hv, hv, hf, rst_all, hd]; rfl
      · rw [if_neg hv]; exact h.1 v
    · cases e
theorem mrowG_ok {H : Heap} {mb b1 b2 gb go sb so : Nat} {cg cs : List Value} {f1 f2 : Int → Option Value} {M : List Bt} {g s : List Int} (hg5 : g.length = 5) (hg : rowM g = true) (hs5 : s.length = 5) (hs : rowM s = true)
    (om : Own H mb [.map (some b1), .map (some b2)]) (hM1 : Mp H b1 f1) (hM2 : Mp H b2 f2) (h12 : b1 ≠ b2) (hR : RwM f2 M) (hG : Blk H gb cg) (hcg : (cg.drop go).take 5 = Is g) (hZ : Blk H sb cs) (hcs : (cs.drop so).take 5 = Is s) :
    Ret Tryd.prog 80 [ptr mb 0, ptr gb go, ptr sb so] H (fun v H' => v = .bool (instR M g s).isSome ∧ ∃ f2', (∀ M', instR M g s = some M' → RwM f2' M') ∧ Mp H' b1 f1 ∧ Mp H' b2 f2' ∧ Chg b1 b2 H H') := by
  have zG := hG.lt
  have zZ := hZ.lt
  have zM := om.lt
  have z1 := hM1.lt
  have z2 := hM2.lt
  have n1 := hM1.ne hG
  have n2 := hM2.ne hG
  have n3 := hM1.ne hZ
  have n4 := hM2.ne hZ
  have n5 := hM1.ne om.blk
  have n6 := hM2.ne om.blk
  have hC : Chg b1 b2 H H := Chg.refl
  have ag := fun i (hi : i < 4) => rowM_all hg hi hg5
  have aS' := fun i (hi : i < 4) => rowM_all hs hi hs5
  have at4 := rowM_t hg
  have hgt : ∀ {j : Nat}, j < 5 → cg[go + j]? = some (I (g.getD j 0)) := fun hj => at_tk hcg hj (at_Is (by omega))
  have hst : ∀ {j : Nat}, j < 5 → cs[so + j]? = some (I (s.getD j 0)) := fun hj => at_tk hcs hj (at_Is (by omega))
  refine Ret.of_at (N := 78) Tryd.call80 Tryd.func80 rfl rfl rfl ?_
  have hE := Ext.refl H
  have z_hC := hC.lt
  have z_om := om.lt
  have z_hM1 := hM1.lt
  have z_hM2 := hM2.lt
  have z_hG := hG.lt
  have z_hZ := hZ.lt
  refine At.region rfl rfl ?_
  refine Reg.pur rfl rfl rfl rfl (Pur.asg rfl) ?_
  refine Reg.nil ?_
  refine At.region rfl rfl ?_
  refine Reg.pur rfl rfl rfl rfl (Pur.mv rfl) ?_
  refine Reg.pur rfl rfl rfl rfl (Pur.nilc rfl) ?_
  refine Reg.pur rfl rfl rfl rfl (Pur.fld _ fo24_1 rfl) ?_
  refine Reg.lod rfl rfl rfl rfl (Lod.ld sc3 rfl hZ (hst (j := 4) (by omega))) ?_
  refine Reg.pur rfl rfl rfl rfl (Pur.bld (cs := [_, _, _, _, _]) pl24 zc24 rfl rfl ⟨rfl, rfl, rfl, rfl, rfl, rfl⟩) ?_
  refine Reg.op rfl rfl rfl rfl (Does.alloc zc24) ?_
  rintro _ H1_5 ⟨rfl, hn1_5⟩
  have z1_5 := hn1_5.size
  replace hC := hC.ext hn1_5.ext
  replace om := om.ext hn1_5.ext
  replace hM1 := hM1.ext hn1_5.ext
  replace hM2 := hM2.ext hn1_5.ext
  replace hG := hG.ext hn1_5.ext
  replace hZ := hZ.ext hn1_5.ext
  have o1_5 := hn1_5.own
  refine Reg.op0 rfl rfl rfl (Does.stn ag24 rfl rfl (by first | rfl | exact ones_Is _) (by first | rfl | (simp [*]; done)) o1_5 (by first | decide | (simp; done) | (simp; omega) | omega)) ?_
  rintro _ H1_6 hu1_6
  have z1_6 := hu1_6.size
  replace hC := hC.upw hu1_6 (by omega)
  replace om := om.upw hu1_6 (by omega)
  replace hM1 := hM1.upw hu1_6 (by omega)
  replace hM2 := hM2.upw hu1_6 (by omega)
  replace hG := hG.upw hu1_6 (by omega)
  replace hZ := hZ.upw hu1_6 (by omega)
  replace o1_5 := hu1_6.own
  first | rw [over (by first | rfl | (simp; done))] at o1_5 | skip
  refine Reg.nil ?_

  have od : Own H1_6 H.size (Is (rst g s 0)) := o1_5
  have z_od := od.lt
  refine At.region rfl rfl ?_
  refine Reg.pur rfl rfl rfl rfl (Pur.mv rfl) ?_
  refine Reg.pur rfl rfl rfl rfl (Pur.nilc rfl) ?_
  refine Reg.pur rfl rfl rfl rfl (Pur.fld _ fo24_0 rfl) ?_
  refine Reg.lod rfl rfl rfl rfl (Lod.ldn ag22 rfl hG (show _ = Is (g.take 4) by rw [Nat.add_zero]; have h9 := congrArg (List.take 4) hcg; rw [List.take_take] at h9; rw [show min 4 5 = 4 from rfl] at h9; rw [h9]; simp [Is, List.map_take]) (by simp [Is]; omega)) ?_
  refine Reg.pur rfl rfl rfl rfl (Pur.mv rfl) ?_
  refine Reg.nil ?_
  have h4 : (g.take 4).length = 4 := by simp; omega
  refine At.loop (σ := Nat) (fun i => [(21, I i), (20, .agg (Is (g.take 4)).toArray), (7, ptr H.size 0), (0, ptr mb 0), (1, ptr gb go), (2, ptr sb so)]) (fun i H' => i ≤ 4 ∧ Chg b1 b2 H H' ∧ Own H' mb [.map (some b1), .map (some b2)] ∧ Mp H' b1 f1 ∧ Mp H' b2 f2 ∧ Blk H' gb cg ∧ Blk H' sb cs ∧ Own H' H.size (Is (rst g s i)) ∧ posTo g s i = true) (fun i => 4 - i) 0 rfl ⟨rfl, rfl, rfl, rfl, rfl, rfl, trivial⟩ ⟨by omega, hC, om, hM1, hM2, hG, hZ, od, rfl⟩ ?_
  clear hC om hM1 hM2 hG hZ od
  rintro i H2 ⟨hi, hC, om, hM1, hM2, hG, hZ, od, hpo⟩ ih
  have z_hC := hC.lt
  have z_om := om.lt
  have z_hM1 := hM1.lt
  have z_hM2 := hM2.lt
  have z_hG := hG.lt
  have z_hZ := hZ.lt
  have z_od := od.lt
  refine At.region rfl rfl ?_
  refine Reg.pur rfl rfl rfl rfl (Pur.lss rfl rfl) ?_
  refine Reg.nil ?_
  refine At.cond rfl rfl (fun q22 => ?_) (fun q22 => ?_)
  · first | (simp only [decide_eq_true_eq, decide_eq_false_iff_not, Bool.not_eq_true', Bool.not_eq_false', ne_eq, Decidable.not_not, Bool.not_eq_true, Bool.not_eq_false] at q22) | (dsimp only at q22) | skip
    have hlt : i < (g.take 4).length := by omega
    have hat := take4_at hg5 (i := i) (by omega)
    have hai : (Is (g.take 4))[(i : Int).toNat]? = some (I (g.getD i 0)) := by
      have : (Is (g.take 4))[i]? = some (I (g.take 4)[i]) := by simp only [Is, List.getElem?_map, List.getElem?_eq_getElem hlt, Option.map_some]
      rw [hat] at this
      exact this
    have hi4 : i < 4 := by omega
    have hg1 := ag i hi4
    have hs1 := aS' i hi4
    refine At.region rfl rfl ?_
    refine Reg.pur rfl rfl rfl rfl (Pur.mv rfl) ?_
    refine Reg.pur rfl rfl rfl rfl (Pur.ixA arr1_22 rfl rfl (by omega) (by omega) hai) ?_
    refine Reg.pur rfl rfl rfl rfl (Pur.asg rfl) ?_
    refine Reg.pur rfl rfl rfl rfl (Pur.asg rfl) ?_
    refine Reg.nil ?_
    refine At.region rfl rfl ?_
    refine Reg.pur rfl rfl rfl rfl (Pur.mv rfl) ?_
    refine Reg.pur rfl rfl rfl rfl (Pur.mv rfl) ?_
    refine Reg.pur rfl rfl rfl rfl (Pur.mv rfl) ?_
    refine Reg.pur rfl rfl rfl rfl (Pur.nilc rfl) ?_
    refine Reg.pur rfl rfl rfl rfl (Pur.fld _ fo24_0 rfl) ?_
    refine Reg.pur rfl rfl rfl rfl (Pur.idxP arr22 rfl rfl (by omega) (by omega)) ?_
    refine Reg.lod rfl rfl rfl rfl (Lod.ld sc3 rfl hZ (show _ = some (I (s.getD i 0)) by rw [show so + 0 + (i : Int).toNat * 1 = so + i by omega]; exact hst (by omega))) ?_
    refine Reg.pur rfl rfl rfl rfl (Pur.mv rfl) ?_
    first | refine Reg.pur rfl rfl rfl rfl (Pur.sub64 rfl rfl (by omega)) ?_ | refine Reg.pur rfl rfl rfl rfl (Pur.sub64 rfl rfl (by assumption)) ?_ | refine Reg.pur rfl rfl rfl rfl (Pur.sub rfl rfl) ?_
    refine Reg.pur rfl rfl rfl rfl (Pur.fld _ fo24_0 rfl) ?_
    refine Reg.pur rfl rfl rfl rfl (Pur.idxP arr22 rfl rfl (by omega) (by omega)) ?_
    refine Reg.op0 rfl rfl rfl (Does.st sc3 rfl rfl rfl od (by simp [rst_len]; omega)) ?_
    rintro _ H5_11 hu5_11
    have z5_11 := hu5_11.size
    replace hC := hC.upw hu5_11 (by omega)
    replace om := om.upw hu5_11 (by omega)
    replace hM1 := hM1.upw hu5_11 (by omega)
    replace hM2 := hM2.upw hu5_11 (by omega)
    replace hG := hG.upw hu5_11 (by omega)
    replace hZ := hZ.upw hu5_11 (by omega)
    replace od := hu5_11.own
    replace od := od.of (c' := Is (rst g s (i + 1))) (by rw [← rst_set g s hi4, show 0 + 0 + (i : Int).toNat * 1 = i by omega]; simp [Is, List.map_set])
    refine Reg.nil ?_
    refine At.region rfl rfl ?_
    refine Reg.pur rfl rfl rfl rfl (Pur.mv rfl) ?_
    refine Reg.pur rfl rfl rfl rfl (Pur.fld _ fo24_0 rfl) ?_
    refine Reg.pur rfl rfl rfl rfl (Pur.idxP arr22 rfl rfl (by omega) (by omega)) ?_
    refine Reg.lod rfl rfl rfl rfl (Lod.ld sc3 rfl od.blk (show _ = some (I ((rst g s (i + 1)).getD i 0)) by rw [show 0 + 0 + (i : Int).toNat * 1 = i by omega]; exact at_Is (by rw [rst_len]; omega))) ?_
    refine Reg.pur rfl rfl rfl rfl (Pur.lss rfl rfl) ?_
    refine Reg.nil ?_
    refine At.cond rfl rfl (fun q40 => ?_) (fun q40 => ?_)
    · first | (simp only [decide_eq_true_eq, decide_eq_false_iff_not, Bool.not_eq_true', Bool.not_eq_false', ne_eq, Decidable.not_not, Bool.not_eq_true, Bool.not_eq_false] at q40) | (dsimp only at q40) | skip
      refine At.region rfl rfl ?_
      refine Reg.pur rfl rfl rfl rfl (Pur.asg rfl) ?_
      refine Reg.nil ?_
      refine At.ret rfl Tryd.func80 rfl ?_
      have hne : instR M g s = none := by unfold instR; rw [if_pos (neg_of hi4 (by rw [rst_at g s hi4] at q40; exact q40))]
      exact ⟨by rw [hne]; rfl, f2, (fun M' h => by rw [hne] at h; cases h), hM1, hM2, hC⟩
    first | (simp only [decide_eq_true_eq, decide_eq_false_iff_not, Bool.not_eq_true', Bool.not_eq_false', ne_eq, Decidable.not_not, Bool.not_eq_true, Bool.not_eq_false] at q40) | (dsimp only at q40) | skip
    refine At.region rfl rfl ?_
    first | refine Reg.pur rfl rfl rfl rfl (Pur.add64 rfl rfl (by omega)) ?_ | refine Reg.pur rfl rfl rfl rfl (Pur.add64 rfl rfl (by assumption)) ?_ | refine Reg.pur rfl rfl rfl rfl (Pur.add rfl rfl) ?_
    refine Reg.pur rfl rfl rfl rfl (Pur.mv rfl) ?_
    refine Reg.nil ?_
    have hps := posTo_succ g s i
    rw [rst_at g s hi4] at q40
    exact At.meets rfl (ih (i + 1) _ ⟨by omega, hC, om, hM1, hM2, hG, hZ, od, by rw [hps, hpo, decide_eq_true (by omega)]; rfl⟩ (by omega)) ⟨rfl, rfl, rfl, rfl, rfl, rfl, trivial⟩
  first | (simp only [decide_eq_true_eq, decide_eq_false_iff_not, Bool.not_eq_true', Bool.not_eq_false', ne_eq, Decidable.not_not, Bool.not_eq_true, Bool.not_eq_false] at q22) | (dsimp only at q22) | skip
  obtain rfl : i = 4 := by omega
  rw [posTo_all] at hpo
  have hpn : ¬ posR (dfR g s) = false := by rw [hpo]; decide
  clear ih
  refine At.region rfl rfl ?_
  refine Reg.pur rfl rfl rfl rfl (Pur.mv rfl) ?_
  refine Reg.pur rfl rfl rfl rfl (Pur.nilc rfl) ?_
  refine Reg.pur rfl rfl rfl rfl (Pur.fld _ fo24_1 rfl) ?_
  refine Reg.lod rfl rfl rfl rfl (Lod.ld sc3 rfl hG (hgt (j := 4) (by omega))) ?_
  refine Reg.pur rfl rfl rfl rfl (Pur.eql rfl rfl) ?_
  refine Reg.nil ?_
  refine At.cond rfl rfl (fun q46 => ?_) (fun q46 => ?_)
  · first | (simp only [decide_eq_true_eq, decide_eq_false_iff_not, Bool.not_eq_true', Bool.not_eq_false', ne_eq, Decidable.not_not, Bool.not_eq_true, Bool.not_eq_false] at q46) | (dsimp only at q46) | skip
    have hfr := fks_ints .i64 (rst g s 4)
    have hfn := fks_ints .i64 [0, 0, 0, 0, -1]
    have hei := eqs_ints .i64 (rst g s 4) [0, 0, 0, 0, -1]
    refine At.region rfl rfl ?_
    refine Reg.lod rfl rfl rfl rfl (Lod.ldn ag24 rfl od.blk (whole rfl) rfl) ?_
    refine Reg.pur rfl rfl rfl rfl (Pur.bld (cs := [_, _, _, _, _]) pl24 zc24 rfl rfl ⟨rfl, rfl, rfl, rfl, rfl, rfl⟩) ?_
    refine Reg.pur rfl rfl rfl rfl (Pur.eqA eqt24 rfl rfl hfr hfn) ?_
    refine Reg.pur rfl rfl rfl rfl (Pur.asg rfl) ?_
    refine Reg.nil ?_
    refine At.ret rfl Tryd.func80 rfl ?_
    have hio : instR M g s = if g = s then some M else none := by unfold instR; rw [if_neg hpn, if_pos (by omega)]
    have hdn := df_none hg5 hs5 q46
    refine ⟨?_, f2, fun M' hM' => ?_, hM1, hM2, hC⟩
    · refine (congrArg Value.bool hei).trans ?_
      rw [hio, rst_all]
      by_cases h : g = s
      · rw [if_pos h, decide_eq_true (hdn.2 h)]; rfl
      · rw [if_neg h, decide_eq_false (fun e => h (hdn.1 e))]; rfl
    · rw [hio] at hM'; split at hM' <;> cases hM'; exact hR
  first | (simp only [decide_eq_true_eq, decide_eq_false_iff_not, Bool.not_eq_true', Bool.not_eq_false', ne_eq, Decidable.not_not, Bool.not_eq_true, Bool.not_eq_false] at q46) | (dsimp only at q46) | skip
  have hk0 : ¬ g.getD 4 0 < 0 := by omega
  have hd5 : ((findR M (g.getD 4 0)).getD [0, 0, 0, 0, 0]).length = 5 := by cases hf : findR M (g.getD 4 0) with | none => rfl | some d => exact hR.2 _ d hf
  have hv1 : (f2 (g.getD 4 0)).getD (.agg (Is [0, 0, 0, 0, 0]).toArray) = .agg (Is ((findR M (g.getD 4 0)).getD [0, 0, 0, 0, 0])).toArray := by rw [hR.1]; cases findR M (g.getD 4 0) <;> rfl
  have hv2 : (f2 (g.getD 4 0)).isSome = (findR M (g.getD 4 0)).isSome := by rw [hR.1]; cases findR M (g.getD 4 0) <;> rfl
  refine At.drawM ((And.intro (Bks.cons om.blk (Bks.cons hG.blk Bks.nil)) hM2)) [13] mixed rfl rfl ?_
  refine RegD.tpur (i := 0) rfl rfl rfl rfl (by kernel_rfl) (Pur.mv rfl) ?_
  refine RegD.tpur (i := 1) rfl rfl rfl rfl (by kernel_rfl) (Pur.nilc rfl) ?_
  refine RegD.tpur (i := 2) rfl rfl rfl rfl (by kernel_rfl) (Pur.fld _ fo100_1 rfl) ?_
  refine RegD.take (i := 3) rfl rfl rfl rfl (by kernel_rfl) (And.intro (Bks.cons om.blk (Bks.cons hG.blk Bks.nil)) hM2) (fun H hS => Lod.ld sc98 rfl hS.1.hd rfl) ?_
  refine RegD.tpur (i := 4) rfl rfl rfl rfl (by kernel_rfl) (Pur.mv rfl) ?_
  refine RegD.tpur (i := 5) rfl rfl rfl rfl (by kernel_rfl) (Pur.nilc rfl) ?_
  refine RegD.tpur (i := 6) rfl rfl rfl rfl (by kernel_rfl) (Pur.fld _ fo24_1 rfl) ?_
  refine RegD.take (i := 7) rfl rfl rfl rfl (by kernel_rfl) (And.intro (Bks.cons om.blk (Bks.cons hG.blk Bks.nil)) hM2) (fun H hS => Lod.ld sc3 rfl hS.1.tl.hd (hgt (j := 4) (by omega))) ?_
  refine RegD.take (i := 8) rfl rfl rfl rfl (by kernel_rfl) (And.intro (Bks.cons om.blk (Bks.cons hG.blk Bks.nil)) hM2) (fun H hS => Lod.mlk' Tryd.underlying98 Tryd.underlying3 zv_row hv1 hv2 rfl rfl hS.2) ?_
  refine RegD.tpur (i := 9) rfl rfl rfl rfl (by kernel_rfl) (Pur.mv rfl) ?_
  refine RegD.tpur (i := 10) rfl rfl rfl rfl (by kernel_rfl) (Pur.ext rfl rfl) ?_
  refine RegD.tpur (i := 11) rfl rfl rfl rfl (by kernel_rfl) (Pur.ext rfl rfl) ?_
  refine RegD.one (i := 12) (by kernel_rfl) rfl rfl rfl rfl (Does.alloc zc24) ?_
  rintro _ H11_12 ⟨rfl, hn11_12⟩
  have z11_12 := hn11_12.size
  replace hC := hC.ext hn11_12.ext
  replace om := om.ext hn11_12.ext
  replace hM1 := hM1.ext hn11_12.ext
  replace hM2 := hM2.ext hn11_12.ext
  replace hG := hG.ext hn11_12.ext
  replace hZ := hZ.ext hn11_12.ext
  replace od := od.ext hn11_12.ext
  have o11_12 := hn11_12.own
  refine ⟨fun _ _ => (And.intro (Bks.cons om.blk (Bks.cons hG.blk Bks.nil)) hM2), ?_⟩
  refine RegD.one0 (i := 13) (by kernel_rfl) rfl rfl rfl (Does.stn ag24 rfl rfl (ones_Is _) (by rw [List.length_map]; exact hd5) o11_12 (by decide)) ?_
  rintro _ H11_13 hu11_13
  have z11_13 := hu11_13.size
  replace hC := hC.upw hu11_13 (by omega)
  replace om := om.upw hu11_13 (by omega)
  replace hM1 := hM1.upw hu11_13 (by omega)
  replace hM2 := hM2.upw hu11_13 (by omega)
  replace hG := hG.upw hu11_13 (by omega)
  replace hZ := hZ.upw hu11_13 (by omega)
  replace od := od.upw hu11_13 (by omega)
  replace o11_12 := hu11_13.own
  first | rw [over (by first | rfl | (simp; done))] at o11_12 | skip
  refine ⟨fun h => (by cases h), ?_⟩
  refine RegD.tpur (i := 14) rfl rfl rfl rfl (by kernel_rfl) (Pur.asg rfl) ?_
  refine RegD.done (by kernel_rfl) ?_
  refine At.drawE ((Bks.cons om.blk (Bks.cons hG.blk (Bks.cons od.blk Bks.nil)))) [9] mixed rfl rfl ?_
  refine RegD.tpur (i := 0) rfl rfl rfl rfl (by kernel_rfl) (Pur.mv rfl) ?_
  refine RegD.tpur (i := 1) rfl rfl rfl rfl (by kernel_rfl) (Pur.nilc rfl) ?_
  refine RegD.tpur (i := 2) rfl rfl rfl rfl (by kernel_rfl) (Pur.fld _ fo100_1 rfl) ?_
  refine RegD.take (i := 3) rfl rfl rfl rfl (by kernel_rfl) (Bks.cons om.blk (Bks.cons hG.blk (Bks.cons od.blk Bks.nil))) (fun H hS => Lod.ld sc98 rfl hS.hd rfl) ?_
  refine RegD.tpur (i := 4) rfl rfl rfl rfl (by kernel_rfl) (Pur.mv rfl) ?_
  refine RegD.tpur (i := 5) rfl rfl rfl rfl (by kernel_rfl) (Pur.nilc rfl) ?_
  refine RegD.tpur (i := 6) rfl rfl rfl rfl (by kernel_rfl) (Pur.fld _ fo24_1 rfl) ?_
  refine RegD.take (i := 7) rfl rfl rfl rfl (by kernel_rfl) (Bks.cons om.blk (Bks.cons hG.blk (Bks.cons od.blk Bks.nil))) (fun H hS => Lod.ld sc3 rfl hS.tl.hd (hgt (j := 4) (by omega))) ?_
  refine RegD.take (i := 8) rfl rfl rfl rfl (by kernel_rfl) (Bks.cons om.blk (Bks.cons hG.blk (Bks.cons od.blk Bks.nil))) (fun H hS => Lod.ldn ag24 rfl hS.tl.tl.hd (whole rfl) rfl) ?_

  refine RegD.one0 (i := 9) (by kernel_rfl) rfl rfl rfl (Does.mup Tryd.underlying98 Tryd.underlying3 rfl rfl rfl hM2) ?_
  rintro _ H12_9 ⟨hm12_9, hbut12_9, hsz12_9⟩
  have z12_9 := hbut12_9.lt
  replace hC := hC.via hbut12_9 (by first | omega | (intro g; omega) | (intro g hg; omega) | (intro g hg h; omega))
  replace om := om.via hbut12_9 (by first | omega | (intro g; omega) | (intro g hg; omega) | (intro g hg h; omega))
  replace hM1 := hM1.via hbut12_9 (by first | omega | (intro g; omega) | (intro g hg; omega) | (intro g hg h; omega))
  replace hG := hG.via hbut12_9 (by first | omega | (intro g; omega) | (intro g hg; omega) | (intro g hg h; omega))
  replace hZ := hZ.via hbut12_9 (by first | omega | (intro g; omega) | (intro g hg; omega) | (intro g hg h; omega))
  replace od := od.via hbut12_9 (by first | omega | (intro g; omega) | (intro g hg; omega) | (intro g hg h; omega))
  replace o11_12 := o11_12.via hbut12_9 (by first | omega | (intro g; omega) | (intro g hg; omega) | (intro g hg h; omega))
  refine ⟨fun h => (by cases h), ?_⟩
  refine RegD.done (by kernel_rfl) ?_
  have hfd := fks_ints .i64 ((findR M (g.getD 4 0)).getD [0, 0, 0, 0, 0])
  rw [hd5] at hfd
  have hfr := fks_ints .i64 (rst g s 4)
  have hei := eqs_ints .i64 ((findR M (g.getD 4 0)).getD [0, 0, 0, 0, 0]) (rst g s 4)
  refine At.region rfl rfl ?_
  refine Reg.pur rfl rfl rfl rfl (Pur.mv rfl) ?_
  refine Reg.pur rfl rfl rfl rfl (Pur.not rfl) ?_
  refine Reg.pur rfl rfl rfl rfl (Pur.mv rfl) ?_
  refine Reg.case 73 rfl (fun q73 => ?_) (fun q73 => ?_)
  · first | (simp only [decide_eq_true_eq, decide_eq_false_iff_not, Bool.not_eq_true', Bool.not_eq_false', ne_eq, Decidable.not_not, Bool.not_eq_true, Bool.not_eq_false] at q73) | (dsimp only at q73) | skip
    refine Reg.skip rfl rfl rfl rfl rfl rfl rfl ?_
    refine Reg.skip rfl rfl rfl rfl rfl rfl rfl ?_
    refine Reg.skip rfl rfl rfl rfl rfl rfl rfl ?_
    refine Reg.pur rfl rfl rfl rfl (Pur.pickT rfl rfl) ?_
    refine Reg.pur rfl rfl rfl rfl (Pur.asg rfl) ?_
    refine Reg.nil ?_
    refine At.ret rfl Tryd.func80 rfl ?_
    have hio : instR M g s = match findR M (g.getD 4 0) with | none => some (M ++ [.r (g.getD 4 0) (dfR g s)]) | some d => if d = dfR g s then some M else none := by unfold instR; rw [if_neg hpn, if_neg hk0]; try (cases findR M (g.getD 4 0) <;> rfl)
    refine ⟨?_, _, fun M' hM' => rw_upd hR hpn hk0 hM', hM1, hm12_9, hC⟩
    cases hf : findR M (g.getD 4 0) with
    | none => first | (rw [hf] at q73; cases q73; done) | (rw [hio, hf]; rfl)
    | some d =>
      first
      | (rw [hf] at q73; cases q73; done)
      | (rw [hf] at hei
         refine (congrArg Value.bool hei).trans ?_
         rw [hio, hf, rst_all]
         show Value.bool (decide (d = dfR g s)) = Value.bool (if d = dfR g s then some M else none).isSome
         by_cases h : d = dfR g s
         · rw [if_pos h, decide_eq_true h]; rfl
         · rw [if_neg h, decide_eq_false h]; rfl)
  first | (simp only [decide_eq_true_eq, decide_eq_false_iff_not, Bool.not_eq_true', Bool.not_eq_false', ne_eq, Decidable.not_not, Bool.not_eq_true, Bool.not_eq_false] at q73) | (dsimp only at q73) | skip
  refine Reg.glod rfl rfl rfl rfl rfl rfl (Lod.ldn ag24 rfl o11_12.blk (whole (by rw [List.length_map]; exact hd5)) (by rw [List.length_map]; exact hd5)) ?_
  refine Reg.glod rfl rfl rfl rfl rfl rfl (Lod.ldn ag24 rfl od.blk (whole rfl) rfl) ?_
  refine Reg.gpur rfl rfl rfl rfl rfl rfl (Pur.eqA eqt24 rfl rfl hfd hfr) ?_
  refine Reg.pur rfl rfl rfl rfl (Pur.pickF rfl rfl) ?_
  refine Reg.pur rfl rfl rfl rfl (Pur.asg rfl) ?_
  refine Reg.nil ?_
  refine At.ret rfl Tryd.func80 rfl ?_
  have hio : instR M g s = match findR M (g.getD 4 0) with | none => some (M ++ [.r (g.getD 4 0) (dfR g s)]) | some d => if d = dfR g s then some M else none := by unfold instR; rw [if_neg hpn, if_neg hk0]; try (cases findR M (g.getD 4 0) <;> rfl)
  refine ⟨?_, _, fun M' hM' => rw_upd hR hpn hk0 hM', hM1, hm12_9, hC⟩
  cases hf : findR M (g.getD 4 0) with
  | none => first | (rw [hf] at q73; cases q73; done) | (rw [hio, hf]; rfl)
  | some d =>
    first
    | (rw [hf] at q73; cases q73; done)
    | (rw [hf] at hei
       refine (congrArg Value.bool hei).trans ?_
       rw [hio, hf, rst_all]
       show Value.bool (decide (d = dfR g s)) = Value.bool (if d = dfR g s then some M else none).isSome
       by_cases h : d = dfR g s
       · rw [if_pos h, decide_eq_true h]; rfl
       · rw [if_neg h, decide_eq_false h]; rfl)
end Go.Proofs.YtlfillhffpiffaaDoor

namespace Go.Proofs.YtlfillhffpiffaaDoor
set_option linter.unusedSimpArgs false
set_option linter.unusedVariables false
set_option maxRecDepth 8000
set_option maxHeartbeats 1000000
open Go Go.Fx Go.Proofs
namespace FactsUniZ

end FactsUniZ
open FactsUniZ

theorem enc_inj {t u : Tm} (ht : t.ok) (hu : u.ok) (htz : t.sz ≤ 256) (h : t.enc 0 = u.enc 0) : t = u := by
  suffices key : ∀ (t u : Tm) (k : Int), t.ok → u.ok → t.enc k = u.enc k → t = u from key t u 0 ht hu h
  intro t
  induction t with
  | bas k =>
    intro u j _ _ h
    cases u with
    | bas l => cases k <;> cases l <;> first | rfl | (simp [Tm.enc] at h)
    | var v => cases k <;> simp [Tm.enc] at h
    | fn a r b =>
      have := congrArg List.length h
      rw [Tm.enc_len, Tm.enc_len] at this
      have := a.sz_pos; have := b.sz_pos
      simp only [Tm.sz] at *; omega
  | var v =>
    intro u j _ _ h
    cases u with
    | bas l => cases l <;> simp [Tm.enc] at h
    | var w => simp [Tm.enc] at h; rw [h]
    | fn a r b =>
      have := congrArg List.length h
      rw [Tm.enc_len, Tm.enc_len] at this
      have := a.sz_pos; have := b.sz_pos
      simp only [Tm.sz] at *; omega
  | fn a r b iha ihb =>
    intro u j ht hu h
    cases u with
    | bas l =>
      have := congrArg List.length h
      rw [Tm.enc_len, Tm.enc_len] at this
      have := a.sz_pos; have := b.sz_pos
      simp only [Tm.sz] at *; omega
    | var w =>
      have := congrArg List.length h
      rw [Tm.enc_len, Tm.enc_len] at this
      have := a.sz_pos; have := b.sz_pos
      simp only [Tm.sz] at *; omega
    | fn a' r' b' =>
      simp only [Tm.enc] at h
      have hlen := congrArg List.length h
      simp only [List.length_append, Tm.enc_len, List.length_singleton] at hlen
      have h2 := List.append_inj_right' h rfl
      have h1 := List.append_inj_left' h rfl
      simp only [List.cons.injEq, and_true, List.cons_append, List.nil_append] at h2
      have hsz : a.sz = a'.sz := by have := h2.2.2.1; omega
      have e1 := List.append_inj_left h1 (by rw [Tm.enc_len, Tm.enc_len, hsz])
      have e2 := List.append_inj_right h1 (by rw [Tm.enc_len, Tm.enc_len, hsz])
      rw [← hsz] at e2
      rw [iha a' j ht.1 hu.1 e1, ihb b' _ ht.2.2.2 hu.2.2.2 e2, h2.2.2.2.2]
end Go.Proofs.YtlfillhffpiffaaDoor

namespace Go.Proofs.YtlfillhffpiffaaDoor
set_option linter.unusedSimpArgs false
set_option linter.unusedVariables false
set_option maxRecDepth 8000
set_option maxHeartbeats 600000
open Go Go.Fx Go.Proofs
namespace FactsUniND
theorem ag55 : ag Tryd.prog 55 = some 1 := by kernel_rfl
theorem fo100_0 : foff Tryd.prog 100 0 = some 0 := by kernel_rfl
theorem fo65_0 : foff Tryd.prog 65 0 = some 0 := by kernel_rfl
theorem fo65_1 : foff Tryd.prog 65 1 = some 1 := by kernel_rfl
theorem fo65_4 : foff Tryd.prog 65 4 = some 4 := by kernel_rfl
theorem mixed : Tryd.prog.follows .mixedOrders = true := by kernel_rfl
theorem sc3 : sc Tryd.prog 3 = true := by kernel_rfl
theorem sc97 : sc Tryd.prog 97 = true := by kernel_rfl
theorem zc55 : zc Tryd.prog 55 = some [.slice none 0 0] := by kernel_rfl
end FactsUniND
open FactsUniND

theorem zv_type : zv Tryd.prog 55 = some (.agg #[.slice none 0 0]) := by kernel_rfl
theorem at0 (v : Value) : ([v] : List Value)[0]? = some v := rfl
theorem one_at {c : List Value} {o : Nat} {v : Value} (h : c[o]? = some v) : (c.drop o).take 1 = [v] := by
  have hl : o < c.length := by
    rcases Nat.lt_or_ge o c.length with h' | h'
    · exact h'
    · rw [List.getElem?_eq_none h'] at h; cases h
  rw [List.drop_eq_getElem_cons hl]
  rw [List.getElem?_eq_getElem hl] at h
  simp at h
  simp [h]
def TyM (H : Heap) (f : Int → Option Value) (M : List Bt) : Prop := ∀ v, (findT M v = none → f v = none) ∧ ∀ t, findT M v = some t → t.ok ∧ t.sz ≤ 256 ∧ ∃ A cap, f v = some (.agg #[.slice A (t.enc 0).length cap]) ∧ SlT H Is 9 (.slice A (t.enc 0).length cap) (t.enc 0)
theorem TyM.chg {b1 b2 : Nat} {H H' : Heap} {f g1 g2 : Int → Option Value} {M : List Bt} (h : TyM H f M) (h1 : Mp H b1 g1) (h2 : Mp H b2 g2) (hC : Chg b1 b2 H H') : TyM H' f M := fun v =>
  ⟨(h v).1, fun t ht => by
    obtain ⟨k1, k2, A, cap, k3, k4⟩ := (h v).2 t ht
    exact ⟨k1, k2, A, cap, k3, sl_but k4 h1 h2 hC⟩⟩
theorem ty_upd {H : Heap} {f : Int → Option Value} {M M' : List Bt} {v : Int} {s : Tm} {A : Option Addr} {cap : Nat} (h : TyM H f M) (hs : SlT H Is 9 (.slice A (s.enc 0).length cap) (s.enc 0)) (ho : s.ok) (hz : s.sz ≤ 256) (e : inst M (.var v) s = some M') :
    TyM H (fun j => if j = v then some (.agg #[.slice A (s.enc 0).length cap]) else f j) M' := by
  have key : ∀ w, findT M' w = if w = v then some s else findT M w := by
    intro w
    cases hf : findT M v with
    | none =>
      simp only [inst, hf] at e
      cases e
      rw [findT_app]
      by_cases hw : w = v
      · rw [if_pos hw, hw, hf]; simp [findT]
      · rw [if_neg hw]
        cases findT M w with
        | some u => rfl
        | none => simp only [findT]; rw [if_neg (fun e => hw e.symm)]
    | some t =>
      simp only [inst, hf] at e
      split at e
      · rename_i ht
        cases e
        by_cases hw : w = v
        · rw [if_pos hw, hw, hf, ht]
        · rw [if_neg hw]
      · cases e
  intro w
  rw [key w]
  by_cases hw : w = v
  · refine ⟨fun h0 => (by rw [if_pos hw] at h0; cases h0), fun t ht => ?_⟩
    rw [if_pos hw] at ht
    cases ht
    exact ⟨ho, hz, A, cap, if_pos hw, hs⟩
  · refine ⟨fun h0 => ?_, fun t ht => ?_⟩
    · rw [if_neg hw] at h0
      exact (if_neg hw).trans ((h w).1 h0)
    · rw [if_neg hw] at ht
      obtain ⟨k1, k2, A', cap', k3, k4⟩ := (h w).2 t ht
      exact ⟨k1, k2, A', cap', (if_neg hw).trans k3, k4⟩
theorem rw_t {f : Int → Option Value} {M M' : List Bt} {v : Int} {s : Tm} (h : RwM f M) (e : inst M (.var v) s = some M') : RwM f M' := by
  have key : ∀ w, findR M' w = findR M w := by
    intro w
    cases hf : findT M v with
    | none =>
      simp only [inst, hf] at e
      cases e
      rw [findR_app]
      cases findR M w with
      | some u => rfl
      | none => rfl
    | some t =>
      simp only [inst, hf] at e
      split at e
      · cases e; rfl
      · cases e
  exact ⟨fun w => by rw [key w]; exact h.1 w, fun w d hd => h.2 w d (by rw [← key w]; exact hd)⟩
theorem ty_r {H : Heap} {f : Int → Option Value} {M M' : List Bt} {g s : List Int} (h : TyM H f M) (e : instR M g s = some M') : TyM H f M' := by
  have key : ∀ w, findT M' w = findT M w := by
    intro w
    unfold instR at e
    split at e
    · cases e
    · split at e
      · split at e
        · cases e; rfl
        · cases e
      · split at e
        · cases e
          rw [findT_app]
          cases findT M w with
          | some u => rfl
          | none => rfl
        · split at e
          · cases e; rfl
          · cases e
  exact fun w => ⟨fun h0 => (h w).1 (by rw [← key w]; exact h0), fun t ht => (h w).2 t (by rw [← key w]; exact ht)⟩
def TyR (b1 b2 : Nat) (H : Heap) (r : Option (List Bt)) (v : Value) (H' : Heap) : Prop := v = .bool r.isSome ∧ ∃ f1' f2', (∀ M', r = some M' → TyM H' f1' M' ∧ RwM f2' M') ∧ Mp H' b1 f1' ∧ Mp H' b2 f2' ∧ Chg b1 b2 H H'
theorem inst_leaf {M : List Bt} {p q : Tm} (h2 : p.lst.getD 0 0 ≠ 2) (h : p.lst.getD 0 0 ≠ q.lst.getD 0 0 ∨ p.lst.getD 0 0 ≠ 3) : inst M p q = if p.lst.getD 0 0 = q.lst.getD 0 0 then some M else none := by
  cases p with
  | var v => exact absurd rfl h2
  | bas k =>
    cases q with
    | bas l => cases k <;> cases l <;> rfl
    | var v => cases k <;> rfl
    | fn a r b => cases k <;> rfl
  | fn a r b =>
    cases q with
    | bas l => cases l <;> rfl
    | var v => rfl
    | fn a' r' b' => exact (h.elim (fun h => absurd rfl h) (fun h => absurd rfl h))
theorem typedG_ok {mb b1 b2 : Nat} (h12 : b1 ≠ b2) : ∀ (n : Nat) (p q : Tm), p.sz ≤ n → p.ok → p.sz ≤ 256 → q.ok → q.sz ≤ 256 → ∀ {H : Heap} {yb yo zb zo cp cq : Nat} {Ap Aq : Option Addr} {cy cz : List Value} {f1 f2 : Int → Option Value} {M : List Bt},
    Own H mb [.map (some b1), .map (some b2)] → Mp H b1 f1 → Mp H b2 f2 → TyM H f1 M → RwM f2 M → Blk H yb cy → cy[yo]? = some (.slice Ap (p.enc 0).length cp) → SlT H Is 9 (.slice Ap (p.enc 0).length cp) (p.enc 0) → Blk H zb cz → cz[zo]? = some (.slice Aq (q.enc 0).length cq) → SlT H Is 9 (.slice Aq (q.enc 0).length cq) (q.enc 0) →
    Ret Tryd.prog 59 [ptr mb 0, ptr yb yo, ptr zb zo] H (TyR b1 b2 H (inst M p q)) := by
  intro n
  induction n with
  | zero => intro p _ h; have := p.sz_pos; omega
  | succ n ihn =>
  intro p q hn hpo hpz hqo hqz H yb yo zb zo cp cq Ap Aq cy cz f1 f2 M om hM1 hM2 hTy hRw hY hcy hS1 hZ hcz hS2
  have hM10 := hM1
  have hM20 := hM2
  have hC : Chg b1 b2 H H := Chg.refl
  have hpn := p.enc_len 0
  have hqn := q.enc_len 0
  have hp1 := p.sz_pos
  have hq1 := q.sz_pos
  obtain ⟨bp, op, kp, rfl, hBp, hdp, hxp, hatp⟩ := el_cells (p.enc_nine 0 hpo) hS1 (z := ((p.enc 0).length : Int) - 1) (by omega) (by omega)
  obtain ⟨bq, oq, kq, rfl, hBq, hdq, hxq, hatq⟩ := el_cells (q.enc_nine 0 hqo) hS2 (z := ((q.enc 0).length : Int) - 1) (by omega) (by omega)
  rw [lst_el, show (((p.enc 0).length : Int) - 1).toNat = (p.enc 0).length - 1 by omega] at hdp hatp
  rw [lst_el, show (((q.enc 0).length : Int) - 1).toNat = (q.enc 0).length - 1 by omega] at hdq hatq
  rw [lst_el] at hxp hxq
  have n1 := hM1.ne hBp
  have n2 := hM2.ne hBp
  have n3 := hM1.ne hBq
  have n4 := hM2.ne hBq
  have n5 := hM1.ne om.blk
  have n6 := hM2.ne om.blk
  have n7 := hM1.ne hZ
  have n8 := hM2.ne hZ
  have n9 := hM1.ne hY
  have n10 := hM2.ne hY
  have z1 := hM1.lt
  have z2 := hM2.lt
  refine Ret.of_at (N := 104) Tryd.call59 Tryd.func59 rfl rfl rfl ?_
  have hE := Ext.refl H
  have z_hC := hC.lt
  have z_om := om.lt
  have z_hM1 := hM1.lt
  have z_hM2 := hM2.lt
  have z_hBp := hBp.lt
  have z_hBq := hBq.lt
  have z_hY := hY.lt
  have z_hZ := hZ.lt
  refine At.region rfl rfl ?_
  refine Reg.pur rfl rfl rfl rfl (Pur.asg rfl) ?_
  refine Reg.nil ?_
  refine At.region rfl rfl ?_
  refine Reg.pur rfl rfl rfl rfl (Pur.mv rfl) ?_
  refine Reg.op rfl rfl rfl rfl (Does.call rfl (root_ok hcy rfl hY (by omega) (by omega))) ?_
  rintro _ H ⟨rfl, rfl⟩
  refine Reg.pur rfl rfl rfl rfl (Pur.mv rfl) ?_
  refine Reg.op rfl rfl rfl rfl (Does.call rfl (root_ok hcz rfl hZ (by omega) (by omega))) ?_
  rintro _ H ⟨rfl, rfl⟩
  refine Reg.pur rfl rfl rfl rfl (Pur.asg rfl) ?_
  refine Reg.pur rfl rfl rfl rfl (Pur.asg rfl) ?_
  refine Reg.nil ?_
  refine At.region rfl rfl ?_
  refine Reg.pur rfl rfl rfl rfl (Pur.mv rfl) ?_
  refine Reg.pur rfl rfl rfl rfl (Pur.nilc rfl) ?_
  refine Reg.pur rfl rfl rfl rfl (Pur.fld _ fo65_0 rfl) ?_
  refine Reg.lod rfl rfl rfl rfl (Lod.ld sc3 rfl hBp (hatp 0 (by decide))) ?_
  refine Reg.pur rfl rfl rfl rfl (Pur.eql rfl rfl) ?_
  refine Reg.nil ?_
  refine At.cond rfl rfl (fun q23 => ?_) (fun q23 => ?_)
  · first | (simp only [decide_eq_true_eq, decide_eq_false_iff_not, Bool.not_eq_true', Bool.not_eq_false', ne_eq, Decidable.not_not, Bool.not_eq_true, Bool.not_eq_false] at q23) | (dsimp only at q23) | skip
    obtain ⟨v, rfl⟩ := lst_var q23
    obtain ⟨Av, lv, cv, hv1, hv2, hv3⟩ : ∃ Av lv cv, (f1 v).getD (.agg #[.slice none 0 0]) = .agg #[.slice Av lv cv] ∧ (f1 v).isSome = (findT M v).isSome ∧ ∀ t, findT M v = some t → t.ok ∧ t.sz ≤ 256 ∧ lv = (t.enc 0).length ∧ SlT H Is 9 (.slice Av lv cv) (t.enc 0) := by
      cases hf : findT M v with
      | none => exact ⟨none, 0, 0, by rw [(hTy v).1 hf]; rfl, by rw [(hTy v).1 hf]; rfl, fun t ht => by cases ht⟩
      | some t =>
        obtain ⟨k1, k2, A, cap, k3, k4⟩ := (hTy v).2 t hf
        exact ⟨A, _, cap, by rw [k3]; rfl, by rw [k3]; rfl, fun t' ht => by cases ht; exact ⟨k1, k2, rfl, k4⟩⟩
    refine At.drawM ((And.intro (Bks.cons om.blk (Bks.cons hBp.blk Bks.nil)) hM1)) [13] mixed rfl rfl ?_
    refine RegD.tpur (i := 0) rfl rfl rfl rfl (by kernel_rfl) (Pur.mv rfl) ?_
    refine RegD.tpur (i := 1) rfl rfl rfl rfl (by kernel_rfl) (Pur.nilc rfl) ?_
    refine RegD.tpur (i := 2) rfl rfl rfl rfl (by kernel_rfl) (Pur.fld _ fo100_0 rfl) ?_
    refine RegD.take (i := 3) rfl rfl rfl rfl (by kernel_rfl) (And.intro (Bks.cons om.blk (Bks.cons hBp.blk Bks.nil)) hM1) (fun H hS => Lod.ld sc97 rfl hS.1.hd rfl) ?_
    refine RegD.tpur (i := 4) rfl rfl rfl rfl (by kernel_rfl) (Pur.mv rfl) ?_
    refine RegD.tpur (i := 5) rfl rfl rfl rfl (by kernel_rfl) (Pur.nilc rfl) ?_
    refine RegD.tpur (i := 6) rfl rfl rfl rfl (by kernel_rfl) (Pur.fld _ fo65_1 rfl) ?_
    refine RegD.take (i := 7) rfl rfl rfl rfl (by kernel_rfl) (And.intro (Bks.cons om.blk (Bks.cons hBp.blk Bks.nil)) hM1) (fun H hS => Lod.ld sc3 rfl hS.1.tl.hd (hatp 1 (by decide))) ?_
    refine RegD.take (i := 8) rfl rfl rfl rfl (by kernel_rfl) (And.intro (Bks.cons om.blk (Bks.cons hBp.blk Bks.nil)) hM1) (fun H hS => Lod.mlk' (k := v) Tryd.underlying97 Tryd.underlying3 zv_type hv1 hv2 rfl rfl hS.2) ?_
    refine RegD.tpur (i := 9) rfl rfl rfl rfl (by kernel_rfl) (Pur.mv rfl) ?_
    refine RegD.tpur (i := 10) rfl rfl rfl rfl (by kernel_rfl) (Pur.ext rfl rfl) ?_
    refine RegD.tpur (i := 11) rfl rfl rfl rfl (by kernel_rfl) (Pur.ext rfl rfl) ?_
    refine RegD.one (i := 12) (by kernel_rfl) rfl rfl rfl rfl (Does.alloc zc55) ?_
    rintro _ H3_12 ⟨rfl, hn3_12⟩
    have z3_12 := hn3_12.size
    replace hC := hC.ext hn3_12.ext
    replace om := om.ext hn3_12.ext
    replace hM1 := hM1.ext hn3_12.ext
    replace hM2 := hM2.ext hn3_12.ext
    replace hBp := hBp.ext hn3_12.ext
    replace hBq := hBq.ext hn3_12.ext
    replace hY := hY.ext hn3_12.ext
    replace hZ := hZ.ext hn3_12.ext
    have o3_12 := hn3_12.own
    refine ⟨fun _ _ => (And.intro (Bks.cons om.blk (Bks.cons hBp.blk Bks.nil)) hM1), ?_⟩
    refine RegD.one0 (i := 13) (by kernel_rfl) rfl rfl rfl (Does.stn ag55 rfl rfl (by first | rfl | exact ones_Is _) (by first | rfl | (simp [*]; done)) o3_12 (by first | decide | (simp; done) | (simp; omega) | omega)) ?_
    rintro _ H3_13 hu3_13
    have z3_13 := hu3_13.size
    replace hC := hC.upw hu3_13 (by omega)
    replace om := om.upw hu3_13 (by omega)
    replace hM1 := hM1.upw hu3_13 (by omega)
    replace hM2 := hM2.upw hu3_13 (by omega)
    replace hBp := hBp.upw hu3_13 (by omega)
    replace hBq := hBq.upw hu3_13 (by omega)
    replace hY := hY.upw hu3_13 (by omega)
    replace hZ := hZ.upw hu3_13 (by omega)
    replace o3_12 := hu3_13.own
    first | rw [over (by first | rfl | (simp; done))] at o3_12 | skip
    refine ⟨fun h => (by cases h), ?_⟩
    refine RegD.tpur (i := 14) rfl rfl rfl rfl (by kernel_rfl) (Pur.asg rfl) ?_
    refine RegD.done (by kernel_rfl) ?_
    refine At.drawE ((Bks.cons om.blk (Bks.cons hBp.blk (Bks.cons hZ.blk Bks.nil)))) [11] mixed rfl rfl ?_
    refine RegD.tpur (i := 0) rfl rfl rfl rfl (by kernel_rfl) (Pur.mv rfl) ?_
    refine RegD.tpur (i := 1) rfl rfl rfl rfl (by kernel_rfl) (Pur.nilc rfl) ?_
    refine RegD.tpur (i := 2) rfl rfl rfl rfl (by kernel_rfl) (Pur.fld _ fo100_0 rfl) ?_
    refine RegD.take (i := 3) rfl rfl rfl rfl (by kernel_rfl) (Bks.cons om.blk (Bks.cons hBp.blk (Bks.cons hZ.blk Bks.nil))) (fun H hS => Lod.ld sc97 rfl hS.hd rfl) ?_
    refine RegD.tpur (i := 4) rfl rfl rfl rfl (by kernel_rfl) (Pur.mv rfl) ?_
    refine RegD.tpur (i := 5) rfl rfl rfl rfl (by kernel_rfl) (Pur.nilc rfl) ?_
    refine RegD.tpur (i := 6) rfl rfl rfl rfl (by kernel_rfl) (Pur.fld _ fo65_1 rfl) ?_
    refine RegD.take (i := 7) rfl rfl rfl rfl (by kernel_rfl) (Bks.cons om.blk (Bks.cons hBp.blk (Bks.cons hZ.blk Bks.nil))) (fun H hS => Lod.ld sc3 rfl hS.tl.hd (hatp 1 (by decide))) ?_
    refine RegD.tpur (i := 8) rfl rfl rfl rfl (by kernel_rfl) (Pur.mv rfl) ?_
    refine RegD.tpur (i := 9) rfl rfl rfl rfl (by kernel_rfl) (Pur.nilc rfl) ?_
    refine RegD.take (i := 10) rfl rfl rfl rfl (by kernel_rfl) (Bks.cons om.blk (Bks.cons hBp.blk (Bks.cons hZ.blk Bks.nil))) (fun H hS => Lod.ldn ag55 rfl hS.tl.tl.hd (one_at hcz) rfl) ?_

    refine RegD.one0 (i := 11) (by kernel_rfl) rfl rfl rfl (Does.mup (k := v) Tryd.underlying97 Tryd.underlying3 rfl rfl rfl hM1) ?_
    rintro _ H4_11 ⟨hm4_11, hbut4_11, hsz4_11⟩
    have z4_11 := hbut4_11.lt
    replace hC := hC.via hbut4_11 (by first | omega | (intro g; omega) | (intro g hg; omega) | (intro g hg h; omega))
    replace om := om.via hbut4_11 (by first | omega | (intro g; omega) | (intro g hg; omega) | (intro g hg h; omega))
    replace hM2 := hM2.via hbut4_11 (by first | omega | (intro g; omega) | (intro g hg; omega) | (intro g hg h; omega))
    replace hBp := hBp.via hbut4_11 (by first | omega | (intro g; omega) | (intro g hg; omega) | (intro g hg h; omega))
    replace hBq := hBq.via hbut4_11 (by first | omega | (intro g; omega) | (intro g hg; omega) | (intro g hg h; omega))
    replace hY := hY.via hbut4_11 (by first | omega | (intro g; omega) | (intro g hg; omega) | (intro g hg h; omega))
    replace hZ := hZ.via hbut4_11 (by first | omega | (intro g; omega) | (intro g hg; omega) | (intro g hg h; omega))
    replace o3_12 := o3_12.via hbut4_11 (by first | omega | (intro g; omega) | (intro g hg; omega) | (intro g hg h; omega))
    refine ⟨fun h => (by cases h), ?_⟩
    refine RegD.done (by kernel_rfl) ?_
    refine At.region rfl rfl ?_
    refine Reg.pur rfl rfl rfl rfl (Pur.mv rfl) ?_
    refine Reg.pur rfl rfl rfl rfl (Pur.not rfl) ?_
    refine Reg.pur rfl rfl rfl rfl (Pur.mv rfl) ?_
    refine Reg.case 49 rfl (fun q49 => ?_) (fun q49 => ?_)
    · first | (simp only [decide_eq_true_eq, decide_eq_false_iff_not, Bool.not_eq_true', Bool.not_eq_false', ne_eq, Decidable.not_not, Bool.not_eq_true, Bool.not_eq_false] at q49) | (dsimp only at q49) | skip
      refine Reg.skip rfl rfl rfl rfl rfl rfl rfl ?_
      refine Reg.skip rfl rfl rfl rfl rfl rfl rfl ?_
      refine Reg.pur rfl rfl rfl rfl (Pur.pickT rfl rfl) ?_
      refine Reg.pur rfl rfl rfl rfl (Pur.asg rfl) ?_
      refine Reg.nil ?_
      refine At.ret rfl Tryd.func59 rfl ?_
      refine ⟨?_, _, f2, fun M' hM' => ⟨ty_upd (hTy.chg hM10 hM20 hC) (sl_but hS2 hM10 hM20 hC) hqo hqz hM', rw_t hRw hM'⟩, hm4_11, hM2, hC⟩
      first
      | (have h0 : findT M v = none := by simpa using q49
         simp only [inst, h0]; rfl)
      | (simp only [inst, hf]
         by_cases h : t = q
         · rw [if_pos h, decide_eq_true (by rw [h])]; rfl
         · rw [if_neg h, decide_eq_false (fun e => h (enc_inj t1 hqo t2 e))]; rfl)
    first | (simp only [decide_eq_true_eq, decide_eq_false_iff_not, Bool.not_eq_true', Bool.not_eq_false', ne_eq, Decidable.not_not, Bool.not_eq_true, Bool.not_eq_false] at q49) | (dsimp only at q49) | skip
    refine Reg.gpur rfl rfl rfl rfl rfl rfl (Pur.mv rfl) ?_
    obtain ⟨t, hf⟩ := Option.isSome_iff_exists.1 q49
    obtain ⟨t1, t2, rfl, t3⟩ := hv3 t hf
    refine Reg.gop rfl rfl rfl rfl rfl rfl (Does.call rfl (same_ok (t.enc_nine 0 t1) (q.enc_nine 0 hqo) rfl hcz o3_12.blk hZ (sl_but t3 hM10 hM20 hC) (sl_but hS2 hM10 hM20 hC) (by rw [Tm.enc_len]; omega))) ?_
    rintro _ H4_11 ⟨rfl, rfl⟩
    refine Reg.pur rfl rfl rfl rfl (Pur.pickF rfl rfl) ?_
    refine Reg.pur rfl rfl rfl rfl (Pur.asg rfl) ?_
    refine Reg.nil ?_
    refine At.ret rfl Tryd.func59 rfl ?_
    refine ⟨?_, _, f2, fun M' hM' => ⟨ty_upd (hTy.chg hM10 hM20 hC) (sl_but hS2 hM10 hM20 hC) hqo hqz hM', rw_t hRw hM'⟩, hm4_11, hM2, hC⟩
    first
    | (have h0 : findT M v = none := by simpa using q49
       simp only [inst, h0]; rfl)
    | (simp only [inst, hf]
       by_cases h : t = q
       · rw [if_pos h, decide_eq_true (by rw [h])]; rfl
       · rw [if_neg h, decide_eq_false (fun e => h (enc_inj t1 hqo t2 e))]; rfl)
  first | (simp only [decide_eq_true_eq, decide_eq_false_iff_not, Bool.not_eq_true', Bool.not_eq_false', ne_eq, Decidable.not_not, Bool.not_eq_true, Bool.not_eq_false] at q23) | (dsimp only at q23) | skip
  refine At.drawE ((Bks.cons hBp.blk (Bks.cons hBq.blk Bks.nil))) [] mixed rfl rfl ?_
  refine RegD.tpur (i := 0) rfl rfl rfl rfl (by kernel_rfl) (Pur.mv rfl) ?_
  refine RegD.tpur (i := 1) rfl rfl rfl rfl (by kernel_rfl) (Pur.nilc rfl) ?_
  refine RegD.tpur (i := 2) rfl rfl rfl rfl (by kernel_rfl) (Pur.fld _ fo65_0 rfl) ?_
  refine RegD.take (i := 3) rfl rfl rfl rfl (by kernel_rfl) (Bks.cons hBp.blk (Bks.cons hBq.blk Bks.nil)) (fun H hS => Lod.ld sc3 rfl hS.hd (hatp 0 (by decide))) ?_
  refine RegD.tpur (i := 4) rfl rfl rfl rfl (by kernel_rfl) (Pur.mv rfl) ?_
  refine RegD.tpur (i := 5) rfl rfl rfl rfl (by kernel_rfl) (Pur.nilc rfl) ?_
  refine RegD.tpur (i := 6) rfl rfl rfl rfl (by kernel_rfl) (Pur.fld _ fo65_0 rfl) ?_
  refine RegD.take (i := 7) rfl rfl rfl rfl (by kernel_rfl) (Bks.cons hBp.blk (Bks.cons hBq.blk Bks.nil)) (fun H hS => Lod.ld sc3 rfl hS.tl.hd (hatq 0 (by decide))) ?_
  refine RegD.tpur (i := 8) rfl rfl rfl rfl (by kernel_rfl) (Pur.neq rfl rfl) ?_
  refine RegD.tpur (i := 9) rfl rfl rfl rfl (by kernel_rfl) (Pur.mv rfl) ?_
  refine RegD.case 62 rfl (fun q62 => ?_) (fun q62 => ?_)
  · first | (simp only [decide_eq_true_eq, decide_eq_false_iff_not, Bool.not_eq_true', Bool.not_eq_false', ne_eq, Decidable.not_not, Bool.not_eq_true, Bool.not_eq_false] at q62) | (dsimp only at q62) | skip
    refine RegD.skip (i := 10) rfl rfl rfl rfl rfl rfl rfl (by kernel_rfl) ?_
    refine RegD.skip (i := 11) rfl rfl rfl rfl rfl rfl rfl (by kernel_rfl) ?_
    refine RegD.skip (i := 12) rfl rfl rfl rfl rfl rfl rfl (by kernel_rfl) ?_
    refine RegD.skip (i := 13) rfl rfl rfl rfl rfl rfl rfl (by kernel_rfl) ?_
    refine RegD.skip (i := 14) rfl rfl rfl rfl rfl rfl rfl (by kernel_rfl) ?_
    refine RegD.tpur (i := 15) rfl rfl rfl rfl (by kernel_rfl) (Pur.pickT rfl rfl) ?_
    refine RegD.done (by kernel_rfl) ?_
    refine At.condT rfl rfl rfl ?_
    refine At.drawE ((Bks.cons hBp.blk (Bks.cons hBq.blk Bks.nil))) [] mixed rfl rfl ?_
    refine RegD.tpur (i := 0) rfl rfl rfl rfl (by kernel_rfl) (Pur.mv rfl) ?_
    refine RegD.tpur (i := 1) rfl rfl rfl rfl (by kernel_rfl) (Pur.nilc rfl) ?_
    refine RegD.tpur (i := 2) rfl rfl rfl rfl (by kernel_rfl) (Pur.fld _ fo65_0 rfl) ?_
    refine RegD.take (i := 3) rfl rfl rfl rfl (by kernel_rfl) (Bks.cons hBp.blk (Bks.cons hBq.blk Bks.nil)) (fun H hS => Lod.ld sc3 rfl hS.hd (hatp 0 (by decide))) ?_
    refine RegD.tpur (i := 4) rfl rfl rfl rfl (by kernel_rfl) (Pur.mv rfl) ?_
    refine RegD.tpur (i := 5) rfl rfl rfl rfl (by kernel_rfl) (Pur.nilc rfl) ?_
    refine RegD.tpur (i := 6) rfl rfl rfl rfl (by kernel_rfl) (Pur.fld _ fo65_0 rfl) ?_
    refine RegD.take (i := 7) rfl rfl rfl rfl (by kernel_rfl) (Bks.cons hBp.blk (Bks.cons hBq.blk Bks.nil)) (fun H hS => Lod.ld sc3 rfl hS.tl.hd (hatq 0 (by decide))) ?_
    refine RegD.tpur (i := 8) rfl rfl rfl rfl (by kernel_rfl) (Pur.eql rfl rfl) ?_
    refine RegD.tpur (i := 9) rfl rfl rfl rfl (by kernel_rfl) (Pur.asg rfl) ?_
    refine RegD.done (by kernel_rfl) ?_
    refine At.ret rfl Tryd.func59 rfl ?_
    rw [inst_leaf (M := M) q23 (by first | exact .inl q62 | exact .inr q68)]
    refine ⟨?_, f1, f2, fun M' h => ?_, hM1, hM2, hC⟩
    · by_cases h : p.lst.getD 0 0 = q.lst.getD 0 0
      · rw [if_pos h, decide_eq_true h]; rfl
      · rw [if_neg h, decide_eq_false h]; rfl
    · by_cases hk : p.lst.getD 0 0 = q.lst.getD 0 0
      · rw [if_pos hk] at h; cases h; exact ⟨hTy.chg hM10 hM20 hC, hRw⟩
      · rw [if_neg hk] at h; cases h
  first | (simp only [decide_eq_true_eq, decide_eq_false_iff_not, Bool.not_eq_true', Bool.not_eq_false', ne_eq, Decidable.not_not, Bool.not_eq_true, Bool.not_eq_false] at q62) | (dsimp only at q62) | skip
  refine RegD.gtpur (i := 10) rfl rfl rfl rfl rfl rfl (by kernel_rfl) (Pur.mv rfl) ?_
  refine RegD.gtpur (i := 11) rfl rfl rfl rfl rfl rfl (by kernel_rfl) (Pur.nilc rfl) ?_
  refine RegD.gtpur (i := 12) rfl rfl rfl rfl rfl rfl (by kernel_rfl) (Pur.fld _ fo65_0 rfl) ?_
  refine RegD.gtake (i := 13) rfl rfl rfl rfl rfl rfl (by kernel_rfl) (Bks.cons hBp.blk (Bks.cons hBq.blk Bks.nil)) (fun H hS => Lod.ld sc3 rfl hS.hd (hatp 0 (by decide))) ?_
  refine RegD.gtpur (i := 14) rfl rfl rfl rfl rfl rfl (by kernel_rfl) (Pur.neq rfl rfl) ?_
  refine RegD.tpur (i := 15) rfl rfl rfl rfl (by kernel_rfl) (Pur.pickF rfl rfl) ?_
  refine RegD.done (by kernel_rfl) ?_
  refine At.cond rfl rfl (fun q68 => ?_) (fun q68 => ?_)
  · first | (simp only [decide_eq_true_eq, decide_eq_false_iff_not, Bool.not_eq_true', Bool.not_eq_false', ne_eq, Decidable.not_not, Bool.not_eq_true, Bool.not_eq_false] at q68) | (dsimp only at q68) | skip
    refine At.drawE ((Bks.cons hBp.blk (Bks.cons hBq.blk Bks.nil))) [] mixed rfl rfl ?_
    refine RegD.tpur (i := 0) rfl rfl rfl rfl (by kernel_rfl) (Pur.mv rfl) ?_
    refine RegD.tpur (i := 1) rfl rfl rfl rfl (by kernel_rfl) (Pur.nilc rfl) ?_
    refine RegD.tpur (i := 2) rfl rfl rfl rfl (by kernel_rfl) (Pur.fld _ fo65_0 rfl) ?_
    refine RegD.take (i := 3) rfl rfl rfl rfl (by kernel_rfl) (Bks.cons hBp.blk (Bks.cons hBq.blk Bks.nil)) (fun H hS => Lod.ld sc3 rfl hS.hd (hatp 0 (by decide))) ?_
    refine RegD.tpur (i := 4) rfl rfl rfl rfl (by kernel_rfl) (Pur.mv rfl) ?_
    refine RegD.tpur (i := 5) rfl rfl rfl rfl (by kernel_rfl) (Pur.nilc rfl) ?_
    refine RegD.tpur (i := 6) rfl rfl rfl rfl (by kernel_rfl) (Pur.fld _ fo65_0 rfl) ?_
    refine RegD.take (i := 7) rfl rfl rfl rfl (by kernel_rfl) (Bks.cons hBp.blk (Bks.cons hBq.blk Bks.nil)) (fun H hS => Lod.ld sc3 rfl hS.tl.hd (hatq 0 (by decide))) ?_
    refine RegD.tpur (i := 8) rfl rfl rfl rfl (by kernel_rfl) (Pur.eql rfl rfl) ?_
    refine RegD.tpur (i := 9) rfl rfl rfl rfl (by kernel_rfl) (Pur.asg rfl) ?_
    refine RegD.done (by kernel_rfl) ?_
    refine At.ret rfl Tryd.func59 rfl ?_
    rw [inst_leaf (M := M) q23 (by first | exact .inl q62 | exact .inr q68)]
    refine ⟨?_, f1, f2, fun M' h => ?_, hM1, hM2, hC⟩
    · by_cases h : p.lst.getD 0 0 = q.lst.getD 0 0
      · rw [if_pos h, decide_eq_true h]; rfl
      · rw [if_neg h, decide_eq_false h]; rfl
    · by_cases hk : p.lst.getD 0 0 = q.lst.getD 0 0
      · rw [if_pos hk] at h; cases h; exact ⟨hTy.chg hM10 hM20 hC, hRw⟩
      · rw [if_neg hk] at h; cases h
  first | (simp only [decide_eq_true_eq, decide_eq_false_iff_not, Bool.not_eq_true', Bool.not_eq_false', ne_eq, Decidable.not_not, Bool.not_eq_true, Bool.not_eq_false] at q68) | (dsimp only at q68) | skip
  obtain ⟨x1, r1, x2, rfl⟩ := lst_fn q68
  obtain ⟨y1, r2, y2, rfl⟩ := lst_fn (q62.symm.trans q68)
  have hrp := nod_row hdp hpo.2.1
  have hrq := nod_row hdq hqo.2.1
  have hS1c := sl_but hS1 hM10 hM20 hC
  have hS2c := sl_but hS2 hM10 hM20 hC
  simp only [Tm.sz] at hn hpz hqz
  have z_hS2c := hS2c.lt
  refine At.region rfl rfl ?_
  refine Reg.pur rfl rfl rfl rfl (Pur.mv rfl) ?_
  refine Reg.op rfl rfl rfl rfl (Does.call rfl (sides_ok hpo (by simp only [Tm.sz]; omega) hcy hS1c hY)) ?_
  rintro v8_1 H8_1 ⟨⟨v1, v2, rfl, hT1, hT2⟩, hE8_1⟩
  have z8_1 := hE8_1.lt
  replace hC := hC.ext hE8_1
  replace om := om.ext hE8_1
  replace hM1 := hM1.ext hE8_1
  replace hM2 := hM2.ext hE8_1
  replace hBp := hBp.ext hE8_1
  replace hBq := hBq.ext hE8_1
  replace hY := hY.ext hE8_1
  replace hZ := hZ.ext hE8_1
  replace hS2c := hS2c.ext hE8_1
  obtain ⟨B1, k1, rfl, hQ1, hb1⟩ := hT1
  obtain ⟨B2, k2, rfl, hQ2, hb2⟩ := hT2
  have z_hQ1 := hQ1.lt
  have z_hQ2 := hQ2.lt
  refine Reg.pur rfl rfl rfl rfl (Pur.mv rfl) ?_
  refine Reg.pur rfl rfl rfl rfl (Pur.ext rfl rfl) ?_
  refine Reg.pur rfl rfl rfl rfl (Pur.ext rfl rfl) ?_
  refine Reg.op rfl rfl rfl rfl (Does.alloc zc55) ?_
  rintro _ H8_5 ⟨rfl, hn8_5⟩
  have z8_5 := hn8_5.size
  replace hC := hC.ext hn8_5.ext
  replace om := om.ext hn8_5.ext
  replace hM1 := hM1.ext hn8_5.ext
  replace hM2 := hM2.ext hn8_5.ext
  replace hBp := hBp.ext hn8_5.ext
  replace hBq := hBq.ext hn8_5.ext
  replace hY := hY.ext hn8_5.ext
  replace hZ := hZ.ext hn8_5.ext
  replace hS2c := hS2c.ext hn8_5.ext
  replace hQ1 := hQ1.ext hn8_5.ext
  replace hQ2 := hQ2.ext hn8_5.ext
  have o8_5 := hn8_5.own
  refine Reg.op rfl rfl rfl rfl (Does.alloc zc55) ?_
  rintro _ H8_6 ⟨rfl, hn8_6⟩
  have z8_6 := hn8_6.size
  replace hC := hC.ext hn8_6.ext
  replace om := om.ext hn8_6.ext
  replace hM1 := hM1.ext hn8_6.ext
  replace hM2 := hM2.ext hn8_6.ext
  replace hBp := hBp.ext hn8_6.ext
  replace hBq := hBq.ext hn8_6.ext
  replace hY := hY.ext hn8_6.ext
  replace hZ := hZ.ext hn8_6.ext
  replace hS2c := hS2c.ext hn8_6.ext
  replace hQ1 := hQ1.ext hn8_6.ext
  replace hQ2 := hQ2.ext hn8_6.ext
  replace o8_5 := o8_5.ext hn8_6.ext
  have o8_6 := hn8_6.own
  refine Reg.op0 rfl rfl rfl (Does.stn ag55 rfl rfl (by first | rfl | exact ones_Is _) (by first | rfl | (simp [*]; done)) o8_5 (by first | decide | (simp; done) | (simp; omega) | omega)) ?_
  rintro _ H8_7 hu8_7
  have z8_7 := hu8_7.size
  replace hC := hC.upw hu8_7 (by omega)
  replace om := om.upw hu8_7 (by omega)
  replace hM1 := hM1.upw hu8_7 (by omega)
  replace hM2 := hM2.upw hu8_7 (by omega)
  replace hBp := hBp.upw hu8_7 (by omega)
  replace hBq := hBq.upw hu8_7 (by omega)
  replace hY := hY.upw hu8_7 (by omega)
  replace hZ := hZ.upw hu8_7 (by omega)
  replace hS2c := hS2c.upw hu8_7 (by omega)
  replace hQ1 := hQ1.upw hu8_7 (by omega)
  replace hQ2 := hQ2.upw hu8_7 (by omega)
  replace o8_6 := o8_6.upw hu8_7 (by omega)
  replace o8_5 := hu8_7.own
  first | rw [over (by first | rfl | (simp; done))] at o8_5 | skip
  refine Reg.op0 rfl rfl rfl (Does.stn ag55 rfl rfl (by first | rfl | exact ones_Is _) (by first | rfl | (simp [*]; done)) o8_6 (by first | decide | (simp; done) | (simp; omega) | omega)) ?_
  rintro _ H8_8 hu8_8
  have z8_8 := hu8_8.size
  replace hC := hC.upw hu8_8 (by omega)
  replace om := om.upw hu8_8 (by omega)
  replace hM1 := hM1.upw hu8_8 (by omega)
  replace hM2 := hM2.upw hu8_8 (by omega)
  replace hBp := hBp.upw hu8_8 (by omega)
  replace hBq := hBq.upw hu8_8 (by omega)
  replace hY := hY.upw hu8_8 (by omega)
  replace hZ := hZ.upw hu8_8 (by omega)
  replace hS2c := hS2c.upw hu8_8 (by omega)
  replace hQ1 := hQ1.upw hu8_8 (by omega)
  replace hQ2 := hQ2.upw hu8_8 (by omega)
  replace o8_5 := o8_5.upw hu8_8 (by omega)
  replace o8_6 := hu8_8.own
  first | rw [over (by first | rfl | (simp; done))] at o8_6 | skip
  refine Reg.nil ?_
  refine At.region rfl rfl ?_
  refine Reg.pur rfl rfl rfl rfl (Pur.mv rfl) ?_
  refine Reg.op rfl rfl rfl rfl (Does.call rfl (sides_ok hqo (by simp only [Tm.sz]; omega) hcz hS2c hZ)) ?_
  rintro v9_1 H9_1 ⟨⟨v1, v2, rfl, hT1, hT2⟩, hE9_1⟩
  have z9_1 := hE9_1.lt
  replace hC := hC.ext hE9_1
  replace om := om.ext hE9_1
  replace hM1 := hM1.ext hE9_1
  replace hM2 := hM2.ext hE9_1
  replace hBp := hBp.ext hE9_1
  replace hBq := hBq.ext hE9_1
  replace hY := hY.ext hE9_1
  replace hZ := hZ.ext hE9_1
  replace hS2c := hS2c.ext hE9_1
  replace hQ1 := hQ1.ext hE9_1
  replace hQ2 := hQ2.ext hE9_1
  replace o8_5 := o8_5.ext hE9_1
  replace o8_6 := o8_6.ext hE9_1
  obtain ⟨B3, k3, rfl, hQ3, hb3⟩ := hT1
  obtain ⟨B4, k4, rfl, hQ4, hb4⟩ := hT2
  have z_hQ3 := hQ3.lt
  have z_hQ4 := hQ4.lt
  refine Reg.pur rfl rfl rfl rfl (Pur.mv rfl) ?_
  refine Reg.pur rfl rfl rfl rfl (Pur.ext rfl rfl) ?_
  refine Reg.pur rfl rfl rfl rfl (Pur.ext rfl rfl) ?_
  refine Reg.op rfl rfl rfl rfl (Does.alloc zc55) ?_
  rintro _ H9_5 ⟨rfl, hn9_5⟩
  have z9_5 := hn9_5.size
  replace hC := hC.ext hn9_5.ext
  replace om := om.ext hn9_5.ext
  replace hM1 := hM1.ext hn9_5.ext
  replace hM2 := hM2.ext hn9_5.ext
  replace hBp := hBp.ext hn9_5.ext
  replace hBq := hBq.ext hn9_5.ext
  replace hY := hY.ext hn9_5.ext
  replace hZ := hZ.ext hn9_5.ext
  replace hS2c := hS2c.ext hn9_5.ext
  replace hQ1 := hQ1.ext hn9_5.ext
  replace hQ2 := hQ2.ext hn9_5.ext
  replace o8_5 := o8_5.ext hn9_5.ext
  replace o8_6 := o8_6.ext hn9_5.ext
  replace hQ3 := hQ3.ext hn9_5.ext
  replace hQ4 := hQ4.ext hn9_5.ext
  have o9_5 := hn9_5.own
  refine Reg.op rfl rfl rfl rfl (Does.alloc zc55) ?_
  rintro _ H9_6 ⟨rfl, hn9_6⟩
  have z9_6 := hn9_6.size
  replace hC := hC.ext hn9_6.ext
  replace om := om.ext hn9_6.ext
  replace hM1 := hM1.ext hn9_6.ext
  replace hM2 := hM2.ext hn9_6.ext
  replace hBp := hBp.ext hn9_6.ext
  replace hBq := hBq.ext hn9_6.ext
  replace hY := hY.ext hn9_6.ext
  replace hZ := hZ.ext hn9_6.ext
  replace hS2c := hS2c.ext hn9_6.ext
  replace hQ1 := hQ1.ext hn9_6.ext
  replace hQ2 := hQ2.ext hn9_6.ext
  replace o8_5 := o8_5.ext hn9_6.ext
  replace o8_6 := o8_6.ext hn9_6.ext
  replace hQ3 := hQ3.ext hn9_6.ext
  replace hQ4 := hQ4.ext hn9_6.ext
  replace o9_5 := o9_5.ext hn9_6.ext
  have o9_6 := hn9_6.own
  refine Reg.op0 rfl rfl rfl (Does.stn ag55 rfl rfl (by first | rfl | exact ones_Is _) (by first | rfl | (simp [*]; done)) o9_5 (by first | decide | (simp; done) | (simp; omega) | omega)) ?_
  rintro _ H9_7 hu9_7
  have z9_7 := hu9_7.size
  replace hC := hC.upw hu9_7 (by omega)
  replace om := om.upw hu9_7 (by omega)
  replace hM1 := hM1.upw hu9_7 (by omega)
  replace hM2 := hM2.upw hu9_7 (by omega)
  replace hBp := hBp.upw hu9_7 (by omega)
  replace hBq := hBq.upw hu9_7 (by omega)
  replace hY := hY.upw hu9_7 (by omega)
  replace hZ := hZ.upw hu9_7 (by omega)
  replace hS2c := hS2c.upw hu9_7 (by omega)
  replace hQ1 := hQ1.upw hu9_7 (by omega)
  replace hQ2 := hQ2.upw hu9_7 (by omega)
  replace o8_5 := o8_5.upw hu9_7 (by omega)
  replace o8_6 := o8_6.upw hu9_7 (by omega)
  replace hQ3 := hQ3.upw hu9_7 (by omega)
  replace hQ4 := hQ4.upw hu9_7 (by omega)
  replace o9_6 := o9_6.upw hu9_7 (by omega)
  replace o9_5 := hu9_7.own
  first | rw [over (by first | rfl | (simp; done))] at o9_5 | skip
  refine Reg.op0 rfl rfl rfl (Does.stn ag55 rfl rfl (by first | rfl | exact ones_Is _) (by first | rfl | (simp [*]; done)) o9_6 (by first | decide | (simp; done) | (simp; omega) | omega)) ?_
  rintro _ H9_8 hu9_8
  have z9_8 := hu9_8.size
  replace hC := hC.upw hu9_8 (by omega)
  replace om := om.upw hu9_8 (by omega)
  replace hM1 := hM1.upw hu9_8 (by omega)
  replace hM2 := hM2.upw hu9_8 (by omega)
  replace hBp := hBp.upw hu9_8 (by omega)
  replace hBq := hBq.upw hu9_8 (by omega)
  replace hY := hY.upw hu9_8 (by omega)
  replace hZ := hZ.upw hu9_8 (by omega)
  replace hS2c := hS2c.upw hu9_8 (by omega)
  replace hQ1 := hQ1.upw hu9_8 (by omega)
  replace hQ2 := hQ2.upw hu9_8 (by omega)
  replace o8_5 := o8_5.upw hu9_8 (by omega)
  replace o8_6 := o8_6.upw hu9_8 (by omega)
  replace hQ3 := hQ3.upw hu9_8 (by omega)
  replace hQ4 := hQ4.upw hu9_8 (by omega)
  replace o9_5 := o9_5.upw hu9_8 (by omega)
  replace o9_6 := hu9_8.own
  first | rw [over (by first | rfl | (simp; done))] at o9_6 | skip
  refine Reg.nil ?_
  refine At.drawE (Bks.nil) [] mixed rfl rfl ?_
  refine RegD.tpur (i := 0) rfl rfl rfl rfl (by kernel_rfl) (Pur.mv rfl) ?_
  have hMa := hM1
  have hMb := hM2
  refine RegD.one (i := 1) (by kernel_rfl) rfl rfl rfl rfl (Does.call rfl (ihn x1 y1 (by omega) hpo.1 (by omega) hqo.1 (by omega) om hM1 hM2 (hTy.chg hM10 hM20 hC) hRw o8_5.blk (at0 _) hQ1 o9_5.blk (at0 _) hQ3)) ?_
  rintro v10_1 H10_1 hP1
  obtain ⟨rfl, g1, g2, hPM, hM1, hM2, hC1⟩ := hP1
  replace hC := hC.trans hC1
  replace om := om.via hC1 (not_or.2 ⟨n5, n6⟩)
  replace hBp := hBp.via hC1 (not_or.2 ⟨n1, n2⟩)
  replace hBq := hBq.via hC1 (not_or.2 ⟨n3, n4⟩)
  replace hQ2 := sl_but hQ2 hMa hMb hC1
  replace hQ4 := sl_but hQ4 hMa hMb hC1
  replace o8_6 := o8_6.via hC1 (by clear n1 n2 n3 n4 n5 n6 n7 n8 n9 n10 h12; omega)
  replace o9_6 := o9_6.via hC1 (by clear n1 n2 n3 n4 n5 n6 n7 n8 n9 n10 h12; omega)
  refine ⟨fun _ _ => Bks.nil, ?_⟩
  refine RegD.tpur (i := 2) rfl rfl rfl rfl (by kernel_rfl) (Pur.mv rfl) ?_
  refine RegD.case 90 rfl (fun q90 => ?_) (fun q90 => ?_)
  · first | (simp only [decide_eq_true_eq, decide_eq_false_iff_not, Bool.not_eq_true', Bool.not_eq_false', ne_eq, Decidable.not_not, Bool.not_eq_true, Bool.not_eq_false] at q90) | (dsimp only at q90) | skip
    refine RegD.gtpur (i := 3) rfl rfl rfl rfl rfl rfl (by kernel_rfl) (Pur.mv rfl) ?_
    refine RegD.gtpur (i := 4) rfl rfl rfl rfl rfl rfl (by kernel_rfl) (Pur.mv rfl) ?_
    refine RegD.gtpur (i := 5) rfl rfl rfl rfl rfl rfl (by kernel_rfl) (Pur.nilc rfl) ?_
    refine RegD.gtpur (i := 6) rfl rfl rfl rfl rfl rfl (by kernel_rfl) (Pur.fld _ fo65_4 rfl) ?_
    refine RegD.gtpur (i := 7) rfl rfl rfl rfl rfl rfl (by kernel_rfl) (Pur.mv rfl) ?_
    refine RegD.gtpur (i := 8) rfl rfl rfl rfl rfl rfl (by kernel_rfl) (Pur.nilc rfl) ?_
    refine RegD.gtpur (i := 9) rfl rfl rfl rfl rfl rfl (by kernel_rfl) (Pur.fld _ fo65_4 rfl) ?_
    obtain ⟨M1, hi1⟩ := Option.isSome_iff_exists.1 q90
    obtain ⟨hT1, hR1⟩ := hPM M1 hi1
    have hMc := hM1
    have hMd := hM2
    refine RegD.gone (i := 10) (by kernel_rfl) rfl rfl rfl rfl rfl rfl (Does.call rfl (mrowG_ok hpo.2.1 hpo.2.2.1 hqo.2.1 hqo.2.2.1 om hM1 hM2 h12 hR1 hBp hrp hBq hrq)) ?_
    rintro _ H10_10 ⟨rfl, g3, hPR, hM1, hM2, hC2⟩
    replace hC := hC.trans hC2
    replace om := om.via hC2 (not_or.2 ⟨n5, n6⟩)
    replace hQ2 := sl_but hQ2 hMc hMd hC2
    replace hQ4 := sl_but hQ4 hMc hMd hC2
    replace o8_6 := o8_6.via hC2 (by clear n1 n2 n3 n4 n5 n6 n7 n8 n9 n10 h12; omega)
    replace o9_6 := o9_6.via hC2 (by clear n1 n2 n3 n4 n5 n6 n7 n8 n9 n10 h12; omega)
    refine ⟨fun _ _ => Bks.nil, ?_⟩
    refine RegD.tpur (i := 11) rfl rfl rfl rfl (by kernel_rfl) (Pur.pickT rfl rfl) ?_
    refine RegD.tpur (i := 12) rfl rfl rfl rfl (by kernel_rfl) (Pur.mv rfl) ?_
    refine RegD.case 100 rfl (fun q100 => ?_) (fun q100 => ?_)
    · first | (simp only [decide_eq_true_eq, decide_eq_false_iff_not, Bool.not_eq_true', Bool.not_eq_false', ne_eq, Decidable.not_not, Bool.not_eq_true, Bool.not_eq_false] at q100) | (dsimp only at q100) | skip
      refine RegD.gtpur (i := 13) rfl rfl rfl rfl rfl rfl (by kernel_rfl) (Pur.mv rfl) ?_
      obtain ⟨M2, hi2⟩ := Option.isSome_iff_exists.1 q100
      refine RegD.gone (i := 14) (by kernel_rfl) rfl rfl rfl rfl rfl rfl (Does.call rfl (ihn x2 y2 (by omega) hpo.2.2.2 (by omega) hqo.2.2.2 (by omega) om hM1 hM2 (ty_r (hT1.chg hMc hMd hC2) hi2) (hPR M2 hi2) o8_6.blk (at0 _) hQ2 o9_6.blk (at0 _) hQ4)) ?_
      rintro v10_14 H10_14 hP3
      obtain ⟨rfl, g4, g5, hPZ, hM1, hM2, hC3⟩ := hP3
      refine ⟨fun _ _ => Bks.nil, ?_⟩
      refine RegD.tpur (i := 15) rfl rfl rfl rfl (by kernel_rfl) (Pur.pickT rfl rfl) ?_
      refine RegD.tpur (i := 16) rfl rfl rfl rfl (by kernel_rfl) (Pur.asg rfl) ?_
      refine RegD.done (by kernel_rfl) ?_
      refine At.ret rfl Tryd.func59 rfl ?_
      first
      | (have e : inst M (.fn x1 r1 x2) (.fn y1 r2 y2) = inst M2 x2 y2 := by simp only [inst, hi1, hi2]
         rw [e]
         exact ⟨rfl, g4, g5, hPZ, hM1, hM2, hC.trans hC3⟩)
      | (have e : inst M (.fn x1 r1 x2) (.fn y1 r2 y2) = none := by simp only [inst, hi1, Option.isSome_eq_false_iff.1 q100]; first | rfl | (rw [Option.isNone_iff_eq_none.1 (Option.isSome_eq_false_iff.1 q100)])
         rw [e]
         exact ⟨rfl, g1, g3, (fun M' h => by cases h), hM1, hM2, hC⟩)
      | (have e0 : inst M x1 y1 = none := Option.isNone_iff_eq_none.1 (Option.isSome_eq_false_iff.1 q90)
         have e : inst M (.fn x1 r1 x2) (.fn y1 r2 y2) = none := by simp only [inst, e0]
         rw [e]
         exact ⟨rfl, g1, g2, (fun M' h => by cases h), hM1, hM2, hC⟩)
    first | (simp only [decide_eq_true_eq, decide_eq_false_iff_not, Bool.not_eq_true', Bool.not_eq_false', ne_eq, Decidable.not_not, Bool.not_eq_true, Bool.not_eq_false] at q100) | (dsimp only at q100) | skip
    refine RegD.skip (i := 13) rfl rfl rfl rfl rfl rfl rfl (by kernel_rfl) ?_
    refine RegD.skip (i := 14) rfl rfl rfl rfl rfl rfl rfl (by kernel_rfl) ?_
    refine RegD.tpur (i := 15) rfl rfl rfl rfl (by kernel_rfl) (Pur.pickF rfl rfl) ?_
    refine RegD.tpur (i := 16) rfl rfl rfl rfl (by kernel_rfl) (Pur.asg rfl) ?_
    refine RegD.done (by kernel_rfl) ?_
    refine At.ret rfl Tryd.func59 rfl ?_
    first
    | (have e : inst M (.fn x1 r1 x2) (.fn y1 r2 y2) = inst M2 x2 y2 := by simp only [inst, hi1, hi2]
       rw [e]
       exact ⟨rfl, g4, g5, hPZ, hM1, hM2, hC.trans hC3⟩)
    | (have e : inst M (.fn x1 r1 x2) (.fn y1 r2 y2) = none := by simp only [inst, hi1, Option.isSome_eq_false_iff.1 q100]; first | rfl | (rw [Option.isNone_iff_eq_none.1 (Option.isSome_eq_false_iff.1 q100)])
       rw [e]
       exact ⟨rfl, g1, g3, (fun M' h => by cases h), hM1, hM2, hC⟩)
    | (have e0 : inst M x1 y1 = none := Option.isNone_iff_eq_none.1 (Option.isSome_eq_false_iff.1 q90)
       have e : inst M (.fn x1 r1 x2) (.fn y1 r2 y2) = none := by simp only [inst, e0]
       rw [e]
       exact ⟨rfl, g1, g2, (fun M' h => by cases h), hM1, hM2, hC⟩)
  first | (simp only [decide_eq_true_eq, decide_eq_false_iff_not, Bool.not_eq_true', Bool.not_eq_false', ne_eq, Decidable.not_not, Bool.not_eq_true, Bool.not_eq_false] at q90) | (dsimp only at q90) | skip
  refine RegD.skip (i := 3) rfl rfl rfl rfl rfl rfl rfl (by kernel_rfl) ?_
  refine RegD.skip (i := 4) rfl rfl rfl rfl rfl rfl rfl (by kernel_rfl) ?_
  refine RegD.skip (i := 5) rfl rfl rfl rfl rfl rfl rfl (by kernel_rfl) ?_
  refine RegD.skip (i := 6) rfl rfl rfl rfl rfl rfl rfl (by kernel_rfl) ?_
  refine RegD.skip (i := 7) rfl rfl rfl rfl rfl rfl rfl (by kernel_rfl) ?_
  refine RegD.skip (i := 8) rfl rfl rfl rfl rfl rfl rfl (by kernel_rfl) ?_
  refine RegD.skip (i := 9) rfl rfl rfl rfl rfl rfl rfl (by kernel_rfl) ?_
  refine RegD.skip (i := 10) rfl rfl rfl rfl rfl rfl rfl (by kernel_rfl) ?_
  refine RegD.tpur (i := 11) rfl rfl rfl rfl (by kernel_rfl) (Pur.pickF rfl rfl) ?_
  refine RegD.tpur (i := 12) rfl rfl rfl rfl (by kernel_rfl) (Pur.mv rfl) ?_
  refine RegD.skip (i := 13) rfl rfl rfl rfl rfl rfl rfl (by kernel_rfl) ?_
  refine RegD.skip (i := 14) rfl rfl rfl rfl rfl rfl rfl (by kernel_rfl) ?_
  refine RegD.tpur (i := 15) rfl rfl rfl rfl (by kernel_rfl) (Pur.pickF rfl rfl) ?_
  refine RegD.tpur (i := 16) rfl rfl rfl rfl (by kernel_rfl) (Pur.asg rfl) ?_
  refine RegD.done (by kernel_rfl) ?_
  refine At.ret rfl Tryd.func59 rfl ?_
  first
  | (have e : inst M (.fn x1 r1 x2) (.fn y1 r2 y2) = inst M2 x2 y2 := by simp only [inst, hi1, hi2]
     rw [e]
     exact ⟨rfl, g4, g5, hPZ, hM1, hM2, hC.trans hC3⟩)
  | (have e : inst M (.fn x1 r1 x2) (.fn y1 r2 y2) = none := by simp only [inst, hi1, Option.isSome_eq_false_iff.1 q100]; first | rfl | (rw [Option.isNone_iff_eq_none.1 (Option.isSome_eq_false_iff.1 q100)])
     rw [e]
     exact ⟨rfl, g1, g3, (fun M' h => by cases h), hM1, hM2, hC⟩)
  | (have e0 : inst M x1 y1 = none := Option.isNone_iff_eq_none.1 (Option.isSome_eq_false_iff.1 q90)
     have e : inst M (.fn x1 r1 x2) (.fn y1 r2 y2) = none := by simp only [inst, e0]
     rw [e]
     exact ⟨rfl, g1, g2, (fun M' h => by cases h), hM1, hM2, hC⟩)
end Go.Proofs.YtlfillhffpiffaaDoor

namespace Go.Proofs.YtlfillhffpiffaaDoor
set_option linter.unusedSimpArgs false
set_option linter.unusedVariables false
set_option maxRecDepth 8000
set_option maxHeartbeats 600000
open Go Go.Fx Go.Proofs
namespace FactsUniNE
theorem ag55 : ag Tryd.prog 55 = some 1 := by kernel_rfl
theorem pl100 : places Tryd.prog 100 = some [(0, 1), (1, 1)] := by kernel_rfl
theorem zc100 : zc Tryd.prog 100 = some [.map none, .map none] := by kernel_rfl
end FactsUniNE
open FactsUniNE

theorem tyM_nil (H : Heap) : TyM H (fun _ => none) [] := fun v => ⟨fun _ => rfl, fun t h => by cases h⟩
theorem rwM_nil : RwM (fun _ => none) [] := ⟨fun v => rfl, fun v d h => by cases h⟩
end Go.Proofs.YtlfillhffpiffaaDoor

namespace Go.Proofs.YtlfillhffpiffaaDoor
set_option linter.unusedSimpArgs false
set_option linter.unusedVariables false
set_option maxRecDepth 8000
set_option maxHeartbeats 4000000
open Go Go.Fx Go.Proofs
namespace FactsUniMB
theorem ag24 : ag Tryd.prog 24 = some 5 := by kernel_rfl
theorem ag55 : ag Tryd.prog 55 = some 1 := by kernel_rfl
theorem ag65 : ag Tryd.prog 65 = some 9 := by kernel_rfl
theorem apt25 : appT Tryd.prog 25 = some (57, 8, 80) := by kernel_rfl
theorem es25 : esz Tryd.prog 25 = some 8 := by kernel_rfl
theorem es53 : esz Tryd.prog 53 = some 9 := by kernel_rfl
theorem fo105_0 : foff Tryd.prog 105 0 = some 0 := by kernel_rfl
theorem fo105_1 : foff Tryd.prog 105 1 = some 1 := by kernel_rfl
theorem fo55_0 : foff Tryd.prog 55 0 = some 0 := by kernel_rfl
theorem fo57_0 : foff Tryd.prog 57 0 = some 0 := by kernel_rfl
theorem fo57_1 : foff Tryd.prog 57 1 = some 1 := by kernel_rfl
theorem fo57_2 : foff Tryd.prog 57 2 = some 2 := by kernel_rfl
theorem fo65_0 : foff Tryd.prog 65 0 = some 0 := by kernel_rfl
theorem fo65_1 : foff Tryd.prog 65 1 = some 1 := by kernel_rfl
theorem fo65_2 : foff Tryd.prog 65 2 = some 2 := by kernel_rfl
theorem fo65_3 : foff Tryd.prog 65 3 = some 3 := by kernel_rfl
theorem fo65_4 : foff Tryd.prog 65 4 = some 4 := by kernel_rfl
theorem isl25 : isSl Tryd.prog 25 = true := by kernel_rfl
theorem mixed : Tryd.prog.follows .mixedOrders = true := by kernel_rfl
theorem pl57 : places Tryd.prog 57 = some [(0, 1), (1, 1), (2, 1), (3, 5)] := by kernel_rfl
theorem sc25 : sc Tryd.prog 25 = true := by kernel_rfl
theorem sc3 : sc Tryd.prog 3 = true := by kernel_rfl
theorem sc4 : sc Tryd.prog 4 = true := by kernel_rfl
theorem sc53 : sc Tryd.prog 53 = true := by kernel_rfl
theorem slA25 : slA Tryd.prog 25 = some (57, 8) := by kernel_rfl
theorem zc55 : zc Tryd.prog 55 = some [.slice none 0 0] := by kernel_rfl
theorem zc57 : zc Tryd.prog 57 = some [.int .i64 0, .bool false, .slice none 0 0, .int .i64 0, .int .i64 0, .int .i64 0, .int .i64 0, .int .i64 0] := by kernel_rfl
theorem zc65 : zc Tryd.prog 65 = some [.int .i64 0, .int .i64 0, .int .i64 0, .int .i64 0, .int .i64 0, .int .i64 0, .int .i64 0, .int .i64 0, .int .i64 0] := by kernel_rfl
end FactsUniMB
open FactsUniMB

def Tm.lstK (k : Int) : Tm → List Int
  | .bas b => bNode b
  | .var v => vNode v
  | .fn a r b => fNode (k + a.sz - 1) (k + a.sz + b.sz - 1) r
theorem lstK_el : ∀ (t : Tm) (pre post : List (List Int)), el (pre ++ t.enc pre.length ++ post) ((pre.length : Int) + t.sz - 1) = t.lstK pre.length
  | .bas b, pre, post => by
    rw [show (pre.length : Int) + (Tm.bas b).sz - 1 = pre.length by simp only [Tm.sz]; omega]
    simp only [Tm.enc, List.append_assoc, List.singleton_append]
    rw [el_mid]; rfl
  | .var v, pre, post => by
    rw [show (pre.length : Int) + (Tm.var v).sz - 1 = pre.length by simp only [Tm.sz]; omega]
    simp only [Tm.enc, List.append_assoc, List.singleton_append]
    rw [el_mid]; rfl
  | .fn a r b, pre, post => by
    have hL1 : pre ++ (Tm.fn a r b).enc pre.length ++ post = (pre ++ a.enc pre.length ++ b.enc ((pre.length : Int) + a.sz)) ++ fNode ((pre.length : Int) + a.sz - 1) ((pre.length : Int) + a.sz + b.sz - 1) r :: post := by
      simp only [Tm.enc, List.append_assoc, List.singleton_append]
    have hp2 : ((pre ++ a.enc pre.length ++ b.enc ((pre.length : Int) + a.sz)).length : Int) = (pre.length : Int) + a.sz + b.sz := by rw [List.length_append, List.length_append, Tm.enc_len, Tm.enc_len]; omega
    rw [hL1, show (pre.length : Int) + (Tm.fn a r b).sz - 1 = ((pre ++ a.enc pre.length ++ b.enc ((pre.length : Int) + a.sz)).length : Int) by rw [hp2]; simp only [Tm.sz]; omega, el_mid]
    rfl
theorem lstK_nine {t : Tm} (h : t.ok) (k : Int) : (t.lstK k).length = 9 := by
  cases t with
  | bas k => rfl
  | var v => rfl
  | fn a r b => simp [Tm.lstK, h.2.1]
theorem lstK_at {t : Tm} (h : t.ok) (k : Int) (i : Nat) (hi : i < 9) : (Is (t.lstK k))[0 + i]? = some (I ((t.lstK k).getD i 0)) := by
  rw [Nat.zero_add]; exact at_Is (by rw [lstK_nine h]; exact hi)
theorem lstK_var {t : Tm} {k : Int} (h : (t.lstK k).getD 0 0 = 2) : ∃ v, t = .var v := by
  cases t with
  | bas b => cases b <;> simp [Tm.lstK] at h
  | var v => exact ⟨v, rfl⟩
  | fn a r b => simp [Tm.lstK] at h
theorem lstK_fn {t : Tm} {k : Int} (h : (t.lstK k).getD 0 0 = 3) : ∃ a r b, t = .fn a r b := by
  cases t with
  | bas b => cases b <;> simp [Tm.lstK] at h
  | var v => simp [Tm.lstK] at h
  | fn a r b => exact ⟨a, r, b, rfl⟩
theorem inst_ne {M : List Bt} {p q : Tm} {k k' : Int} (h2 : (p.lstK k).getD 0 0 ≠ 2) (h : (p.lstK k).getD 0 0 ≠ (q.lstK k').getD 0 0) : inst M p q = none := by
  cases p with
  | var v => exact (h2 rfl).elim
  | bas b =>
    cases q with
    | var v => rfl
    | bas l =>
      have : b ≠ l := fun e => h (by rw [e]; rfl)
      simp [inst, this]
    | fn a r b => rfl
  | fn a r b =>
    cases q with
    | var v => rfl
    | bas l => rfl
    | fn a' r' b' => exact (h rfl).elim
theorem inst_eq {M : List Bt} {p q : Tm} {k k' : Int} (h2 : (p.lstK k).getD 0 0 ≠ 2) (h3 : (p.lstK k).getD 0 0 ≠ 3) (h : (p.lstK k).getD 0 0 = (q.lstK k').getD 0 0) : inst M p q = some M := by
  cases p with
  | var v => exact (h2 rfl).elim
  | fn a r b => exact (h3 rfl).elim
  | bas b =>
    cases q with
    | var v => cases b <;> simp [Tm.lstK] at h
    | fn a r c => cases b <;> simp [Tm.lstK] at h
    | bas l =>
      have : b = l := by cases b <;> cases l <;> simp [Tm.lstK] at h <;> rfl
      simp [inst, this]
theorem mt_fn {M M' M'' M3 : List Bt} {a a' b b' : Tm} {r r' : List Int} {ok1 ok2 ok3 : Bool} (h1 : ok1 = (true && (inst M a a').isSome)) (k1 : ∀ M2, inst M a a' = some M2 → M' = M2) (h2 : ok2 = (ok1 && (instR M' r r').isSome)) (k2 : ok1 = true → ∀ M2, instR M' r r' = some M2 → M'' = M2) (h3 : ok3 = (ok2 && (inst M'' b b').isSome)) (k3 : ok2 = true → ∀ M2, inst M'' b b' = some M2 → M3 = M2) :
    ok3 = (true && (inst M (.fn a r b) (.fn a' r' b')).isSome) ∧ ∀ M2, inst M (.fn a r b) (.fn a' r' b') = some M2 → M3 = M2 := by
  simp only [inst]
  cases e1 : inst M a a' with
  | none =>
    rw [e1] at h1
    have : ok1 = false := h1
    subst this
    have : ok2 = false := h2
    subst this
    exact ⟨h3, fun M2 h => by cases h⟩
  | some M1 =>
    obtain rfl := k1 _ e1
    rw [e1] at h1
    have : ok1 = true := h1
    subst this
    dsimp only
    cases e2 : instR M' r r' with
    | none =>
      rw [e2] at h2
      have : ok2 = false := h2
      subst this
      exact ⟨h3, fun M2 h => by cases h⟩
    | some M2 =>
      obtain rfl := k2 rfl _ e2
      rw [e2] at h2
      have : ok2 = true := h2
      subst this
      exact ⟨h3, k3 rfl⟩
theorem seg_mid {t : Tm} {pre post : List (List Int)} (hl : (pre ++ t.enc pre.length ++ post).length ≤ 256) : (seg (pre ++ t.enc pre.length ++ post) pre.length ((pre.length : Int) + t.sz - 1)).map (movS (-(pre.length : Int))) = t.enc 0 := by
  have hs : seg (pre ++ t.enc pre.length ++ post) pre.length ((pre.length : Int) + t.sz - 1) = t.enc pre.length := by
    unfold seg
    rw [List.append_assoc, Int.toNat_natCast, List.drop_left, show ((pre.length : Int) + t.sz - 1 + 1 - pre.length).toNat = (t.enc pre.length).length by rw [Tm.enc_len]; omega, List.take_left]
  simp only [List.length_append, Tm.enc_len] at hl
  rw [hs, Tm.enc_mov t pre.length (-(pre.length : Int)) (by omega) (by omega) (by omega) (by omega) (by omega) (by omega)]
  congr 1; omega
theorem spM_ld {c : List Value} {x : Bd} {i : Nat} (hd : (c.drop (i * 8)).take 8 = encB x) : (c.drop (0 + (i : Int).toNat * 8 + 2)).take 1 = [x.sl] := by
  rw [Int.toNat_natCast, Nat.zero_add, ← List.drop_drop, take_mid hd (by decide)]
  rfl
theorem mwalk_ok : ∀ (n : Nat) {gt st : Tm} (hn : gt.sz ≤ n) {H : Heap} {lo sb cap : Nat} {A : Option Addr} {Bs : List Bd} {M : List Bt} {ok : Bool} (h : Mts H lo sb A cap Bs M) (ho : Own H sb [.slice A Bs.length cap, .bool ok]) (hl : Bs.length + 2 * gt.sz ≤ 90000) (hg : gt.ok) (hst : st.ok) {pre post pre' post' L K : List (List Int)} (hL : L = pre ++ gt.enc pre.length ++ post) (hK : K = pre' ++ st.enc pre'.length ++ post') (hL9 : Nine L) (hK9 : Nine K) (hLl : L.length ≤ 256) (hKl : K.length ≤ 256) {A1 A2 : Option Addr} {c1 c2 : Nat} (hS1 : SlT H Is 9 (.slice A1 L.length c1) L) (hS2 : SlT H Is 9 (.slice A2 K.length c2) K) (hm1 : ob A1 < lo) (hm2 : ob A2 < lo),
    Ret Tryd.prog 60 [ptr sb 0, Ty A1 L.length c1, I ((pre.length : Int) + gt.sz - 1), Ty A2 K.length c2, I ((pre'.length : Int) + st.sz - 1)] H (fun _ => MtP H lo sb A Bs (2 * gt.sz) ok (inst M gt st))
  | 0, gt, _, hn, _, _, _, _, _, _, _, _, _, _, _, _, _, _, _, _, _, _, _, _, _, _, _, _, _, _, _, _, _, _, _, _, _ => by have := gt.sz_pos; omega
  | n + 1, gt, st, hn, H, lo, sb, cap, A, Bs, M, ok, h, ho, hl, hg, hst, pre, post, pre', post', L, K, hL, hK, hL9, hK9, hLl, hKl, A1, A2, c1, c2, hS1, hS2, hm1, hm2 => by
    have hgl := h.lt
    have hgz := gt.sz_pos
    have hsz := st.sz_pos
    have hLn : L.length = pre.length + gt.sz + post.length := by rw [hL, List.length_append, List.length_append, Tm.enc_len]
    have hKn : K.length = pre'.length + st.sz + post'.length := by rw [hK, List.length_append, List.length_append, Tm.enc_len]
    have hxg := lstK_nine hg pre.length
    have hxs := lstK_nine hst pre'.length
    refine Ret.of_at (N := 132) Tryd.call60 Tryd.func60 rfl rfl rfl ?_
    have hE := Ext.refl H
    have z_hE := hE.lt
    have z_ho := ho.lt
    refine At.region rfl rfl ?_
    refine Reg.op rfl rfl rfl rfl (Does.box rfl rfl) ?_
    rintro _ H0_0 ⟨rfl, hn0_0⟩
    have z0_0 := hn0_0.size
    replace hE := hE.ext hn0_0.ext
    replace ho := ho.ext hn0_0.ext
    have o0_0 := hn0_0.own
    refine Reg.op rfl rfl rfl rfl (Does.box rfl rfl) ?_
    rintro _ H0_1 ⟨rfl, hn0_1⟩
    have z0_1 := hn0_1.size
    replace hE := hE.ext hn0_1.ext
    replace ho := ho.ext hn0_1.ext
    replace o0_0 := o0_0.ext hn0_1.ext
    have o0_1 := hn0_1.own
    refine Reg.nil ?_
    obtain ⟨bg, og, kg, rfl, hBg, hdg, _, _⟩ := el_cells hL9 (hS1.ext hE) (z := (pre.length : Int) + gt.sz - 1) (by omega) (by omega)
    obtain ⟨bs, os, ks, rfl, hBs, hds, _, _⟩ := el_cells hK9 (hS2.ext hE) (z := (pre'.length : Int) + st.sz - 1) (by omega) (by omega)
    have hlg := lstK_el gt pre post
    have hls := lstK_el st pre' post'
    rw [← hL] at hlg
    rw [← hK] at hls
    rw [hlg] at hdg
    rw [hls] at hds
    have z_hBg := hBg.lt
    have z_hBs := hBs.lt
    refine At.drawJ (σ := Nat × Nat) (fun (b10, b11) => [(10, ptr b10 0), (11, ptr b11 0), (8, ptr H0_0.size 0), (6, ptr H.size 0), (0, ptr sb 0), (4, I ((pre'.length : Int) + st.sz - 1))]) (fun (b10, b11) H' => Own H' b10 (Is (gt.lstK pre.length)) ∧ Own H' b11 (Is (st.lstK pre'.length)) ∧ Own H' H.size [.slice (some ⟨bg, og, none⟩) L.length c1] ∧ Own H' H0_0.size [.slice (some ⟨bs, os, none⟩) K.length c2] ∧ Own H' sb [.slice A Bs.length cap, .bool ok] ∧ Ext H H' ∧ H.size ≤ b10 ∧ H.size ≤ b11) ((Bks.cons o0_0.blk (Bks.cons o0_1.blk (Bks.cons hBg.blk (Bks.cons hBs.blk Bks.nil))))) [13] mixed rfl rfl ?_ (fun s H_r1 hs => ?_)
    · refine RegD.tpur (i := 0) rfl rfl rfl rfl (by kernel_rfl) (Pur.fld _ fo55_0 rfl) ?_
      refine RegD.take (i := 1) rfl rfl rfl rfl (by kernel_rfl) (Bks.cons o0_0.blk (Bks.cons o0_1.blk (Bks.cons hBg.blk (Bks.cons hBs.blk Bks.nil)))) (fun H hS => Lod.ld sc53 rfl hS.hd rfl) ?_
      refine RegD.tpur (i := 2) rfl rfl rfl rfl (by kernel_rfl) (Pur.mv rfl) ?_
      refine RegD.tpur (i := 3) rfl rfl rfl rfl (by kernel_rfl) (Pur.idx _ es53 rfl rfl (by omega) (by omega)) ?_
      refine RegD.take (i := 4) rfl rfl rfl rfl (by kernel_rfl) (Bks.cons o0_0.blk (Bks.cons o0_1.blk (Bks.cons hBg.blk (Bks.cons hBs.blk Bks.nil)))) (fun H hS => Lod.ldn ag65 rfl hS.tl.tl.hd hdg (by rw [List.length_map]; exact hxg)) ?_
      refine RegD.tpur (i := 5) rfl rfl rfl rfl (by kernel_rfl) (Pur.fld _ fo55_0 rfl) ?_
      refine RegD.take (i := 6) rfl rfl rfl rfl (by kernel_rfl) (Bks.cons o0_0.blk (Bks.cons o0_1.blk (Bks.cons hBg.blk (Bks.cons hBs.blk Bks.nil)))) (fun H hS => Lod.ld sc53 rfl hS.tl.hd rfl) ?_
      refine RegD.tpur (i := 7) rfl rfl rfl rfl (by kernel_rfl) (Pur.mv rfl) ?_
      refine RegD.tpur (i := 8) rfl rfl rfl rfl (by kernel_rfl) (Pur.idx _ es53 rfl rfl (by omega) (by omega)) ?_
      refine RegD.take (i := 9) rfl rfl rfl rfl (by kernel_rfl) (Bks.cons o0_0.blk (Bks.cons o0_1.blk (Bks.cons hBg.blk (Bks.cons hBs.blk Bks.nil)))) (fun H hS => Lod.ldn ag65 rfl hS.tl.tl.tl.hd hds (by rw [List.length_map]; exact hxs)) ?_
      refine RegD.fork2 (i := 10) (j := 11) (by kernel_rfl) ?_ ?_
      · refine RegOp.one (i := 10) rfl rfl rfl rfl (Does.alloc zc65) ?_
        rintro _ H1_10 ⟨rfl, hn1_10⟩
        have z1_10 := hn1_10.size
        replace hE := hE.ext hn1_10.ext
        replace ho := ho.ext hn1_10.ext
        replace o0_0 := o0_0.ext hn1_10.ext
        replace o0_1 := o0_1.ext hn1_10.ext
        replace hBg := hBg.ext hn1_10.ext
        replace hBs := hBs.ext hn1_10.ext
        have o1_10 := hn1_10.own
        refine ⟨fun _ _ => (Bks.cons o0_0.blk (Bks.cons o0_1.blk (Bks.cons hBg.blk (Bks.cons hBs.blk Bks.nil)))), ?_⟩
        refine RegD.one (i := 11) (by kernel_rfl) rfl rfl rfl rfl (Does.alloc zc65) ?_
        rintro _ H1_11 ⟨rfl, hn1_11⟩
        have z1_11 := hn1_11.size
        replace hE := hE.ext hn1_11.ext
        replace ho := ho.ext hn1_11.ext
        replace o0_0 := o0_0.ext hn1_11.ext
        replace o0_1 := o0_1.ext hn1_11.ext
        replace hBg := hBg.ext hn1_11.ext
        replace hBs := hBs.ext hn1_11.ext
        replace o1_10 := o1_10.ext hn1_11.ext
        have o1_11 := hn1_11.own
        refine ⟨fun _ _ => (Bks.cons o0_0.blk (Bks.cons o0_1.blk (Bks.cons hBg.blk (Bks.cons hBs.blk Bks.nil)))), ?_⟩
        refine RegD.one0 (i := 12) (by kernel_rfl) rfl rfl rfl (Does.stn ag65 rfl rfl (ones_Is _) (by rw [List.length_map]; exact hxg) o1_10 (Nat.le_refl _)) ?_
        rintro _ H1_12 hu1_12
        have z1_12 := hu1_12.size
        replace hE := hE.upw hu1_12 (by omega)
        replace ho := ho.upw hu1_12 (by omega)
        replace o0_0 := o0_0.upw hu1_12 (by omega)
        replace o0_1 := o0_1.upw hu1_12 (by omega)
        replace hBg := hBg.upw hu1_12 (by omega)
        replace hBs := hBs.upw hu1_12 (by omega)
        replace o1_11 := o1_11.upw hu1_12 (by omega)
        replace o1_10 := hu1_12.own
        first | rw [over (by first | rfl | (simp; done))] at o1_10 | skip
        replace o1_10 := o1_10.of (c' := Is (gt.lstK pre.length)) (by simp)
        refine ⟨fun _ _ => (Bks.cons o0_0.blk (Bks.cons o0_1.blk (Bks.cons hBg.blk (Bks.cons hBs.blk Bks.nil)))), ?_⟩
        refine RegD.one0 (i := 13) (by kernel_rfl) rfl rfl rfl (Does.stn ag65 rfl rfl (ones_Is _) (by rw [List.length_map]; exact hxs) o1_11 (Nat.le_refl _)) ?_
        rintro _ H1_13 hu1_13
        have z1_13 := hu1_13.size
        replace hE := hE.upw hu1_13 (by omega)
        replace ho := ho.upw hu1_13 (by omega)
        replace o0_0 := o0_0.upw hu1_13 (by omega)
        replace o0_1 := o0_1.upw hu1_13 (by omega)
        replace hBg := hBg.upw hu1_13 (by omega)
        replace hBs := hBs.upw hu1_13 (by omega)
        replace o1_10 := o1_10.upw hu1_13 (by omega)
        replace o1_11 := hu1_13.own
        first | rw [over (by first | rfl | (simp; done))] at o1_11 | skip
        replace o1_11 := o1_11.of (c' := Is (st.lstK pre'.length)) (by simp)
        refine ⟨fun h => (by cases h), ?_⟩
        refine RegD.done (by kernel_rfl) ?_
        exact ⟨(_, _), ⟨o1_10, o1_11, o0_0, o0_1, ho, hE, by omega, by omega⟩, ⟨rfl, rfl, rfl, rfl, rfl, rfl, trivial⟩⟩
      refine RegOp.one (i := 11) rfl rfl rfl rfl (Does.alloc zc65) ?_
      rintro _ H1_11 ⟨rfl, hn1_11⟩
      have z1_11 := hn1_11.size
      replace hE := hE.ext hn1_11.ext
      replace ho := ho.ext hn1_11.ext
      replace o0_0 := o0_0.ext hn1_11.ext
      replace o0_1 := o0_1.ext hn1_11.ext
      replace hBg := hBg.ext hn1_11.ext
      replace hBs := hBs.ext hn1_11.ext
      have o1_11 := hn1_11.own
      refine ⟨fun _ _ => (Bks.cons o0_0.blk (Bks.cons o0_1.blk (Bks.cons hBg.blk (Bks.cons hBs.blk Bks.nil)))), ?_⟩
      refine RegD.one (i := 10) (by kernel_rfl) rfl rfl rfl rfl (Does.alloc zc65) ?_
      rintro _ H1_10 ⟨rfl, hn1_10⟩
      have z1_10 := hn1_10.size
      replace hE := hE.ext hn1_10.ext
      replace ho := ho.ext hn1_10.ext
      replace o0_0 := o0_0.ext hn1_10.ext
      replace o0_1 := o0_1.ext hn1_10.ext
      replace hBg := hBg.ext hn1_10.ext
      replace hBs := hBs.ext hn1_10.ext
      replace o1_11 := o1_11.ext hn1_10.ext
      have o1_10 := hn1_10.own
      refine ⟨fun _ _ => (Bks.cons o0_0.blk (Bks.cons o0_1.blk (Bks.cons hBg.blk (Bks.cons hBs.blk Bks.nil)))), ?_⟩
      refine RegD.one0 (i := 12) (by kernel_rfl) rfl rfl rfl (Does.stn ag65 rfl rfl (ones_Is _) (by rw [List.length_map]; exact hxg) o1_10 (Nat.le_refl _)) ?_
      rintro _ H1_12 hu1_12
      have z1_12 := hu1_12.size
      replace hE := hE.upw hu1_12 (by omega)
      replace ho := ho.upw hu1_12 (by omega)
      replace o0_0 := o0_0.upw hu1_12 (by omega)
      replace o0_1 := o0_1.upw hu1_12 (by omega)
      replace hBg := hBg.upw hu1_12 (by omega)
      replace hBs := hBs.upw hu1_12 (by omega)
      replace o1_11 := o1_11.upw hu1_12 (by omega)
      replace o1_10 := hu1_12.own
      first | rw [over (by first | rfl | (simp; done))] at o1_10 | skip
      replace o1_10 := o1_10.of (c' := Is (gt.lstK pre.length)) (by simp)
      refine ⟨fun _ _ => (Bks.cons o0_0.blk (Bks.cons o0_1.blk (Bks.cons hBg.blk (Bks.cons hBs.blk Bks.nil)))), ?_⟩
      refine RegD.one0 (i := 13) (by kernel_rfl) rfl rfl rfl (Does.stn ag65 rfl rfl (ones_Is _) (by rw [List.length_map]; exact hxs) o1_11 (Nat.le_refl _)) ?_
      rintro _ H1_13 hu1_13
      have z1_13 := hu1_13.size
      replace hE := hE.upw hu1_13 (by omega)
      replace ho := ho.upw hu1_13 (by omega)
      replace o0_0 := o0_0.upw hu1_13 (by omega)
      replace o0_1 := o0_1.upw hu1_13 (by omega)
      replace hBg := hBg.upw hu1_13 (by omega)
      replace hBs := hBs.upw hu1_13 (by omega)
      replace o1_10 := o1_10.upw hu1_13 (by omega)
      replace o1_11 := hu1_13.own
      first | rw [over (by first | rfl | (simp; done))] at o1_11 | skip
      replace o1_11 := o1_11.of (c' := Is (st.lstK pre'.length)) (by simp)
      refine ⟨fun h => (by cases h), ?_⟩
      refine RegD.done (by kernel_rfl) ?_
      exact ⟨(_, _), ⟨o1_10, o1_11, o0_0, o0_1, ho, hE, by omega, by omega⟩, ⟨rfl, rfl, rfl, rfl, rfl, rfl, trivial⟩⟩
    have ho0 := ho.lt
    clear o0_0 o0_1 ho hE hBg hBs
    obtain ⟨b10, b11⟩ := s
    obtain ⟨o10, o11, o6, o8, ho, hE, hb10, hb11⟩ := hs
    rw [ob_some] at hm1 hm2
    have z_hE := hE.lt
    have z_ho := ho.lt
    have z_o6 := o6.lt
    have z_o8 := o8.lt
    have z_o10 := o10.lt
    have z_o11 := o11.lt
    refine At.region rfl rfl ?_
    refine Reg.pur rfl rfl rfl rfl (Pur.fld _ fo65_0 rfl) ?_
    refine Reg.lod rfl rfl rfl rfl (Lod.ld sc3 rfl o10.blk (lstK_at hg _ 0 (by decide))) ?_
    refine Reg.pur rfl rfl rfl rfl (Pur.eql rfl rfl) ?_
    refine Reg.nil ?_
    refine At.cond rfl rfl (fun q26 => ?_) (fun q26 => ?_)
    · first | (simp only [decide_eq_true_eq, decide_eq_false_iff_not, Bool.not_eq_true', Bool.not_eq_false', ne_eq, Decidable.not_not, Bool.not_eq_true, Bool.not_eq_false] at q26) | (dsimp only at q26) | skip
      obtain ⟨v, rfl⟩ := lstK_var q26
      have hbg2 := enc_bgn st K.length pre' post' (by omega)
      rw [← hK] at hbg2
      have hsg := seg_mid (t := st) (pre := pre') (post := post') (by rw [← hK]; exact hKl)
      rw [← hK] at hsg
      have h9s := st.enc_nine 0 hst
      refine At.region rfl rfl ?_
      refine Reg.lod rfl rfl rfl rfl (Lod.ldn ag55 rfl o8.blk (whole rfl) rfl) ?_
      refine Reg.pur rfl rfl rfl rfl (Pur.mv rfl) ?_
      refine Reg.op rfl rfl rfl rfl (Does.call rfl (partR_ok hK9 (hS2.ext hE) hKl (z := (pre'.length : Int) + st.sz - 1) (p := pre'.length) (by omega) (by omega) hbg2 (by omega))) ?_
      rintro v3_2 H3_2 ⟨hT, hE3_2⟩
      have z3_2 := hE3_2.lt
      replace hE := hE.ext hE3_2
      replace ho := ho.ext hE3_2
      replace o6 := o6.ext hE3_2
      replace o8 := o8.ext hE3_2
      replace o10 := o10.ext hE3_2
      replace o11 := o11.ext hE3_2
      rw [hsg] at hT
      obtain ⟨Ap, cp, rfl, hSp, hfp⟩ := hT
      have z_hSp := hSp.lt
      refine Reg.op rfl rfl rfl rfl (Does.alloc zc55) ?_
      rintro _ H3_3 ⟨rfl, hn3_3⟩
      have z3_3 := hn3_3.size
      replace hE := hE.ext hn3_3.ext
      replace ho := ho.ext hn3_3.ext
      replace o6 := o6.ext hn3_3.ext
      replace o8 := o8.ext hn3_3.ext
      replace o10 := o10.ext hn3_3.ext
      replace o11 := o11.ext hn3_3.ext
      replace hSp := hSp.ext hn3_3.ext
      have o3_3 := hn3_3.own
      refine Reg.op0 rfl rfl rfl (Does.stn ag55 rfl rfl (by first | rfl | exact ones_Is _) (by first | rfl | (simp [*]; done)) o3_3 (by first | decide | (simp; done) | (simp; omega) | omega)) ?_
      rintro _ H3_4 hu3_4
      have z3_4 := hu3_4.size
      replace hE := hE.upw hu3_4 (by omega)
      replace ho := ho.upw hu3_4 (by omega)
      replace o6 := o6.upw hu3_4 (by omega)
      replace o8 := o8.upw hu3_4 (by omega)
      replace o10 := o10.upw hu3_4 (by omega)
      replace o11 := o11.upw hu3_4 (by omega)
      replace hSp := hSp.upw hu3_4 (by omega)
      replace o3_3 := hu3_4.own
      first | rw [over (by first | rfl | (simp; done))] at o3_3 | skip
      refine Reg.nil ?_
      refine At.region rfl rfl ?_
      refine Reg.pur rfl rfl rfl rfl (Pur.asg rfl) ?_
      refine Reg.nil ?_
      have hMt := h.ext hE
      have hlT := h.lenT
      generalize hHH : H3_4 = Hc at *
      refine At.loop (σ := Nat) (fun i => [(13, I i), (12, ptr H3_2.size 0), (10, ptr b10 0), (0, ptr sb 0)]) (fun i H' => i ≤ Bs.length ∧ H' = Hc ∧ findT (M.take i) v = none) (fun i => Bs.length - i) 0 rfl ⟨rfl, rfl, rfl, rfl, trivial⟩ ⟨by omega, rfl, rfl⟩ ?_
      clear hHH
      rintro i H3' ⟨hi, rfl, hnf⟩ ih
      have z_hE := hE.lt
      have z_ho := ho.lt
      have z_o10 := o10.lt
      have z_o3_3 := o3_3.lt
      have z_hSp := hSp.lt
      refine At.region rfl rfl ?_
      refine Reg.pur rfl rfl rfl rfl (Pur.mv rfl) ?_
      refine Reg.pur rfl rfl rfl rfl (Pur.mv rfl) ?_
      refine Reg.pur rfl rfl rfl rfl (Pur.nilc rfl) ?_
      refine Reg.pur rfl rfl rfl rfl (Pur.fld _ fo105_0 rfl) ?_
      refine Reg.lod rfl rfl rfl rfl (Lod.ld sc25 rfl ho.blk rfl) ?_
      refine Reg.pur rfl rfl rfl rfl (Pur.lenS isl25 rfl) ?_
      refine Reg.pur rfl rfl rfl rfl (Pur.lss rfl rfl) ?_
      refine Reg.nil ?_
      refine At.cond rfl rfl (fun q36 => ?_) (fun q36 => ?_)
      · first | (simp only [decide_eq_true_eq, decide_eq_false_iff_not, Bool.not_eq_true', Bool.not_eq_false', ne_eq, Decidable.not_not, Bool.not_eq_true, Bool.not_eq_false] at q36) | (dsimp only at q36) | skip
        have hib : i < Bs.length := by omega
        have hjm : i < M.length := by omega
        obtain ⟨gq, cq, rfl, hBq, hcq⟩ := hMt.blk (by omega)
        have hdi := row_rd hMt.wide hib hcq
        have hpi := pl_at hMt.pl hib hjm
        have hok7 := hMt.ok _ (List.getElem_mem hib)
        have hsl7 := hok7.sl
        have z_hBq := hBq.lt
        have z_hsl7 := hsl7.lt
        refine At.drawE ((Bks.cons hBq.blk (Bks.cons ho.blk (Bks.cons o10.blk Bks.nil)))) [] mixed rfl rfl ?_
        refine RegD.tpur (i := 0) rfl rfl rfl rfl (by kernel_rfl) (Pur.mv rfl) ?_
        refine RegD.tpur (i := 1) rfl rfl rfl rfl (by kernel_rfl) (Pur.nilc rfl) ?_
        refine RegD.tpur (i := 2) rfl rfl rfl rfl (by kernel_rfl) (Pur.fld _ fo105_0 rfl) ?_
        refine RegD.take (i := 3) rfl rfl rfl rfl (by kernel_rfl) (Bks.cons hBq.blk (Bks.cons ho.blk (Bks.cons o10.blk Bks.nil))) (fun H hS => Lod.ld sc25 rfl hS.tl.hd rfl) ?_
        refine RegD.tpur (i := 4) rfl rfl rfl rfl (by kernel_rfl) (Pur.mv rfl) ?_
        refine RegD.tpur (i := 5) rfl rfl rfl rfl (by kernel_rfl) (Pur.idx _ es25 rfl rfl (by omega) (by omega)) ?_
        refine RegD.tpur (i := 6) rfl rfl rfl rfl (by kernel_rfl) (Pur.fld _ fo57_1 rfl) ?_
        refine RegD.take (i := 7) rfl rfl rfl rfl (by kernel_rfl) (Bks.cons hBq.blk (Bks.cons ho.blk (Bks.cons o10.blk Bks.nil))) (fun H hS => Lod.ld sc4 rfl hS.hd (by rw [Int.toNat_natCast, Nat.zero_add]; exact at_tk hdi (j := 1) (by decide) rfl)) ?_
        refine RegD.tpur (i := 8) rfl rfl rfl rfl (by kernel_rfl) (Pur.not rfl) ?_
        refine RegD.tpur (i := 9) rfl rfl rfl rfl (by kernel_rfl) (Pur.mv rfl) ?_
        refine RegD.case 48 rfl (fun q48 => ?_) (fun q48 => ?_)
        · first | (simp only [decide_eq_true_eq, decide_eq_false_iff_not, Bool.not_eq_true', Bool.not_eq_false', ne_eq, Decidable.not_not, Bool.not_eq_true, Bool.not_eq_false] at q48) | (dsimp only at q48) | skip
          refine RegD.gtpur (i := 10) rfl rfl rfl rfl rfl rfl (by kernel_rfl) (Pur.mv rfl) ?_
          refine RegD.gtpur (i := 11) rfl rfl rfl rfl rfl rfl (by kernel_rfl) (Pur.nilc rfl) ?_
          refine RegD.gtpur (i := 12) rfl rfl rfl rfl rfl rfl (by kernel_rfl) (Pur.fld _ fo105_0 rfl) ?_
          refine RegD.gtake (i := 13) rfl rfl rfl rfl rfl rfl (by kernel_rfl) (Bks.cons hBq.blk (Bks.cons ho.blk (Bks.cons o10.blk Bks.nil))) (fun H hS => Lod.ld sc25 rfl hS.tl.hd rfl) ?_
          refine RegD.gtpur (i := 14) rfl rfl rfl rfl rfl rfl (by kernel_rfl) (Pur.mv rfl) ?_
          refine RegD.gtpur (i := 15) rfl rfl rfl rfl rfl rfl (by kernel_rfl) (Pur.idx _ es25 rfl rfl (by omega) (by omega)) ?_
          refine RegD.gtpur (i := 16) rfl rfl rfl rfl rfl rfl (by kernel_rfl) (Pur.fld _ fo57_0 rfl) ?_
          refine RegD.gtake (i := 17) rfl rfl rfl rfl rfl rfl (by kernel_rfl) (Bks.cons hBq.blk (Bks.cons ho.blk (Bks.cons o10.blk Bks.nil))) (fun H hS => Lod.ld sc3 rfl hS.hd (by rw [Int.toNat_natCast, Nat.zero_add]; exact at_tk hdi (j := 0) (by decide) rfl)) ?_
          refine RegD.gtpur (i := 18) rfl rfl rfl rfl rfl rfl (by kernel_rfl) (Pur.fld _ fo65_1 rfl) ?_
          refine RegD.gtake (i := 19) rfl rfl rfl rfl rfl rfl (by kernel_rfl) (Bks.cons hBq.blk (Bks.cons ho.blk (Bks.cons o10.blk Bks.nil))) (fun H hS => Lod.ld sc3 rfl hS.tl.tl.hd (lstK_at hg _ 1 (by decide))) ?_
          refine RegD.gtpur (i := 20) rfl rfl rfl rfl rfl rfl (by kernel_rfl) (Pur.eql rfl rfl) ?_
          refine RegD.tpur (i := 21) rfl rfl rfl rfl (by kernel_rfl) (Pur.pickT rfl rfl) ?_
          refine RegD.done (by kernel_rfl) ?_
          refine At.cond rfl rfl (fun q60 => ?_) (fun q60 => ?_)
          · first | (simp only [decide_eq_true_eq, decide_eq_false_iff_not, Bool.not_eq_true', Bool.not_eq_false', ne_eq, Decidable.not_not, Bool.not_eq_true, Bool.not_eq_false] at q60) | (dsimp only at q60) | skip
            obtain ⟨u, hd1⟩ : ∃ u, M[i] = .t v u := by { generalize M[i] = x at hpi; cases x with | t v' w => (have e1 : Bs[i].var = v' := congrArg (fun p => p.1) hpi; exact ⟨w, by rw [show v = v' from (e1.symm.trans q60).symm]⟩) | r v' w => (have e1 : Bs[i].isRow = true := congrArg (fun p => p.2.1) hpi; rw [e1] at q48; cases q48) }
            have hhit := hit_findT hjm hnf hd1
            have hnod : Bs[i].nodes = u.enc 0 := by { rw [hd1] at hpi; exact congrArg (fun p => p.2.2.1) hpi }
            have huo := h.tok v u (by rw [← hd1]; exact List.getElem_mem hjm)
            have hi1 : inst M (.var v) st = if u = st then some M else none := by simp only [inst]; rw [hhit]
            have hdec : decide (Bs[i].nodes = st.enc 0) = decide (u = st) := by { rw [hnod]; by_cases hus : u = st; (rw [hus]; simp); (rw [decide_eq_false hus, decide_eq_false]; exact fun e => hus (enc_inj hst huo (by omega) e.symm).symm) }
            refine At.drawE ((Bks.cons ho.blk (Bks.cons hBq.blk (Bks.cons o3_3.blk Bks.nil)))) [19] mixed rfl rfl ?_
            refine RegD.tpur (i := 0) rfl rfl rfl rfl (by kernel_rfl) (Pur.mv rfl) ?_
            refine RegD.tpur (i := 1) rfl rfl rfl rfl (by kernel_rfl) (Pur.mv rfl) ?_
            refine RegD.tpur (i := 2) rfl rfl rfl rfl (by kernel_rfl) (Pur.nilc rfl) ?_
            refine RegD.tpur (i := 3) rfl rfl rfl rfl (by kernel_rfl) (Pur.fld _ fo105_1 rfl) ?_
            refine RegD.take (i := 4) rfl rfl rfl rfl (by kernel_rfl) (Bks.cons ho.blk (Bks.cons hBq.blk (Bks.cons o3_3.blk Bks.nil))) (fun H hS => Lod.ld sc4 rfl hS.hd rfl) ?_
            refine RegD.tpur (i := 5) rfl rfl rfl rfl (by kernel_rfl) (Pur.mv rfl) ?_
            refine RegD.case 66 rfl (fun q66 => ?_) (fun q66 => ?_)
            · first | (simp only [decide_eq_true_eq, decide_eq_false_iff_not, Bool.not_eq_true', Bool.not_eq_false', ne_eq, Decidable.not_not, Bool.not_eq_true, Bool.not_eq_false] at q66) | (dsimp only at q66) | skip
              refine RegD.gtpur (i := 6) rfl rfl rfl rfl rfl rfl (by kernel_rfl) (Pur.mv rfl) ?_
              refine RegD.gtpur (i := 7) rfl rfl rfl rfl rfl rfl (by kernel_rfl) (Pur.nilc rfl) ?_
              refine RegD.gtpur (i := 8) rfl rfl rfl rfl rfl rfl (by kernel_rfl) (Pur.fld _ fo105_0 rfl) ?_
              refine RegD.gtake (i := 9) rfl rfl rfl rfl rfl rfl (by kernel_rfl) (Bks.cons ho.blk (Bks.cons hBq.blk (Bks.cons o3_3.blk Bks.nil))) (fun H hS => Lod.ld sc25 rfl hS.hd rfl) ?_
              refine RegD.gtpur (i := 10) rfl rfl rfl rfl rfl rfl (by kernel_rfl) (Pur.mv rfl) ?_
              refine RegD.gtpur (i := 11) rfl rfl rfl rfl rfl rfl (by kernel_rfl) (Pur.idx _ es25 rfl rfl (by omega) (by omega)) ?_
              refine RegD.gtpur (i := 12) rfl rfl rfl rfl rfl rfl (by kernel_rfl) (Pur.fld _ fo57_2 rfl) ?_
              refine RegD.gtake (i := 13) rfl rfl rfl rfl rfl rfl (by kernel_rfl) (Bks.cons ho.blk (Bks.cons hBq.blk (Bks.cons o3_3.blk Bks.nil))) (fun H hS => Lod.ldn ag55 rfl hS.tl.hd (spM_ld hdi) rfl) ?_
              refine RegD.gtake (i := 14) rfl rfl rfl rfl rfl rfl (by kernel_rfl) (Bks.cons ho.blk (Bks.cons hBq.blk (Bks.cons o3_3.blk Bks.nil))) (fun H hS => Lod.ldn ag55 rfl hS.tl.tl.hd (whole rfl) rfl) ?_
              refine RegD.gone (i := 15) (by kernel_rfl) rfl rfl rfl rfl rfl rfl (Does.call rfl (sameR_ok hok7.nine h9s hsl7 hSp hok7.max)) ?_
              rintro _ H8_15 ⟨rfl, hE8_15⟩
              have z8_15 := hE8_15.lt
              replace hE := hE.ext hE8_15
              replace ho := ho.ext hE8_15
              replace o10 := o10.ext hE8_15
              replace o3_3 := o3_3.ext hE8_15
              replace hSp := hSp.ext hE8_15
              replace hBq := hBq.ext hE8_15
              replace hsl7 := hsl7.ext hE8_15
              refine ⟨fun _ _ => (Bks.cons ho.blk (Bks.cons hBq.blk (Bks.cons o3_3.blk Bks.nil))), ?_⟩
              refine RegD.tpur (i := 16) rfl rfl rfl rfl (by kernel_rfl) (Pur.pickT rfl rfl) ?_
              refine RegD.tpur (i := 17) rfl rfl rfl rfl (by kernel_rfl) (Pur.nilc rfl) ?_
              refine RegD.tpur (i := 18) rfl rfl rfl rfl (by kernel_rfl) (Pur.fld _ fo105_1 rfl) ?_
              have hE8 := hE

              refine RegD.one0 (i := 19) (by kernel_rfl) rfl rfl rfl (Does.st sc4 rfl rfl rfl ho (by first | decide | (simp; done) | (simp; omega) | omega)) ?_
              rintro _ H8_19 hu8_19
              have z8_19 := hu8_19.size
              replace ho := hu8_19.own
              refine ⟨fun h => (by cases h), ?_⟩
              refine RegD.done (by kernel_rfl) ?_
              refine At.ret rfl Tryd.func60 rfl ?_
              refine ⟨_, cap, Bs, M, _, (h.ext hE8).sb hu8_19, ho, (Md.of_ext hE8).trans ⟨hu8_19.but.mono (fun b hb e => Or.inl e), .inl rfl⟩, by omega, ?_, fun hok M2 hM2 => ?_⟩
              · rw [hdec, hi1, q66]; by_cases hus : u = st <;> simp [hus]
              · rw [hi1] at hM2; split at hM2 <;> cases hM2; rfl
            first | (simp only [decide_eq_true_eq, decide_eq_false_iff_not, Bool.not_eq_true', Bool.not_eq_false', ne_eq, Decidable.not_not, Bool.not_eq_true, Bool.not_eq_false] at q66) | (dsimp only at q66) | skip
            refine RegD.skip (i := 6) rfl rfl rfl rfl rfl rfl rfl (by kernel_rfl) ?_
            refine RegD.skip (i := 7) rfl rfl rfl rfl rfl rfl rfl (by kernel_rfl) ?_
            refine RegD.skip (i := 8) rfl rfl rfl rfl rfl rfl rfl (by kernel_rfl) ?_
            refine RegD.skip (i := 9) rfl rfl rfl rfl rfl rfl rfl (by kernel_rfl) ?_
            refine RegD.skip (i := 10) rfl rfl rfl rfl rfl rfl rfl (by kernel_rfl) ?_
            refine RegD.skip (i := 11) rfl rfl rfl rfl rfl rfl rfl (by kernel_rfl) ?_
            refine RegD.skip (i := 12) rfl rfl rfl rfl rfl rfl rfl (by kernel_rfl) ?_
            refine RegD.skip (i := 13) rfl rfl rfl rfl rfl rfl rfl (by kernel_rfl) ?_
            refine RegD.skip (i := 14) rfl rfl rfl rfl rfl rfl rfl (by kernel_rfl) ?_
            refine RegD.skip (i := 15) rfl rfl rfl rfl rfl rfl rfl (by kernel_rfl) ?_
            refine RegD.tpur (i := 16) rfl rfl rfl rfl (by kernel_rfl) (Pur.pickF rfl rfl) ?_
            refine RegD.tpur (i := 17) rfl rfl rfl rfl (by kernel_rfl) (Pur.nilc rfl) ?_
            refine RegD.tpur (i := 18) rfl rfl rfl rfl (by kernel_rfl) (Pur.fld _ fo105_1 rfl) ?_
            have hE8 := hE

            refine RegD.one0 (i := 19) (by kernel_rfl) rfl rfl rfl (Does.st sc4 rfl rfl rfl ho (by first | decide | (simp; done) | (simp; omega) | omega)) ?_
            rintro _ H8_19 hu8_19
            have z8_19 := hu8_19.size
            replace ho := hu8_19.own
            refine ⟨fun h => (by cases h), ?_⟩
            refine RegD.done (by kernel_rfl) ?_
            refine At.ret rfl Tryd.func60 rfl ?_
            refine ⟨_, cap, Bs, M, _, (h.ext hE8).sb hu8_19, ho, (Md.of_ext hE8).trans ⟨hu8_19.but.mono (fun b hb e => Or.inl e), .inl rfl⟩, by omega, by rw [q66]; rfl, fun hok M2 hM2 => by rw [hok] at q66; cases q66⟩
          first | (simp only [decide_eq_true_eq, decide_eq_false_iff_not, Bool.not_eq_true', Bool.not_eq_false', ne_eq, Decidable.not_not, Bool.not_eq_true, Bool.not_eq_false] at q60) | (dsimp only at q60) | skip
          refine At.region rfl rfl ?_
          refine Reg.pur rfl rfl rfl rfl (Pur.mv rfl) ?_
          first | refine Reg.pur rfl rfl rfl rfl (Pur.add64 rfl rfl (by omega)) ?_ | refine Reg.pur rfl rfl rfl rfl (Pur.add64 rfl rfl (by assumption)) ?_ | refine Reg.pur rfl rfl rfl rfl (Pur.add rfl rfl) ?_
          refine Reg.pur rfl rfl rfl rfl (Pur.asg rfl) ?_
          refine Reg.nil ?_
          have hnx : findT (M.take (i + 1)) v = none := by { rw [take_findT hjm hnf]; generalize M[i] = x at hpi; cases x with | r v' w => rfl | t v' w => (have e1 : Bs[i].var = v' := congrArg (fun p => p.1) hpi; have e2 : Bs[i].isRow = false := congrArg (fun p => p.2.1) hpi; simp only [findT]; rw [if_neg (fun e => by first | (rw [e2] at q48; cases q48; done) | exact q60 (e1.trans e))]) }
          exact At.via (ih (i + 1) _ ⟨by omega, rfl, hnx⟩ (by omega)) ⟨rfl, rfl, rfl, rfl, trivial⟩
        first | (simp only [decide_eq_true_eq, decide_eq_false_iff_not, Bool.not_eq_true', Bool.not_eq_false', ne_eq, Decidable.not_not, Bool.not_eq_true, Bool.not_eq_false] at q48) | (dsimp only at q48) | skip
        refine RegD.skip (i := 10) rfl rfl rfl rfl rfl rfl rfl (by kernel_rfl) ?_
        refine RegD.skip (i := 11) rfl rfl rfl rfl rfl rfl rfl (by kernel_rfl) ?_
        refine RegD.skip (i := 12) rfl rfl rfl rfl rfl rfl rfl (by kernel_rfl) ?_
        refine RegD.skip (i := 13) rfl rfl rfl rfl rfl rfl rfl (by kernel_rfl) ?_
        refine RegD.skip (i := 14) rfl rfl rfl rfl rfl rfl rfl (by kernel_rfl) ?_
        refine RegD.skip (i := 15) rfl rfl rfl rfl rfl rfl rfl (by kernel_rfl) ?_
        refine RegD.skip (i := 16) rfl rfl rfl rfl rfl rfl rfl (by kernel_rfl) ?_
        refine RegD.skip (i := 17) rfl rfl rfl rfl rfl rfl rfl (by kernel_rfl) ?_
        refine RegD.skip (i := 18) rfl rfl rfl rfl rfl rfl rfl (by kernel_rfl) ?_
        refine RegD.skip (i := 19) rfl rfl rfl rfl rfl rfl rfl (by kernel_rfl) ?_
        refine RegD.skip (i := 20) rfl rfl rfl rfl rfl rfl rfl (by kernel_rfl) ?_
        refine RegD.tpur (i := 21) rfl rfl rfl rfl (by kernel_rfl) (Pur.pickF rfl rfl) ?_
        refine RegD.done (by kernel_rfl) ?_
        refine At.condF rfl rfl rfl ?_
        refine At.region rfl rfl ?_
        refine Reg.pur rfl rfl rfl rfl (Pur.mv rfl) ?_
        first | refine Reg.pur rfl rfl rfl rfl (Pur.add64 rfl rfl (by omega)) ?_ | refine Reg.pur rfl rfl rfl rfl (Pur.add64 rfl rfl (by assumption)) ?_ | refine Reg.pur rfl rfl rfl rfl (Pur.add rfl rfl) ?_
        refine Reg.pur rfl rfl rfl rfl (Pur.asg rfl) ?_
        refine Reg.nil ?_
        have hnx : findT (M.take (i + 1)) v = none := by { rw [take_findT hjm hnf]; generalize M[i] = x at hpi; cases x with | r v' w => rfl | t v' w => (have e1 : Bs[i].var = v' := congrArg (fun p => p.1) hpi; have e2 : Bs[i].isRow = false := congrArg (fun p => p.2.1) hpi; simp only [findT]; rw [if_neg (fun e => by first | (rw [e2] at q48; cases q48; done) | exact q60 (e1.trans e))]) }
        exact At.via (ih (i + 1) _ ⟨by omega, rfl, hnx⟩ (by omega)) ⟨rfl, rfl, rfl, rfl, trivial⟩
      first | (simp only [decide_eq_true_eq, decide_eq_false_iff_not, Bool.not_eq_true', Bool.not_eq_false', ne_eq, Decidable.not_not, Bool.not_eq_true, Bool.not_eq_false] at q36) | (dsimp only at q36) | skip
      have hpl := hSp.lt
      refine At.drawE ((Bks.cons ho.blk (Bks.cons o10.blk (Bks.cons o3_3.blk Bks.nil)))) [13] mixed rfl rfl ?_
      refine RegD.tpur (i := 0) rfl rfl rfl rfl (by kernel_rfl) (Pur.mv rfl) ?_
      refine RegD.tpur (i := 1) rfl rfl rfl rfl (by kernel_rfl) (Pur.mv rfl) ?_
      refine RegD.tpur (i := 2) rfl rfl rfl rfl (by kernel_rfl) (Pur.nilc rfl) ?_
      refine RegD.tpur (i := 3) rfl rfl rfl rfl (by kernel_rfl) (Pur.fld _ fo105_0 rfl) ?_
      refine RegD.take (i := 4) rfl rfl rfl rfl (by kernel_rfl) (Bks.cons ho.blk (Bks.cons o10.blk (Bks.cons o3_3.blk Bks.nil))) (fun H hS => Lod.ld sc25 rfl hS.hd rfl) ?_
      refine RegD.tpur (i := 5) rfl rfl rfl rfl (by kernel_rfl) (Pur.fld _ fo65_1 rfl) ?_
      refine RegD.take (i := 6) rfl rfl rfl rfl (by kernel_rfl) (Bks.cons ho.blk (Bks.cons o10.blk (Bks.cons o3_3.blk Bks.nil))) (fun H hS => Lod.ld sc3 rfl hS.tl.hd (lstK_at hg _ 1 (by decide))) ?_
      refine RegD.take (i := 7) rfl rfl rfl rfl (by kernel_rfl) (Bks.cons ho.blk (Bks.cons o10.blk (Bks.cons o3_3.blk Bks.nil))) (fun H hS => Lod.ldn ag55 rfl hS.tl.tl.hd (whole rfl) rfl) ?_
      refine RegD.tpur (i := 8) rfl rfl rfl rfl (by kernel_rfl) (Pur.bld (cs := [_, _, _, _, _, _, _, _]) pl57 zc57 rfl rfl ⟨rfl, rfl, rfl, rfl, rfl, rfl, rfl, rfl, rfl⟩) ?_
      refine RegD.one (i := 9) (by kernel_rfl) rfl rfl rfl rfl (Does.bslA ([encB ⟨v, false, Ap, cp, st.enc 0, noRow⟩]) slA25 rfl rfl rfl rfl rfl rfl) ?_
      rintro _ H9_9 ⟨rfl, hp9_9⟩
      have hn9_9 := New.of_eq hp9_9
      have z9_9 := hn9_9.size
      replace hE := hE.ext hn9_9.ext
      replace ho := ho.ext hn9_9.ext
      replace o10 := o10.ext hn9_9.ext
      replace o3_3 := o3_3.ext hn9_9.ext
      replace hSp := hSp.ext hn9_9.ext
      have o9_9 := hn9_9.own
      refine ⟨fun _ _ => (Bks.cons ho.blk (Bks.cons o10.blk (Bks.cons o3_3.blk Bks.nil))), ?_⟩
      have hgs := hMt.g.ext hn9_9.ext
      have hE9 := hE
      have hSp9 := hSp

      have z_hgs := hgs.lt
      refine RegD.one (i := 10) (by kernel_rfl) rfl rfl rfl rfl (Does.appL apt25 rfl rfl (by decide) hgs (fun x hx ↦ by rw [List.mem_singleton.1 hx]; rfl) (sl_one (x := ⟨v, false, Ap, cp, st.enc 0, noRow⟩) rfl (by decide) hn9_9) (ones_fl _) (by simp; omega) (by omega)) ?_
      rintro _ H9_10 ⟨A9_10, cap9_10, rfl, g9_10, hbut9_10, ha9_10⟩
      have z9_10 := hbut9_10.lt
      replace ho := ho.via hbut9_10 (by first | omega | (intro g; omega) | (intro g hg; omega) | (intro g hg h; omega))
      replace o10 := o10.via hbut9_10 (by first | omega | (intro g; omega) | (intro g hg; omega) | (intro g hg h; omega))
      replace o3_3 := o3_3.via hbut9_10 (by first | omega | (intro g; omega) | (intro g hg; omega) | (intro g hg h; omega))
      replace o9_9 := o9_9.via hbut9_10 (by first | omega | (intro g; omega) | (intro g hg; omega) | (intro g hg h; omega))
      replace hgs := g9_10
      have zg9_10 := g9_10.lt
      refine ⟨fun _ _ => (Bks.cons ho.blk (Bks.cons o10.blk (Bks.cons o3_3.blk Bks.nil))), ?_⟩
      refine RegD.tpur (i := 11) rfl rfl rfl rfl (by kernel_rfl) (Pur.nilc rfl) ?_
      refine RegD.tpur (i := 12) rfl rfl rfl rfl (by kernel_rfl) (Pur.fld _ fo105_0 rfl) ?_
      refine RegD.one0 (i := 13) (by kernel_rfl) rfl rfl rfl (Does.st sc25 rfl rfl rfl ho (by first | decide | (simp; done) | (simp; omega) | omega)) ?_
      rintro _ H9_13 hu9_13
      have z9_13 := hu9_13.size
      replace o10 := o10.upw hu9_13 (by omega)
      replace o3_3 := o3_3.upw hu9_13 (by omega)
      replace o9_9 := o9_9.upw hu9_13 (by omega)
      replace hgs := hgs.upw hu9_13 (by omega)
      replace ho := hu9_13.own
      refine ⟨fun h => (by cases h), ?_⟩
      refine RegD.done (by kernel_rfl) ?_
      refine At.ret rfl Tryd.func60 rfl ?_
      have hbs : But (fun x => x = sb ∨ (x : Int) = ob A) H9_9 H9_13 := (hbut9_10.mono (fun b hb e => Or.inr e)).trans (hu9_13.but.mono (fun b hb e => Or.inl e))
      have hnn : findT M v = none := by rw [List.take_of_length_le (by omega)] at hnf; exact hnf
      have hsn := st.enc_len 0
      have hap := (h.ext hE9).app (bd := ⟨v, false, Ap, cp, st.enc 0, noRow⟩) (b := .t v st) rfl ⟨hSp9, h9s, rfl, by dsimp only; omega⟩ (.inr ⟨by dsimp only; omega, by dsimp only; omega⟩) (fun v' u e => by cases e; exact hst) hgs hbs (by omega) (by omega)
      have hi1 : inst M (.var v) st = some (M ++ [.t v st]) := by simp only [inst]; rw [hnn]
      refine ⟨_, _, _, _, _, hap, ho, (Md.of_ext hE9).trans ⟨hbs, by omega⟩, by simp; omega, by rw [hi1]; simp, fun hok M2 hM2 => ?_⟩
      rw [hi1] at hM2; exact Option.some.inj hM2
    first | (simp only [decide_eq_true_eq, decide_eq_false_iff_not, Bool.not_eq_true', Bool.not_eq_false', ne_eq, Decidable.not_not, Bool.not_eq_true, Bool.not_eq_false] at q26) | (dsimp only at q26) | skip
    refine At.region rfl rfl ?_
    refine Reg.pur rfl rfl rfl rfl (Pur.fld _ fo65_0 rfl) ?_
    refine Reg.lod rfl rfl rfl rfl (Lod.ld sc3 rfl o10.blk (lstK_at hg _ 0 (by decide))) ?_
    refine Reg.pur rfl rfl rfl rfl (Pur.fld _ fo65_0 rfl) ?_
    refine Reg.lod rfl rfl rfl rfl (Lod.ld sc3 rfl o11.blk (lstK_at hst _ 0 (by decide))) ?_
    refine Reg.pur rfl rfl rfl rfl (Pur.neq rfl rfl) ?_
    refine Reg.nil ?_
    refine At.cond rfl rfl (fun q97 => ?_) (fun q97 => ?_)
    · first | (simp only [decide_eq_true_eq, decide_eq_false_iff_not, Bool.not_eq_true', Bool.not_eq_false', ne_eq, Decidable.not_not, Bool.not_eq_true, Bool.not_eq_false] at q97) | (dsimp only at q97) | skip
      refine At.region rfl rfl ?_
      refine Reg.pur rfl rfl rfl rfl (Pur.mv rfl) ?_
      refine Reg.pur rfl rfl rfl rfl (Pur.nilc rfl) ?_
      refine Reg.pur rfl rfl rfl rfl (Pur.fld _ fo105_1 rfl) ?_
      have hE11 := hE

      refine Reg.op0 rfl rfl rfl (Does.st sc4 rfl rfl rfl ho (by first | decide | (simp; done) | (simp; omega) | omega)) ?_
      rintro _ H11_3 hu11_3
      have z11_3 := hu11_3.size
      replace o6 := o6.upw hu11_3 (by omega)
      replace o8 := o8.upw hu11_3 (by omega)
      replace o10 := o10.upw hu11_3 (by omega)
      replace o11 := o11.upw hu11_3 (by omega)
      replace ho := hu11_3.own
      refine Reg.nil ?_
      refine At.region rfl rfl ?_
      refine Reg.pur rfl rfl rfl rfl (Pur.mv rfl) ?_
      refine Reg.pur rfl rfl rfl rfl (Pur.nilc rfl) ?_
      refine Reg.pur rfl rfl rfl rfl (Pur.fld _ fo105_1 rfl) ?_
      refine Reg.lod rfl rfl rfl rfl (Lod.ld sc4 rfl ho.blk rfl) ?_
      refine Reg.pur rfl rfl rfl rfl (Pur.mv rfl) ?_
      refine Reg.case 105 rfl (fun q105 => ?_) (fun q105 => ?_)
      · first | (simp only [decide_eq_true_eq, decide_eq_false_iff_not, Bool.not_eq_true', Bool.not_eq_false', ne_eq, Decidable.not_not, Bool.not_eq_true, Bool.not_eq_false] at q105) | (dsimp only at q105) | skip
        cases q105
      first | (simp only [decide_eq_true_eq, decide_eq_false_iff_not, Bool.not_eq_true', Bool.not_eq_false', ne_eq, Decidable.not_not, Bool.not_eq_true, Bool.not_eq_false] at q105) | (dsimp only at q105) | skip
      refine Reg.skip rfl rfl rfl rfl rfl rfl rfl ?_
      refine Reg.skip rfl rfl rfl rfl rfl rfl rfl ?_
      refine Reg.skip rfl rfl rfl rfl rfl rfl rfl ?_
      refine Reg.pur rfl rfl rfl rfl (Pur.pickF rfl rfl) ?_
      refine Reg.nil ?_
      refine At.condF rfl rfl rfl ?_
      refine At.fall rfl Tryd.func60 rfl ?_
      first | exact ⟨_, cap, Bs, M, _, h.ext hE, ho, Md.of_ext hE, by omega, by rw [q105]; rfl, fun hok => by rw [hok] at q105; cases q105⟩ | exact ⟨_, cap, Bs, M, _, (h.ext hE11).sb hu11_3, ho, (Md.of_ext hE11).trans ⟨hu11_3.but.mono (fun b hb e => Or.inl e), .inl rfl⟩, by omega, by rw [inst_ne (M := M) q26 q97]; simp, fun hok M2 hM2 => by rw [inst_ne (M := M) q26 q97] at hM2; cases hM2⟩
    first | (simp only [decide_eq_true_eq, decide_eq_false_iff_not, Bool.not_eq_true', Bool.not_eq_false', ne_eq, Decidable.not_not, Bool.not_eq_true, Bool.not_eq_false] at q97) | (dsimp only at q97) | skip
    refine At.region rfl rfl ?_
    refine Reg.pur rfl rfl rfl rfl (Pur.mv rfl) ?_
    refine Reg.pur rfl rfl rfl rfl (Pur.nilc rfl) ?_
    refine Reg.pur rfl rfl rfl rfl (Pur.fld _ fo105_1 rfl) ?_
    refine Reg.lod rfl rfl rfl rfl (Lod.ld sc4 rfl ho.blk rfl) ?_
    refine Reg.pur rfl rfl rfl rfl (Pur.mv rfl) ?_
    refine Reg.case 105 rfl (fun q105 => ?_) (fun q105 => ?_)
    · first | (simp only [decide_eq_true_eq, decide_eq_false_iff_not, Bool.not_eq_true', Bool.not_eq_false', ne_eq, Decidable.not_not, Bool.not_eq_true, Bool.not_eq_false] at q105) | (dsimp only at q105) | skip
      refine Reg.gpur rfl rfl rfl rfl rfl rfl (Pur.fld _ fo65_0 rfl) ?_
      refine Reg.glod rfl rfl rfl rfl rfl rfl (Lod.ld sc3 rfl o10.blk (lstK_at hg _ 0 (by decide))) ?_
      refine Reg.gpur rfl rfl rfl rfl rfl rfl (Pur.eql rfl rfl) ?_
      refine Reg.pur rfl rfl rfl rfl (Pur.pickT rfl rfl) ?_
      refine Reg.nil ?_
      refine At.cond rfl rfl (fun q109 => ?_) (fun q109 => ?_)
      · first | (simp only [decide_eq_true_eq, decide_eq_false_iff_not, Bool.not_eq_true', Bool.not_eq_false', ne_eq, Decidable.not_not, Bool.not_eq_true, Bool.not_eq_false] at q109) | (dsimp only at q109) | skip
        obtain ⟨x1, r1, x2, rfl⟩ := lstK_fn q109
        obtain ⟨y1, r2, y2, rfl⟩ := lstK_fn (q97.symm.trans q109)
        have hok1 : ok = true := q105
        have hps := hn
        simp only [Tm.sz] at hps hLn hKn hl
        have hLa : L = pre ++ x1.enc pre.length ++ (x2.enc ((pre.length : Int) + x1.sz) ++ fNode ((pre.length : Int) + x1.sz - 1) ((pre.length : Int) + x1.sz + x2.sz - 1) r1 :: post) := by rw [hL]; simp only [Tm.enc, List.append_assoc, List.singleton_append]
        have hKa : K = pre' ++ y1.enc pre'.length ++ (y2.enc ((pre'.length : Int) + y1.sz) ++ fNode ((pre'.length : Int) + y1.sz - 1) ((pre'.length : Int) + y1.sz + y2.sz - 1) r2 :: post') := by rw [hK]; simp only [Tm.enc, List.append_assoc, List.singleton_append]
        have hpl1 : (((pre ++ x1.enc pre.length).length : Nat) : Int) = (pre.length : Int) + x1.sz := by rw [List.length_append, Tm.enc_len]; omega
        have hpl2 : (((pre' ++ y1.enc pre'.length).length : Nat) : Int) = (pre'.length : Int) + y1.sz := by rw [List.length_append, Tm.enc_len]; omega
        have hLb : L = (pre ++ x1.enc pre.length) ++ x2.enc ((pre ++ x1.enc pre.length).length : Nat) ++ (fNode ((pre.length : Int) + x1.sz - 1) ((pre.length : Int) + x1.sz + x2.sz - 1) r1 :: post) := by rw [hpl1, hLa]; simp only [List.append_assoc]
        have hKb : K = (pre' ++ y1.enc pre'.length) ++ y2.enc ((pre' ++ y1.enc pre'.length).length : Nat) ++ (fNode ((pre'.length : Int) + y1.sz - 1) ((pre'.length : Int) + y1.sz + y2.sz - 1) r2 :: post') := by rw [hpl2, hKa]; simp only [List.append_assoc]
        have hrp : ((Is (Tm.lstK pre.length (Tm.fn x1 r1 x2))).drop (0 + 4)).take 5 = Is r1 := nod_row (o := 0) (by rw [List.drop_zero, List.take_of_length_le (by rw [List.length_map, hxg]; decide)]; rfl) hg.2.1
        have hrq : ((Is (Tm.lstK pre'.length (Tm.fn y1 r2 y2))).drop (0 + 4)).take 5 = Is r2 := nod_row (o := 0) (by rw [List.drop_zero, List.take_of_length_le (by rw [List.length_map, hxs]; decide)]; rfl) hst.2.1
        refine At.region rfl rfl ?_
        refine Reg.pur rfl rfl rfl rfl (Pur.mv rfl) ?_
        refine Reg.lod rfl rfl rfl rfl (Lod.ldn ag55 rfl o6.blk (whole rfl) rfl) ?_
        refine Reg.pur rfl rfl rfl rfl (Pur.fld _ fo65_2 rfl) ?_
        refine Reg.lod rfl rfl rfl rfl (Lod.ld sc3 rfl o10.blk (lstK_at hg _ 2 (by decide))) ?_
        refine Reg.lod rfl rfl rfl rfl (Lod.ldn ag55 rfl o8.blk (whole rfl) rfl) ?_
        refine Reg.pur rfl rfl rfl rfl (Pur.fld _ fo65_2 rfl) ?_
        refine Reg.lod rfl rfl rfl rfl (Lod.ld sc3 rfl o11.blk (lstK_at hst _ 2 (by decide))) ?_
        refine Reg.op rfl rfl rfl rfl (Does.call rfl (mwalk_ok n (gt := x1) (st := y1) (by omega) (h.ext hE) ho (by omega) hg.1 hst.1 hLa hKa hL9 hK9 hLl hKl (hS1.ext hE) (hS2.ext hE) (by rw [ob_some]; exact hm1) (by rw [ob_some]; exact hm2))) ?_
        rintro w13_7 H13_7 hP1
        obtain ⟨A1', cp1, Bs1, M1, ok1, hMt1, ho1, hM1, hl1, hk1, hMM1⟩ := hP1
        have hMda := (Md.of_ext hE).trans hM1
        have hg1 := hMt1.lt
        have hob1 := hM1.2
        have hsz1 := hM1.1.1
        have hS1a := (hS1.ext hE).via hM1.1 (fun h0 g hg hh => by rw [ob_some] at hg; omega)
        have hS2a := (hS2.ext hE).via hM1.1 (fun h0 g hg hh => by rw [ob_some] at hg; omega)
        replace o6 := o6.via hM1.1 (by omega)
        replace o8 := o8.via hM1.1 (by omega)
        replace o10 := o10.via hM1.1 (by omega)
        replace o11 := o11.via hM1.1 (by omega)
        have z_ho1 := ho1.lt
        have z_o6 := o6.lt
        have z_o8 := o8.lt
        have z_o10 := o10.lt
        have z_o11 := o11.lt
        have z_hS1a := hS1a.lt
        have z_hS2a := hS2a.lt
        refine Reg.nil ?_
        refine At.region rfl rfl ?_
        refine Reg.pur rfl rfl rfl rfl (Pur.mv rfl) ?_
        refine Reg.pur rfl rfl rfl rfl (Pur.fld _ fo65_4 rfl) ?_
        refine Reg.lod rfl rfl rfl rfl (Lod.ldn ag24 rfl o10.blk hrp (by rw [List.length_map]; exact hg.2.1)) ?_
        refine Reg.pur rfl rfl rfl rfl (Pur.fld _ fo65_4 rfl) ?_
        refine Reg.lod rfl rfl rfl rfl (Lod.ldn ag24 rfl o11.blk hrq (by rw [List.length_map]; exact hst.2.1)) ?_
        refine Reg.op rfl rfl rfl rfl (Does.call rfl (mrow_ok hMt1 ho1 (by omega) hg.2.1 hg.2.2.1 hst.2.1 hst.2.2.1)) ?_
        rintro w14_5 H14_5 hP2
        obtain ⟨A2', cp2, Bs2, M2, ok2, hMt2, ho2, hM2, hl2, hk2, hMM2⟩ := hP2
        have hg2 := hMt2.lt
        have hob2 := hM2.2
        have hsz2 := hM2.1.1
        replace hS1a := hS1a.via hM2.1 (fun h0 g hg hh => by rw [ob_some] at hg; omega)
        replace hS2a := hS2a.via hM2.1 (fun h0 g hg hh => by rw [ob_some] at hg; omega)
        replace o6 := o6.via hM2.1 (by omega)
        replace o8 := o8.via hM2.1 (by omega)
        replace o10 := o10.via hM2.1 (by omega)
        replace o11 := o11.via hM2.1 (by omega)
        have z_ho2 := ho2.lt
        have z_o6 := o6.lt
        have z_o8 := o8.lt
        have z_o10 := o10.lt
        have z_o11 := o11.lt
        have z_hS1a := hS1a.lt
        have z_hS2a := hS2a.lt
        refine Reg.nil ?_
        have hcall := mwalk_ok n (gt := x2) (st := y2) (by omega) hMt2 ho2 (by omega) hg.2.2.2 hst.2.2.2 hLb hKb hL9 hK9 hLl hKl hS1a hS2a (by rw [ob_some]; exact hm1) (by rw [ob_some]; exact hm2)
        rw [hpl1, hpl2] at hcall
        refine At.region rfl rfl ?_
        refine Reg.pur rfl rfl rfl rfl (Pur.mv rfl) ?_
        refine Reg.lod rfl rfl rfl rfl (Lod.ldn ag55 rfl o6.blk (whole rfl) rfl) ?_
        refine Reg.pur rfl rfl rfl rfl (Pur.fld _ fo65_3 rfl) ?_
        refine Reg.lod rfl rfl rfl rfl (Lod.ld sc3 rfl o10.blk (lstK_at hg _ 3 (by decide))) ?_
        refine Reg.lod rfl rfl rfl rfl (Lod.ldn ag55 rfl o8.blk (whole rfl) rfl) ?_
        refine Reg.pur rfl rfl rfl rfl (Pur.fld _ fo65_3 rfl) ?_
        refine Reg.lod rfl rfl rfl rfl (Lod.ld sc3 rfl o11.blk (lstK_at hst _ 3 (by decide))) ?_
        refine Reg.op rfl rfl rfl rfl (Does.call rfl (hcall)) ?_
        rintro w15_7 H15_7 hP3
        refine Reg.nil ?_
        refine At.fall rfl Tryd.func60 rfl ?_
        obtain ⟨A3', cp3, Bs3, M3, ok3, hMt3, ho3, hM3, hl3, hk3, hMM3⟩ := hP3
        rw [hok1] at hk1
        obtain ⟨k1, k2⟩ := mt_fn (a := x1) (a' := y1) (b := x2) (b' := y2) (r := r1) (r' := r2) hk1 (hMM1 hok1) hk2 hMM2 hk3 hMM3
        exact ⟨A3', cp3, Bs3, M3, ok3, hMt3, ho3, (hMda.trans hM2).trans hM3, by simp only [Tm.sz]; omega, by rw [hok1]; exact k1, fun _ => k2⟩
      first | (simp only [decide_eq_true_eq, decide_eq_false_iff_not, Bool.not_eq_true', Bool.not_eq_false', ne_eq, Decidable.not_not, Bool.not_eq_true, Bool.not_eq_false] at q109) | (dsimp only at q109) | skip
      refine At.fall rfl Tryd.func60 rfl ?_
      have hi1 := inst_eq (M := M) q26 q109 q97
      exact ⟨_, cap, Bs, M, _, h.ext hE, ho, Md.of_ext hE, by omega, by rw [hi1]; simp, fun hok M2 hM2 => by rw [hi1] at hM2; exact Option.some.inj hM2⟩
    first | (simp only [decide_eq_true_eq, decide_eq_false_iff_not, Bool.not_eq_true', Bool.not_eq_false', ne_eq, Decidable.not_not, Bool.not_eq_true, Bool.not_eq_false] at q105) | (dsimp only at q105) | skip
    refine Reg.skip rfl rfl rfl rfl rfl rfl rfl ?_
    refine Reg.skip rfl rfl rfl rfl rfl rfl rfl ?_
    refine Reg.skip rfl rfl rfl rfl rfl rfl rfl ?_
    refine Reg.pur rfl rfl rfl rfl (Pur.pickF rfl rfl) ?_
    refine Reg.nil ?_
    refine At.condF rfl rfl rfl ?_
    refine At.fall rfl Tryd.func60 rfl ?_
    first | exact ⟨_, cap, Bs, M, _, h.ext hE, ho, Md.of_ext hE, by omega, by rw [q105]; rfl, fun hok => by rw [hok] at q105; cases q105⟩ | exact ⟨_, cap, Bs, M, _, (h.ext hE11).sb hu11_3, ho, (Md.of_ext hE11).trans ⟨hu11_3.but.mono (fun b hb e => Or.inl e), .inl rfl⟩, by omega, by rw [inst_ne (M := M) q26 q97]; simp, fun hok M2 hM2 => by rw [inst_ne (M := M) q26 q97] at hM2; cases hM2⟩
end Go.Proofs.YtlfillhffpiffaaDoor

namespace Go.Proofs.YtlfillhffpiffaaDoor
set_option linter.unusedSimpArgs false
set_option linter.unusedVariables false
set_option maxRecDepth 8000
set_option maxHeartbeats 1000000
open Go Go.Fx Go.Proofs
namespace FactsUniAA
theorem ag55 : ag Tryd.prog 55 = some 1 := by kernel_rfl
theorem es25 : esz Tryd.prog 25 = some 8 := by kernel_rfl
theorem fo57_0 : foff Tryd.prog 57 0 = some 0 := by kernel_rfl
theorem fo57_2 : foff Tryd.prog 57 2 = some 2 := by kernel_rfl
theorem isl25 : isSl Tryd.prog 25 = true := by kernel_rfl
theorem sc3 : sc Tryd.prog 3 = true := by kernel_rfl
end FactsUniAA
open FactsUniAA

end Go.Proofs.YtlfillhffpiffaaDoor

namespace Go.Proofs.YtlfillhffpiffaaDoor
set_option linter.unusedSimpArgs false
set_option linter.unusedVariables false
set_option maxRecDepth 8000
set_option maxHeartbeats 1000000
open Go Go.Fx Go.Proofs
namespace FactsUniMC
theorem ag55 : ag Tryd.prog 55 = some 1 := by kernel_rfl
theorem fo105_1 : foff Tryd.prog 105 1 = some 1 := by kernel_rfl
theorem fo55_0 : foff Tryd.prog 55 0 = some 0 := by kernel_rfl
theorem isl53 : isSl Tryd.prog 53 = true := by kernel_rfl
theorem pl105 : places Tryd.prog 105 = some [(0, 1), (1, 1)] := by kernel_rfl
theorem sc4 : sc Tryd.prog 4 = true := by kernel_rfl
theorem sc53 : sc Tryd.prog 53 = true := by kernel_rfl
theorem zc105 : zc Tryd.prog 105 = some [.slice none 0 0, .bool false] := by kernel_rfl
end FactsUniMC
open FactsUniMC

theorem mts_nil {H : Heap} {lo sb : Nat} (h : lo ≤ sb) : Mts H lo sb none 0 [] [] :=
  ⟨OwnS.nil _ _ _ _, (fun b hb => by cases hb), (fun b hb => by cases hb), rfl, by show (-1 : Int) ≠ sb; omega, h, fun v u hm => by cases hm⟩
end Go.Proofs.YtlfillhffpiffaaDoor

namespace Go.Proofs.YtlfillhffpiffaaDoor
set_option linter.unusedSimpArgs false
set_option linter.unusedVariables false
set_option maxRecDepth 8000
open Go Go.Fx Go.Proofs
namespace FactsUniSA
theorem apt94 : appT Tryd.prog 94 = some (5, 1, 1) := by kernel_rfl
theorem isl94 : isSl Tryd.prog 94 = true := by kernel_rfl
theorem sl1_94 : Go.Fx.sl1 Tryd.prog 94 = true := by kernel_rfl
end FactsUniSA
open FactsUniSA

abbrev eb (x : Int) : List Value := [.int .u8 x]
theorem wideb (L : List Int) : Wide eb 1 L := fun _ _ => rfl
theorem flat_eb : ∀ L : List Int, L.flatMap eb = L.map (Value.int .u8)
  | [] => rfl
  | x :: L => by rw [List.flatMap_cons, flat_eb L]; rfl
theorem ones_eb (L : List Int) : ones (L.flatMap eb) = true := by
  simp only [ones, List.all_eq_true, List.mem_flatMap]
  rintro v ⟨x, _, hv⟩
  simp only [List.mem_singleton] at hv
  subst hv; rfl
def bstr (l : List Int) : ByteArray := l.foldl (fun r n => r.push (UInt8.ofNat n.toNat)) ByteArray.empty
theorem push_size : ∀ (l : List Int) (s : ByteArray), (l.foldl (fun r n => r.push (UInt8.ofNat n.toNat)) s).size = s.size + l.length
  | [], _ => rfl
  | x :: l, s => by
    rw [List.foldl_cons, push_size l, ByteArray.size_push, List.length_cons]; omega
theorem bstr_size (l : List Int) : (bstr l).size = l.length := by
  unfold bstr; rw [push_size]; simp
section rules
variable {P : Program} {dst : Option Tmp} {ty : TypeId} {pos : String} {aft : Array Edge} {gd : Option (Nat × Bool)} {e : Env} {H : Heap}
theorem Pur.addS {t t' : TypeId} {x y : Operand} {a b : ByteArray} (hx : ev e x = some (.string a)) (hy : ev e y = some (.string b)) (h : a.size + b.size ≤ 9223372036854775807) :
    Pur P ⟨dst, .binOp .add t x y t', ty, pos, aft, gd⟩ e (.string (a ++ b)) := by
  intro A w hA
  have e1 := hA.ev hx
  have e2 := hA.ev hy
  have hn : ¬ ((a.size + b.size : Nat) : Int) > IntKind.i64.max := by rw [show IntKind.i64.max = 9223372036854775807 from rfl]; omega
  simp only [execOp, e1, e2, eqGuard_at_string, Sem.run_bind, Sem.run_pure, Result.andThen_ok]
  simp only [binOp, Op.stringOp]
  rw [if_neg hn]
  simp
theorem Lod.bstr {src t el : TypeId} {x : Operand} {A : Option Addr} {cap : Nat} {l : List Int} (hs : P.underlying src = some (.slice el)) (he : P.underlying el = some (.int .u8)) (hd : P.underlying t = some .string)
    (hx : ev e x = some (.slice A l.length cap)) (hS : SlT H eb 1 (.slice A l.length cap) l) : Lod P ⟨dst, .convert src t x, ty, pos, aft, gd⟩ e H (.string (bstr l)) := by
  intro a w hw hA
  have e1 := hA.ev hx
  have hr : (Conv.bytesToString (.slice A l.length cap)).run P w = .ok (.string (Proofs.YtlfillhffpiffaaDoor.bstr l)) w := by
    obtain ⟨_, A', cap', hv, _, h3⟩ := sl_src (wideb l) hS
    simp only [Value.slice.injEq, true_and] at hv
    obtain ⟨rfl, rfl⟩ := hv
    rcases h3 with h0 | ⟨b, o, c, rfl, hb, hc⟩
    · obtain rfl : l = [] := List.eq_nil_of_length_eq_zero h0
      cases A with
      | none => simp [Conv.bytesToString]; try rfl
      | some ad => exact run_bytesToString w ad 0 cap [] (by simp [loadCells, loadCellsFrom])
    · refine run_bytesToString w _ l.length cap l ?_
      rw [Nat.mul_one] at hc
      rw [loadCells_run hb hc (by rw [flat_eb]; simp) hw, flat_eb]
  simp only [execOp, e1]
  rw [Sem.run_bind, run_convert_bytes_string w src t el _ _ _ hs he hd, hr]
  simp
end rules

def decG : Nat → Nat → List Int → List Int
  | 0, _, l => l
  | f + 1, n, l => if n = 0 ∧ l.length ≠ 0 then l else decG f (n / 10) (((48 + n % 10 : Nat) : Int) :: l)
def decI (n : Nat) : List Int := decG 8 n []
theorem decG_len : ∀ (f n : Nat) (l : List Int), (decG f n l).length ≤ f + l.length
  | 0, n, l => by simp [decG]
  | f + 1, n, l => by
    unfold decG; split
    · omega
    · have := decG_len f (n / 10) (((48 + n % 10 : Nat) : Int) :: l)
      rw [List.length_cons] at this; omega
def dec (n : Nat) : ByteArray := bstr (decI n)
theorem dec_size (n : Nat) : (dec n).size ≤ 8 := by
  unfold dec; rw [bstr_size]; exact decG_len 8 n []
theorem dig_eq (n : Nat) (h : n < 100000000) : IntKind.u8.wrap (IntKind.u64.wrap (48 + (n : Int).tmod 10)) = ((48 + n % 10 : Nat) : Int) := by
  have : (n : Int).tmod 10 = ((n % 10 : Nat) : Int) := by rw [Int.tmod_eq_emod_of_nonneg (by omega)]; omega
  rw [this, IntWalk.u64_in _ (by omega), IntWalk.u8_in _ (by omega)]; omega
theorem quo_eq (n : Nat) (h : n < 100000000) : IntKind.u64.wrap ((n : Int).tdiv 10) = ((n / 10 : Nat) : Int) := by
  have : (n : Int).tdiv 10 = ((n / 10 : Nat) : Int) := by rw [Int.tdiv_eq_ediv_of_nonneg (by omega)]; omega
  rw [this, IntWalk.u64_in _ (by omega)]
theorem decG_go {f n : Nat} {l : List Int} (h : 0 < n ∨ l.length = 0) : decG (f + 1) n l = decG f (n / 10) (((48 + n % 10 : Nat) : Int) :: l) := by
  show (if _ then _ else _) = _
  rw [if_neg (by omega)]
theorem decG_end {f : Nat} {l : List Int} (h : l.length ≠ 0) : decG (f + 1) 0 l = l := by
  show (if _ then _ else _) = _
  rw [if_pos ⟨rfl, h⟩]
theorem pow_step {f n : Nat} (hf : n < 10 ^ (f + 1)) : n / 10 < 10 ^ f := by
  rw [Nat.pow_succ] at hf; omega
theorem decimal_ok (n : Nat) (h : n < 10000000) (H : Heap) :
    Ret Tryd.prog 31 [I n] H (fun r H' => r = .string (dec n) ∧ Ext H H') := by
  have hu : IntKind.u64.wrap (n : Int) = (n : Int) := IntWalk.u64_in _ (by omega)
  refine Ret.of_at (N := 37) Tryd.call31 Tryd.func31 rfl rfl rfl ?_
  have hE := Ext.refl H
  refine At.region rfl rfl ?_
  refine Reg.pur rfl rfl rfl rfl (Pur.asg rfl) ?_
  refine Reg.nil ?_
  refine At.region rfl rfl ?_
  refine Reg.pur rfl rfl rfl rfl (Pur.mv rfl) ?_
  refine Reg.pur rfl rfl rfl rfl (Pur.cnv Tryd.underlying3 Tryd.underlying93 rfl) ?_
  refine Reg.pur rfl rfl rfl rfl (Pur.asg rfl) ?_
  refine Reg.nil ?_
  refine At.region rfl rfl ?_
  refine Reg.pur rfl rfl rfl rfl (Pur.mv rfl) ?_
  refine Reg.pur rfl rfl rfl rfl (Pur.lss rfl rfl) ?_
  refine Reg.nil ?_
  refine At.condF rfl rfl (decide_eq_false (by omega)) ?_
  refine At.region rfl rfl ?_
  refine Reg.pur rfl rfl rfl rfl (Pur.asg rfl) ?_
  refine Reg.nil ?_
  refine At.loop (σ := Nat × Nat × List Int × Option Addr × Nat) (fun (f, m, l, A, cap) => [(3, .int .u64 m), (4, .slice A l.length cap), (0, I n)]) (fun (f, m, l, A, cap) H' => m < 10 ^ f ∧ m < 10000000 ∧ (l.length = 0 → 0 < f) ∧ l.length ≤ 8 ∧ f + l.length ≤ 8 ∧ decG (f + 1) m l = decI n ∧ SlT H' eb 1 (.slice A l.length cap) l ∧ Ext H H') (fun (f, m, l, A, cap) => f) (7, n, [], none, 0) rfl ⟨by (show some (Value.int .u64 (IntKind.u64.wrap ↑n)) = _); rw [hu], rfl, rfl, trivial⟩ ⟨h, h, fun _ => by decide, by simp, by simp, rfl, sl_nil H, hE⟩ ?_
  rintro ⟨f, m, l, A, cap⟩ H1 ⟨hmf, hm, h0, hl, hfl, hgo, hS, hE1⟩ ih
  dsimp only at hmf hm h0 hl hfl hgo hS ih
  replace hE := hE1
  clear hE1
  have zE := hE.1
  refine At.region rfl rfl ?_
  refine Reg.pur rfl rfl rfl rfl (Pur.mv rfl) ?_
  refine Reg.pur rfl rfl rfl rfl (Pur.gtr rfl rfl) ?_
  refine Reg.pur rfl rfl rfl rfl (Pur.mv rfl) ?_
  refine Reg.case 16 rfl (fun q16 => ?_) (fun q16 => ?_)
  · first | (simp only [decide_eq_true_eq, decide_eq_false_iff_not, Bool.not_eq_true', Bool.not_eq_false', ne_eq, Decidable.not_not, Bool.not_eq_true, Bool.not_eq_false] at q16) | (dsimp only at q16) | skip
    refine Reg.skip rfl rfl rfl rfl rfl rfl rfl ?_
    refine Reg.skip rfl rfl rfl rfl rfl rfl rfl ?_
    refine Reg.skip rfl rfl rfl rfl rfl rfl rfl ?_
    refine Reg.pur rfl rfl rfl rfl (Pur.pickT rfl rfl) ?_
    refine Reg.nil ?_
    refine At.condT rfl rfl rfl ?_
    refine At.region rfl rfl ?_
    refine Reg.pur rfl rfl rfl rfl (Pur.mv rfl) ?_
    first | refine Reg.pur rfl rfl rfl rfl (Pur.rem rfl rfl (by omega)) ?_ | refine Reg.pur rfl rfl rfl rfl (Pur.rem rfl rfl (by decide)) ?_
    refine Reg.pur rfl rfl rfl rfl (Pur.add rfl rfl) ?_
    refine Reg.pur rfl rfl rfl rfl (Pur.cnv Tryd.underlying93 Tryd.underlying5 rfl) ?_
    refine Reg.op rfl rfl rfl rfl (Does.bsl1T sl1_94 Tryd.underlying94 rfl rfl rfl rfl rfl) ?_
    rintro _ H6_4 ⟨rfl, hp6_4⟩
    have hn6_4 := New.of_eq hp6_4
    have z6_4 := hn6_4.size
    replace hE := hE.ext hn6_4.ext
    have o6_4 := hn6_4.own
    rw [dig_eq m (by omega)] at hp6_4
    have hg : Gs H6_4 H1.size 5 1 (some ⟨H1.size, 0, none⟩) 1 [((48 + m % 10 : Nat) : Int)].length ([((48 + m % 10 : Nat) : Int)].flatMap eb) := by rw [hp6_4]; exact OwnS.new (xs := [_]) (n := 1) rfl (by decide) (Nat.le_refl _)
    refine Reg.pur rfl rfl rfl rfl (Pur.mv rfl) ?_

    have z_hg := hg.lt
    refine Reg.op rfl rfl rfl rfl (Does.appL apt94 rfl rfl (by decide) hg (wideb _) (hS.ext hn6_4.ext) (ones_eb _) (by simp; omega) (by omega)) ?_
    rintro _ H6_6 ⟨A6_6, cap6_6, rfl, g6_6, hbut6_6, ha6_6⟩
    have z6_6 := hbut6_6.lt
    replace hE := hE.via hbut6_6 (by first | omega | (intro g; omega) | (intro g hg; omega) | (intro g hg h; omega))
    replace hg := g6_6
    have zg6_6 := g6_6.lt
    refine Reg.pur rfl rfl rfl rfl (Pur.asg rfl) ?_
    refine Reg.nil ?_
    refine At.region rfl rfl ?_
    refine Reg.pur rfl rfl rfl rfl (Pur.mv rfl) ?_
    first | refine Reg.pur rfl rfl rfl rfl (Pur.quo rfl rfl (by omega)) ?_ | refine Reg.pur rfl rfl rfl rfl (Pur.quo rfl rfl (by decide)) ?_
    refine Reg.pur rfl rfl rfl rfl (Pur.asg rfl) ?_
    refine Reg.nil ?_
    rw [decG_go (by omega)] at hgo
    have hf : 0 < f := Nat.pos_of_ne_zero (fun h0' => by (subst h0'; have hm1 : m < 1 := hmf; omega))
    obtain ⟨f', rfl⟩ : ∃ f', f = f' + 1 := ⟨f - 1, by omega⟩
    have hst := ih (f', m / 10, ((48 + m % 10 : Nat) : Int) :: l, A6_6, cap6_6) _ ⟨pow_step hmf, (show m / 10 < 10000000 by omega), fun h => by simp at h, by simp; omega, by simp; omega, hgo, own_sl (wideb _) (by decide) hg, hE⟩ (Nat.lt_succ_self f')
    exact At.meets rfl hst ⟨by (show some (Value.int .u64 (IntKind.u64.wrap ((m : Int).tdiv 10))) = _); rw [quo_eq m (by omega)], rfl, rfl, trivial⟩
  first | (simp only [decide_eq_true_eq, decide_eq_false_iff_not, Bool.not_eq_true', Bool.not_eq_false', ne_eq, Decidable.not_not, Bool.not_eq_true, Bool.not_eq_false] at q16) | (dsimp only at q16) | skip
  refine Reg.gpur rfl rfl rfl rfl rfl rfl (Pur.mv rfl) ?_
  refine Reg.gpur rfl rfl rfl rfl rfl rfl (Pur.lenS isl94 rfl) ?_
  refine Reg.gpur rfl rfl rfl rfl rfl rfl (Pur.eql rfl rfl) ?_
  refine Reg.pur rfl rfl rfl rfl (Pur.pickF rfl rfl) ?_
  refine Reg.nil ?_
  refine At.cond rfl rfl (fun q20 => ?_) (fun q20 => ?_)
  · first | (simp only [decide_eq_true_eq, decide_eq_false_iff_not, Bool.not_eq_true', Bool.not_eq_false', ne_eq, Decidable.not_not, Bool.not_eq_true, Bool.not_eq_false] at q20) | (dsimp only at q20) | skip
    refine At.region rfl rfl ?_
    refine Reg.pur rfl rfl rfl rfl (Pur.mv rfl) ?_
    first | refine Reg.pur rfl rfl rfl rfl (Pur.rem rfl rfl (by omega)) ?_ | refine Reg.pur rfl rfl rfl rfl (Pur.rem rfl rfl (by decide)) ?_
    refine Reg.pur rfl rfl rfl rfl (Pur.add rfl rfl) ?_
    refine Reg.pur rfl rfl rfl rfl (Pur.cnv Tryd.underlying93 Tryd.underlying5 rfl) ?_
    refine Reg.op rfl rfl rfl rfl (Does.bsl1T sl1_94 Tryd.underlying94 rfl rfl rfl rfl rfl) ?_
    rintro _ H6_4 ⟨rfl, hp6_4⟩
    have hn6_4 := New.of_eq hp6_4
    have z6_4 := hn6_4.size
    replace hE := hE.ext hn6_4.ext
    have o6_4 := hn6_4.own
    rw [dig_eq m (by omega)] at hp6_4
    have hg : Gs H6_4 H1.size 5 1 (some ⟨H1.size, 0, none⟩) 1 [((48 + m % 10 : Nat) : Int)].length ([((48 + m % 10 : Nat) : Int)].flatMap eb) := by rw [hp6_4]; exact OwnS.new (xs := [_]) (n := 1) rfl (by decide) (Nat.le_refl _)
    refine Reg.pur rfl rfl rfl rfl (Pur.mv rfl) ?_

    have z_hg := hg.lt
    refine Reg.op rfl rfl rfl rfl (Does.appL apt94 rfl rfl (by decide) hg (wideb _) (hS.ext hn6_4.ext) (ones_eb _) (by simp; omega) (by omega)) ?_
    rintro _ H6_6 ⟨A6_6, cap6_6, rfl, g6_6, hbut6_6, ha6_6⟩
    have z6_6 := hbut6_6.lt
    replace hE := hE.via hbut6_6 (by first | omega | (intro g; omega) | (intro g hg; omega) | (intro g hg h; omega))
    replace hg := g6_6
    have zg6_6 := g6_6.lt
    refine Reg.pur rfl rfl rfl rfl (Pur.asg rfl) ?_
    refine Reg.nil ?_
    refine At.region rfl rfl ?_
    refine Reg.pur rfl rfl rfl rfl (Pur.mv rfl) ?_
    first | refine Reg.pur rfl rfl rfl rfl (Pur.quo rfl rfl (by omega)) ?_ | refine Reg.pur rfl rfl rfl rfl (Pur.quo rfl rfl (by decide)) ?_
    refine Reg.pur rfl rfl rfl rfl (Pur.asg rfl) ?_
    refine Reg.nil ?_
    rw [decG_go (by omega)] at hgo
    have hf : 0 < f := Nat.pos_of_ne_zero (fun h0' => by (subst h0'; have hm1 : m < 1 := hmf; omega))
    obtain ⟨f', rfl⟩ : ∃ f', f = f' + 1 := ⟨f - 1, by omega⟩
    have hst := ih (f', m / 10, ((48 + m % 10 : Nat) : Int) :: l, A6_6, cap6_6) _ ⟨pow_step hmf, (show m / 10 < 10000000 by omega), fun h => by simp at h, by simp; omega, by simp; omega, hgo, own_sl (wideb _) (by decide) hg, hE⟩ (Nat.lt_succ_self f')
    exact At.meets rfl hst ⟨by (show some (Value.int .u64 (IntKind.u64.wrap ((m : Int).tdiv 10))) = _); rw [quo_eq m (by omega)], rfl, rfl, trivial⟩
  first | (simp only [decide_eq_true_eq, decide_eq_false_iff_not, Bool.not_eq_true', Bool.not_eq_false', ne_eq, Decidable.not_not, Bool.not_eq_true, Bool.not_eq_false] at q20) | (dsimp only at q20) | skip
  refine At.region rfl rfl ?_
  refine Reg.pur rfl rfl rfl rfl (Pur.mv rfl) ?_
  refine Reg.pur rfl rfl rfl rfl (Pur.lss rfl rfl) ?_
  refine Reg.nil ?_
  refine At.condF rfl rfl (decide_eq_false (by omega)) ?_
  refine At.region rfl rfl ?_
  refine Reg.pur rfl rfl rfl rfl (Pur.mv rfl) ?_
  refine Reg.lod rfl rfl rfl rfl (Lod.bstr Tryd.underlying94 Tryd.underlying5 Tryd.underlying9 rfl hS) ?_
  refine Reg.pur rfl rfl rfl rfl (Pur.asg rfl) ?_
  refine Reg.nil ?_
  refine At.ret rfl Tryd.func31 rfl ?_
  obtain rfl : m = 0 := by omega
  rw [decG_end (by omega)] at hgo
  exact ⟨by rw [hgo]; rfl, hE⟩
end Go.Proofs.YtlfillhffpiffaaDoor

namespace Go.Proofs.YtlfillhffpiffaaDoor
set_option linter.unusedSimpArgs false
set_option linter.unusedVariables false
set_option maxRecDepth 8000
open Go Go.Fx Go.Proofs
namespace FactsUniSB
theorem arr22 : arr Tryd.prog 22 = some (4, 1) := by kernel_rfl
theorem fo24_0 : foff Tryd.prog 24 0 = some 0 := by kernel_rfl
theorem fo24_1 : foff Tryd.prog 24 1 = some 4 := by kernel_rfl
theorem sc3 : sc Tryd.prog 3 = true := by kernel_rfl
end FactsUniSB
open FactsUniSB

def rone (i : Nat) (s : ByteArray) : ByteArray := (if (!(s.toList == (⟨#[]⟩ : ByteArray).toList)) = true then s ++ ⟨#[44]⟩ else s) ++ ⟨#[111]⟩ ++ dec i
def rrep (i : Nat) : Nat → ByteArray → ByteArray
  | 0, s => s
  | k + 1, s => rone i (rrep i k s)
def rall (r : List Int) : Nat → ByteArray
  | 0 => ⟨#[]⟩
  | i + 1 => rrep i (r.getD i 0).toNat (rall r i)
def rtx (R : List Int) (r : List Int) : ByteArray := ⟨#[60]⟩ ++ (if 0 ≤ r.getD 4 0 then rall r 4 ++ ⟨#[124, 101]⟩ ++ dec (ixL R (r.getD 4 0)) else rall r 4) ++ ⟨#[62]⟩
def rnm (R : List Int) (r : List Int) : List Int := if 0 ≤ r.getD 4 0 then addL R (r.getD 4 0) else R
theorem sz1 (a : UInt8) : (ByteArray.mk #[a]).size = 1 := rfl
theorem sz2 (a b : UInt8) : (ByteArray.mk #[a, b]).size = 2 := rfl
theorem rone_size (i : Nat) (s : ByteArray) : (rone i s).size ≤ s.size + 10 := by
  have := dec_size i
  unfold rone
  rw [ByteArray.size_append, ByteArray.size_append]
  split
  · rw [ByteArray.size_append, sz1, sz1]; omega
  · rw [sz1]; omega
theorem rrep_size (i : Nat) : ∀ (k : Nat) (s : ByteArray), (rrep i k s).size ≤ s.size + 10 * k
  | 0, s => by simp [rrep]
  | k + 1, s => by
    have h1 := rone_size i (rrep i k s)
    have h2 := rrep_size i k s
    unfold rrep; omega
theorem row_cnt {r : List Int} (h5 : r.length = 5) (h : rowM r = true) : ∀ i, i < 4 → 0 ≤ r.getD i 0 ∧ r.getD i 0 ≤ 32 := by
  intro i hi
  unfold rowM at h
  simp only [Bool.and_eq_true, List.all_eq_true] at h
  have := h.1 (r.getD i 0) (by rw [← take4_at h5 hi]; exact List.getElem_mem _)
  simpa [okc] using this
theorem rall_size {r : List Int} (h5 : r.length = 5) (h : rowM r = true) : ∀ i, i ≤ 4 → (rall r i).size ≤ 320 * i
  | 0, _ => Nat.le_refl 0
  | i + 1, hi => by
    have h1 := rrep_size i (r.getD i 0).toNat (rall r i)
    have h2 := rall_size h5 h i (by omega)
    have h3 := row_cnt h5 h i (by omega)
    unfold rall; omega
theorem rtx_size {R r : List Int} (h5 : r.length = 5) (h : rowM r = true) : (rtx R r).size ≤ 1300 := by
  have h1 := rall_size h5 h 4 (Nat.le_refl _)
  have h2 := dec_size (ixL R (r.getD 4 0))
  unfold rtx
  rw [ByteArray.size_append, ByteArray.size_append, sz1, sz1]
  split
  · rw [ByteArray.size_append, ByteArray.size_append, sz2]; omega
  · omega
theorem sza {a b : ByteArray} {m n : Nat} (h : a.size ≤ m) (k : b.size ≤ n) : (a ++ b).size ≤ m + n := by rw [ByteArray.size_append]; omega
theorem szs {a b : ByteArray} {m n : Nat} (h : a.size ≤ m) (k : b.size ≤ n) (hn : m + n ≤ 1000000000000) : a.size + b.size ≤ 9223372036854775807 := by omega
theorem sl1 (a : UInt8) : (ByteArray.mk #[a]).size ≤ 1 := Nat.le_refl _
theorem sl2 (a b : UInt8) : (ByteArray.mk #[a, b]).size ≤ 2 := Nat.le_refl _

theorem rowText_ok {nb B c1 c2 : Nat} {A1 A2 : Option Addr} {T R r : List Int} (h5 : r.length = 5) (hr : rowM r = true) {H : Heap} (hN : Nm H nb B A1 c1 T A2 c2 R) (hm : R.length ≤ 100000) :
    Ret Tryd.prog 57 [ptr nb 0, .agg (Is r).toArray] H (fun v H' => v = .string (rtx R r) ∧ ∃ A2' c2', Nm H' nb B A1 c1 T A2' c2' (rnm R r) ∧ Mod nb A1 A2 A1 A2' H H') := by
  have zN := hN.own.lt
  have hcnt := row_cnt h5 hr
  have hsz := rall_size h5 hr
  refine Ret.of_at (N := 43) Tryd.call57 Tryd.func57 rfl rfl rfl ?_
  have hE := Ext.refl H
  refine At.region rfl rfl ?_
  refine Reg.op rfl rfl rfl rfl (Does.box rfl rfl) ?_
  rintro _ H0_0 ⟨rfl, hn0_0⟩
  have z0_0 := hn0_0.size
  replace hE := hE.ext hn0_0.ext
  have o0_0 := hn0_0.own
  refine Reg.pur rfl rfl rfl rfl (Pur.asg rfl) ?_
  refine Reg.nil ?_
  refine At.region rfl rfl ?_
  refine Reg.pur rfl rfl rfl rfl (Pur.asg rfl) ?_
  refine Reg.nil ?_
  refine At.region rfl rfl ?_
  refine Reg.pur rfl rfl rfl rfl (Pur.asg rfl) ?_
  refine Reg.nil ?_
  refine At.loop (σ := Nat) (fun i => [(6, I i), (5, .string (rall r i)), (0, ptr nb 0), (3, ptr H.size 0)]) (fun i H' => i ≤ 4 ∧ Ext H H' ∧ Own H' H.size (Is r)) (fun i => 4 - i) 0 rfl ⟨rfl, rfl, rfl, rfl, trivial⟩ ⟨by omega, hE, o0_0⟩ ?_
  rintro i H1 ⟨hi, hE1, hX⟩ ih
  replace hE := hE1
  clear hE1
  replace o0_0 := hX
  clear hX
  have zE := hE.1
  refine At.region rfl rfl ?_
  refine Reg.pur rfl rfl rfl rfl (Pur.mv rfl) ?_
  refine Reg.pur rfl rfl rfl rfl (Pur.lss rfl rfl) ?_
  refine Reg.nil ?_
  refine At.cond rfl rfl (fun q9 => ?_) (fun q9 => ?_)
  · first | (simp only [decide_eq_true_eq, decide_eq_false_iff_not, Bool.not_eq_true', Bool.not_eq_false', ne_eq, Decidable.not_not, Bool.not_eq_true, Bool.not_eq_false] at q9) | (dsimp only at q9) | skip
    refine At.region rfl rfl ?_
    refine Reg.pur rfl rfl rfl rfl (Pur.asg rfl) ?_
    refine Reg.nil ?_
    have hlt : i < 4 := by omega
    have hc := hcnt i hlt
    have hs1 := hsz i (by omega)
    refine At.loop (σ := Nat) (fun k => [(7, I k), (6, I i), (5, .string (rrep i k (rall r i))), (0, ptr nb 0), (3, ptr H.size 0)]) (fun k H' => (k : Int) ≤ r.getD i 0 ∧ Ext H H' ∧ Own H' H.size (Is r)) (fun k => (r.getD i 0).toNat - k) 0 rfl ⟨rfl, rfl, rfl, rfl, rfl, trivial⟩ ⟨by omega, hE, o0_0⟩ ?_
    rintro k H2 ⟨hk, hE2, hX2⟩ ih2
    replace hE := hE2
    clear hE2
    replace o0_0 := hX2
    clear hX2
    have zE2 := hE.1
    have hai : (Is r)[0 + 0 + (i : Int).toNat * 1]? = some (I (r.getD i 0)) := by rw [show 0 + 0 + (i : Int).toNat * 1 = i from by omega]; exact at_Is (by omega)
    have hs2 := rrep_size i k (rall r i)
    refine At.region rfl rfl ?_
    refine Reg.pur rfl rfl rfl rfl (Pur.mv rfl) ?_
    refine Reg.pur rfl rfl rfl rfl (Pur.mv rfl) ?_
    refine Reg.pur rfl rfl rfl rfl (Pur.fld _ fo24_0 rfl) ?_
    refine Reg.pur rfl rfl rfl rfl (Pur.idxP arr22 rfl rfl (by omega) (by omega)) ?_
    refine Reg.lod rfl rfl rfl rfl (Lod.ld sc3 rfl o0_0.blk hai) ?_
    refine Reg.pur rfl rfl rfl rfl (Pur.lss rfl rfl) ?_
    refine Reg.nil ?_
    refine At.cond rfl rfl (fun q17 => ?_) (fun q17 => ?_)
    · first | (simp only [decide_eq_true_eq, decide_eq_false_iff_not, Bool.not_eq_true', Bool.not_eq_false', ne_eq, Decidable.not_not, Bool.not_eq_true, Bool.not_eq_false] at q17) | (dsimp only at q17) | skip
      refine At.region rfl rfl ?_
      refine Reg.pur rfl rfl rfl rfl (Pur.mv rfl) ?_
      refine Reg.pur rfl rfl rfl rfl (Pur.neS rfl rfl) ?_
      refine Reg.nil ?_
      refine At.cond rfl rfl (fun q21 => ?_) (fun q21 => ?_)
      · first | (simp only [decide_eq_true_eq, decide_eq_false_iff_not, Bool.not_eq_true', Bool.not_eq_false', ne_eq, Decidable.not_not, Bool.not_eq_true, Bool.not_eq_false] at q21) | (dsimp only at q21) | skip
        refine At.region rfl rfl ?_
        refine Reg.pur rfl rfl rfl rfl (Pur.mv rfl) ?_
        refine Reg.pur rfl rfl rfl rfl (Pur.addS rfl rfl (szs (m := 10000) (by omega) (sl1 _) (by decide))) ?_
        refine Reg.pur rfl rfl rfl rfl (Pur.asg rfl) ?_
        refine Reg.nil ?_
        refine At.region rfl rfl ?_
        refine Reg.pur rfl rfl rfl rfl (Pur.mv rfl) ?_
        refine Reg.pur rfl rfl rfl rfl (Pur.addS rfl rfl (szs (m := 10001) (by first | omega | exact sza (m := 10000) (by omega) (sl1 _)) (sl1 _) (by decide))) ?_
        refine Reg.pur rfl rfl rfl rfl (Pur.mv rfl) ?_
        refine Reg.op rfl rfl rfl rfl (Does.call rfl (decimal_ok i (by omega) _)) ?_
        rintro _ H10_3 ⟨rfl, hE10_3⟩
        have z10_3 := hE10_3.lt
        replace hE := hE.ext hE10_3
        replace o0_0 := o0_0.ext hE10_3
        refine Reg.pur rfl rfl rfl rfl (Pur.addS rfl rfl (szs (m := 10002) (sza (m := 10001) (by first | omega | exact sza (m := 10000) (by omega) (sl1 _)) (sl1 _)) (dec_size _) (by decide))) ?_
        refine Reg.pur rfl rfl rfl rfl (Pur.asg rfl) ?_
        refine Reg.nil ?_
        refine At.region rfl rfl ?_
        refine Reg.pur rfl rfl rfl rfl (Pur.mv rfl) ?_
        first | refine Reg.pur rfl rfl rfl rfl (Pur.add64 rfl rfl (by omega)) ?_ | refine Reg.pur rfl rfl rfl rfl (Pur.add64 rfl rfl (by assumption)) ?_ | refine Reg.pur rfl rfl rfl rfl (Pur.add rfl rfl) ?_
        refine Reg.pur rfl rfl rfl rfl (Pur.asg rfl) ?_
        refine Reg.nil ?_
        exact At.meets rfl (ih2 (k + 1) _ ⟨by omega, hE, o0_0⟩ (by omega)) ⟨rfl, rfl, by (show some (Value.string _) = some (Value.string (rone i (rrep i k (rall r i))))); unfold rone; simp only [q21]; rfl, rfl, rfl, trivial⟩
      first | (simp only [decide_eq_true_eq, decide_eq_false_iff_not, Bool.not_eq_true', Bool.not_eq_false', ne_eq, Decidable.not_not, Bool.not_eq_true, Bool.not_eq_false] at q21) | (dsimp only at q21) | skip
      refine At.region rfl rfl ?_
      refine Reg.pur rfl rfl rfl rfl (Pur.mv rfl) ?_
      refine Reg.pur rfl rfl rfl rfl (Pur.addS rfl rfl (szs (m := 10001) (by first | omega | exact sza (m := 10000) (by omega) (sl1 _)) (sl1 _) (by decide))) ?_
      refine Reg.pur rfl rfl rfl rfl (Pur.mv rfl) ?_
      refine Reg.op rfl rfl rfl rfl (Does.call rfl (decimal_ok i (by omega) _)) ?_
      rintro _ H10_3 ⟨rfl, hE10_3⟩
      have z10_3 := hE10_3.lt
      replace hE := hE.ext hE10_3
      replace o0_0 := o0_0.ext hE10_3
      refine Reg.pur rfl rfl rfl rfl (Pur.addS rfl rfl (szs (m := 10002) (sza (m := 10001) (by first | omega | exact sza (m := 10000) (by omega) (sl1 _)) (sl1 _)) (dec_size _) (by decide))) ?_
      refine Reg.pur rfl rfl rfl rfl (Pur.asg rfl) ?_
      refine Reg.nil ?_
      refine At.region rfl rfl ?_
      refine Reg.pur rfl rfl rfl rfl (Pur.mv rfl) ?_
      first | refine Reg.pur rfl rfl rfl rfl (Pur.add64 rfl rfl (by omega)) ?_ | refine Reg.pur rfl rfl rfl rfl (Pur.add64 rfl rfl (by assumption)) ?_ | refine Reg.pur rfl rfl rfl rfl (Pur.add rfl rfl) ?_
      refine Reg.pur rfl rfl rfl rfl (Pur.asg rfl) ?_
      refine Reg.nil ?_
      exact At.meets rfl (ih2 (k + 1) _ ⟨by omega, hE, o0_0⟩ (by omega)) ⟨rfl, rfl, by (show some (Value.string _) = some (Value.string (rone i (rrep i k (rall r i))))); unfold rone; simp only [q21]; rfl, rfl, rfl, trivial⟩
    first | (simp only [decide_eq_true_eq, decide_eq_false_iff_not, Bool.not_eq_true', Bool.not_eq_false', ne_eq, Decidable.not_not, Bool.not_eq_true, Bool.not_eq_false] at q17) | (dsimp only at q17) | skip
    refine At.region rfl rfl ?_
    refine Reg.pur rfl rfl rfl rfl (Pur.mv rfl) ?_
    first | refine Reg.pur rfl rfl rfl rfl (Pur.add64 rfl rfl (by omega)) ?_ | refine Reg.pur rfl rfl rfl rfl (Pur.add64 rfl rfl (by assumption)) ?_ | refine Reg.pur rfl rfl rfl rfl (Pur.add rfl rfl) ?_
    refine Reg.pur rfl rfl rfl rfl (Pur.asg rfl) ?_
    refine Reg.nil ?_
    obtain hk' : (k : Nat) = (r.getD i 0).toNat := by omega
    exact At.meets rfl (ih (i + 1) _ ⟨by omega, hE, o0_0⟩ (by omega)) ⟨rfl, by (show some (Value.string _) = some (Value.string (rrep i (r.getD i 0).toNat (rall r i)))); rw [← hk'], rfl, rfl, trivial⟩
  first | (simp only [decide_eq_true_eq, decide_eq_false_iff_not, Bool.not_eq_true', Bool.not_eq_false', ne_eq, Decidable.not_not, Bool.not_eq_true, Bool.not_eq_false] at q9) | (dsimp only at q9) | skip
  obtain rfl : i = 4 := by omega
  have hs4 := hsz 4 (by omega)
  have hix := ixL_le R (r.getD 4 0)
  have hN1 := hN.ext hE
  have hM1 : Mod nb A1 A2 A1 A2 H H1 := (Mod.refl nb A1 A2 H).ext hE

  refine At.region rfl rfl ?_
  refine Reg.pur rfl rfl rfl rfl (Pur.fld _ fo24_1 rfl) ?_
  refine Reg.lod rfl rfl rfl rfl (Lod.ld sc3 rfl o0_0.blk (hat4 r h5)) ?_
  refine Reg.pur rfl rfl rfl rfl (Pur.geq rfl rfl) ?_
  refine Reg.nil ?_
  refine At.cond rfl rfl (fun q31 => ?_) (fun q31 => ?_)
  · first | (simp only [decide_eq_true_eq, decide_eq_false_iff_not, Bool.not_eq_true', Bool.not_eq_false', ne_eq, Decidable.not_not, Bool.not_eq_true, Bool.not_eq_false] at q31) | (dsimp only at q31) | skip
    refine At.region rfl rfl ?_
    refine Reg.pur rfl rfl rfl rfl (Pur.mv rfl) ?_
    refine Reg.pur rfl rfl rfl rfl (Pur.addS rfl rfl (szs (m := 1280) (by omega) (sl2 _ _) (by decide))) ?_
    refine Reg.pur rfl rfl rfl rfl (Pur.mv rfl) ?_
    refine Reg.pur rfl rfl rfl rfl (Pur.fld _ fo24_1 rfl) ?_
    refine Reg.lod rfl rfl rfl rfl (Lod.ld sc3 rfl o0_0.blk (hat4 r h5)) ?_
    refine Reg.op rfl rfl rfl rfl (Does.call rfl (nm_row _ hN1 (by omega))) ?_
    rintro _ H12_5 ⟨rfl, A2a, c2a, hN12_5, hM12_5⟩
    refine Reg.op rfl rfl rfl rfl (Does.call rfl (decimal_ok (ixL R (r.getD 4 0)) (by omega) _)) ?_
    rintro _ H12_6 ⟨rfl, hD12_6⟩
    refine Reg.pur rfl rfl rfl rfl (Pur.addS rfl rfl (szs (m := 1282) (sza (m := 1280) (by omega) (sl2 _ _)) (dec_size _) (by decide))) ?_
    refine Reg.pur rfl rfl rfl rfl (Pur.asg rfl) ?_
    refine Reg.nil ?_
    refine At.region rfl rfl ?_
    refine Reg.pur rfl rfl rfl rfl (Pur.mv rfl) ?_
    refine Reg.pur rfl rfl rfl rfl (Pur.addS rfl rfl (szs (n := 1290) (sl1 _) (by first | omega | exact sza (m := 1282) (sza (m := 1280) (by omega) (sl2 _ _)) (dec_size _)) (by decide))) ?_
    refine Reg.pur rfl rfl rfl rfl (Pur.addS rfl rfl (szs (m := 1 + 1290) (n := 1) (sza (m := 1) (n := 1290) (sl1 _) (by first | omega | exact sza (m := 1282) (sza (m := 1280) (by omega) (sl2 _ _)) (dec_size _))) (sl1 _) (by decide))) ?_
    refine Reg.pur rfl rfl rfl rfl (Pur.asg rfl) ?_
    refine Reg.nil ?_
    refine At.ret rfl Tryd.func57 rfl ?_
    exact ⟨by unfold rtx; rw [if_pos q31], A2a, c2a, by unfold rnm; rw [if_pos q31]; exact hN12_5.ext hD12_6, (hM1.trans hM12_5).ext hD12_6⟩
  first | (simp only [decide_eq_true_eq, decide_eq_false_iff_not, Bool.not_eq_true', Bool.not_eq_false', ne_eq, Decidable.not_not, Bool.not_eq_true, Bool.not_eq_false] at q31) | (dsimp only at q31) | skip
  refine At.region rfl rfl ?_
  refine Reg.pur rfl rfl rfl rfl (Pur.mv rfl) ?_
  refine Reg.pur rfl rfl rfl rfl (Pur.addS rfl rfl (szs (n := 1290) (sl1 _) (by first | omega | exact sza (m := 1282) (sza (m := 1280) (by omega) (sl2 _ _)) (dec_size _)) (by decide))) ?_
  refine Reg.pur rfl rfl rfl rfl (Pur.addS rfl rfl (szs (m := 1 + 1290) (n := 1) (sza (m := 1) (n := 1290) (sl1 _) (by first | omega | exact sza (m := 1282) (sza (m := 1280) (by omega) (sl2 _ _)) (dec_size _))) (sl1 _) (by decide))) ?_
  refine Reg.pur rfl rfl rfl rfl (Pur.asg rfl) ?_
  refine Reg.nil ?_
  refine At.ret rfl Tryd.func57 rfl ?_
  exact ⟨by unfold rtx; rw [if_neg q31], A2, c2, by unfold rnm; rw [if_neg q31]; exact hN1, hM1⟩
end Go.Proofs.YtlfillhffpiffaaDoor

namespace Go.Proofs.YtlfillhffpiffaaDoor
set_option linter.unusedSimpArgs false
set_option linter.unusedVariables false
set_option maxRecDepth 8000
open Go Go.Fx Go.Proofs
namespace FactsUniSC
theorem ag24 : ag Tryd.prog 24 = some 5 := by kernel_rfl
theorem ag55 : ag Tryd.prog 55 = some 1 := by kernel_rfl
theorem ag65 : ag Tryd.prog 65 = some 9 := by kernel_rfl
theorem es53 : esz Tryd.prog 53 = some 9 := by kernel_rfl
theorem fo55_0 : foff Tryd.prog 55 0 = some 0 := by kernel_rfl
theorem fo65_0 : foff Tryd.prog 65 0 = some 0 := by kernel_rfl
theorem fo65_1 : foff Tryd.prog 65 1 = some 1 := by kernel_rfl
theorem fo65_2 : foff Tryd.prog 65 2 = some 2 := by kernel_rfl
theorem fo65_3 : foff Tryd.prog 65 3 = some 3 := by kernel_rfl
theorem fo65_4 : foff Tryd.prog 65 4 = some 4 := by kernel_rfl
theorem isl53 : isSl Tryd.prog 53 = true := by kernel_rfl
theorem pl91 : places Tryd.prog 91 = some [(0, 1), (1, 1)] := by kernel_rfl
theorem sc3 : sc Tryd.prog 3 = true := by kernel_rfl
theorem sc53 : sc Tryd.prog 53 = true := by kernel_rfl
theorem zc65 : zc Tryd.prog 65 = some [.int .i64 0, .int .i64 0, .int .i64 0, .int .i64 0, .int .i64 0, .int .i64 0, .int .i64 0, .int .i64 0, .int .i64 0] := by kernel_rfl
theorem zc91 : zc Tryd.prog 91 = some [.slice none 0 0, .slice none 0 0] := by kernel_rfl
end FactsUniSC
open FactsUniSC

def tx : Nms → Tm → ByteArray × Nms
  | N, .bas b => (if b then ⟨#[98, 111, 111, 108]⟩ else ⟨#[105, 110, 116]⟩, N)
  | N, .var v => (⟨#[116]⟩ ++ dec (ixL N.1 v), (addL N.1 v, N.2))
  | N, .fn a r b => (⟨#[40]⟩ ++ (tx N a).1 ++ ⟨#[32, 45]⟩ ++ rtx (tx N a).2.2 r ++ ⟨#[32]⟩ ++ (tx ((tx N a).2.1, rnm (tx N a).2.2 r) b).1 ++ ⟨#[41]⟩, (tx ((tx N a).2.1, rnm (tx N a).2.2 r) b).2)
theorem tx_size : ∀ (t : Tm) (N : Nms), t.ok → (tx N t).1.size ≤ 1400 * t.sz
  | .bas b, N, _ => by cases b <;> exact Nat.le_of_ble_eq_true rfl
  | .var v, N, _ => by
    have := dec_size (ixL N.1 v)
    simp only [tx, Tm.sz]
    rw [ByteArray.size_append, sz1]; omega
  | .fn a r b, N, h => by
    have h1 := tx_size a N h.1
    have h2 := tx_size b ((tx N a).2.1, rnm (tx N a).2.2 r) h.2.2.2
    have h3 := rtx_size (R := (tx N a).2.2) h.2.1 h.2.2.1
    simp only [tx, Tm.sz]
    rw [ByteArray.size_append, ByteArray.size_append, ByteArray.size_append, ByteArray.size_append, ByteArray.size_append, ByteArray.size_append, sz1, sz2, sz1, sz1]
    omega
theorem rnm_len (R r : List Int) : (rnm R r).length ≤ R.length + 1 := by
  have := addL_len R (r.getD 4 0)
  unfold rnm; split <;> omega
theorem tx_len : ∀ (t : Tm) (N : Nms), (tx N t).2.1.length + (tx N t).2.2.length ≤ N.1.length + N.2.length + t.sz
  | .bas b, N => by simp only [tx, Tm.sz]; omega
  | .var v, N => by
    have := addL_len N.1 v
    simp only [tx, Tm.sz]; omega
  | .fn a r b, N => by
    have h1 := tx_len a N
    have h2 := tx_len b ((tx N a).2.1, rnm (tx N a).2.2 r)
    have h3 := rnm_len (tx N a).2.2 r
    simp only [tx, Tm.sz]
    dsimp only at h2
    omega
theorem nd_at (t : Tm) (pre post : List (List Int)) (x : List Int) (hx : el (pre ++ t.enc pre.length ++ post) ((pre.length : Int) + t.sz - 1) = x) :
    (x.getD 0 0 = 0 → t = .bas false) ∧ (x.getD 0 0 = 1 → t = .bas true) ∧ (x.getD 0 0 = 2 → t = .var (x.getD 1 0)) ∧
    (x.getD 0 0 ≠ 0 → x.getD 0 0 ≠ 1 → x.getD 0 0 ≠ 2 → ∃ a r b, t = .fn a r b ∧ x = fNode ((pre.length : Int) + a.sz - 1) ((pre.length : Int) + a.sz + b.sz - 1) r) := by
  cases t with
  | bas b =>
    rw [show (pre.length : Int) + (Tm.bas b).sz - 1 = pre.length by simp only [Tm.sz]; omega] at hx
    simp only [Tm.enc, List.append_assoc, List.singleton_append] at hx
    rw [el_mid] at hx; subst hx
    cases b <;> simp
  | var v =>
    rw [show (pre.length : Int) + (Tm.var v).sz - 1 = pre.length by simp only [Tm.sz]; omega] at hx
    simp only [Tm.enc, List.append_assoc, List.singleton_append] at hx
    rw [el_mid] at hx; subst hx
    simp
  | fn a r b =>
    have hp2 : ((pre ++ a.enc pre.length ++ b.enc ((pre.length : Int) + a.sz)).length : Int) = (pre.length : Int) + a.sz + b.sz := by rw [List.length_append, List.length_append, Tm.enc_len, Tm.enc_len]; omega
    have hL1 : pre ++ (Tm.fn a r b).enc pre.length ++ post = (pre ++ a.enc pre.length ++ b.enc ((pre.length : Int) + a.sz)) ++ fNode ((pre.length : Int) + a.sz - 1) ((pre.length : Int) + a.sz + b.sz - 1) r :: post := by
      simp only [Tm.enc, List.append_assoc, List.singleton_append]
    rw [hL1, show (pre.length : Int) + (Tm.fn a r b).sz - 1 = ((pre ++ a.enc pre.length ++ b.enc ((pre.length : Int) + a.sz)).length : Int) by rw [hp2]; simp only [Tm.sz]; omega, el_mid] at hx
    subst hx
    exact ⟨fun h => by (change (3 : Int) = 0 at h); omega, fun h => by (change (3 : Int) = 1 at h); omega, fun h => by (change (3 : Int) = 2 at h); omega, fun _ _ _ => ⟨a, r, b, rfl, rfl⟩⟩
theorem spl_a (a : Tm) (r : List Int) (b : Tm) (pre post : List (List Int)) : pre ++ (Tm.fn a r b).enc pre.length ++ post = pre ++ a.enc pre.length ++ (b.enc ((pre.length : Int) + a.sz) ++ fNode ((pre.length : Int) + a.sz - 1) ((pre.length : Int) + a.sz + b.sz - 1) r :: post) := by
  simp only [Tm.enc, List.append_assoc, List.singleton_append]
theorem spl_b (a : Tm) (r : List Int) (b : Tm) (pre post : List (List Int)) : pre ++ (Tm.fn a r b).enc pre.length ++ post = (pre ++ a.enc pre.length) ++ b.enc ((pre ++ a.enc pre.length).length : Int) ++ (fNode ((pre.length : Int) + a.sz - 1) ((pre.length : Int) + a.sz + b.sz - 1) r :: post) := by
  have hp : ((pre ++ a.enc pre.length).length : Int) = (pre.length : Int) + a.sz := by rw [List.length_append, Tm.enc_len]; omega
  rw [hp]; simp only [Tm.enc, List.append_assoc, List.singleton_append]
theorem spl_l (a : Tm) (pre : List (List Int)) : (pre ++ a.enc pre.length).length = pre.length + a.sz := by rw [List.length_append, Tm.enc_len]

theorem text_ok {L : List (List Int)} (hL : Nine L) {A : Option Addr} {cap nb B : Nat} (hm : L.length ≤ 256) : ∀ (f : Nat) (t : Tm) (pre post : List (List Int)), t.sz ≤ f → t.ok → L = pre ++ t.enc pre.length ++ post →
    ∀ {H : Heap} {A1 A2 : Option Addr} {c1 c2 : Nat} {T R : List Int}, SlT H Is 9 (.slice A L.length cap) L → Nm H nb B A1 c1 T A2 c2 R → T.length + R.length + t.sz ≤ 90000 → Off nb A1 A2 (ob A) → ∀ z : Int, z = (pre.length : Int) + t.sz - 1 →
    Ret Tryd.prog 63 [ptr nb 0, .slice A L.length cap, I z] H (fun v H' => v = .string (tx (T, R) t).1 ∧ ∃ A1' c1' A2' c2', Nm H' nb B A1' c1' (tx (T, R) t).2.1 A2' c2' (tx (T, R) t).2.2 ∧ Mod nb A1 A2 A1' A2' H H') := by
  intro f
  induction f with
  | zero => intro t _ _ h; have := t.sz_pos; omega
  | succ f ihf =>
  intro t pre post hf hok hLe H A1 A2 c1 c2 T R hS hN hlen hoA z hz
  have hlL : L.length = pre.length + t.sz + post.length := by rw [hLe, List.length_append, List.length_append, Tm.enc_len]
  have hpos := t.sz_pos
  obtain ⟨b, o, c, rfl, hB, hd, hx9, hat⟩ := el_cells hL hS (z := z) (by omega) (by omega)
  obtain ⟨n0, n1, n2, n3⟩ := nd_at t pre post (el L z) (by rw [← hLe, hz])
  generalize el L z = x at hd hx9 hat n0 n1 n2 n3
  have hob : ob (some ⟨b, o, none⟩) = b := ob_some b o
  have hat' : ∀ j, j < 9 → (Is x)[j]? = some (I (x.getD j 0)) := fun j hj => at_Is (by omega)
  have zB := Int.ofNat_lt.2 hB.lt
  have zN := hN.own.lt
  have hx9' : (Is x).length = 9 := by simp [hx9]
  rw [hob] at hoA
  refine Ret.of_at (N := 50) Tryd.call63 Tryd.func63 rfl rfl rfl ?_
  have hE := Ext.refl H

  refine At.region rfl rfl ?_
  refine Reg.pur rfl rfl rfl rfl (Pur.asg rfl) ?_
  refine Reg.nil ?_
  refine At.region rfl rfl ?_
  refine Reg.pur rfl rfl rfl rfl (Pur.mv rfl) ?_
  refine Reg.pur rfl rfl rfl rfl (Pur.mv rfl) ?_
  refine Reg.pur rfl rfl rfl rfl (Pur.idx _ es53 rfl rfl (by omega) (by omega)) ?_
  refine Reg.lod rfl rfl rfl rfl (Lod.ldn ag65 rfl hB hd hx9') ?_
  refine Reg.op rfl rfl rfl rfl (Does.alloc zc65) ?_
  rintro _ H1_4 ⟨rfl, hn1_4⟩
  have z1_4 := hn1_4.size
  have o1_4 := hn1_4.own
  refine Reg.op0 rfl rfl rfl (Does.stn ag65 rfl rfl (by first | rfl | exact ones_Is _) (by first | rfl | (simp [*]; done)) o1_4 (by first | decide | (simp; done) | (simp; omega) | omega)) ?_
  rintro _ H1_5 hu1_5
  have z1_5 := hu1_5.size
  replace o1_4 := hu1_5.own
  first | rw [over (by first | rfl | (simp; done))] at o1_4 | skip
  refine Reg.nil ?_

  have hX : Own H1_5 H.size (Is x) := o1_4
  have hE0 : Ext H H1_5 := hn1_4.ext.upd hu1_5 (Nat.le_refl _)
  have hN0 := hN.ext hE0
  have hS0 := hS.ext hE0
  have hoX : Off nb A1 A2 H.size := ⟨by omega, by have := hN.g1.lt; omega, by have := hN.g2.lt; omega⟩
  have zX := Int.ofNat_lt.2 hX.lt
  have hM0 : Mod nb A1 A2 A1 A2 H H1_5 := (Mod.refl nb A1 A2 H).ext hE0
  have zB0 : (b : Int) < H1_5.size := by have := hE0.1; omega
  refine At.region rfl rfl ?_
  refine Reg.pur rfl rfl rfl rfl (Pur.fld _ fo65_0 rfl) ?_
  refine Reg.lod rfl rfl rfl rfl (Lod.ld sc3 rfl hX.blk (hat' 0 (by omega))) ?_
  refine Reg.nil ?_
  refine At.region rfl rfl ?_
  refine Reg.pur rfl rfl rfl rfl (Pur.eql rfl rfl) ?_
  refine Reg.pur rfl rfl rfl rfl (Pur.asg rfl) ?_
  refine Reg.nil ?_
  refine At.cond rfl rfl (fun q16 => ?_) (fun q16 => ?_)
  · first | (simp only [decide_eq_true_eq, decide_eq_false_iff_not, Bool.not_eq_true', Bool.not_eq_false', ne_eq, Decidable.not_not, Bool.not_eq_true, Bool.not_eq_false] at q16) | (dsimp only at q16) | skip
    refine At.region rfl rfl ?_
    refine Reg.pur rfl rfl rfl rfl (Pur.asg rfl) ?_
    refine Reg.nil ?_
    refine At.ret rfl Tryd.func63 rfl ?_
    obtain rfl := n0 q16
    exact ⟨rfl, A1, c1, A2, c2, hN0, hM0⟩
  first | (simp only [decide_eq_true_eq, decide_eq_false_iff_not, Bool.not_eq_true', Bool.not_eq_false', ne_eq, Decidable.not_not, Bool.not_eq_true, Bool.not_eq_false] at q16) | (dsimp only at q16) | skip
  refine At.region rfl rfl ?_
  refine Reg.pur rfl rfl rfl rfl (Pur.eql rfl rfl) ?_
  refine Reg.pur rfl rfl rfl rfl (Pur.asg rfl) ?_
  refine Reg.nil ?_
  refine At.cond rfl rfl (fun q18 => ?_) (fun q18 => ?_)
  · first | (simp only [decide_eq_true_eq, decide_eq_false_iff_not, Bool.not_eq_true', Bool.not_eq_false', ne_eq, Decidable.not_not, Bool.not_eq_true, Bool.not_eq_false] at q18) | (dsimp only at q18) | skip
    refine At.region rfl rfl ?_
    refine Reg.pur rfl rfl rfl rfl (Pur.asg rfl) ?_
    refine Reg.nil ?_
    refine At.ret rfl Tryd.func63 rfl ?_
    obtain rfl := n1 q18
    exact ⟨rfl, A1, c1, A2, c2, hN0, hM0⟩
  first | (simp only [decide_eq_true_eq, decide_eq_false_iff_not, Bool.not_eq_true', Bool.not_eq_false', ne_eq, Decidable.not_not, Bool.not_eq_true, Bool.not_eq_false] at q18) | (dsimp only at q18) | skip
  refine At.region rfl rfl ?_
  refine Reg.pur rfl rfl rfl rfl (Pur.eql rfl rfl) ?_
  refine Reg.pur rfl rfl rfl rfl (Pur.asg rfl) ?_
  refine Reg.nil ?_
  refine At.cond rfl rfl (fun q20 => ?_) (fun q20 => ?_)
  · first | (simp only [decide_eq_true_eq, decide_eq_false_iff_not, Bool.not_eq_true', Bool.not_eq_false', ne_eq, Decidable.not_not, Bool.not_eq_true, Bool.not_eq_false] at q20) | (dsimp only at q20) | skip
    refine At.region rfl rfl ?_
    refine Reg.pur rfl rfl rfl rfl (Pur.mv rfl) ?_
    refine Reg.pur rfl rfl rfl rfl (Pur.fld _ fo65_1 rfl) ?_
    refine Reg.lod rfl rfl rfl rfl (Lod.ld sc3 rfl hX.blk (hat' 1 (by omega))) ?_
    refine Reg.op rfl rfl rfl rfl (Does.call rfl (nm_kind _ hN0 (by omega))) ?_
    rintro _ H8_3 ⟨rfl, A1a, c1a, hN8_3, hM8_3⟩
    have hix := ixL_le T (x.getD 1 0)
    refine Reg.op rfl rfl rfl rfl (Does.call rfl (decimal_ok (ixL T (x.getD 1 0)) (by omega) _)) ?_
    rintro _ H8_4 ⟨rfl, hD8_4⟩
    refine Reg.pur rfl rfl rfl rfl (Pur.addS rfl rfl (szs (sl1 _) (dec_size _) (by decide))) ?_
    refine Reg.pur rfl rfl rfl rfl (Pur.asg rfl) ?_
    refine Reg.nil ?_
    refine At.ret rfl Tryd.func63 rfl ?_
    have ht := n2 q20
    rw [ht]
    exact ⟨rfl, A1a, c1a, A2, c2, hN8_3.ext hD8_4, (hM0.trans hM8_3).ext hD8_4⟩
  first | (simp only [decide_eq_true_eq, decide_eq_false_iff_not, Bool.not_eq_true', Bool.not_eq_false', ne_eq, Decidable.not_not, Bool.not_eq_true, Bool.not_eq_false] at q20) | (dsimp only at q20) | skip
  obtain ⟨ta, r, tb, rfl, rfl⟩ := n3 q16 q18 q20
  obtain ⟨hoa, hr5, hrow, hob2⟩ := hok
  have hpa := ta.sz_pos
  have hpb := tb.sz_pos
  have e0 : (Tm.fn ta r tb).sz = ta.sz + tb.sz + 1 := rfl
  have sA : (tx (T, R) ta).1.size ≤ 358400 := Nat.le_trans (tx_size ta _ hoa) (by omega)
  have lA := tx_len ta (T, R)
  have lR := rnm_len (tx (T, R) ta).2.2 r
  have sR := rtx_size (R := (tx (T, R) ta).2.2) hr5 hrow
  have sB : (tx ((tx (T, R) ta).2.1, rnm (tx (T, R) ta).2.2 r) tb).1.size ≤ 358400 := Nat.le_trans (tx_size tb _ hob2) (by omega)
  dsimp only at lA
  refine At.region rfl rfl ?_
  refine Reg.pur rfl rfl rfl rfl (Pur.mv rfl) ?_
  refine Reg.pur rfl rfl rfl rfl (Pur.mv rfl) ?_
  refine Reg.pur rfl rfl rfl rfl (Pur.fld _ fo65_2 rfl) ?_
  refine Reg.lod rfl rfl rfl rfl (Lod.ld sc3 rfl hX.blk (show _ = some (I ((pre.length : Int) + ta.sz - 1)) from hat' 2 (by omega))) ?_
  refine Reg.op rfl rfl rfl rfl (Does.call rfl (ihf ta pre _ (by omega) hoa (hLe.trans (spl_a ta r tb pre post)) hS0 hN0 (by omega) (by rw [hob]; exact hoA) _ rfl)) ?_
  rintro _ H9_4 ⟨rfl, A1a, c1a, A2a, c2a, hN9_4, hM9_4⟩
  replace hX := hX.via hM9_4.1 hoX.not
  have hS1 := hS0.via hM9_4.1 (fun _ g hg => by rw [hob] at hg; obtain rfl : g = b := (by omega); exact hoA.not)
  replace hoX := hoX.mod zX hM9_4
  replace hoA := hoA.mod zB0 hM9_4
  replace zX := Int.ofNat_lt.2 hX.lt
  have zB1 : (b : Int) < H9_4.size := by have := hM9_4.1.1; omega
  refine Reg.pur rfl rfl rfl rfl (Pur.asg rfl) ?_
  refine Reg.nil ?_
  refine At.region rfl rfl ?_
  refine Reg.pur rfl rfl rfl rfl (Pur.mv rfl) ?_
  refine Reg.pur rfl rfl rfl rfl (Pur.fld _ fo65_4 rfl) ?_
  refine Reg.lod rfl rfl rfl rfl (Lod.ldn ag24 rfl hX.blk (show _ = Is r by simp [Is, List.take_of_length_le, hr5]) (by simp [hr5])) ?_
  refine Reg.op rfl rfl rfl rfl (Does.call rfl (rowText_ok hr5 hrow hN9_4 (by omega))) ?_
  rintro _ H10_3 ⟨rfl, A2b, c2b, hN10_3, hM10_3⟩
  replace hX := hX.via hM10_3.1 hoX.not
  have hS2 := hS1.via hM10_3.1 (fun _ g hg => by rw [hob] at hg; obtain rfl : g = b := (by omega); exact hoA.not)
  replace hoA := hoA.mod zB1 hM10_3
  refine Reg.pur rfl rfl rfl rfl (Pur.asg rfl) ?_
  refine Reg.nil ?_
  refine At.region rfl rfl ?_
  refine Reg.pur rfl rfl rfl rfl (Pur.mv rfl) ?_
  refine Reg.pur rfl rfl rfl rfl (Pur.addS rfl rfl (szs (sl1 _) sA (by decide))) ?_
  refine Reg.pur rfl rfl rfl rfl (Pur.addS rfl rfl (szs (sza (sl1 _) sA) (sl2 _ _) (by decide))) ?_
  refine Reg.pur rfl rfl rfl rfl (Pur.mv rfl) ?_
  refine Reg.pur rfl rfl rfl rfl (Pur.addS rfl rfl (szs (sza (sza (sl1 _) sA) (sl2 _ _)) sR (by decide))) ?_
  refine Reg.pur rfl rfl rfl rfl (Pur.addS rfl rfl (szs (sza (sza (sza (sl1 _) sA) (sl2 _ _)) sR) (sl1 _) (by decide))) ?_
  refine Reg.pur rfl rfl rfl rfl (Pur.mv rfl) ?_
  refine Reg.pur rfl rfl rfl rfl (Pur.mv rfl) ?_
  refine Reg.pur rfl rfl rfl rfl (Pur.fld _ fo65_3 rfl) ?_
  refine Reg.lod rfl rfl rfl rfl (Lod.ld sc3 rfl hX.blk (show _ = some (I ((pre.length : Int) + ta.sz + tb.sz - 1)) from hat' 3 (by omega))) ?_
  refine Reg.op rfl rfl rfl rfl (Does.call rfl (ihf tb (pre ++ ta.enc pre.length) _ (by omega) hob2 (hLe.trans (spl_b ta r tb pre post)) hS2 hN10_3 (by first | omega | (dsimp only; omega)) (by rw [hob]; exact hoA) _ (by rw [spl_l]; omega))) ?_
  rintro _ H11_10 ⟨rfl, A1d, c1d, A2d, c2d, hN11_10, hM11_10⟩
  refine Reg.pur rfl rfl rfl rfl (Pur.addS rfl rfl (szs (sza (sza (sza (sza (sl1 _) sA) (sl2 _ _)) sR) (sl1 _)) sB (by decide))) ?_
  refine Reg.pur rfl rfl rfl rfl (Pur.addS rfl rfl (szs (sza (sza (sza (sza (sza (sl1 _) sA) (sl2 _ _)) sR) (sl1 _)) sB) (sl1 _) (by decide))) ?_
  refine Reg.pur rfl rfl rfl rfl (Pur.asg rfl) ?_
  refine Reg.nil ?_
  refine At.ret rfl Tryd.func63 rfl ?_
  exact ⟨rfl, A1d, c1d, A2d, c2d, hN11_10, ((hM0.trans hM9_4).trans hM10_3).trans hM11_10⟩
end Go.Proofs.YtlfillhffpiffaaDoor

namespace Go.Proofs
open Go.Shelf
def Tryd.lays156_ren : Go.Shelf.Ren := ⟨fun | 156 => 75 | 165 => 98 | 166 => 99 | 169 => 100 | 240 => 109 | 241 => 110 | 276 => 116 | 277 => 117 | n => n, fun | 31 => 123 | 9 => 9 | 3 => 3 | 4 => 4 | 0 => 0 | 20 => 20 | 72 => 146 | 76 => 150 | 70 => 144 | 37 => 94 | 75 => 149 | 127 => 161 | 164 => 168 | 5 => 5 | 80 => 152 | n => n, fun | n => n⟩
theorem Tryd.lays156 : Go.Proofs.Lays.n156 Tryd.prog Tryd.lays156_ren := {
  mixed := by kernel_rfl
  f156 := Tryd.func75.trans (congrArg some (by kernel_rfl))
  f165 := Tryd.func98.trans (congrArg some (by kernel_rfl))
  f166 := Tryd.func99.trans (congrArg some (by kernel_rfl))
  f169 := Tryd.func100.trans (congrArg some (by kernel_rfl))
  f240 := Tryd.func109.trans (congrArg some (by kernel_rfl))
  f241 := Tryd.func110.trans (congrArg some (by kernel_rfl))
  f276 := Tryd.func116.trans (congrArg some (by kernel_rfl))
  f277 := Tryd.func117.trans (congrArg some (by kernel_rfl))
  t0 := Tryd.underlying0
  a0 := Tryd.isAgg0
  z0 := Tryd.sizeOf0
  v0 := Tryd.zeroValue0
  t3 := Tryd.underlying3
  a3 := Tryd.isAgg3
  z3 := Tryd.sizeOf3
  v3 := Tryd.zeroValue3
  t4 := Tryd.underlying4
  a4 := Tryd.isAgg4
  z4 := Tryd.sizeOf4
  v4 := Tryd.zeroValue4
  t9 := Tryd.underlying9
  a9 := Tryd.isAgg9
  z9 := Tryd.sizeOf9
  v9 := Tryd.zeroValue9
  t20 := Tryd.underlying20
  a20 := Tryd.isAgg20
  z20 := Tryd.sizeOf20
  v20 := Tryd.zeroValue20
  t31 := Tryd.underlying123
  a31 := Tryd.isAgg123
  z31 := Tryd.sizeOf123
  v31 := Tryd.zeroValue123
  t37 := Tryd.underlying94
  a37 := Tryd.isAgg94
  z37 := Tryd.sizeOf94
  v37 := Tryd.zeroValue94
  t70 := Tryd.underlying144
  a70 := Tryd.isAgg144
  z70 := Tryd.sizeOf144
  v70 := Tryd.zeroValue144
  t72 := Tryd.underlying146
  a72 := Tryd.isAgg146
  z72 := Tryd.sizeOf146
  v72 := Tryd.zeroValue146
  t75 := Tryd.underlying149
  a75 := Tryd.isAgg149
  z75 := Tryd.sizeOf149
  v75 := Tryd.zeroValue149
  t76 := Tryd.underlying150
  a76 := Tryd.isAgg150
  z76 := Tryd.sizeOf150
  v76 := Tryd.zeroValue150
  t127 := Tryd.underlying161
  a127 := Tryd.isAgg161
  z127 := Tryd.sizeOf161
  v127 := Tryd.zeroValue161
  t164 := Tryd.underlying168
  a164 := Tryd.isAgg168
  z164 := Tryd.sizeOf168
  v164 := Tryd.zeroValue168 }
theorem Tryd.Builder_Extra_156 : Builder.Extra Tryd.prog Tryd.lays156_ren := {
  sizeBuilder := by kernel_rfl
  liesBuilder := by kernel_rfl
  t5 := Tryd.underlying5
  a5 := Tryd.isAgg5
  z5 := Tryd.sizeOf5
  v5 := Tryd.zeroValue5
  infoByte := by kernel_rfl
  cellsByte := by kernel_rfl
  sizeByte := by kernel_rfl
  neB5 := by decide }
open Go.RowKit in
theorem Tryd.strings_Join_none (a : Option Addr) (c : Nat) (sep : ByteArray) (w : World) :
    Calls Tryd.prog 75 #[.slice a 0 c, .string sep] w fun e w' => e = .returned (.string ⟨#[]⟩) ∧ w' = w := Any.strings_Join_none Tryd.lays156 Tryd.Builder_Extra_156 a c sep w
open Go.RowKit in
theorem Tryd.strings_Join (bk o c : Nat) (xs : List ByteArray) (sep : ByteArray) (w : World) (hcells : ∀ (j : Nat) x, xs[j]? = some x → w.cell? ⟨bk, o + j, none⟩ = some (.string x)) (hbk : bk < w.heap.size) (hN : xs.length ≤ 140737488355328) (hcap : xs.length ≤ c) (hlen : (Lib.join (xs.map (·.data.toList)) sep.data.toList).length ≤ 140737488355328) :
    Calls Tryd.prog 75 #[.slice (some ⟨bk, o, none⟩) xs.length c, .string sep] w fun e w' => e = .returned (.string ⟨(Lib.join (xs.map (·.data.toList)) sep.data.toList).toArray⟩) ∧ Below w.heap.size w w' := Any.strings_Join Tryd.lays156 Tryd.Builder_Extra_156 bk o c xs sep w hcells hbk hN hcap hlen
def Tryd.laysM171_ren : Go.Shelf.Ren := ⟨fun | 171 => 74 | 243 => 97 | 246 => 108 | 283 => 112 | 284 => 113 | 285 => 114 | 286 => 115 | 129 => 119 | 317 => 118 | 318 => 120 | 319 => 121 | 320 => 122 | 337 => 123 | 338 => 124 | n => n, fun | 3 => 3 | 9 => 9 | 2 => 2 | 4 => 4 | 171 => 163 | 0 => 0 | 53 => 93 | 37 => 94 | 5 => 5 | 173 => 166 | 212 => 172 | 51 => 173 | 20 => 20 | 213 => 174 | 46 => 47 | 232 => 178 | 233 => 179 | n => n, fun | 17 => 0 | 18 => 2 | 19 => 3 | n => n⟩
theorem Tryd.laysM171 : Go.Proofs.LaysM.n171 Tryd.prog Tryd.laysM171_ren := {
  mixed := by kernel_rfl
  f129 := Tryd.func119.trans (congrArg some (by kernel_rfl))
  f171 := Tryd.func74.trans (congrArg some (by kernel_rfl))
  f243 := Tryd.func97.trans (congrArg some (by kernel_rfl))
  f246 := Tryd.func108.trans (congrArg some (by kernel_rfl))
  f283 := Tryd.func112.trans (congrArg some (by kernel_rfl))
  f284 := Tryd.func113.trans (congrArg some (by kernel_rfl))
  f285 := Tryd.func114.trans (congrArg some (by kernel_rfl))
  f286 := Tryd.func115.trans (congrArg some (by kernel_rfl))
  f317 := Tryd.func118.trans (congrArg some (by kernel_rfl))
  f318 := Tryd.func120.trans (congrArg some (by kernel_rfl))
  f319 := Tryd.func121.trans (congrArg some (by kernel_rfl))
  f320 := Tryd.func122.trans (congrArg some (by kernel_rfl))
  f337 := Tryd.func123.trans (congrArg some (by kernel_rfl))
  f338 := Tryd.func124.trans (congrArg some (by kernel_rfl))
  t0 := Tryd.underlying0
  a0 := Tryd.isAgg0
  z0 := Tryd.sizeOf0
  v0 := Tryd.zeroValue0
  t2 := Tryd.underlying2
  a2 := Tryd.isAgg2
  z2 := Tryd.sizeOf2
  v2 := Tryd.zeroValue2
  t3 := Tryd.underlying3
  a3 := Tryd.isAgg3
  z3 := Tryd.sizeOf3
  v3 := Tryd.zeroValue3
  t4 := Tryd.underlying4
  a4 := Tryd.isAgg4
  z4 := Tryd.sizeOf4
  v4 := Tryd.zeroValue4
  t5 := Tryd.underlying5
  a5 := Tryd.isAgg5
  z5 := Tryd.sizeOf5
  v5 := Tryd.zeroValue5
  t9 := Tryd.underlying9
  a9 := Tryd.isAgg9
  z9 := Tryd.sizeOf9
  v9 := Tryd.zeroValue9
  t20 := Tryd.underlying20
  a20 := Tryd.isAgg20
  z20 := Tryd.sizeOf20
  v20 := Tryd.zeroValue20
  t37 := Tryd.underlying94
  a37 := Tryd.isAgg94
  z37 := Tryd.sizeOf94
  v37 := Tryd.zeroValue94
  t46 := Tryd.underlying47
  a46 := Tryd.isAgg47
  z46 := Tryd.sizeOf47
  v46 := Tryd.zeroValue47
  t51 := Tryd.underlying173
  a51 := Tryd.isAgg173
  z51 := Tryd.sizeOf173
  v51 := Tryd.zeroValue173
  t53 := Tryd.underlying93
  a53 := Tryd.isAgg93
  z53 := Tryd.sizeOf93
  v53 := Tryd.zeroValue93
  t171 := Tryd.underlying163
  a171 := Tryd.isAgg163
  z171 := Tryd.sizeOf163
  v171 := Tryd.zeroValue163
  t173 := Tryd.underlying166
  a173 := Tryd.isAgg166
  z173 := Tryd.sizeOf166
  v173 := Tryd.zeroValue166
  t212 := Tryd.underlying172
  a212 := Tryd.isAgg172
  z212 := Tryd.sizeOf172
  v212 := Tryd.zeroValue172
  t213 := Tryd.underlying174
  a213 := Tryd.isAgg174
  z213 := Tryd.sizeOf174
  t232 := Tryd.underlying178
  a232 := Tryd.isAgg178
  z232 := Tryd.sizeOf178
  v232 := Tryd.zeroValue178
  t233 := Tryd.underlying179
  a233 := Tryd.isAgg179
  z233 := Tryd.sizeOf179
  v233 := Tryd.zeroValue179
  g17 := by kernel_rfl
  g18 := by kernel_rfl
  g19 := by kernel_rfl
  i0 := by kernel_rfl
  i2 := by kernel_rfl
  i3 := by kernel_rfl
  i4 := by kernel_rfl
  i5 := by kernel_rfl
  i9 := by kernel_rfl
  i20 := by kernel_rfl
  i37 := by kernel_rfl
  i46 := by kernel_rfl
  i51 := by kernel_rfl
  i53 := by kernel_rfl
  i171 := by kernel_rfl
  i173 := by kernel_rfl
  i212 := by kernel_rfl
  i232 := by kernel_rfl
  i233 := by kernel_rfl
  m17 := by kernel_rfl
  m18 := by kernel_rfl
  m19 := by kernel_rfl }
end Go.Proofs

namespace Go.Proofs.YtlfillhffpiffaaDoor
set_option linter.unusedSimpArgs false
set_option linter.unusedVariables false
set_option maxRecDepth 8000
open Go Go.Fx Go.Proofs

abbrev tens : List Value := Lib.pow10Tab.map fun z => Value.int .u64 z
abbrev Tens (H : Heap) : Prop := Blk H 0 tens
theorem tab_of {name : String} {w0 : World} {H : Heap} {n g : Nat} {zs : List Int} {k : IntKind} (hg : Tryd.prog.globalNamed name = some g) (h : Blk H g (zs.map fun z => Value.int k z)) : Lib.TabIs Tryd.prog (mk w0 H n) name k zs := by
  obtain ⟨T, fr, h⟩ := h
  unfold Lib.TabIs World.var?
  rw [hg]
  simp only [Option.bind_some, mk_heap, h]
theorem bstr_data : ∀ (l : List UInt8) (s : ByteArray), ((l.map fun b => ((b.toNat : Nat) : Int)).foldl (fun r n => r.push (UInt8.ofNat n.toNat)) s).data.toList = s.data.toList ++ l
  | [], s => by simp
  | x :: l, s => by
    rw [List.map_cons, List.foldl_cons, bstr_data l]
    simp [ByteArray.push]
theorem bstr_nat (l : List UInt8) : bstr (l.map fun b => ((b.toNat : Nat) : Int)) = ⟨l.toArray⟩ := by
  apply WideShapes.bytes_inj
  unfold bstr
  rw [bstr_data]
  simp
theorem decG_dig : ∀ (f n : Nat) (l : List Int), n < 10 ^ f → 0 < f → (0 < n ∨ l.length = 0) → decG (f + 1) n l = (Lib.decDigits n).map (fun b => ((b.toNat : Nat) : Int)) ++ l
  | 0, _, _, _, h, _ => absurd h (by omega)
  | f + 1, n, l, hn, _, h => by
    rw [decG_go h]
    unfold Lib.decDigits
    split
    · rename_i h10
      rw [show n / 10 = 0 by omega, decG_end (by simp), show n % 10 = n by omega]
      have : (UInt8.ofNat (48 + n)).toNat = 48 + n := by rw [UInt8.toNat_ofNat']; omega
      simp only [List.map_append, List.map_cons, List.map_nil, this, List.append_assoc, List.singleton_append, List.nil_append]
    · rename_i h10
      have hp := pow_step hn
      have hf : 0 < f := Nat.pos_of_ne_zero fun h0 => by subst h0; simp at hp; omega
      rw [decG_dig f (n / 10) _ hp hf (.inl (by omega))]
      have : (UInt8.ofNat (48 + n % 10)).toNat = 48 + n % 10 := by rw [UInt8.toNat_ofNat']; omega
      simp only [List.map_append, List.map_cons, List.map_nil, this, List.append_assoc, List.singleton_append, List.nil_append]
theorem itoa_dec (n : Nat) (h : n < 10000000) : (⟨(Lib.itoa (n : Int)).toArray⟩ : ByteArray) = dec n := by
  rw [Lib.itoa_nonneg, ← bstr_nat]
  unfold dec decI
  rw [decG_dig 7 n [] h (by decide) (.inr rfl), List.append_nil]
theorem itoa_ok (n : Nat) (h : n < 10000000) {H : Heap} (hT : Tens H) :
    Ret Tryd.prog 74 [I n] H (fun v H' => v = .string (dec n) ∧ Ext H H') := by
  refine ⟨Tryd.call74, fun w0 k => ?_⟩
  have h1 : Calls Tryd.prog 74 #[.int .i64 n] (mk w0 H k) fun e w' => e = .returned (.string ⟨(Lib.itoa n).toArray⟩) ∧ ∃ d os, w' = Sort.grow ((mk w0 H k).drewN d) os :=
    Any.strconv_Itoa Tryd.laysM171 n (by omega) (by omega) (mk w0 H k) (tab_of (by kernel_rfl) hT)
  refine h1.mono fun e w' hx => ?_
  obtain ⟨he, d, os, hw⟩ := hx
  refine ⟨_, H ++ os, k + d, he, hw, by rw [itoa_dec n h], ?_, fun b hb => Array.getElem?_append_left hb⟩
  rw [Array.size_append]; omega

def jn (xs : List ByteArray) : ByteArray := ⟨(Lib.join (xs.map (·.data.toList)) (⟨#[44]⟩ : ByteArray).data.toList).toArray⟩
abbrev Ss (s : ByteArray) : List Value := [.string s]
theorem wideS (L : List ByteArray) : Wide Ss 1 L := fun _ _ => rfl
theorem ones_Ss (L : List ByteArray) : ones (L.flatMap Ss) = true := by
  simp only [ones, List.all_eq_true, List.mem_flatMap]
  rintro v ⟨x, _, hv⟩
  simp only [List.mem_singleton] at hv
  subst hv; rfl
theorem join_ok {A : Option Addr} {cap : Nat} {xs : List ByteArray} {H : Heap} (hS : SlT H Ss 1 (.slice A xs.length cap) xs) (hN : xs.length ≤ 1000000) (hlen : (jn xs).size ≤ 1000000000) :
    Ret Tryd.prog 75 [.slice A xs.length cap, .string ⟨#[44]⟩] H (fun v H' => v = .string (jn xs) ∧ Ext H H') := by
  refine ⟨Tryd.call75, fun w0 k => ?_⟩
  cases xs with
  | nil =>
    have h1 := Tryd.strings_Join_none A cap ⟨#[44]⟩ (mk w0 H k)
    refine h1.mono fun e w' hx => ?_
    obtain ⟨he, hw⟩ := hx
    exact ⟨_, H, k, he, hw, rfl, Ext.refl H⟩
  | cons x0 xs =>
    obtain ⟨_, cap', hv, hc1, hc2, _, h3⟩ := hS
    simp only [Value.slice.injEq, true_and] at hv
    obtain ⟨rfl, rfl⟩ := hv
    rcases h3 with h0 | ⟨b, o, c, rfl, hB, hc⟩
    · simp at h0
    have hcl : ∀ (j : Nat) x, (x0 :: xs)[j]? = some x → (mk w0 H k).cell? ⟨b, o + j, none⟩ = some (.string x) := by
      intro j x hx
      obtain ⟨hj, hx⟩ := List.getElem?_eq_some_iff.1 hx
      have h2 := (hc j hj).2
      rw [hx, Nat.mul_one] at h2
      have h4 : c[o + j + 0]? = some (Value.string x) := at_tk h2 (by decide) rfl
      obtain ⟨T, fr, hB⟩ := hB
      unfold World.cell?
      simp only [mk_heap, hB]
      simpa using h4
    have hle : (x0 :: xs).length ≤ c.length := by
      have := (hc ((x0 :: xs).length - 1) (by simp)).1
      simp only [List.length_cons] at this ⊢; omega
    have h1 := Tryd.strings_Join b o cap (x0 :: xs) ⟨#[44]⟩ (mk w0 H k) hcl hB.lt (by omega) hc1 (by
      have : (jn (x0 :: xs)).size = (Lib.join ((x0 :: xs).map (·.data.toList)) (⟨#[44]⟩ : ByteArray).data.toList).length := by simp [jn, ByteArray.size]
      omega)
    refine h1.mono fun e w' hx => ?_
    obtain ⟨he, hb⟩ := hx
    refine ⟨_, w'.heap, w'.drawn, he, ?_, rfl, hb.size, fun q hq => hb.block q hq⟩
    obtain ⟨g1, g2, g3, g4, g5⟩ := w'
    have e1 := hb.os; have e2 := hb.tape; have e3 := hb.output
    simp only at e1 e2 e3
    subst e1 e2 e3
    rfl
end Go.Proofs.YtlfillhffpiffaaDoor

namespace Go.Proofs.YtlfillhffpiffaaDoor
set_option linter.unusedSimpArgs false
set_option linter.unusedVariables false
set_option maxRecDepth 8000
open Go Go.Fx Go.Proofs
namespace FactsDShB
theorem ag22 : ag Tryd.prog 22 = some 4 := by kernel_rfl
theorem apt123 : appT Tryd.prog 123 = some (9, 1, 16) := by kernel_rfl
theorem fo24_0 : foff Tryd.prog 24 0 = some 0 := by kernel_rfl
theorem fo24_1 : foff Tryd.prog 24 1 = some 4 := by kernel_rfl
theorem sc3 : sc Tryd.prog 3 = true := by kernel_rfl
theorem sl1_123 : Go.Fx.sl1 Tryd.prog 123 = true := by kernel_rfl
end FactsDShB
open FactsDShB

theorem dap (a b : ByteArray) : (a ++ b).data.toList = a.data.toList ++ b.data.toList := by simp
abbrev opn (i : Nat) : ByteArray := ⟨#[111]⟩ ++ dec i
def opsTo (r : List Int) : Nat → List ByteArray
  | 0 => []
  | i + 1 => opsTo r i ++ List.replicate (r.getD i 0).toNat (opn i)
theorem opn_pos (i : Nat) : 0 < (opn i).size := by rw [ByteArray.size_append, sz1]; omega
theorem ops_pos (r : List Int) : ∀ i, ∀ x ∈ opsTo r i, 0 < x.size
  | 0, x, h => by cases h
  | i + 1, x, h => by
    simp only [opsTo, List.mem_append, List.mem_replicate] at h
    rcases h with h | ⟨_, rfl⟩
    · exact ops_pos r i x h
    · exact opn_pos i
theorem jn_data (xs : List ByteArray) : (jn xs).data.toList = Lib.join (xs.map (·.data.toList)) [44] := rfl
theorem join_snoc (y sep : List UInt8) : ∀ (x : List UInt8) (xs : List (List UInt8)), Lib.join ((x :: xs) ++ [y]) sep = Lib.join (x :: xs) sep ++ sep ++ y := by
  intro x xs
  rw [List.cons_append, Lib.join_cons, Lib.join_cons]
  simp [Lib.joinTail]
theorem jn_ne {xs : List ByteArray} (h : ∀ x ∈ xs, 0 < x.size) (hx : xs ≠ []) : (jn xs).data.toList ≠ [] := by
  cases xs with
  | nil => exact absurd rfl hx
  | cons x xs =>
    rw [jn_data, List.map_cons, Lib.join_cons]
    have := h x List.mem_cons_self
    intro h0
    have h1 := (List.append_eq_nil_iff.1 h0).1
    have h2 := congrArg List.length h1
    simp only [Array.length_toList, List.length_nil] at h2
    simp only [ByteArray.size] at this
    omega
theorem rone_jn (i : Nat) {xs : List ByteArray} (h : ∀ x ∈ xs, 0 < x.size) : rone i (jn xs) = jn (xs ++ [opn i]) := by
  apply WideShapes.bytes_inj
  unfold rone
  rw [ByteArray.toList_eq, ByteArray.toList_eq]
  cases xs with
  | nil =>
    have h0 : (jn []).data.toList = [] := rfl
    rw [if_neg (by rw [h0]; decide)]
    simp [jn_data, Lib.join_one, Lib.join_nil, dap]
  | cons x xs =>
    rw [if_pos (by
      have := jn_ne h (by simp)
      cases hc : (jn (x :: xs)).data.toList with
      | nil => exact absurd hc this
      | cons a l => rfl)]
    rw [jn_data, List.map_append, List.map_cons, List.map_cons, List.map_nil, join_snoc, dap, dap, dap, jn_data, List.map_cons]
    simp [opn, dap]
theorem rrep_jn (i : Nat) {xs : List ByteArray} (h : ∀ x ∈ xs, 0 < x.size) : ∀ k, rrep i k (jn xs) = jn (xs ++ List.replicate k (opn i))
  | 0 => by simp [rrep]
  | k + 1 => by
    unfold rrep
    rw [rrep_jn i h k, rone_jn i (by
      intro x hx
      rcases List.mem_append.1 hx with hx | hx
      · exact h x hx
      · rw [(List.mem_replicate.1 hx).2]; exact opn_pos i), List.replicate_succ', List.append_assoc]
theorem rall_jn (r : List Int) : ∀ i, rall r i = jn (opsTo r i)
  | 0 => rfl
  | i + 1 => by
    unfold rall opsTo
    rw [rall_jn r i, rrep_jn i (ops_pos r i)]
theorem ops_len {r : List Int} (h5 : r.length = 5) (h : rowM r = true) : ∀ i, i ≤ 4 → (opsTo r i).length ≤ 32 * i
  | 0, _ => Nat.le_refl 0
  | i + 1, hi => by
    have h2 := ops_len h5 h i (by omega)
    have h3 := row_cnt h5 h i (by omega)
    simp only [opsTo, List.length_append, List.length_replicate]; omega

def wtx (r : List Int) (s : ByteArray) : ByteArray := ⟨#[60]⟩ ++ (if 0 ≤ r.getD 4 0 then rall r 4 ++ (⟨#[124]⟩ ++ s) else rall r 4) ++ ⟨#[62]⟩
theorem wtx_rtx (R r : List Int) : wtx r (⟨#[101]⟩ ++ dec (ixL R (r.getD 4 0))) = rtx R r := by
  apply WideShapes.bytes_inj
  unfold wtx rtx
  split
  · simp only [dap, List.append_assoc]; rfl
  · rfl

theorem write_ok {g : FuncId} {us : List Value} {rb ro : Nat} {cg : List Value} {r : List Int} (h5 : r.length = 5) (hr : rowM r = true) {Q : ByteArray → Heap → Heap → Prop} {H : Heap} (hT : Tens H) (hB : Blk H rb cg) (hc : (cg.drop ro).take 5 = Is r)
    (hf : ∀ H1, Ext H H1 → 0 ≤ r.getD 4 0 → Ret Tryd.prog g (I (r.getD 4 0) :: us) H1 (fun v H2 => ∃ s, v = .string s ∧ s.size ≤ 100 ∧ Q s H1 H2)) :
    Ret Tryd.prog 55 [ptr rb ro, .func (.func g) #[] us.toArray] H (fun v H' => ∃ s, v = .string (wtx r s) ∧ ∃ H1, Ext H H1 ∧ ((0 ≤ r.getD 4 0 ∧ Q s H1 H') ∨ (r.getD 4 0 < 0 ∧ H' = H1))) := by
  have zB := hB.lt
  have hat : ∀ {j : Nat}, j < 5 → cg[ro + j]? = some (I (r.getD j 0)) := fun hj => at_tk hc hj (at_Is (by omega))
  have hcnt := row_cnt h5 hr
  have hsz := rall_size h5 hr
  have hln := ops_len h5 hr
  have ht4 := rowM_t hr
  refine Ret.of_at (N := 47) Tryd.call55 Tryd.func55 rfl rfl rfl ?_
  have hE := Ext.refl H
  have z_hE := hE.lt
  have z_hT := hT.lt
  have z_hB := hB.lt
  refine At.region rfl rfl ?_
  refine Reg.pur rfl rfl rfl rfl (Pur.asg rfl) ?_
  refine Reg.nil ?_
  refine At.region rfl rfl ?_
  refine Reg.pur rfl rfl rfl rfl (Pur.asg rfl) ?_
  refine Reg.nil ?_
  refine At.region rfl rfl ?_
  refine Reg.pur rfl rfl rfl rfl (Pur.mv rfl) ?_
  refine Reg.pur rfl rfl rfl rfl (Pur.nilc rfl) ?_
  refine Reg.pur rfl rfl rfl rfl (Pur.fld _ fo24_0 rfl) ?_
  refine Reg.lod rfl rfl rfl rfl (Lod.ldn ag22 rfl hB (show _ = Is (r.take 4) by rw [Nat.add_zero]; have h9 := congrArg (List.take 4) hc; rw [List.take_take] at h9; rw [show min 4 5 = 4 from rfl] at h9; rw [h9]; simp [Is, List.map_take]) (by simp [h5])) ?_
  refine Reg.pur rfl rfl rfl rfl (Pur.mv rfl) ?_
  refine Reg.nil ?_
  refine At.loop (σ := Nat × Option Addr × Nat) (fun (i, A', cap') => [(13, I i), (5, .slice A' (opsTo r i).length cap'), (12, .agg (Is (r.take 4)).toArray), (0, ptr rb ro), (1, .func (.func g) #[] us.toArray)]) (fun (i, A', cap') H' => i ≤ 4 ∧ Ext H H' ∧ Tens H' ∧ Blk H' rb cg ∧ Gs H' H.size 9 1 A' cap' (opsTo r i).length ((opsTo r i).flatMap Ss)) (fun s => 4 - s.1) (0, none, 0) rfl ⟨rfl, rfl, rfl, rfl, rfl, trivial⟩ ⟨by omega, hE, hT, hB, OwnS.nilG⟩ ?_
  clear hE hT hB
  rintro ⟨i, A', cap'⟩ H1 ⟨hi, hE, hT, hB, hg⟩ ih
  dsimp only at hi hg ⊢
  have z_hE := hE.lt
  have z_hT := hT.lt
  have z_hB := hB.lt
  have z_hg := hg.lt
  refine At.region rfl rfl ?_
  refine Reg.pur rfl rfl rfl rfl (Pur.lss rfl rfl) ?_
  refine Reg.nil ?_
  refine At.cond rfl rfl (fun q14 => ?_) (fun q14 => ?_)
  · first | (simp only [decide_eq_true_eq, decide_eq_false_iff_not, Bool.not_eq_true', Bool.not_eq_false', ne_eq, Decidable.not_not, Bool.not_eq_true, Bool.not_eq_false] at q14) | (dsimp only at q14) | skip
    have hlt : i < (r.take 4).length := by simp [h5]; omega
    have hat4 := take4_at h5 (i := i) (by omega)
    have hai : (Is (r.take 4))[(i : Int).toNat]? = some (I (r.getD i 0)) := by
      have : (Is (r.take 4))[i]? = some (I (r.take 4)[i]) := by simp only [Is, List.getElem?_map, List.getElem?_eq_getElem hlt, Option.map_some]
      rw [hat4] at this
      exact this
    have hi4 : i < 4 := by omega
    have hci := hcnt i hi4
    have hli := hln i (by omega)
    refine At.region rfl rfl ?_
    refine Reg.pur rfl rfl rfl rfl (Pur.mv rfl) ?_
    refine Reg.pur rfl rfl rfl rfl (Pur.ixA (n := 4) (by kernel_rfl) rfl rfl (by omega) (by omega) hai) ?_
    refine Reg.pur rfl rfl rfl rfl (Pur.asg rfl) ?_
    refine Reg.pur rfl rfl rfl rfl (Pur.asg rfl) ?_
    refine Reg.nil ?_
    refine At.region rfl rfl ?_
    refine Reg.pur rfl rfl rfl rfl (Pur.mv rfl) ?_
    refine Reg.pur rfl rfl rfl rfl (Pur.mv rfl) ?_
    refine Reg.nil ?_
    refine At.loop (σ := Nat × Option Addr × Nat) (fun (k, A', cap') => [(18, I k), (17, I (r.getD i 0)), (6, I i), (13, I i), (5, .slice A' (opsTo r i ++ List.replicate k (opn i)).length cap'), (12, .agg (Is (r.take 4)).toArray), (0, ptr rb ro), (1, .func (.func g) #[] us.toArray)]) (fun (k, A', cap') H' => (k : Int) ≤ r.getD i 0 ∧ Ext H H' ∧ Tens H' ∧ Blk H' rb cg ∧ Gs H' H.size 9 1 A' cap' (opsTo r i ++ List.replicate k (opn i)).length ((opsTo r i ++ List.replicate k (opn i)).flatMap Ss)) (fun s => (r.getD i 0).toNat - s.1) (0, A', cap') rfl ⟨rfl, rfl, rfl, rfl, by simp [lk], rfl, rfl, rfl, trivial⟩ ⟨by omega, hE, hT, hB, by simpa using hg⟩ ?_
    clear hE hT hB hg
    rintro ⟨k, A2', cap2'⟩ H2 ⟨hk, hE, hT, hB, hg⟩ ih2
    dsimp only at hk hg ⊢
    have z_hE := hE.lt
    have z_hT := hT.lt
    have z_hB := hB.lt
    have z_hg := hg.lt
    refine At.region rfl rfl ?_
    refine Reg.pur rfl rfl rfl rfl (Pur.lss rfl rfl) ?_
    refine Reg.nil ?_
    refine At.cond rfl rfl (fun q19 => ?_) (fun q19 => ?_)
    · first | (simp only [decide_eq_true_eq, decide_eq_false_iff_not, Bool.not_eq_true', Bool.not_eq_false', ne_eq, Decidable.not_not, Bool.not_eq_true, Bool.not_eq_false] at q19) | (dsimp only at q19) | skip
      refine At.region rfl rfl ?_
      refine Reg.pur rfl rfl rfl rfl (Pur.mv rfl) ?_
      refine Reg.pur rfl rfl rfl rfl (Pur.mv rfl) ?_
      refine Reg.op rfl rfl rfl rfl (Does.call rfl (itoa_ok i (by omega) hT)) ?_
      rintro _ H7_2 ⟨rfl, hE7_2⟩
      have z7_2 := hE7_2.lt
      replace hE := hE.ext hE7_2
      replace hT := hT.ext hE7_2
      replace hB := hB.ext hE7_2
      replace hg := hg.ext hE7_2
      refine Reg.pur rfl rfl rfl rfl (Pur.addS rfl rfl (szs (sl1 _) (dec_size _) (by decide))) ?_
      refine Reg.op rfl rfl rfl rfl (Does.bsl1 sl1_123 rfl rfl rfl rfl rfl) ?_
      rintro _ H7_4 ⟨rfl, hn7_4⟩
      have z7_4 := hn7_4.size
      replace hE := hE.ext hn7_4.ext
      replace hT := hT.ext hn7_4.ext
      replace hB := hB.ext hn7_4.ext
      replace hg := hg.ext hn7_4.ext
      have o7_4 := hn7_4.own
      refine Reg.op rfl rfl rfl rfl (Does.appL apt123 rfl rfl (by decide) hg (wideS _) (sl_new (L := [opn i]) (wideS _) (by decide) hn7_4 (by simp)) (ones_Ss _) (by simp; omega) (by omega)) ?_
      rintro _ H7_5 ⟨A7_5, cap7_5, rfl, g7_5, hbut7_5, ha7_5⟩
      have z7_5 := hbut7_5.lt
      replace hE := hE.via hbut7_5 (by first | omega | (intro g; omega) | (intro g hg; omega) | (intro g hg h; omega))
      replace hT := hT.via hbut7_5 (by first | omega | (intro g; omega) | (intro g hg; omega) | (intro g hg h; omega))
      replace hB := hB.via hbut7_5 (by first | omega | (intro g; omega) | (intro g hg; omega) | (intro g hg h; omega))
      replace o7_4 := o7_4.via hbut7_5 (by first | omega | (intro g; omega) | (intro g hg; omega) | (intro g hg h; omega))
      replace hg := g7_5
      have zg7_5 := g7_5.lt
      refine Reg.pur rfl rfl rfl rfl (Pur.asg rfl) ?_
      refine Reg.nil ?_
      refine At.region rfl rfl ?_
      first | refine Reg.pur rfl rfl rfl rfl (Pur.add64 rfl rfl (by omega)) ?_ | refine Reg.pur rfl rfl rfl rfl (Pur.add64 rfl rfl (by assumption)) ?_ | refine Reg.pur rfl rfl rfl rfl (Pur.add rfl rfl) ?_
      refine Reg.pur rfl rfl rfl rfl (Pur.mv rfl) ?_
      refine Reg.nil ?_
      have hs : opsTo r i ++ List.replicate k (opn i) ++ [opn i] = opsTo r i ++ List.replicate (k + 1) (opn i) := by rw [List.replicate_succ', List.append_assoc]
      rw [hs] at hg
      exact At.via (ih2 (k + 1, A7_5, cap7_5) _ ⟨by (show ((k + 1 : Nat) : Int) ≤ _); omega, hE, hT, hB, hg⟩ (by (show _ - (k + 1) < _ - k); omega)) ⟨rfl, rfl, rfl, rfl, by (show some (Value.slice _ _ _) = _); rw [hs], rfl, rfl, rfl, trivial⟩
    first | (simp only [decide_eq_true_eq, decide_eq_false_iff_not, Bool.not_eq_true', Bool.not_eq_false', ne_eq, Decidable.not_not, Bool.not_eq_true, Bool.not_eq_false] at q19) | (dsimp only at q19) | skip
    refine At.region rfl rfl ?_
    first | refine Reg.pur rfl rfl rfl rfl (Pur.add64 rfl rfl (by omega)) ?_ | refine Reg.pur rfl rfl rfl rfl (Pur.add64 rfl rfl (by assumption)) ?_ | refine Reg.pur rfl rfl rfl rfl (Pur.add rfl rfl) ?_
    refine Reg.pur rfl rfl rfl rfl (Pur.mv rfl) ?_
    refine Reg.nil ?_
    have hkr : (k : Nat) = (r.getD i 0).toNat := by omega
    subst hkr
    exact At.via (ih (i + 1, A2', cap2') _ ⟨by (show i + 1 ≤ 4); omega, hE, hT, hB, hg⟩ (by (show 4 - (i + 1) < 4 - i); omega)) ⟨rfl, rfl, rfl, rfl, rfl, trivial⟩
  first | (simp only [decide_eq_true_eq, decide_eq_false_iff_not, Bool.not_eq_true', Bool.not_eq_false', ne_eq, Decidable.not_not, Bool.not_eq_true, Bool.not_eq_false] at q14) | (dsimp only at q14) | skip
  obtain rfl : i = 4 := by omega
  have hs4 := hsz 4 (by omega)
  have hl4 := hln 4 (by omega)
  rw [rall_jn] at hs4
  refine At.region rfl rfl ?_
  refine Reg.pur rfl rfl rfl rfl (Pur.mv rfl) ?_
  refine Reg.op rfl rfl rfl rfl (Does.call rfl (join_ok (own_sl (wideS _) (by decide) hg) (by omega) (by omega))) ?_
  rintro _ H10_1 ⟨rfl, hE10_1⟩
  have z10_1 := hE10_1.lt
  replace hE := hE.ext hE10_1
  replace hT := hT.ext hE10_1
  replace hB := hB.ext hE10_1
  replace hg := hg.ext hE10_1
  refine Reg.pur rfl rfl rfl rfl (Pur.addS rfl rfl (szs (n := 1280) (sl1 _) (by omega) (by decide))) ?_
  refine Reg.pur rfl rfl rfl rfl (Pur.asg rfl) ?_
  refine Reg.nil ?_
  refine At.region rfl rfl ?_
  refine Reg.pur rfl rfl rfl rfl (Pur.mv rfl) ?_
  refine Reg.pur rfl rfl rfl rfl (Pur.nilc rfl) ?_
  refine Reg.pur rfl rfl rfl rfl (Pur.fld _ fo24_1 rfl) ?_
  refine Reg.lod rfl rfl rfl rfl (Lod.ld sc3 rfl hB (hat (j := 4) (by omega))) ?_
  refine Reg.pur rfl rfl rfl rfl (Pur.neq rfl rfl) ?_
  refine Reg.nil ?_
  refine At.cond rfl rfl (fun q35 => ?_) (fun q35 => ?_)
  · first | (simp only [decide_eq_true_eq, decide_eq_false_iff_not, Bool.not_eq_true', Bool.not_eq_false', ne_eq, Decidable.not_not, Bool.not_eq_true, Bool.not_eq_false] at q35) | (dsimp only at q35) | skip
    refine At.region rfl rfl ?_
    refine Reg.pur rfl rfl rfl rfl (Pur.mv rfl) ?_
    refine Reg.pur rfl rfl rfl rfl (Pur.mv rfl) ?_
    refine Reg.pur rfl rfl rfl rfl (Pur.mv rfl) ?_
    refine Reg.pur rfl rfl rfl rfl (Pur.nilc rfl) ?_
    refine Reg.pur rfl rfl rfl rfl (Pur.fld _ fo24_1 rfl) ?_
    refine Reg.lod rfl rfl rfl rfl (Lod.ld sc3 rfl hB (hat (j := 4) (by omega))) ?_
    refine Reg.op rfl rfl rfl rfl (Does.callv rfl rfl (hf _ hE (by omega))) ?_
    rintro _ H12_6 ⟨s, rfl, hss, hQ12_6⟩
    refine Reg.pur rfl rfl rfl rfl (Pur.addS rfl rfl (szs (n := 100) (sl1 _) (by omega) (by decide))) ?_
    refine Reg.pur rfl rfl rfl rfl (Pur.addS rfl rfl (szs (m := 1281) (n := 101) (sza (m := 1) (n := 1280) (sl1 _) (by omega)) (sza (m := 1) (n := 100) (sl1 _) (by omega)) (by decide))) ?_
    refine Reg.pur rfl rfl rfl rfl (Pur.asg rfl) ?_
    refine Reg.nil ?_
    refine At.region rfl rfl ?_
    refine Reg.pur rfl rfl rfl rfl (Pur.mv rfl) ?_
    refine Reg.pur rfl rfl rfl rfl (Pur.addS rfl rfl (szs (m := 1382) (n := 1) (by first | exact sza (m := 1281) (n := 101) (sza (m := 1) (n := 1280) (sl1 _) (by omega)) (sza (m := 1) (n := 100) (sl1 _) (by omega)) | exact Nat.le_trans (sza (m := 1) (n := 1280) (sl1 _) (by omega)) (by decide)) (sl1 _) (by decide))) ?_
    refine Reg.pur rfl rfl rfl rfl (Pur.asg rfl) ?_
    refine Reg.nil ?_
    refine At.ret rfl Tryd.func55 rfl ?_
    refine ⟨s, ?_, _, hE, .inl ⟨by omega, hQ12_6⟩⟩
    unfold wtx
    rw [if_pos (by omega), rall_jn]
    exact congrArg Value.string (WideShapes.bytes_inj (by simp only [dap, List.append_assoc]))
  first | (simp only [decide_eq_true_eq, decide_eq_false_iff_not, Bool.not_eq_true', Bool.not_eq_false', ne_eq, Decidable.not_not, Bool.not_eq_true, Bool.not_eq_false] at q35) | (dsimp only at q35) | skip
  refine At.region rfl rfl ?_
  refine Reg.pur rfl rfl rfl rfl (Pur.mv rfl) ?_
  refine Reg.pur rfl rfl rfl rfl (Pur.addS rfl rfl (szs (m := 1382) (n := 1) (by first | exact sza (m := 1281) (n := 101) (sza (m := 1) (n := 1280) (sl1 _) (by omega)) (sza (m := 1) (n := 100) (sl1 _) (by omega)) | exact Nat.le_trans (sza (m := 1) (n := 1280) (sl1 _) (by omega)) (by decide)) (sl1 _) (by decide))) ?_
  refine Reg.pur rfl rfl rfl rfl (Pur.asg rfl) ?_
  refine Reg.nil ?_
  refine At.ret rfl Tryd.func55 rfl ?_
  refine ⟨⟨#[]⟩, ?_, _, hE, .inr ⟨by omega, rfl⟩⟩
  unfold wtx
  rw [if_neg (by omega), rall_jn]
end Go.Proofs.YtlfillhffpiffaaDoor

