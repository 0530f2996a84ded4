/-
  The reference's matcher: Same, rows.
-/
import Derived.Test.YtlfillhffpiffaaSUniRA
import Derived.Test.YtlfillhffpiffaaS1
namespace Go.Proofs.Ytlfillhffpiffaa
set_option linter.unusedSimpArgs false
set_option linter.unusedVariables false
set_option maxRecDepth 8000
set_option maxHeartbeats 1000000
open Go Go.Fx Go.Proofs
namespace FactsUniMA
theorem ag26 : ag Try.prog 26 = some 4 := by kernel_rfl
theorem ag28 : ag Try.prog 28 = some 5 := by kernel_rfl
theorem ag47 : ag Try.prog 47 = some 9 := by kernel_rfl
theorem ag49 : ag Try.prog 49 = some 8 := by kernel_rfl
theorem apt22 : appT Try.prog 22 = some (49, 8, 80) := by kernel_rfl
theorem arr26 : arr Try.prog 26 = some (4, 1) := by kernel_rfl
theorem eqt28 : eqT Try.prog 28 = some [.int .i64, .int .i64, .int .i64, .int .i64, .int .i64] := by kernel_rfl
theorem eqt47 : eqT Try.prog 47 = some [.int .i64, .int .i64, .int .i64, .int .i64, .int .i64, .int .i64, .int .i64, .int .i64, .int .i64] := by kernel_rfl
theorem es22 : esz Try.prog 22 = some 8 := by kernel_rfl
theorem es23 : esz Try.prog 23 = some 9 := by kernel_rfl
theorem fo137_0 : foff Try.prog 137 0 = some 0 := by kernel_rfl
theorem fo137_1 : foff Try.prog 137 1 = some 1 := by kernel_rfl
theorem fo25_0 : foff Try.prog 25 0 = some 0 := by kernel_rfl
theorem fo28_0 : foff Try.prog 28 0 = some 0 := by kernel_rfl
theorem fo28_1 : foff Try.prog 28 1 = some 4 := by kernel_rfl
theorem fo49_0 : foff Try.prog 49 0 = some 0 := by kernel_rfl
theorem fo49_1 : foff Try.prog 49 1 = some 1 := by kernel_rfl
theorem fo49_3 : foff Try.prog 49 3 = some 3 := by kernel_rfl
theorem isl22 : isSl Try.prog 22 = true := by kernel_rfl
theorem isl23 : isSl Try.prog 23 = true := by kernel_rfl
theorem mixed : Try.prog.follows .mixedOrders = true := by kernel_rfl
theorem sc22 : sc Try.prog 22 = true := by kernel_rfl
theorem sc23 : sc Try.prog 23 = true := by kernel_rfl
theorem sc3 : sc Try.prog 3 = true := by kernel_rfl
theorem sc4 : sc Try.prog 4 = true := by kernel_rfl
theorem slA22 : slA Try.prog 22 = some (49, 8) := by kernel_rfl
theorem zc26 : zc Try.prog 26 = some [.int .i64 0, .int .i64 0, .int .i64 0, .int .i64 0] := by kernel_rfl
theorem zc49 : zc Try.prog 49 = some [.int .i64 0, .bool false, .slice none 0 0, .int .i64 0, .int .i64 0, .int .i64 0, .int .i64 0, .int .i64 0] := by kernel_rfl
end FactsUniMA
open FactsUniMA

theorem sameR_ok {A A' : Option Addr} {cap cap' : Nat} {L L' : List (List Int)} (hL : Nine L) (hL' : Nine L') {H : Heap} (hS : SlT H Is 9 (.slice A L.length cap) L) (hS' : SlT H Is 9 (.slice A' L'.length cap') L') (hm : L.length ≤ 9223372036854775807) :
    Ret Try.prog 115 [Ty A L.length cap, Ty A' L'.length cap'] H (fun v H' => v = .bool (decide (L = L')) ∧ Ext H H') := by
  refine Ret.of_at (N := 31) Try.call115 Try.func115 rfl rfl rfl ?_
  have hE := Ext.refl H
  refine At.region rfl rfl ?_
  refine Reg.op rfl rfl rfl rfl (Does.box rfl rfl) ?_
  rintro _ H0_0 ⟨rfl, hn0_0⟩
  have z0_0 := hn0_0.size
  replace hE := hE.ext hn0_0.ext
  have o0_0 := hn0_0.own
  refine Reg.op rfl rfl rfl rfl (Does.box rfl rfl) ?_
  rintro _ H0_1 ⟨rfl, hn0_1⟩
  have z0_1 := hn0_1.size
  replace hE := hE.ext hn0_1.ext
  replace o0_0 := o0_0.ext hn0_1.ext
  have o0_1 := hn0_1.own
  refine Reg.pur rfl rfl rfl rfl (Pur.asg rfl) ?_
  refine Reg.nil ?_
  refine At.region rfl rfl ?_
  refine Reg.pur rfl rfl rfl rfl (Pur.fld _ fo25_0 rfl) ?_
  refine Reg.lod rfl rfl rfl rfl (Lod.ld sc23 rfl o0_0.blk rfl) ?_
  refine Reg.pur rfl rfl rfl rfl (Pur.lenS isl23 rfl) ?_
  refine Reg.pur rfl rfl rfl rfl (Pur.fld _ fo25_0 rfl) ?_
  refine Reg.lod rfl rfl rfl rfl (Lod.ld sc23 rfl o0_1.blk rfl) ?_
  refine Reg.pur rfl rfl rfl rfl (Pur.lenS isl23 rfl) ?_
  refine Reg.pur rfl rfl rfl rfl (Pur.neq rfl rfl) ?_
  refine Reg.nil ?_
  refine At.cond rfl rfl (fun q12 => ?_) (fun q12 => ?_)
  · first | (simp only [decide_eq_true_eq, decide_eq_false_iff_not, Bool.not_eq_true', Bool.not_eq_false', ne_eq, Decidable.not_not, Bool.not_eq_true, Bool.not_eq_false] at q12) | (dsimp only at q12) | skip
    refine At.region rfl rfl ?_
    refine Reg.pur rfl rfl rfl rfl (Pur.asg rfl) ?_
    refine Reg.nil ?_
    refine At.ret rfl Try.func115 rfl ?_
    exact ⟨congrArg Value.bool (decide_eq_false (fun h => by subst h; exact q12 rfl)).symm, hE⟩
  first | (simp only [decide_eq_true_eq, decide_eq_false_iff_not, Bool.not_eq_true', Bool.not_eq_false', ne_eq, Decidable.not_not, Bool.not_eq_true, Bool.not_eq_false] at q12) | (dsimp only at q12) | skip
  have hll : L.length = L'.length := by omega
  refine At.region rfl rfl ?_
  refine Reg.pur rfl rfl rfl rfl (Pur.asg rfl) ?_
  refine Reg.nil ?_
  refine At.loop (σ := Nat) (fun i => [(5, I i), (2, ptr H.size 0), (3, ptr H0_0.size 0)]) (fun i H' => i ≤ L.length ∧ Own H' H.size [.slice A L.length cap] ∧ Own H' H0_0.size [.slice A' L'.length cap'] ∧ L.take i = L'.take i ∧ Ext H H') (fun i => L.length - i) 0 rfl ⟨rfl, rfl, rfl, trivial⟩ ⟨by omega, o0_0, o0_1, rfl, hE⟩ ?_
  clear o0_0 o0_1 hE
  rintro i H3 ⟨hi, o0_0, o0_1, hgo, hE⟩ ih
  have z_hE := hE.lt
  have z_o0_0 := o0_0.lt
  have z_o0_1 := o0_1.lt
  refine At.region rfl rfl ?_
  refine Reg.pur rfl rfl rfl rfl (Pur.mv rfl) ?_
  refine Reg.pur rfl rfl rfl rfl (Pur.fld _ fo25_0 rfl) ?_
  refine Reg.lod rfl rfl rfl rfl (Lod.ld sc23 rfl o0_0.blk rfl) ?_
  refine Reg.pur rfl rfl rfl rfl (Pur.lenS isl23 rfl) ?_
  refine Reg.pur rfl rfl rfl rfl (Pur.lss rfl rfl) ?_
  refine Reg.nil ?_
  refine At.cond rfl rfl (fun q17 => ?_) (fun q17 => ?_)
  · first | (simp only [decide_eq_true_eq, decide_eq_false_iff_not, Bool.not_eq_true', Bool.not_eq_false', ne_eq, Decidable.not_not, Bool.not_eq_true, Bool.not_eq_false] at q17) | (dsimp only at q17) | skip
    have hlt : i < L.length := by omega
    have hlt' : i < L'.length := by omega
    obtain ⟨b, o, c, rfl, hB, hd, h9⟩ := sl_at (wide9 hL) (hS.ext hE) hlt
    obtain ⟨b', o', c', rfl, hB', hd', h9'⟩ := sl_at (wide9 hL') (hS'.ext hE) hlt'
    have hf := fks_ints .i64 L[i]
    have hf' := fks_ints .i64 L'[i]
    rw [hL _ (List.getElem_mem hlt)] at hf
    rw [hL' _ (List.getElem_mem hlt')] at hf'
    have hq := eqs_ints .i64 L[i] L'[i]
    refine At.drawE ((Bks.cons o0_0.blk (Bks.cons o0_1.blk (Bks.cons hB.blk (Bks.cons hB'.blk Bks.nil))))) [] mixed rfl rfl ?_
    refine RegD.tpur (i := 0) rfl rfl rfl rfl (by kernel_rfl) (Pur.fld _ fo25_0 rfl) ?_
    refine RegD.take (i := 1) rfl rfl rfl rfl (by kernel_rfl) (Bks.cons o0_0.blk (Bks.cons o0_1.blk (Bks.cons hB.blk (Bks.cons hB'.blk Bks.nil)))) (fun H hS => Lod.ld sc23 rfl hS.hd rfl) ?_
    refine RegD.tpur (i := 2) rfl rfl rfl rfl (by kernel_rfl) (Pur.mv rfl) ?_
    refine RegD.tpur (i := 3) rfl rfl rfl rfl (by kernel_rfl) (Pur.idx _ es23 rfl rfl (by omega) (by omega)) ?_
    refine RegD.take (i := 4) rfl rfl rfl rfl (by kernel_rfl) (Bks.cons o0_0.blk (Bks.cons o0_1.blk (Bks.cons hB.blk (Bks.cons hB'.blk Bks.nil)))) (fun H hS => Lod.ldn ag47 rfl hS.tl.tl.hd hd h9) ?_
    refine RegD.tpur (i := 5) rfl rfl rfl rfl (by kernel_rfl) (Pur.fld _ fo25_0 rfl) ?_
    refine RegD.take (i := 6) rfl rfl rfl rfl (by kernel_rfl) (Bks.cons o0_0.blk (Bks.cons o0_1.blk (Bks.cons hB.blk (Bks.cons hB'.blk Bks.nil)))) (fun H hS => Lod.ld sc23 rfl hS.tl.hd rfl) ?_
    refine RegD.tpur (i := 7) rfl rfl rfl rfl (by kernel_rfl) (Pur.mv rfl) ?_
    refine RegD.tpur (i := 8) rfl rfl rfl rfl (by kernel_rfl) (Pur.idx _ es23 rfl rfl (by omega) (by omega)) ?_
    refine RegD.take (i := 9) rfl rfl rfl rfl (by kernel_rfl) (Bks.cons o0_0.blk (Bks.cons o0_1.blk (Bks.cons hB.blk (Bks.cons hB'.blk Bks.nil)))) (fun H hS => Lod.ldn ag47 rfl hS.tl.tl.tl.hd hd' h9') ?_
    refine RegD.tpur (i := 10) rfl rfl rfl rfl (by kernel_rfl) (Pur.neA eqt47 rfl rfl hf hf') ?_
    refine RegD.done (by kernel_rfl) ?_
    refine At.cond rfl rfl (fun q30 => ?_) (fun q30 => ?_)
    · first | (simp only [decide_eq_true_eq, decide_eq_false_iff_not, Bool.not_eq_true', Bool.not_eq_false', ne_eq, Decidable.not_not, Bool.not_eq_true, Bool.not_eq_false] at q30) | (dsimp only at q30) | skip
      refine At.region rfl rfl ?_
      refine Reg.pur rfl rfl rfl rfl (Pur.asg rfl) ?_
      refine Reg.nil ?_
      refine At.ret rfl Try.func115 rfl ?_
      refine ⟨congrArg Value.bool (decide_eq_false (fun h => ?_)).symm, hE⟩
      subst h
      rw [hq] at q30
      simp at q30
    first | (simp only [decide_eq_true_eq, decide_eq_false_iff_not, Bool.not_eq_true', Bool.not_eq_false', ne_eq, Decidable.not_not, Bool.not_eq_true, Bool.not_eq_false] at q30) | (dsimp only at q30) | skip
    refine At.region rfl rfl ?_
    refine Reg.pur rfl rfl rfl rfl (Pur.mv rfl) ?_
    first | refine Reg.pur rfl rfl rfl rfl (Pur.add64 rfl rfl (by omega)) ?_ | refine Reg.pur rfl rfl rfl rfl (Pur.add64 rfl rfl (by assumption)) ?_ | refine Reg.pur rfl rfl rfl rfl (Pur.add rfl rfl) ?_
    refine Reg.pur rfl rfl rfl rfl (Pur.asg rfl) ?_
    refine Reg.nil ?_
    rw [hq] at q30
    have hq1 : L[i] = L'[i] := by simpa using q30
    exact At.via (ih (i + 1) _ ⟨by omega, o0_0, o0_1, by rw [List.take_succ_eq_append_getElem hlt, List.take_succ_eq_append_getElem hlt', hgo, hq1], hE⟩ (by omega)) ⟨rfl, rfl, rfl, trivial⟩
  first | (simp only [decide_eq_true_eq, decide_eq_false_iff_not, Bool.not_eq_true', Bool.not_eq_false', ne_eq, Decidable.not_not, Bool.not_eq_true, Bool.not_eq_false] at q17) | (dsimp only at q17) | skip
  refine At.region rfl rfl ?_
  refine Reg.pur rfl rfl rfl rfl (Pur.asg rfl) ?_
  refine Reg.nil ?_
  refine At.ret rfl Try.func115 rfl ?_
  rw [List.take_of_length_le (by omega), List.take_of_length_le (by omega)] at hgo
  exact ⟨congrArg Value.bool (decide_eq_true hgo).symm, hE⟩

/-- a matcher's memory -/
structure Mts (H : Heap) (lo sb : Nat) (A : Option Addr) (cap : Nat) (Bs : List Bd) (M : List Bt) : Prop where
  g : Gs H lo 49 8 A cap Bs.length (Bs.flatMap encB)
  ok : ∀ b ∈ Bs, b.Ok H
  off : ∀ b ∈ Bs, b.nodes.length = 0 ∨ (ob b.A ≠ ob A ∧ ob b.A ≠ sb)
  pl : Bs.map pl = M.map Bt.pl
  d : ob A ≠ sb
  lo : lo ≤ sb
  tok : ∀ v u, Bt.t v u ∈ M → u.ok
theorem Mts.lenT {H : Heap} {lo sb cap : Nat} {A : Option Addr} {Bs : List Bd} {M : List Bt} (h : Mts H lo sb A cap Bs M) : M.length = Bs.length := by
  have := congrArg List.length h.pl
  simpa using this.symm
theorem Mts.wide {H : Heap} {lo sb cap : Nat} {A : Option Addr} {Bs : List Bd} {M : List Bt} (h : Mts H lo sb A cap Bs M) : Wide encB 8 Bs := fun b hb => (h.ok b hb).len
theorem Mts.ext {H H' : Heap} {lo sb cap : Nat} {A : Option Addr} {Bs : List Bd} {M : List Bt} (h : Mts H lo sb A cap Bs M) (he : Ext H H') : Mts H' lo sb A cap Bs M :=
  ⟨h.g.ext he, fun b hb => (h.ok b hb).ext he, h.off, h.pl, h.d, h.lo, h.tok⟩
theorem Mts.lt {H : Heap} {lo sb cap : Nat} {A : Option Addr} {Bs : List Bd} {M : List Bt} (h : Mts H lo sb A cap Bs M) : ob A < H.size ∧ (ob A = -1 ∨ (lo : Int) ≤ ob A) ∧ ob A ≠ sb ∧ lo ≤ sb := ⟨h.g.lt.1, h.g.lt.2, h.d, h.lo⟩
/-- the matcher's own block written -/
theorem Mts.sb {H H' : Heap} {lo sb cap : Nat} {A : Option Addr} {Bs : List Bd} {M : List Bt} {c : List Value} (h : Mts H lo sb A cap Bs M) (u : Upd H H' sb c) : Mts H' lo sb A cap Bs M :=
  ⟨h.g.upw u h.d, fun b hb => (h.ok b hb).upw u (by have := h.off b hb; omega), h.off, h.pl, h.d, h.lo, h.tok⟩
theorem Mts.blk {H : Heap} {lo sb cap : Nat} {A : Option Addr} {Bs : List Bd} {M : List Bt} (h : Mts H lo sb A cap Bs M) (h0 : 0 < Bs.length) : ∃ g c, A = some ⟨g, 0, none⟩ ∧ Blk H g c ∧ c.take (Bs.length * 8) = Bs.flatMap encB := by
  obtain ⟨g, c, h1, h2, h3, _⟩ := h.g.blk h0
  exact ⟨g, c, h1, h2.blk, h3⟩
theorem Mts.app {H H' : Heap} {lo sb cap cap' : Nat} {A A' : Option Addr} {Bs : List Bd} {M : List Bt} {bd : Bd} {b : Bt} (h : Mts H lo sb A cap Bs M) (hpl : Go.Proofs.Ytlfillhffpiffaa.pl bd = b.pl) (hok : bd.Ok H) (hoff : bd.nodes.length = 0 ∨ (ob bd.A ≠ ob A ∧ ob bd.A ≠ sb)) (htk : ∀ v u, b = .t v u → u.ok) (hg : Gs H' lo 49 8 A' cap' (Bs ++ [bd]).length ((Bs ++ [bd]).flatMap encB)) (he : But (fun g => g = sb ∨ (g : Int) = ob A) H H') (hA : ob A' = ob A ∨ (H.size : Int) ≤ ob A') (hsb : sb < H.size) : Mts H' lo sb A' cap' (Bs ++ [bd]) (M ++ [b]) := by
  have hd := h.d
  have k : ∀ x ∈ Bs ++ [bd], x.Ok H ∧ (x.nodes.length = 0 ∨ (ob x.A ≠ ob A ∧ ob x.A ≠ sb)) := fun x hx => by
    rcases List.mem_append.1 hx with hx | hx
    · exact ⟨h.ok x hx, h.off x hx⟩
    · rw [List.mem_singleton.1 hx]; exact ⟨hok, hoff⟩
  refine ⟨hg, fun x hx => ?_, fun x hx => ?_, ?_, by omega, h.lo, fun v u hm => ?_⟩
  · obtain ⟨k1, k2⟩ := k x hx
    exact k1.via he (fun h0 g hg hh => by omega)
  · obtain ⟨k1, k2⟩ := k x hx
    have := k1.lt
    omega
  · rw [List.map_append, List.map_append, h.pl]; simp [hpl]
  · rcases List.mem_append.1 hm with hm | hm
    · exact h.tok v u hm
    · exact htk v u (List.mem_singleton.1 hm).symm
/-- of what was there only sb's block is written -/
structure Osb (H : Heap) (sb : Nat) (H' : Heap) : Prop where
  but : But (fun g => g = sb) H H'
theorem Osb.lt {H H' : Heap} {sb : Nat} (h : Osb H sb H') : H.size ≤ H'.size := h.but.1
theorem Osb.ext {H H1 H' : Heap} {sb : Nat} (h : Osb H sb H1) (he : Ext H1 H') : Osb H sb H' := ⟨h.but.trans he.but⟩
theorem Osb.upw {H H1 H' : Heap} {sb b : Nat} {c : List Value} (h : Osb H sb H1) (u : Upd H1 H' b c) (hb : H.size ≤ b ∨ b = sb) : Osb H sb H' :=
  ⟨⟨Nat.le_trans h.but.1 (Nat.le_of_eq u.1.symm), fun g hg hS => by rw [u.2.2 g (fun e => by subst e; rcases hb with hb | hb; omega; exact hS hb), h.but.2 g hg hS]⟩⟩
theorem Osb.md {H H' : Heap} {sb : Nat} (h : Osb H sb H') (A : Option Addr) : Md sb A A H H' := ⟨h.but.mono (fun b hb e => .inl e), .inl rfl⟩
theorem Mts.osb {H H' : Heap} {lo sb cap : Nat} {A : Option Addr} {Bs : List Bd} {M : List Bt} (h : Mts H lo sb A cap Bs M) (u : Osb H sb H') : Mts H' lo sb A cap Bs M :=
  ⟨h.g.via u.but (fun g hg e => h.d (by rw [← hg, e])), fun b hb => (h.ok b hb).via u.but (fun h0 g hg e => by have := h.off b hb; omega), h.off, h.pl, h.d, h.lo, h.tok⟩
/-- what a part of the match comes to: n binds more at most -/
def MtP (H : Heap) (lo sb : Nat) (A : Option Addr) (Bs : List Bd) (n : Nat) (ok : Bool) (r : Option (List Bt)) (H' : Heap) : Prop :=
  ∃ A' cap' Bs' M' ok', Mts H' lo sb A' cap' Bs' M' ∧ Own H' sb [.slice A' Bs'.length cap', .bool ok'] ∧ Md sb A A' H H' ∧ Bs'.length ≤ Bs.length + n ∧ ok' = (ok && r.isSome) ∧ (ok = true → ∀ M2, r = some M2 → M' = M2)

def dfS (g s : List Int) (k : Nat) : List Int := (List.range 4).map fun j => if j < k then s.getD j 0 - g.getD j 0 else 0
def posTo (g s : List Int) (k : Nat) : Bool := (List.range k).all fun j => decide (0 ≤ s.getD j 0 - g.getD j 0)
theorem dfS_len (g s : List Int) (k : Nat) : (dfS g s k).length = 4 := rfl
theorem dfS_set (g s : List Int) {k : Nat} (h : k < 4) : (dfS g s k).set k (s.getD k 0 - g.getD k 0) = dfS g s (k + 1) := by
  apply List.ext_getElem (by simp [dfS])
  intro j h1 h2
  rw [List.getElem_set]
  simp only [dfS, List.getElem_map, List.getElem_range]
  split
  · rename_i e; subst e; rw [if_pos (by omega)]
  · rename_i e
    by_cases h3 : j < k
    · rw [if_pos h3, if_pos (by omega)]
    · rw [if_neg h3, if_neg (by omega)]
theorem dfS_at (g s : List Int) {k : Nat} (h : k < 4) : (dfS g s (k + 1)).getD k 0 = s.getD k 0 - g.getD k 0 := by simp [dfS, h]
theorem posTo_succ (g s : List Int) (k : Nat) : posTo g s (k + 1) = (posTo g s k && decide (0 ≤ s.getD k 0 - g.getD k 0)) := by simp [posTo, List.range_succ]
theorem dfS_all (g s : List Int) : dfS g s 4 ++ [s.getD 4 0] = dfR g s := rfl
theorem posTo_all (g s : List Int) : posTo g s 4 = posR (dfR g s) := by
  unfold posTo posR dfR
  simp only [List.getD_cons_zero, List.getD_cons_succ]
  simp [List.range, List.range.loop, Bool.decide_and]
theorem take_findR {M : List Bt} {v : Int} {i : Nat} (hi : i < M.length) (h : findR (M.take i) v = none) : findR (M.take (i + 1)) v = findR [M[i]] v := by
  rw [List.take_succ_eq_append_getElem hi, findR_app, h]
theorem hit_findR {M : List Bt} {v : Int} {i : Nat} (hi : i < M.length) (h : findR (M.take i) v = none) {d : List Int} (hd : M[i] = .r v d) : findR M v = some d := by
  have e : M = M.take i ++ M[i] :: M.drop (i + 1) := by rw [← List.drop_eq_getElem_cons hi, List.take_append_drop]
  rw [e, findR_app, h, hd]; simp [findR]
theorem take_findT {M : List Bt} {v : Int} {i : Nat} (hi : i < M.length) (h : findT (M.take i) v = none) : findT (M.take (i + 1)) v = findT [M[i]] v := by
  rw [List.take_succ_eq_append_getElem hi, findT_app, h]
theorem hit_findT {M : List Bt} {v : Int} {i : Nat} (hi : i < M.length) (h : findT (M.take i) v = none) {d : Tm} (hd : M[i] = .t v d) : findT M v = some d := by
  have e : M = M.take i ++ M[i] :: M.drop (i + 1) := by rw [← List.drop_eq_getElem_cons hi, List.take_append_drop]
  rw [e, findT_app, h, hd]; simp [findT]
theorem instR_neg {M : List Bt} {g s : List Int} {ok : Bool} (h : (ok && posR (dfR g s)) = false) (hk : ok = true) : instR M g s = none := by
  unfold instR
  rw [hk, Bool.true_and] at h
  exact if_pos h
theorem neg_val {M : List Bt} {g s : List Int} {ok : Bool} (h : (ok && posR (dfR g s)) = false) : false = (ok && (instR M g s).isSome) := by
  cases hk : ok with
  | false => rfl
  | true => rw [instR_neg h hk]; rfl
theorem pos_of {g s : List Int} {ok : Bool} (h : (ok && posR (dfR g s)) = true) : ok = true ∧ ¬ posR (dfR g s) = false := by
  rw [Bool.and_eq_true] at h
  exact ⟨h.1, by rw [h.2]; decide⟩
theorem mrow_ok {H : Heap} {lo sb cap : Nat} {A : Option Addr} {Bs : List Bd} {M : List Bt} {ok : Bool} (h : Mts H lo sb A cap Bs M) (ho : Own H sb [.slice A Bs.length cap, .bool ok]) (hl : Bs.length < 100000) {g s : List Int} (hg5 : g.length = 5) (hg : rowM g = true) (hs5 : s.length = 5) (hs : rowM s = true) :
    Ret Try.prog 116 [ptr sb 0, .agg (Is g).toArray, .agg (Is s).toArray] H (fun _ => MtP H lo sb A Bs 1 ok (instR M g s)) := by
  have hgl := h.lt
  have ag := fun i (hi : i < 4) => rowM_all hg hi hg5
  have as' := fun i (hi : i < 4) => rowM_all hs hi hs5
  refine Ret.of_at (N := 119) Try.call116 Try.func116 rfl rfl rfl ?_
  have hE := Ext.refl H
  have z_hE := hE.lt
  have z_ho := ho.lt
  refine At.region rfl rfl ?_
  refine Reg.op rfl rfl rfl rfl (Does.box rfl rfl) ?_
  rintro _ H0_0 ⟨rfl, hn0_0⟩
  have z0_0 := hn0_0.size
  replace hE := hE.ext hn0_0.ext
  replace ho := ho.ext hn0_0.ext
  have o0_0 := hn0_0.own
  refine Reg.op rfl rfl rfl rfl (Does.box rfl rfl) ?_
  rintro _ H0_1 ⟨rfl, hn0_1⟩
  have z0_1 := hn0_1.size
  replace hE := hE.ext hn0_1.ext
  replace ho := ho.ext hn0_1.ext
  replace o0_0 := o0_0.ext hn0_1.ext
  have o0_1 := hn0_1.own
  refine Reg.nil ?_
  refine At.region rfl rfl ?_
  refine Reg.op rfl rfl rfl rfl (Does.alloc zc26) ?_
  rintro _ H1_0 ⟨rfl, hn1_0⟩
  have z1_0 := hn1_0.size
  replace hE := hE.ext hn1_0.ext
  replace ho := ho.ext hn1_0.ext
  replace o0_0 := o0_0.ext hn1_0.ext
  replace o0_1 := o0_1.ext hn1_0.ext
  have o1_0 := hn1_0.own
  refine Reg.nil ?_
  refine At.region rfl rfl ?_
  refine Reg.pur rfl rfl rfl rfl (Pur.asg rfl) ?_
  refine Reg.nil ?_
  refine At.loop (σ := Nat) (fun k => [(7, I k), (6, ptr H0_1.size 0), (5, ptr H0_0.size 0), (4, ptr H.size 0), (0, ptr sb 0)]) (fun k H' => k ≤ 4 ∧ Own H' H0_1.size (Is (dfS g s k)) ∧ Own H' H.size (Is g) ∧ Own H' H0_0.size (Is s) ∧ Own H' sb [.slice A Bs.length cap, .bool (ok && posTo g s k)] ∧ Osb H sb H') (fun k => 4 - k) 0 rfl ⟨rfl, rfl, rfl, rfl, rfl, trivial⟩ ⟨by omega, o1_0, o0_0, o0_1, by simpa [posTo] using ho, ⟨hE.but⟩⟩ ?_
  have hsb0 := z_ho
  clear ho o1_0 o0_0 o0_1 hE
  rintro k H3 ⟨hk, od, og, os, ho, hO⟩ ih
  have z_hO := hO.lt
  have z_ho := ho.lt
  have z_od := od.lt
  have z_og := og.lt
  have z_os := os.lt
  refine At.region rfl rfl ?_
  refine Reg.pur rfl rfl rfl rfl (Pur.mv rfl) ?_
  refine Reg.pur rfl rfl rfl rfl (Pur.lss rfl rfl) ?_
  refine Reg.nil ?_
  refine At.cond rfl rfl (fun q11 => ?_) (fun q11 => ?_)
  · first | (simp only [decide_eq_true_eq, decide_eq_false_iff_not, Bool.not_eq_true', Bool.not_eq_false', ne_eq, Decidable.not_not, Bool.not_eq_true, Bool.not_eq_false] at q11) | (dsimp only at q11) | skip
    have hk4 : k < 4 := by omega
    have hg1 := ag k hk4
    have hs1 := as' k hk4
    have hdl := dfS_len g s k
    refine At.drawE ((Bks.cons og.blk (Bks.cons os.blk Bks.nil))) [11] mixed rfl rfl ?_
    refine RegD.tpur (i := 0) rfl rfl rfl rfl (by kernel_rfl) (Pur.mv rfl) ?_
    refine RegD.tpur (i := 1) rfl rfl rfl rfl (by kernel_rfl) (Pur.mv rfl) ?_
    refine RegD.tpur (i := 2) rfl rfl rfl rfl (by kernel_rfl) (Pur.fld _ fo28_0 rfl) ?_
    refine RegD.tpur (i := 3) rfl rfl rfl rfl (by kernel_rfl) (Pur.idxP arr26 rfl rfl (by omega) (by omega)) ?_
    refine RegD.take (i := 4) rfl rfl rfl rfl (by kernel_rfl) (Bks.cons og.blk (Bks.cons os.blk Bks.nil)) (fun H hS => Lod.ld sc3 rfl hS.tl.hd (show _ = some (I (s.getD k 0)) by rw [Int.toNat_natCast, show 0 + 0 + k * 1 = k by omega]; exact at_Is (by omega))) ?_
    refine RegD.tpur (i := 5) rfl rfl rfl rfl (by kernel_rfl) (Pur.mv rfl) ?_
    refine RegD.tpur (i := 6) rfl rfl rfl rfl (by kernel_rfl) (Pur.fld _ fo28_0 rfl) ?_
    refine RegD.tpur (i := 7) rfl rfl rfl rfl (by kernel_rfl) (Pur.idxP arr26 rfl rfl (by omega) (by omega)) ?_
    refine RegD.take (i := 8) rfl rfl rfl rfl (by kernel_rfl) (Bks.cons og.blk (Bks.cons os.blk Bks.nil)) (fun H hS => Lod.ld sc3 rfl hS.hd (show _ = some (I (g.getD k 0)) by rw [Int.toNat_natCast, show 0 + 0 + k * 1 = k by omega]; exact at_Is (by omega))) ?_
    first | refine RegD.tpur (i := 9) rfl rfl rfl rfl (by kernel_rfl) (Pur.sub64 rfl rfl (by omega)) ?_ | refine RegD.tpur (i := 9) rfl rfl rfl rfl (by kernel_rfl) (Pur.sub64 rfl rfl (by assumption)) ?_ | refine RegD.tpur (i := 9) rfl rfl rfl rfl (by kernel_rfl) (Pur.sub rfl rfl) ?_
    refine RegD.tpur (i := 10) rfl rfl rfl rfl (by kernel_rfl) (Pur.idxP arr26 rfl rfl (by omega) (by omega)) ?_
    refine RegD.one0 (i := 11) (by kernel_rfl) rfl rfl rfl (Does.st sc3 rfl rfl rfl od (by rw [List.length_map, hdl]; omega)) ?_
    rintro _ H5_11 hu5_11
    have z5_11 := hu5_11.size
    replace hO := hO.upw hu5_11 (by omega)
    replace ho := ho.upw hu5_11 (by omega)
    replace og := og.upw hu5_11 (by omega)
    replace os := os.upw hu5_11 (by omega)
    replace od := hu5_11.own
    replace od := od.of (c' := Is (dfS g s (k + 1))) (by rw [← dfS_set g s hk4, Nat.zero_add, Nat.mul_one, Int.toNat_natCast]; simp [Is, List.map_set])
    refine ⟨fun h => (by cases h), ?_⟩
    refine RegD.done (by kernel_rfl) ?_
    refine At.region rfl rfl ?_
    refine Reg.pur rfl rfl rfl rfl (Pur.mv rfl) ?_
    refine Reg.pur rfl rfl rfl rfl (Pur.mv rfl) ?_
    refine Reg.pur rfl rfl rfl rfl (Pur.nilc rfl) ?_
    refine Reg.pur rfl rfl rfl rfl (Pur.fld _ fo137_1 rfl) ?_
    refine Reg.lod rfl rfl rfl rfl (Lod.ld sc4 rfl ho.blk rfl) ?_
    refine Reg.pur rfl rfl rfl rfl (Pur.mv rfl) ?_
    refine Reg.case 30 rfl (fun q30 => ?_) (fun q30 => ?_)
    · first | (simp only [decide_eq_true_eq, decide_eq_false_iff_not, Bool.not_eq_true', Bool.not_eq_false', ne_eq, Decidable.not_not, Bool.not_eq_true, Bool.not_eq_false] at q30) | (dsimp only at q30) | skip
      refine Reg.gpur rfl rfl rfl rfl rfl rfl (Pur.mv rfl) ?_
      refine Reg.gpur rfl rfl rfl rfl rfl rfl (Pur.idxP arr26 rfl rfl (by omega) (by omega)) ?_
      refine Reg.glod rfl rfl rfl rfl rfl rfl (Lod.ld sc3 rfl od.blk (show _ = some (I ((dfS g s (k + 1)).getD k 0)) by rw [Nat.zero_add, Nat.mul_one, Int.toNat_natCast]; exact at_Is (by rw [dfS_len]; omega))) ?_
      refine Reg.gpur rfl rfl rfl rfl rfl rfl (Pur.geq rfl rfl) ?_
      refine Reg.pur rfl rfl rfl rfl (Pur.pickT rfl rfl) ?_
      refine Reg.pur rfl rfl rfl rfl (Pur.nilc rfl) ?_
      refine Reg.pur rfl rfl rfl rfl (Pur.fld _ fo137_1 rfl) ?_
      refine Reg.op0 rfl rfl rfl (Does.st sc4 rfl rfl rfl ho (by first | decide | (simp; done) | (simp; omega) | omega)) ?_
      rintro _ H6_13 hu6_13
      have z6_13 := hu6_13.size
      replace hO := hO.upw hu6_13 (by omega)
      replace od := od.upw hu6_13 (by omega)
      replace og := og.upw hu6_13 (by omega)
      replace os := os.upw hu6_13 (by omega)
      replace ho := hu6_13.own
      refine Reg.nil ?_
      refine At.region rfl rfl ?_
      refine Reg.pur rfl rfl rfl rfl (Pur.mv rfl) ?_
      first | refine Reg.pur rfl rfl rfl rfl (Pur.add64 rfl rfl (by omega)) ?_ | refine Reg.pur rfl rfl rfl rfl (Pur.add64 rfl rfl (by assumption)) ?_ | refine Reg.pur rfl rfl rfl rfl (Pur.add rfl rfl) ?_
      refine Reg.pur rfl rfl rfl rfl (Pur.asg rfl) ?_
      refine Reg.nil ?_
      have hds := dfS_at g s hk4
      have hps := posTo_succ g s k
      have hpo : Own H6_13 sb [.slice A Bs.length cap, .bool (ok && posTo g s (k + 1))] := ho.of (by rw [hps, ← Bool.and_assoc]; first | (rw [q30, Bool.true_and, hds]; rfl) | (rw [q30, Bool.false_and]; rfl))
      exact At.via (ih (k + 1) _ ⟨by omega, od, og, os, hpo, hO⟩ (by omega)) ⟨rfl, rfl, rfl, rfl, rfl, trivial⟩
    first | (simp only [decide_eq_true_eq, decide_eq_false_iff_not, Bool.not_eq_true', Bool.not_eq_false', ne_eq, Decidable.not_not, Bool.not_eq_true, Bool.not_eq_false] at q30) | (dsimp only at q30) | skip
    refine Reg.skip rfl rfl rfl rfl rfl rfl rfl ?_
    refine Reg.skip rfl rfl rfl rfl rfl rfl rfl ?_
    refine Reg.skip rfl rfl rfl rfl rfl rfl rfl ?_
    refine Reg.skip rfl rfl rfl rfl rfl rfl rfl ?_
    refine Reg.pur rfl rfl rfl rfl (Pur.pickF rfl rfl) ?_
    refine Reg.pur rfl rfl rfl rfl (Pur.nilc rfl) ?_
    refine Reg.pur rfl rfl rfl rfl (Pur.fld _ fo137_1 rfl) ?_
    refine Reg.op0 rfl rfl rfl (Does.st sc4 rfl rfl rfl ho (by first | decide | (simp; done) | (simp; omega) | omega)) ?_
    rintro _ H6_13 hu6_13
    have z6_13 := hu6_13.size
    replace hO := hO.upw hu6_13 (by omega)
    replace od := od.upw hu6_13 (by omega)
    replace og := og.upw hu6_13 (by omega)
    replace os := os.upw hu6_13 (by omega)
    replace ho := hu6_13.own
    refine Reg.nil ?_
    refine At.region rfl rfl ?_
    refine Reg.pur rfl rfl rfl rfl (Pur.mv rfl) ?_
    first | refine Reg.pur rfl rfl rfl rfl (Pur.add64 rfl rfl (by omega)) ?_ | refine Reg.pur rfl rfl rfl rfl (Pur.add64 rfl rfl (by assumption)) ?_ | refine Reg.pur rfl rfl rfl rfl (Pur.add rfl rfl) ?_
    refine Reg.pur rfl rfl rfl rfl (Pur.asg rfl) ?_
    refine Reg.nil ?_
    have hds := dfS_at g s hk4
    have hps := posTo_succ g s k
    have hpo : Own H6_13 sb [.slice A Bs.length cap, .bool (ok && posTo g s (k + 1))] := ho.of (by rw [hps, ← Bool.and_assoc]; first | (rw [q30, Bool.true_and, hds]; rfl) | (rw [q30, Bool.false_and]; rfl))
    exact At.via (ih (k + 1) _ ⟨by omega, od, og, os, hpo, hO⟩ (by omega)) ⟨rfl, rfl, rfl, rfl, rfl, trivial⟩
  first | (simp only [decide_eq_true_eq, decide_eq_false_iff_not, Bool.not_eq_true', Bool.not_eq_false', ne_eq, Decidable.not_not, Bool.not_eq_true, Bool.not_eq_false] at q11) | (dsimp only at q11) | skip
  obtain rfl : k = 4 := by omega
  rw [posTo_all] at ho
  clear ih
  refine At.region rfl rfl ?_
  refine Reg.pur rfl rfl rfl rfl (Pur.fld _ fo28_1 rfl) ?_
  refine Reg.lod rfl rfl rfl rfl (Lod.ld sc3 rfl og.blk (hat4 g hg5)) ?_
  refine Reg.pur rfl rfl rfl rfl (Pur.lss rfl rfl) ?_
  refine Reg.nil ?_
  refine At.cond rfl rfl (fun q40 => ?_) (fun q40 => ?_)
  · first | (simp only [decide_eq_true_eq, decide_eq_false_iff_not, Bool.not_eq_true', Bool.not_eq_false', ne_eq, Decidable.not_not, Bool.not_eq_true, Bool.not_eq_false] at q40) | (dsimp only at q40) | skip
    have hfg := fks_ints .i64 g
    have hfs := fks_ints .i64 s
    rw [hg5] at hfg
    rw [hs5] at hfs
    have hei := eqs_ints .i64 g s
    refine At.region rfl rfl ?_
    refine Reg.pur rfl rfl rfl rfl (Pur.mv rfl) ?_
    refine Reg.pur rfl rfl rfl rfl (Pur.mv rfl) ?_
    refine Reg.pur rfl rfl rfl rfl (Pur.nilc rfl) ?_
    refine Reg.pur rfl rfl rfl rfl (Pur.fld _ fo137_1 rfl) ?_
    refine Reg.lod rfl rfl rfl rfl (Lod.ld sc4 rfl ho.blk rfl) ?_
    refine Reg.pur rfl rfl rfl rfl (Pur.mv rfl) ?_
    refine Reg.case 46 rfl (fun q46 => ?_) (fun q46 => ?_)
    · first | (simp only [decide_eq_true_eq, decide_eq_false_iff_not, Bool.not_eq_true', Bool.not_eq_false', ne_eq, Decidable.not_not, Bool.not_eq_true, Bool.not_eq_false] at q46) | (dsimp only at q46) | skip
      refine Reg.glod rfl rfl rfl rfl rfl rfl (Lod.ldn ag28 rfl og.blk (whole (by simp [hg5])) (by simp [hg5])) ?_
      refine Reg.glod rfl rfl rfl rfl rfl rfl (Lod.ldn ag28 rfl os.blk (whole (by simp [hs5])) (by simp [hs5])) ?_
      refine Reg.gpur rfl rfl rfl rfl rfl rfl (Pur.eqA eqt28 rfl rfl hfg hfs) ?_
      refine Reg.pur rfl rfl rfl rfl (Pur.pickT rfl rfl) ?_
      refine Reg.pur rfl rfl rfl rfl (Pur.nilc rfl) ?_
      refine Reg.pur rfl rfl rfl rfl (Pur.fld _ fo137_1 rfl) ?_
      refine Reg.op0 rfl rfl rfl (Does.st sc4 rfl rfl rfl ho (by first | decide | (simp; done) | (simp; omega) | omega)) ?_
      rintro _ H8_12 hu8_12
      have z8_12 := hu8_12.size
      replace hO := hO.upw hu8_12 (by omega)
      replace od := od.upw hu8_12 (by omega)
      replace og := og.upw hu8_12 (by omega)
      replace os := os.upw hu8_12 (by omega)
      replace ho := hu8_12.own
      refine Reg.nil ?_
      refine At.ret rfl Try.func116 rfl ?_
      obtain ⟨hk1, hk2⟩ := pos_of q46
      have hi1 : instR M g s = if g = s then some M else none := by unfold instR; rw [if_neg hk2, if_pos q40]
      refine ⟨A, cap, Bs, M, _, h.osb hO, ho, hO.md A, by omega, ?_, fun hok M2 hM2 => ?_⟩
      · rw [hei, hi1, hk1]; by_cases hgs' : g = s <;> simp [hgs']
      · rw [hi1] at hM2; split at hM2 <;> cases hM2; rfl
    first | (simp only [decide_eq_true_eq, decide_eq_false_iff_not, Bool.not_eq_true', Bool.not_eq_false', ne_eq, Decidable.not_not, Bool.not_eq_true, Bool.not_eq_false] at q46) | (dsimp only at q46) | skip
    refine Reg.skip rfl rfl rfl rfl rfl rfl rfl ?_
    refine Reg.skip rfl rfl rfl rfl rfl rfl rfl ?_
    refine Reg.skip rfl rfl rfl rfl rfl rfl rfl ?_
    refine Reg.pur rfl rfl rfl rfl (Pur.pickF rfl rfl) ?_
    refine Reg.pur rfl rfl rfl rfl (Pur.nilc rfl) ?_
    refine Reg.pur rfl rfl rfl rfl (Pur.fld _ fo137_1 rfl) ?_
    refine Reg.op0 rfl rfl rfl (Does.st sc4 rfl rfl rfl ho (by first | decide | (simp; done) | (simp; omega) | omega)) ?_
    rintro _ H8_12 hu8_12
    have z8_12 := hu8_12.size
    replace hO := hO.upw hu8_12 (by omega)
    replace od := od.upw hu8_12 (by omega)
    replace og := og.upw hu8_12 (by omega)
    replace os := os.upw hu8_12 (by omega)
    replace ho := hu8_12.own
    refine Reg.nil ?_
    refine At.ret rfl Try.func116 rfl ?_
    refine ⟨A, cap, Bs, M, _, h.osb hO, ho, hO.md A, by omega, neg_val q46, fun hok M2 hM2 => ?_⟩
    rw [instR_neg q46 hok] at hM2; cases hM2
  first | (simp only [decide_eq_true_eq, decide_eq_false_iff_not, Bool.not_eq_true', Bool.not_eq_false', ne_eq, Decidable.not_not, Bool.not_eq_true, Bool.not_eq_false] at q40) | (dsimp only at q40) | skip
  refine At.region rfl rfl ?_
  refine Reg.pur rfl rfl rfl rfl (Pur.fld _ fo28_1 rfl) ?_
  refine Reg.lod rfl rfl rfl rfl (Lod.ld sc3 rfl og.blk (hat4 g hg5)) ?_
  refine Reg.lod rfl rfl rfl rfl (Lod.ldn ag26 rfl od.blk (whole rfl) rfl) ?_
  refine Reg.pur rfl rfl rfl rfl (Pur.fld _ fo28_1 rfl) ?_
  refine Reg.lod rfl rfl rfl rfl (Lod.ld sc3 rfl os.blk (hat4 s hs5)) ?_
  refine Reg.op rfl rfl rfl rfl (Does.call rfl (rowBindR_ok _ _ _ (dfS_len g s 4))) ?_
  rintro _ H9_5 ⟨rfl, hE9_5⟩
  have z9_5 := hE9_5.lt
  replace hO := hO.ext hE9_5
  replace ho := ho.ext hE9_5
  replace od := od.ext hE9_5
  replace og := og.ext hE9_5
  replace os := os.ext hE9_5
  refine Reg.op rfl rfl rfl rfl (Does.alloc zc49) ?_
  rintro _ H9_6 ⟨rfl, hn9_6⟩
  have z9_6 := hn9_6.size
  replace hO := hO.ext hn9_6.ext
  replace ho := ho.ext hn9_6.ext
  replace od := od.ext hn9_6.ext
  replace og := og.ext hn9_6.ext
  replace os := os.ext hn9_6.ext
  have o9_6 := hn9_6.own
  refine Reg.op0 rfl rfl rfl (Does.stn ag49 rfl rfl (ones_encB _) rfl o9_6 (Nat.le_refl _)) ?_
  rintro _ H9_7 hu9_7
  have z9_7 := hu9_7.size
  replace hO := hO.upw hu9_7 (by omega)
  replace ho := ho.upw hu9_7 (by omega)
  replace od := od.upw hu9_7 (by omega)
  replace og := og.upw hu9_7 (by omega)
  replace os := os.upw hu9_7 (by omega)
  replace o9_6 := hu9_7.own
  first | rw [over (by first | rfl | (simp; done))] at o9_6 | skip
  replace o9_6 := o9_6.of (c' := encB (bR (g.getD 4 0) (dfR g s))) (by rw [← dfS_all])
  refine Reg.nil ?_
  refine At.region rfl rfl ?_
  refine Reg.pur rfl rfl rfl rfl (Pur.asg rfl) ?_
  refine Reg.nil ?_
  have hMt := h.osb hO
  have hMtg := hMt.lt
  have hlT := h.lenT
  refine At.loop (σ := Nat) (fun i => [(9, I i), (8, ptr H9_5.size 0), (4, ptr H.size 0), (0, ptr sb 0)]) (fun i H' => i ≤ Bs.length ∧ H' = H9_7 ∧ findR (M.take i) (g.getD 4 0) = none) (fun i => Bs.length - i) 0 rfl ⟨rfl, rfl, rfl, rfl, trivial⟩ ⟨by omega, rfl, rfl⟩ ?_
  rintro i H3' ⟨hi, rfl, hnf⟩ ih
  refine At.region rfl rfl ?_
  refine Reg.pur rfl rfl rfl rfl (Pur.mv rfl) ?_
  refine Reg.pur rfl rfl rfl rfl (Pur.mv rfl) ?_
  refine Reg.pur rfl rfl rfl rfl (Pur.nilc rfl) ?_
  refine Reg.pur rfl rfl rfl rfl (Pur.fld _ fo137_0 rfl) ?_
  refine Reg.lod rfl rfl rfl rfl (Lod.ld sc22 rfl ho.blk rfl) ?_
  refine Reg.pur rfl rfl rfl rfl (Pur.lenS isl22 rfl) ?_
  refine Reg.pur rfl rfl rfl rfl (Pur.lss rfl rfl) ?_
  refine Reg.nil ?_
  refine At.cond rfl rfl (fun q65 => ?_) (fun q65 => ?_)
  · first | (simp only [decide_eq_true_eq, decide_eq_false_iff_not, Bool.not_eq_true', Bool.not_eq_false', ne_eq, Decidable.not_not, Bool.not_eq_true, Bool.not_eq_false] at q65) | (dsimp only at q65) | skip
    have hib : i < Bs.length := by omega
    have hjm : i < M.length := by omega
    obtain ⟨gq, cq, rfl, hBq, hcq⟩ := hMt.blk (by omega)
    have hdi := row_rd hMt.wide hib hcq
    have hpi := pl_at hMt.pl hib hjm
    have hrw := (hMt.ok _ (List.getElem_mem hib)).row
    refine At.drawE ((Bks.cons hBq.blk (Bks.cons ho.blk (Bks.cons og.blk Bks.nil)))) [] mixed rfl rfl ?_
    refine RegD.tpur (i := 0) rfl rfl rfl rfl (by kernel_rfl) (Pur.mv rfl) ?_
    refine RegD.tpur (i := 1) rfl rfl rfl rfl (by kernel_rfl) (Pur.nilc rfl) ?_
    refine RegD.tpur (i := 2) rfl rfl rfl rfl (by kernel_rfl) (Pur.fld _ fo137_0 rfl) ?_
    refine RegD.take (i := 3) rfl rfl rfl rfl (by kernel_rfl) (Bks.cons hBq.blk (Bks.cons ho.blk (Bks.cons og.blk Bks.nil))) (fun H hS => Lod.ld sc22 rfl hS.tl.hd rfl) ?_
    refine RegD.tpur (i := 4) rfl rfl rfl rfl (by kernel_rfl) (Pur.mv rfl) ?_
    refine RegD.tpur (i := 5) rfl rfl rfl rfl (by kernel_rfl) (Pur.idx _ es22 rfl rfl (by omega) (by omega)) ?_
    refine RegD.tpur (i := 6) rfl rfl rfl rfl (by kernel_rfl) (Pur.fld _ fo49_1 rfl) ?_
    refine RegD.take (i := 7) rfl rfl rfl rfl (by kernel_rfl) (Bks.cons hBq.blk (Bks.cons ho.blk (Bks.cons og.blk Bks.nil))) (fun H hS => Lod.ld sc4 rfl hS.hd (by rw [Int.toNat_natCast, Nat.zero_add]; exact at_tk hdi (j := 1) (by decide) rfl)) ?_
    refine RegD.tpur (i := 8) rfl rfl rfl rfl (by kernel_rfl) (Pur.mv rfl) ?_
    refine RegD.case 76 rfl (fun q76 => ?_) (fun q76 => ?_)
    · first | (simp only [decide_eq_true_eq, decide_eq_false_iff_not, Bool.not_eq_true', Bool.not_eq_false', ne_eq, Decidable.not_not, Bool.not_eq_true, Bool.not_eq_false] at q76) | (dsimp only at q76) | skip
      refine RegD.gtpur (i := 9) rfl rfl rfl rfl rfl rfl (by kernel_rfl) (Pur.mv rfl) ?_
      refine RegD.gtpur (i := 10) rfl rfl rfl rfl rfl rfl (by kernel_rfl) (Pur.nilc rfl) ?_
      refine RegD.gtpur (i := 11) rfl rfl rfl rfl rfl rfl (by kernel_rfl) (Pur.fld _ fo137_0 rfl) ?_
      refine RegD.gtake (i := 12) rfl rfl rfl rfl rfl rfl (by kernel_rfl) (Bks.cons hBq.blk (Bks.cons ho.blk (Bks.cons og.blk Bks.nil))) (fun H hS => Lod.ld sc22 rfl hS.tl.hd rfl) ?_
      refine RegD.gtpur (i := 13) rfl rfl rfl rfl rfl rfl (by kernel_rfl) (Pur.mv rfl) ?_
      refine RegD.gtpur (i := 14) rfl rfl rfl rfl rfl rfl (by kernel_rfl) (Pur.idx _ es22 rfl rfl (by omega) (by omega)) ?_
      refine RegD.gtpur (i := 15) rfl rfl rfl rfl rfl rfl (by kernel_rfl) (Pur.fld _ fo49_0 rfl) ?_
      refine RegD.gtake (i := 16) rfl rfl rfl rfl rfl rfl (by kernel_rfl) (Bks.cons hBq.blk (Bks.cons ho.blk (Bks.cons og.blk Bks.nil))) (fun H hS => Lod.ld sc3 rfl hS.hd (by rw [Int.toNat_natCast, Nat.zero_add]; exact at_tk hdi (j := 0) (by decide) rfl)) ?_
      refine RegD.gtpur (i := 17) rfl rfl rfl rfl rfl rfl (by kernel_rfl) (Pur.fld _ fo28_1 rfl) ?_
      refine RegD.gtake (i := 18) rfl rfl rfl rfl rfl rfl (by kernel_rfl) (Bks.cons hBq.blk (Bks.cons ho.blk (Bks.cons og.blk Bks.nil))) (fun H hS => Lod.ld sc3 rfl hS.tl.tl.hd (hat4 g hg5)) ?_
      refine RegD.gtpur (i := 19) rfl rfl rfl rfl rfl rfl (by kernel_rfl) (Pur.eql rfl rfl) ?_
      refine RegD.tpur (i := 20) rfl rfl rfl rfl (by kernel_rfl) (Pur.pickT rfl rfl) ?_
      refine RegD.done (by kernel_rfl) ?_
      refine At.cond rfl rfl (fun q88 => ?_) (fun q88 => ?_)
      · first | (simp only [decide_eq_true_eq, decide_eq_false_iff_not, Bool.not_eq_true', Bool.not_eq_false', ne_eq, Decidable.not_not, Bool.not_eq_true, Bool.not_eq_false] at q88) | (dsimp only at q88) | skip
        have hrl : (cq.drop (0 + (i : Int).toNat * 8 + 3)).take 5 = Is Bs[i].row := by { rw [Int.toNat_natCast, Nat.zero_add, ← List.drop_drop, take_mid hdi (by decide)]; exact enc_row hrw }
        have hrd : ((encB (bR (g.getD 4 0) (dfR g s))).drop (0 + 3)).take 5 = Is (dfR g s) := rfl
        have hfb := fks_ints .i64 Bs[i].row
        have hfd := fks_ints .i64 (dfR g s)
        rw [hrw] at hfb
        have hei := eqs_ints .i64 Bs[i].row (dfR g s)
        refine At.drawE ((Bks.cons hBq.blk (Bks.cons ho.blk (Bks.cons o9_6.blk Bks.nil)))) [20] mixed rfl rfl ?_
        refine RegD.tpur (i := 0) rfl rfl rfl rfl (by kernel_rfl) (Pur.mv rfl) ?_
        refine RegD.tpur (i := 1) rfl rfl rfl rfl (by kernel_rfl) (Pur.mv rfl) ?_
        refine RegD.tpur (i := 2) rfl rfl rfl rfl (by kernel_rfl) (Pur.nilc rfl) ?_
        refine RegD.tpur (i := 3) rfl rfl rfl rfl (by kernel_rfl) (Pur.fld _ fo137_1 rfl) ?_
        refine RegD.take (i := 4) rfl rfl rfl rfl (by kernel_rfl) (Bks.cons hBq.blk (Bks.cons ho.blk (Bks.cons o9_6.blk Bks.nil))) (fun H hS => Lod.ld sc4 rfl hS.tl.hd rfl) ?_
        refine RegD.tpur (i := 5) rfl rfl rfl rfl (by kernel_rfl) (Pur.mv rfl) ?_
        refine RegD.case 94 rfl (fun q94 => ?_) (fun q94 => ?_)
        · first | (simp only [decide_eq_true_eq, decide_eq_false_iff_not, Bool.not_eq_true', Bool.not_eq_false', ne_eq, Decidable.not_not, Bool.not_eq_true, Bool.not_eq_false] at q94) | (dsimp only at q94) | skip
          refine RegD.gtpur (i := 6) rfl rfl rfl rfl rfl rfl (by kernel_rfl) (Pur.mv rfl) ?_
          refine RegD.gtpur (i := 7) rfl rfl rfl rfl rfl rfl (by kernel_rfl) (Pur.nilc rfl) ?_
          refine RegD.gtpur (i := 8) rfl rfl rfl rfl rfl rfl (by kernel_rfl) (Pur.fld _ fo137_0 rfl) ?_
          refine RegD.gtake (i := 9) rfl rfl rfl rfl rfl rfl (by kernel_rfl) (Bks.cons hBq.blk (Bks.cons ho.blk (Bks.cons o9_6.blk Bks.nil))) (fun H hS => Lod.ld sc22 rfl hS.tl.hd rfl) ?_
          refine RegD.gtpur (i := 10) rfl rfl rfl rfl rfl rfl (by kernel_rfl) (Pur.mv rfl) ?_
          refine RegD.gtpur (i := 11) rfl rfl rfl rfl rfl rfl (by kernel_rfl) (Pur.idx _ es22 rfl rfl (by omega) (by omega)) ?_
          refine RegD.gtpur (i := 12) rfl rfl rfl rfl rfl rfl (by kernel_rfl) (Pur.fld _ fo49_3 rfl) ?_
          refine RegD.gtake (i := 13) rfl rfl rfl rfl rfl rfl (by kernel_rfl) (Bks.cons hBq.blk (Bks.cons ho.blk (Bks.cons o9_6.blk Bks.nil))) (fun H hS => Lod.ldn ag28 rfl hS.hd hrl (by simp [hrw])) ?_
          refine RegD.gtpur (i := 14) rfl rfl rfl rfl rfl rfl (by kernel_rfl) (Pur.fld _ fo49_3 rfl) ?_
          refine RegD.gtake (i := 15) rfl rfl rfl rfl rfl rfl (by kernel_rfl) (Bks.cons hBq.blk (Bks.cons ho.blk (Bks.cons o9_6.blk Bks.nil))) (fun H hS => Lod.ldn ag28 rfl hS.tl.tl.hd hrd rfl) ?_
          refine RegD.gtpur (i := 16) rfl rfl rfl rfl rfl rfl (by kernel_rfl) (Pur.eqA eqt28 rfl rfl hfb hfd) ?_
          refine RegD.tpur (i := 17) rfl rfl rfl rfl (by kernel_rfl) (Pur.pickT rfl rfl) ?_
          refine RegD.tpur (i := 18) rfl rfl rfl rfl (by kernel_rfl) (Pur.nilc rfl) ?_
          refine RegD.tpur (i := 19) rfl rfl rfl rfl (by kernel_rfl) (Pur.fld _ fo137_1 rfl) ?_
          refine RegD.one0 (i := 20) (by kernel_rfl) rfl rfl rfl (Does.st sc4 rfl rfl rfl ho (by first | decide | (simp; done) | (simp; omega) | omega)) ?_
          rintro _ H14_20 hu14_20
          have z14_20 := hu14_20.size
          replace hO := hO.upw hu14_20 (by omega)
          replace od := od.upw hu14_20 (by omega)
          replace og := og.upw hu14_20 (by omega)
          replace os := os.upw hu14_20 (by omega)
          replace o9_6 := o9_6.upw hu14_20 (by omega)
          replace ho := hu14_20.own
          refine ⟨fun h => (by cases h), ?_⟩
          refine RegD.done (by kernel_rfl) ?_
          refine At.ret rfl Try.func116 rfl ?_
          obtain ⟨d1, hd1⟩ : ∃ d1, M[i] = .r (g.getD 4 0) d1 := by { generalize M[i] = x at hpi; cases x with | r v w => (have e1 : Bs[i].var = v := congrArg (fun p => p.1) hpi; exact ⟨w, by rw [← q88, e1]⟩) | t v w => (have e1 : Bs[i].isRow = false := congrArg (fun p => p.2.1) hpi; rw [e1] at q76; cases q76) }
          have hhit := hit_findR hjm hnf hd1
          have hrow : Bs[i].row = d1 := by { rw [hd1] at hpi; exact congrArg (fun p => p.2.2.2) hpi }
          obtain ⟨hk1, hk2⟩ := pos_of q94
          have hi1 : instR M g s = if d1 = dfR g s then some M else none := by unfold instR; rw [if_neg hk2, if_neg q40, hhit]
          refine ⟨_, cap, Bs, M, _, h.osb hO, ho, hO.md _, by omega, ?_, fun hok M2 hM2 => ?_⟩
          · rw [hei, hi1, hk1, hrow]; by_cases hgs' : d1 = dfR g s <;> simp [hgs']
          · rw [hi1] at hM2; split at hM2 <;> cases hM2; rfl
        first | (simp only [decide_eq_true_eq, decide_eq_false_iff_not, Bool.not_eq_true', Bool.not_eq_false', ne_eq, Decidable.not_not, Bool.not_eq_true, Bool.not_eq_false] at q94) | (dsimp only at q94) | skip
        refine RegD.skip (i := 6) rfl rfl rfl rfl rfl rfl rfl (by kernel_rfl) ?_
        refine RegD.skip (i := 7) rfl rfl rfl rfl rfl rfl rfl (by kernel_rfl) ?_
        refine RegD.skip (i := 8) rfl rfl rfl rfl rfl rfl rfl (by kernel_rfl) ?_
        refine RegD.skip (i := 9) rfl rfl rfl rfl rfl rfl rfl (by kernel_rfl) ?_
        refine RegD.skip (i := 10) rfl rfl rfl rfl rfl rfl rfl (by kernel_rfl) ?_
        refine RegD.skip (i := 11) rfl rfl rfl rfl rfl rfl rfl (by kernel_rfl) ?_
        refine RegD.skip (i := 12) rfl rfl rfl rfl rfl rfl rfl (by kernel_rfl) ?_
        refine RegD.skip (i := 13) rfl rfl rfl rfl rfl rfl rfl (by kernel_rfl) ?_
        refine RegD.skip (i := 14) rfl rfl rfl rfl rfl rfl rfl (by kernel_rfl) ?_
        refine RegD.skip (i := 15) rfl rfl rfl rfl rfl rfl rfl (by kernel_rfl) ?_
        refine RegD.skip (i := 16) rfl rfl rfl rfl rfl rfl rfl (by kernel_rfl) ?_
        refine RegD.tpur (i := 17) rfl rfl rfl rfl (by kernel_rfl) (Pur.pickF rfl rfl) ?_
        refine RegD.tpur (i := 18) rfl rfl rfl rfl (by kernel_rfl) (Pur.nilc rfl) ?_
        refine RegD.tpur (i := 19) rfl rfl rfl rfl (by kernel_rfl) (Pur.fld _ fo137_1 rfl) ?_
        refine RegD.one0 (i := 20) (by kernel_rfl) rfl rfl rfl (Does.st sc4 rfl rfl rfl ho (by first | decide | (simp; done) | (simp; omega) | omega)) ?_
        rintro _ H14_20 hu14_20
        have z14_20 := hu14_20.size
        replace hO := hO.upw hu14_20 (by omega)
        replace od := od.upw hu14_20 (by omega)
        replace og := og.upw hu14_20 (by omega)
        replace os := os.upw hu14_20 (by omega)
        replace o9_6 := o9_6.upw hu14_20 (by omega)
        replace ho := hu14_20.own
        refine ⟨fun h => (by cases h), ?_⟩
        refine RegD.done (by kernel_rfl) ?_
        refine At.ret rfl Try.func116 rfl ?_
        refine ⟨_, cap, Bs, M, _, h.osb hO, ho, hO.md _, by omega, neg_val q94, fun hok M2 hM2 => ?_⟩
        rw [instR_neg q94 hok] at hM2; cases hM2
      first | (simp only [decide_eq_true_eq, decide_eq_false_iff_not, Bool.not_eq_true', Bool.not_eq_false', ne_eq, Decidable.not_not, Bool.not_eq_true, Bool.not_eq_false] at q88) | (dsimp only at q88) | skip
      refine At.region rfl rfl ?_
      refine Reg.pur rfl rfl rfl rfl (Pur.mv rfl) ?_
      first | refine Reg.pur rfl rfl rfl rfl (Pur.add64 rfl rfl (by omega)) ?_ | refine Reg.pur rfl rfl rfl rfl (Pur.add64 rfl rfl (by assumption)) ?_ | refine Reg.pur rfl rfl rfl rfl (Pur.add rfl rfl) ?_
      refine Reg.pur rfl rfl rfl rfl (Pur.asg rfl) ?_
      refine Reg.nil ?_
      have hnx : findR (M.take (i + 1)) (g.getD 4 0) = none := by { rw [take_findR hjm hnf]; generalize M[i] = x at hpi; cases x with | t v w => rfl | r v w => (have e1 : Bs[i].var = v := congrArg (fun p => p.1) hpi; have e2 : Bs[i].isRow = true := congrArg (fun p => p.2.1) hpi; simp only [findR]; rw [if_neg (fun e => by simp_all)]) }
      exact At.via (ih (i + 1) _ ⟨by omega, rfl, hnx⟩ (by omega)) ⟨rfl, rfl, rfl, rfl, trivial⟩
    first | (simp only [decide_eq_true_eq, decide_eq_false_iff_not, Bool.not_eq_true', Bool.not_eq_false', ne_eq, Decidable.not_not, Bool.not_eq_true, Bool.not_eq_false] at q76) | (dsimp only at q76) | skip
    refine RegD.skip (i := 9) rfl rfl rfl rfl rfl rfl rfl (by kernel_rfl) ?_
    refine RegD.skip (i := 10) rfl rfl rfl rfl rfl rfl rfl (by kernel_rfl) ?_
    refine RegD.skip (i := 11) rfl rfl rfl rfl rfl rfl rfl (by kernel_rfl) ?_
    refine RegD.skip (i := 12) rfl rfl rfl rfl rfl rfl rfl (by kernel_rfl) ?_
    refine RegD.skip (i := 13) rfl rfl rfl rfl rfl rfl rfl (by kernel_rfl) ?_
    refine RegD.skip (i := 14) rfl rfl rfl rfl rfl rfl rfl (by kernel_rfl) ?_
    refine RegD.skip (i := 15) rfl rfl rfl rfl rfl rfl rfl (by kernel_rfl) ?_
    refine RegD.skip (i := 16) rfl rfl rfl rfl rfl rfl rfl (by kernel_rfl) ?_
    refine RegD.skip (i := 17) rfl rfl rfl rfl rfl rfl rfl (by kernel_rfl) ?_
    refine RegD.skip (i := 18) rfl rfl rfl rfl rfl rfl rfl (by kernel_rfl) ?_
    refine RegD.skip (i := 19) rfl rfl rfl rfl rfl rfl rfl (by kernel_rfl) ?_
    refine RegD.tpur (i := 20) rfl rfl rfl rfl (by kernel_rfl) (Pur.pickF rfl rfl) ?_
    refine RegD.done (by kernel_rfl) ?_
    refine At.condF rfl rfl rfl ?_
    refine At.region rfl rfl ?_
    refine Reg.pur rfl rfl rfl rfl (Pur.mv rfl) ?_
    first | refine Reg.pur rfl rfl rfl rfl (Pur.add64 rfl rfl (by omega)) ?_ | refine Reg.pur rfl rfl rfl rfl (Pur.add64 rfl rfl (by assumption)) ?_ | refine Reg.pur rfl rfl rfl rfl (Pur.add rfl rfl) ?_
    refine Reg.pur rfl rfl rfl rfl (Pur.asg rfl) ?_
    refine Reg.nil ?_
    have hnx : findR (M.take (i + 1)) (g.getD 4 0) = none := by { rw [take_findR hjm hnf]; generalize M[i] = x at hpi; cases x with | t v w => rfl | r v w => (have e1 : Bs[i].var = v := congrArg (fun p => p.1) hpi; have e2 : Bs[i].isRow = true := congrArg (fun p => p.2.1) hpi; simp only [findR]; rw [if_neg (fun e => by simp_all)]) }
    exact At.via (ih (i + 1) _ ⟨by omega, rfl, hnx⟩ (by omega)) ⟨rfl, rfl, rfl, rfl, trivial⟩
  first | (simp only [decide_eq_true_eq, decide_eq_false_iff_not, Bool.not_eq_true', Bool.not_eq_false', ne_eq, Decidable.not_not, Bool.not_eq_true, Bool.not_eq_false] at q65) | (dsimp only at q65) | skip
  refine At.drawE ((Bks.cons ho.blk (Bks.cons o9_6.blk Bks.nil))) [10] mixed rfl rfl ?_
  refine RegD.tpur (i := 0) rfl rfl rfl rfl (by kernel_rfl) (Pur.mv rfl) ?_
  refine RegD.tpur (i := 1) rfl rfl rfl rfl (by kernel_rfl) (Pur.mv rfl) ?_
  refine RegD.tpur (i := 2) rfl rfl rfl rfl (by kernel_rfl) (Pur.nilc rfl) ?_
  refine RegD.tpur (i := 3) rfl rfl rfl rfl (by kernel_rfl) (Pur.fld _ fo137_0 rfl) ?_
  refine RegD.take (i := 4) rfl rfl rfl rfl (by kernel_rfl) (Bks.cons ho.blk (Bks.cons o9_6.blk Bks.nil)) (fun H hS => Lod.ld sc22 rfl hS.hd rfl) ?_
  refine RegD.take (i := 5) rfl rfl rfl rfl (by kernel_rfl) (Bks.cons ho.blk (Bks.cons o9_6.blk Bks.nil)) (fun H hS => Lod.ldn ag49 rfl hS.tl.hd (whole rfl) rfl) ?_
  refine RegD.one (i := 6) (by kernel_rfl) rfl rfl rfl rfl (Does.bslA ([encB (bR (g.getD 4 0) (dfR g s))]) slA22 rfl rfl rfl rfl rfl rfl) ?_
  rintro _ H15_6 ⟨rfl, hp15_6⟩
  have hn15_6 := New.of_eq hp15_6
  have z15_6 := hn15_6.size
  replace hO := hO.ext hn15_6.ext
  replace ho := ho.ext hn15_6.ext
  replace od := od.ext hn15_6.ext
  replace og := og.ext hn15_6.ext
  replace os := os.ext hn15_6.ext
  replace o9_6 := o9_6.ext hn15_6.ext
  have o15_6 := hn15_6.own
  refine ⟨fun _ _ => (Bks.cons ho.blk (Bks.cons o9_6.blk Bks.nil)), ?_⟩
  have hgs := hMt.g.ext hn15_6.ext
  have hE15 := hn15_6.ext
  have hO15 := hO

  have z_hgs := hgs.lt
  refine RegD.one (i := 7) (by kernel_rfl) rfl rfl rfl rfl (Does.appL apt22 rfl rfl (by decide) hgs (fun x hx ↦ by rw [List.mem_singleton.1 hx]; rfl) (sl_one (x := bR (g.getD 4 0) (dfR g s)) rfl (by decide) hn15_6) (ones_fl _) (by simp; omega) (by omega)) ?_
  rintro _ H15_7 ⟨A15_7, cap15_7, rfl, g15_7, hbut15_7, ha15_7⟩
  have z15_7 := hbut15_7.lt
  replace ho := ho.via hbut15_7 (by first | omega | (intro g; omega) | (intro g hg; omega) | (intro g hg h; omega))
  replace o9_6 := o9_6.via hbut15_7 (by first | omega | (intro g; omega) | (intro g hg; omega) | (intro g hg h; omega))
  replace o15_6 := o15_6.via hbut15_7 (by first | omega | (intro g; omega) | (intro g hg; omega) | (intro g hg h; omega))
  replace hgs := g15_7
  have zg15_7 := g15_7.lt
  refine ⟨fun _ _ => (Bks.cons ho.blk (Bks.cons o9_6.blk Bks.nil)), ?_⟩
  refine RegD.tpur (i := 8) rfl rfl rfl rfl (by kernel_rfl) (Pur.nilc rfl) ?_
  refine RegD.tpur (i := 9) rfl rfl rfl rfl (by kernel_rfl) (Pur.fld _ fo137_0 rfl) ?_
  refine RegD.one0 (i := 10) (by kernel_rfl) rfl rfl rfl (Does.st sc22 rfl rfl rfl ho (by first | decide | (simp; done) | (simp; omega) | omega)) ?_
  rintro _ H15_10 hu15_10
  have z15_10 := hu15_10.size
  replace o9_6 := o9_6.upw hu15_10 (by omega)
  replace o15_6 := o15_6.upw hu15_10 (by omega)
  replace hgs := hgs.upw hu15_10 (by omega)
  replace ho := hu15_10.own
  refine ⟨fun h => (by cases h), ?_⟩
  refine RegD.done (by kernel_rfl) ?_
  refine At.fall rfl Try.func116 rfl ?_
  have hbs : But (fun x => x = sb ∨ (x : Int) = ob A) H15_6 H15_10 := (hbut15_7.mono (fun b hb e => Or.inr e)).trans (hu15_10.but.mono (fun b hb e => Or.inl e))
  have hnn : findR M (g.getD 4 0) = none := by rw [List.take_of_length_le (by omega)] at hnf; exact hnf
  have hbd := bR_ok (g.getD 4 0) (dfR g s) rfl H15_6
  have hap := (hMt.ext hE15).app (b := .r (g.getD 4 0) (dfR g s)) rfl hbd (.inl rfl) (fun v u e => by cases e) hgs hbs (by omega) (by omega)
  refine ⟨_, _, _, _, _, hap, ho, (hO15.md A).trans ⟨hbs, by omega⟩, by simp, ?_, fun hok M2 hM2 => ?_⟩
  · cases hqq : (ok && posR (dfR g s)) with
    | false => exact neg_val hqq
    | true =>
      obtain ⟨hk1, hk2⟩ := pos_of hqq
      rw [show instR M g s = some (M ++ [.r (g.getD 4 0) (dfR g s)]) by unfold instR; rw [if_neg hk2, if_neg q40, hnn], hk1]; rfl
  · cases hqq : (ok && posR (dfR g s)) with
    | false => rw [instR_neg hqq hok] at hM2; cases hM2
    | true =>
      obtain ⟨hk1, hk2⟩ := pos_of hqq
      rw [show instR M g s = some (M ++ [.r (g.getD 4 0) (dfR g s)]) by unfold instR; rw [if_neg hk2, if_neg q40, hnn]] at hM2
      exact Option.some.inj hM2
end Go.Proofs.Ytlfillhffpiffaa
