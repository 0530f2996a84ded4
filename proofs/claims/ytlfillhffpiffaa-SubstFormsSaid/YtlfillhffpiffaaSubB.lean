/-
  Binds that may be, all of them; Find.
-/
import Derived.Test.YtlfillhffpiffaaSubA
namespace Go.Proofs.Ytlfillhffpiffaa
set_option linter.unusedSimpArgs false
set_option linter.unusedVariables false
set_option maxRecDepth 8000
open Go Go.Fx Go.Proofs
namespace FactsSubB
theorem ag25 : ag Try.prog 25 = some 1 := by kernel_rfl
theorem ag28 : ag Try.prog 28 = some 5 := by kernel_rfl
theorem ag49 : ag Try.prog 49 = some 8 := by kernel_rfl
theorem eqt28 : eqT Try.prog 28 = some [.int .i64, .int .i64, .int .i64, .int .i64, .int .i64] := by kernel_rfl
theorem es22 : esz Try.prog 22 = some 8 := by kernel_rfl
theorem fo25_0 : foff Try.prog 25 0 = some 0 := by kernel_rfl
theorem fo49_0 : foff Try.prog 49 0 = some 0 := by kernel_rfl
theorem fo49_1 : foff Try.prog 49 1 = some 1 := by kernel_rfl
theorem fo49_2 : foff Try.prog 49 2 = some 2 := by kernel_rfl
theorem fo49_3 : foff Try.prog 49 3 = some 3 := by kernel_rfl
theorem isl22 : isSl Try.prog 22 = true := by kernel_rfl
theorem isl23 : isSl Try.prog 23 = true := by kernel_rfl
theorem pl28 : places Try.prog 28 = some [(0, 4), (4, 1)] := by kernel_rfl
theorem sc23 : sc Try.prog 23 = true := by kernel_rfl
theorem sc3 : sc Try.prog 3 = true := by kernel_rfl
theorem sc4 : sc Try.prog 4 = true := by kernel_rfl
theorem zc28 : zc Try.prog 28 = some [.int .i64 0, .int .i64 0, .int .i64 0, .int .i64 0, .int .i64 0] := by kernel_rfl
theorem zc49 : zc Try.prog 49 = some [.int .i64 0, .bool false, .slice none 0 0, .int .i64 0, .int .i64 0, .int .i64 0, .int .i64 0, .int .i64 0] := by kernel_rfl
end FactsSubB
open FactsSubB

structure Bds (H : Heap) (v : Value) (L : List Bd) : Prop where
  sl : SlT H encB 8 v L
  ok : ∀ b ∈ L, b.Ok H
  fits : L.length * 80 ≤ 140737488351232
theorem Bds.ext {H H' : Heap} {v : Value} {L : List Bd} (h : Bds H v L) (he : Ext H H') : Bds H' v L := ⟨h.sl.ext he, fun b hb => (h.ok b hb).ext he, h.fits⟩
theorem Bds.wide {H : Heap} {v : Value} {L : List Bd} (h : Bds H v L) : Wide encB 8 L := fun b hb => (h.ok b hb).len
theorem Bds.max {H : Heap} {v : Value} {L : List Bd} (h : Bds H v L) : L.length ≤ 9223372036854775807 := by have := h.fits; omega
theorem Bds.at {H : Heap} {A : Option Addr} {cap : Nat} {L : List Bd} (h : Bds H (.slice A L.length cap) L) {i : Nat} (hi : i < L.length) :
    ∃ b o c, A = some ⟨b, o, none⟩ ∧ Blk H b c ∧ (c.drop (o + i * 8)).take 8 = encB L[i] ∧ L[i].Ok H := by
  obtain ⟨b, o, c, h1, h2, h3, _⟩ := sl_at h.wide h.sl hi
  exact ⟨b, o, c, h1, h2, h3, h.ok _ (List.getElem_mem hi)⟩
theorem Bds.lt {H : Heap} {b o cap : Nat} {L : List Bd} (h : Bds H (.slice (some ⟨b, o, none⟩) L.length cap) L) (h0 : 0 < L.length) : b < H.size := by
  obtain ⟨b', o', c, e, h2, _⟩ := h.at h0
  cases e; exact h2.lt
def bindsM (L : List Bd) : Bool := decide (L.length ≤ 4096) && L.all bindM

theorem indexFuncB_ok {A : Option Addr} {cap : Nat} {L : List Bd} {H : Heap} (hS : Bds H (.slice A L.length cap) L) :
    Ret Try.prog 119 [.slice A L.length cap, .func (.func 84) #[] #[]] H (fun v H' => (∃ r, v = I r ∧ decide (0 ≤ r) = !L.all bindM) ∧ Ext H H') := by
  have hm := hS.max
  refine Ret.of_at (N := 19) Try.call119 Try.func119 rfl rfl rfl ?_
  refine At.region rfl rfl ?_
  refine Reg.pur rfl rfl rfl rfl (Pur.asg rfl) ?_
  refine Reg.nil ?_
  refine At.region rfl rfl ?_
  refine Reg.pur rfl rfl rfl rfl (Pur.mv rfl) ?_
  refine Reg.pur rfl rfl rfl rfl (Pur.lenS isl22 rfl) ?_
  refine Reg.pur rfl rfl rfl rfl (Pur.mv rfl) ?_
  refine Reg.nil ?_
  refine At.loop (σ := Nat) (fun i => [(8, I i), (7, I L.length), (0, .slice A L.length cap), (1, .func (.func 84) #[] #[])]) (fun i H' => i ≤ L.length ∧ Ext H H' ∧ (L.take i).all bindM = true) (fun i => L.length - i) 0 rfl ⟨rfl, rfl, rfl, rfl, trivial⟩ ⟨by omega, Ext.refl _, rfl⟩ ?_
  rintro i H1 ⟨hi, hE, hgo⟩ ih
  refine At.region rfl rfl ?_
  refine Reg.pur rfl rfl rfl rfl (Pur.lss rfl rfl) ?_
  refine Reg.nil ?_
  refine At.cond rfl rfl (fun hb1 => ?_) (fun hb1 => ?_)
  · refine At.region rfl rfl ?_
    refine Reg.pur rfl rfl rfl rfl (Pur.mv rfl) ?_
    refine Reg.pur rfl rfl rfl rfl (Pur.asg rfl) ?_
    refine Reg.nil ?_
    simp only [decide_eq_true_eq] at hb1
    have hlt : i < L.length := by omega
    obtain ⟨b, o, c, rfl, hB, hd, hok⟩ := (hS.ext hE).at hlt
    refine At.region rfl rfl ?_
    refine Reg.pur rfl rfl rfl rfl (Pur.mv rfl) ?_
    refine Reg.pur rfl rfl rfl rfl (Pur.mv rfl) ?_
    refine Reg.pur rfl rfl rfl rfl (Pur.mv rfl) ?_
    refine Reg.pur rfl rfl rfl rfl (Pur.idx _ es22 rfl rfl (by omega) hb1) ?_
    refine Reg.lod rfl rfl rfl rfl (Lod.ldn ag49 rfl hB hd hok.len) ?_
    refine Reg.op rfl rfl rfl rfl (Does.callv rfl rfl (not_ok L[i] hok)) ?_
    rintro _ H2 ⟨rfl, hE2⟩
    refine Reg.nil ?_
    refine At.cond rfl rfl (fun hb2 => ?_) (fun hb2 => ?_)
    · refine At.region rfl rfl ?_
      refine Reg.pur rfl rfl rfl rfl (Pur.mv rfl) ?_
      refine Reg.pur rfl rfl rfl rfl (Pur.asg rfl) ?_
      refine Reg.nil ?_
      refine At.ret rfl Try.func119 rfl ?_
      first | exact ⟨⟨_, rfl, by rw [all_of_take hlt (by simpa using hb2)]; simp⟩, hE.trans hE2⟩ | exact ⟨⟨_, rfl, by simp only [decide_eq_false_iff_not] at *; rw [List.take_of_length_le (by omega)] at hgo; rw [hgo]; rfl⟩, hE⟩
    · refine At.region rfl rfl ?_
      first | refine Reg.pur rfl rfl rfl rfl (Pur.add64 rfl rfl (by omega)) ?_ | refine Reg.pur rfl rfl rfl rfl (Pur.add64 rfl rfl (by assumption)) ?_ | refine Reg.pur rfl rfl rfl rfl (Pur.add rfl rfl) ?_
      refine Reg.pur rfl rfl rfl rfl (Pur.mv rfl) ?_
      refine Reg.nil ?_
      refine At.via (ih (i + 1) H2 ⟨by omega, hE.trans hE2, ?_⟩ (by omega)) ⟨rfl, rfl, rfl, rfl, trivial⟩
      rw [all_take hlt, hgo]; simpa using hb2
  · refine At.region rfl rfl ?_
    refine Reg.pur rfl rfl rfl rfl (Pur.asg rfl) ?_
    refine Reg.nil ?_
    refine At.ret rfl Try.func119 rfl ?_
    first | exact ⟨⟨_, rfl, by rw [all_of_take hlt (by simpa using hb2)]; simp⟩, hE.trans hE2⟩ | exact ⟨⟨_, rfl, by simp only [decide_eq_false_iff_not] at *; rw [List.take_of_length_le (by omega)] at hgo; rw [hgo]; rfl⟩, hE⟩

theorem containsFuncB_ok {A : Option Addr} {cap : Nat} {L : List Bd} {H : Heap} (hS : Bds H (.slice A L.length cap) L) :
    Ret Try.prog 83 [.slice A L.length cap, .func (.func 84) #[] #[]] H (fun v H' => v = .bool (!L.all bindM) ∧ Ext H H') := by
  refine Ret.of_at (N := 9) Try.call83 Try.func83 rfl rfl rfl ?_
  refine At.region rfl rfl ?_
  refine Reg.pur rfl rfl rfl rfl (Pur.asg rfl) ?_
  refine Reg.nil ?_
  refine At.region rfl rfl ?_
  refine Reg.pur rfl rfl rfl rfl (Pur.mv rfl) ?_
  refine Reg.pur rfl rfl rfl rfl (Pur.mv rfl) ?_
  refine Reg.op rfl rfl rfl rfl (Does.call rfl (indexFuncB_ok hS)) ?_
  rintro _ H1 ⟨⟨r, rfl, hr⟩, hE⟩
  refine Reg.pur rfl rfl rfl rfl (Pur.geq rfl rfl) ?_
  refine Reg.pur rfl rfl rfl rfl (Pur.asg rfl) ?_
  refine Reg.nil ?_
  refine At.ret rfl Try.func83 rfl ?_
  exact ⟨congrArg Value.bool hr, hE⟩

theorem bindsMay_ok {A : Option Addr} {cap : Nat} {L : List Bd} {H : Heap} (hS : Bds H (.slice A L.length cap) L) :
    Ret Try.prog 53 [.slice A L.length cap] H (fun v H' => v = .bool (bindsM L) ∧ Ext H H') := by
  refine Ret.of_at (N := 11) Try.call53 Try.func53 rfl rfl rfl ?_
  refine At.region rfl rfl ?_
  refine Reg.pur rfl rfl rfl rfl (Pur.asg rfl) ?_
  refine Reg.nil ?_
  refine At.region rfl rfl ?_
  refine Reg.pur rfl rfl rfl rfl (Pur.mv rfl) ?_
  refine Reg.pur rfl rfl rfl rfl (Pur.lenS isl22 rfl) ?_
  refine Reg.pur rfl rfl rfl rfl (Pur.leq rfl rfl) ?_
  refine Reg.pur rfl rfl rfl rfl (Pur.mv rfl) ?_
  refine Reg.case 6 rfl (fun hc1 => ?_) (fun hc1 => ?_)
  · refine Reg.gpur rfl rfl rfl rfl rfl rfl (Pur.mv rfl) ?_
    refine Reg.gop rfl rfl rfl rfl rfl rfl (Does.call rfl (containsFuncB_ok hS)) ?_
    rintro _ H1 ⟨rfl, hE⟩
    refine Reg.gpur rfl rfl rfl rfl rfl rfl (Pur.not rfl) ?_
    refine Reg.pur rfl rfl rfl rfl (Pur.pickT rfl rfl) ?_
    refine Reg.pur rfl rfl rfl rfl (Pur.asg rfl) ?_
    refine Reg.nil ?_
    refine At.ret rfl Try.func53 rfl ?_
    refine ⟨congrArg Value.bool ?_, by first | exact hE | exact Ext.refl _⟩
    unfold bindsM
    simp only [decide_eq_true_eq, decide_eq_false_iff_not] at hc1
    first | (rw [decide_eq_true (p := L.length ≤ 4096) (by omega)]; simp; done) | (rw [decide_eq_false (p := L.length ≤ 4096) (by omega)]; rfl)
  · refine Reg.skip rfl rfl rfl rfl rfl rfl rfl ?_
    refine Reg.skip rfl rfl rfl rfl rfl rfl rfl ?_
    refine Reg.skip rfl rfl rfl rfl rfl rfl rfl ?_
    refine Reg.pur rfl rfl rfl rfl (Pur.pickF rfl rfl) ?_
    refine Reg.pur rfl rfl rfl rfl (Pur.asg rfl) ?_
    refine Reg.nil ?_
    refine At.ret rfl Try.func53 rfl ?_
    refine ⟨congrArg Value.bool ?_, by first | exact hE | exact Ext.refl _⟩
    unfold bindsM
    simp only [decide_eq_true_eq, decide_eq_false_iff_not] at hc1
    first | (rw [decide_eq_true (p := L.length ≤ 4096) (by omega)]; simp; done) | (rw [decide_eq_false (p := L.length ≤ 4096) (by omega)]; rfl)

theorem bindsMayR_ok {A : Option Addr} {cap : Nat} {L : List Bd} {H : Heap} (hS : Bds H (.slice A L.length cap) L) :
    Ret Try.prog 56 [.slice A L.length cap] H (fun v H' => v = .bool (bindsM L) ∧ Ext H H') := by
  have hm := hS.max
  refine Ret.of_at (N := 49) Try.call56 Try.func56 rfl rfl rfl ?_
  refine At.region rfl rfl ?_
  refine Reg.pur rfl rfl rfl rfl (Pur.asg rfl) ?_
  refine Reg.nil ?_
  refine At.region rfl rfl ?_
  refine Reg.pur rfl rfl rfl rfl (Pur.mv rfl) ?_
  refine Reg.pur rfl rfl rfl rfl (Pur.lenS isl22 rfl) ?_
  refine Reg.pur rfl rfl rfl rfl (Pur.gtr rfl rfl) ?_
  refine Reg.nil ?_
  refine At.cond rfl rfl (fun hb1 => ?_) (fun hb1 => ?_)
  · refine At.region rfl rfl ?_
    refine Reg.pur rfl rfl rfl rfl (Pur.asg rfl) ?_
    refine Reg.nil ?_
    refine At.ret rfl Try.func56 rfl ?_
    first | exact ⟨congrArg Value.bool (by unfold bindsM; simp only [decide_eq_true_eq] at *; rw [decide_eq_false (by omega)]; rfl), Ext.refl _⟩ | exact ⟨congrArg Value.bool (by simp only [decide_eq_false_iff_not] at *; rw [List.take_of_length_le (by omega)] at hgo; unfold bindsM; rw [hgo, decide_eq_true (p := L.length ≤ 4096) (by omega)]; rfl), hE⟩ | (refine ⟨congrArg Value.bool (hbad ?_).symm, by first | exact hE.trans (hE4.trans hE5) | exact hE.trans hE4⟩; clear hnext hbad; have hq : eqs (Is row) [I 0, I 0, I 0, I 0, I 0] = decide (row = noRow) := eqs_ints .i64 row noRow; simp only [hq, decide_eq_true_eq, decide_eq_false_iff_not, Bool.not_eq_true', Bool.not_eq_false', Bool.not_eq_true, Bool.not_eq_false] at *; unfold bindM; dsimp only; first | (rw [decide_eq_false (p := 0 ≤ var ∧ var < 4096) (by omega)]; rfl) | (rw [decide_eq_true (p := 0 ≤ var ∧ var < 4096) (by omega)]; simp_all; done) | (rw [decide_eq_true (p := 0 ≤ var ∧ var < 4096) (by omega), decide_eq_true (p := nodes.length = 0) (by omega)]; simp_all; done) | (rw [decide_eq_true (p := 0 ≤ var ∧ var < 4096) (by omega), decide_eq_false (p := nodes.length = 0) (by omega)]; simp_all; done))
  · refine At.region rfl rfl ?_
    refine Reg.pur rfl rfl rfl rfl (Pur.asg rfl) ?_
    refine Reg.nil ?_
    simp only [decide_eq_false_iff_not] at hb1
    refine At.loop (σ := Nat) (fun i => [(3, I i), (0, .slice A L.length cap)]) (fun i H' => i ≤ L.length ∧ Ext H H' ∧ (L.take i).all bindM = true) (fun i => L.length - i) 0 rfl ⟨rfl, rfl, trivial⟩ ⟨by omega, Ext.refl _, rfl⟩ ?_
    rintro i H1 ⟨hi, hE, hgo⟩ ih
    refine At.region rfl rfl ?_
    refine Reg.pur rfl rfl rfl rfl (Pur.mv rfl) ?_
    refine Reg.pur rfl rfl rfl rfl (Pur.mv rfl) ?_
    refine Reg.pur rfl rfl rfl rfl (Pur.lenS isl22 rfl) ?_
    refine Reg.pur rfl rfl rfl rfl (Pur.lss rfl rfl) ?_
    refine Reg.nil ?_
    refine At.cond rfl rfl (fun hb2 => ?_) (fun hb2 => ?_)
    · simp only [decide_eq_true_eq] at hb2
      have hlt : i < L.length := by omega
      obtain ⟨b, o, c, rfl, hB0, hd, hok⟩ := (hS.ext hE).at hlt
      have hnext : ∀ H', Ext H1 H' → bindM L[i] = true → _ := fun H' h1 h2 => ih (i + 1) H' ⟨by omega, hE.trans h1, by rw [all_take hlt, hgo, h2]; rfl⟩ (by omega)
      have hbad : bindM L[i] = false → bindsM L = false := fun h => by unfold bindsM; rw [all_of_take hlt h]; simp
      clear ih hgo
      generalize L[i] = bd at *
      obtain ⟨var, isRow, A, cap', nodes, row⟩ := bd
      have hrl := hok.row
      have hsl := hok.sl
      have hnn := hok.nine
      have hmm := hok.max
      have h8 := hok.len
      dsimp only [Bd.sl] at hrl hsl hnn hmm
      have hf := fks_ints .i64 row
      rw [hrl] at hf
      refine At.region rfl rfl ?_
      refine Reg.pur rfl rfl rfl rfl (Pur.mv rfl) ?_
      refine Reg.pur rfl rfl rfl rfl (Pur.mv rfl) ?_
      refine Reg.pur rfl rfl rfl rfl (Pur.idx _ es22 rfl rfl (by omega) hb2) ?_
      refine Reg.lod rfl rfl rfl rfl (Lod.ldn ag49 rfl hB0 hd h8) ?_
      refine Reg.op rfl rfl rfl rfl (Does.alloc zc49) ?_
      rintro _ H3 ⟨rfl, hn3⟩
      refine Reg.op0 rfl rfl rfl (Does.stn ag49 rfl rfl (ones_encB _) h8 hn3.own (by decide)) ?_
      rintro _ H4 hu4
      refine Reg.nil ?_
      have hB : Own H4 H1.size (encB ⟨var, isRow, A, cap', nodes, row⟩) := by have := hu4.own; rwa [over (by rfl)] at this
      have hB := hB.blk
      have hE4 : Ext H1 H4 := hn3.ext.upd hu4 (Nat.le_refl _)
      refine At.region rfl rfl ?_
      refine Reg.pur rfl rfl rfl rfl (Pur.fld _ fo49_0 rfl) ?_
      refine Reg.lod rfl rfl rfl rfl (Lod.ld sc3 rfl hB rfl) ?_
      refine Reg.pur rfl rfl rfl rfl (Pur.lss rfl rfl) ?_
      refine Reg.pur rfl rfl rfl rfl (Pur.mv rfl) ?_
      refine Reg.case 21 rfl (fun hc3 => ?_) (fun hc3 => ?_)
      · refine Reg.skip rfl rfl rfl rfl rfl rfl rfl ?_
        refine Reg.skip rfl rfl rfl rfl rfl rfl rfl ?_
        refine Reg.skip rfl rfl rfl rfl rfl rfl rfl ?_
        refine Reg.pur rfl rfl rfl rfl (Pur.pickT rfl rfl) ?_
        refine Reg.nil ?_
        refine At.condT rfl rfl rfl ?_
        refine At.region rfl rfl ?_
        refine Reg.pur rfl rfl rfl rfl (Pur.asg rfl) ?_
        refine Reg.nil ?_
        refine At.ret rfl Try.func56 rfl ?_
        first | exact ⟨congrArg Value.bool (by unfold bindsM; simp only [decide_eq_true_eq] at *; rw [decide_eq_false (by omega)]; rfl), Ext.refl _⟩ | exact ⟨congrArg Value.bool (by simp only [decide_eq_false_iff_not] at *; rw [List.take_of_length_le (by omega)] at hgo; unfold bindsM; rw [hgo, decide_eq_true (p := L.length ≤ 4096) (by omega)]; rfl), hE⟩ | (refine ⟨congrArg Value.bool (hbad ?_).symm, by first | exact hE.trans (hE4.trans hE5) | exact hE.trans hE4⟩; clear hnext hbad; have hq : eqs (Is row) [I 0, I 0, I 0, I 0, I 0] = decide (row = noRow) := eqs_ints .i64 row noRow; simp only [hq, decide_eq_true_eq, decide_eq_false_iff_not, Bool.not_eq_true', Bool.not_eq_false', Bool.not_eq_true, Bool.not_eq_false] at *; unfold bindM; dsimp only; first | (rw [decide_eq_false (p := 0 ≤ var ∧ var < 4096) (by omega)]; rfl) | (rw [decide_eq_true (p := 0 ≤ var ∧ var < 4096) (by omega)]; simp_all; done) | (rw [decide_eq_true (p := 0 ≤ var ∧ var < 4096) (by omega), decide_eq_true (p := nodes.length = 0) (by omega)]; simp_all; done) | (rw [decide_eq_true (p := 0 ≤ var ∧ var < 4096) (by omega), decide_eq_false (p := nodes.length = 0) (by omega)]; simp_all; done))
      · refine Reg.gpur rfl rfl rfl rfl rfl rfl (Pur.fld _ fo49_0 rfl) ?_
        refine Reg.glod rfl rfl rfl rfl rfl rfl (Lod.ld sc3 rfl hB rfl) ?_
        refine Reg.gpur rfl rfl rfl rfl rfl rfl (Pur.geq rfl rfl) ?_
        refine Reg.pur rfl rfl rfl rfl (Pur.pickF rfl rfl) ?_
        refine Reg.nil ?_
        refine At.cond rfl rfl (fun hb4 => ?_) (fun hb4 => ?_)
        · refine At.region rfl rfl ?_
          refine Reg.pur rfl rfl rfl rfl (Pur.asg rfl) ?_
          refine Reg.nil ?_
          refine At.ret rfl Try.func56 rfl ?_
          first | exact ⟨congrArg Value.bool (by unfold bindsM; simp only [decide_eq_true_eq] at *; rw [decide_eq_false (by omega)]; rfl), Ext.refl _⟩ | exact ⟨congrArg Value.bool (by simp only [decide_eq_false_iff_not] at *; rw [List.take_of_length_le (by omega)] at hgo; unfold bindsM; rw [hgo, decide_eq_true (p := L.length ≤ 4096) (by omega)]; rfl), hE⟩ | (refine ⟨congrArg Value.bool (hbad ?_).symm, by first | exact hE.trans (hE4.trans hE5) | exact hE.trans hE4⟩; clear hnext hbad; have hq : eqs (Is row) [I 0, I 0, I 0, I 0, I 0] = decide (row = noRow) := eqs_ints .i64 row noRow; simp only [hq, decide_eq_true_eq, decide_eq_false_iff_not, Bool.not_eq_true', Bool.not_eq_false', Bool.not_eq_true, Bool.not_eq_false] at *; unfold bindM; dsimp only; first | (rw [decide_eq_false (p := 0 ≤ var ∧ var < 4096) (by omega)]; rfl) | (rw [decide_eq_true (p := 0 ≤ var ∧ var < 4096) (by omega)]; simp_all; done) | (rw [decide_eq_true (p := 0 ≤ var ∧ var < 4096) (by omega), decide_eq_true (p := nodes.length = 0) (by omega)]; simp_all; done) | (rw [decide_eq_true (p := 0 ≤ var ∧ var < 4096) (by omega), decide_eq_false (p := nodes.length = 0) (by omega)]; simp_all; done))
        · refine At.region rfl rfl ?_
          refine Reg.pur rfl rfl rfl rfl (Pur.fld _ fo49_1 rfl) ?_
          refine Reg.lod rfl rfl rfl rfl (Lod.ld sc4 rfl hB rfl) ?_
          refine Reg.nil ?_
          refine At.cond rfl rfl (fun hb5 => ?_) (fun hb5 => ?_)
          · refine At.region rfl rfl ?_
            refine Reg.pur rfl rfl rfl rfl (Pur.fld _ fo49_2 rfl) ?_
            refine Reg.pur rfl rfl rfl rfl (Pur.fld _ fo25_0 rfl) ?_
            refine Reg.lod rfl rfl rfl rfl (Lod.ld sc23 rfl hB rfl) ?_
            refine Reg.pur rfl rfl rfl rfl (Pur.lenS isl23 rfl) ?_
            refine Reg.pur rfl rfl rfl rfl (Pur.gtr rfl rfl) ?_
            refine Reg.pur rfl rfl rfl rfl (Pur.mv rfl) ?_
            refine Reg.case 33 rfl (fun hc6 => ?_) (fun hc6 => ?_)
            · refine Reg.skip rfl rfl rfl rfl rfl rfl rfl ?_
              refine Reg.skip rfl rfl rfl rfl rfl rfl rfl ?_
              refine Reg.skip rfl rfl rfl rfl rfl rfl rfl ?_
              refine Reg.skip rfl rfl rfl rfl rfl rfl rfl ?_
              refine Reg.pur rfl rfl rfl rfl (Pur.pickT rfl rfl) ?_
              refine Reg.nil ?_
              refine At.condT rfl rfl rfl ?_
              refine At.region rfl rfl ?_
              refine Reg.pur rfl rfl rfl rfl (Pur.asg rfl) ?_
              refine Reg.nil ?_
              refine At.ret rfl Try.func56 rfl ?_
              first | exact ⟨congrArg Value.bool (by unfold bindsM; simp only [decide_eq_true_eq] at *; rw [decide_eq_false (by omega)]; rfl), Ext.refl _⟩ | exact ⟨congrArg Value.bool (by simp only [decide_eq_false_iff_not] at *; rw [List.take_of_length_le (by omega)] at hgo; unfold bindsM; rw [hgo, decide_eq_true (p := L.length ≤ 4096) (by omega)]; rfl), hE⟩ | (refine ⟨congrArg Value.bool (hbad ?_).symm, by first | exact hE.trans (hE4.trans hE5) | exact hE.trans hE4⟩; clear hnext hbad; have hq : eqs (Is row) [I 0, I 0, I 0, I 0, I 0] = decide (row = noRow) := eqs_ints .i64 row noRow; simp only [hq, decide_eq_true_eq, decide_eq_false_iff_not, Bool.not_eq_true', Bool.not_eq_false', Bool.not_eq_true, Bool.not_eq_false] at *; unfold bindM; dsimp only; first | (rw [decide_eq_false (p := 0 ≤ var ∧ var < 4096) (by omega)]; rfl) | (rw [decide_eq_true (p := 0 ≤ var ∧ var < 4096) (by omega)]; simp_all; done) | (rw [decide_eq_true (p := 0 ≤ var ∧ var < 4096) (by omega), decide_eq_true (p := nodes.length = 0) (by omega)]; simp_all; done) | (rw [decide_eq_true (p := 0 ≤ var ∧ var < 4096) (by omega), decide_eq_false (p := nodes.length = 0) (by omega)]; simp_all; done))
            · refine Reg.gpur rfl rfl rfl rfl rfl rfl (Pur.fld _ fo49_3 rfl) ?_
              refine Reg.glod rfl rfl rfl rfl rfl rfl (Lod.ldn ag28 rfl hB (show (Is row).take 5 = Is row from List.take_of_length_le (by simp [hrl])) (by simp [hrl])) ?_
              refine Reg.gop rfl rfl rfl rfl rfl rfl (Does.call rfl (rowMayR_ok row hrl _)) ?_
              rintro _ H5 ⟨rfl, hE5⟩
              refine Reg.gpur rfl rfl rfl rfl rfl rfl (Pur.not rfl) ?_
              refine Reg.pur rfl rfl rfl rfl (Pur.pickF rfl rfl) ?_
              refine Reg.nil ?_
              refine At.cond rfl rfl (fun hb7 => ?_) (fun hb7 => ?_)
              · refine At.region rfl rfl ?_
                refine Reg.pur rfl rfl rfl rfl (Pur.asg rfl) ?_
                refine Reg.nil ?_
                refine At.ret rfl Try.func56 rfl ?_
                first | exact ⟨congrArg Value.bool (by unfold bindsM; simp only [decide_eq_true_eq] at *; rw [decide_eq_false (by omega)]; rfl), Ext.refl _⟩ | exact ⟨congrArg Value.bool (by simp only [decide_eq_false_iff_not] at *; rw [List.take_of_length_le (by omega)] at hgo; unfold bindsM; rw [hgo, decide_eq_true (p := L.length ≤ 4096) (by omega)]; rfl), hE⟩ | (refine ⟨congrArg Value.bool (hbad ?_).symm, by first | exact hE.trans (hE4.trans hE5) | exact hE.trans hE4⟩; clear hnext hbad; have hq : eqs (Is row) [I 0, I 0, I 0, I 0, I 0] = decide (row = noRow) := eqs_ints .i64 row noRow; simp only [hq, decide_eq_true_eq, decide_eq_false_iff_not, Bool.not_eq_true', Bool.not_eq_false', Bool.not_eq_true, Bool.not_eq_false] at *; unfold bindM; dsimp only; first | (rw [decide_eq_false (p := 0 ≤ var ∧ var < 4096) (by omega)]; rfl) | (rw [decide_eq_true (p := 0 ≤ var ∧ var < 4096) (by omega)]; simp_all; done) | (rw [decide_eq_true (p := 0 ≤ var ∧ var < 4096) (by omega), decide_eq_true (p := nodes.length = 0) (by omega)]; simp_all; done) | (rw [decide_eq_true (p := 0 ≤ var ∧ var < 4096) (by omega), decide_eq_false (p := nodes.length = 0) (by omega)]; simp_all; done))
              · refine At.region rfl rfl ?_
                refine Reg.pur rfl rfl rfl rfl (Pur.mv rfl) ?_
                first | refine Reg.pur rfl rfl rfl rfl (Pur.add64 rfl rfl (by omega)) ?_ | refine Reg.pur rfl rfl rfl rfl (Pur.add64 rfl rfl (by assumption)) ?_ | refine Reg.pur rfl rfl rfl rfl (Pur.add rfl rfl) ?_
                refine Reg.pur rfl rfl rfl rfl (Pur.asg rfl) ?_
                refine Reg.nil ?_
                refine At.via (hnext _ (hE4.trans hE5) ?_) ⟨rfl, rfl, trivial⟩
                (clear hnext hbad; have hq : eqs (Is row) [I 0, I 0, I 0, I 0, I 0] = decide (row = noRow) := eqs_ints .i64 row noRow; simp only [hq, decide_eq_true_eq, decide_eq_false_iff_not, Bool.not_eq_true', Bool.not_eq_false', Bool.not_eq_true, Bool.not_eq_false] at *; unfold bindM; dsimp only; first | (rw [decide_eq_false (p := 0 ≤ var ∧ var < 4096) (by omega)]; rfl) | (rw [decide_eq_true (p := 0 ≤ var ∧ var < 4096) (by omega)]; simp_all; done) | (rw [decide_eq_true (p := 0 ≤ var ∧ var < 4096) (by omega), decide_eq_true (p := nodes.length = 0) (by omega)]; simp_all; done) | (rw [decide_eq_true (p := 0 ≤ var ∧ var < 4096) (by omega), decide_eq_false (p := nodes.length = 0) (by omega)]; simp_all; done))
          · refine At.region rfl rfl ?_
            refine Reg.pur rfl rfl rfl rfl (Pur.fld _ fo49_3 rfl) ?_
            refine Reg.lod rfl rfl rfl rfl (Lod.ldn ag28 rfl hB (show (Is row).take 5 = Is row from List.take_of_length_le (by simp [hrl])) (by simp [hrl])) ?_
            refine Reg.pur rfl rfl rfl rfl (Pur.bld (cs := [_, _, _, _, _]) pl28 zc28 rfl rfl ⟨rfl, rfl, rfl, rfl, rfl, rfl⟩) ?_
            refine Reg.pur rfl rfl rfl rfl (Pur.neA eqt28 rfl rfl hf (fks_ints .i64 noRow)) ?_
            refine Reg.pur rfl rfl rfl rfl (Pur.mv rfl) ?_
            refine Reg.case 43 rfl (fun hc8 => ?_) (fun hc8 => ?_)
            · refine Reg.skip rfl rfl rfl rfl rfl rfl rfl ?_
              refine Reg.skip rfl rfl rfl rfl rfl rfl rfl ?_
              refine Reg.skip rfl rfl rfl rfl rfl rfl rfl ?_
              refine Reg.skip rfl rfl rfl rfl rfl rfl rfl ?_
              refine Reg.pur rfl rfl rfl rfl (Pur.pickT rfl rfl) ?_
              refine Reg.nil ?_
              refine At.condT rfl rfl rfl ?_
              refine At.region rfl rfl ?_
              refine Reg.pur rfl rfl rfl rfl (Pur.asg rfl) ?_
              refine Reg.nil ?_
              refine At.ret rfl Try.func56 rfl ?_
              first | exact ⟨congrArg Value.bool (by unfold bindsM; simp only [decide_eq_true_eq] at *; rw [decide_eq_false (by omega)]; rfl), Ext.refl _⟩ | exact ⟨congrArg Value.bool (by simp only [decide_eq_false_iff_not] at *; rw [List.take_of_length_le (by omega)] at hgo; unfold bindsM; rw [hgo, decide_eq_true (p := L.length ≤ 4096) (by omega)]; rfl), hE⟩ | (refine ⟨congrArg Value.bool (hbad ?_).symm, by first | exact hE.trans (hE4.trans hE5) | exact hE.trans hE4⟩; clear hnext hbad; have hq : eqs (Is row) [I 0, I 0, I 0, I 0, I 0] = decide (row = noRow) := eqs_ints .i64 row noRow; simp only [hq, decide_eq_true_eq, decide_eq_false_iff_not, Bool.not_eq_true', Bool.not_eq_false', Bool.not_eq_true, Bool.not_eq_false] at *; unfold bindM; dsimp only; first | (rw [decide_eq_false (p := 0 ≤ var ∧ var < 4096) (by omega)]; rfl) | (rw [decide_eq_true (p := 0 ≤ var ∧ var < 4096) (by omega)]; simp_all; done) | (rw [decide_eq_true (p := 0 ≤ var ∧ var < 4096) (by omega), decide_eq_true (p := nodes.length = 0) (by omega)]; simp_all; done) | (rw [decide_eq_true (p := 0 ≤ var ∧ var < 4096) (by omega), decide_eq_false (p := nodes.length = 0) (by omega)]; simp_all; done))
            · refine Reg.gpur rfl rfl rfl rfl rfl rfl (Pur.fld _ fo49_2 rfl) ?_
              refine Reg.glod rfl rfl rfl rfl rfl rfl (Lod.ldn ag25 rfl hB (show _ = [Value.slice A nodes.length cap'] from rfl) rfl) ?_
              refine Reg.gop rfl rfl rfl rfl rfl rfl (Does.call rfl (typMayR_ok nodes hnn (hsl.ext hE4) hmm)) ?_
              rintro _ H5 ⟨rfl, hE5⟩
              refine Reg.gpur rfl rfl rfl rfl rfl rfl (Pur.not rfl) ?_
              refine Reg.pur rfl rfl rfl rfl (Pur.pickF rfl rfl) ?_
              refine Reg.nil ?_
              refine At.cond rfl rfl (fun hb9 => ?_) (fun hb9 => ?_)
              · refine At.region rfl rfl ?_
                refine Reg.pur rfl rfl rfl rfl (Pur.asg rfl) ?_
                refine Reg.nil ?_
                refine At.ret rfl Try.func56 rfl ?_
                first | exact ⟨congrArg Value.bool (by unfold bindsM; simp only [decide_eq_true_eq] at *; rw [decide_eq_false (by omega)]; rfl), Ext.refl _⟩ | exact ⟨congrArg Value.bool (by simp only [decide_eq_false_iff_not] at *; rw [List.take_of_length_le (by omega)] at hgo; unfold bindsM; rw [hgo, decide_eq_true (p := L.length ≤ 4096) (by omega)]; rfl), hE⟩ | (refine ⟨congrArg Value.bool (hbad ?_).symm, by first | exact hE.trans (hE4.trans hE5) | exact hE.trans hE4⟩; clear hnext hbad; have hq : eqs (Is row) [I 0, I 0, I 0, I 0, I 0] = decide (row = noRow) := eqs_ints .i64 row noRow; simp only [hq, decide_eq_true_eq, decide_eq_false_iff_not, Bool.not_eq_true', Bool.not_eq_false', Bool.not_eq_true, Bool.not_eq_false] at *; unfold bindM; dsimp only; first | (rw [decide_eq_false (p := 0 ≤ var ∧ var < 4096) (by omega)]; rfl) | (rw [decide_eq_true (p := 0 ≤ var ∧ var < 4096) (by omega)]; simp_all; done) | (rw [decide_eq_true (p := 0 ≤ var ∧ var < 4096) (by omega), decide_eq_true (p := nodes.length = 0) (by omega)]; simp_all; done) | (rw [decide_eq_true (p := 0 ≤ var ∧ var < 4096) (by omega), decide_eq_false (p := nodes.length = 0) (by omega)]; simp_all; done))
              · refine At.region rfl rfl ?_
                refine Reg.pur rfl rfl rfl rfl (Pur.mv rfl) ?_
                first | refine Reg.pur rfl rfl rfl rfl (Pur.add64 rfl rfl (by omega)) ?_ | refine Reg.pur rfl rfl rfl rfl (Pur.add64 rfl rfl (by assumption)) ?_ | refine Reg.pur rfl rfl rfl rfl (Pur.add rfl rfl) ?_
                refine Reg.pur rfl rfl rfl rfl (Pur.asg rfl) ?_
                refine Reg.nil ?_
                refine At.via (hnext _ (hE4.trans hE5) ?_) ⟨rfl, rfl, trivial⟩
                (clear hnext hbad; have hq : eqs (Is row) [I 0, I 0, I 0, I 0, I 0] = decide (row = noRow) := eqs_ints .i64 row noRow; simp only [hq, decide_eq_true_eq, decide_eq_false_iff_not, Bool.not_eq_true', Bool.not_eq_false', Bool.not_eq_true, Bool.not_eq_false] at *; unfold bindM; dsimp only; first | (rw [decide_eq_false (p := 0 ≤ var ∧ var < 4096) (by omega)]; rfl) | (rw [decide_eq_true (p := 0 ≤ var ∧ var < 4096) (by omega)]; simp_all; done) | (rw [decide_eq_true (p := 0 ≤ var ∧ var < 4096) (by omega), decide_eq_true (p := nodes.length = 0) (by omega)]; simp_all; done) | (rw [decide_eq_true (p := 0 ≤ var ∧ var < 4096) (by omega), decide_eq_false (p := nodes.length = 0) (by omega)]; simp_all; done))
    · refine At.region rfl rfl ?_
      refine Reg.pur rfl rfl rfl rfl (Pur.asg rfl) ?_
      refine Reg.nil ?_
      refine At.ret rfl Try.func56 rfl ?_
      first | exact ⟨congrArg Value.bool (by unfold bindsM; simp only [decide_eq_true_eq] at *; rw [decide_eq_false (by omega)]; rfl), Ext.refl _⟩ | exact ⟨congrArg Value.bool (by simp only [decide_eq_false_iff_not] at *; rw [List.take_of_length_le (by omega)] at hgo; unfold bindsM; rw [hgo, decide_eq_true (p := L.length ≤ 4096) (by omega)]; rfl), hE⟩ | (refine ⟨congrArg Value.bool (hbad ?_).symm, by first | exact hE.trans (hE4.trans hE5) | exact hE.trans hE4⟩; clear hnext hbad; have hq : eqs (Is row) [I 0, I 0, I 0, I 0, I 0] = decide (row = noRow) := eqs_ints .i64 row noRow; simp only [hq, decide_eq_true_eq, decide_eq_false_iff_not, Bool.not_eq_true', Bool.not_eq_false', Bool.not_eq_true, Bool.not_eq_false] at *; unfold bindM; dsimp only; first | (rw [decide_eq_false (p := 0 ≤ var ∧ var < 4096) (by omega)]; rfl) | (rw [decide_eq_true (p := 0 ≤ var ∧ var < 4096) (by omega)]; simp_all; done) | (rw [decide_eq_true (p := 0 ≤ var ∧ var < 4096) (by omega), decide_eq_true (p := nodes.length = 0) (by omega)]; simp_all; done) | (rw [decide_eq_true (p := 0 ≤ var ∧ var < 4096) (by omega), decide_eq_false (p := nodes.length = 0) (by omega)]; simp_all; done))

def mt (r : Bool) (v : Int) (b : Bd) : Bool := b.isRow == r && decide (b.var = v)
theorem find_ok {A : Option Addr} {cap : Nat} {L : List Bd} {H : Heap} (hS : Bds H (.slice A L.length cap) L) (r : Bool) (n : Int) :
    Ret Try.prog 87 [.slice A L.length cap, .bool r, I n] H (fun v H' => H' = H ∧ ∃ a, v = .pointer a ∧ match L.find? (mt r n) with
      | none => a = none
      | some bd => ∃ b o c, a = some ⟨b, o, none⟩ ∧ Blk H b c ∧ (c.drop o).take 8 = encB bd ∧ bd.Ok H ∧ ∃ oa, A = some ⟨b, oa, none⟩) := by
  have hm := hS.max
  refine Ret.of_at (N := 33) Try.call87 Try.func87 rfl rfl rfl ?_
  refine At.region rfl rfl ?_
  refine Reg.pur rfl rfl rfl rfl (Pur.asg rfl) ?_
  refine Reg.nil ?_
  refine At.region rfl rfl ?_
  refine Reg.pur rfl rfl rfl rfl (Pur.mv rfl) ?_
  refine Reg.pur rfl rfl rfl rfl (Pur.lenS isl22 rfl) ?_
  refine Reg.pur rfl rfl rfl rfl (Pur.mv rfl) ?_
  refine Reg.nil ?_
  refine At.loop (σ := Nat) (fun i => [(10, I i), (9, I L.length), (0, .slice A L.length cap), (1, .bool r), (2, I n)]) (fun i H' => i ≤ L.length ∧ H' = H ∧ (L.drop i).find? (mt r n) = L.find? (mt r n)) (fun i => L.length - i) 0 rfl ⟨rfl, rfl, rfl, rfl, rfl, trivial⟩ ⟨by omega, rfl, rfl⟩ ?_
  rintro i H ⟨hi, rfl, hgo⟩ ih
  refine At.region rfl rfl ?_
  refine Reg.pur rfl rfl rfl rfl (Pur.lss rfl rfl) ?_
  refine Reg.nil ?_
  refine At.cond rfl rfl (fun hb1 => ?_) (fun hb1 => ?_)
  · refine At.region rfl rfl ?_
    refine Reg.pur rfl rfl rfl rfl (Pur.mv rfl) ?_
    refine Reg.pur rfl rfl rfl rfl (Pur.asg rfl) ?_
    refine Reg.nil ?_
    simp only [decide_eq_true_eq] at hb1
    have hlt : i < L.length := by omega
    obtain ⟨b, o, c, rfl, hB, hd, hok⟩ := hS.at hlt
    rw [dropL hlt, List.find?_cons] at hgo
    generalize L[i] = bd at *
    refine At.region rfl rfl ?_
    refine Reg.pur rfl rfl rfl rfl (Pur.mv rfl) ?_
    refine Reg.pur rfl rfl rfl rfl (Pur.mv rfl) ?_
    refine Reg.pur rfl rfl rfl rfl (Pur.idx _ es22 rfl rfl (by omega) hb1) ?_
    refine Reg.pur rfl rfl rfl rfl (Pur.fld _ fo49_1 rfl) ?_
    refine Reg.lod rfl rfl rfl rfl (Lod.ld sc4 rfl hB (at_tk (j := 1) hd (by decide) rfl)) ?_
    refine Reg.pur rfl rfl rfl rfl (Pur.mv rfl) ?_
    refine Reg.pur rfl rfl rfl rfl (Pur.eqB Try.underlying4 rfl rfl) ?_
    refine Reg.pur rfl rfl rfl rfl (Pur.mv rfl) ?_
    refine Reg.case 20 rfl (fun hc2 => ?_) (fun hc2 => ?_)
    · refine Reg.gpur rfl rfl rfl rfl rfl rfl (Pur.mv rfl) ?_
      refine Reg.gpur rfl rfl rfl rfl rfl rfl (Pur.mv rfl) ?_
      refine Reg.gpur rfl rfl rfl rfl rfl rfl (Pur.idx _ es22 rfl rfl (by omega) hb1) ?_
      refine Reg.gpur rfl rfl rfl rfl rfl rfl (Pur.fld _ fo49_0 rfl) ?_
      refine Reg.glod rfl rfl rfl rfl rfl rfl (Lod.ld sc3 rfl hB (at_tk (j := 0) hd (by decide) rfl)) ?_
      refine Reg.gpur rfl rfl rfl rfl rfl rfl (Pur.mv rfl) ?_
      refine Reg.gpur rfl rfl rfl rfl rfl rfl (Pur.eql rfl rfl) ?_
      refine Reg.pur rfl rfl rfl rfl (Pur.pickT rfl rfl) ?_
      refine Reg.nil ?_
      refine At.cond rfl rfl (fun hb3 => ?_) (fun hb3 => ?_)
      · refine At.region rfl rfl ?_
        refine Reg.pur rfl rfl rfl rfl (Pur.mv rfl) ?_
        refine Reg.pur rfl rfl rfl rfl (Pur.mv rfl) ?_
        refine Reg.pur rfl rfl rfl rfl (Pur.idx _ es22 rfl rfl (by omega) hb1) ?_
        refine Reg.pur rfl rfl rfl rfl (Pur.asg rfl) ?_
        refine Reg.nil ?_
        refine At.ret rfl Try.func87 rfl ?_
        first | (refine ⟨rfl, ?_⟩; rw [← hgo, show mt r n bd = true by simp_all [mt]]; exact ⟨_, rfl, b, _, c, rfl, hB, hd, hok, _, rfl⟩) | (refine ⟨rfl, ?_⟩; simp only [decide_eq_false_iff_not] at hb1; rw [List.drop_of_length_le (by omega)] at hgo; rw [← hgo]; exact ⟨none, rfl, rfl⟩)
      · refine At.region rfl rfl ?_
        first | refine Reg.pur rfl rfl rfl rfl (Pur.add64 rfl rfl (by omega)) ?_ | refine Reg.pur rfl rfl rfl rfl (Pur.add64 rfl rfl (by assumption)) ?_ | refine Reg.pur rfl rfl rfl rfl (Pur.add rfl rfl) ?_
        refine Reg.pur rfl rfl rfl rfl (Pur.mv rfl) ?_
        refine Reg.nil ?_
        refine At.via (ih (i + 1) _ ⟨by omega, rfl, ?_⟩ (by omega)) ⟨rfl, rfl, rfl, rfl, rfl, trivial⟩
        rw [← hgo, show mt r n bd = false by simp_all [mt]]
    · refine Reg.skip rfl rfl rfl rfl rfl rfl rfl ?_
      refine Reg.skip rfl rfl rfl rfl rfl rfl rfl ?_
      refine Reg.skip rfl rfl rfl rfl rfl rfl rfl ?_
      refine Reg.skip rfl rfl rfl rfl rfl rfl rfl ?_
      refine Reg.skip rfl rfl rfl rfl rfl rfl rfl ?_
      refine Reg.skip rfl rfl rfl rfl rfl rfl rfl ?_
      refine Reg.skip rfl rfl rfl rfl rfl rfl rfl ?_
      refine Reg.pur rfl rfl rfl rfl (Pur.pickF rfl rfl) ?_
      refine Reg.nil ?_
      refine At.condF rfl rfl rfl ?_
      refine At.region rfl rfl ?_
      first | refine Reg.pur rfl rfl rfl rfl (Pur.add64 rfl rfl (by omega)) ?_ | refine Reg.pur rfl rfl rfl rfl (Pur.add64 rfl rfl (by assumption)) ?_ | refine Reg.pur rfl rfl rfl rfl (Pur.add rfl rfl) ?_
      refine Reg.pur rfl rfl rfl rfl (Pur.mv rfl) ?_
      refine Reg.nil ?_
      refine At.via (ih (i + 1) _ ⟨by omega, rfl, ?_⟩ (by omega)) ⟨rfl, rfl, rfl, rfl, rfl, trivial⟩
      rw [← hgo, show mt r n bd = false by simp_all [mt]]
  · refine At.region rfl rfl ?_
    refine Reg.pur rfl rfl rfl rfl (Pur.asg rfl) ?_
    refine Reg.nil ?_
    refine At.ret rfl Try.func87 rfl ?_
    first | (refine ⟨rfl, ?_⟩; rw [← hgo, show mt r n bd = true by simp_all [mt]]; exact ⟨_, rfl, b, _, c, rfl, hB, hd, hok, _, rfl⟩) | (refine ⟨rfl, ?_⟩; simp only [decide_eq_false_iff_not] at hb1; rw [List.drop_of_length_le (by omega)] at hgo; rw [← hgo]; exact ⟨none, rfl, rfl⟩)
end Go.Proofs.Ytlfillhffpiffaa
