/-
  Parts of the proof, 1.
-/
import Derived.Maps.AppendAt
import Derived.Laws.OwnMore
import Derived.Test.YtlfillhffpiffaaR6
namespace Go.Fx
set_option linter.unusedSimpArgs false
set_option linter.unusedVariables false
open Go


section rules
variable {P : Program} {dst : Option Tmp} {ty : TypeId} {pos : String} {aft : Array Edge} {gd : Option (Nat × Bool)} {e : Env} {H : Heap}

section ints
variable {t t' : TypeId} {x y : Operand} {k : IntKind} {a b : Int}
theorem Pur.rem {a b : Int} (hx : ev e x = some (.int k a)) (hy : ev e y = some (.int k b)) (hb : b ≠ 0) : Pur P ⟨dst, .binOp .rem t x y t', ty, pos, aft, gd⟩ e (.int k (a.tmod b)) :=
  Pur.ibin hx hy fun w => by simp [go_sem, Op.intDiv, hb]
end ints


end rules
end Go.Fx

namespace Go.Fx
open Go
set_option linter.unusedSimpArgs false
set_option linter.unusedVariables false

section rules
variable {P : Program} {dst : Option Tmp} {ty : TypeId} {pos : String} {aft : Array Edge} {gd : Option (Nat × Bool)} {e : Env} {H : Heap}

theorem Pur.cnv {src t : TypeId} {x : Operand} {k k' : IntKind} {n : Int} (hs : P.underlying src = some (.int k)) (ht : P.underlying t = some (.int k')) (hx : ev e x = some (.int k n)) :
    Pur P ⟨dst, .convert src t x, ty, pos, aft, gd⟩ e (.int k' (k'.wrap n)) := by
  intro a w hA
  have e1 := hA.ev hx
  simp only [execOp, e1, convert, Sem.run_bind, run_underlying hs, run_underlying ht, Result.andThen_ok]
  simp [Conv.intToInt]
end rules
end Go.Fx

namespace Go.Fx
set_option linter.unusedSimpArgs false
set_option linter.unusedVariables false
open Go

section
variable {H : Type} {enc : TypeId × Value → H} {P : Program} {W : World} {base : Nat}

end

theorem umod (s m : Int) (h0 : 0 < m) (h1 : m < 9223372036854775808) : 0 ≤ IntKind.i64.wrap ((IntKind.u64.wrap s).tmod m) ∧ IntKind.i64.wrap ((IntKind.u64.wrap s).tmod m) < m := by
  have h2 : 0 ≤ IntKind.u64.wrap s := by simp [IntKind.wrap, IntKind.signed, IntKind.bits]; omega
  have h3 : 0 ≤ (IntKind.u64.wrap s).tmod m := Int.tmod_nonneg _ h2
  have h4 : (IntKind.u64.wrap s).tmod m < m := Int.tmod_lt_of_pos _ h0
  rw [wrap_in ⟨by omega, by omega⟩]
  omega
end Go.Fx

namespace Go.Proofs.Ytlfillhffpiffaa
set_option linter.unusedSimpArgs false
set_option linter.unusedVariables false
set_option maxRecDepth 8000
open Go Go.Fx Go.Proofs
namespace FactsSubB
end FactsSubB
open FactsSubB

theorem bindsMayR_ok {A : Option Addr} {cap : Nat} {L : List Bd} {H : Heap} (hS : Bds H (.slice A L.length cap) L) :
    Ret Try.prog 56 [.slice A L.length cap] H (fun v H' => v = .bool (bindsM L) ∧ Ext H H') := by
  have hm := hS.max
  refine Ret.of_at (N := 49) Try.call56 Try.func56 rfl rfl rfl ?_
  refine At.region rfl rfl ?_
  refine Reg.pur rfl rfl rfl rfl (Pur.asg rfl) ?_
  refine Reg.nil ?_
  refine At.region rfl rfl ?_
  refine Reg.pur rfl rfl rfl rfl (Pur.mv rfl) ?_
  refine Reg.pur rfl rfl rfl rfl (Pur.lenS isl22 rfl) ?_
  refine Reg.pur rfl rfl rfl rfl (Pur.gtr rfl rfl) ?_
  refine Reg.nil ?_
  refine At.cond rfl rfl (fun hb1 => ?_) (fun hb1 => ?_)
  · refine At.region rfl rfl ?_
    refine Reg.pur rfl rfl rfl rfl (Pur.asg rfl) ?_
    refine Reg.nil ?_
    refine At.ret rfl Try.func56 rfl ?_
    first | exact ⟨congrArg Value.bool (by unfold bindsM; simp only [decide_eq_true_eq] at *; rw [decide_eq_false (by omega)]; rfl), Ext.refl _⟩ | exact ⟨congrArg Value.bool (by simp only [decide_eq_false_iff_not] at *; rw [List.take_of_length_le (by omega)] at hgo; unfold bindsM; rw [hgo, decide_eq_true (p := L.length ≤ 4096) (by omega)]; rfl), hE⟩ | (refine ⟨congrArg Value.bool (hbad ?_).symm, by first | exact hE.trans (hE4.trans hE5) | exact hE.trans hE4⟩; clear hnext hbad; have hq : eqs (Is row) [I 0, I 0, I 0, I 0, I 0] = decide (row = noRow) := eqs_ints .i64 row noRow; simp only [hq, decide_eq_true_eq, decide_eq_false_iff_not, Bool.not_eq_true', Bool.not_eq_false', Bool.not_eq_true, Bool.not_eq_false] at *; unfold bindM; dsimp only; first | (rw [decide_eq_false (p := 0 ≤ var ∧ var < 4096) (by omega)]; rfl) | (rw [decide_eq_true (p := 0 ≤ var ∧ var < 4096) (by omega)]; simp_all; done) | (rw [decide_eq_true (p := 0 ≤ var ∧ var < 4096) (by omega), decide_eq_true (p := nodes.length = 0) (by omega)]; simp_all; done) | (rw [decide_eq_true (p := 0 ≤ var ∧ var < 4096) (by omega), decide_eq_false (p := nodes.length = 0) (by omega)]; simp_all; done))
  refine At.region rfl rfl ?_
  refine Reg.pur rfl rfl rfl rfl (Pur.asg rfl) ?_
  refine Reg.nil ?_
  simp only [decide_eq_false_iff_not] at hb1
  refine At.loop (σ := Nat) (fun i => [(3, I i), (0, .slice A L.length cap)]) (fun i H' => i ≤ L.length ∧ Ext H H' ∧ (L.take i).all bindM = true) (fun i => L.length - i) 0 rfl ⟨rfl, rfl, trivial⟩ ⟨by omega, Ext.refl _, rfl⟩ ?_
  rintro i H1 ⟨hi, hE, hgo⟩ ih
  refine At.region rfl rfl ?_
  refine Reg.pur rfl rfl rfl rfl (Pur.mv rfl) ?_
  refine Reg.pur rfl rfl rfl rfl (Pur.mv rfl) ?_
  refine Reg.pur rfl rfl rfl rfl (Pur.lenS isl22 rfl) ?_
  refine Reg.pur rfl rfl rfl rfl (Pur.lss rfl rfl) ?_
  refine Reg.nil ?_
  refine At.cond rfl rfl (fun hb2 => ?_) (fun hb2 => ?_)
  · simp only [decide_eq_true_eq] at hb2
    have hlt : i < L.length := by omega
    obtain ⟨b, o, c, rfl, hB0, hd, hok⟩ := (hS.ext hE).at hlt
    have hnext : ∀ H', Ext H1 H' → bindM L[i] = true → _ := fun H' h1 h2 => ih (i + 1) H' ⟨by omega, hE.trans h1, by rw [all_take hlt, hgo, h2]; rfl⟩ (by omega)
    have hbad : bindM L[i] = false → bindsM L = false := fun h => by unfold bindsM; rw [all_of_take hlt h]; simp
    clear ih hgo
    generalize L[i] = bd at *
    obtain ⟨var, isRow, A, cap', nodes, row⟩ := bd
    have hrl := hok.row
    have hsl := hok.sl
    have hnn := hok.nine
    have hmm := hok.max
    have h8 := hok.len
    dsimp only [Bd.sl] at hrl hsl hnn hmm
    have hf := fks_ints .i64 row
    rw [hrl] at hf
    refine At.region rfl rfl ?_
    refine Reg.pur rfl rfl rfl rfl (Pur.mv rfl) ?_
    refine Reg.pur rfl rfl rfl rfl (Pur.mv rfl) ?_
    refine Reg.pur rfl rfl rfl rfl (Pur.idx _ es22 rfl rfl (by omega) hb2) ?_
    refine Reg.lod rfl rfl rfl rfl (Lod.ldn ag49 rfl hB0 hd h8) ?_
    refine Reg.op rfl rfl rfl rfl (Does.alloc zc49) ?_
    rintro _ H3 ⟨rfl, hn3⟩
    refine Reg.op0 rfl rfl rfl (Does.stn ag49 rfl rfl (ones_encB _) h8 hn3.own (by decide)) ?_
    rintro _ H4 hu4
    refine Reg.nil ?_
    have hB : Own H4 H1.size (encB ⟨var, isRow, A, cap', nodes, row⟩) := by have := hu4.own; rwa [over (by rfl)] at this
    have hB := hB.blk
    have hE4 : Ext H1 H4 := hn3.ext.upd hu4 (Nat.le_refl _)
    refine At.region rfl rfl ?_
    refine Reg.pur rfl rfl rfl rfl (Pur.fld _ fo49_0 rfl) ?_
    refine Reg.lod rfl rfl rfl rfl (Lod.ld sc3 rfl hB rfl) ?_
    refine Reg.pur rfl rfl rfl rfl (Pur.lss rfl rfl) ?_
    refine Reg.pur rfl rfl rfl rfl (Pur.mv rfl) ?_
    refine Reg.case 21 rfl (fun hc3 => ?_) (fun hc3 => ?_)
    · refine Reg.skip rfl rfl rfl rfl rfl rfl rfl ?_
      refine Reg.skip rfl rfl rfl rfl rfl rfl rfl ?_
      refine Reg.skip rfl rfl rfl rfl rfl rfl rfl ?_
      refine Reg.pur rfl rfl rfl rfl (Pur.pickT rfl rfl) ?_
      refine Reg.nil ?_
      refine At.condT rfl rfl rfl ?_
      refine At.region rfl rfl ?_
      refine Reg.pur rfl rfl rfl rfl (Pur.asg rfl) ?_
      refine Reg.nil ?_
      refine At.ret rfl Try.func56 rfl ?_
      first | exact ⟨congrArg Value.bool (by unfold bindsM; simp only [decide_eq_true_eq] at *; rw [decide_eq_false (by omega)]; rfl), Ext.refl _⟩ | exact ⟨congrArg Value.bool (by simp only [decide_eq_false_iff_not] at *; rw [List.take_of_length_le (by omega)] at hgo; unfold bindsM; rw [hgo, decide_eq_true (p := L.length ≤ 4096) (by omega)]; rfl), hE⟩ | (refine ⟨congrArg Value.bool (hbad ?_).symm, by first | exact hE.trans (hE4.trans hE5) | exact hE.trans hE4⟩; clear hnext hbad; have hq : eqs (Is row) [I 0, I 0, I 0, I 0, I 0] = decide (row = noRow) := eqs_ints .i64 row noRow; simp only [hq, decide_eq_true_eq, decide_eq_false_iff_not, Bool.not_eq_true', Bool.not_eq_false', Bool.not_eq_true, Bool.not_eq_false] at *; unfold bindM; dsimp only; first | (rw [decide_eq_false (p := 0 ≤ var ∧ var < 4096) (by omega)]; rfl) | (rw [decide_eq_true (p := 0 ≤ var ∧ var < 4096) (by omega)]; simp_all; done) | (rw [decide_eq_true (p := 0 ≤ var ∧ var < 4096) (by omega), decide_eq_true (p := nodes.length = 0) (by omega)]; simp_all; done) | (rw [decide_eq_true (p := 0 ≤ var ∧ var < 4096) (by omega), decide_eq_false (p := nodes.length = 0) (by omega)]; simp_all; done))
    refine Reg.gpur rfl rfl rfl rfl rfl rfl (Pur.fld _ fo49_0 rfl) ?_
    refine Reg.glod rfl rfl rfl rfl rfl rfl (Lod.ld sc3 rfl hB rfl) ?_
    refine Reg.gpur rfl rfl rfl rfl rfl rfl (Pur.geq rfl rfl) ?_
    refine Reg.pur rfl rfl rfl rfl (Pur.pickF rfl rfl) ?_
    refine Reg.nil ?_
    refine At.cond rfl rfl (fun hb4 => ?_) (fun hb4 => ?_)
    · refine At.region rfl rfl ?_
      refine Reg.pur rfl rfl rfl rfl (Pur.asg rfl) ?_
      refine Reg.nil ?_
      refine At.ret rfl Try.func56 rfl ?_
      first | exact ⟨congrArg Value.bool (by unfold bindsM; simp only [decide_eq_true_eq] at *; rw [decide_eq_false (by omega)]; rfl), Ext.refl _⟩ | exact ⟨congrArg Value.bool (by simp only [decide_eq_false_iff_not] at *; rw [List.take_of_length_le (by omega)] at hgo; unfold bindsM; rw [hgo, decide_eq_true (p := L.length ≤ 4096) (by omega)]; rfl), hE⟩ | (refine ⟨congrArg Value.bool (hbad ?_).symm, by first | exact hE.trans (hE4.trans hE5) | exact hE.trans hE4⟩; clear hnext hbad; have hq : eqs (Is row) [I 0, I 0, I 0, I 0, I 0] = decide (row = noRow) := eqs_ints .i64 row noRow; simp only [hq, decide_eq_true_eq, decide_eq_false_iff_not, Bool.not_eq_true', Bool.not_eq_false', Bool.not_eq_true, Bool.not_eq_false] at *; unfold bindM; dsimp only; first | (rw [decide_eq_false (p := 0 ≤ var ∧ var < 4096) (by omega)]; rfl) | (rw [decide_eq_true (p := 0 ≤ var ∧ var < 4096) (by omega)]; simp_all; done) | (rw [decide_eq_true (p := 0 ≤ var ∧ var < 4096) (by omega), decide_eq_true (p := nodes.length = 0) (by omega)]; simp_all; done) | (rw [decide_eq_true (p := 0 ≤ var ∧ var < 4096) (by omega), decide_eq_false (p := nodes.length = 0) (by omega)]; simp_all; done))
    refine At.region rfl rfl ?_
    refine Reg.pur rfl rfl rfl rfl (Pur.fld _ fo49_1 rfl) ?_
    refine Reg.lod rfl rfl rfl rfl (Lod.ld sc4 rfl hB rfl) ?_
    refine Reg.nil ?_
    refine At.cond rfl rfl (fun hb5 => ?_) (fun hb5 => ?_)
    · refine At.region rfl rfl ?_
      refine Reg.pur rfl rfl rfl rfl (Pur.fld _ fo49_2 rfl) ?_
      refine Reg.pur rfl rfl rfl rfl (Pur.fld _ fo25_0 rfl) ?_
      refine Reg.lod rfl rfl rfl rfl (Lod.ld sc23 rfl hB rfl) ?_
      refine Reg.pur rfl rfl rfl rfl (Pur.lenS isl23 rfl) ?_
      refine Reg.pur rfl rfl rfl rfl (Pur.gtr rfl rfl) ?_
      refine Reg.pur rfl rfl rfl rfl (Pur.mv rfl) ?_
      refine Reg.case 33 rfl (fun hc6 => ?_) (fun hc6 => ?_)
      · refine Reg.skip rfl rfl rfl rfl rfl rfl rfl ?_
        refine Reg.skip rfl rfl rfl rfl rfl rfl rfl ?_
        refine Reg.skip rfl rfl rfl rfl rfl rfl rfl ?_
        refine Reg.skip rfl rfl rfl rfl rfl rfl rfl ?_
        refine Reg.pur rfl rfl rfl rfl (Pur.pickT rfl rfl) ?_
        refine Reg.nil ?_
        refine At.condT rfl rfl rfl ?_
        refine At.region rfl rfl ?_
        refine Reg.pur rfl rfl rfl rfl (Pur.asg rfl) ?_
        refine Reg.nil ?_
        refine At.ret rfl Try.func56 rfl ?_
        first | exact ⟨congrArg Value.bool (by unfold bindsM; simp only [decide_eq_true_eq] at *; rw [decide_eq_false (by omega)]; rfl), Ext.refl _⟩ | exact ⟨congrArg Value.bool (by simp only [decide_eq_false_iff_not] at *; rw [List.take_of_length_le (by omega)] at hgo; unfold bindsM; rw [hgo, decide_eq_true (p := L.length ≤ 4096) (by omega)]; rfl), hE⟩ | (refine ⟨congrArg Value.bool (hbad ?_).symm, by first | exact hE.trans (hE4.trans hE5) | exact hE.trans hE4⟩; clear hnext hbad; have hq : eqs (Is row) [I 0, I 0, I 0, I 0, I 0] = decide (row = noRow) := eqs_ints .i64 row noRow; simp only [hq, decide_eq_true_eq, decide_eq_false_iff_not, Bool.not_eq_true', Bool.not_eq_false', Bool.not_eq_true, Bool.not_eq_false] at *; unfold bindM; dsimp only; first | (rw [decide_eq_false (p := 0 ≤ var ∧ var < 4096) (by omega)]; rfl) | (rw [decide_eq_true (p := 0 ≤ var ∧ var < 4096) (by omega)]; simp_all; done) | (rw [decide_eq_true (p := 0 ≤ var ∧ var < 4096) (by omega), decide_eq_true (p := nodes.length = 0) (by omega)]; simp_all; done) | (rw [decide_eq_true (p := 0 ≤ var ∧ var < 4096) (by omega), decide_eq_false (p := nodes.length = 0) (by omega)]; simp_all; done))
      refine Reg.gpur rfl rfl rfl rfl rfl rfl (Pur.fld _ fo49_3 rfl) ?_
      refine Reg.glod rfl rfl rfl rfl rfl rfl (Lod.ldn ag28 rfl hB (show (Is row).take 5 = Is row from List.take_of_length_le (by simp [hrl])) (by simp [hrl])) ?_
      refine Reg.gop rfl rfl rfl rfl rfl rfl (Does.call rfl (rowMayR_ok row hrl _)) ?_
      rintro _ H5 ⟨rfl, hE5⟩
      refine Reg.gpur rfl rfl rfl rfl rfl rfl (Pur.not rfl) ?_
      refine Reg.pur rfl rfl rfl rfl (Pur.pickF rfl rfl) ?_
      refine Reg.nil ?_
      refine At.cond rfl rfl (fun hb7 => ?_) (fun hb7 => ?_)
      · refine At.region rfl rfl ?_
        refine Reg.pur rfl rfl rfl rfl (Pur.asg rfl) ?_
        refine Reg.nil ?_
        refine At.ret rfl Try.func56 rfl ?_
        first | exact ⟨congrArg Value.bool (by unfold bindsM; simp only [decide_eq_true_eq] at *; rw [decide_eq_false (by omega)]; rfl), Ext.refl _⟩ | exact ⟨congrArg Value.bool (by simp only [decide_eq_false_iff_not] at *; rw [List.take_of_length_le (by omega)] at hgo; unfold bindsM; rw [hgo, decide_eq_true (p := L.length ≤ 4096) (by omega)]; rfl), hE⟩ | (refine ⟨congrArg Value.bool (hbad ?_).symm, by first | exact hE.trans (hE4.trans hE5) | exact hE.trans hE4⟩; clear hnext hbad; have hq : eqs (Is row) [I 0, I 0, I 0, I 0, I 0] = decide (row = noRow) := eqs_ints .i64 row noRow; simp only [hq, decide_eq_true_eq, decide_eq_false_iff_not, Bool.not_eq_true', Bool.not_eq_false', Bool.not_eq_true, Bool.not_eq_false] at *; unfold bindM; dsimp only; first | (rw [decide_eq_false (p := 0 ≤ var ∧ var < 4096) (by omega)]; rfl) | (rw [decide_eq_true (p := 0 ≤ var ∧ var < 4096) (by omega)]; simp_all; done) | (rw [decide_eq_true (p := 0 ≤ var ∧ var < 4096) (by omega), decide_eq_true (p := nodes.length = 0) (by omega)]; simp_all; done) | (rw [decide_eq_true (p := 0 ≤ var ∧ var < 4096) (by omega), decide_eq_false (p := nodes.length = 0) (by omega)]; simp_all; done))
      refine At.region rfl rfl ?_
      refine Reg.pur rfl rfl rfl rfl (Pur.mv rfl) ?_
      first | refine Reg.pur rfl rfl rfl rfl (Pur.add64 rfl rfl (by omega)) ?_ | refine Reg.pur rfl rfl rfl rfl (Pur.add64 rfl rfl (by assumption)) ?_ | refine Reg.pur rfl rfl rfl rfl (Pur.add rfl rfl) ?_
      refine Reg.pur rfl rfl rfl rfl (Pur.asg rfl) ?_
      refine Reg.nil ?_
      refine At.via (hnext _ (hE4.trans hE5) ?_) ⟨rfl, rfl, trivial⟩
      (clear hnext hbad; have hq : eqs (Is row) [I 0, I 0, I 0, I 0, I 0] = decide (row = noRow) := eqs_ints .i64 row noRow; simp only [hq, decide_eq_true_eq, decide_eq_false_iff_not, Bool.not_eq_true', Bool.not_eq_false', Bool.not_eq_true, Bool.not_eq_false] at *; unfold bindM; dsimp only; first | (rw [decide_eq_false (p := 0 ≤ var ∧ var < 4096) (by omega)]; rfl) | (rw [decide_eq_true (p := 0 ≤ var ∧ var < 4096) (by omega)]; simp_all; done) | (rw [decide_eq_true (p := 0 ≤ var ∧ var < 4096) (by omega), decide_eq_true (p := nodes.length = 0) (by omega)]; simp_all; done) | (rw [decide_eq_true (p := 0 ≤ var ∧ var < 4096) (by omega), decide_eq_false (p := nodes.length = 0) (by omega)]; simp_all; done))
    refine At.region rfl rfl ?_
    refine Reg.pur rfl rfl rfl rfl (Pur.fld _ fo49_3 rfl) ?_
    refine Reg.lod rfl rfl rfl rfl (Lod.ldn ag28 rfl hB (show (Is row).take 5 = Is row from List.take_of_length_le (by simp [hrl])) (by simp [hrl])) ?_
    refine Reg.pur rfl rfl rfl rfl (Pur.bld (cs := [_, _, _, _, _]) pl28 zc28 rfl rfl ⟨rfl, rfl, rfl, rfl, rfl, rfl⟩) ?_
    refine Reg.pur rfl rfl rfl rfl (Pur.neA eqt28 rfl rfl hf (fks_ints .i64 noRow)) ?_
    refine Reg.pur rfl rfl rfl rfl (Pur.mv rfl) ?_
    refine Reg.case 43 rfl (fun hc8 => ?_) (fun hc8 => ?_)
    · refine Reg.skip rfl rfl rfl rfl rfl rfl rfl ?_
      refine Reg.skip rfl rfl rfl rfl rfl rfl rfl ?_
      refine Reg.skip rfl rfl rfl rfl rfl rfl rfl ?_
      refine Reg.skip rfl rfl rfl rfl rfl rfl rfl ?_
      refine Reg.pur rfl rfl rfl rfl (Pur.pickT rfl rfl) ?_
      refine Reg.nil ?_
      refine At.condT rfl rfl rfl ?_
      refine At.region rfl rfl ?_
      refine Reg.pur rfl rfl rfl rfl (Pur.asg rfl) ?_
      refine Reg.nil ?_
      refine At.ret rfl Try.func56 rfl ?_
      first | exact ⟨congrArg Value.bool (by unfold bindsM; simp only [decide_eq_true_eq] at *; rw [decide_eq_false (by omega)]; rfl), Ext.refl _⟩ | exact ⟨congrArg Value.bool (by simp only [decide_eq_false_iff_not] at *; rw [List.take_of_length_le (by omega)] at hgo; unfold bindsM; rw [hgo, decide_eq_true (p := L.length ≤ 4096) (by omega)]; rfl), hE⟩ | (refine ⟨congrArg Value.bool (hbad ?_).symm, by first | exact hE.trans (hE4.trans hE5) | exact hE.trans hE4⟩; clear hnext hbad; have hq : eqs (Is row) [I 0, I 0, I 0, I 0, I 0] = decide (row = noRow) := eqs_ints .i64 row noRow; simp only [hq, decide_eq_true_eq, decide_eq_false_iff_not, Bool.not_eq_true', Bool.not_eq_false', Bool.not_eq_true, Bool.not_eq_false] at *; unfold bindM; dsimp only; first | (rw [decide_eq_false (p := 0 ≤ var ∧ var < 4096) (by omega)]; rfl) | (rw [decide_eq_true (p := 0 ≤ var ∧ var < 4096) (by omega)]; simp_all; done) | (rw [decide_eq_true (p := 0 ≤ var ∧ var < 4096) (by omega), decide_eq_true (p := nodes.length = 0) (by omega)]; simp_all; done) | (rw [decide_eq_true (p := 0 ≤ var ∧ var < 4096) (by omega), decide_eq_false (p := nodes.length = 0) (by omega)]; simp_all; done))
    refine Reg.gpur rfl rfl rfl rfl rfl rfl (Pur.fld _ fo49_2 rfl) ?_
    refine Reg.glod rfl rfl rfl rfl rfl rfl (Lod.ldn ag25 rfl hB (show _ = [Value.slice A nodes.length cap'] from rfl) rfl) ?_
    refine Reg.gop rfl rfl rfl rfl rfl rfl (Does.call rfl (typMayR_ok nodes hnn (hsl.ext hE4) hmm)) ?_
    rintro _ H5 ⟨rfl, hE5⟩
    refine Reg.gpur rfl rfl rfl rfl rfl rfl (Pur.not rfl) ?_
    refine Reg.pur rfl rfl rfl rfl (Pur.pickF rfl rfl) ?_
    refine Reg.nil ?_
    refine At.cond rfl rfl (fun hb9 => ?_) (fun hb9 => ?_)
    · refine At.region rfl rfl ?_
      refine Reg.pur rfl rfl rfl rfl (Pur.asg rfl) ?_
      refine Reg.nil ?_
      refine At.ret rfl Try.func56 rfl ?_
      first | exact ⟨congrArg Value.bool (by unfold bindsM; simp only [decide_eq_true_eq] at *; rw [decide_eq_false (by omega)]; rfl), Ext.refl _⟩ | exact ⟨congrArg Value.bool (by simp only [decide_eq_false_iff_not] at *; rw [List.take_of_length_le (by omega)] at hgo; unfold bindsM; rw [hgo, decide_eq_true (p := L.length ≤ 4096) (by omega)]; rfl), hE⟩ | (refine ⟨congrArg Value.bool (hbad ?_).symm, by first | exact hE.trans (hE4.trans hE5) | exact hE.trans hE4⟩; clear hnext hbad; have hq : eqs (Is row) [I 0, I 0, I 0, I 0, I 0] = decide (row = noRow) := eqs_ints .i64 row noRow; simp only [hq, decide_eq_true_eq, decide_eq_false_iff_not, Bool.not_eq_true', Bool.not_eq_false', Bool.not_eq_true, Bool.not_eq_false] at *; unfold bindM; dsimp only; first | (rw [decide_eq_false (p := 0 ≤ var ∧ var < 4096) (by omega)]; rfl) | (rw [decide_eq_true (p := 0 ≤ var ∧ var < 4096) (by omega)]; simp_all; done) | (rw [decide_eq_true (p := 0 ≤ var ∧ var < 4096) (by omega), decide_eq_true (p := nodes.length = 0) (by omega)]; simp_all; done) | (rw [decide_eq_true (p := 0 ≤ var ∧ var < 4096) (by omega), decide_eq_false (p := nodes.length = 0) (by omega)]; simp_all; done))
    refine At.region rfl rfl ?_
    refine Reg.pur rfl rfl rfl rfl (Pur.mv rfl) ?_
    first | refine Reg.pur rfl rfl rfl rfl (Pur.add64 rfl rfl (by omega)) ?_ | refine Reg.pur rfl rfl rfl rfl (Pur.add64 rfl rfl (by assumption)) ?_ | refine Reg.pur rfl rfl rfl rfl (Pur.add rfl rfl) ?_
    refine Reg.pur rfl rfl rfl rfl (Pur.asg rfl) ?_
    refine Reg.nil ?_
    refine At.via (hnext _ (hE4.trans hE5) ?_) ⟨rfl, rfl, trivial⟩
    (clear hnext hbad; have hq : eqs (Is row) [I 0, I 0, I 0, I 0, I 0] = decide (row = noRow) := eqs_ints .i64 row noRow; simp only [hq, decide_eq_true_eq, decide_eq_false_iff_not, Bool.not_eq_true', Bool.not_eq_false', Bool.not_eq_true, Bool.not_eq_false] at *; unfold bindM; dsimp only; first | (rw [decide_eq_false (p := 0 ≤ var ∧ var < 4096) (by omega)]; rfl) | (rw [decide_eq_true (p := 0 ≤ var ∧ var < 4096) (by omega)]; simp_all; done) | (rw [decide_eq_true (p := 0 ≤ var ∧ var < 4096) (by omega), decide_eq_true (p := nodes.length = 0) (by omega)]; simp_all; done) | (rw [decide_eq_true (p := 0 ≤ var ∧ var < 4096) (by omega), decide_eq_false (p := nodes.length = 0) (by omega)]; simp_all; done))
  refine At.region rfl rfl ?_
  refine Reg.pur rfl rfl rfl rfl (Pur.asg rfl) ?_
  refine Reg.nil ?_
  refine At.ret rfl Try.func56 rfl ?_
  first | exact ⟨congrArg Value.bool (by unfold bindsM; simp only [decide_eq_true_eq] at *; rw [decide_eq_false (by omega)]; rfl), Ext.refl _⟩ | exact ⟨congrArg Value.bool (by simp only [decide_eq_false_iff_not] at *; rw [List.take_of_length_le (by omega)] at hgo; unfold bindsM; rw [hgo, decide_eq_true (p := L.length ≤ 4096) (by omega)]; rfl), hE⟩ | (refine ⟨congrArg Value.bool (hbad ?_).symm, by first | exact hE.trans (hE4.trans hE5) | exact hE.trans hE4⟩; clear hnext hbad; have hq : eqs (Is row) [I 0, I 0, I 0, I 0, I 0] = decide (row = noRow) := eqs_ints .i64 row noRow; simp only [hq, decide_eq_true_eq, decide_eq_false_iff_not, Bool.not_eq_true', Bool.not_eq_false', Bool.not_eq_true, Bool.not_eq_false] at *; unfold bindM; dsimp only; first | (rw [decide_eq_false (p := 0 ≤ var ∧ var < 4096) (by omega)]; rfl) | (rw [decide_eq_true (p := 0 ≤ var ∧ var < 4096) (by omega)]; simp_all; done) | (rw [decide_eq_true (p := 0 ≤ var ∧ var < 4096) (by omega), decide_eq_true (p := nodes.length = 0) (by omega)]; simp_all; done) | (rw [decide_eq_true (p := 0 ≤ var ∧ var < 4096) (by omega), decide_eq_false (p := nodes.length = 0) (by omega)]; simp_all; done))

end Go.Proofs.Ytlfillhffpiffaa

namespace Go.Proofs.Ytlfillhffpiffaa
set_option linter.unusedSimpArgs false
set_option linter.unusedVariables false
set_option maxRecDepth 8000
open Go Go.Fx Go.Proofs
namespace FactsSubM
end FactsSubM
open FactsSubM

theorem binds256 {L : List Bd} (h : bindsM L = true) : ∀ b ∈ L, b.nodes.length ≤ 256 := by
  intro b hb
  unfold bindsM at h
  simp only [Bool.and_eq_true, List.all_eq_true] at h
  have := h.2 b hb
  unfold bindM at this
  simp only [Bool.and_eq_true, decide_eq_true_eq] at this
  have h2 := this.2
  split at h2
  · simp only [Bool.and_eq_true, decide_eq_true_eq] at h2; omega
  · simp only [Bool.and_eq_true, decide_eq_true_eq] at h2
    have h3 := h2.2
    unfold typM at h3
    simp only [Bool.and_eq_true, decide_eq_true_eq] at h3
    exact h3.1.1.2

theorem typeR_ok {A A1 : Option Addr} {cap cap1 : Nat} {Bs : List Bd} {L : List (List Int)} {H : Heap} (hB : Bds H (.slice A Bs.length cap) Bs) (hS : SlT H Is 9 (.slice A1 L.length cap1) L) (hL : Nine L) (hm : L.length * 72 ≤ 140737488351232) :
    Ret Try.prog 21 [.slice A Bs.length cap, Ty A1 L.length cap1] H (fun v H' => Ext H H' ∧ TypV H.size H' (I (ce (subT Bs L).isSome)) v ((subT Bs L).getD [])) := by
  refine Ret.of_at (N := 27) Try.call21 Try.func21 rfl rfl rfl ?_
  have hE := Ext.refl H
  refine At.region rfl rfl ?_
  refine Reg.op rfl rfl rfl rfl (Does.box rfl rfl) ?_
  rintro _ H0_0 ⟨rfl, hn0_0⟩
  have z0_0 := hn0_0.size
  replace hE := hE.ext hn0_0.ext
  have o0_0 := hn0_0.own
  refine Reg.op rfl rfl rfl rfl (Does.alloc zc25) ?_
  rintro _ H0_1 ⟨rfl, hn0_1⟩
  have z0_1 := hn0_1.size
  replace hE := hE.ext hn0_1.ext
  replace o0_0 := o0_0.ext hn0_1.ext
  have o0_1 := hn0_1.own
  refine Reg.pur rfl rfl rfl rfl (Pur.asg rfl) ?_
  refine Reg.nil ?_
  refine At.region rfl rfl ?_
  refine Reg.pur rfl rfl rfl rfl (Pur.mv rfl) ?_
  refine Reg.op rfl rfl rfl rfl (Does.call rfl (bindsMayR_ok (hB.ext hE))) ?_
  rintro _ H1_1 ⟨rfl, hE1_1⟩
  have z1_1 := hE1_1.lt
  replace hE := hE.ext hE1_1
  replace o0_0 := o0_0.ext hE1_1
  replace o0_1 := o0_1.ext hE1_1
  refine Reg.pur rfl rfl rfl rfl (Pur.not rfl) ?_
  refine Reg.pur rfl rfl rfl rfl (Pur.mv rfl) ?_
  refine Reg.case 11 rfl (fun q11 => ?_) (fun q11 => ?_)
  · first | (simp only [decide_eq_true_eq, decide_eq_false_iff_not, Bool.not_eq_true', Bool.not_eq_false', ne_eq, Decidable.not_not, Bool.not_eq_true, Bool.not_eq_false] at q11) | (dsimp only at q11) | skip
    refine Reg.skip rfl rfl rfl rfl rfl rfl rfl ?_
    refine Reg.skip rfl rfl rfl rfl rfl rfl rfl ?_
    refine Reg.skip rfl rfl rfl rfl rfl rfl rfl ?_
    refine Reg.pur rfl rfl rfl rfl (Pur.pickT rfl rfl) ?_
    refine Reg.nil ?_
    refine At.condT rfl rfl rfl ?_
    refine At.region rfl rfl ?_
    refine Reg.pur rfl rfl rfl rfl (Pur.bld (cs := [_]) pl25 zc25 rfl rfl ⟨rfl, rfl⟩) ?_
    refine Reg.op0 rfl rfl rfl (Does.stn ag25 rfl rfl (by first | rfl | exact ones_Is _) (by first | rfl | (simp [*]; done)) o0_1 (by first | decide | (simp; done) | (simp; omega) | omega)) ?_
    rintro _ H2_1 hu2_1
    have z2_1 := hu2_1.size
    replace hE := hE.upw hu2_1 (by omega)
    replace o0_0 := o0_0.upw hu2_1 (by omega)
    replace o0_1 := hu2_1.own
    first | rw [over (by first | rfl | (simp; done))] at o0_1 | skip
    refine Reg.pur rfl rfl rfl rfl (Pur.asg rfl) ?_
    refine Reg.nil ?_
    refine At.retC rfl Try.func21 ⟨_, _, _, _, rfl, rfl, ⟨_, o0_1.blk, .inr ⟨_, _, ag25, (by first | exact whole rfl | exact whole (by simp [*])), (by first | rfl | simp [*]), rfl⟩⟩, ⟨_, _, rfl, rfl, rfl⟩⟩ ?_
    refine ⟨hE, ?_⟩
    rw [show subT Bs L = none by unfold subT; rw [if_neg]; simp_all]
    exact TypV.non rfl
  first | (simp only [decide_eq_true_eq, decide_eq_false_iff_not, Bool.not_eq_true', Bool.not_eq_false', ne_eq, Decidable.not_not, Bool.not_eq_true, Bool.not_eq_false] at q11) | (dsimp only at q11) | skip
  refine Reg.glod rfl rfl rfl rfl rfl rfl (Lod.ldn ag25 rfl o0_0.blk (by first | exact whole rfl | rfl | (simp only [List.drop_succ_cons, List.drop_zero, List.take_succ_cons, List.take_zero]; rfl)) (by first | rfl | (simp [*]; done))) ?_
  refine Reg.gop rfl rfl rfl rfl rfl rfl (Does.call rfl (typMayR_ok L hL (hS.ext hE) (by omega))) ?_
  rintro _ H1_5 ⟨rfl, hE1_5⟩
  have z1_5 := hE1_5.lt
  replace hE := hE.ext hE1_5
  replace o0_0 := o0_0.ext hE1_5
  replace o0_1 := o0_1.ext hE1_5
  refine Reg.gpur rfl rfl rfl rfl rfl rfl (Pur.not rfl) ?_
  refine Reg.pur rfl rfl rfl rfl (Pur.pickF rfl rfl) ?_
  refine Reg.nil ?_
  refine At.cond rfl rfl (fun q15 => ?_) (fun q15 => ?_)
  · first | (simp only [decide_eq_true_eq, decide_eq_false_iff_not, Bool.not_eq_true', Bool.not_eq_false', ne_eq, Decidable.not_not, Bool.not_eq_true, Bool.not_eq_false] at q15) | (dsimp only at q15) | skip
    refine At.region rfl rfl ?_
    refine Reg.pur rfl rfl rfl rfl (Pur.bld (cs := [_]) pl25 zc25 rfl rfl ⟨rfl, rfl⟩) ?_
    refine Reg.op0 rfl rfl rfl (Does.stn ag25 rfl rfl (by first | rfl | exact ones_Is _) (by first | rfl | (simp [*]; done)) o0_1 (by first | decide | (simp; done) | (simp; omega) | omega)) ?_
    rintro _ H2_1 hu2_1
    have z2_1 := hu2_1.size
    replace hE := hE.upw hu2_1 (by omega)
    replace o0_0 := o0_0.upw hu2_1 (by omega)
    replace o0_1 := hu2_1.own
    first | rw [over (by first | rfl | (simp; done))] at o0_1 | skip
    refine Reg.pur rfl rfl rfl rfl (Pur.asg rfl) ?_
    refine Reg.nil ?_
    refine At.retC rfl Try.func21 ⟨_, _, _, _, rfl, rfl, ⟨_, o0_1.blk, .inr ⟨_, _, ag25, (by first | exact whole rfl | exact whole (by simp [*])), (by first | rfl | simp [*]), rfl⟩⟩, ⟨_, _, rfl, rfl, rfl⟩⟩ ?_
    refine ⟨hE, ?_⟩
    rw [show subT Bs L = none by unfold subT; rw [if_neg]; simp_all]
    exact TypV.non rfl
  first | (simp only [decide_eq_true_eq, decide_eq_false_iff_not, Bool.not_eq_true', Bool.not_eq_false', ne_eq, Decidable.not_not, Bool.not_eq_true, Bool.not_eq_false] at q15) | (dsimp only at q15) | skip
  refine At.region rfl rfl ?_
  refine Reg.pur rfl rfl rfl rfl (Pur.mv rfl) ?_
  refine Reg.lod rfl rfl rfl rfl (Lod.ldn ag25 rfl o0_0.blk (by first | exact whole rfl | rfl | (simp only [List.drop_succ_cons, List.drop_zero, List.take_succ_cons, List.take_zero]; rfl)) (by first | rfl | (simp [*]; done))) ?_
  refine Reg.op rfl rfl rfl rfl (Does.call rfl (typeOf_ok (hB.ext hE) (binds256 q11) (hS.ext hE) hL q15)) ?_
  rintro v3_2 H3_2 ⟨hE3_2, hT3_2⟩
  have z3_2 := hE3_2.lt
  replace hE := hE.ext hE3_2
  replace o0_0 := o0_0.ext hE3_2
  replace o0_1 := o0_1.ext hE3_2
  obtain ⟨A', cap', rfl, ho, hN, hl⟩ := hT3_2.v
  have z_ho := ho.lt
  refine Reg.pur rfl rfl rfl rfl (Pur.mv rfl) ?_
  refine Reg.pur rfl rfl rfl rfl (Pur.ext rfl rfl) ?_
  refine Reg.pur rfl rfl rfl rfl (Pur.ext rfl rfl) ?_
  refine Reg.op rfl rfl rfl rfl (Does.alloc zc25) ?_
  rintro _ H3_6 ⟨rfl, hn3_6⟩
  have z3_6 := hn3_6.size
  replace hE := hE.ext hn3_6.ext
  replace o0_0 := o0_0.ext hn3_6.ext
  replace o0_1 := o0_1.ext hn3_6.ext
  replace ho := ho.ext hn3_6.ext
  have o3_6 := hn3_6.own
  refine Reg.op0 rfl rfl rfl (Does.stn ag25 rfl rfl (by first | rfl | exact ones_Is _) (by first | rfl | (simp [*]; done)) o3_6 (by first | decide | (simp; done) | (simp; omega) | omega)) ?_
  rintro _ H3_7 hu3_7
  have z3_7 := hu3_7.size
  replace hE := hE.upw hu3_7 (by omega)
  replace o0_0 := o0_0.upw hu3_7 (by omega)
  replace o0_1 := o0_1.upw hu3_7 (by omega)
  replace ho := ho.upw hu3_7 (by omega)
  replace o3_6 := hu3_7.own
  first | rw [over (by first | rfl | (simp; done))] at o3_6 | skip
  refine Reg.pur rfl rfl rfl rfl (Pur.asg rfl) ?_
  refine Reg.nil ?_
  have hq : subT Bs L = typS Bs L := by unfold subT; rw [if_pos ⟨q11, q15⟩]
  refine At.region rfl rfl ?_
  refine Reg.pur rfl rfl rfl rfl (Pur.mv rfl) ?_
  refine Reg.pur rfl rfl rfl rfl (Pur.not rfl) ?_
  refine Reg.nil ?_
  refine At.cond rfl rfl (fun q24 => ?_) (fun q24 => ?_)
  · first | (simp only [decide_eq_true_eq, decide_eq_false_iff_not, Bool.not_eq_true', Bool.not_eq_false', ne_eq, Decidable.not_not, Bool.not_eq_true, Bool.not_eq_false] at q24) | (dsimp only at q24) | skip
    refine At.region rfl rfl ?_
    refine Reg.pur rfl rfl rfl rfl (Pur.bld (cs := [_]) pl25 zc25 rfl rfl ⟨rfl, rfl⟩) ?_
    refine Reg.op0 rfl rfl rfl (Does.stn ag25 rfl rfl (by first | rfl | exact ones_Is _) (by first | rfl | (simp [*]; done)) o0_1 (by first | decide | (simp; done) | (simp; omega) | omega)) ?_
    rintro _ H5_1 hu5_1
    have z5_1 := hu5_1.size
    replace hE := hE.upw hu5_1 (by omega)
    replace o0_0 := o0_0.upw hu5_1 (by omega)
    replace ho := ho.upw hu5_1 (by omega)
    replace o3_6 := o3_6.upw hu5_1 (by omega)
    replace o0_1 := hu5_1.own
    first | rw [over (by first | rfl | (simp; done))] at o0_1 | skip
    refine Reg.pur rfl rfl rfl rfl (Pur.asg rfl) ?_
    refine Reg.nil ?_
    refine At.retC rfl Try.func21 ⟨_, _, _, _, rfl, rfl, ⟨_, o0_1.blk, .inr ⟨_, _, ag25, (by first | exact whole rfl | exact whole (by simp [*])), (by first | rfl | simp [*]), rfl⟩⟩, ⟨_, _, rfl, rfl, rfl⟩⟩ ?_
    refine ⟨hE, ?_⟩
    rw [hq]
    cases hh : typS Bs L with
    | none => exact TypV.non rfl
    | some out => rw [hh] at q24; cases q24
  first | (simp only [decide_eq_true_eq, decide_eq_false_iff_not, Bool.not_eq_true', Bool.not_eq_false', ne_eq, Decidable.not_not, Bool.not_eq_true, Bool.not_eq_false] at q24) | (dsimp only at q24) | skip
  refine At.region rfl rfl ?_
  refine Reg.lod rfl rfl rfl rfl (Lod.ldn ag25 rfl o3_6.blk (by first | exact whole rfl | rfl | (simp only [List.drop_succ_cons, List.drop_zero, List.take_succ_cons, List.take_zero]; rfl)) (by first | rfl | (simp [*]; done))) ?_
  refine Reg.op0 rfl rfl rfl (Does.stn ag25 rfl rfl (by first | rfl | exact ones_Is _) (by first | rfl | (simp [*]; done)) o0_1 (by first | decide | (simp; done) | (simp; omega) | omega)) ?_
  rintro _ H6_1 hu6_1
  have z6_1 := hu6_1.size
  replace hE := hE.upw hu6_1 (by omega)
  replace o0_0 := o0_0.upw hu6_1 (by omega)
  replace ho := ho.upw hu6_1 (by omega)
  replace o3_6 := o3_6.upw hu6_1 (by omega)
  replace o0_1 := hu6_1.own
  first | rw [over (by first | rfl | (simp; done))] at o0_1 | skip
  refine Reg.pur rfl rfl rfl rfl (Pur.asg rfl) ?_
  refine Reg.nil ?_
  refine At.retC rfl Try.func21 ⟨_, _, _, _, rfl, rfl, ⟨_, o0_1.blk, .inr ⟨_, _, ag25, (by first | exact whole rfl | exact whole (by simp [*])), (by first | rfl | simp [*]), rfl⟩⟩, ⟨_, _, rfl, rfl, rfl⟩⟩ ?_
  refine ⟨hE, ?_⟩
  rw [hq]
  rw [show (typS Bs L).isSome = true from q24]
  exact ⟨A', cap', rfl, ho.mono (by omega), hN, hl⟩

end Go.Proofs.Ytlfillhffpiffaa

namespace Go.Proofs.Ytlfillhffpiffaa
set_option linter.unusedSimpArgs false
set_option linter.unusedVariables false
set_option maxRecDepth 8000
set_option maxHeartbeats 1000000
open Go Go.Fx Go.Proofs
namespace FactsSchM
theorem es57 : esz Try.prog 57 = some 1 := by kernel_rfl
end FactsSchM
open FactsSchM

end Go.Proofs.Ytlfillhffpiffaa

namespace Go.Proofs.Ytlfillhffpiffaa
set_option linter.unusedSimpArgs false
set_option linter.unusedVariables false
set_option maxRecDepth 8000
set_option maxHeartbeats 1000000
open Go Go.Fx Go.Proofs
namespace FactsSchN
theorem es57 : esz Try.prog 57 = some 1 := by kernel_rfl
end FactsSchN
open FactsSchN

end Go.Proofs.Ytlfillhffpiffaa

namespace Go.Proofs.Ytlfillhffpiffaa
set_option linter.unusedSimpArgs false
set_option linter.unusedVariables false
set_option maxRecDepth 8000
set_option maxHeartbeats 1000000
open Go Go.Fx Go.Proofs
namespace FactsSchO
theorem slA57 : slA Try.prog 57 = some (25, 1) := by kernel_rfl
end FactsSchO
open FactsSchO

end Go.Proofs.Ytlfillhffpiffaa

namespace Go.Proofs.Ytlfillhffpiffaa
set_option linter.unusedSimpArgs false
set_option linter.unusedVariables false
set_option maxRecDepth 8000
set_option maxHeartbeats 2000000
open Go Go.Fx Go.Proofs
namespace FactsSchR
theorem es57 : esz Try.prog 57 = some 1 := by kernel_rfl
theorem slA57 : slA Try.prog 57 = some (25, 1) := by kernel_rfl
end FactsSchR
open FactsSchR

end Go.Proofs.Ytlfillhffpiffaa

namespace Go.Proofs.Ytlfillhffpiffaa
set_option linter.unusedSimpArgs false
set_option linter.unusedVariables false
set_option maxRecDepth 8000
open Go Go.Fx Go.Proofs
namespace FactsSubQ
end FactsSubQ
open FactsSubQ

theorem bd_of_fits {H : Heap} {cs : List Value} (h : fits H (.int .i64 :: .bool :: .sl 72 (List.replicate 9 (.int .i64)) :: List.replicate 5 (.int .i64)) cs) : ∃ b : Bd, b.Ok H ∧ cs = encB b := by
  simp only [fits] at h
  obtain ⟨v1, r1, rfl, h1, v2, r2, rfl, h2, v3, r3, rfl, h3, h4⟩ := h
  simp only [fitc] at h1 h2
  obtain ⟨n, rfl, _⟩ := h1
  obtain ⟨b, rfl⟩ := h2
  obtain ⟨A, cap, L, rfl, hL, hS, hb⟩ := type_of_fits h3
  obtain ⟨xs, rfl, hl, _⟩ := fit_ints h4
  exact ⟨⟨n, b, A, cap, L, xs⟩, ⟨hS, hL, hl, hb⟩, rfl⟩
theorem binds_of_fits {H : Heap} {v : Value} (h : fitc H (.sl 80 (.int .i64 :: .bool :: .sl 72 (List.replicate 9 (.int .i64)) :: List.replicate 5 (.int .i64))) v) : ∃ (A : Option Addr) (cap : Nat) (Bs : List Bd), v = .slice A Bs.length cap ∧ Bds H (.slice A Bs.length cap) Bs := by
  obtain ⟨L, hL, hS, hb⟩ := SlT.of_fits (p := fun b : Bd => b.Ok H) (enc := encB) h (fun cs h => bd_of_fits h)
  have hS' := hS
  obtain ⟨A, cap, rfl, _⟩ := hS'
  exact ⟨A, cap, L, rfl, ⟨hS, hL, by rw [show reachBytes = 140737488351232 from rfl] at hb; omega⟩⟩

end Go.Proofs.Ytlfillhffpiffaa

namespace Go.Proofs.Ytlfillhffpiffaa
set_option linter.unusedSimpArgs false
set_option linter.unusedVariables false
set_option maxRecDepth 8000
set_option maxHeartbeats 1000000
open Go Go.Fx Go.Proofs
namespace FactsSchT
theorem slA57 : slA Try.prog 57 = some (25, 1) := by kernel_rfl
end FactsSchT
open FactsSchT

end Go.Proofs.Ytlfillhffpiffaa

namespace Go.Proofs.Ytlfillhffpiffaa
set_option linter.unusedSimpArgs false
set_option linter.unusedVariables false
set_option maxRecDepth 8000
open Go Go.Fx Go.Proofs

structure Asg.Ok (θ : Asg) : Prop where
  len : ∀ v, 0 ≤ v → (θ.R v).length = 5
  pos : ∀ v, 0 ≤ v → ∀ i, i < 4 → 0 ≤ (θ.R v).getD i 0
  tl : ∀ v, 0 ≤ v → -1 ≤ (θ.R v).getD 4 0
def Agree (f : Int) (θ θ' : Asg) : Prop := (∀ v, θ'.T v = θ.T v) ∧ ∀ v, v < f → θ'.R v = θ.R v
theorem Agree.refl (f : Int) (θ : Asg) : Agree f θ θ := ⟨fun _ => rfl, fun _ _ => rfl⟩
theorem Agree.trans {f f' : Int} {θ θ' θ'' : Asg} (h : Agree f θ θ') (k : Agree f' θ' θ'') (hf : f ≤ f') : Agree f θ θ'' :=
  ⟨fun v => (k.1 v).trans (h.1 v), fun v hv => (k.2 v (by omega)).trans (h.2 v hv)⟩
theorem Agree.row {f : Int} {θ θ' : Asg} (h : Agree f θ θ') {r : List Int} (hr : r.getD 4 0 < f) : θ'.row r = θ.row r := by
  unfold Asg.row
  rw [h.2 _ hr]
theorem Agree.tm {f : Int} {θ θ' : Asg} (h : Agree f θ θ') : ∀ {t : Tm}, Lw f t → θ'.tm t = θ.tm t
  | .bas k, _ => rfl
  | .var v, _ => h.1 v
  | .fn a r b, hl => by
    obtain ⟨h1, h2, h3⟩ := lw_row hl
    simp only [Asg.tm]
    rw [h.tm h1, h.row h2, h.tm h3]
theorem Agree.resp {f : Int} {θ θ' : Asg} (h : Agree f θ θ') {l : List Bt} (hl : InvR l f) (hr : Resp θ l) : Resp θ' l := by
  intro b hb
  have h1 := hr b hb
  cases b with
  | t v u =>
    show θ'.T v = θ'.tm u
    rw [h.1 v, h.tm (fun w hw => hl.low w hw _ hb)]
    exact h1
  | r v s =>
    show θ'.R v = θ'.row s
    have h2 := (hl.rng v (mem_domR hb)).2
    have h3 : s.getD 4 0 < f := by
      rcases Int.lt_or_le (s.getD 4 0) f with h4 | h4
      · exact h4
      · have := hl.low _ h4 _ hb; simp [Bt.occR] at this
    rw [h.2 v h2, h.row h3]
    exact h1

theorem adR_at (r s : List Int) : ∀ i, i < 4 → (adR r s).getD i 0 = r.getD i 0 + s.getD i 0
  | 0, _ => rfl
  | 1, _ => rfl
  | 2, _ => rfl
  | 3, _ => rfl
theorem subC_at (a b : List Int) (t : Int) : ∀ i, i < 4 → (subC a b ++ [t]).getD i 0 = sb1 a b i
  | 0, _ => rfl
  | 1, _ => rfl
  | 2, _ => rfl
  | 3, _ => rfl
theorem sub_tl (a b : List Int) (t : Int) : (subC a b ++ [t]).getD 4 0 = t := rfl
theorem uniR_mgu {θ : Asg} (hθ : θ.Ok) {a b : List Int} {f : Int} (ha : a.length = 5) (hb : b.length = 5) (ham : rowM a = true) (hbm : rowM b = true) (h0 : 0 ≤ f) (h1 : f < 4096) (hta : a.getD 4 0 < f) (htb : b.getD 4 0 < f) (he : θ.row a = θ.row b) :
    (uniR a b f).2 = 0 ∧ ∃ θ', θ'.Ok ∧ Agree f θ θ' ∧ ∀ x ∈ (uniR a b f).1, (bt x).resp θ' := by
  have ta := rowM_t ham
  have tb := rowM_t hbm
  have pa := fun i (hi : i < 4) => (rowM_all ham hi ha).1
  have pb := fun i (hi : i < 4) => (rowM_all hbm hi hb).1
  have hei : ∀ i, (θ.row a).getD i 0 = (θ.row b).getD i 0 := fun i => by rw [he]
  have hL : ∀ v, 0 ≤ v → (θ.R v).length = 5 := hθ.len
  rw [uniR_yes ⟨ham, hbm, h0, h1, hta, htb⟩]
  unfold uniQ
  by_cases e1 : a.getD 4 0 = b.getD 4 0
  · rw [if_pos e1]
    have hab : ∀ i, i < 4 → a.getD i 0 = b.getD i 0 := by
      intro i hi
      by_cases hn : a.getD 4 0 < 0
      · have := hei i
        rw [Asg.row_no hn, Asg.row_no (by omega)] at this
        exact this
      · have := hei i
        rw [Asg.row_yes hn, Asg.row_yes (by omega), adR_at _ _ i hi, adR_at _ _ i hi, e1] at this
        omega
    rw [if_neg (by
      rw [more_of (fun i hi => by rw [hab i hi]; exact Int.le_refl _), more_of (a := b) (fun i hi => by rw [hab i hi]; exact Int.le_refl _)]
      simp)]
    exact ⟨rfl, θ, hθ, Agree.refl _ _, fun x hx => by cases hx⟩
  · rw [if_neg e1]
    by_cases e2 : b.getD 4 0 = -1
    · have na : ¬ a.getD 4 0 < 0 := by omega
      have nb : b.getD 4 0 < 0 := by omega
      rw [Asg.row_yes na, Asg.row_no nb] at hei
      have hi4 := fun i (hi : i < 4) => (adR_at a (θ.R (a.getD 4 0)) i hi).symm.trans (hei i)
      have hX := fun i (hi : i < 4) => hθ.pos (a.getD 4 0) (by omega) i hi
      have ht := hei 4
      rw [adR_tail] at ht
      have hle : ∀ i, i < 4 → a.getD i 0 ≤ b.getD i 0 := fun i hi => by have := hi4 i hi; have := hX i hi; omega
      rw [if_neg (by rintro (⟨h, h'⟩ | ⟨h, h'⟩) <;> first | omega | (rw [more_of hle] at h; cases h)), if_pos e2]
      refine ⟨rfl, θ, hθ, Agree.refl _ _, fun x hx => ?_⟩
      rw [List.mem_singleton.1 hx]
      show θ.R (a.getD 4 0) = θ.row (subC b a ++ [-1])
      rw [Asg.row_no (by rw [sub_tl]; decide)]
      refine eq_five (hL _ (by omega)) rfl (fun i hi => ?_) (by rw [sub_tl]; omega)
      rw [subC_at _ _ _ i hi]
      have := hi4 i hi
      have := hle i hi
      unfold sb1
      split <;> omega
    · by_cases e3 : a.getD 4 0 = -1
      · have na : a.getD 4 0 < 0 := by omega
        have nb : ¬ b.getD 4 0 < 0 := by omega
        rw [Asg.row_no na, Asg.row_yes nb] at hei
        have hi4 := fun i (hi : i < 4) => (hei i).trans (adR_at b (θ.R (b.getD 4 0)) i hi)
        have hX := fun i (hi : i < 4) => hθ.pos (b.getD 4 0) (by omega) i hi
        have ht := hei 4
        rw [adR_tail] at ht
        have hle : ∀ i, i < 4 → b.getD i 0 ≤ a.getD i 0 := fun i hi => by have := hi4 i hi; have := hX i hi; omega
        rw [if_neg (by rintro (⟨h, h'⟩ | ⟨h, h'⟩) <;> first | omega | (rw [more_of hle] at h; cases h)), if_neg e2, if_pos e3]
        refine ⟨rfl, θ, hθ, Agree.refl _ _, fun x hx => ?_⟩
        rw [List.mem_singleton.1 hx]
        show θ.R (b.getD 4 0) = θ.row (subC a b ++ [-1])
        rw [Asg.row_no (by rw [sub_tl]; decide)]
        refine eq_five (hL _ (by omega)) rfl (fun i hi => ?_) (by rw [sub_tl]; omega)
        rw [subC_at _ _ _ i hi]
        have := hi4 i hi
        have := hle i hi
        unfold sb1
        split <;> omega
      · rw [if_neg (by omega), if_neg e2, if_neg e3]
        have na : ¬ a.getD 4 0 < 0 := by omega
        have nb : ¬ b.getD 4 0 < 0 := by omega
        rw [Asg.row_yes na, Asg.row_yes nb] at hei
        have hi4 := fun i (hi : i < 4) => (adR_at a (θ.R (a.getD 4 0)) i hi).symm.trans ((hei i).trans (adR_at b (θ.R (b.getD 4 0)) i hi))
        have hX := fun i (hi : i < 4) => hθ.pos (a.getD 4 0) (by omega) i hi
        have hY := fun i (hi : i < 4) => hθ.pos (b.getD 4 0) (by omega) i hi
        have ht := hei 4
        rw [adR_tail, adR_tail] at ht
        by_cases e4 : moreC a b = false
        · rw [if_pos e4]
          have hle := more_no e4
          refine ⟨rfl, θ, hθ, Agree.refl _ _, fun x hx => ?_⟩
          rw [List.mem_singleton.1 hx]
          show θ.R (a.getD 4 0) = θ.row (subC b a ++ [b.getD 4 0])
          rw [Asg.row_yes (by rw [sub_tl]; exact nb), sub_tl]
          refine eq_five (hL _ (by omega)) rfl (fun i hi => ?_) (by rw [adR_tail]; exact ht)
          rw [adR_at _ _ i hi, subC_at _ _ _ i hi]
          have := hi4 i hi
          have := hle i hi
          unfold sb1
          split <;> omega
        · rw [if_neg e4]
          by_cases e5 : moreC b a = false
          · rw [if_pos e5]
            have hle := more_no e5
            refine ⟨rfl, θ, hθ, Agree.refl _ _, fun x hx => ?_⟩
            rw [List.mem_singleton.1 hx]
            show θ.R (b.getD 4 0) = θ.row (subC a b ++ [a.getD 4 0])
            rw [Asg.row_yes (by rw [sub_tl]; exact na), sub_tl]
            refine eq_five (hL _ (by omega)) rfl (fun i hi => ?_) (by rw [adR_tail]; exact ht.symm)
            rw [adR_at _ _ i hi, subC_at _ _ _ i hi]
            have := hi4 i hi
            have := hle i hi
            unfold sb1
            split <;> omega
          · rw [if_neg e5]
            have hZ : ∀ i, i < 4 → 0 ≤ (θ.R (a.getD 4 0)).getD i 0 - sb1 b a i := fun i hi => by
              have := hi4 i hi
              have := hX i hi
              have := hY i hi
              unfold sb1
              split <;> omega
            generalize hz : ([(θ.R (a.getD 4 0)).getD 0 0 - sb1 b a 0, (θ.R (a.getD 4 0)).getD 1 0 - sb1 b a 1, (θ.R (a.getD 4 0)).getD 2 0 - sb1 b a 2, (θ.R (a.getD 4 0)).getD 3 0 - sb1 b a 3, (θ.R (a.getD 4 0)).getD 4 0] : List Int) = Z
            have hz5 : Z.length = 5 := by rw [← hz]; rfl
            have hzi : ∀ i, i < 4 → Z.getD i 0 = (θ.R (a.getD 4 0)).getD i 0 - sb1 b a i := by
              rw [← hz]
              intro i hi
              match i, hi with
              | 0, _ => rfl
              | 1, _ => rfl
              | 2, _ => rfl
              | 3, _ => rfl
            have hzt : Z.getD 4 0 = (θ.R (a.getD 4 0)).getD 4 0 := by rw [← hz]; rfl
            have hRf : (⟨θ.T, fun v => if v = f then Z else θ.R v⟩ : Asg).R f = Z := if_pos rfl
            have hRn : ∀ v, v < f → (⟨θ.T, fun v => if v = f then Z else θ.R v⟩ : Asg).R v = θ.R v := fun v hv => if_neg (by omega)
            refine ⟨rfl, ⟨θ.T, fun v => if v = f then Z else θ.R v⟩, ⟨fun v hv => ?_, fun v hv i hi => ?_, fun v hv => ?_⟩, ⟨fun _ => rfl, hRn⟩, fun x hx => ?_⟩
            · by_cases hvf : v = f
              · subst hvf; rw [hRf]; exact hz5
              · dsimp only; rw [if_neg hvf]; exact hθ.len v hv
            · by_cases hvf : v = f
              · subst hvf; rw [hRf, hzi i hi]; exact hZ i hi
              · dsimp only; rw [if_neg hvf]; exact hθ.pos v hv i hi
            · by_cases hvf : v = f
              · subst hvf; rw [hRf, hzt]; exact hθ.tl _ (by omega)
              · dsimp only; rw [if_neg hvf]; exact hθ.tl v hv
            · rcases List.mem_cons.1 hx with rfl | hx
              · show (⟨θ.T, fun v => if v = f then Z else θ.R v⟩ : Asg).R (a.getD 4 0) = (⟨θ.T, fun v => if v = f then Z else θ.R v⟩ : Asg).row (subC b a ++ [f])
                rw [Asg.row_yes (by rw [sub_tl]; omega), sub_tl, hRf, hRn _ hta]
                refine eq_five (hL _ (by omega)) rfl (fun i hi => ?_) (by rw [adR_tail]; exact hzt.symm)
                rw [adR_at _ _ i hi, subC_at _ _ _ i hi, hzi i hi]
                omega
              · rw [List.mem_singleton.1 hx]
                show (⟨θ.T, fun v => if v = f then Z else θ.R v⟩ : Asg).R (b.getD 4 0) = (⟨θ.T, fun v => if v = f then Z else θ.R v⟩ : Asg).row (subC a b ++ [f])
                rw [Asg.row_yes (by rw [sub_tl]; omega), sub_tl, hRf, hRn _ htb]
                refine eq_five (hL _ (by omega)) rfl (fun i hi => ?_) (by rw [adR_tail, hzt]; exact ht.symm)
                rw [adR_at _ _ i hi, subC_at _ _ _ i hi, hzi i hi]
                have := hi4 i hi
                unfold sb1
                split <;> split <;> omega
theorem rowsU_mgu {θ : Asg} {s : Us} {a b : List Int} (hG : Good s) (hθ : θ.Ok) (hR : Resp θ s.1) (ha5 : a.length = 5) (ha : rowM a = true) (hb5 : b.length = 5) (hb : rowM b = true) (hta : a.getD 4 0 < s.2) (htb : b.getD 4 0 < s.2) (he : θ.row a = θ.row b) :
    rowsU s a b = .error 1003 ∨ ∃ s' θ', rowsU s a b = .ok s' ∧ θ'.Ok ∧ Resp θ' s'.1 ∧ Agree s.2 θ θ' := by
  have hf0 := hG.f0
  unfold rowsU
  cases h1 : rwS s.1 a with
  | none => exact .inl rfl
  | some a' =>
    cases h2 : rwS s.1 b with
    | none => exact .inl rfl
    | some b' =>
      dsimp only
      by_cases hf : 4096 ≤ s.2
      · rw [if_pos hf]; exact .inl rfl
      · rw [if_neg hf]
        have ha' := rw_ok hG.inv.ok ha5 ha h1
        have hb' := rw_ok hG.inv.ok hb5 hb h2
        have ta : a'.getD 4 0 < s.2 := by
          by_cases h0 : 0 ≤ a'.getD 4 0
          · exact (rw_tail hG.invR hta h1 h0).2
          · omega
        have tb : b'.getD 4 0 < s.2 := by
          by_cases h0 : 0 ≤ b'.getD 4 0
          · exact (rw_tail hG.invR htb h2 h0).2
          · omega
        have he' : θ.row a' = θ.row b' := by rw [rw_resp hG.inv.ok hR ha5 ha h1, rw_resp hG.inv.ok hR hb5 hb h2, he]
        obtain ⟨hc, θ', k1, k2, k3⟩ := uniR_mgu hθ ha'.1 hb'.1 ha'.2 hb'.2 hf0 (by omega) ta tb he'
        rw [if_neg (by rw [hc]; simp)]
        cases h3 : addAll ((uniR a' b' s.2).1.map bt) s.1 with
        | none => exact .inl rfl
        | some l =>
          refine .inr ⟨_, θ', rfl, k1, ?_, k2⟩
          refine (resp_all (uniR_bts ha'.1 hb'.1 (by omega) hc) hG.inv.ok h3).2 ⟨k2.resp hG.invR hR, fun x hx => ?_⟩
          obtain ⟨y, hy, rfl⟩ := List.mem_map.1 hx
          exact k3 y hy
theorem occ_le {θ : Asg} {v : Int} : ∀ {t : Tm}, occ v t = true → (θ.T v).sz ≤ (θ.tm t).sz
  | .bas k, h => by cases h
  | .var w, h => by
    have : w = v := by simpa [occ] using h
    subst this; exact Nat.le_refl _
  | .fn a r b, h => by
    simp only [occ, Bool.or_eq_true] at h
    simp only [Asg.tm, Tm.sz]
    rcases h with h | h
    · have := occ_le (θ := θ) h; omega
    · have := occ_le (θ := θ) h; omega
theorem bindU_mgu {θ : Asg} {s : Us} {v : Int} {t : Tm} (hv : t ≠ .var v) (he : θ.T v = θ.tm t) : bindU s v t = .error 1003 ∨ ∃ s', bindU s v t = .ok s' := by
  unfold bindU
  have ho : ¬ occ v t = true := by
    intro ho
    cases t with
    | bas k => cases ho
    | var w => have : w = v := by simpa [occ] using ho
               subst this; exact hv rfl
    | fn a r b =>
      simp only [occ, Bool.or_eq_true] at ho
      have h1 := congrArg Tm.sz he
      simp only [Asg.tm, Tm.sz] at h1
      rcases ho with ho | ho
      · have := occ_le (θ := θ) ho; omega
      · have := occ_le (θ := θ) ho; omega
  rw [if_neg ho]
  cases addB (.t v t) s.1 with
  | none => exact .inl rfl
  | some l => exact .inr ⟨_, rfl⟩
theorem leafU_mgu {θ : Asg} {s : Us} {p q : Tm} (hf : (isFn p && isFn q) = false) (he : θ.tm p = θ.tm q) : leafU s p q = .error 1003 ∨ ∃ s', leafU s p q = .ok s' := by
  cases p with
  | var v =>
    cases q with
    | var w =>
      simp only [leafU]
      by_cases hvw : v = w
      · rw [if_pos hvw]; exact .inr ⟨_, rfl⟩
      · rw [if_neg hvw]; exact bindU_mgu (fun e => hvw (by cases e; rfl)) he
    | bas k => exact bindU_mgu (fun e => by cases e) he
    | fn a r b => exact bindU_mgu (fun e => by cases e) he
  | bas k =>
    cases q with
    | var w => exact bindU_mgu (fun e => by cases e) he.symm
    | bas l =>
      simp only [leafU]
      have : k = l := by cases he; rfl
      rw [if_pos this]; exact .inr ⟨_, rfl⟩
    | fn a r b => cases he
  | fn a r b =>
    cases q with
    | var w => exact bindU_mgu (fun e => by cases e) he.symm
    | bas l => cases he
    | fn a' r' b' => cases hf
theorem uniU_mgu : ∀ (n : Nat) {θ : Asg} {s : Us} {a b : Tm} {r : Except Int Us}, Good s → a.ok → b.ok → Lw s.2 a → Lw s.2 b → θ.Ok → Resp θ s.1 → θ.tm a = θ.tm b → uniU n s a b = some r →
    r = .error 1003 ∨ ∃ s' θ', r = .ok s' ∧ θ'.Ok ∧ Resp θ' s'.1 ∧ Agree s.2 θ θ'
  | 0, _, _, _, _, _, _, _, _, _, _, _, _, _, h => by cases h
  | n + 1, θ, s, a, b, r, hG, ha, hb, hla, hlb, hθ, hR, he, h => by
    cases h1 : tys s.1 a with
    | none => rw [uniU_bad (.inl h1)] at h; cases h; exact .inl rfl
    | some p =>
      cases h2 : tys s.1 b with
      | none => rw [uniU_bad (.inr h2)] at h; cases h; exact .inl rfl
      | some q =>
        obtain ⟨hsp, hpz⟩ := tys_sub h1
        obtain ⟨hsq, hqz⟩ := tys_sub h2
        have hpo := sub_ok hG.inv.ok ha hsp
        have hqo := sub_ok hG.inv.ok hb hsq
        obtain ⟨hpl, hpr⟩ := sub_low hG.invR hG.f0 hla hsp
        obtain ⟨hql, hqr⟩ := sub_low hG.invR hG.f0 hlb hsq
        have hpq : θ.tm p = θ.tm q := by rw [tys_resp hG.inv.ok hR ha h1, tys_resp hG.inv.ok hR hb h2, he]
        cases hf : isFn p && isFn q with
        | false =>
          rw [uniU_leaf h1 h2 hf] at h
          have e : leafU s p q = r := by simpa using h
          rcases leafU_mgu (s := s) hf hpq with k | ⟨s', k⟩
          · exact .inl (e.symm.trans k)
          · exact .inr ⟨s', θ, e.symm.trans k, hθ, (leafU_iff hG.inv.ok hpo hqo hpz hqz k).2 ⟨hR, hpq⟩, Agree.refl _ _⟩
        | true =>
          cases p with
          | var v => cases hf
          | bas k => cases hf
          | fn f x g =>
            cases q with
            | var v => cases hf
            | bas k => cases hf
            | fn h' x' i =>
              obtain ⟨lf, lr, lg⟩ := lw_row hpl
              obtain ⟨lh, lr', li⟩ := lw_row hql
              simp only [Asg.tm, Tm.fn.injEq] at hpq
              obtain ⟨q1, q2, q3⟩ := hpq
              rw [uniU_fn h1 h2] at h
              cases hu : uniU n s f h' with
              | none => rw [hu] at h; cases h
              | some y =>
                rw [hu] at h
                rcases uniU_mgu n hG hpo.1 hqo.1 lf lh hθ hR q1 hu with rfl | ⟨s1, θ1, rfl, o1, r1, a1⟩
                · cases h; exact .inl rfl
                · dsimp only at h
                  obtain ⟨G1, m1, _⟩ := uniU_good n hG hpo.1 hqo.1 lf lh hu
                  rcases rowsU_mgu G1 o1 r1 hpo.2.1 hpo.2.2.1 hqo.2.1 hqo.2.2.1 (by omega) (by omega) (by rw [a1.row lr, a1.row lr', q2]) with k | ⟨s2, θ2, k, o2, r2, a2⟩
                  · rw [k] at h; cases h; exact .inl rfl
                  · rw [k] at h
                    dsimp only at h
                    obtain ⟨G2, m2, _⟩ := rowsU_good G1 hpo.2.1 hpo.2.2.1 hqo.2.1 hqo.2.2.1 (by omega) (by omega) k
                    have a12 := a1.trans a2 m1
                    rcases uniU_mgu n G2 hpo.2.2.2 hqo.2.2.2 (lg.mono (by omega)) (li.mono (by omega)) o2 r2 (by rw [a12.tm lg, a12.tm li, q3]) h with k | ⟨s3, θ3, k, o3, r3, a3⟩
                    · exact .inl k
                    · exact .inr ⟨s3, θ3, k, o3, r3, a12.trans a3 (by omega)⟩
end Go.Proofs.Ytlfillhffpiffaa

namespace Go.Proofs.Ytlfillhffpiffaa
set_option linter.unusedSimpArgs false
set_option linter.unusedVariables false
set_option maxRecDepth 8000
open Go Go.Fx Go.Proofs

theorem asg_ok {l : List Bt} (h : ∀ b ∈ l, b.ok) : (asg l).Ok := by
  have key : ∀ v, 0 ≤ v → ((asg l).R v).length = 5 ∧ (∀ i, i < 4 → 0 ≤ ((asg l).R v).getD i 0) ∧ -1 ≤ ((asg l).R v).getD 4 0 := by
    intro v hv
    unfold asg
    dsimp only
    cases hf : findR l v with
    | none =>
      refine ⟨rfl, fun i hi => ?_, by show -1 ≤ v; omega⟩
      match i, hi with
      | 0, _ => exact Int.le_refl _
      | 1, _ => exact Int.le_refl _
      | 2, _ => exact Int.le_refl _
      | 3, _ => exact Int.le_refl _
    | some s =>
      have hs := h _ (findR_some hf)
      exact ⟨hs.1, fun i hi => (rowM_all hs.2 hi hs.1).1, (rowM_t hs.2).1⟩
  exact ⟨fun v hv => (key v hv).1, fun v hv => (key v hv).2.1, fun v hv => (key v hv).2.2⟩
theorem uniU_finds {n : Nat} {f : Int} {θ : Asg} {a b : Tm} {r : Except Int Us} (h0 : 0 ≤ f) (h1 : f ≤ 4096) (ha : a.ok) (hb : b.ok) (hla : Lw f a) (hlb : Lw f b) (hθ : θ.Ok) (he : θ.tm a = θ.tm b) (h : uniU n ([], f) a b = some r) :
    r = .error 1003 ∨ ∃ (s : Us) (θ' : Asg), r = .ok s ∧ θ'.Ok ∧ (∀ x, tys s.1 a = some x → θ'.tm x = θ.tm a) ∧ Good s := by
  rcases uniU_mgu n (good_nil h0 h1) ha hb hla hlb hθ (resp_nil θ) he h with h2 | ⟨s, θ', rfl, k1, k2, k3⟩
  · exact .inl h2
  · obtain ⟨G, hf, _⟩ := uniU_good n (good_nil h0 h1) ha hb hla hlb h
    exact .inr ⟨s, θ', rfl, k1, fun x hx => by rw [tys_resp G.inv.ok k2 ha hx, k3.tm hla], G⟩

def dfR (g s : List Int) : List Int := [s.getD 0 0 - g.getD 0 0, s.getD 1 0 - g.getD 1 0, s.getD 2 0 - g.getD 2 0, s.getD 3 0 - g.getD 3 0, s.getD 4 0]
def posR (d : List Int) : Bool := decide (0 ≤ d.getD 0 0 ∧ 0 ≤ d.getD 1 0 ∧ 0 ≤ d.getD 2 0 ∧ 0 ≤ d.getD 3 0)
def instR (M : List Bt) (g s : List Int) : Option (List Bt) :=
  if posR (dfR g s) = false then none else if g.getD 4 0 < 0 then (if g = s then some M else none)
  else match findR M (g.getD 4 0) with
    | none => some (M ++ [.r (g.getD 4 0) (dfR g s)])
    | some d => if d = dfR g s then some M else none
def inst (M : List Bt) : Tm → Tm → Option (List Bt)
  | .var v, s => match findT M v with
    | none => some (M ++ [.t v s])
    | some t => if t = s then some M else none
  | .bas k, .bas l => if k = l then some M else none
  | .fn a r b, .fn a' r' b' => match inst M a a' with
    | none => none
    | some M1 => match instR M1 r r' with
      | none => none
      | some M2 => inst M2 b b'
  | _, _ => none
def Has (θ : Asg) (M : List Bt) : Prop := (∀ v u, findT M v = some u → θ.T v = u) ∧ ∀ v d, findR M v = some d → θ.R v = d
theorem has_nil (θ : Asg) : Has θ [] := ⟨fun v u h => (by cases h), fun v u h => (by cases h)⟩
theorem findT_app {v : Int} : ∀ {l m : List Bt}, findT (l ++ m) v = match findT l v with | some u => some u | none => findT m v
  | [], m => rfl
  | .t w u :: l, m => by
    simp only [List.cons_append, findT]
    by_cases h : w = v
    · rw [if_pos h, if_pos h]
    · rw [if_neg h, if_neg h]; exact findT_app
  | .r w u :: l, m => by
    simp only [List.cons_append, findT]; exact findT_app
theorem findR_app {v : Int} : ∀ {l m : List Bt}, findR (l ++ m) v = match findR l v with | some u => some u | none => findR m v
  | [], m => rfl
  | .r w u :: l, m => by
    simp only [List.cons_append, findR]
    by_cases h : w = v
    · rw [if_pos h, if_pos h]
    · rw [if_neg h, if_neg h]; exact findR_app
  | .t w u :: l, m => by
    simp only [List.cons_append, findR]; exact findR_app
theorem has_T {θ : Asg} {M : List Bt} {v : Int} {u : Tm} (hn : findT M v = none) : Has θ (M ++ [.t v u]) ↔ Has θ M ∧ θ.T v = u := by
  constructor
  · rintro ⟨h1, h2⟩
    refine ⟨⟨fun w x hx => h1 w x (by rw [findT_app, hx]), fun w x hx => h2 w x (by rw [findR_app, hx])⟩, h1 v u ?_⟩
    rw [findT_app, hn]; simp [findT]
  · rintro ⟨⟨h1, h2⟩, h3⟩
    refine ⟨fun w x hx => ?_, fun w x hx => ?_⟩
    · rw [findT_app] at hx
      cases hf : findT M w with
      | some y => rw [hf] at hx; cases hx; exact h1 w _ hf
      | none =>
        rw [hf] at hx
        simp only [findT] at hx
        split at hx
        · rename_i hvw; cases hx; subst hvw; exact h3
        · cases hx
    · rw [findR_app] at hx
      cases hf : findR M w with
      | some y => rw [hf] at hx; cases hx; exact h2 w _ hf
      | none => rw [hf] at hx; cases hx
theorem has_R {θ : Asg} {M : List Bt} {v : Int} {u : List Int} (hn : findR M v = none) : Has θ (M ++ [.r v u]) ↔ Has θ M ∧ θ.R v = u := by
  constructor
  · rintro ⟨h1, h2⟩
    refine ⟨⟨fun w x hx => h1 w x (by rw [findT_app, hx]), fun w x hx => h2 w x (by rw [findR_app, hx])⟩, h2 v u ?_⟩
    rw [findR_app, hn]; simp [findR]
  · rintro ⟨⟨h1, h2⟩, h3⟩
    refine ⟨fun w x hx => ?_, fun w x hx => ?_⟩
    · rw [findT_app] at hx
      cases hf : findT M w with
      | some y => rw [hf] at hx; cases hx; exact h1 w _ hf
      | none => rw [hf] at hx; cases hx
    · rw [findR_app] at hx
      cases hf : findR M w with
      | some y => rw [hf] at hx; cases hx; exact h2 w _ hf
      | none =>
        rw [hf] at hx
        simp only [findR] at hx
        split at hx
        · rename_i hvw; cases hx; subst hvw; exact h3
        · cases hx
theorem df_eq {g s X : List Int} (hX : X.length = 5) (h : adR g X = s) : dfR g s = X := by
  subst h
  obtain ⟨a, b, c, d, e, rfl⟩ := row_five hX
  unfold dfR adR
  simp only [List.getD_cons_zero, List.getD_cons_succ]
  simp only [List.cons.injEq, and_true]
  omega
theorem instR_iff {θ : Asg} (hθ : θ.Ok) {M : List Bt} {g s : List Int} (hg : g.length = 5) (hs : s.length = 5) (h : Has θ M) (he : θ.row g = s) : ∃ M', instR M g s = some M' ∧ Has θ M' := by
  unfold instR
  by_cases h0 : g.getD 4 0 < 0
  · rw [Asg.row_no h0] at he
    subst he
    rw [if_neg (by unfold posR dfR; simp), if_pos h0, if_pos rfl]
    exact ⟨M, rfl, h⟩
  · rw [Asg.row_yes h0] at he
    have hd := df_eq (hθ.len _ (by omega)) he
    have hp := hθ.pos (g.getD 4 0) (by omega)
    rw [if_neg (by
      rw [hd]
      unfold posR
      simp only [decide_eq_false_iff_not, Decidable.not_not]
      exact ⟨hp 0 (by decide), hp 1 (by decide), hp 2 (by decide), hp 3 (by decide)⟩), if_neg h0]
    cases hf : findR M (g.getD 4 0) with
    | none => exact ⟨_, rfl, (has_R hf).2 ⟨h, hd.symm⟩⟩
    | some d =>
      have := h.2 _ _ hf
      dsimp only
      rw [if_pos (by rw [hd]; exact this.symm)]
      exact ⟨M, rfl, h⟩
theorem inst_of {θ : Asg} (hθ : θ.Ok) : ∀ {g s : Tm} {M : List Bt}, g.ok → s.ok → Has θ M → θ.tm g = s → ∃ M', inst M g s = some M' ∧ Has θ M'
  | .bas k, s, M, _, _, h, he => by
    obtain rfl : s = .bas k := he.symm
    exact ⟨M, by simp [inst], h⟩
  | .var v, s, M, _, _, h, he => by
    simp only [inst]
    cases hf : findT M v with
    | none => exact ⟨_, rfl, (has_T hf).2 ⟨h, he⟩⟩
    | some t =>
      dsimp only
      rw [if_pos ((h.1 _ _ hf).symm.trans he)]
      exact ⟨M, rfl, h⟩
  | .fn a r b, .fn a' r' b', M, hg, hs, h, he => by
    simp only [Asg.tm, Tm.fn.injEq] at he
    obtain ⟨M1, e1, h1⟩ := inst_of hθ hg.1 hs.1 h he.1
    obtain ⟨M2, e2, h2⟩ := instR_iff hθ hg.2.1 hs.2.1 h1 he.2.1
    obtain ⟨M3, e3, h3⟩ := inst_of hθ hg.2.2.2 hs.2.2.2 h2 he.2.2
    refine ⟨M3, ?_, h3⟩
    simp only [inst, e1, e2, e3]
  | .fn a r b, .bas k, M, _, _, _, he => by cases he
  | .fn a r b, .var k, M, _, _, _, he => by cases he
end Go.Proofs.Ytlfillhffpiffaa

