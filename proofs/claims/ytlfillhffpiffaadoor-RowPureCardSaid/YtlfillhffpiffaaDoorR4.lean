/-
  Parts of the proof, 4.
-/
import Derived.Test.YtlfillhffpiffaaDoorR3
namespace Go.Fx
open Go
section
variable {P : Program} {f : FuncId} {N : Nat} {R : Value → Heap → Prop} {e : Env} {H : Heap}
theorem At.regJ0 {σ : Type} (st : σ → Env) (I : σ → Heap → Prop) {k : List Item} {id : Nat} {ops : Array Oper} (h : Reg P ops N (List.range ops.size) (fun e' H' => ∃ x, I x H' ∧ Sub (st x) e') e H) (h2 : ∀ x H', I x H' → At P f N R (k := k) (st x) H') :
    At P f N R (k := .code (.region id ops false) :: k) e H := by
  intro w0 n a cs hdf hs hA
  obtain ⟨x, a', w', hq, harr⟩ := wp_region (id := id) (h w0 n a hdf hs hA) (fb f) k cs
  cases x with
  | normal =>
    obtain ⟨hd', hs', e', H', n', rfl, hA', y, hI, hS⟩ := hq
    exact (At.sub hS (h2 y H' hI) w0 n' a' cs hd' hs' hA').steps harr
  | _ => exact hq.elim
theorem At.regJ {σ : Type} (st : σ → Env) (I : σ → Heap → Prop) {k k' : List Item} {ops : Array Oper} {is : List Nat} (hh : hd 60 k = .region ops false k') (hi : List.range ops.size = is)
    (h : Reg P ops N is (fun e' H' => ∃ x, I x H' ∧ Sub (st x) e') e H) (h2 : ∀ x H', I x H' → At P f N R (k := k') (st x) H') : At P f N R (k := k) e H :=
  At.of_hd 60 k (by rw [hh]; exact fun id => At.regJ0 st I (by rw [hi]; exact h) h2)
end
end Go.Fx
namespace Go.Proofs.YtlfillhffpiffaaDoor
set_option linter.unusedSimpArgs false
set_option linter.unusedVariables false
set_option maxRecDepth 8000
set_option maxHeartbeats 1000000
open Go Go.Fx Go.Proofs
namespace FactsDRwJ
theorem ag24 : ag Tryd.prog 24 = some 5 := by kernel_rfl
theorem arr22 : arr Tryd.prog 22 = some (4, 1) := by kernel_rfl
theorem eqt24 : eqT Tryd.prog 24 = some [.int .i64, .int .i64, .int .i64, .int .i64, .int .i64] := by kernel_rfl
theorem fo24_0 : foff Tryd.prog 24 0 = some 0 := by kernel_rfl
theorem fo24_1 : foff Tryd.prog 24 1 = some 4 := by kernel_rfl
theorem isl25 : isSl Tryd.prog 25 = true := by kernel_rfl
theorem mixed : Tryd.prog.follows .mixedOrders = true := by kernel_rfl
theorem sc3 : sc Tryd.prog 3 = true := by kernel_rfl
theorem zc24 : zc Tryd.prog 24 = some [.int .i64 0, .int .i64 0, .int .i64 0, .int .i64 0, .int .i64 0] := by kernel_rfl
end FactsDRwJ
open FactsDRwJ

theorem rowSolves_law {a b : List Int} (ha : a.length = 5) (hb : b.length = 5) {H : Heap} (hT : Tens H) :
    Ret Tryd.prog 4 [.agg (Is a).toArray, .agg (Is b).toArray] H (fun v H' => v = .bool true ∧ Ext H H') := by
  have ha' : (Is a).length = 5 := by simp [ha]
  have hb' : (Is b).length = 5 := by simp [hb]
  have hfa := fks_ints .i64 a
  rw [ha] at hfa
  have hfb := fks_ints .i64 b
  rw [hb] at hfb
  have hrw := uniR_rwb a b 4095
  have hcn := uniR_cnt (a := a) (b := b) (f := 4095) ha hb
  have hua' : (Is (und (uniR a b 4095).1 a)).length = 5 := by simp [und_len ha]
  have hub' : (Is (und (uniR a b 4095).1 b)).length = 5 := by simp [und_len hb]
  have hfu := fks_ints .i64 (und (uniR a b 4095).1 a)
  rw [und_len ha] at hfu
  have hfv := fks_ints .i64 (und (uniR a b 4095).1 b)
  rw [und_len hb] at hfv
  refine Ret.of_at (N := 140) Tryd.call4 Tryd.func4 rfl rfl rfl ?_
  have hE := Ext.refl H
  refine At.region rfl rfl ?_
  refine Reg.op rfl rfl rfl rfl (Does.box rfl rfl) ?_
  rintro _ H0_0 ⟨rfl, hn0_0⟩
  have z0_0 := hn0_0.size
  replace hE := hE.ext hn0_0.ext
  have o0_0 := hn0_0.own
  refine Reg.op rfl rfl rfl rfl (Does.box rfl rfl) ?_
  rintro _ H0_1 ⟨rfl, hn0_1⟩
  have z0_1 := hn0_1.size
  replace hE := hE.ext hn0_1.ext
  replace o0_0 := o0_0.ext hn0_1.ext
  have o0_1 := hn0_1.own
  refine Reg.pur rfl rfl rfl rfl (Pur.asg rfl) ?_
  refine Reg.nil ?_
  refine At.region rfl rfl ?_
  refine Reg.op rfl rfl rfl rfl (Does.call rfl (awake8_ok (hT.ext hE))) ?_
  rintro _ H1_0 ⟨rfl, hE1_0⟩
  have z1_0 := hE1_0.lt
  replace hE := hE.ext hE1_0
  replace o0_0 := o0_0.ext hE1_0
  replace o0_1 := o0_1.ext hE1_0
  refine Reg.pur rfl rfl rfl rfl (Pur.not rfl) ?_
  refine Reg.nil ?_
  refine At.condF rfl rfl (rfl) ?_
  refine At.region rfl rfl ?_
  refine Reg.lod rfl rfl rfl rfl (Lod.ldn ag24 rfl o0_0.blk (whole ha') ha') ?_
  refine Reg.lod rfl rfl rfl rfl (Lod.ldn ag24 rfl o0_1.blk (whole hb') hb') ?_
  refine Reg.op rfl rfl rfl rfl (Does.call rfl (rowUnifyO_ok a b 4095 ha hb _)) ?_
  rintro v3_2 H3_2 ⟨A1, k1, rfl, hB1, hO1, hE3_2⟩
  have z3_2 := hE3_2.lt
  replace hE := hE.ext hE3_2
  replace o0_0 := o0_0.ext hE3_2
  replace o0_1 := o0_1.ext hE3_2
  have hX1 := Ext.refl H3_2
  have z_hX1 := hX1.lt
  refine Reg.pur rfl rfl rfl rfl (Pur.mv rfl) ?_
  refine Reg.pur rfl rfl rfl rfl (Pur.ext rfl rfl) ?_
  refine Reg.pur rfl rfl rfl rfl (Pur.ext rfl rfl) ?_
  refine Reg.pur rfl rfl rfl rfl (Pur.asg rfl) ?_
  refine Reg.pur rfl rfl rfl rfl (Pur.asg rfl) ?_
  refine Reg.nil ?_
  refine At.region rfl rfl ?_
  refine Reg.lod rfl rfl rfl rfl (Lod.ldn ag24 rfl o0_0.blk (whole ha') ha') ?_
  refine Reg.op rfl rfl rfl rfl (Does.call rfl (rowMay_ok a ha _)) ?_
  rintro _ H4_1 ⟨rfl, hE4_1⟩
  have z4_1 := hE4_1.lt
  replace hE := hE.ext hE4_1
  replace o0_0 := o0_0.ext hE4_1
  replace o0_1 := o0_1.ext hE4_1
  replace hX1 := hX1.ext hE4_1
  refine Reg.pur rfl rfl rfl rfl (Pur.not rfl) ?_
  refine Reg.pur rfl rfl rfl rfl (Pur.mv rfl) ?_
  refine Reg.case 24 rfl (fun q24 => ?_) (fun q24 => ?_)
  · first | (simp only [decide_eq_true_eq, decide_eq_false_iff_not, Bool.not_eq_true', Bool.not_eq_false', ne_eq, Decidable.not_not, Bool.not_eq_true, Bool.not_eq_false] at q24) | (dsimp only at q24) | skip
    refine Reg.skip rfl rfl rfl rfl rfl rfl rfl ?_
    refine Reg.skip rfl rfl rfl rfl rfl rfl rfl ?_
    refine Reg.skip rfl rfl rfl rfl rfl rfl rfl ?_
    refine Reg.pur rfl rfl rfl rfl (Pur.pickT rfl rfl) ?_
    refine Reg.pur rfl rfl rfl rfl (Pur.mv rfl) ?_
    refine Reg.skip rfl rfl rfl rfl rfl rfl rfl ?_
    refine Reg.skip rfl rfl rfl rfl rfl rfl rfl ?_
    refine Reg.skip rfl rfl rfl rfl rfl rfl rfl ?_
    refine Reg.pur rfl rfl rfl rfl (Pur.pickT rfl rfl) ?_
    refine Reg.pur rfl rfl rfl rfl (Pur.mv rfl) ?_
    refine Reg.skip rfl rfl rfl rfl rfl rfl rfl ?_
    refine Reg.skip rfl rfl rfl rfl rfl rfl rfl ?_
    refine Reg.skip rfl rfl rfl rfl rfl rfl rfl ?_
    refine Reg.pur rfl rfl rfl rfl (Pur.pickT rfl rfl) ?_
    refine Reg.nil ?_
    refine At.condT rfl rfl rfl ?_
    have hno : uniR a b 4095 = ([], 800) := uniR_no (fun k => by obtain ⟨k1, k2, _, _, k5, k6⟩ := k; simp_all; try omega)
    rw [hno]
    refine At.region rfl rfl ?_
    refine Reg.pur rfl rfl rfl rfl (Pur.mv rfl) ?_
    refine Reg.op rfl rfl rfl rfl (Does.call rfl (numE_ok _ _)) ?_
    rintro _ H4_1 ⟨rfl, rfl⟩
    refine Reg.pur rfl rfl rfl rfl (Pur.eql rfl rfl) ?_
    refine Reg.pur rfl rfl rfl rfl (Pur.mv rfl) ?_
    refine Reg.known (b' := true) 42 rfl (by rfl) ?_
    refine Reg.gpur rfl rfl rfl rfl rfl rfl (Pur.mv rfl) ?_
    refine Reg.gpur rfl rfl rfl rfl rfl rfl (Pur.lenS isl25 rfl) ?_
    refine Reg.gpur rfl rfl rfl rfl rfl rfl (Pur.eql rfl rfl) ?_
    refine Reg.pur rfl rfl rfl rfl (Pur.pickT rfl rfl) ?_
    refine Reg.pur rfl rfl rfl rfl (Pur.asg rfl) ?_
    refine Reg.nil ?_
    refine At.ret rfl Tryd.func4 rfl ?_
    exact ⟨rfl, hE⟩
  first | (simp only [decide_eq_true_eq, decide_eq_false_iff_not, Bool.not_eq_true', Bool.not_eq_false', ne_eq, Decidable.not_not, Bool.not_eq_true, Bool.not_eq_false] at q24) | (dsimp only at q24) | skip
  refine Reg.glod rfl rfl rfl rfl rfl rfl (Lod.ldn ag24 rfl o0_1.blk (whole hb') hb') ?_
  refine Reg.gop rfl rfl rfl rfl rfl rfl (Does.call rfl (rowMay_ok b hb _)) ?_
  rintro _ H4_5 ⟨rfl, hE4_5⟩
  have z4_5 := hE4_5.lt
  replace hE := hE.ext hE4_5
  replace o0_0 := o0_0.ext hE4_5
  replace o0_1 := o0_1.ext hE4_5
  replace hX1 := hX1.ext hE4_5
  refine Reg.gpur rfl rfl rfl rfl rfl rfl (Pur.not rfl) ?_
  refine Reg.pur rfl rfl rfl rfl (Pur.pickF rfl rfl) ?_
  refine Reg.pur rfl rfl rfl rfl (Pur.mv rfl) ?_
  refine Reg.case 29 rfl (fun q29 => ?_) (fun q29 => ?_)
  · first | (simp only [decide_eq_true_eq, decide_eq_false_iff_not, Bool.not_eq_true', Bool.not_eq_false', ne_eq, Decidable.not_not, Bool.not_eq_true, Bool.not_eq_false] at q29) | (dsimp only at q29) | skip
    refine Reg.skip rfl rfl rfl rfl rfl rfl rfl ?_
    refine Reg.skip rfl rfl rfl rfl rfl rfl rfl ?_
    refine Reg.skip rfl rfl rfl rfl rfl rfl rfl ?_
    refine Reg.pur rfl rfl rfl rfl (Pur.pickT rfl rfl) ?_
    refine Reg.pur rfl rfl rfl rfl (Pur.mv rfl) ?_
    refine Reg.skip rfl rfl rfl rfl rfl rfl rfl ?_
    refine Reg.skip rfl rfl rfl rfl rfl rfl rfl ?_
    refine Reg.skip rfl rfl rfl rfl rfl rfl rfl ?_
    refine Reg.pur rfl rfl rfl rfl (Pur.pickT rfl rfl) ?_
    refine Reg.nil ?_
    refine At.condT rfl rfl rfl ?_
    have hno : uniR a b 4095 = ([], 800) := uniR_no (fun k => by obtain ⟨k1, k2, _, _, k5, k6⟩ := k; simp_all; try omega)
    rw [hno]
    refine At.region rfl rfl ?_
    refine Reg.pur rfl rfl rfl rfl (Pur.mv rfl) ?_
    refine Reg.op rfl rfl rfl rfl (Does.call rfl (numE_ok _ _)) ?_
    rintro _ H4_5 ⟨rfl, rfl⟩
    refine Reg.pur rfl rfl rfl rfl (Pur.eql rfl rfl) ?_
    refine Reg.pur rfl rfl rfl rfl (Pur.mv rfl) ?_
    refine Reg.known (b' := true) 42 rfl (by rfl) ?_
    refine Reg.gpur rfl rfl rfl rfl rfl rfl (Pur.mv rfl) ?_
    refine Reg.gpur rfl rfl rfl rfl rfl rfl (Pur.lenS isl25 rfl) ?_
    refine Reg.gpur rfl rfl rfl rfl rfl rfl (Pur.eql rfl rfl) ?_
    refine Reg.pur rfl rfl rfl rfl (Pur.pickT rfl rfl) ?_
    refine Reg.pur rfl rfl rfl rfl (Pur.asg rfl) ?_
    refine Reg.nil ?_
    refine At.ret rfl Tryd.func4 rfl ?_
    exact ⟨rfl, hE⟩
  first | (simp only [decide_eq_true_eq, decide_eq_false_iff_not, Bool.not_eq_true', Bool.not_eq_false', ne_eq, Decidable.not_not, Bool.not_eq_true, Bool.not_eq_false] at q29) | (dsimp only at q29) | skip
  refine Reg.gpur rfl rfl rfl rfl rfl rfl (Pur.fld _ fo24_1 rfl) ?_
  refine Reg.glod rfl rfl rfl rfl rfl rfl (Lod.ld sc3 rfl o0_0.blk (hat4 a ha)) ?_
  refine Reg.gpur rfl rfl rfl rfl rfl rfl (Pur.geq rfl rfl) ?_
  refine Reg.pur rfl rfl rfl rfl (Pur.pickF rfl rfl) ?_
  refine Reg.pur rfl rfl rfl rfl (Pur.mv rfl) ?_
  refine Reg.case 34 rfl (fun q34 => ?_) (fun q34 => ?_)
  · first | (simp only [decide_eq_true_eq, decide_eq_false_iff_not, Bool.not_eq_true', Bool.not_eq_false', ne_eq, Decidable.not_not, Bool.not_eq_true, Bool.not_eq_false] at q34) | (dsimp only at q34) | skip
    refine Reg.skip rfl rfl rfl rfl rfl rfl rfl ?_
    refine Reg.skip rfl rfl rfl rfl rfl rfl rfl ?_
    refine Reg.skip rfl rfl rfl rfl rfl rfl rfl ?_
    refine Reg.pur rfl rfl rfl rfl (Pur.pickT rfl rfl) ?_
    refine Reg.nil ?_
    refine At.condT rfl rfl rfl ?_
    have hno : uniR a b 4095 = ([], 800) := uniR_no (fun k => by obtain ⟨k1, k2, _, _, k5, k6⟩ := k; simp_all; try omega)
    rw [hno]
    refine At.region rfl rfl ?_
    refine Reg.pur rfl rfl rfl rfl (Pur.mv rfl) ?_
    refine Reg.op rfl rfl rfl rfl (Does.call rfl (numE_ok _ _)) ?_
    rintro _ H4_5 ⟨rfl, rfl⟩
    refine Reg.pur rfl rfl rfl rfl (Pur.eql rfl rfl) ?_
    refine Reg.pur rfl rfl rfl rfl (Pur.mv rfl) ?_
    refine Reg.known (b' := true) 42 rfl (by rfl) ?_
    refine Reg.gpur rfl rfl rfl rfl rfl rfl (Pur.mv rfl) ?_
    refine Reg.gpur rfl rfl rfl rfl rfl rfl (Pur.lenS isl25 rfl) ?_
    refine Reg.gpur rfl rfl rfl rfl rfl rfl (Pur.eql rfl rfl) ?_
    refine Reg.pur rfl rfl rfl rfl (Pur.pickT rfl rfl) ?_
    refine Reg.pur rfl rfl rfl rfl (Pur.asg rfl) ?_
    refine Reg.nil ?_
    refine At.ret rfl Tryd.func4 rfl ?_
    exact ⟨rfl, hE⟩
  first | (simp only [decide_eq_true_eq, decide_eq_false_iff_not, Bool.not_eq_true', Bool.not_eq_false', ne_eq, Decidable.not_not, Bool.not_eq_true, Bool.not_eq_false] at q34) | (dsimp only at q34) | skip
  refine Reg.gpur rfl rfl rfl rfl rfl rfl (Pur.fld _ fo24_1 rfl) ?_
  refine Reg.glod rfl rfl rfl rfl rfl rfl (Lod.ld sc3 rfl o0_1.blk (hat4 b hb)) ?_
  refine Reg.gpur rfl rfl rfl rfl rfl rfl (Pur.geq rfl rfl) ?_
  refine Reg.pur rfl rfl rfl rfl (Pur.pickF rfl rfl) ?_
  refine Reg.nil ?_
  refine At.cond rfl rfl (fun q38 => ?_) (fun q38 => ?_)
  · first | (simp only [decide_eq_true_eq, decide_eq_false_iff_not, Bool.not_eq_true', Bool.not_eq_false', ne_eq, Decidable.not_not, Bool.not_eq_true, Bool.not_eq_false] at q38) | (dsimp only at q38) | skip
    have hno : uniR a b 4095 = ([], 800) := uniR_no (fun k => by obtain ⟨k1, k2, _, _, k5, k6⟩ := k; simp_all; try omega)
    rw [hno]
    refine At.region rfl rfl ?_
    refine Reg.pur rfl rfl rfl rfl (Pur.mv rfl) ?_
    refine Reg.op rfl rfl rfl rfl (Does.call rfl (numE_ok _ _)) ?_
    rintro _ H4_5 ⟨rfl, rfl⟩
    refine Reg.pur rfl rfl rfl rfl (Pur.eql rfl rfl) ?_
    refine Reg.pur rfl rfl rfl rfl (Pur.mv rfl) ?_
    refine Reg.known (b' := true) 42 rfl (by rfl) ?_
    refine Reg.gpur rfl rfl rfl rfl rfl rfl (Pur.mv rfl) ?_
    refine Reg.gpur rfl rfl rfl rfl rfl rfl (Pur.lenS isl25 rfl) ?_
    refine Reg.gpur rfl rfl rfl rfl rfl rfl (Pur.eql rfl rfl) ?_
    refine Reg.pur rfl rfl rfl rfl (Pur.pickT rfl rfl) ?_
    refine Reg.pur rfl rfl rfl rfl (Pur.asg rfl) ?_
    refine Reg.nil ?_
    refine At.ret rfl Tryd.func4 rfl ?_
    exact ⟨rfl, hE⟩
  first | (simp only [decide_eq_true_eq, decide_eq_false_iff_not, Bool.not_eq_true', Bool.not_eq_false', ne_eq, Decidable.not_not, Bool.not_eq_true, Bool.not_eq_false] at q38) | (dsimp only at q38) | skip
  refine At.region rfl rfl ?_
  refine Reg.pur rfl rfl rfl rfl (Pur.asg rfl) ?_
  refine Reg.pur rfl rfl rfl rfl (Pur.asg rfl) ?_
  refine Reg.nil ?_
  refine At.region rfl rfl ?_
  refine Reg.pur rfl rfl rfl rfl (Pur.asg rfl) ?_
  refine Reg.nil ?_
  have tla := rowM_t q24
  have tlb := rowM_t q29
  refine At.loop (σ := Nat) (fun i => [(9, I i), (7, .bool (moreTo a b i)), (8, .bool (moreTo b a i)), (5, .slice A1 (uniR a b 4095).1.length k1), (6, I (uniR a b 4095).2), (2, ptr H.size 0), (3, ptr H0_0.size 0)]) (fun i H' => i ≤ 4 ∧ Own H' H.size (Is a) ∧ Own H' H0_0.size (Is b) ∧ Ext H H' ∧ Ext H3_2 H') (fun i => 4 - i) 0 rfl ⟨rfl, rfl, rfl, rfl, rfl, rfl, rfl, trivial⟩ ⟨by omega, o0_0, o0_1, hE, hX1⟩ ?_
  clear o0_0 o0_1 hE hX1
  rintro i H5 ⟨hi, o0_0, o0_1, hE, hX1⟩ ih
  have z_hE := hE.lt
  have z_hX1 := hX1.lt
  have z_o0_0 := o0_0.lt
  have z_o0_1 := o0_1.lt
  refine At.region rfl rfl ?_
  refine Reg.pur rfl rfl rfl rfl (Pur.mv rfl) ?_
  refine Reg.pur rfl rfl rfl rfl (Pur.lss rfl rfl) ?_
  refine Reg.nil ?_
  refine At.cond rfl rfl (fun q48 => ?_) (fun q48 => ?_)
  · first | (simp only [decide_eq_true_eq, decide_eq_false_iff_not, Bool.not_eq_true', Bool.not_eq_false', ne_eq, Decidable.not_not, Bool.not_eq_true, Bool.not_eq_false] at q48) | (dsimp only at q48) | skip
    have hai : (Is a)[0 + 0 + (i : Int).toNat * 1]? = some (I (a.getD i 0)) := by rw [show 0 + 0 + (i : Int).toNat * 1 = i from by omega]; exact at_Is (by omega)
    have hbi : (Is b)[0 + 0 + (i : Int).toNat * 1]? = some (I (b.getD i 0)) := by rw [show 0 + 0 + (i : Int).toNat * 1 = i from by omega]; exact at_Is (by omega)
    have hm1 := moreTo_succ a b i
    have hm2 := moreTo_succ b a i
    refine At.drawE ((Bks.cons o0_0.blk (Bks.cons o0_1.blk Bks.nil))) [] mixed rfl rfl ?_
    refine RegD.tpur (i := 0) rfl rfl rfl rfl (by kernel_rfl) (Pur.mv rfl) ?_
    refine RegD.tpur (i := 1) rfl rfl rfl rfl (by kernel_rfl) (Pur.mv rfl) ?_
    refine RegD.case 52 rfl (fun q52 => ?_) (fun q52 => ?_)
    · first | (simp only [decide_eq_true_eq, decide_eq_false_iff_not, Bool.not_eq_true', Bool.not_eq_false', ne_eq, Decidable.not_not, Bool.not_eq_true, Bool.not_eq_false] at q52) | (dsimp only at q52) | skip
      refine RegD.skip (i := 2) rfl rfl rfl rfl rfl rfl rfl (by kernel_rfl) ?_
      refine RegD.skip (i := 3) rfl rfl rfl rfl rfl rfl rfl (by kernel_rfl) ?_
      refine RegD.skip (i := 4) rfl rfl rfl rfl rfl rfl rfl (by kernel_rfl) ?_
      refine RegD.skip (i := 5) rfl rfl rfl rfl rfl rfl rfl (by kernel_rfl) ?_
      refine RegD.skip (i := 6) rfl rfl rfl rfl rfl rfl rfl (by kernel_rfl) ?_
      refine RegD.skip (i := 7) rfl rfl rfl rfl rfl rfl rfl (by kernel_rfl) ?_
      refine RegD.skip (i := 8) rfl rfl rfl rfl rfl rfl rfl (by kernel_rfl) ?_
      refine RegD.skip (i := 9) rfl rfl rfl rfl rfl rfl rfl (by kernel_rfl) ?_
      refine RegD.skip (i := 10) rfl rfl rfl rfl rfl rfl rfl (by kernel_rfl) ?_
      refine RegD.tpur (i := 11) rfl rfl rfl rfl (by kernel_rfl) (Pur.pickT rfl rfl) ?_
      refine RegD.tpur (i := 12) rfl rfl rfl rfl (by kernel_rfl) (Pur.asg rfl) ?_
      refine RegD.done (by kernel_rfl) ?_
      refine At.drawE ((Bks.cons o0_0.blk (Bks.cons o0_1.blk Bks.nil))) [] mixed rfl rfl ?_
      refine RegD.tpur (i := 0) rfl rfl rfl rfl (by kernel_rfl) (Pur.mv rfl) ?_
      refine RegD.tpur (i := 1) rfl rfl rfl rfl (by kernel_rfl) (Pur.mv rfl) ?_
      refine RegD.case 64 rfl (fun q64 => ?_) (fun q64 => ?_)
      · first | (simp only [decide_eq_true_eq, decide_eq_false_iff_not, Bool.not_eq_true', Bool.not_eq_false', ne_eq, Decidable.not_not, Bool.not_eq_true, Bool.not_eq_false] at q64) | (dsimp only at q64) | skip
        refine RegD.skip (i := 2) rfl rfl rfl rfl rfl rfl rfl (by kernel_rfl) ?_
        refine RegD.skip (i := 3) rfl rfl rfl rfl rfl rfl rfl (by kernel_rfl) ?_
        refine RegD.skip (i := 4) rfl rfl rfl rfl rfl rfl rfl (by kernel_rfl) ?_
        refine RegD.skip (i := 5) rfl rfl rfl rfl rfl rfl rfl (by kernel_rfl) ?_
        refine RegD.skip (i := 6) rfl rfl rfl rfl rfl rfl rfl (by kernel_rfl) ?_
        refine RegD.skip (i := 7) rfl rfl rfl rfl rfl rfl rfl (by kernel_rfl) ?_
        refine RegD.skip (i := 8) rfl rfl rfl rfl rfl rfl rfl (by kernel_rfl) ?_
        refine RegD.skip (i := 9) rfl rfl rfl rfl rfl rfl rfl (by kernel_rfl) ?_
        refine RegD.skip (i := 10) rfl rfl rfl rfl rfl rfl rfl (by kernel_rfl) ?_
        refine RegD.tpur (i := 11) rfl rfl rfl rfl (by kernel_rfl) (Pur.pickT rfl rfl) ?_
        refine RegD.tpur (i := 12) rfl rfl rfl rfl (by kernel_rfl) (Pur.asg rfl) ?_
        refine RegD.done (by kernel_rfl) ?_
        refine At.region rfl rfl ?_
        refine Reg.pur rfl rfl rfl rfl (Pur.mv rfl) ?_
        first | refine Reg.pur rfl rfl rfl rfl (Pur.add64 rfl rfl (by omega)) ?_ | refine Reg.pur rfl rfl rfl rfl (Pur.add64 rfl rfl (by assumption)) ?_ | refine Reg.pur rfl rfl rfl rfl (Pur.add rfl rfl) ?_
        refine Reg.pur rfl rfl rfl rfl (Pur.asg rfl) ?_
        refine Reg.nil ?_
        first | rw [q52, Bool.true_or] at hm1 | rw [q52, Bool.false_or] at hm1
        first | rw [q64, Bool.true_or] at hm2 | rw [q64, Bool.false_or] at hm2
        exact At.meets rfl (ih (i + 1) _ ⟨by omega, o0_0, o0_1, hE, hX1⟩ (by omega)) ⟨rfl, by (show some (Value.bool _) = _); rw [hm1], by (show some (Value.bool _) = _); rw [hm2], rfl, rfl, rfl, rfl, trivial⟩
      first | (simp only [decide_eq_true_eq, decide_eq_false_iff_not, Bool.not_eq_true', Bool.not_eq_false', ne_eq, Decidable.not_not, Bool.not_eq_true, Bool.not_eq_false] at q64) | (dsimp only at q64) | skip
      refine RegD.gtpur (i := 2) rfl rfl rfl rfl rfl rfl (by kernel_rfl) (Pur.mv rfl) ?_
      refine RegD.gtpur (i := 3) rfl rfl rfl rfl rfl rfl (by kernel_rfl) (Pur.fld _ fo24_0 rfl) ?_
      refine RegD.gtpur (i := 4) rfl rfl rfl rfl rfl rfl (by kernel_rfl) (Pur.idxP arr22 rfl rfl (by omega) (by omega)) ?_
      refine RegD.gtake (i := 5) rfl rfl rfl rfl rfl rfl (by kernel_rfl) (Bks.cons o0_0.blk (Bks.cons o0_1.blk Bks.nil)) (fun H hS => Lod.ld sc3 rfl hS.tl.hd hbi) ?_
      refine RegD.gtpur (i := 6) rfl rfl rfl rfl rfl rfl (by kernel_rfl) (Pur.mv rfl) ?_
      refine RegD.gtpur (i := 7) rfl rfl rfl rfl rfl rfl (by kernel_rfl) (Pur.fld _ fo24_0 rfl) ?_
      refine RegD.gtpur (i := 8) rfl rfl rfl rfl rfl rfl (by kernel_rfl) (Pur.idxP arr22 rfl rfl (by omega) (by omega)) ?_
      refine RegD.gtake (i := 9) rfl rfl rfl rfl rfl rfl (by kernel_rfl) (Bks.cons o0_0.blk (Bks.cons o0_1.blk Bks.nil)) (fun H hS => Lod.ld sc3 rfl hS.hd hai) ?_
      refine RegD.gtpur (i := 10) rfl rfl rfl rfl rfl rfl (by kernel_rfl) (Pur.gtr rfl rfl) ?_
      refine RegD.tpur (i := 11) rfl rfl rfl rfl (by kernel_rfl) (Pur.pickF rfl rfl) ?_
      refine RegD.tpur (i := 12) rfl rfl rfl rfl (by kernel_rfl) (Pur.asg rfl) ?_
      refine RegD.done (by kernel_rfl) ?_
      refine At.region rfl rfl ?_
      refine Reg.pur rfl rfl rfl rfl (Pur.mv rfl) ?_
      first | refine Reg.pur rfl rfl rfl rfl (Pur.add64 rfl rfl (by omega)) ?_ | refine Reg.pur rfl rfl rfl rfl (Pur.add64 rfl rfl (by assumption)) ?_ | refine Reg.pur rfl rfl rfl rfl (Pur.add rfl rfl) ?_
      refine Reg.pur rfl rfl rfl rfl (Pur.asg rfl) ?_
      refine Reg.nil ?_
      first | rw [q52, Bool.true_or] at hm1 | rw [q52, Bool.false_or] at hm1
      first | rw [q64, Bool.true_or] at hm2 | rw [q64, Bool.false_or] at hm2
      exact At.meets rfl (ih (i + 1) _ ⟨by omega, o0_0, o0_1, hE, hX1⟩ (by omega)) ⟨rfl, by (show some (Value.bool _) = _); rw [hm1], by (show some (Value.bool _) = _); rw [hm2], rfl, rfl, rfl, rfl, trivial⟩
    first | (simp only [decide_eq_true_eq, decide_eq_false_iff_not, Bool.not_eq_true', Bool.not_eq_false', ne_eq, Decidable.not_not, Bool.not_eq_true, Bool.not_eq_false] at q52) | (dsimp only at q52) | skip
    refine RegD.gtpur (i := 2) rfl rfl rfl rfl rfl rfl (by kernel_rfl) (Pur.mv rfl) ?_
    refine RegD.gtpur (i := 3) rfl rfl rfl rfl rfl rfl (by kernel_rfl) (Pur.fld _ fo24_0 rfl) ?_
    refine RegD.gtpur (i := 4) rfl rfl rfl rfl rfl rfl (by kernel_rfl) (Pur.idxP arr22 rfl rfl (by omega) (by omega)) ?_
    refine RegD.gtake (i := 5) rfl rfl rfl rfl rfl rfl (by kernel_rfl) (Bks.cons o0_0.blk (Bks.cons o0_1.blk Bks.nil)) (fun H hS => Lod.ld sc3 rfl hS.hd hai) ?_
    refine RegD.gtpur (i := 6) rfl rfl rfl rfl rfl rfl (by kernel_rfl) (Pur.mv rfl) ?_
    refine RegD.gtpur (i := 7) rfl rfl rfl rfl rfl rfl (by kernel_rfl) (Pur.fld _ fo24_0 rfl) ?_
    refine RegD.gtpur (i := 8) rfl rfl rfl rfl rfl rfl (by kernel_rfl) (Pur.idxP arr22 rfl rfl (by omega) (by omega)) ?_
    refine RegD.gtake (i := 9) rfl rfl rfl rfl rfl rfl (by kernel_rfl) (Bks.cons o0_0.blk (Bks.cons o0_1.blk Bks.nil)) (fun H hS => Lod.ld sc3 rfl hS.tl.hd hbi) ?_
    refine RegD.gtpur (i := 10) rfl rfl rfl rfl rfl rfl (by kernel_rfl) (Pur.gtr rfl rfl) ?_
    refine RegD.tpur (i := 11) rfl rfl rfl rfl (by kernel_rfl) (Pur.pickF rfl rfl) ?_
    refine RegD.tpur (i := 12) rfl rfl rfl rfl (by kernel_rfl) (Pur.asg rfl) ?_
    refine RegD.done (by kernel_rfl) ?_
    refine At.drawE ((Bks.cons o0_0.blk (Bks.cons o0_1.blk Bks.nil))) [] mixed rfl rfl ?_
    refine RegD.tpur (i := 0) rfl rfl rfl rfl (by kernel_rfl) (Pur.mv rfl) ?_
    refine RegD.tpur (i := 1) rfl rfl rfl rfl (by kernel_rfl) (Pur.mv rfl) ?_
    refine RegD.case 64 rfl (fun q64 => ?_) (fun q64 => ?_)
    · first | (simp only [decide_eq_true_eq, decide_eq_false_iff_not, Bool.not_eq_true', Bool.not_eq_false', ne_eq, Decidable.not_not, Bool.not_eq_true, Bool.not_eq_false] at q64) | (dsimp only at q64) | skip
      refine RegD.skip (i := 2) rfl rfl rfl rfl rfl rfl rfl (by kernel_rfl) ?_
      refine RegD.skip (i := 3) rfl rfl rfl rfl rfl rfl rfl (by kernel_rfl) ?_
      refine RegD.skip (i := 4) rfl rfl rfl rfl rfl rfl rfl (by kernel_rfl) ?_
      refine RegD.skip (i := 5) rfl rfl rfl rfl rfl rfl rfl (by kernel_rfl) ?_
      refine RegD.skip (i := 6) rfl rfl rfl rfl rfl rfl rfl (by kernel_rfl) ?_
      refine RegD.skip (i := 7) rfl rfl rfl rfl rfl rfl rfl (by kernel_rfl) ?_
      refine RegD.skip (i := 8) rfl rfl rfl rfl rfl rfl rfl (by kernel_rfl) ?_
      refine RegD.skip (i := 9) rfl rfl rfl rfl rfl rfl rfl (by kernel_rfl) ?_
      refine RegD.skip (i := 10) rfl rfl rfl rfl rfl rfl rfl (by kernel_rfl) ?_
      refine RegD.tpur (i := 11) rfl rfl rfl rfl (by kernel_rfl) (Pur.pickT rfl rfl) ?_
      refine RegD.tpur (i := 12) rfl rfl rfl rfl (by kernel_rfl) (Pur.asg rfl) ?_
      refine RegD.done (by kernel_rfl) ?_
      refine At.region rfl rfl ?_
      refine Reg.pur rfl rfl rfl rfl (Pur.mv rfl) ?_
      first | refine Reg.pur rfl rfl rfl rfl (Pur.add64 rfl rfl (by omega)) ?_ | refine Reg.pur rfl rfl rfl rfl (Pur.add64 rfl rfl (by assumption)) ?_ | refine Reg.pur rfl rfl rfl rfl (Pur.add rfl rfl) ?_
      refine Reg.pur rfl rfl rfl rfl (Pur.asg rfl) ?_
      refine Reg.nil ?_
      first | rw [q52, Bool.true_or] at hm1 | rw [q52, Bool.false_or] at hm1
      first | rw [q64, Bool.true_or] at hm2 | rw [q64, Bool.false_or] at hm2
      exact At.meets rfl (ih (i + 1) _ ⟨by omega, o0_0, o0_1, hE, hX1⟩ (by omega)) ⟨rfl, by (show some (Value.bool _) = _); rw [hm1], by (show some (Value.bool _) = _); rw [hm2], rfl, rfl, rfl, rfl, trivial⟩
    first | (simp only [decide_eq_true_eq, decide_eq_false_iff_not, Bool.not_eq_true', Bool.not_eq_false', ne_eq, Decidable.not_not, Bool.not_eq_true, Bool.not_eq_false] at q64) | (dsimp only at q64) | skip
    refine RegD.gtpur (i := 2) rfl rfl rfl rfl rfl rfl (by kernel_rfl) (Pur.mv rfl) ?_
    refine RegD.gtpur (i := 3) rfl rfl rfl rfl rfl rfl (by kernel_rfl) (Pur.fld _ fo24_0 rfl) ?_
    refine RegD.gtpur (i := 4) rfl rfl rfl rfl rfl rfl (by kernel_rfl) (Pur.idxP arr22 rfl rfl (by omega) (by omega)) ?_
    refine RegD.gtake (i := 5) rfl rfl rfl rfl rfl rfl (by kernel_rfl) (Bks.cons o0_0.blk (Bks.cons o0_1.blk Bks.nil)) (fun H hS => Lod.ld sc3 rfl hS.tl.hd hbi) ?_
    refine RegD.gtpur (i := 6) rfl rfl rfl rfl rfl rfl (by kernel_rfl) (Pur.mv rfl) ?_
    refine RegD.gtpur (i := 7) rfl rfl rfl rfl rfl rfl (by kernel_rfl) (Pur.fld _ fo24_0 rfl) ?_
    refine RegD.gtpur (i := 8) rfl rfl rfl rfl rfl rfl (by kernel_rfl) (Pur.idxP arr22 rfl rfl (by omega) (by omega)) ?_
    refine RegD.gtake (i := 9) rfl rfl rfl rfl rfl rfl (by kernel_rfl) (Bks.cons o0_0.blk (Bks.cons o0_1.blk Bks.nil)) (fun H hS => Lod.ld sc3 rfl hS.hd hai) ?_
    refine RegD.gtpur (i := 10) rfl rfl rfl rfl rfl rfl (by kernel_rfl) (Pur.gtr rfl rfl) ?_
    refine RegD.tpur (i := 11) rfl rfl rfl rfl (by kernel_rfl) (Pur.pickF rfl rfl) ?_
    refine RegD.tpur (i := 12) rfl rfl rfl rfl (by kernel_rfl) (Pur.asg rfl) ?_
    refine RegD.done (by kernel_rfl) ?_
    refine At.region rfl rfl ?_
    refine Reg.pur rfl rfl rfl rfl (Pur.mv rfl) ?_
    first | refine Reg.pur rfl rfl rfl rfl (Pur.add64 rfl rfl (by omega)) ?_ | refine Reg.pur rfl rfl rfl rfl (Pur.add64 rfl rfl (by assumption)) ?_ | refine Reg.pur rfl rfl rfl rfl (Pur.add rfl rfl) ?_
    refine Reg.pur rfl rfl rfl rfl (Pur.asg rfl) ?_
    refine Reg.nil ?_
    first | rw [q52, Bool.true_or] at hm1 | rw [q52, Bool.false_or] at hm1
    first | rw [q64, Bool.true_or] at hm2 | rw [q64, Bool.false_or] at hm2
    exact At.meets rfl (ih (i + 1) _ ⟨by omega, o0_0, o0_1, hE, hX1⟩ (by omega)) ⟨rfl, by (show some (Value.bool _) = _); rw [hm1], by (show some (Value.bool _) = _); rw [hm2], rfl, rfl, rfl, rfl, trivial⟩
  first | (simp only [decide_eq_true_eq, decide_eq_false_iff_not, Bool.not_eq_true', Bool.not_eq_false', ne_eq, Decidable.not_not, Bool.not_eq_true, Bool.not_eq_false] at q48) | (dsimp only at q48) | skip
  obtain rfl : i = 4 := by omega
  refine At.regJ (σ := Bool) (fun x => [(10, .bool x), (5, .slice A1 (uniR a b 4095).1.length k1), (6, I (uniR a b 4095).2), (2, ptr H.size 0), (3, ptr H0_0.size 0)]) (fun x H' => (x = true → refd a b) ∧ (x = false → ¬ refd a b) ∧ Own H' H.size (Is a) ∧ Own H' H0_0.size (Is b) ∧ Ext H H' ∧ Ext H3_2 H') rfl rfl ?_ (fun s H_r12 hs => ?_)
  · refine Reg.pur rfl rfl rfl rfl (Pur.fld _ fo24_1 rfl) ?_
    refine Reg.lod rfl rfl rfl rfl (Lod.ld sc3 rfl o0_0.blk (hat4 a ha)) ?_
    refine Reg.pur rfl rfl rfl rfl (Pur.fld _ fo24_1 rfl) ?_
    refine Reg.lod rfl rfl rfl rfl (Lod.ld sc3 rfl o0_1.blk (hat4 b hb)) ?_
    refine Reg.pur rfl rfl rfl rfl (Pur.eql rfl rfl) ?_
    refine Reg.pur rfl rfl rfl rfl (Pur.mv rfl) ?_
    refine Reg.case 80 rfl (fun q80 => ?_) (fun q80 => ?_)
    · first | (simp only [decide_eq_true_eq, decide_eq_false_iff_not, Bool.not_eq_true', Bool.not_eq_false', ne_eq, Decidable.not_not, Bool.not_eq_true, Bool.not_eq_false] at q80) | (dsimp only at q80) | skip
      refine Reg.gpur rfl rfl rfl rfl rfl rfl (Pur.mv rfl) ?_
      refine Reg.gpur rfl rfl rfl rfl rfl rfl (Pur.mv rfl) ?_
      refine Reg.case 82 rfl (fun q82 => ?_) (fun q82 => ?_)
      · first | (simp only [decide_eq_true_eq, decide_eq_false_iff_not, Bool.not_eq_true', Bool.not_eq_false', ne_eq, Decidable.not_not, Bool.not_eq_true, Bool.not_eq_false] at q82) | (dsimp only at q82) | skip
        refine Reg.skip rfl rfl rfl rfl rfl rfl rfl ?_
        refine Reg.gpur rfl rfl rfl rfl rfl rfl (Pur.pickT rfl rfl) ?_
        refine Reg.pur rfl rfl rfl rfl (Pur.pickT rfl rfl) ?_
        refine Reg.pur rfl rfl rfl rfl (Pur.mv rfl) ?_
        refine Reg.skip rfl rfl rfl rfl rfl rfl rfl ?_
        refine Reg.skip rfl rfl rfl rfl rfl rfl rfl ?_
        refine Reg.skipU rfl rfl rfl rfl rfl rfl ?_
        refine Reg.skipU rfl rfl rfl rfl rfl rfl ?_
        refine Reg.skipU rfl rfl rfl rfl rfl rfl ?_
        refine Reg.skip rfl rfl rfl rfl rfl rfl rfl ?_
        refine Reg.pur rfl rfl rfl rfl (Pur.pickT rfl rfl) ?_
        refine Reg.pur rfl rfl rfl rfl (Pur.mv rfl) ?_
        refine Reg.skip rfl rfl rfl rfl rfl rfl rfl ?_
        refine Reg.skip rfl rfl rfl rfl rfl rfl rfl ?_
        refine Reg.skipU rfl rfl rfl rfl rfl rfl ?_
        refine Reg.skipU rfl rfl rfl rfl rfl rfl ?_
        refine Reg.skipU rfl rfl rfl rfl rfl rfl ?_
        refine Reg.skip rfl rfl rfl rfl rfl rfl rfl ?_
        refine Reg.pur rfl rfl rfl rfl (Pur.pickT rfl rfl) ?_
        refine Reg.pur rfl rfl rfl rfl (Pur.asg rfl) ?_
        refine Reg.nil ?_
        refine ⟨_, ⟨?_, ?_, o0_0, o0_1, hE, hX1⟩, ⟨rfl, rfl, rfl, rfl, rfl, trivial⟩⟩
        · intro hx; unfold refd; simp only [moreC]; simp_all; try omega
        · intro hx; unfold refd; simp only [moreC]; simp_all; try omega
      first | (simp only [decide_eq_true_eq, decide_eq_false_iff_not, Bool.not_eq_true', Bool.not_eq_false', ne_eq, Decidable.not_not, Bool.not_eq_true, Bool.not_eq_false] at q82) | (dsimp only at q82) | skip
      refine Reg.gpur rfl rfl rfl rfl rfl rfl (Pur.mv rfl) ?_
      refine Reg.gpur rfl rfl rfl rfl rfl rfl (Pur.pickF rfl rfl) ?_
      refine Reg.pur rfl rfl rfl rfl (Pur.pickT rfl rfl) ?_
      refine Reg.pur rfl rfl rfl rfl (Pur.mv rfl) ?_
      refine Reg.case 86 rfl (fun q86 => ?_) (fun q86 => ?_)
      · first | (simp only [decide_eq_true_eq, decide_eq_false_iff_not, Bool.not_eq_true', Bool.not_eq_false', ne_eq, Decidable.not_not, Bool.not_eq_true, Bool.not_eq_false] at q86) | (dsimp only at q86) | skip
        refine Reg.skip rfl rfl rfl rfl rfl rfl rfl ?_
        refine Reg.skip rfl rfl rfl rfl rfl rfl rfl ?_
        refine Reg.skipU rfl rfl rfl rfl rfl rfl ?_
        refine Reg.skipU rfl rfl rfl rfl rfl rfl ?_
        refine Reg.skipU rfl rfl rfl rfl rfl rfl ?_
        refine Reg.skip rfl rfl rfl rfl rfl rfl rfl ?_
        refine Reg.pur rfl rfl rfl rfl (Pur.pickT rfl rfl) ?_
        refine Reg.pur rfl rfl rfl rfl (Pur.mv rfl) ?_
        refine Reg.skip rfl rfl rfl rfl rfl rfl rfl ?_
        refine Reg.skip rfl rfl rfl rfl rfl rfl rfl ?_
        refine Reg.skipU rfl rfl rfl rfl rfl rfl ?_
        refine Reg.skipU rfl rfl rfl rfl rfl rfl ?_
        refine Reg.skipU rfl rfl rfl rfl rfl rfl ?_
        refine Reg.skip rfl rfl rfl rfl rfl rfl rfl ?_
        refine Reg.pur rfl rfl rfl rfl (Pur.pickT rfl rfl) ?_
        refine Reg.pur rfl rfl rfl rfl (Pur.asg rfl) ?_
        refine Reg.nil ?_
        refine ⟨_, ⟨?_, ?_, o0_0, o0_1, hE, hX1⟩, ⟨rfl, rfl, rfl, rfl, rfl, trivial⟩⟩
        · intro hx; unfold refd; simp only [moreC]; simp_all; try omega
        · intro hx; unfold refd; simp only [moreC]; simp_all; try omega
      first | (simp only [decide_eq_true_eq, decide_eq_false_iff_not, Bool.not_eq_true', Bool.not_eq_false', ne_eq, Decidable.not_not, Bool.not_eq_true, Bool.not_eq_false] at q86) | (dsimp only at q86) | skip
      refine Reg.gpur rfl rfl rfl rfl rfl rfl (Pur.mv rfl) ?_
      refine Reg.gpur rfl rfl rfl rfl rfl rfl (Pur.mv rfl) ?_
      refine Reg.known (b' := false) 88 rfl (by first | exact q82 | exact decide_eq_true q82 | exact decide_eq_false q82 | simpa using q82) ?_
      refine Reg.skip rfl rfl rfl rfl rfl rfl rfl ?_
      refine Reg.skip rfl rfl rfl rfl rfl rfl rfl ?_
      refine Reg.skip rfl rfl rfl rfl rfl rfl rfl ?_
      refine Reg.gpur rfl rfl rfl rfl rfl rfl (Pur.pickF rfl rfl) ?_
      refine Reg.pur rfl rfl rfl rfl (Pur.pickF rfl rfl) ?_
      refine Reg.pur rfl rfl rfl rfl (Pur.mv rfl) ?_
      refine Reg.gpur rfl rfl rfl rfl rfl rfl (Pur.mv rfl) ?_
      refine Reg.gpur rfl rfl rfl rfl rfl rfl (Pur.mv rfl) ?_
      refine Reg.known (b' := false) 96 rfl (by first | exact q86 | exact decide_eq_true q86 | exact decide_eq_false q86 | simpa using q86) ?_
      refine Reg.skip rfl rfl rfl rfl rfl rfl rfl ?_
      refine Reg.skip rfl rfl rfl rfl rfl rfl rfl ?_
      refine Reg.skip rfl rfl rfl rfl rfl rfl rfl ?_
      refine Reg.gpur rfl rfl rfl rfl rfl rfl (Pur.pickF rfl rfl) ?_
      refine Reg.pur rfl rfl rfl rfl (Pur.pickF rfl rfl) ?_
      refine Reg.pur rfl rfl rfl rfl (Pur.asg rfl) ?_
      refine Reg.nil ?_
      refine ⟨_, ⟨?_, ?_, o0_0, o0_1, hE, hX1⟩, ⟨rfl, rfl, rfl, rfl, rfl, trivial⟩⟩
      · intro hx; unfold refd; simp only [moreC]; simp_all; try omega
      · intro hx; unfold refd; simp only [moreC]; simp_all; try omega
    first | (simp only [decide_eq_true_eq, decide_eq_false_iff_not, Bool.not_eq_true', Bool.not_eq_false', ne_eq, Decidable.not_not, Bool.not_eq_true, Bool.not_eq_false] at q80) | (dsimp only at q80) | skip
    refine Reg.skip rfl rfl rfl rfl rfl rfl rfl ?_
    refine Reg.skip rfl rfl rfl rfl rfl rfl rfl ?_
    refine Reg.skipU rfl rfl rfl rfl rfl rfl ?_
    refine Reg.skip rfl rfl rfl rfl rfl rfl rfl ?_
    refine Reg.pur rfl rfl rfl rfl (Pur.pickF rfl rfl) ?_
    refine Reg.pur rfl rfl rfl rfl (Pur.mv rfl) ?_
    refine Reg.gpur rfl rfl rfl rfl rfl rfl (Pur.mv rfl) ?_
    refine Reg.gpur rfl rfl rfl rfl rfl rfl (Pur.mv rfl) ?_
    refine Reg.case 88 rfl (fun q88 => ?_) (fun q88 => ?_)
    · first | (simp only [decide_eq_true_eq, decide_eq_false_iff_not, Bool.not_eq_true', Bool.not_eq_false', ne_eq, Decidable.not_not, Bool.not_eq_true, Bool.not_eq_false] at q88) | (dsimp only at q88) | skip
      refine Reg.gpur rfl rfl rfl rfl rfl rfl (Pur.fld _ fo24_1 rfl) ?_
      refine Reg.glod rfl rfl rfl rfl rfl rfl (Lod.ld sc3 rfl o0_1.blk (hat4 b hb)) ?_
      refine Reg.gpur rfl rfl rfl rfl rfl rfl (Pur.lss rfl rfl) ?_
      refine Reg.gpur rfl rfl rfl rfl rfl rfl (Pur.pickT rfl rfl) ?_
      refine Reg.pur rfl rfl rfl rfl (Pur.pickF rfl rfl) ?_
      refine Reg.pur rfl rfl rfl rfl (Pur.mv rfl) ?_
      refine Reg.case 94 rfl (fun q94 => ?_) (fun q94 => ?_)
      · first | (simp only [decide_eq_true_eq, decide_eq_false_iff_not, Bool.not_eq_true', Bool.not_eq_false', ne_eq, Decidable.not_not, Bool.not_eq_true, Bool.not_eq_false] at q94) | (dsimp only at q94) | skip
        refine Reg.skip rfl rfl rfl rfl rfl rfl rfl ?_
        refine Reg.skip rfl rfl rfl rfl rfl rfl rfl ?_
        refine Reg.skipU rfl rfl rfl rfl rfl rfl ?_
        refine Reg.skipU rfl rfl rfl rfl rfl rfl ?_
        refine Reg.skipU rfl rfl rfl rfl rfl rfl ?_
        refine Reg.skip rfl rfl rfl rfl rfl rfl rfl ?_
        refine Reg.pur rfl rfl rfl rfl (Pur.pickT rfl rfl) ?_
        refine Reg.pur rfl rfl rfl rfl (Pur.asg rfl) ?_
        refine Reg.nil ?_
        refine ⟨_, ⟨?_, ?_, o0_0, o0_1, hE, hX1⟩, ⟨rfl, rfl, rfl, rfl, rfl, trivial⟩⟩
        · intro hx; unfold refd; simp only [moreC]; simp_all; try omega
        · intro hx; unfold refd; simp only [moreC]; simp_all; try omega
      first | (simp only [decide_eq_true_eq, decide_eq_false_iff_not, Bool.not_eq_true', Bool.not_eq_false', ne_eq, Decidable.not_not, Bool.not_eq_true, Bool.not_eq_false] at q94) | (dsimp only at q94) | skip
      refine Reg.gpur rfl rfl rfl rfl rfl rfl (Pur.mv rfl) ?_
      refine Reg.gpur rfl rfl rfl rfl rfl rfl (Pur.mv rfl) ?_
      refine Reg.case 96 rfl (fun q96 => ?_) (fun q96 => ?_)
      · first | (simp only [decide_eq_true_eq, decide_eq_false_iff_not, Bool.not_eq_true', Bool.not_eq_false', ne_eq, Decidable.not_not, Bool.not_eq_true, Bool.not_eq_false] at q96) | (dsimp only at q96) | skip
        refine Reg.gpur rfl rfl rfl rfl rfl rfl (Pur.fld _ fo24_1 rfl) ?_
        refine Reg.glod rfl rfl rfl rfl rfl rfl (Lod.ld sc3 rfl o0_0.blk (hat4 a ha)) ?_
        refine Reg.gpur rfl rfl rfl rfl rfl rfl (Pur.lss rfl rfl) ?_
        refine Reg.gpur rfl rfl rfl rfl rfl rfl (Pur.pickT rfl rfl) ?_
        refine Reg.pur rfl rfl rfl rfl (Pur.pickF rfl rfl) ?_
        refine Reg.pur rfl rfl rfl rfl (Pur.asg rfl) ?_
        refine Reg.nil ?_
        refine ⟨_, ⟨?_, ?_, o0_0, o0_1, hE, hX1⟩, ⟨rfl, rfl, rfl, rfl, rfl, trivial⟩⟩
        · intro hx; unfold refd; simp only [moreC]; simp_all; try omega
        · intro hx; unfold refd; simp only [moreC]; simp_all; try omega
      first | (simp only [decide_eq_true_eq, decide_eq_false_iff_not, Bool.not_eq_true', Bool.not_eq_false', ne_eq, Decidable.not_not, Bool.not_eq_true, Bool.not_eq_false] at q96) | (dsimp only at q96) | skip
      refine Reg.skip rfl rfl rfl rfl rfl rfl rfl ?_
      refine Reg.skip rfl rfl rfl rfl rfl rfl rfl ?_
      refine Reg.skip rfl rfl rfl rfl rfl rfl rfl ?_
      refine Reg.gpur rfl rfl rfl rfl rfl rfl (Pur.pickF rfl rfl) ?_
      refine Reg.pur rfl rfl rfl rfl (Pur.pickF rfl rfl) ?_
      refine Reg.pur rfl rfl rfl rfl (Pur.asg rfl) ?_
      refine Reg.nil ?_
      refine ⟨_, ⟨?_, ?_, o0_0, o0_1, hE, hX1⟩, ⟨rfl, rfl, rfl, rfl, rfl, trivial⟩⟩
      · intro hx; unfold refd; simp only [moreC]; simp_all; try omega
      · intro hx; unfold refd; simp only [moreC]; simp_all; try omega
    first | (simp only [decide_eq_true_eq, decide_eq_false_iff_not, Bool.not_eq_true', Bool.not_eq_false', ne_eq, Decidable.not_not, Bool.not_eq_true, Bool.not_eq_false] at q88) | (dsimp only at q88) | skip
    refine Reg.skip rfl rfl rfl rfl rfl rfl rfl ?_
    refine Reg.skip rfl rfl rfl rfl rfl rfl rfl ?_
    refine Reg.skip rfl rfl rfl rfl rfl rfl rfl ?_
    refine Reg.gpur rfl rfl rfl rfl rfl rfl (Pur.pickF rfl rfl) ?_
    refine Reg.pur rfl rfl rfl rfl (Pur.pickF rfl rfl) ?_
    refine Reg.pur rfl rfl rfl rfl (Pur.mv rfl) ?_
    refine Reg.gpur rfl rfl rfl rfl rfl rfl (Pur.mv rfl) ?_
    refine Reg.gpur rfl rfl rfl rfl rfl rfl (Pur.mv rfl) ?_
    refine Reg.case 96 rfl (fun q96 => ?_) (fun q96 => ?_)
    · first | (simp only [decide_eq_true_eq, decide_eq_false_iff_not, Bool.not_eq_true', Bool.not_eq_false', ne_eq, Decidable.not_not, Bool.not_eq_true, Bool.not_eq_false] at q96) | (dsimp only at q96) | skip
      refine Reg.gpur rfl rfl rfl rfl rfl rfl (Pur.fld _ fo24_1 rfl) ?_
      refine Reg.glod rfl rfl rfl rfl rfl rfl (Lod.ld sc3 rfl o0_0.blk (hat4 a ha)) ?_
      refine Reg.gpur rfl rfl rfl rfl rfl rfl (Pur.lss rfl rfl) ?_
      refine Reg.gpur rfl rfl rfl rfl rfl rfl (Pur.pickT rfl rfl) ?_
      refine Reg.pur rfl rfl rfl rfl (Pur.pickF rfl rfl) ?_
      refine Reg.pur rfl rfl rfl rfl (Pur.asg rfl) ?_
      refine Reg.nil ?_
      refine ⟨_, ⟨?_, ?_, o0_0, o0_1, hE, hX1⟩, ⟨rfl, rfl, rfl, rfl, rfl, trivial⟩⟩
      · intro hx; unfold refd; simp only [moreC]; simp_all; try omega
      · intro hx; unfold refd; simp only [moreC]; simp_all; try omega
    first | (simp only [decide_eq_true_eq, decide_eq_false_iff_not, Bool.not_eq_true', Bool.not_eq_false', ne_eq, Decidable.not_not, Bool.not_eq_true, Bool.not_eq_false] at q96) | (dsimp only at q96) | skip
    refine Reg.skip rfl rfl rfl rfl rfl rfl rfl ?_
    refine Reg.skip rfl rfl rfl rfl rfl rfl rfl ?_
    refine Reg.skip rfl rfl rfl rfl rfl rfl rfl ?_
    refine Reg.gpur rfl rfl rfl rfl rfl rfl (Pur.pickF rfl rfl) ?_
    refine Reg.pur rfl rfl rfl rfl (Pur.pickF rfl rfl) ?_
    refine Reg.pur rfl rfl rfl rfl (Pur.asg rfl) ?_
    refine Reg.nil ?_
    refine ⟨_, ⟨?_, ?_, o0_0, o0_1, hE, hX1⟩, ⟨rfl, rfl, rfl, rfl, rfl, trivial⟩⟩
    · intro hx; unfold refd; simp only [moreC]; simp_all; try omega
    · intro hx; unfold refd; simp only [moreC]; simp_all; try omega
  clear o0_0 o0_1 hE hX1
  obtain ⟨hr1, hr2, o0_0, o0_1, hE, hX1⟩ := hs
  have z_hE := hE.lt
  have z_hX1 := hX1.lt
  have z_o0_0 := o0_0.lt
  have z_o0_1 := o0_1.lt
  refine At.region rfl rfl ?_
  refine Reg.pur rfl rfl rfl rfl (Pur.mv rfl) ?_
  refine Reg.nil ?_
  refine At.cond rfl rfl (fun q102 => ?_) (fun q102 => ?_)
  · first | (simp only [decide_eq_true_eq, decide_eq_false_iff_not, Bool.not_eq_true', Bool.not_eq_false', ne_eq, Decidable.not_not, Bool.not_eq_true, Bool.not_eq_false] at q102) | (dsimp only at q102) | skip
    have hno := sol_ref q24 q29 (by omega) (by omega) (hr1 q102)
    rw [hno]
    refine At.region rfl rfl ?_
    refine Reg.pur rfl rfl rfl rfl (Pur.mv rfl) ?_
    refine Reg.op rfl rfl rfl rfl (Does.call rfl (numE_ok _ _)) ?_
    rintro _ H_r12 ⟨rfl, rfl⟩
    refine Reg.pur rfl rfl rfl rfl (Pur.eql rfl rfl) ?_
    refine Reg.pur rfl rfl rfl rfl (Pur.mv rfl) ?_
    refine Reg.known (b' := true) 106 rfl (by rfl) ?_
    refine Reg.gpur rfl rfl rfl rfl rfl rfl (Pur.mv rfl) ?_
    refine Reg.gpur rfl rfl rfl rfl rfl rfl (Pur.lenS isl25 rfl) ?_
    refine Reg.gpur rfl rfl rfl rfl rfl rfl (Pur.eql rfl rfl) ?_
    refine Reg.pur rfl rfl rfl rfl (Pur.pickT rfl rfl) ?_
    refine Reg.pur rfl rfl rfl rfl (Pur.asg rfl) ?_
    refine Reg.nil ?_
    refine At.ret rfl Tryd.func4 rfl ?_
    exact ⟨rfl, hE⟩
  first | (simp only [decide_eq_true_eq, decide_eq_false_iff_not, Bool.not_eq_true', Bool.not_eq_false', ne_eq, Decidable.not_not, Bool.not_eq_true, Bool.not_eq_false] at q102) | (dsimp only at q102) | skip
  obtain ⟨s1, s2, s3⟩ := sol_ok ha hb q24 q29 (by omega) (by omega) (hr2 q102)
  refine At.drawJ (σ := Nat × Nat) (fun (b11, b12) => [(11, ptr b11 0), (12, ptr b12 0), (5, .slice A1 (uniR a b 4095).1.length k1), (6, I (uniR a b 4095).2), (2, ptr H.size 0), (3, ptr H0_0.size 0)]) (fun (b11, b12) H' => Own H' b11 (Is (und (uniR a b 4095).1 a)) ∧ Own H' b12 (Is (und (uniR a b 4095).1 b)) ∧ Own H' H.size (Is a) ∧ Own H' H0_0.size (Is b) ∧ Ext H H') ((Bks.cons o0_0.blk (Bks.cons o0_1.blk Bks.nil))) [9] mixed rfl rfl ?_ (fun s H_r15 hs => ?_)
  · refine RegD.tpur (i := 0) rfl rfl rfl rfl (by kernel_rfl) (Pur.mv rfl) ?_
    refine RegD.take (i := 1) rfl rfl rfl rfl (by kernel_rfl) (Bks.cons o0_0.blk (Bks.cons o0_1.blk Bks.nil)) (fun H hS => Lod.ldn ag24 rfl hS.hd (whole ha') ha') ?_
    refine RegD.tpur (i := 3) rfl rfl rfl rfl (by kernel_rfl) (Pur.mv rfl) ?_
    refine RegD.take (i := 4) rfl rfl rfl rfl (by kernel_rfl) (Bks.cons o0_0.blk (Bks.cons o0_1.blk Bks.nil)) (fun H hS => Lod.ldn ag24 rfl hS.tl.hd (whole hb') hb') ?_
    refine RegD.fork3 (i := 2) (j := 6) (k := 7) (by kernel_rfl) ?_ ?_ ?_
    · refine RegOp.one (i := 2) rfl rfl rfl rfl (Does.call rfl (under_ok hrw.1 ha (fun i hi ↦ by have := row_cnt ha q24 i hi; omega) hcn (hB1.ext hX1))) ?_
      rintro _ H15_2 ⟨rfl, hE15_2⟩
      have z15_2 := hE15_2.lt
      replace hE := hE.ext hE15_2
      replace hX1 := hX1.ext hE15_2
      replace o0_0 := o0_0.ext hE15_2
      replace o0_1 := o0_1.ext hE15_2
      refine ⟨fun _ _ => (Bks.cons o0_0.blk (Bks.cons o0_1.blk Bks.nil)), ?_⟩
      refine RegD.fork3 (i := 5) (j := 6) (k := 7) (by kernel_rfl) ?_ ?_ ?_
      · refine RegOp.one (i := 5) rfl rfl rfl rfl (Does.call rfl (under_ok hrw.1 hb (fun i hi ↦ by have := row_cnt hb q29 i hi; omega) hcn (hB1.ext hX1))) ?_
        rintro _ H15_5 ⟨rfl, hE15_5⟩
        have z15_5 := hE15_5.lt
        replace hE := hE.ext hE15_5
        replace hX1 := hX1.ext hE15_5
        replace o0_0 := o0_0.ext hE15_5
        replace o0_1 := o0_1.ext hE15_5
        refine ⟨fun _ _ => (Bks.cons o0_0.blk (Bks.cons o0_1.blk Bks.nil)), ?_⟩
        refine RegD.fork2 (i := 6) (j := 7) (by kernel_rfl) ?_ ?_
        · refine RegOp.one (i := 6) rfl rfl rfl rfl (Does.alloc zc24) ?_
          rintro _ H15_6 ⟨rfl, hn15_6⟩
          have z15_6 := hn15_6.size
          replace hE := hE.ext hn15_6.ext
          replace hX1 := hX1.ext hn15_6.ext
          replace o0_0 := o0_0.ext hn15_6.ext
          replace o0_1 := o0_1.ext hn15_6.ext
          have hb11 := hn15_6.own
          refine ⟨fun _ _ => (Bks.cons o0_0.blk (Bks.cons o0_1.blk Bks.nil)), ?_⟩
          refine RegD.one (i := 7) (by kernel_rfl) rfl rfl rfl rfl (Does.alloc zc24) ?_
          rintro _ H15_7 ⟨rfl, hn15_7⟩
          have z15_7 := hn15_7.size
          replace hE := hE.ext hn15_7.ext
          replace hX1 := hX1.ext hn15_7.ext
          replace o0_0 := o0_0.ext hn15_7.ext
          replace o0_1 := o0_1.ext hn15_7.ext
          replace hb11 := hb11.ext hn15_7.ext
          have hb12 := hn15_7.own
          refine ⟨fun _ _ => (Bks.cons o0_0.blk (Bks.cons o0_1.blk Bks.nil)), ?_⟩
          refine RegD.one0 (i := 8) (by kernel_rfl) rfl rfl rfl (Does.stn ag24 rfl rfl (by first | rfl | exact ones_Is _) (by first | rfl | (simp [*]; done)) hb11 (by first | decide | (simp; done) | (simp; omega) | omega)) ?_
          rintro _ H15_8 hu15_8
          have z15_8 := hu15_8.size
          replace hE := hE.upw hu15_8 (by omega)
          replace hX1 := hX1.upw hu15_8 (by omega)
          replace o0_0 := o0_0.upw hu15_8 (by omega)
          replace o0_1 := o0_1.upw hu15_8 (by omega)
          replace hb12 := hb12.upw hu15_8 (by omega)
          replace hb11 := hu15_8.own
          first | rw [over (by first | rfl | (simp; done))] at hb11 | skip
          refine ⟨fun _ _ => (Bks.cons o0_0.blk (Bks.cons o0_1.blk Bks.nil)), ?_⟩
          refine RegD.one0 (i := 9) (by kernel_rfl) rfl rfl rfl (Does.stn ag24 rfl rfl (by first | rfl | exact ones_Is _) (by first | rfl | (simp [*]; done)) hb12 (by first | decide | (simp; done) | (simp; omega) | omega)) ?_
          rintro _ H15_9 hu15_9
          have z15_9 := hu15_9.size
          replace hE := hE.upw hu15_9 (by omega)
          replace hX1 := hX1.upw hu15_9 (by omega)
          replace o0_0 := o0_0.upw hu15_9 (by omega)
          replace o0_1 := o0_1.upw hu15_9 (by omega)
          replace hb11 := hb11.upw hu15_9 (by omega)
          replace hb12 := hu15_9.own
          first | rw [over (by first | rfl | (simp; done))] at hb12 | skip
          refine ⟨fun h => (by cases h), ?_⟩
          refine RegD.done (by kernel_rfl) ?_
          exact ⟨(_, _), ⟨hb11, hb12, o0_0, o0_1, hE⟩, ⟨rfl, rfl, rfl, rfl, rfl, rfl, trivial⟩⟩
        refine RegOp.one (i := 7) rfl rfl rfl rfl (Does.alloc zc24) ?_
        rintro _ H15_7 ⟨rfl, hn15_7⟩
        have z15_7 := hn15_7.size
        replace hE := hE.ext hn15_7.ext
        replace hX1 := hX1.ext hn15_7.ext
        replace o0_0 := o0_0.ext hn15_7.ext
        replace o0_1 := o0_1.ext hn15_7.ext
        have hb12 := hn15_7.own
        refine ⟨fun _ _ => (Bks.cons o0_0.blk (Bks.cons o0_1.blk Bks.nil)), ?_⟩
        refine RegD.one (i := 6) (by kernel_rfl) rfl rfl rfl rfl (Does.alloc zc24) ?_
        rintro _ H15_6 ⟨rfl, hn15_6⟩
        have z15_6 := hn15_6.size
        replace hE := hE.ext hn15_6.ext
        replace hX1 := hX1.ext hn15_6.ext
        replace o0_0 := o0_0.ext hn15_6.ext
        replace o0_1 := o0_1.ext hn15_6.ext
        replace hb12 := hb12.ext hn15_6.ext
        have hb11 := hn15_6.own
        refine ⟨fun _ _ => (Bks.cons o0_0.blk (Bks.cons o0_1.blk Bks.nil)), ?_⟩
        refine RegD.one0 (i := 8) (by kernel_rfl) rfl rfl rfl (Does.stn ag24 rfl rfl (by first | rfl | exact ones_Is _) (by first | rfl | (simp [*]; done)) hb11 (by first | decide | (simp; done) | (simp; omega) | omega)) ?_
        rintro _ H15_8 hu15_8
        have z15_8 := hu15_8.size
        replace hE := hE.upw hu15_8 (by omega)
        replace hX1 := hX1.upw hu15_8 (by omega)
        replace o0_0 := o0_0.upw hu15_8 (by omega)
        replace o0_1 := o0_1.upw hu15_8 (by omega)
        replace hb12 := hb12.upw hu15_8 (by omega)
        replace hb11 := hu15_8.own
        first | rw [over (by first | rfl | (simp; done))] at hb11 | skip
        refine ⟨fun _ _ => (Bks.cons o0_0.blk (Bks.cons o0_1.blk Bks.nil)), ?_⟩
        refine RegD.one0 (i := 9) (by kernel_rfl) rfl rfl rfl (Does.stn ag24 rfl rfl (by first | rfl | exact ones_Is _) (by first | rfl | (simp [*]; done)) hb12 (by first | decide | (simp; done) | (simp; omega) | omega)) ?_
        rintro _ H15_9 hu15_9
        have z15_9 := hu15_9.size
        replace hE := hE.upw hu15_9 (by omega)
        replace hX1 := hX1.upw hu15_9 (by omega)
        replace o0_0 := o0_0.upw hu15_9 (by omega)
        replace o0_1 := o0_1.upw hu15_9 (by omega)
        replace hb11 := hb11.upw hu15_9 (by omega)
        replace hb12 := hu15_9.own
        first | rw [over (by first | rfl | (simp; done))] at hb12 | skip
        refine ⟨fun h => (by cases h), ?_⟩
        refine RegD.done (by kernel_rfl) ?_
        exact ⟨(_, _), ⟨hb11, hb12, o0_0, o0_1, hE⟩, ⟨rfl, rfl, rfl, rfl, rfl, rfl, trivial⟩⟩
      · refine RegOp.one (i := 6) rfl rfl rfl rfl (Does.alloc zc24) ?_
        rintro _ H15_6 ⟨rfl, hn15_6⟩
        have z15_6 := hn15_6.size
        replace hE := hE.ext hn15_6.ext
        replace hX1 := hX1.ext hn15_6.ext
        replace o0_0 := o0_0.ext hn15_6.ext
        replace o0_1 := o0_1.ext hn15_6.ext
        have hb11 := hn15_6.own
        refine ⟨fun _ _ => (Bks.cons o0_0.blk (Bks.cons o0_1.blk Bks.nil)), ?_⟩
        refine RegD.fork2 (i := 5) (j := 7) (by kernel_rfl) ?_ ?_
        · refine RegOp.one (i := 5) rfl rfl rfl rfl (Does.call rfl (under_ok hrw.1 hb (fun i hi ↦ by have := row_cnt hb q29 i hi; omega) hcn (hB1.ext hX1))) ?_
          rintro _ H15_5 ⟨rfl, hE15_5⟩
          have z15_5 := hE15_5.lt
          replace hE := hE.ext hE15_5
          replace hX1 := hX1.ext hE15_5
          replace o0_0 := o0_0.ext hE15_5
          replace o0_1 := o0_1.ext hE15_5
          replace hb11 := hb11.ext hE15_5
          refine ⟨fun _ _ => (Bks.cons o0_0.blk (Bks.cons o0_1.blk Bks.nil)), ?_⟩
          refine RegD.one (i := 7) (by kernel_rfl) rfl rfl rfl rfl (Does.alloc zc24) ?_
          rintro _ H15_7 ⟨rfl, hn15_7⟩
          have z15_7 := hn15_7.size
          replace hE := hE.ext hn15_7.ext
          replace hX1 := hX1.ext hn15_7.ext
          replace o0_0 := o0_0.ext hn15_7.ext
          replace o0_1 := o0_1.ext hn15_7.ext
          replace hb11 := hb11.ext hn15_7.ext
          have hb12 := hn15_7.own
          refine ⟨fun _ _ => (Bks.cons o0_0.blk (Bks.cons o0_1.blk Bks.nil)), ?_⟩
          refine RegD.one0 (i := 8) (by kernel_rfl) rfl rfl rfl (Does.stn ag24 rfl rfl (by first | rfl | exact ones_Is _) (by first | rfl | (simp [*]; done)) hb11 (by first | decide | (simp; done) | (simp; omega) | omega)) ?_
          rintro _ H15_8 hu15_8
          have z15_8 := hu15_8.size
          replace hE := hE.upw hu15_8 (by omega)
          replace hX1 := hX1.upw hu15_8 (by omega)
          replace o0_0 := o0_0.upw hu15_8 (by omega)
          replace o0_1 := o0_1.upw hu15_8 (by omega)
          replace hb12 := hb12.upw hu15_8 (by omega)
          replace hb11 := hu15_8.own
          first | rw [over (by first | rfl | (simp; done))] at hb11 | skip
          refine ⟨fun _ _ => (Bks.cons o0_0.blk (Bks.cons o0_1.blk Bks.nil)), ?_⟩
          refine RegD.one0 (i := 9) (by kernel_rfl) rfl rfl rfl (Does.stn ag24 rfl rfl (by first | rfl | exact ones_Is _) (by first | rfl | (simp [*]; done)) hb12 (by first | decide | (simp; done) | (simp; omega) | omega)) ?_
          rintro _ H15_9 hu15_9
          have z15_9 := hu15_9.size
          replace hE := hE.upw hu15_9 (by omega)
          replace hX1 := hX1.upw hu15_9 (by omega)
          replace o0_0 := o0_0.upw hu15_9 (by omega)
          replace o0_1 := o0_1.upw hu15_9 (by omega)
          replace hb11 := hb11.upw hu15_9 (by omega)
          replace hb12 := hu15_9.own
          first | rw [over (by first | rfl | (simp; done))] at hb12 | skip
          refine ⟨fun h => (by cases h), ?_⟩
          refine RegD.done (by kernel_rfl) ?_
          exact ⟨(_, _), ⟨hb11, hb12, o0_0, o0_1, hE⟩, ⟨rfl, rfl, rfl, rfl, rfl, rfl, trivial⟩⟩
        refine RegOp.one (i := 7) rfl rfl rfl rfl (Does.alloc zc24) ?_
        rintro _ H15_7 ⟨rfl, hn15_7⟩
        have z15_7 := hn15_7.size
        replace hE := hE.ext hn15_7.ext
        replace hX1 := hX1.ext hn15_7.ext
        replace o0_0 := o0_0.ext hn15_7.ext
        replace o0_1 := o0_1.ext hn15_7.ext
        replace hb11 := hb11.ext hn15_7.ext
        have hb12 := hn15_7.own
        refine ⟨fun _ _ => (Bks.cons o0_0.blk (Bks.cons o0_1.blk Bks.nil)), ?_⟩
        refine RegD.one (i := 5) (by kernel_rfl) rfl rfl rfl rfl (Does.call rfl (under_ok hrw.1 hb (fun i hi ↦ by have := row_cnt hb q29 i hi; omega) hcn (hB1.ext hX1))) ?_
        rintro _ H15_5 ⟨rfl, hE15_5⟩
        have z15_5 := hE15_5.lt
        replace hE := hE.ext hE15_5
        replace hX1 := hX1.ext hE15_5
        replace o0_0 := o0_0.ext hE15_5
        replace o0_1 := o0_1.ext hE15_5
        replace hb11 := hb11.ext hE15_5
        replace hb12 := hb12.ext hE15_5
        refine ⟨fun _ _ => (Bks.cons o0_0.blk (Bks.cons o0_1.blk Bks.nil)), ?_⟩
        refine RegD.one0 (i := 8) (by kernel_rfl) rfl rfl rfl (Does.stn ag24 rfl rfl (by first | rfl | exact ones_Is _) (by first | rfl | (simp [*]; done)) hb11 (by first | decide | (simp; done) | (simp; omega) | omega)) ?_
        rintro _ H15_8 hu15_8
        have z15_8 := hu15_8.size
        replace hE := hE.upw hu15_8 (by omega)
        replace hX1 := hX1.upw hu15_8 (by omega)
        replace o0_0 := o0_0.upw hu15_8 (by omega)
        replace o0_1 := o0_1.upw hu15_8 (by omega)
        replace hb12 := hb12.upw hu15_8 (by omega)
        replace hb11 := hu15_8.own
        first | rw [over (by first | rfl | (simp; done))] at hb11 | skip
        refine ⟨fun _ _ => (Bks.cons o0_0.blk (Bks.cons o0_1.blk Bks.nil)), ?_⟩
        refine RegD.one0 (i := 9) (by kernel_rfl) rfl rfl rfl (Does.stn ag24 rfl rfl (by first | rfl | exact ones_Is _) (by first | rfl | (simp [*]; done)) hb12 (by first | decide | (simp; done) | (simp; omega) | omega)) ?_
        rintro _ H15_9 hu15_9
        have z15_9 := hu15_9.size
        replace hE := hE.upw hu15_9 (by omega)
        replace hX1 := hX1.upw hu15_9 (by omega)
        replace o0_0 := o0_0.upw hu15_9 (by omega)
        replace o0_1 := o0_1.upw hu15_9 (by omega)
        replace hb11 := hb11.upw hu15_9 (by omega)
        replace hb12 := hu15_9.own
        first | rw [over (by first | rfl | (simp; done))] at hb12 | skip
        refine ⟨fun h => (by cases h), ?_⟩
        refine RegD.done (by kernel_rfl) ?_
        exact ⟨(_, _), ⟨hb11, hb12, o0_0, o0_1, hE⟩, ⟨rfl, rfl, rfl, rfl, rfl, rfl, trivial⟩⟩
      refine RegOp.one (i := 7) rfl rfl rfl rfl (Does.alloc zc24) ?_
      rintro _ H15_7 ⟨rfl, hn15_7⟩
      have z15_7 := hn15_7.size
      replace hE := hE.ext hn15_7.ext
      replace hX1 := hX1.ext hn15_7.ext
      replace o0_0 := o0_0.ext hn15_7.ext
      replace o0_1 := o0_1.ext hn15_7.ext
      have hb12 := hn15_7.own
      refine ⟨fun _ _ => (Bks.cons o0_0.blk (Bks.cons o0_1.blk Bks.nil)), ?_⟩
      refine RegD.fork2 (i := 5) (j := 6) (by kernel_rfl) ?_ ?_
      · refine RegOp.one (i := 5) rfl rfl rfl rfl (Does.call rfl (under_ok hrw.1 hb (fun i hi ↦ by have := row_cnt hb q29 i hi; omega) hcn (hB1.ext hX1))) ?_
        rintro _ H15_5 ⟨rfl, hE15_5⟩
        have z15_5 := hE15_5.lt
        replace hE := hE.ext hE15_5
        replace hX1 := hX1.ext hE15_5
        replace o0_0 := o0_0.ext hE15_5
        replace o0_1 := o0_1.ext hE15_5
        replace hb12 := hb12.ext hE15_5
        refine ⟨fun _ _ => (Bks.cons o0_0.blk (Bks.cons o0_1.blk Bks.nil)), ?_⟩
        refine RegD.one (i := 6) (by kernel_rfl) rfl rfl rfl rfl (Does.alloc zc24) ?_
        rintro _ H15_6 ⟨rfl, hn15_6⟩
        have z15_6 := hn15_6.size
        replace hE := hE.ext hn15_6.ext
        replace hX1 := hX1.ext hn15_6.ext
        replace o0_0 := o0_0.ext hn15_6.ext
        replace o0_1 := o0_1.ext hn15_6.ext
        replace hb12 := hb12.ext hn15_6.ext
        have hb11 := hn15_6.own
        refine ⟨fun _ _ => (Bks.cons o0_0.blk (Bks.cons o0_1.blk Bks.nil)), ?_⟩
        refine RegD.one0 (i := 8) (by kernel_rfl) rfl rfl rfl (Does.stn ag24 rfl rfl (by first | rfl | exact ones_Is _) (by first | rfl | (simp [*]; done)) hb11 (by first | decide | (simp; done) | (simp; omega) | omega)) ?_
        rintro _ H15_8 hu15_8
        have z15_8 := hu15_8.size
        replace hE := hE.upw hu15_8 (by omega)
        replace hX1 := hX1.upw hu15_8 (by omega)
        replace o0_0 := o0_0.upw hu15_8 (by omega)
        replace o0_1 := o0_1.upw hu15_8 (by omega)
        replace hb12 := hb12.upw hu15_8 (by omega)
        replace hb11 := hu15_8.own
        first | rw [over (by first | rfl | (simp; done))] at hb11 | skip
        refine ⟨fun _ _ => (Bks.cons o0_0.blk (Bks.cons o0_1.blk Bks.nil)), ?_⟩
        refine RegD.one0 (i := 9) (by kernel_rfl) rfl rfl rfl (Does.stn ag24 rfl rfl (by first | rfl | exact ones_Is _) (by first | rfl | (simp [*]; done)) hb12 (by first | decide | (simp; done) | (simp; omega) | omega)) ?_
        rintro _ H15_9 hu15_9
        have z15_9 := hu15_9.size
        replace hE := hE.upw hu15_9 (by omega)
        replace hX1 := hX1.upw hu15_9 (by omega)
        replace o0_0 := o0_0.upw hu15_9 (by omega)
        replace o0_1 := o0_1.upw hu15_9 (by omega)
        replace hb11 := hb11.upw hu15_9 (by omega)
        replace hb12 := hu15_9.own
        first | rw [over (by first | rfl | (simp; done))] at hb12 | skip
        refine ⟨fun h => (by cases h), ?_⟩
        refine RegD.done (by kernel_rfl) ?_
        exact ⟨(_, _), ⟨hb11, hb12, o0_0, o0_1, hE⟩, ⟨rfl, rfl, rfl, rfl, rfl, rfl, trivial⟩⟩
      refine RegOp.one (i := 6) rfl rfl rfl rfl (Does.alloc zc24) ?_
      rintro _ H15_6 ⟨rfl, hn15_6⟩
      have z15_6 := hn15_6.size
      replace hE := hE.ext hn15_6.ext
      replace hX1 := hX1.ext hn15_6.ext
      replace o0_0 := o0_0.ext hn15_6.ext
      replace o0_1 := o0_1.ext hn15_6.ext
      replace hb12 := hb12.ext hn15_6.ext
      have hb11 := hn15_6.own
      refine ⟨fun _ _ => (Bks.cons o0_0.blk (Bks.cons o0_1.blk Bks.nil)), ?_⟩
      refine RegD.one (i := 5) (by kernel_rfl) rfl rfl rfl rfl (Does.call rfl (under_ok hrw.1 hb (fun i hi ↦ by have := row_cnt hb q29 i hi; omega) hcn (hB1.ext hX1))) ?_
      rintro _ H15_5 ⟨rfl, hE15_5⟩
      have z15_5 := hE15_5.lt
      replace hE := hE.ext hE15_5
      replace hX1 := hX1.ext hE15_5
      replace o0_0 := o0_0.ext hE15_5
      replace o0_1 := o0_1.ext hE15_5
      replace hb12 := hb12.ext hE15_5
      replace hb11 := hb11.ext hE15_5
      refine ⟨fun _ _ => (Bks.cons o0_0.blk (Bks.cons o0_1.blk Bks.nil)), ?_⟩
      refine RegD.one0 (i := 8) (by kernel_rfl) rfl rfl rfl (Does.stn ag24 rfl rfl (by first | rfl | exact ones_Is _) (by first | rfl | (simp [*]; done)) hb11 (by first | decide | (simp; done) | (simp; omega) | omega)) ?_
      rintro _ H15_8 hu15_8
      have z15_8 := hu15_8.size
      replace hE := hE.upw hu15_8 (by omega)
      replace hX1 := hX1.upw hu15_8 (by omega)
      replace o0_0 := o0_0.upw hu15_8 (by omega)
      replace o0_1 := o0_1.upw hu15_8 (by omega)
      replace hb12 := hb12.upw hu15_8 (by omega)
      replace hb11 := hu15_8.own
      first | rw [over (by first | rfl | (simp; done))] at hb11 | skip
      refine ⟨fun _ _ => (Bks.cons o0_0.blk (Bks.cons o0_1.blk Bks.nil)), ?_⟩
      refine RegD.one0 (i := 9) (by kernel_rfl) rfl rfl rfl (Does.stn ag24 rfl rfl (by first | rfl | exact ones_Is _) (by first | rfl | (simp [*]; done)) hb12 (by first | decide | (simp; done) | (simp; omega) | omega)) ?_
      rintro _ H15_9 hu15_9
      have z15_9 := hu15_9.size
      replace hE := hE.upw hu15_9 (by omega)
      replace hX1 := hX1.upw hu15_9 (by omega)
      replace o0_0 := o0_0.upw hu15_9 (by omega)
      replace o0_1 := o0_1.upw hu15_9 (by omega)
      replace hb11 := hb11.upw hu15_9 (by omega)
      replace hb12 := hu15_9.own
      first | rw [over (by first | rfl | (simp; done))] at hb12 | skip
      refine ⟨fun h => (by cases h), ?_⟩
      refine RegD.done (by kernel_rfl) ?_
      exact ⟨(_, _), ⟨hb11, hb12, o0_0, o0_1, hE⟩, ⟨rfl, rfl, rfl, rfl, rfl, rfl, trivial⟩⟩
    · refine RegOp.one (i := 6) rfl rfl rfl rfl (Does.alloc zc24) ?_
      rintro _ H15_6 ⟨rfl, hn15_6⟩
      have z15_6 := hn15_6.size
      replace hE := hE.ext hn15_6.ext
      replace hX1 := hX1.ext hn15_6.ext
      replace o0_0 := o0_0.ext hn15_6.ext
      replace o0_1 := o0_1.ext hn15_6.ext
      have hb11 := hn15_6.own
      refine ⟨fun _ _ => (Bks.cons o0_0.blk (Bks.cons o0_1.blk Bks.nil)), ?_⟩
      refine RegD.fork2 (i := 2) (j := 7) (by kernel_rfl) ?_ ?_
      · refine RegOp.one (i := 2) rfl rfl rfl rfl (Does.call rfl (under_ok hrw.1 ha (fun i hi ↦ by have := row_cnt ha q24 i hi; omega) hcn (hB1.ext hX1))) ?_
        rintro _ H15_2 ⟨rfl, hE15_2⟩
        have z15_2 := hE15_2.lt
        replace hE := hE.ext hE15_2
        replace hX1 := hX1.ext hE15_2
        replace o0_0 := o0_0.ext hE15_2
        replace o0_1 := o0_1.ext hE15_2
        replace hb11 := hb11.ext hE15_2
        refine ⟨fun _ _ => (Bks.cons o0_0.blk (Bks.cons o0_1.blk Bks.nil)), ?_⟩
        refine RegD.fork2 (i := 5) (j := 7) (by kernel_rfl) ?_ ?_
        · refine RegOp.one (i := 5) rfl rfl rfl rfl (Does.call rfl (under_ok hrw.1 hb (fun i hi ↦ by have := row_cnt hb q29 i hi; omega) hcn (hB1.ext hX1))) ?_
          rintro _ H15_5 ⟨rfl, hE15_5⟩
          have z15_5 := hE15_5.lt
          replace hE := hE.ext hE15_5
          replace hX1 := hX1.ext hE15_5
          replace o0_0 := o0_0.ext hE15_5
          replace o0_1 := o0_1.ext hE15_5
          replace hb11 := hb11.ext hE15_5
          refine ⟨fun _ _ => (Bks.cons o0_0.blk (Bks.cons o0_1.blk Bks.nil)), ?_⟩
          refine RegD.one (i := 7) (by kernel_rfl) rfl rfl rfl rfl (Does.alloc zc24) ?_
          rintro _ H15_7 ⟨rfl, hn15_7⟩
          have z15_7 := hn15_7.size
          replace hE := hE.ext hn15_7.ext
          replace hX1 := hX1.ext hn15_7.ext
          replace o0_0 := o0_0.ext hn15_7.ext
          replace o0_1 := o0_1.ext hn15_7.ext
          replace hb11 := hb11.ext hn15_7.ext
          have hb12 := hn15_7.own
          refine ⟨fun _ _ => (Bks.cons o0_0.blk (Bks.cons o0_1.blk Bks.nil)), ?_⟩
          refine RegD.one0 (i := 8) (by kernel_rfl) rfl rfl rfl (Does.stn ag24 rfl rfl (by first | rfl | exact ones_Is _) (by first | rfl | (simp [*]; done)) hb11 (by first | decide | (simp; done) | (simp; omega) | omega)) ?_
          rintro _ H15_8 hu15_8
          have z15_8 := hu15_8.size
          replace hE := hE.upw hu15_8 (by omega)
          replace hX1 := hX1.upw hu15_8 (by omega)
          replace o0_0 := o0_0.upw hu15_8 (by omega)
          replace o0_1 := o0_1.upw hu15_8 (by omega)
          replace hb12 := hb12.upw hu15_8 (by omega)
          replace hb11 := hu15_8.own
          first | rw [over (by first | rfl | (simp; done))] at hb11 | skip
          refine ⟨fun _ _ => (Bks.cons o0_0.blk (Bks.cons o0_1.blk Bks.nil)), ?_⟩
          refine RegD.one0 (i := 9) (by kernel_rfl) rfl rfl rfl (Does.stn ag24 rfl rfl (by first | rfl | exact ones_Is _) (by first | rfl | (simp [*]; done)) hb12 (by first | decide | (simp; done) | (simp; omega) | omega)) ?_
          rintro _ H15_9 hu15_9
          have z15_9 := hu15_9.size
          replace hE := hE.upw hu15_9 (by omega)
          replace hX1 := hX1.upw hu15_9 (by omega)
          replace o0_0 := o0_0.upw hu15_9 (by omega)
          replace o0_1 := o0_1.upw hu15_9 (by omega)
          replace hb11 := hb11.upw hu15_9 (by omega)
          replace hb12 := hu15_9.own
          first | rw [over (by first | rfl | (simp; done))] at hb12 | skip
          refine ⟨fun h => (by cases h), ?_⟩
          refine RegD.done (by kernel_rfl) ?_
          exact ⟨(_, _), ⟨hb11, hb12, o0_0, o0_1, hE⟩, ⟨rfl, rfl, rfl, rfl, rfl, rfl, trivial⟩⟩
        refine RegOp.one (i := 7) rfl rfl rfl rfl (Does.alloc zc24) ?_
        rintro _ H15_7 ⟨rfl, hn15_7⟩
        have z15_7 := hn15_7.size
        replace hE := hE.ext hn15_7.ext
        replace hX1 := hX1.ext hn15_7.ext
        replace o0_0 := o0_0.ext hn15_7.ext
        replace o0_1 := o0_1.ext hn15_7.ext
        replace hb11 := hb11.ext hn15_7.ext
        have hb12 := hn15_7.own
        refine ⟨fun _ _ => (Bks.cons o0_0.blk (Bks.cons o0_1.blk Bks.nil)), ?_⟩
        refine RegD.one (i := 5) (by kernel_rfl) rfl rfl rfl rfl (Does.call rfl (under_ok hrw.1 hb (fun i hi ↦ by have := row_cnt hb q29 i hi; omega) hcn (hB1.ext hX1))) ?_
        rintro _ H15_5 ⟨rfl, hE15_5⟩
        have z15_5 := hE15_5.lt
        replace hE := hE.ext hE15_5
        replace hX1 := hX1.ext hE15_5
        replace o0_0 := o0_0.ext hE15_5
        replace o0_1 := o0_1.ext hE15_5
        replace hb11 := hb11.ext hE15_5
        replace hb12 := hb12.ext hE15_5
        refine ⟨fun _ _ => (Bks.cons o0_0.blk (Bks.cons o0_1.blk Bks.nil)), ?_⟩
        refine RegD.one0 (i := 8) (by kernel_rfl) rfl rfl rfl (Does.stn ag24 rfl rfl (by first | rfl | exact ones_Is _) (by first | rfl | (simp [*]; done)) hb11 (by first | decide | (simp; done) | (simp; omega) | omega)) ?_
        rintro _ H15_8 hu15_8
        have z15_8 := hu15_8.size
        replace hE := hE.upw hu15_8 (by omega)
        replace hX1 := hX1.upw hu15_8 (by omega)
        replace o0_0 := o0_0.upw hu15_8 (by omega)
        replace o0_1 := o0_1.upw hu15_8 (by omega)
        replace hb12 := hb12.upw hu15_8 (by omega)
        replace hb11 := hu15_8.own
        first | rw [over (by first | rfl | (simp; done))] at hb11 | skip
        refine ⟨fun _ _ => (Bks.cons o0_0.blk (Bks.cons o0_1.blk Bks.nil)), ?_⟩
        refine RegD.one0 (i := 9) (by kernel_rfl) rfl rfl rfl (Does.stn ag24 rfl rfl (by first | rfl | exact ones_Is _) (by first | rfl | (simp [*]; done)) hb12 (by first | decide | (simp; done) | (simp; omega) | omega)) ?_
        rintro _ H15_9 hu15_9
        have z15_9 := hu15_9.size
        replace hE := hE.upw hu15_9 (by omega)
        replace hX1 := hX1.upw hu15_9 (by omega)
        replace o0_0 := o0_0.upw hu15_9 (by omega)
        replace o0_1 := o0_1.upw hu15_9 (by omega)
        replace hb11 := hb11.upw hu15_9 (by omega)
        replace hb12 := hu15_9.own
        first | rw [over (by first | rfl | (simp; done))] at hb12 | skip
        refine ⟨fun h => (by cases h), ?_⟩
        refine RegD.done (by kernel_rfl) ?_
        exact ⟨(_, _), ⟨hb11, hb12, o0_0, o0_1, hE⟩, ⟨rfl, rfl, rfl, rfl, rfl, rfl, trivial⟩⟩
      refine RegOp.one (i := 7) rfl rfl rfl rfl (Does.alloc zc24) ?_
      rintro _ H15_7 ⟨rfl, hn15_7⟩
      have z15_7 := hn15_7.size
      replace hE := hE.ext hn15_7.ext
      replace hX1 := hX1.ext hn15_7.ext
      replace o0_0 := o0_0.ext hn15_7.ext
      replace o0_1 := o0_1.ext hn15_7.ext
      replace hb11 := hb11.ext hn15_7.ext
      have hb12 := hn15_7.own
      refine ⟨fun _ _ => (Bks.cons o0_0.blk (Bks.cons o0_1.blk Bks.nil)), ?_⟩
      refine RegD.one (i := 2) (by kernel_rfl) rfl rfl rfl rfl (Does.call rfl (under_ok hrw.1 ha (fun i hi ↦ by have := row_cnt ha q24 i hi; omega) hcn (hB1.ext hX1))) ?_
      rintro _ H15_2 ⟨rfl, hE15_2⟩
      have z15_2 := hE15_2.lt
      replace hE := hE.ext hE15_2
      replace hX1 := hX1.ext hE15_2
      replace o0_0 := o0_0.ext hE15_2
      replace o0_1 := o0_1.ext hE15_2
      replace hb11 := hb11.ext hE15_2
      replace hb12 := hb12.ext hE15_2
      refine ⟨fun _ _ => (Bks.cons o0_0.blk (Bks.cons o0_1.blk Bks.nil)), ?_⟩
      refine RegD.one (i := 5) (by kernel_rfl) rfl rfl rfl rfl (Does.call rfl (under_ok hrw.1 hb (fun i hi ↦ by have := row_cnt hb q29 i hi; omega) hcn (hB1.ext hX1))) ?_
      rintro _ H15_5 ⟨rfl, hE15_5⟩
      have z15_5 := hE15_5.lt
      replace hE := hE.ext hE15_5
      replace hX1 := hX1.ext hE15_5
      replace o0_0 := o0_0.ext hE15_5
      replace o0_1 := o0_1.ext hE15_5
      replace hb11 := hb11.ext hE15_5
      replace hb12 := hb12.ext hE15_5
      refine ⟨fun _ _ => (Bks.cons o0_0.blk (Bks.cons o0_1.blk Bks.nil)), ?_⟩
      refine RegD.one0 (i := 8) (by kernel_rfl) rfl rfl rfl (Does.stn ag24 rfl rfl (by first | rfl | exact ones_Is _) (by first | rfl | (simp [*]; done)) hb11 (by first | decide | (simp; done) | (simp; omega) | omega)) ?_
      rintro _ H15_8 hu15_8
      have z15_8 := hu15_8.size
      replace hE := hE.upw hu15_8 (by omega)
      replace hX1 := hX1.upw hu15_8 (by omega)
      replace o0_0 := o0_0.upw hu15_8 (by omega)
      replace o0_1 := o0_1.upw hu15_8 (by omega)
      replace hb12 := hb12.upw hu15_8 (by omega)
      replace hb11 := hu15_8.own
      first | rw [over (by first | rfl | (simp; done))] at hb11 | skip
      refine ⟨fun _ _ => (Bks.cons o0_0.blk (Bks.cons o0_1.blk Bks.nil)), ?_⟩
      refine RegD.one0 (i := 9) (by kernel_rfl) rfl rfl rfl (Does.stn ag24 rfl rfl (by first | rfl | exact ones_Is _) (by first | rfl | (simp [*]; done)) hb12 (by first | decide | (simp; done) | (simp; omega) | omega)) ?_
      rintro _ H15_9 hu15_9
      have z15_9 := hu15_9.size
      replace hE := hE.upw hu15_9 (by omega)
      replace hX1 := hX1.upw hu15_9 (by omega)
      replace o0_0 := o0_0.upw hu15_9 (by omega)
      replace o0_1 := o0_1.upw hu15_9 (by omega)
      replace hb11 := hb11.upw hu15_9 (by omega)
      replace hb12 := hu15_9.own
      first | rw [over (by first | rfl | (simp; done))] at hb12 | skip
      refine ⟨fun h => (by cases h), ?_⟩
      refine RegD.done (by kernel_rfl) ?_
      exact ⟨(_, _), ⟨hb11, hb12, o0_0, o0_1, hE⟩, ⟨rfl, rfl, rfl, rfl, rfl, rfl, trivial⟩⟩
    refine RegOp.one (i := 7) rfl rfl rfl rfl (Does.alloc zc24) ?_
    rintro _ H15_7 ⟨rfl, hn15_7⟩
    have z15_7 := hn15_7.size
    replace hE := hE.ext hn15_7.ext
    replace hX1 := hX1.ext hn15_7.ext
    replace o0_0 := o0_0.ext hn15_7.ext
    replace o0_1 := o0_1.ext hn15_7.ext
    have hb12 := hn15_7.own
    refine ⟨fun _ _ => (Bks.cons o0_0.blk (Bks.cons o0_1.blk Bks.nil)), ?_⟩
    refine RegD.fork2 (i := 2) (j := 6) (by kernel_rfl) ?_ ?_
    · refine RegOp.one (i := 2) rfl rfl rfl rfl (Does.call rfl (under_ok hrw.1 ha (fun i hi ↦ by have := row_cnt ha q24 i hi; omega) hcn (hB1.ext hX1))) ?_
      rintro _ H15_2 ⟨rfl, hE15_2⟩
      have z15_2 := hE15_2.lt
      replace hE := hE.ext hE15_2
      replace hX1 := hX1.ext hE15_2
      replace o0_0 := o0_0.ext hE15_2
      replace o0_1 := o0_1.ext hE15_2
      replace hb12 := hb12.ext hE15_2
      refine ⟨fun _ _ => (Bks.cons o0_0.blk (Bks.cons o0_1.blk Bks.nil)), ?_⟩
      refine RegD.fork2 (i := 5) (j := 6) (by kernel_rfl) ?_ ?_
      · refine RegOp.one (i := 5) rfl rfl rfl rfl (Does.call rfl (under_ok hrw.1 hb (fun i hi ↦ by have := row_cnt hb q29 i hi; omega) hcn (hB1.ext hX1))) ?_
        rintro _ H15_5 ⟨rfl, hE15_5⟩
        have z15_5 := hE15_5.lt
        replace hE := hE.ext hE15_5
        replace hX1 := hX1.ext hE15_5
        replace o0_0 := o0_0.ext hE15_5
        replace o0_1 := o0_1.ext hE15_5
        replace hb12 := hb12.ext hE15_5
        refine ⟨fun _ _ => (Bks.cons o0_0.blk (Bks.cons o0_1.blk Bks.nil)), ?_⟩
        refine RegD.one (i := 6) (by kernel_rfl) rfl rfl rfl rfl (Does.alloc zc24) ?_
        rintro _ H15_6 ⟨rfl, hn15_6⟩
        have z15_6 := hn15_6.size
        replace hE := hE.ext hn15_6.ext
        replace hX1 := hX1.ext hn15_6.ext
        replace o0_0 := o0_0.ext hn15_6.ext
        replace o0_1 := o0_1.ext hn15_6.ext
        replace hb12 := hb12.ext hn15_6.ext
        have hb11 := hn15_6.own
        refine ⟨fun _ _ => (Bks.cons o0_0.blk (Bks.cons o0_1.blk Bks.nil)), ?_⟩
        refine RegD.one0 (i := 8) (by kernel_rfl) rfl rfl rfl (Does.stn ag24 rfl rfl (by first | rfl | exact ones_Is _) (by first | rfl | (simp [*]; done)) hb11 (by first | decide | (simp; done) | (simp; omega) | omega)) ?_
        rintro _ H15_8 hu15_8
        have z15_8 := hu15_8.size
        replace hE := hE.upw hu15_8 (by omega)
        replace hX1 := hX1.upw hu15_8 (by omega)
        replace o0_0 := o0_0.upw hu15_8 (by omega)
        replace o0_1 := o0_1.upw hu15_8 (by omega)
        replace hb12 := hb12.upw hu15_8 (by omega)
        replace hb11 := hu15_8.own
        first | rw [over (by first | rfl | (simp; done))] at hb11 | skip
        refine ⟨fun _ _ => (Bks.cons o0_0.blk (Bks.cons o0_1.blk Bks.nil)), ?_⟩
        refine RegD.one0 (i := 9) (by kernel_rfl) rfl rfl rfl (Does.stn ag24 rfl rfl (by first | rfl | exact ones_Is _) (by first | rfl | (simp [*]; done)) hb12 (by first | decide | (simp; done) | (simp; omega) | omega)) ?_
        rintro _ H15_9 hu15_9
        have z15_9 := hu15_9.size
        replace hE := hE.upw hu15_9 (by omega)
        replace hX1 := hX1.upw hu15_9 (by omega)
        replace o0_0 := o0_0.upw hu15_9 (by omega)
        replace o0_1 := o0_1.upw hu15_9 (by omega)
        replace hb11 := hb11.upw hu15_9 (by omega)
        replace hb12 := hu15_9.own
        first | rw [over (by first | rfl | (simp; done))] at hb12 | skip
        refine ⟨fun h => (by cases h), ?_⟩
        refine RegD.done (by kernel_rfl) ?_
        exact ⟨(_, _), ⟨hb11, hb12, o0_0, o0_1, hE⟩, ⟨rfl, rfl, rfl, rfl, rfl, rfl, trivial⟩⟩
      refine RegOp.one (i := 6) rfl rfl rfl rfl (Does.alloc zc24) ?_
      rintro _ H15_6 ⟨rfl, hn15_6⟩
      have z15_6 := hn15_6.size
      replace hE := hE.ext hn15_6.ext
      replace hX1 := hX1.ext hn15_6.ext
      replace o0_0 := o0_0.ext hn15_6.ext
      replace o0_1 := o0_1.ext hn15_6.ext
      replace hb12 := hb12.ext hn15_6.ext
      have hb11 := hn15_6.own
      refine ⟨fun _ _ => (Bks.cons o0_0.blk (Bks.cons o0_1.blk Bks.nil)), ?_⟩
      refine RegD.one (i := 5) (by kernel_rfl) rfl rfl rfl rfl (Does.call rfl (under_ok hrw.1 hb (fun i hi ↦ by have := row_cnt hb q29 i hi; omega) hcn (hB1.ext hX1))) ?_
      rintro _ H15_5 ⟨rfl, hE15_5⟩
      have z15_5 := hE15_5.lt
      replace hE := hE.ext hE15_5
      replace hX1 := hX1.ext hE15_5
      replace o0_0 := o0_0.ext hE15_5
      replace o0_1 := o0_1.ext hE15_5
      replace hb12 := hb12.ext hE15_5
      replace hb11 := hb11.ext hE15_5
      refine ⟨fun _ _ => (Bks.cons o0_0.blk (Bks.cons o0_1.blk Bks.nil)), ?_⟩
      refine RegD.one0 (i := 8) (by kernel_rfl) rfl rfl rfl (Does.stn ag24 rfl rfl (by first | rfl | exact ones_Is _) (by first | rfl | (simp [*]; done)) hb11 (by first | decide | (simp; done) | (simp; omega) | omega)) ?_
      rintro _ H15_8 hu15_8
      have z15_8 := hu15_8.size
      replace hE := hE.upw hu15_8 (by omega)
      replace hX1 := hX1.upw hu15_8 (by omega)
      replace o0_0 := o0_0.upw hu15_8 (by omega)
      replace o0_1 := o0_1.upw hu15_8 (by omega)
      replace hb12 := hb12.upw hu15_8 (by omega)
      replace hb11 := hu15_8.own
      first | rw [over (by first | rfl | (simp; done))] at hb11 | skip
      refine ⟨fun _ _ => (Bks.cons o0_0.blk (Bks.cons o0_1.blk Bks.nil)), ?_⟩
      refine RegD.one0 (i := 9) (by kernel_rfl) rfl rfl rfl (Does.stn ag24 rfl rfl (by first | rfl | exact ones_Is _) (by first | rfl | (simp [*]; done)) hb12 (by first | decide | (simp; done) | (simp; omega) | omega)) ?_
      rintro _ H15_9 hu15_9
      have z15_9 := hu15_9.size
      replace hE := hE.upw hu15_9 (by omega)
      replace hX1 := hX1.upw hu15_9 (by omega)
      replace o0_0 := o0_0.upw hu15_9 (by omega)
      replace o0_1 := o0_1.upw hu15_9 (by omega)
      replace hb11 := hb11.upw hu15_9 (by omega)
      replace hb12 := hu15_9.own
      first | rw [over (by first | rfl | (simp; done))] at hb12 | skip
      refine ⟨fun h => (by cases h), ?_⟩
      refine RegD.done (by kernel_rfl) ?_
      exact ⟨(_, _), ⟨hb11, hb12, o0_0, o0_1, hE⟩, ⟨rfl, rfl, rfl, rfl, rfl, rfl, trivial⟩⟩
    refine RegOp.one (i := 6) rfl rfl rfl rfl (Does.alloc zc24) ?_
    rintro _ H15_6 ⟨rfl, hn15_6⟩
    have z15_6 := hn15_6.size
    replace hE := hE.ext hn15_6.ext
    replace hX1 := hX1.ext hn15_6.ext
    replace o0_0 := o0_0.ext hn15_6.ext
    replace o0_1 := o0_1.ext hn15_6.ext
    replace hb12 := hb12.ext hn15_6.ext
    have hb11 := hn15_6.own
    refine ⟨fun _ _ => (Bks.cons o0_0.blk (Bks.cons o0_1.blk Bks.nil)), ?_⟩
    refine RegD.one (i := 2) (by kernel_rfl) rfl rfl rfl rfl (Does.call rfl (under_ok hrw.1 ha (fun i hi ↦ by have := row_cnt ha q24 i hi; omega) hcn (hB1.ext hX1))) ?_
    rintro _ H15_2 ⟨rfl, hE15_2⟩
    have z15_2 := hE15_2.lt
    replace hE := hE.ext hE15_2
    replace hX1 := hX1.ext hE15_2
    replace o0_0 := o0_0.ext hE15_2
    replace o0_1 := o0_1.ext hE15_2
    replace hb12 := hb12.ext hE15_2
    replace hb11 := hb11.ext hE15_2
    refine ⟨fun _ _ => (Bks.cons o0_0.blk (Bks.cons o0_1.blk Bks.nil)), ?_⟩
    refine RegD.one (i := 5) (by kernel_rfl) rfl rfl rfl rfl (Does.call rfl (under_ok hrw.1 hb (fun i hi ↦ by have := row_cnt hb q29 i hi; omega) hcn (hB1.ext hX1))) ?_
    rintro _ H15_5 ⟨rfl, hE15_5⟩
    have z15_5 := hE15_5.lt
    replace hE := hE.ext hE15_5
    replace hX1 := hX1.ext hE15_5
    replace o0_0 := o0_0.ext hE15_5
    replace o0_1 := o0_1.ext hE15_5
    replace hb12 := hb12.ext hE15_5
    replace hb11 := hb11.ext hE15_5
    refine ⟨fun _ _ => (Bks.cons o0_0.blk (Bks.cons o0_1.blk Bks.nil)), ?_⟩
    refine RegD.one0 (i := 8) (by kernel_rfl) rfl rfl rfl (Does.stn ag24 rfl rfl (by first | rfl | exact ones_Is _) (by first | rfl | (simp [*]; done)) hb11 (by first | decide | (simp; done) | (simp; omega) | omega)) ?_
    rintro _ H15_8 hu15_8
    have z15_8 := hu15_8.size
    replace hE := hE.upw hu15_8 (by omega)
    replace hX1 := hX1.upw hu15_8 (by omega)
    replace o0_0 := o0_0.upw hu15_8 (by omega)
    replace o0_1 := o0_1.upw hu15_8 (by omega)
    replace hb12 := hb12.upw hu15_8 (by omega)
    replace hb11 := hu15_8.own
    first | rw [over (by first | rfl | (simp; done))] at hb11 | skip
    refine ⟨fun _ _ => (Bks.cons o0_0.blk (Bks.cons o0_1.blk Bks.nil)), ?_⟩
    refine RegD.one0 (i := 9) (by kernel_rfl) rfl rfl rfl (Does.stn ag24 rfl rfl (by first | rfl | exact ones_Is _) (by first | rfl | (simp [*]; done)) hb12 (by first | decide | (simp; done) | (simp; omega) | omega)) ?_
    rintro _ H15_9 hu15_9
    have z15_9 := hu15_9.size
    replace hE := hE.upw hu15_9 (by omega)
    replace hX1 := hX1.upw hu15_9 (by omega)
    replace o0_0 := o0_0.upw hu15_9 (by omega)
    replace o0_1 := o0_1.upw hu15_9 (by omega)
    replace hb11 := hb11.upw hu15_9 (by omega)
    replace hb12 := hu15_9.own
    first | rw [over (by first | rfl | (simp; done))] at hb12 | skip
    refine ⟨fun h => (by cases h), ?_⟩
    refine RegD.done (by kernel_rfl) ?_
    exact ⟨(_, _), ⟨hb11, hb12, o0_0, o0_1, hE⟩, ⟨rfl, rfl, rfl, rfl, rfl, rfl, trivial⟩⟩
  clear hE hX1 o0_0 o0_1
  obtain ⟨b11, b12⟩ := s
  obtain ⟨hb11, hb12, o0_0, o0_1, hE⟩ := hs
  have z_hE := hE.lt
  have z_hb11 := hb11.lt
  have z_hb12 := hb12.lt
  have z_o0_0 := o0_0.lt
  have z_o0_1 := o0_1.lt
  rw [s1]
  refine At.region rfl rfl ?_
  refine Reg.pur rfl rfl rfl rfl (Pur.mv rfl) ?_
  refine Reg.op rfl rfl rfl rfl (Does.call rfl (numE_ok _ _)) ?_
  rintro _ H_r15 ⟨rfl, rfl⟩
  refine Reg.pur rfl rfl rfl rfl (Pur.eql rfl rfl) ?_
  refine Reg.pur rfl rfl rfl rfl (Pur.mv rfl) ?_
  refine Reg.known (b' := true) 120 rfl (by rfl) ?_
  refine Reg.glod rfl rfl rfl rfl rfl rfl (Lod.ldn ag24 rfl hb11.blk (whole hua') hua') ?_
  refine Reg.glod rfl rfl rfl rfl rfl rfl (Lod.ldn ag24 rfl hb12.blk (whole hub') hub') ?_
  refine Reg.gpur rfl rfl rfl rfl rfl rfl (Pur.eqA eqt24 rfl rfl hfu hfv) ?_
  refine Reg.pur rfl rfl rfl rfl (Pur.pickT rfl rfl) ?_
  refine Reg.pur rfl rfl rfl rfl (Pur.mv rfl) ?_
  refine Reg.known (b' := true) 125 rfl (by rw [s2]; exact eqs_self _) ?_
  refine Reg.gpur rfl rfl rfl rfl rfl rfl (Pur.mv rfl) ?_
  refine Reg.gpur rfl rfl rfl rfl rfl rfl (Pur.lenS isl25 rfl) ?_
  refine Reg.gpur rfl rfl rfl rfl rfl rfl (Pur.leq rfl rfl) ?_
  refine Reg.pur rfl rfl rfl rfl (Pur.pickT rfl rfl) ?_
  refine Reg.pur rfl rfl rfl rfl (Pur.mv rfl) ?_
  refine Reg.known (b' := true) 130 rfl (by have := hrw.2; simp only [decide_eq_true_eq]; omega) ?_
  refine Reg.gpur rfl rfl rfl rfl rfl rfl (Pur.mv rfl) ?_
  refine Reg.gpur rfl rfl rfl rfl rfl rfl (Pur.lenS isl25 rfl) ?_
  refine Reg.gpur rfl rfl rfl rfl rfl rfl (Pur.gtr rfl rfl) ?_
  refine Reg.gpur rfl rfl rfl rfl rfl rfl (Pur.mv rfl) ?_
  refine Reg.case 134 rfl (fun q134 => ?_) (fun q134 => ?_)
  · first | (simp only [decide_eq_true_eq, decide_eq_false_iff_not, Bool.not_eq_true', Bool.not_eq_false', ne_eq, Decidable.not_not, Bool.not_eq_true, Bool.not_eq_false] at q134) | (dsimp only at q134) | skip
    refine Reg.skip rfl rfl rfl rfl rfl rfl rfl ?_
    refine Reg.skip rfl rfl rfl rfl rfl rfl rfl ?_
    refine Reg.skip rfl rfl rfl rfl rfl rfl rfl ?_
    refine Reg.gpur rfl rfl rfl rfl rfl rfl (Pur.pickT rfl rfl) ?_
    refine Reg.pur rfl rfl rfl rfl (Pur.pickT rfl rfl) ?_
    refine Reg.pur rfl rfl rfl rfl (Pur.asg rfl) ?_
    refine Reg.nil ?_
    refine At.ret rfl Tryd.func4 rfl ?_
    first | exact ⟨rfl, hE⟩ | (refine ⟨?_, hE⟩; rcases s3 with s3 | s3; exact absurd (by omega) q134; rw [s3, eqs_ints]; simp)
  first | (simp only [decide_eq_true_eq, decide_eq_false_iff_not, Bool.not_eq_true', Bool.not_eq_false', ne_eq, Decidable.not_not, Bool.not_eq_true, Bool.not_eq_false] at q134) | (dsimp only at q134) | skip
  refine Reg.glod rfl rfl rfl rfl rfl rfl (Lod.ldn ag24 rfl o0_0.blk (whole ha') ha') ?_
  refine Reg.glod rfl rfl rfl rfl rfl rfl (Lod.ldn ag24 rfl o0_1.blk (whole hb') hb') ?_
  refine Reg.gpur rfl rfl rfl rfl rfl rfl (Pur.eqA eqt24 rfl rfl hfa hfb) ?_
  refine Reg.gpur rfl rfl rfl rfl rfl rfl (Pur.pickF rfl rfl) ?_
  refine Reg.pur rfl rfl rfl rfl (Pur.pickT rfl rfl) ?_
  refine Reg.pur rfl rfl rfl rfl (Pur.asg rfl) ?_
  refine Reg.nil ?_
  refine At.ret rfl Tryd.func4 rfl ?_
  first | exact ⟨rfl, hE⟩ | (refine ⟨?_, hE⟩; rcases s3 with s3 | s3; exact absurd (by omega) q134; rw [s3, eqs_ints]; simp)
end Go.Proofs.YtlfillhffpiffaaDoor

namespace Go.Proofs.YtlfillhffpiffaaDoor
set_option linter.unusedSimpArgs false
set_option linter.unusedVariables false
set_option maxRecDepth 8000
set_option maxHeartbeats 1000000
open Go Go.Fx Go.Proofs
namespace FactsDRwG
theorem ag24 : ag Tryd.prog 24 = some 5 := by kernel_rfl
theorem arr22 : arr Tryd.prog 22 = some (4, 1) := by kernel_rfl
theorem fo24_0 : foff Tryd.prog 24 0 = some 0 := by kernel_rfl
theorem fo24_1 : foff Tryd.prog 24 1 = some 4 := by kernel_rfl
theorem pl24 : places Tryd.prog 24 = some [(0, 4), (4, 1)] := by kernel_rfl
theorem sc3 : sc Tryd.prog 3 = true := by kernel_rfl
theorem zc24 : zc Tryd.prog 24 = some [.int .i64 0, .int .i64 0, .int .i64 0, .int .i64 0, .int .i64 0] := by kernel_rfl
end FactsDRwG
open FactsDRwG

abbrev rfG : List Int := [0, 0, 0, 0, 2]
theorem rf_tail {t : Int} (h : t < -1 ∨ 4096 ≤ t) : rowM [0, 0, 0, 0, t] = false := by
  unfold rowM
  rw [decide_eq_false (show ¬ (-1 ≤ ([0, 0, 0, 0, t] : List Int).getD 4 0 ∧ ([0, 0, 0, 0, t] : List Int).getD 4 0 < 4096) by (show ¬ (-1 ≤ t ∧ t < 4096)); omega), Bool.and_false]
theorem rf_set {k : Int} (h0 : 0 ≤ k) (h3 : k ≤ 3) {v : Int} (h : v < 0 ∨ 32 < v) : rowM (rfG.set k.toNat v) = false := by
  have hv : okc v = false := by unfold okc; rw [decide_eq_false (by omega)]
  unfold rowM
  have : ((rfG.set k.toNat v).take 4).all okc = false := by
    obtain ⟨n, rfl⟩ := Int.eq_ofNat_of_zero_le h0
    match n, (show n ≤ 3 by omega) with
    | 0, _ => simp [hv]
    | 1, _ => simp [hv]
    | 2, _ => simp [hv]
    | 3, _ => simp [hv]
  rw [this, Bool.false_and]

theorem shr_pur {P : Program} {dst : Option Tmp} {ty : TypeId} {pos : String} {aft : Array Edge} {gd : Option (Nat × Bool)} {e : Env} {t t' : TypeId} {x y : Operand} {a : Int} (hx : ev e x = some (.int .i64 a)) (hy : ev e y = some (.int .u64 2)) :
    Pur P ⟨dst, .binOp .shr t x y t', ty, pos, aft, gd⟩ e (I (a.fdiv 4)) := by
  intro A w hA
  have e1 := hA.ev hx
  have e2 := hA.ev hy
  simp [execOp, e1, e2, eqGuard, binOp, Op.shift, IntKind.bits]
theorem rowForms_law (n1 n2 : Int) {H : Heap} (hT : Tens H) :
    Ret Tryd.prog 5 [I n1, I n2] H (fun v H' => v = .bool true ∧ Ext H H') := by
  obtain ⟨d, hd⟩ : ∃ d, d = 1 + bits .and .i64 n2 1023 := ⟨_, rfl⟩
  have hd3 : 1 ≤ d ∧ d ≤ 1024 := by have : 0 ≤ bits .and .i64 n2 1023 ∧ bits .and .i64 n2 1023 ≤ 1023 := and_le n2 1023 (by decide); rw [hd]; omega
  refine Ret.of_at (N := 169) Tryd.call5 Tryd.func5 rfl rfl rfl ?_
  have hE := Ext.refl H
  refine At.region rfl rfl ?_
  refine Reg.pur rfl rfl rfl rfl (Pur.asg rfl) ?_
  refine Reg.nil ?_
  refine At.region rfl rfl ?_
  refine Reg.op rfl rfl rfl rfl (Does.call rfl (awake8_ok (hT.ext hE))) ?_
  rintro _ H1_0 ⟨rfl, hE1_0⟩
  have z1_0 := hE1_0.lt
  replace hE := hE.ext hE1_0
  refine Reg.pur rfl rfl rfl rfl (Pur.not rfl) ?_
  refine Reg.nil ?_
  refine At.condF rfl rfl rfl ?_
  have hbb : 0 ≤ bits .and .i64 n2 1023 ∧ bits .and .i64 n2 1023 ≤ 1023 := and_le n2 1023 (by decide)
  refine At.region rfl rfl ?_
  refine Reg.pur rfl rfl rfl rfl (Pur.mv rfl) ?_
  refine Reg.pur rfl rfl rfl rfl (Pur.and rfl rfl) ?_
  first | refine Reg.pur rfl rfl rfl rfl (Pur.add64 rfl rfl (by omega)) ?_ | refine Reg.pur rfl rfl rfl rfl (Pur.add64 rfl rfl (by assumption)) ?_ | refine Reg.pur rfl rfl rfl rfl (Pur.add rfl rfl) ?_
  refine Reg.pur rfl rfl rfl rfl (Pur.asg rfl) ?_
  refine Reg.nil ?_
  rw [← hd]
  clear hd hbb
  refine At.region rfl rfl ?_
  refine Reg.pur rfl rfl rfl rfl (Pur.bld (cs := [_, _, _, _, _]) pl24 zc24 rfl rfl ⟨rfl, rfl, rfl, rfl, rfl, rfl⟩) ?_
  refine Reg.op rfl rfl rfl rfl (Does.alloc zc24) ?_
  rintro _ H4_1 ⟨rfl, hn4_1⟩
  have z4_1 := hn4_1.size
  replace hE := hE.ext hn4_1.ext
  have o4_1 := hn4_1.own
  refine Reg.op0 rfl rfl rfl (Does.stn ag24 rfl rfl (by first | rfl | exact ones_Is _) (by first | rfl | (simp [*]; done)) o4_1 (by first | decide | (simp; done) | (simp; omega) | omega)) ?_
  rintro _ H4_2 hu4_2
  have z4_2 := hu4_2.size
  replace hE := hE.upw hu4_2 (by omega)
  replace o4_1 := hu4_2.own
  first | rw [over (by first | rfl | (simp; done))] at o4_1 | skip
  refine Reg.nil ?_
  refine At.region rfl rfl ?_
  refine Reg.pur rfl rfl rfl rfl (Pur.mv rfl) ?_
  refine Reg.pur rfl rfl rfl rfl (Pur.cnv Tryd.underlying3 Tryd.underlying47 rfl) ?_
  refine Reg.pur rfl rfl rfl rfl (Pur.rem rfl rfl (by decide)) ?_
  refine Reg.nil ?_
  refine At.region rfl rfl ?_
  refine Reg.pur rfl rfl rfl rfl (Pur.eql rfl rfl) ?_
  refine Reg.pur rfl rfl rfl rfl (Pur.asg rfl) ?_
  refine Reg.nil ?_
  refine At.joinc (σ := List Int) (fun r => [(5, I d), (6, ptr H1_0.size 0)]) (fun r H' => r.length = 5 ∧ rowM r = false ∧ Own H' H1_0.size (Is r) ∧ Ext H H') rfl (fun hJ => ?_) (fun r H9 hs => ?_)
  · refine At.cond rfl rfl (fun q43 => ?_) (fun q43 => ?_)
    · first | (simp only [decide_eq_true_eq, decide_eq_false_iff_not, Bool.not_eq_true', Bool.not_eq_false', ne_eq, Decidable.not_not, Bool.not_eq_true, Bool.not_eq_false] at q43) | (dsimp only at q43) | skip
      refine At.region rfl rfl ?_
      refine Reg.pur rfl rfl rfl rfl (Pur.mv rfl) ?_
      refine Reg.pur rfl rfl rfl rfl (Pur.sub64 rfl rfl (by omega)) ?_
      refine Reg.pur rfl rfl rfl rfl (Pur.fld _ fo24_1 rfl) ?_
      refine Reg.op0 rfl rfl rfl (Does.st sc3 rfl rfl rfl o4_1 (by first | decide | (simp; done) | (simp; omega) | omega)) ?_
      rintro _ H8_3 hu8_3
      have z8_3 := hu8_3.size
      replace hE := hE.upw hu8_3 (by omega)
      replace o4_1 := hu8_3.own
      refine Reg.nil ?_
      exact At.meets rfl (hJ [0, 0, 0, 0, -1 - d] _ ⟨rfl, rf_tail (by omega), o4_1, hE⟩) ⟨rfl, rfl, trivial⟩
    first | (simp only [decide_eq_true_eq, decide_eq_false_iff_not, Bool.not_eq_true', Bool.not_eq_false', ne_eq, Decidable.not_not, Bool.not_eq_true, Bool.not_eq_false] at q43) | (dsimp only at q43) | skip
    refine At.region rfl rfl ?_
    refine Reg.pur rfl rfl rfl rfl (Pur.eql rfl rfl) ?_
    refine Reg.pur rfl rfl rfl rfl (Pur.asg rfl) ?_
    refine Reg.nil ?_
    refine At.cond rfl rfl (fun q48 => ?_) (fun q48 => ?_)
    · first | (simp only [decide_eq_true_eq, decide_eq_false_iff_not, Bool.not_eq_true', Bool.not_eq_false', ne_eq, Decidable.not_not, Bool.not_eq_true, Bool.not_eq_false] at q48) | (dsimp only at q48) | skip
      refine At.region rfl rfl ?_
      refine Reg.pur rfl rfl rfl rfl (Pur.mv rfl) ?_
      refine Reg.pur rfl rfl rfl rfl (Pur.add64 rfl rfl (by omega)) ?_
      refine Reg.pur rfl rfl rfl rfl (Pur.fld _ fo24_1 rfl) ?_
      refine Reg.op0 rfl rfl rfl (Does.st sc3 rfl rfl rfl o4_1 (by first | decide | (simp; done) | (simp; omega) | omega)) ?_
      rintro _ H10_3 hu10_3
      have z10_3 := hu10_3.size
      replace hE := hE.upw hu10_3 (by omega)
      replace o4_1 := hu10_3.own
      refine Reg.nil ?_
      exact At.meets rfl (hJ [0, 0, 0, 0, 4095 + d] _ ⟨rfl, rf_tail (by omega), o4_1, hE⟩) ⟨rfl, rfl, trivial⟩
    first | (simp only [decide_eq_true_eq, decide_eq_false_iff_not, Bool.not_eq_true', Bool.not_eq_false', ne_eq, Decidable.not_not, Bool.not_eq_true, Bool.not_eq_false] at q48) | (dsimp only at q48) | skip
    refine At.region rfl rfl ?_
    refine Reg.pur rfl rfl rfl rfl (Pur.eql rfl rfl) ?_
    refine Reg.pur rfl rfl rfl rfl (Pur.asg rfl) ?_
    refine Reg.nil ?_
    refine At.cond rfl rfl (fun q53 => ?_) (fun q53 => ?_)
    · first | (simp only [decide_eq_true_eq, decide_eq_false_iff_not, Bool.not_eq_true', Bool.not_eq_false', ne_eq, Decidable.not_not, Bool.not_eq_true, Bool.not_eq_false] at q53) | (dsimp only at q53) | skip
      have hb12 : 0 ≤ bits .and .i64 (n1.fdiv 4) 3 ∧ bits .and .i64 (n1.fdiv 4) 3 ≤ 3 := and_le _ 3 (by decide)
      refine At.region rfl rfl ?_
      refine Reg.pur rfl rfl rfl rfl (Pur.mv rfl) ?_
      refine Reg.pur rfl rfl rfl rfl (shr_pur rfl rfl) ?_
      refine Reg.pur rfl rfl rfl rfl (Pur.and rfl rfl) ?_
      refine Reg.pur rfl rfl rfl rfl (Pur.mv rfl) ?_
      refine Reg.pur rfl rfl rfl rfl (Pur.neg64 rfl (by omega)) ?_
      refine Reg.pur rfl rfl rfl rfl (Pur.fld _ fo24_0 rfl) ?_
      refine Reg.pur rfl rfl rfl rfl (Pur.idxP arr22 rfl rfl (by omega) (by omega)) ?_
      refine Reg.op0 rfl rfl rfl (Does.st sc3 rfl rfl rfl o4_1 (by first | decide | (simp; done) | (simp; omega) | omega)) ?_
      rintro _ H12_7 hu12_7
      have z12_7 := hu12_7.size
      replace hE := hE.upw hu12_7 (by omega)
      replace o4_1 := hu12_7.own
      refine Reg.nil ?_
      exact At.meets rfl (hJ (rfG.set (bits .and .i64 (n1.fdiv 4) 3).toNat (-d)) _ ⟨by simp, rf_set hb12.1 hb12.2 (by omega), o4_1.of (by rw [show 0 + 0 + (bits .and .i64 (n1.fdiv 4) 3).toNat * 1 = (bits .and .i64 (n1.fdiv 4) 3).toNat from by omega]; simp [Is, List.map_set]), hE⟩) ⟨rfl, rfl, trivial⟩
    first | (simp only [decide_eq_true_eq, decide_eq_false_iff_not, Bool.not_eq_true', Bool.not_eq_false', ne_eq, Decidable.not_not, Bool.not_eq_true, Bool.not_eq_false] at q53) | (dsimp only at q53) | skip
    have hb6 : 0 ≤ bits .and .i64 (n1.fdiv 4) 3 ∧ bits .and .i64 (n1.fdiv 4) 3 ≤ 3 := and_le _ 3 (by decide)
    refine At.region rfl rfl ?_
    refine Reg.pur rfl rfl rfl rfl (Pur.mv rfl) ?_
    refine Reg.pur rfl rfl rfl rfl (shr_pur rfl rfl) ?_
    refine Reg.pur rfl rfl rfl rfl (Pur.and rfl rfl) ?_
    refine Reg.pur rfl rfl rfl rfl (Pur.mv rfl) ?_
    refine Reg.pur rfl rfl rfl rfl (Pur.add64 rfl rfl (by omega)) ?_
    refine Reg.pur rfl rfl rfl rfl (Pur.fld _ fo24_0 rfl) ?_
    refine Reg.pur rfl rfl rfl rfl (Pur.idxP arr22 rfl rfl (by omega) (by omega)) ?_
    refine Reg.op0 rfl rfl rfl (Does.st sc3 rfl rfl rfl o4_1 (by first | decide | (simp; done) | (simp; omega) | omega)) ?_
    rintro _ H6_7 hu6_7
    have z6_7 := hu6_7.size
    replace hE := hE.upw hu6_7 (by omega)
    replace o4_1 := hu6_7.own
    refine Reg.nil ?_
    exact At.meets rfl (hJ (rfG.set (bits .and .i64 (n1.fdiv 4) 3).toNat (32 + d)) _ ⟨by simp, rf_set hb6.1 hb6.2 (by omega), o4_1.of (by rw [show 0 + 0 + (bits .and .i64 (n1.fdiv 4) 3).toNat * 1 = (bits .and .i64 (n1.fdiv 4) 3).toNat from by omega]; simp [Is, List.map_set]), hE⟩) ⟨rfl, rfl, trivial⟩
  obtain ⟨h5, hno, o4_1, hE⟩ := hs
  have h5' : (Is r).length = 5 := by simp [h5]
  have e1 : uniR r rfG 9 = ([], 800) := uniR_no (fun k => by rw [hno] at k; cases k.1)
  have e2 : uniR rfG r 9 = ([], 800) := uniR_no (fun k => by rw [hno] at k; cases k.2.1)
  have e3 : uniR rfG rfG 2 = ([], 800) := uniR_no (by decide)
  have e4 : uniR rfG rfG (4095 + d) = ([], 800) := uniR_no (fun k => by have := k.2.2.2.1; omega)
  have e5 : wth r 0 = (noRow, 800) := wth_no (fun k => by rw [hno] at k; cases k.1)
  have e6 : wth [0, 32, 0, 0, 2] 1 = (noRow, 800) := by decide
  have e7 : wth rfG (3 + d) = (noRow, 800) := wth_no (fun k => by have := k.2.2.1; omega)
  have e8 : wth rfG (-d) = (noRow, 800) := wth_no (fun k => by have := k.2.1; omega)
  have z_hE := hE.lt
  have z_o4_1 := o4_1.lt
  refine At.region rfl rfl ?_
  refine Reg.pur rfl rfl rfl rfl (Pur.bld (cs := [_, _, _, _, _]) pl24 zc24 rfl rfl ⟨rfl, rfl, rfl, rfl, rfl, rfl⟩) ?_
  refine Reg.op rfl rfl rfl rfl (Does.alloc zc24) ?_
  rintro _ H13_1 ⟨rfl, hn13_1⟩
  have z13_1 := hn13_1.size
  replace hE := hE.ext hn13_1.ext
  replace o4_1 := o4_1.ext hn13_1.ext
  have o13_1 := hn13_1.own
  refine Reg.op0 rfl rfl rfl (Does.stn ag24 rfl rfl (by first | rfl | exact ones_Is _) (by first | rfl | (simp [*]; done)) o13_1 (by first | decide | (simp; done) | (simp; omega) | omega)) ?_
  rintro _ H13_2 hu13_2
  have z13_2 := hu13_2.size
  replace hE := hE.upw hu13_2 (by omega)
  replace o4_1 := o4_1.upw hu13_2 (by omega)
  replace o13_1 := hu13_2.own
  first | rw [over (by first | rfl | (simp; done))] at o13_1 | skip
  refine Reg.nil ?_
  refine At.region rfl rfl ?_
  refine Reg.lod rfl rfl rfl rfl (Lod.ldn ag24 rfl o13_1.blk (whole rfl) rfl) ?_
  refine Reg.op rfl rfl rfl rfl (Does.alloc zc24) ?_
  rintro _ H14_1 ⟨rfl, hn14_1⟩
  have z14_1 := hn14_1.size
  replace hE := hE.ext hn14_1.ext
  replace o4_1 := o4_1.ext hn14_1.ext
  replace o13_1 := o13_1.ext hn14_1.ext
  have o14_1 := hn14_1.own
  refine Reg.op0 rfl rfl rfl (Does.stn ag24 rfl rfl (by first | rfl | exact ones_Is _) (by first | rfl | (simp [*]; done)) o14_1 (by first | decide | (simp; done) | (simp; omega) | omega)) ?_
  rintro _ H14_2 hu14_2
  have z14_2 := hu14_2.size
  replace hE := hE.upw hu14_2 (by omega)
  replace o4_1 := o4_1.upw hu14_2 (by omega)
  replace o13_1 := o13_1.upw hu14_2 (by omega)
  replace o14_1 := hu14_2.own
  first | rw [over (by first | rfl | (simp; done))] at o14_1 | skip
  refine Reg.nil ?_
  refine At.region rfl rfl ?_
  refine Reg.pur rfl rfl rfl rfl (Pur.fld _ fo24_0 rfl) ?_
  refine Reg.pur rfl rfl rfl rfl (Pur.idxP arr22 rfl rfl (by omega) (by omega)) ?_
  refine Reg.op0 rfl rfl rfl (Does.st sc3 rfl rfl rfl o14_1 (by first | decide | (simp; done) | (simp; omega) | omega)) ?_
  rintro _ H15_2 hu15_2
  have z15_2 := hu15_2.size
  replace hE := hE.upw hu15_2 (by omega)
  replace o4_1 := o4_1.upw hu15_2 (by omega)
  replace o13_1 := o13_1.upw hu15_2 (by omega)
  replace o14_1 := hu15_2.own
  refine Reg.nil ?_
  refine At.region rfl rfl ?_
  refine Reg.lod rfl rfl rfl rfl (Lod.ldn ag24 rfl o4_1.blk (whole h5') h5') ?_
  refine Reg.op rfl rfl rfl rfl (Does.call rfl (rowTextP_ok h5 (hT.ext hE))) ?_
  rintro _ H16_1 ⟨rfl, hE16_1⟩
  have z16_1 := hE16_1.lt
  replace hE := hE.ext hE16_1
  replace o4_1 := o4_1.ext hE16_1
  replace o13_1 := o13_1.ext hE16_1
  replace o14_1 := o14_1.ext hE16_1
  rw [rtV_no hno]
  refine Reg.pur rfl rfl rfl rfl (Pur.mv rfl) ?_
  refine Reg.pur rfl rfl rfl rfl (Pur.ext rfl rfl) ?_
  refine Reg.pur rfl rfl rfl rfl (Pur.ext rfl rfl) ?_
  refine Reg.pur rfl rfl rfl rfl (Pur.asg rfl) ?_
  refine Reg.pur rfl rfl rfl rfl (Pur.asg rfl) ?_
  refine Reg.nil ?_
  refine At.region rfl rfl ?_
  refine Reg.lod rfl rfl rfl rfl (Lod.ldn ag24 rfl o4_1.blk (whole h5') h5') ?_
  refine Reg.op rfl rfl rfl rfl (Does.call rfl (withP_ok h5 0)) ?_
  rintro _ H17_1 ⟨rfl, hE17_1⟩
  have z17_1 := hE17_1.lt
  replace hE := hE.ext hE17_1
  replace o4_1 := o4_1.ext hE17_1
  replace o13_1 := o13_1.ext hE17_1
  replace o14_1 := o14_1.ext hE17_1
  rw [e5]
  refine Reg.pur rfl rfl rfl rfl (Pur.mv rfl) ?_
  refine Reg.pur rfl rfl rfl rfl (Pur.ext rfl rfl) ?_
  refine Reg.pur rfl rfl rfl rfl (Pur.ext rfl rfl) ?_
  refine Reg.op rfl rfl rfl rfl (Does.alloc zc24) ?_
  rintro _ H17_5 ⟨rfl, hn17_5⟩
  have z17_5 := hn17_5.size
  replace hE := hE.ext hn17_5.ext
  replace o4_1 := o4_1.ext hn17_5.ext
  replace o13_1 := o13_1.ext hn17_5.ext
  replace o14_1 := o14_1.ext hn17_5.ext
  have o17_5 := hn17_5.own
  refine Reg.op0 rfl rfl rfl (Does.stn ag24 rfl rfl (by first | rfl | exact ones_Is _) (by first | rfl | (simp [*]; done)) o17_5 (by first | decide | (simp; done) | (simp; omega) | omega)) ?_
  rintro _ H17_6 hu17_6
  have z17_6 := hu17_6.size
  replace hE := hE.upw hu17_6 (by omega)
  replace o4_1 := o4_1.upw hu17_6 (by omega)
  replace o13_1 := o13_1.upw hu17_6 (by omega)
  replace o14_1 := o14_1.upw hu17_6 (by omega)
  replace o17_5 := hu17_6.own
  first | rw [over (by first | rfl | (simp; done))] at o17_5 | skip
  refine Reg.pur rfl rfl rfl rfl (Pur.asg rfl) ?_
  refine Reg.nil ?_
  refine At.region rfl rfl ?_
  refine Reg.lod rfl rfl rfl rfl (Lod.ldn ag24 rfl o4_1.blk (whole h5') h5') ?_
  refine Reg.lod rfl rfl rfl rfl (Lod.ldn ag24 rfl o13_1.blk (whole rfl) rfl) ?_
  refine Reg.op rfl rfl rfl rfl (Does.call rfl (rowUnifyO_ok r rfG 9 h5 rfl _)) ?_
  rintro v18_2 H18_2 ⟨A1, k1, rfl, _, _, hE18_2⟩
  have z18_2 := hE18_2.lt
  replace hE := hE.ext hE18_2
  replace o4_1 := o4_1.ext hE18_2
  replace o13_1 := o13_1.ext hE18_2
  replace o14_1 := o14_1.ext hE18_2
  replace o17_5 := o17_5.ext hE18_2
  rw [e1]
  refine Reg.pur rfl rfl rfl rfl (Pur.mv rfl) ?_
  refine Reg.pur rfl rfl rfl rfl (Pur.ext rfl rfl) ?_
  refine Reg.pur rfl rfl rfl rfl (Pur.ext rfl rfl) ?_
  refine Reg.pur rfl rfl rfl rfl (Pur.asg rfl) ?_
  refine Reg.pur rfl rfl rfl rfl (Pur.asg rfl) ?_
  refine Reg.nil ?_
  refine At.region rfl rfl ?_
  refine Reg.lod rfl rfl rfl rfl (Lod.ldn ag24 rfl o13_1.blk (whole rfl) rfl) ?_
  refine Reg.lod rfl rfl rfl rfl (Lod.ldn ag24 rfl o4_1.blk (whole h5') h5') ?_
  refine Reg.op rfl rfl rfl rfl (Does.call rfl (rowUnifyO_ok rfG r 9 rfl h5 _)) ?_
  rintro v19_2 H19_2 ⟨A2, k2, rfl, _, _, hE19_2⟩
  have z19_2 := hE19_2.lt
  replace hE := hE.ext hE19_2
  replace o4_1 := o4_1.ext hE19_2
  replace o13_1 := o13_1.ext hE19_2
  replace o14_1 := o14_1.ext hE19_2
  replace o17_5 := o17_5.ext hE19_2
  rw [e2]
  refine Reg.pur rfl rfl rfl rfl (Pur.mv rfl) ?_
  refine Reg.pur rfl rfl rfl rfl (Pur.ext rfl rfl) ?_
  refine Reg.pur rfl rfl rfl rfl (Pur.ext rfl rfl) ?_
  refine Reg.pur rfl rfl rfl rfl (Pur.asg rfl) ?_
  refine Reg.pur rfl rfl rfl rfl (Pur.asg rfl) ?_
  refine Reg.nil ?_
  refine At.region rfl rfl ?_
  refine Reg.lod rfl rfl rfl rfl (Lod.ldn ag24 rfl o13_1.blk (whole rfl) rfl) ?_
  refine Reg.lod rfl rfl rfl rfl (Lod.ldn ag24 rfl o13_1.blk (whole rfl) rfl) ?_
  refine Reg.op rfl rfl rfl rfl (Does.call rfl (rowUnifyO_ok rfG rfG 2 rfl rfl _)) ?_
  rintro v20_2 H20_2 ⟨A3, k3, rfl, _, _, hE20_2⟩
  have z20_2 := hE20_2.lt
  replace hE := hE.ext hE20_2
  replace o4_1 := o4_1.ext hE20_2
  replace o13_1 := o13_1.ext hE20_2
  replace o14_1 := o14_1.ext hE20_2
  replace o17_5 := o17_5.ext hE20_2
  rw [e3]
  refine Reg.pur rfl rfl rfl rfl (Pur.mv rfl) ?_
  refine Reg.pur rfl rfl rfl rfl (Pur.ext rfl rfl) ?_
  refine Reg.pur rfl rfl rfl rfl (Pur.ext rfl rfl) ?_
  refine Reg.pur rfl rfl rfl rfl (Pur.asg rfl) ?_
  refine Reg.pur rfl rfl rfl rfl (Pur.asg rfl) ?_
  refine Reg.nil ?_
  refine At.region rfl rfl ?_
  refine Reg.lod rfl rfl rfl rfl (Lod.ldn ag24 rfl o13_1.blk (whole rfl) rfl) ?_
  refine Reg.lod rfl rfl rfl rfl (Lod.ldn ag24 rfl o13_1.blk (whole rfl) rfl) ?_
  refine Reg.pur rfl rfl rfl rfl (Pur.mv rfl) ?_
  refine Reg.pur rfl rfl rfl rfl (Pur.add64 rfl rfl (by omega)) ?_
  refine Reg.op rfl rfl rfl rfl (Does.call rfl (rowUnifyO_ok rfG rfG (4095 + d) rfl rfl _)) ?_
  rintro v21_4 H21_4 ⟨A4, k4, rfl, _, _, hE21_4⟩
  have z21_4 := hE21_4.lt
  replace hE := hE.ext hE21_4
  replace o4_1 := o4_1.ext hE21_4
  replace o13_1 := o13_1.ext hE21_4
  replace o14_1 := o14_1.ext hE21_4
  replace o17_5 := o17_5.ext hE21_4
  rw [e4]
  refine Reg.pur rfl rfl rfl rfl (Pur.mv rfl) ?_
  refine Reg.pur rfl rfl rfl rfl (Pur.ext rfl rfl) ?_
  refine Reg.pur rfl rfl rfl rfl (Pur.ext rfl rfl) ?_
  refine Reg.pur rfl rfl rfl rfl (Pur.asg rfl) ?_
  refine Reg.pur rfl rfl rfl rfl (Pur.asg rfl) ?_
  refine Reg.nil ?_
  refine At.region rfl rfl ?_
  refine Reg.lod rfl rfl rfl rfl (Lod.ldn ag24 rfl o14_1.blk (whole rfl) rfl) ?_
  refine Reg.op rfl rfl rfl rfl (Does.call rfl (withP_ok (r := [0, 32, 0, 0, 2]) rfl 1)) ?_
  rintro _ H22_1 ⟨rfl, hE22_1⟩
  have z22_1 := hE22_1.lt
  replace hE := hE.ext hE22_1
  replace o4_1 := o4_1.ext hE22_1
  replace o13_1 := o13_1.ext hE22_1
  replace o14_1 := o14_1.ext hE22_1
  replace o17_5 := o17_5.ext hE22_1
  rw [e6]
  refine Reg.pur rfl rfl rfl rfl (Pur.mv rfl) ?_
  refine Reg.pur rfl rfl rfl rfl (Pur.ext rfl rfl) ?_
  refine Reg.pur rfl rfl rfl rfl (Pur.ext rfl rfl) ?_
  refine Reg.op rfl rfl rfl rfl (Does.alloc zc24) ?_
  rintro _ H22_5 ⟨rfl, hn22_5⟩
  have z22_5 := hn22_5.size
  replace hE := hE.ext hn22_5.ext
  replace o4_1 := o4_1.ext hn22_5.ext
  replace o13_1 := o13_1.ext hn22_5.ext
  replace o14_1 := o14_1.ext hn22_5.ext
  replace o17_5 := o17_5.ext hn22_5.ext
  have o22_5 := hn22_5.own
  refine Reg.op0 rfl rfl rfl (Does.stn ag24 rfl rfl (by first | rfl | exact ones_Is _) (by first | rfl | (simp [*]; done)) o22_5 (by first | decide | (simp; done) | (simp; omega) | omega)) ?_
  rintro _ H22_6 hu22_6
  have z22_6 := hu22_6.size
  replace hE := hE.upw hu22_6 (by omega)
  replace o4_1 := o4_1.upw hu22_6 (by omega)
  replace o13_1 := o13_1.upw hu22_6 (by omega)
  replace o14_1 := o14_1.upw hu22_6 (by omega)
  replace o17_5 := o17_5.upw hu22_6 (by omega)
  replace o22_5 := hu22_6.own
  first | rw [over (by first | rfl | (simp; done))] at o22_5 | skip
  refine Reg.pur rfl rfl rfl rfl (Pur.asg rfl) ?_
  refine Reg.nil ?_
  refine At.region rfl rfl ?_
  refine Reg.lod rfl rfl rfl rfl (Lod.ldn ag24 rfl o13_1.blk (whole rfl) rfl) ?_
  refine Reg.pur rfl rfl rfl rfl (Pur.mv rfl) ?_
  refine Reg.pur rfl rfl rfl rfl (Pur.add64 rfl rfl (by omega)) ?_
  refine Reg.op rfl rfl rfl rfl (Does.call rfl (withP_ok (r := rfG) rfl (3 + d))) ?_
  rintro _ H23_3 ⟨rfl, hE23_3⟩
  have z23_3 := hE23_3.lt
  replace hE := hE.ext hE23_3
  replace o4_1 := o4_1.ext hE23_3
  replace o13_1 := o13_1.ext hE23_3
  replace o14_1 := o14_1.ext hE23_3
  replace o17_5 := o17_5.ext hE23_3
  replace o22_5 := o22_5.ext hE23_3
  rw [e7]
  refine Reg.pur rfl rfl rfl rfl (Pur.mv rfl) ?_
  refine Reg.pur rfl rfl rfl rfl (Pur.ext rfl rfl) ?_
  refine Reg.pur rfl rfl rfl rfl (Pur.ext rfl rfl) ?_
  refine Reg.op rfl rfl rfl rfl (Does.alloc zc24) ?_
  rintro _ H23_7 ⟨rfl, hn23_7⟩
  have z23_7 := hn23_7.size
  replace hE := hE.ext hn23_7.ext
  replace o4_1 := o4_1.ext hn23_7.ext
  replace o13_1 := o13_1.ext hn23_7.ext
  replace o14_1 := o14_1.ext hn23_7.ext
  replace o17_5 := o17_5.ext hn23_7.ext
  replace o22_5 := o22_5.ext hn23_7.ext
  have o23_7 := hn23_7.own
  refine Reg.op0 rfl rfl rfl (Does.stn ag24 rfl rfl (by first | rfl | exact ones_Is _) (by first | rfl | (simp [*]; done)) o23_7 (by first | decide | (simp; done) | (simp; omega) | omega)) ?_
  rintro _ H23_8 hu23_8
  have z23_8 := hu23_8.size
  replace hE := hE.upw hu23_8 (by omega)
  replace o4_1 := o4_1.upw hu23_8 (by omega)
  replace o13_1 := o13_1.upw hu23_8 (by omega)
  replace o14_1 := o14_1.upw hu23_8 (by omega)
  replace o17_5 := o17_5.upw hu23_8 (by omega)
  replace o22_5 := o22_5.upw hu23_8 (by omega)
  replace o23_7 := hu23_8.own
  first | rw [over (by first | rfl | (simp; done))] at o23_7 | skip
  refine Reg.pur rfl rfl rfl rfl (Pur.asg rfl) ?_
  refine Reg.nil ?_
  refine At.region rfl rfl ?_
  refine Reg.lod rfl rfl rfl rfl (Lod.ldn ag24 rfl o13_1.blk (whole rfl) rfl) ?_
  refine Reg.pur rfl rfl rfl rfl (Pur.mv rfl) ?_
  refine Reg.pur rfl rfl rfl rfl (Pur.neg64 rfl (by omega)) ?_
  refine Reg.op rfl rfl rfl rfl (Does.call rfl (withP_ok (r := rfG) rfl (-d))) ?_
  rintro _ H24_3 ⟨rfl, hE24_3⟩
  have z24_3 := hE24_3.lt
  replace hE := hE.ext hE24_3
  replace o4_1 := o4_1.ext hE24_3
  replace o13_1 := o13_1.ext hE24_3
  replace o14_1 := o14_1.ext hE24_3
  replace o17_5 := o17_5.ext hE24_3
  replace o22_5 := o22_5.ext hE24_3
  replace o23_7 := o23_7.ext hE24_3
  rw [e8]
  refine Reg.pur rfl rfl rfl rfl (Pur.mv rfl) ?_
  refine Reg.pur rfl rfl rfl rfl (Pur.ext rfl rfl) ?_
  refine Reg.pur rfl rfl rfl rfl (Pur.ext rfl rfl) ?_
  refine Reg.op rfl rfl rfl rfl (Does.alloc zc24) ?_
  rintro _ H24_7 ⟨rfl, hn24_7⟩
  have z24_7 := hn24_7.size
  replace hE := hE.ext hn24_7.ext
  replace o4_1 := o4_1.ext hn24_7.ext
  replace o13_1 := o13_1.ext hn24_7.ext
  replace o14_1 := o14_1.ext hn24_7.ext
  replace o17_5 := o17_5.ext hn24_7.ext
  replace o22_5 := o22_5.ext hn24_7.ext
  replace o23_7 := o23_7.ext hn24_7.ext
  have o24_7 := hn24_7.own
  refine Reg.op0 rfl rfl rfl (Does.stn ag24 rfl rfl (by first | rfl | exact ones_Is _) (by first | rfl | (simp [*]; done)) o24_7 (by first | decide | (simp; done) | (simp; omega) | omega)) ?_
  rintro _ H24_8 hu24_8
  have z24_8 := hu24_8.size
  replace hE := hE.upw hu24_8 (by omega)
  replace o4_1 := o4_1.upw hu24_8 (by omega)
  replace o13_1 := o13_1.upw hu24_8 (by omega)
  replace o14_1 := o14_1.upw hu24_8 (by omega)
  replace o17_5 := o17_5.upw hu24_8 (by omega)
  replace o22_5 := o22_5.upw hu24_8 (by omega)
  replace o23_7 := o23_7.upw hu24_8 (by omega)
  replace o24_7 := hu24_8.own
  first | rw [over (by first | rfl | (simp; done))] at o24_7 | skip
  refine Reg.pur rfl rfl rfl rfl (Pur.asg rfl) ?_
  refine Reg.nil ?_
  refine At.region rfl rfl ?_
  refine Reg.lod rfl rfl rfl rfl (Lod.ldn ag24 rfl o4_1.blk (whole h5') h5') ?_
  refine Reg.op rfl rfl rfl rfl (Does.call rfl (rowMay_ok r h5 _)) ?_
  rintro _ H25_1 ⟨rfl, hE25_1⟩
  have z25_1 := hE25_1.lt
  replace hE := hE.ext hE25_1
  replace o4_1 := o4_1.ext hE25_1
  replace o13_1 := o13_1.ext hE25_1
  replace o14_1 := o14_1.ext hE25_1
  replace o17_5 := o17_5.ext hE25_1
  replace o22_5 := o22_5.ext hE25_1
  replace o23_7 := o23_7.ext hE25_1
  replace o24_7 := o24_7.ext hE25_1
  refine Reg.pur rfl rfl rfl rfl (Pur.not rfl) ?_
  refine Reg.pur rfl rfl rfl rfl (Pur.mv rfl) ?_
  refine Reg.known (b' := true) 124 rfl (by rw [hno]; rfl) ?_
  refine Reg.gpur rfl rfl rfl rfl rfl rfl (Pur.mv rfl) ?_
  refine Reg.gop rfl rfl rfl rfl rfl rfl (Does.call rfl (numE_ok _ _)) ?_
  rintro _ H25_1 ⟨rfl, rfl⟩
  refine Reg.gpur rfl rfl rfl rfl rfl rfl (Pur.eql rfl rfl) ?_
  refine Reg.pur rfl rfl rfl rfl (Pur.pickT rfl rfl) ?_
  refine Reg.pur rfl rfl rfl rfl (Pur.mv rfl) ?_
  refine Reg.known (b' := true) 129 rfl (by first | rfl | simp [hno]) ?_
  refine Reg.gpur rfl rfl rfl rfl rfl rfl (Pur.mv rfl) ?_
  refine Reg.gop rfl rfl rfl rfl rfl rfl (Does.call rfl (numE_ok _ _)) ?_
  rintro _ H25_1 ⟨rfl, rfl⟩
  refine Reg.gpur rfl rfl rfl rfl rfl rfl (Pur.eql rfl rfl) ?_
  refine Reg.pur rfl rfl rfl rfl (Pur.pickT rfl rfl) ?_
  refine Reg.pur rfl rfl rfl rfl (Pur.mv rfl) ?_
  refine Reg.known (b' := true) 134 rfl (by first | rfl | simp [hno]) ?_
  refine Reg.gpur rfl rfl rfl rfl rfl rfl (Pur.mv rfl) ?_
  refine Reg.gop rfl rfl rfl rfl rfl rfl (Does.call rfl (numE_ok _ _)) ?_
  rintro _ H25_1 ⟨rfl, rfl⟩
  refine Reg.gpur rfl rfl rfl rfl rfl rfl (Pur.eql rfl rfl) ?_
  refine Reg.pur rfl rfl rfl rfl (Pur.pickT rfl rfl) ?_
  refine Reg.pur rfl rfl rfl rfl (Pur.mv rfl) ?_
  refine Reg.known (b' := true) 139 rfl (by first | rfl | simp [hno]) ?_
  refine Reg.gpur rfl rfl rfl rfl rfl rfl (Pur.mv rfl) ?_
  refine Reg.gop rfl rfl rfl rfl rfl rfl (Does.call rfl (numE_ok _ _)) ?_
  rintro _ H25_1 ⟨rfl, rfl⟩
  refine Reg.gpur rfl rfl rfl rfl rfl rfl (Pur.eql rfl rfl) ?_
  refine Reg.pur rfl rfl rfl rfl (Pur.pickT rfl rfl) ?_
  refine Reg.pur rfl rfl rfl rfl (Pur.mv rfl) ?_
  refine Reg.known (b' := true) 144 rfl (by first | rfl | simp [hno]) ?_
  refine Reg.gpur rfl rfl rfl rfl rfl rfl (Pur.mv rfl) ?_
  refine Reg.gop rfl rfl rfl rfl rfl rfl (Does.call rfl (numE_ok _ _)) ?_
  rintro _ H25_1 ⟨rfl, rfl⟩
  refine Reg.gpur rfl rfl rfl rfl rfl rfl (Pur.eql rfl rfl) ?_
  refine Reg.pur rfl rfl rfl rfl (Pur.pickT rfl rfl) ?_
  refine Reg.pur rfl rfl rfl rfl (Pur.mv rfl) ?_
  refine Reg.known (b' := true) 149 rfl (by first | rfl | simp [hno]) ?_
  refine Reg.gpur rfl rfl rfl rfl rfl rfl (Pur.mv rfl) ?_
  refine Reg.gop rfl rfl rfl rfl rfl rfl (Does.call rfl (numE_ok _ _)) ?_
  rintro _ H25_1 ⟨rfl, rfl⟩
  refine Reg.gpur rfl rfl rfl rfl rfl rfl (Pur.eql rfl rfl) ?_
  refine Reg.pur rfl rfl rfl rfl (Pur.pickT rfl rfl) ?_
  refine Reg.pur rfl rfl rfl rfl (Pur.mv rfl) ?_
  refine Reg.known (b' := true) 154 rfl (by first | rfl | simp [hno]) ?_
  refine Reg.gpur rfl rfl rfl rfl rfl rfl (Pur.mv rfl) ?_
  refine Reg.gop rfl rfl rfl rfl rfl rfl (Does.call rfl (numE_ok _ _)) ?_
  rintro _ H25_1 ⟨rfl, rfl⟩
  refine Reg.gpur rfl rfl rfl rfl rfl rfl (Pur.eql rfl rfl) ?_
  refine Reg.pur rfl rfl rfl rfl (Pur.pickT rfl rfl) ?_
  refine Reg.pur rfl rfl rfl rfl (Pur.mv rfl) ?_
  refine Reg.known (b' := true) 159 rfl (by first | rfl | simp [hno]) ?_
  refine Reg.gpur rfl rfl rfl rfl rfl rfl (Pur.mv rfl) ?_
  refine Reg.gop rfl rfl rfl rfl rfl rfl (Does.call rfl (numE_ok _ _)) ?_
  rintro _ H25_1 ⟨rfl, rfl⟩
  refine Reg.gpur rfl rfl rfl rfl rfl rfl (Pur.eql rfl rfl) ?_
  refine Reg.pur rfl rfl rfl rfl (Pur.pickT rfl rfl) ?_
  refine Reg.pur rfl rfl rfl rfl (Pur.mv rfl) ?_
  refine Reg.known (b' := true) 164 rfl (by first | rfl | simp [hno]) ?_
  refine Reg.gpur rfl rfl rfl rfl rfl rfl (Pur.mv rfl) ?_
  refine Reg.gop rfl rfl rfl rfl rfl rfl (Does.call rfl (numE_ok _ _)) ?_
  rintro _ H25_1 ⟨rfl, rfl⟩
  refine Reg.gpur rfl rfl rfl rfl rfl rfl (Pur.eql rfl rfl) ?_
  refine Reg.pur rfl rfl rfl rfl (Pur.pickT rfl rfl) ?_
  refine Reg.pur rfl rfl rfl rfl (Pur.asg rfl) ?_
  refine Reg.nil ?_
  refine At.ret rfl Tryd.func5 rfl ?_
  exact ⟨rfl, hE⟩
end Go.Proofs.YtlfillhffpiffaaDoor

namespace Go.Proofs.YtlfillhffpiffaaDoor
set_option linter.unusedSimpArgs false
set_option linter.unusedVariables false
set_option maxRecDepth 8000
set_option maxHeartbeats 1000000
open Go Go.Fx Go.Proofs
namespace FactsDRwE
theorem ag24 : ag Tryd.prog 24 = some 5 := by kernel_rfl
theorem isl25 : isSl Tryd.prog 25 = true := by kernel_rfl
theorem zc24 : zc Tryd.prog 24 = some [.int .i64 0, .int .i64 0, .int .i64 0, .int .i64 0, .int .i64 0] := by kernel_rfl
end FactsDRwE
open FactsDRwE

theorem uniR_swap (a b : List Int) (f : Int) : (uniR a b f).2 = (uniR b a f).2 ∧ (uniR a b f).1.length = (uniR b a f).1.length := by
  unfold uniR
  by_cases h : rowM a = true ∧ rowM b = true ∧ 0 ≤ f ∧ f < 4096 ∧ a.getD 4 0 < f ∧ b.getD 4 0 < f
  · have h' : rowM b = true ∧ rowM a = true ∧ 0 ≤ f ∧ f < 4096 ∧ b.getD 4 0 < f ∧ a.getD 4 0 < f := ⟨h.2.1, h.1, h.2.2.1, h.2.2.2.1, h.2.2.2.2.2, h.2.2.2.2.1⟩
    rw [if_pos h, if_pos h']
    unfold uniQ
    by_cases h1 : a.getD 4 0 = b.getD 4 0
    · rw [if_pos h1, if_pos h1.symm]
      by_cases h2 : moreC a b = true ∨ moreC b a = true
      · rw [if_pos h2, if_pos h2.symm]; exact ⟨rfl, rfl⟩
      · rw [if_neg h2, if_neg (show ¬ (moreC b a = true ∨ moreC a b = true) from fun e => h2 e.symm)]; exact ⟨rfl, rfl⟩
    · rw [if_neg h1, if_neg (show ¬ b.getD 4 0 = a.getD 4 0 from fun e => h1 e.symm)]
      by_cases h2 : (moreC a b = true ∧ b.getD 4 0 = -1) ∨ (moreC b a = true ∧ a.getD 4 0 = -1)
      · rw [if_pos h2, if_pos h2.symm]; exact ⟨rfl, rfl⟩
      · rw [if_neg h2, if_neg (show ¬ ((moreC b a = true ∧ a.getD 4 0 = -1) ∨ (moreC a b = true ∧ b.getD 4 0 = -1)) from fun e => h2 e.symm)]
        repeat' split
        all_goals first | exact ⟨rfl, rfl⟩ | (exfalso; omega) | (exfalso; simp_all; done)
  · have h' : ¬ (rowM b = true ∧ rowM a = true ∧ 0 ≤ f ∧ f < 4096 ∧ b.getD 4 0 < f ∧ a.getD 4 0 < f) := fun h' => h ⟨h'.2.1, h'.1, h'.2.2.1, h'.2.2.2.1, h'.2.2.2.2.2, h'.2.2.2.2.1⟩
    rw [if_neg h, if_neg h']; exact ⟨rfl, rfl⟩
theorem wth_ok {r : List Int} {op : Int} (h : (wth r op).2 = 0) : rowM r = true ∧ 0 ≤ op ∧ op < 4 ∧ r.getD op.toNat 0 < 32 ∧ (wth r op).1 = r.set op.toNat (r.getD op.toNat 0 + 1) := by
  unfold wth at h ⊢
  split at h
  · rename_i k
    rw [if_pos k]
    exact ⟨k.1, k.2.1, k.2.2.1, k.2.2.2, rfl⟩
  · cases h
theorem set_at (r : List Int) (h : r.length = 5) {k i : Nat} (v : Int) (hk : k < 4) : (r.set k v).getD i 0 = if i = k then v else r.getD i 0 := by
  simp only [List.getD_eq_getElem?_getD, List.getElem?_set]
  by_cases hi : k = i
  · subst hi; simp [h, show k < 5 by omega]
  · rw [if_neg hi, if_neg (fun e => hi e.symm)]
theorem set_rowM {r : List Int} (h5 : r.length = 5) {k : Nat} (hk : k < 4) (hr : rowM r = true) (h : r.getD k 0 < 32) : rowM (r.set k (r.getD k 0 + 1)) = true := by
  have hc := row_cnt h5 hr
  have ht := rowM_t hr
  have h0 := hc k hk
  unfold rowM at hr ⊢
  have e4 : (r.set k (r.getD k 0 + 1)).getD 4 0 = r.getD 4 0 := by rw [set_at r h5 _ hk, if_neg (by omega)]
  rw [e4]
  simp only [Bool.and_eq_true, List.all_eq_true, decide_eq_true_eq] at hr ⊢
  refine ⟨fun x hx => ?_, hr.2⟩
  rw [List.take_set] at hx
  rcases List.mem_or_eq_of_mem_set hx with hx | rfl
  · exact hr.1 x hx
  · unfold okc; simp only [decide_eq_true_eq]; omega
theorem more_congr {a b a' b' : List Int} (h : ∀ i, i < 4 → (a'.getD i 0 - b'.getD i 0 = a.getD i 0 - b.getD i 0)) : subC a' b' = subC a b ∧ moreC a' b' = moreC a b := by
  have key : ∀ i, i < 4 → sb1 a' b' i = sb1 a b i ∧ decide (b'.getD i 0 < a'.getD i 0) = decide (b.getD i 0 < a.getD i 0) := by
    intro i hi
    have := h i hi
    unfold sb1
    constructor
    · by_cases hq : b.getD i 0 < a.getD i 0
      · rw [if_pos hq, if_pos (by omega)]; omega
      · rw [if_neg hq, if_neg (by omega)]
    · rw [decide_eq_decide]; omega
  constructor
  · unfold subC
    apply List.map_congr_left
    intro i hi
    exact (key i (List.mem_range.1 hi)).1
  · have e : ∀ i, i ≤ 4 → moreTo a' b' i = moreTo a b i := by
      intro i
      induction i with
      | zero => intro _; rfl
      | succ i ih => intro hi; rw [moreTo_succ, moreTo_succ, ih (by omega), (key i (by omega)).2]
    exact e 4 (Nat.le_refl _)
theorem uniR_more {a b : List Int} (ha : a.length = 5) (hb : b.length = 5) {k f : Int} (h : (wth a k).2 = 0) (h' : (wth b k).2 = 0) : uniR (wth a k).1 (wth b k).1 f = uniR a b f := by
  obtain ⟨ma, k0, k4, la, ea⟩ := wth_ok h
  obtain ⟨mb, _, _, lb, eb⟩ := wth_ok h'
  have hk : k.toNat < 4 := by omega
  rw [ea, eb]
  have ra := set_rowM ha hk ma la
  have rb := set_rowM hb hk mb lb
  have ga : ∀ i, (a.set k.toNat (a.getD k.toNat 0 + 1)).getD i 0 = if i = k.toNat then a.getD k.toNat 0 + 1 else a.getD i 0 := fun i => set_at a ha _ hk
  have gb : ∀ i, (b.set k.toNat (b.getD k.toNat 0 + 1)).getD i 0 = if i = k.toNat then b.getD k.toNat 0 + 1 else b.getD i 0 := fun i => set_at b hb _ hk
  generalize a.set k.toNat (a.getD k.toNat 0 + 1) = a' at ra ga ⊢
  generalize b.set k.toNat (b.getD k.toNat 0 + 1) = b' at rb gb ⊢
  have ta : a'.getD 4 0 = a.getD 4 0 := by rw [ga, if_neg (by omega)]
  have tb : b'.getD 4 0 = b.getD 4 0 := by rw [gb, if_neg (by omega)]
  have hd : ∀ i, a'.getD i 0 - b'.getD i 0 = a.getD i 0 - b.getD i 0 := by
    intro i
    rw [ga, gb]
    by_cases hi : i = k.toNat
    · subst hi; rw [if_pos rfl, if_pos rfl]; omega
    · rw [if_neg hi, if_neg hi]
  have c1 := more_congr (a := a) (b := b) (a' := a') (b' := b') (fun i _ => hd i)
  have c2 := more_congr (a := b) (b := a) (a' := b') (b' := a') (fun i _ => by have := hd i; omega)
  unfold uniR uniQ
  rw [ta, tb, c1.1, c1.2, c2.1, c2.2, ra, rb, ma, mb]

theorem rowSwap_law {a b : List Int} (ha : a.length = 5) (hb : b.length = 5) (op : Int) {H : Heap} (hT : Tens H) :
    Ret Tryd.prog 6 [.agg (Is a).toArray, .agg (Is b).toArray, I op] H (fun v H' => v = .bool true ∧ Ext H H') := by
  have ha' : (Is a).length = 5 := by simp [ha]
  have hb' : (Is b).length = 5 := by simp [hb]
  have hwa := wth_len ha (bits .and .i64 op 3)
  have hwa' : (Is (wth a (bits .and .i64 op 3)).1).length = 5 := by simp [hwa]
  have hwb := wth_len hb (bits .and .i64 op 3)
  have hwb' : (Is (wth b (bits .and .i64 op 3)).1).length = 5 := by simp [hwb]
  obtain ⟨hs1, hs2⟩ := uniR_swap a b 50
  refine Ret.of_at (N := 81) Tryd.call6 Tryd.func6 rfl rfl rfl ?_
  have hE := Ext.refl H
  refine At.region rfl rfl ?_
  refine Reg.op rfl rfl rfl rfl (Does.box rfl rfl) ?_
  rintro _ H0_0 ⟨rfl, hn0_0⟩
  have z0_0 := hn0_0.size
  replace hE := hE.ext hn0_0.ext
  have o0_0 := hn0_0.own
  refine Reg.op rfl rfl rfl rfl (Does.box rfl rfl) ?_
  rintro _ H0_1 ⟨rfl, hn0_1⟩
  have z0_1 := hn0_1.size
  replace hE := hE.ext hn0_1.ext
  replace o0_0 := o0_0.ext hn0_1.ext
  have o0_1 := hn0_1.own
  refine Reg.pur rfl rfl rfl rfl (Pur.asg rfl) ?_
  refine Reg.nil ?_
  refine At.region rfl rfl ?_
  refine Reg.op rfl rfl rfl rfl (Does.call rfl (awake8_ok (hT.ext hE))) ?_
  rintro _ H1_0 ⟨rfl, hE1_0⟩
  have z1_0 := hE1_0.lt
  replace hE := hE.ext hE1_0
  replace o0_0 := o0_0.ext hE1_0
  replace o0_1 := o0_1.ext hE1_0
  refine Reg.pur rfl rfl rfl rfl (Pur.not rfl) ?_
  refine Reg.nil ?_
  refine At.condF rfl rfl (rfl) ?_
  refine At.region rfl rfl ?_
  refine Reg.lod rfl rfl rfl rfl (Lod.ldn ag24 rfl o0_0.blk (whole ha') ha') ?_
  refine Reg.lod rfl rfl rfl rfl (Lod.ldn ag24 rfl o0_1.blk (whole hb') hb') ?_
  refine Reg.op rfl rfl rfl rfl (Does.call rfl (rowUnifyO_ok a b 50 ha hb _)) ?_
  rintro v3_2 H3_2 ⟨A1, k1, rfl, hB1, hO1, hE3_2⟩
  have z3_2 := hE3_2.lt
  replace hE := hE.ext hE3_2
  replace o0_0 := o0_0.ext hE3_2
  replace o0_1 := o0_1.ext hE3_2
  have hX1 := Ext.refl H3_2
  have z_hX1 := hX1.lt
  refine Reg.pur rfl rfl rfl rfl (Pur.mv rfl) ?_
  refine Reg.pur rfl rfl rfl rfl (Pur.ext rfl rfl) ?_
  refine Reg.pur rfl rfl rfl rfl (Pur.ext rfl rfl) ?_
  refine Reg.pur rfl rfl rfl rfl (Pur.asg rfl) ?_
  refine Reg.pur rfl rfl rfl rfl (Pur.asg rfl) ?_
  refine Reg.nil ?_
  refine At.region rfl rfl ?_
  refine Reg.lod rfl rfl rfl rfl (Lod.ldn ag24 rfl o0_1.blk (whole hb') hb') ?_
  refine Reg.lod rfl rfl rfl rfl (Lod.ldn ag24 rfl o0_0.blk (whole ha') ha') ?_
  refine Reg.op rfl rfl rfl rfl (Does.call rfl (rowUnifyO_ok b a 50 hb ha _)) ?_
  rintro v4_2 H4_2 ⟨A2, k2, rfl, hB2, hO2, hE4_2⟩
  have z4_2 := hE4_2.lt
  replace hE := hE.ext hE4_2
  replace o0_0 := o0_0.ext hE4_2
  replace o0_1 := o0_1.ext hE4_2
  replace hX1 := hX1.ext hE4_2
  refine Reg.pur rfl rfl rfl rfl (Pur.mv rfl) ?_
  refine Reg.pur rfl rfl rfl rfl (Pur.ext rfl rfl) ?_
  refine Reg.pur rfl rfl rfl rfl (Pur.ext rfl rfl) ?_
  refine Reg.pur rfl rfl rfl rfl (Pur.asg rfl) ?_
  refine Reg.pur rfl rfl rfl rfl (Pur.asg rfl) ?_
  refine Reg.nil ?_
  refine At.region rfl rfl ?_
  refine Reg.lod rfl rfl rfl rfl (Lod.ldn ag24 rfl o0_0.blk (whole ha') ha') ?_
  refine Reg.pur rfl rfl rfl rfl (Pur.mv rfl) ?_
  refine Reg.pur rfl rfl rfl rfl (Pur.and rfl rfl) ?_
  refine Reg.op rfl rfl rfl rfl (Does.call rfl (withP_ok ha _)) ?_
  rintro _ H5_3 ⟨rfl, hE5_3⟩
  have z5_3 := hE5_3.lt
  replace hE := hE.ext hE5_3
  replace o0_0 := o0_0.ext hE5_3
  replace o0_1 := o0_1.ext hE5_3
  replace hX1 := hX1.ext hE5_3
  refine Reg.pur rfl rfl rfl rfl (Pur.mv rfl) ?_
  refine Reg.pur rfl rfl rfl rfl (Pur.ext rfl rfl) ?_
  refine Reg.pur rfl rfl rfl rfl (Pur.ext rfl rfl) ?_
  refine Reg.op rfl rfl rfl rfl (Does.alloc zc24) ?_
  rintro _ H5_7 ⟨rfl, hn5_7⟩
  have z5_7 := hn5_7.size
  replace hE := hE.ext hn5_7.ext
  replace o0_0 := o0_0.ext hn5_7.ext
  replace o0_1 := o0_1.ext hn5_7.ext
  replace hX1 := hX1.ext hn5_7.ext
  have o5_7 := hn5_7.own
  refine Reg.op0 rfl rfl rfl (Does.stn ag24 rfl rfl (by first | rfl | exact ones_Is _) (by first | rfl | (simp [*]; done)) o5_7 (by first | decide | (simp; done) | (simp; omega) | omega)) ?_
  rintro _ H5_8 hu5_8
  have z5_8 := hu5_8.size
  replace hE := hE.upw hu5_8 (by omega)
  replace o0_0 := o0_0.upw hu5_8 (by omega)
  replace o0_1 := o0_1.upw hu5_8 (by omega)
  replace hX1 := hX1.upw hu5_8 (by omega)
  replace o5_7 := hu5_8.own
  first | rw [over (by first | rfl | (simp; done))] at o5_7 | skip
  refine Reg.pur rfl rfl rfl rfl (Pur.asg rfl) ?_
  refine Reg.nil ?_
  refine At.region rfl rfl ?_
  refine Reg.lod rfl rfl rfl rfl (Lod.ldn ag24 rfl o0_1.blk (whole hb') hb') ?_
  refine Reg.pur rfl rfl rfl rfl (Pur.mv rfl) ?_
  refine Reg.pur rfl rfl rfl rfl (Pur.and rfl rfl) ?_
  refine Reg.op rfl rfl rfl rfl (Does.call rfl (withP_ok hb _)) ?_
  rintro _ H6_3 ⟨rfl, hE6_3⟩
  have z6_3 := hE6_3.lt
  replace hE := hE.ext hE6_3
  replace o0_0 := o0_0.ext hE6_3
  replace o0_1 := o0_1.ext hE6_3
  replace hX1 := hX1.ext hE6_3
  replace o5_7 := o5_7.ext hE6_3
  refine Reg.pur rfl rfl rfl rfl (Pur.mv rfl) ?_
  refine Reg.pur rfl rfl rfl rfl (Pur.ext rfl rfl) ?_
  refine Reg.pur rfl rfl rfl rfl (Pur.ext rfl rfl) ?_
  refine Reg.op rfl rfl rfl rfl (Does.alloc zc24) ?_
  rintro _ H6_7 ⟨rfl, hn6_7⟩
  have z6_7 := hn6_7.size
  replace hE := hE.ext hn6_7.ext
  replace o0_0 := o0_0.ext hn6_7.ext
  replace o0_1 := o0_1.ext hn6_7.ext
  replace hX1 := hX1.ext hn6_7.ext
  replace o5_7 := o5_7.ext hn6_7.ext
  have o6_7 := hn6_7.own
  refine Reg.op0 rfl rfl rfl (Does.stn ag24 rfl rfl (by first | rfl | exact ones_Is _) (by first | rfl | (simp [*]; done)) o6_7 (by first | decide | (simp; done) | (simp; omega) | omega)) ?_
  rintro _ H6_8 hu6_8
  have z6_8 := hu6_8.size
  replace hE := hE.upw hu6_8 (by omega)
  replace o0_0 := o0_0.upw hu6_8 (by omega)
  replace o0_1 := o0_1.upw hu6_8 (by omega)
  replace hX1 := hX1.upw hu6_8 (by omega)
  replace o5_7 := o5_7.upw hu6_8 (by omega)
  replace o6_7 := hu6_8.own
  first | rw [over (by first | rfl | (simp; done))] at o6_7 | skip
  refine Reg.pur rfl rfl rfl rfl (Pur.asg rfl) ?_
  refine Reg.nil ?_
  refine At.region rfl rfl ?_
  refine Reg.pur rfl rfl rfl rfl (Pur.mv rfl) ?_
  refine Reg.op rfl rfl rfl rfl (Does.call rfl (numE_ok _ _)) ?_
  rintro _ H6_8 ⟨rfl, rfl⟩
  refine Reg.pur rfl rfl rfl rfl (Pur.mv rfl) ?_
  refine Reg.op rfl rfl rfl rfl (Does.call rfl (numE_ok _ _)) ?_
  rintro _ H6_8 ⟨rfl, rfl⟩
  refine Reg.pur rfl rfl rfl rfl (Pur.neq rfl rfl) ?_
  refine Reg.pur rfl rfl rfl rfl (Pur.mv rfl) ?_
  refine Reg.known (b' := false) 50 rfl (by simp [hs1]) ?_
  refine Reg.gpur rfl rfl rfl rfl rfl rfl (Pur.mv rfl) ?_
  refine Reg.gpur rfl rfl rfl rfl rfl rfl (Pur.lenS isl25 rfl) ?_
  refine Reg.gpur rfl rfl rfl rfl rfl rfl (Pur.mv rfl) ?_
  refine Reg.gpur rfl rfl rfl rfl rfl rfl (Pur.lenS isl25 rfl) ?_
  refine Reg.gpur rfl rfl rfl rfl rfl rfl (Pur.neq rfl rfl) ?_
  refine Reg.pur rfl rfl rfl rfl (Pur.pickF rfl rfl) ?_
  refine Reg.nil ?_
  refine At.condF rfl rfl (by simp [hs2]) ?_
  refine At.region rfl rfl ?_
  refine Reg.pur rfl rfl rfl rfl (Pur.mv rfl) ?_
  refine Reg.op rfl rfl rfl rfl (Does.call rfl (numE_ok _ _)) ?_
  rintro _ H6_8 ⟨rfl, rfl⟩
  refine Reg.pur rfl rfl rfl rfl (Pur.neq rfl rfl) ?_
  refine Reg.pur rfl rfl rfl rfl (Pur.mv rfl) ?_
  refine Reg.case 60 rfl (fun q60 => ?_) (fun q60 => ?_)
  · first | (simp only [decide_eq_true_eq, decide_eq_false_iff_not, Bool.not_eq_true', Bool.not_eq_false', ne_eq, Decidable.not_not, Bool.not_eq_true, Bool.not_eq_false] at q60) | (dsimp only at q60) | skip
    refine Reg.skip rfl rfl rfl rfl rfl rfl rfl ?_
    refine Reg.skip rfl rfl rfl rfl rfl rfl rfl ?_
    refine Reg.skip rfl rfl rfl rfl rfl rfl rfl ?_
    refine Reg.pur rfl rfl rfl rfl (Pur.pickT rfl rfl) ?_
    refine Reg.nil ?_
    refine At.condT rfl rfl rfl ?_
    refine At.region rfl rfl ?_
    refine Reg.pur rfl rfl rfl rfl (Pur.asg rfl) ?_
    refine Reg.nil ?_
    refine At.ret rfl Tryd.func6 rfl ?_
    exact ⟨(by first | rfl | simp), hE⟩
  first | (simp only [decide_eq_true_eq, decide_eq_false_iff_not, Bool.not_eq_true', Bool.not_eq_false', ne_eq, Decidable.not_not, Bool.not_eq_true, Bool.not_eq_false] at q60) | (dsimp only at q60) | skip
  refine Reg.gpur rfl rfl rfl rfl rfl rfl (Pur.mv rfl) ?_
  refine Reg.gop rfl rfl rfl rfl rfl rfl (Does.call rfl (numE_ok _ _)) ?_
  rintro _ H6_8 ⟨rfl, rfl⟩
  refine Reg.gpur rfl rfl rfl rfl rfl rfl (Pur.neq rfl rfl) ?_
  refine Reg.pur rfl rfl rfl rfl (Pur.pickF rfl rfl) ?_
  refine Reg.nil ?_
  refine At.cond rfl rfl (fun q64 => ?_) (fun q64 => ?_)
  · first | (simp only [decide_eq_true_eq, decide_eq_false_iff_not, Bool.not_eq_true', Bool.not_eq_false', ne_eq, Decidable.not_not, Bool.not_eq_true, Bool.not_eq_false] at q64) | (dsimp only at q64) | skip
    refine At.region rfl rfl ?_
    refine Reg.pur rfl rfl rfl rfl (Pur.asg rfl) ?_
    refine Reg.nil ?_
    refine At.ret rfl Tryd.func6 rfl ?_
    exact ⟨(by first | rfl | simp), hE⟩
  first | (simp only [decide_eq_true_eq, decide_eq_false_iff_not, Bool.not_eq_true', Bool.not_eq_false', ne_eq, Decidable.not_not, Bool.not_eq_true, Bool.not_eq_false] at q64) | (dsimp only at q64) | skip
  refine At.region rfl rfl ?_
  refine Reg.lod rfl rfl rfl rfl (Lod.ldn ag24 rfl o5_7.blk (whole hwa') hwa') ?_
  refine Reg.lod rfl rfl rfl rfl (Lod.ldn ag24 rfl o6_7.blk (whole hwb') hwb') ?_
  refine Reg.op rfl rfl rfl rfl (Does.call rfl (rowUnifyO_ok _ _ 50 hwa hwb _)) ?_
  rintro v11_2 H11_2 ⟨A3, k3, rfl, hB3, hO3, hE11_2⟩
  have z11_2 := hE11_2.lt
  replace hE := hE.ext hE11_2
  replace o0_0 := o0_0.ext hE11_2
  replace o0_1 := o0_1.ext hE11_2
  replace hX1 := hX1.ext hE11_2
  replace o5_7 := o5_7.ext hE11_2
  replace o6_7 := o6_7.ext hE11_2
  have hum : uniR (wth a (bits .and .i64 op 3)).1 (wth b (bits .and .i64 op 3)).1 50 = uniR a b 50 := uniR_more ha hb (by omega) (by omega)
  rw [hum] at hB3 ⊢
  refine Reg.pur rfl rfl rfl rfl (Pur.mv rfl) ?_
  refine Reg.pur rfl rfl rfl rfl (Pur.ext rfl rfl) ?_
  refine Reg.pur rfl rfl rfl rfl (Pur.ext rfl rfl) ?_
  refine Reg.pur rfl rfl rfl rfl (Pur.asg rfl) ?_
  refine Reg.pur rfl rfl rfl rfl (Pur.asg rfl) ?_
  refine Reg.nil ?_
  refine At.region rfl rfl ?_
  refine Reg.pur rfl rfl rfl rfl (Pur.mv rfl) ?_
  refine Reg.op rfl rfl rfl rfl (Does.call rfl (numE_ok _ _)) ?_
  rintro _ H11_2 ⟨rfl, rfl⟩
  refine Reg.pur rfl rfl rfl rfl (Pur.mv rfl) ?_
  refine Reg.op rfl rfl rfl rfl (Does.call rfl (numE_ok _ _)) ?_
  rintro _ H11_2 ⟨rfl, rfl⟩
  refine Reg.pur rfl rfl rfl rfl (Pur.eql rfl rfl) ?_
  refine Reg.pur rfl rfl rfl rfl (Pur.mv rfl) ?_
  refine Reg.known (b' := true) 76 rfl (by simp) ?_
  refine Reg.gpur rfl rfl rfl rfl rfl rfl (Pur.mv rfl) ?_
  refine Reg.gpur rfl rfl rfl rfl rfl rfl (Pur.mv rfl) ?_
  refine Reg.gop rfl rfl rfl rfl rfl rfl (Does.call rfl (sameBinds_ok hB3 (hB1.ext hX1))) ?_
  rintro _ H12_8 ⟨rfl, hE12_8⟩
  have z12_8 := hE12_8.lt
  replace hE := hE.ext hE12_8
  replace o0_0 := o0_0.ext hE12_8
  replace o0_1 := o0_1.ext hE12_8
  replace hX1 := hX1.ext hE12_8
  replace o5_7 := o5_7.ext hE12_8
  replace o6_7 := o6_7.ext hE12_8
  refine Reg.pur rfl rfl rfl rfl (Pur.pickT rfl rfl) ?_
  refine Reg.pur rfl rfl rfl rfl (Pur.asg rfl) ?_
  refine Reg.nil ?_
  refine At.ret rfl Tryd.func6 rfl ?_
  exact ⟨(by first | rfl | simp), hE⟩
end Go.Proofs.YtlfillhffpiffaaDoor

namespace Go.Proofs.YtlfillhffpiffaaDoor
set_option linter.unusedSimpArgs false
set_option linter.unusedVariables false
set_option maxRecDepth 8000
set_option maxHeartbeats 1000000
open Go Go.Fx Go.Proofs
namespace FactsDRwH
theorem ag24 : ag Tryd.prog 24 = some 5 := by kernel_rfl
theorem arr22 : arr Tryd.prog 22 = some (4, 1) := by kernel_rfl
theorem es50 : esz Tryd.prog 50 = some 1 := by kernel_rfl
theorem fo24_0 : foff Tryd.prog 24 0 = some 0 := by kernel_rfl
theorem fo24_1 : foff Tryd.prog 24 1 = some 4 := by kernel_rfl
theorem isl50 : isSl Tryd.prog 50 = true := by kernel_rfl
theorem pl24 : places Tryd.prog 24 = some [(0, 4), (4, 1)] := by kernel_rfl
theorem sc3 : sc Tryd.prog 3 = true := by kernel_rfl
theorem zc24 : zc Tryd.prog 24 = some [.int .i64 0, .int .i64 0, .int .i64 0, .int .i64 0, .int .i64 0] := by kernel_rfl
end FactsDRwH
open FactsDRwH

def cn (l : List Int) (i : Nat) : Int := if i < l.length then bits .and .i64 (l.getD i 0) 3 else 0
theorem cn_le (l : List Int) (i : Nat) : 0 ≤ cn l i ∧ cn l i ≤ 3 := by
  unfold cn; split
  · exact and_le _ 3 (by decide)
  · exact ⟨Int.le_refl _, by decide⟩
def rp (l : List Int) (t : Int) (i : Nat) : List Int := (List.range 4).map (fun j => if j < i then cn l j else 0) ++ [t]
theorem rp_len (l : List Int) (t : Int) (i : Nat) : (rp l t i).length = 5 := by simp [rp]
theorem rp_set (l : List Int) (t : Int) {i : Nat} (hi : i < 4) : (rp l t i).set i (cn l i) = rp l t (i + 1) := by
  match i, hi with
  | 0, _ => rfl
  | 1, _ => rfl
  | 2, _ => rfl
  | 3, _ => rfl
theorem rp_at (l : List Int) (t : Int) {i : Nat} (hi : i < 4) : (rp l t 4).getD i 0 = cn l i := by
  match i, hi with
  | 0, _ => rfl
  | 1, _ => rfl
  | 2, _ => rfl
  | 3, _ => rfl
theorem rp_may (l : List Int) {t : Int} (h : -1 ≤ t ∧ t < 4096) : rowM (rp l t 4) = true := by
  have h0 := cn_le l 0; have h1 := cn_le l 1; have h2 := cn_le l 2; have h3 := cn_le l 3
  have e : rowM (rp l t 4) = (okc (cn l 0) && (okc (cn l 1) && (okc (cn l 2) && (okc (cn l 3) && true))) && decide (-1 ≤ t ∧ t < 4096)) := rfl
  rw [e]
  unfold okc
  rw [decide_eq_true (by omega), decide_eq_true (by omega), decide_eq_true (by omega), decide_eq_true (by omega), decide_eq_true h]; rfl
theorem rall_congr {r s : List Int} : ∀ i, (∀ j, j < i → r.getD j 0 = s.getD j 0) → rall r i = rall s i
  | 0, _ => rfl
  | i + 1, h => by
    unfold rall
    rw [h i (Nat.lt_succ_self i), rall_congr i (fun j hj => h j (Nat.lt_succ_of_lt hj))]
theorem rp_text (l : List Int) {t : Int} (h : -1 ≤ t ∧ t < 4096) : rtV (rp l t 4) = (⟨#[60]⟩ ++ (if 0 ≤ t then rall (rp l (-1) 4) 4 ++ ⟨#[124, 101, 48]⟩ else rall (rp l (-1) 4) 4) ++ ⟨#[62]⟩, 0) := by
  rw [rtV_yes (rp_may l h), ← wtx_rtx, ← e0_eq]
  have ht : (rp l t 4).getD 4 0 = t := rfl
  have hr : rall (rp l t 4) 4 = rall (rp l (-1) 4) 4 := rall_congr 4 (fun j hj => by rw [rp_at l t hj, rp_at l (-1) hj])
  unfold wtx
  rw [ht, hr]
  rfl

theorem rowTexts_law {A : Option Addr} {cap : Nat} (l : List Int) (n : Int) {H : Heap} (hT : Tens H) (hS : SlT H e1 1 (.slice A l.length cap) l) (hm : l.length ≤ 9223372036854775807) :
    Ret Tryd.prog 7 [.slice A l.length cap, I n] H (fun v H' => v = .bool true ∧ Ext H H') := by
  have hF := rp_may l (t := -1) (by decide)
  have hF5 := rp_len l (-1) 4
  have hsz := rall_size hF5 hF
  have hb1 : 0 ≤ bits .and .i64 n 1023 ∧ bits .and .i64 n 1023 ≤ 1023 := and_le n 1023 (by decide)
  refine Ret.of_at (N := 69) Tryd.call7 Tryd.func7 rfl rfl rfl ?_
  have hE := Ext.refl H
  refine At.region rfl rfl ?_
  refine Reg.pur rfl rfl rfl rfl (Pur.asg rfl) ?_
  refine Reg.nil ?_
  refine At.region rfl rfl ?_
  refine Reg.op rfl rfl rfl rfl (Does.call rfl (awake8_ok (hT.ext hE))) ?_
  rintro _ H1_0 ⟨rfl, hE1_0⟩
  have z1_0 := hE1_0.lt
  replace hE := hE.ext hE1_0
  refine Reg.pur rfl rfl rfl rfl (Pur.not rfl) ?_
  refine Reg.nil ?_
  refine At.condF rfl rfl (rfl) ?_
  refine At.region rfl rfl ?_
  refine Reg.pur rfl rfl rfl rfl (Pur.bld (cs := [_, _, _, _, _]) pl24 zc24 rfl rfl ⟨rfl, rfl, rfl, rfl, rfl, rfl⟩) ?_
  refine Reg.op rfl rfl rfl rfl (Does.alloc zc24) ?_
  rintro _ H3_1 ⟨rfl, hn3_1⟩
  have z3_1 := hn3_1.size
  replace hE := hE.ext hn3_1.ext
  have o3_1 := hn3_1.own
  refine Reg.op0 rfl rfl rfl (Does.stn ag24 rfl rfl (by first | rfl | exact ones_Is _) (by first | rfl | (simp [*]; done)) o3_1 (by first | decide | (simp; done) | (simp; omega) | omega)) ?_
  rintro _ H3_2 hu3_2
  have z3_2 := hu3_2.size
  replace hE := hE.upw hu3_2 (by omega)
  replace o3_1 := hu3_2.own
  first | rw [over (by first | rfl | (simp; done))] at o3_1 | skip
  refine Reg.nil ?_
  refine At.region rfl rfl ?_
  refine Reg.pur rfl rfl rfl rfl (Pur.asg rfl) ?_
  refine Reg.nil ?_
  refine At.region rfl rfl ?_
  refine Reg.pur rfl rfl rfl rfl (Pur.asg rfl) ?_
  refine Reg.nil ?_
  refine At.loop (σ := Nat) (fun i => [(7, I i), (6, .string (rall (rp l (-1) 4) i)), (0, .slice A l.length cap), (1, I n), (5, ptr H1_0.size 0)]) (fun i H' => i ≤ 4 ∧ Own H' H1_0.size (Is (rp l (-1) i)) ∧ Ext H H') (fun i => 4 - i) 0 rfl ⟨rfl, rfl, rfl, rfl, rfl, trivial⟩ ⟨by omega, o3_1, hE⟩ ?_
  clear o3_1 hE
  rintro i H3 ⟨hi, o3_1, hE⟩ ih
  have z_hE := hE.lt
  have z_o3_1 := o3_1.lt
  refine At.region rfl rfl ?_
  refine Reg.pur rfl rfl rfl rfl (Pur.mv rfl) ?_
  refine Reg.pur rfl rfl rfl rfl (Pur.lss rfl rfl) ?_
  refine Reg.nil ?_
  refine At.cond rfl rfl (fun q16 => ?_) (fun q16 => ?_)
  · first | (simp only [decide_eq_true_eq, decide_eq_false_iff_not, Bool.not_eq_true', Bool.not_eq_false', ne_eq, Decidable.not_not, Bool.not_eq_true, Bool.not_eq_false] at q16) | (dsimp only at q16) | skip
    have hi4 : i < 4 := by omega
    have hs1 := hsz i (by omega)
    have hat := rp_at l (-1) hi4
    have hcl := cn_le l i
    refine At.region rfl rfl ?_
    refine Reg.pur rfl rfl rfl rfl (Pur.asg rfl) ?_
    refine Reg.nil ?_
    refine At.region rfl rfl ?_
    refine Reg.pur rfl rfl rfl rfl (Pur.mv rfl) ?_
    refine Reg.pur rfl rfl rfl rfl (Pur.mv rfl) ?_
    refine Reg.pur rfl rfl rfl rfl (Pur.lenS isl50 rfl) ?_
    refine Reg.pur rfl rfl rfl rfl (Pur.lss rfl rfl) ?_
    refine Reg.nil ?_
    refine At.cond rfl rfl (fun q22 => ?_) (fun q22 => ?_)
    · first | (simp only [decide_eq_true_eq, decide_eq_false_iff_not, Bool.not_eq_true', Bool.not_eq_false', ne_eq, Decidable.not_not, Bool.not_eq_true, Bool.not_eq_false] at q22) | (dsimp only at q22) | skip
      have hlt : i < l.length := by omega
      obtain ⟨b, o, c, rfl, hB, hc⟩ := int_at (hS.ext hE) hlt
      have hcn : cn l i = bits .and .i64 l[i] 3 := by unfold cn; rw [if_pos hlt]; simp [List.getD_eq_getElem?_getD, List.getElem?_eq_getElem hlt]
      refine At.region rfl rfl ?_
      refine Reg.pur rfl rfl rfl rfl (Pur.mv rfl) ?_
      refine Reg.pur rfl rfl rfl rfl (Pur.mv rfl) ?_
      refine Reg.pur rfl rfl rfl rfl (Pur.idx _ es50 rfl rfl (by omega) (by omega)) ?_
      refine Reg.lod rfl rfl rfl rfl (Lod.ld sc3 rfl hB hc) ?_
      refine Reg.pur rfl rfl rfl rfl (Pur.and rfl rfl) ?_
      refine Reg.pur rfl rfl rfl rfl (Pur.asg rfl) ?_
      refine Reg.nil ?_
      refine At.region rfl rfl ?_
      refine Reg.pur rfl rfl rfl rfl (Pur.mv rfl) ?_
      refine Reg.pur rfl rfl rfl rfl (Pur.mv rfl) ?_
      refine Reg.pur rfl rfl rfl rfl (Pur.fld _ fo24_0 rfl) ?_
      refine Reg.pur rfl rfl rfl rfl (Pur.idxP arr22 rfl rfl (by omega) (by omega)) ?_
      refine Reg.op0 rfl rfl rfl (Does.st sc3 rfl rfl rfl o3_1 (by rw [List.length_map, rp_len]; omega)) ?_
      rintro _ H11_4 hu11_4
      have z11_4 := hu11_4.size
      replace hE := hE.upw hu11_4 (by omega)
      replace o3_1 := hu11_4.own
      replace o3_1 : Own H11_4 H1_0.size (Is (rp l (-1) (i + 1))) := o3_1.of (by rw [← rp_set l (-1) hi4, hcn, show 0 + 0 + (i : Int).toNat * 1 = i from by omega]; simp [Is, List.map_set])
      refine Reg.nil ?_
      refine At.region rfl rfl ?_
      refine Reg.pur rfl rfl rfl rfl (Pur.asg rfl) ?_
      refine Reg.nil ?_
      refine At.loop (σ := Nat) (fun k => [(9, I k), (8, I (cn l i)), (7, I i), (6, .string (rrep i k (rall (rp l (-1) 4) i))), (0, .slice _ l.length cap), (1, I n), (5, ptr H1_0.size 0)]) (fun k H' => (k : Int) ≤ cn l i ∧ Own H' H1_0.size (Is (rp l (-1) (i + 1))) ∧ Ext H H') (fun k => (cn l i).toNat - k) 0 rfl ⟨rfl, (by rw [hcn]; rfl), rfl, rfl, rfl, rfl, rfl, trivial⟩ ⟨by omega, o3_1, hE⟩ ?_
      clear o3_1 hE
      rintro k H4 ⟨hk, o3_1, hE⟩ ih2
      have z_hE := hE.lt
      have z_o3_1 := o3_1.lt
      have hs2 := rrep_size i k (rall (rp l (-1) 4) i)
      refine At.region rfl rfl ?_
      refine Reg.pur rfl rfl rfl rfl (Pur.mv rfl) ?_
      refine Reg.pur rfl rfl rfl rfl (Pur.mv rfl) ?_
      refine Reg.pur rfl rfl rfl rfl (Pur.lss rfl rfl) ?_
      refine Reg.nil ?_
      refine At.cond rfl rfl (fun q34 => ?_) (fun q34 => ?_)
      · first | (simp only [decide_eq_true_eq, decide_eq_false_iff_not, Bool.not_eq_true', Bool.not_eq_false', ne_eq, Decidable.not_not, Bool.not_eq_true, Bool.not_eq_false] at q34) | (dsimp only at q34) | skip
        refine At.region rfl rfl ?_
        refine Reg.pur rfl rfl rfl rfl (Pur.mv rfl) ?_
        refine Reg.pur rfl rfl rfl rfl (Pur.neS rfl rfl) ?_
        refine Reg.nil ?_
        refine At.cond rfl rfl (fun q38 => ?_) (fun q38 => ?_)
        · first | (simp only [decide_eq_true_eq, decide_eq_false_iff_not, Bool.not_eq_true', Bool.not_eq_false', ne_eq, Decidable.not_not, Bool.not_eq_true, Bool.not_eq_false] at q38) | (dsimp only at q38) | skip
          refine At.region rfl rfl ?_
          refine Reg.pur rfl rfl rfl rfl (Pur.mv rfl) ?_
          refine Reg.pur rfl rfl rfl rfl (Pur.addS rfl rfl (szs (m := 10000) (by omega) (sl1 _) (by decide))) ?_
          refine Reg.pur rfl rfl rfl rfl (Pur.asg rfl) ?_
          refine Reg.nil ?_
          refine At.region rfl rfl ?_
          refine Reg.pur rfl rfl rfl rfl (Pur.mv rfl) ?_
          refine Reg.pur rfl rfl rfl rfl (Pur.addS rfl rfl (szs (m := 10001) (by first | omega | exact sza (m := 10000) (by omega) (sl1 _)) (sl1 _) (by decide))) ?_
          refine Reg.pur rfl rfl rfl rfl (Pur.mv rfl) ?_
          refine Reg.op rfl rfl rfl rfl (Does.call rfl (decimal_ok i (by omega) _)) ?_
          rintro _ H17_3 ⟨rfl, hE17_3⟩
          have z17_3 := hE17_3.lt
          replace hE := hE.ext hE17_3
          replace o3_1 := o3_1.ext hE17_3
          refine Reg.pur rfl rfl rfl rfl (Pur.addS rfl rfl (szs (m := 10002) (sza (m := 10001) (by first | omega | exact sza (m := 10000) (by omega) (sl1 _)) (sl1 _)) (dec_size _) (by decide))) ?_
          refine Reg.pur rfl rfl rfl rfl (Pur.asg rfl) ?_
          refine Reg.nil ?_
          refine At.region rfl rfl ?_
          refine Reg.pur rfl rfl rfl rfl (Pur.mv rfl) ?_
          first | refine Reg.pur rfl rfl rfl rfl (Pur.add64 rfl rfl (by omega)) ?_ | refine Reg.pur rfl rfl rfl rfl (Pur.add64 rfl rfl (by assumption)) ?_ | refine Reg.pur rfl rfl rfl rfl (Pur.add rfl rfl) ?_
          refine Reg.pur rfl rfl rfl rfl (Pur.asg rfl) ?_
          refine Reg.nil ?_
          exact At.meets rfl (ih2 (k + 1) _ ⟨by omega, o3_1, hE⟩ (by omega)) ⟨rfl, rfl, rfl, by (show some (Value.string _) = some (Value.string (rone i (rrep i k (rall (rp l (-1) 4) i))))); unfold rone; simp only [q38]; rfl, rfl, rfl, rfl, trivial⟩
        first | (simp only [decide_eq_true_eq, decide_eq_false_iff_not, Bool.not_eq_true', Bool.not_eq_false', ne_eq, Decidable.not_not, Bool.not_eq_true, Bool.not_eq_false] at q38) | (dsimp only at q38) | skip
        refine At.region rfl rfl ?_
        refine Reg.pur rfl rfl rfl rfl (Pur.mv rfl) ?_
        refine Reg.pur rfl rfl rfl rfl (Pur.addS rfl rfl (szs (m := 10001) (by first | omega | exact sza (m := 10000) (by omega) (sl1 _)) (sl1 _) (by decide))) ?_
        refine Reg.pur rfl rfl rfl rfl (Pur.mv rfl) ?_
        refine Reg.op rfl rfl rfl rfl (Does.call rfl (decimal_ok i (by omega) _)) ?_
        rintro _ H17_3 ⟨rfl, hE17_3⟩
        have z17_3 := hE17_3.lt
        replace hE := hE.ext hE17_3
        replace o3_1 := o3_1.ext hE17_3
        refine Reg.pur rfl rfl rfl rfl (Pur.addS rfl rfl (szs (m := 10002) (sza (m := 10001) (by first | omega | exact sza (m := 10000) (by omega) (sl1 _)) (sl1 _)) (dec_size _) (by decide))) ?_
        refine Reg.pur rfl rfl rfl rfl (Pur.asg rfl) ?_
        refine Reg.nil ?_
        refine At.region rfl rfl ?_
        refine Reg.pur rfl rfl rfl rfl (Pur.mv rfl) ?_
        first | refine Reg.pur rfl rfl rfl rfl (Pur.add64 rfl rfl (by omega)) ?_ | refine Reg.pur rfl rfl rfl rfl (Pur.add64 rfl rfl (by assumption)) ?_ | refine Reg.pur rfl rfl rfl rfl (Pur.add rfl rfl) ?_
        refine Reg.pur rfl rfl rfl rfl (Pur.asg rfl) ?_
        refine Reg.nil ?_
        exact At.meets rfl (ih2 (k + 1) _ ⟨by omega, o3_1, hE⟩ (by omega)) ⟨rfl, rfl, rfl, by (show some (Value.string _) = some (Value.string (rone i (rrep i k (rall (rp l (-1) 4) i))))); unfold rone; simp only [q38]; rfl, rfl, rfl, rfl, trivial⟩
      first | (simp only [decide_eq_true_eq, decide_eq_false_iff_not, Bool.not_eq_true', Bool.not_eq_false', ne_eq, Decidable.not_not, Bool.not_eq_true, Bool.not_eq_false] at q34) | (dsimp only at q34) | skip
      refine At.region rfl rfl ?_
      refine Reg.pur rfl rfl rfl rfl (Pur.mv rfl) ?_
      first | refine Reg.pur rfl rfl rfl rfl (Pur.add64 rfl rfl (by omega)) ?_ | refine Reg.pur rfl rfl rfl rfl (Pur.add64 rfl rfl (by assumption)) ?_ | refine Reg.pur rfl rfl rfl rfl (Pur.add rfl rfl) ?_
      refine Reg.pur rfl rfl rfl rfl (Pur.asg rfl) ?_
      refine Reg.nil ?_
      have hk' : (k : Nat) = ((rp l (-1) 4).getD i 0).toNat := by rw [hat]; omega
      exact At.meets rfl (ih (i + 1) _ ⟨by omega, o3_1, hE⟩ (by omega)) ⟨rfl, by (show some (Value.string _) = some (Value.string (rrep i ((rp l (-1) 4).getD i 0).toNat (rall (rp l (-1) 4) i)))); rw [← hk'], rfl, rfl, rfl, trivial⟩
    first | (simp only [decide_eq_true_eq, decide_eq_false_iff_not, Bool.not_eq_true', Bool.not_eq_false', ne_eq, Decidable.not_not, Bool.not_eq_true, Bool.not_eq_false] at q22) | (dsimp only at q22) | skip
    have hcn : cn l i = 0 := by unfold cn; rw [if_neg (by omega)]
    refine At.region rfl rfl ?_
    refine Reg.pur rfl rfl rfl rfl (Pur.mv rfl) ?_
    refine Reg.pur rfl rfl rfl rfl (Pur.mv rfl) ?_
    refine Reg.pur rfl rfl rfl rfl (Pur.fld _ fo24_0 rfl) ?_
    refine Reg.pur rfl rfl rfl rfl (Pur.idxP arr22 rfl rfl (by omega) (by omega)) ?_
    refine Reg.op0 rfl rfl rfl (Does.st sc3 rfl rfl rfl o3_1 (by rw [List.length_map, rp_len]; omega)) ?_
    rintro _ H11_4 hu11_4
    have z11_4 := hu11_4.size
    replace hE := hE.upw hu11_4 (by omega)
    replace o3_1 := hu11_4.own
    replace o3_1 : Own H11_4 H1_0.size (Is (rp l (-1) (i + 1))) := o3_1.of (by rw [← rp_set l (-1) hi4, hcn, show 0 + 0 + (i : Int).toNat * 1 = i from by omega]; simp [Is, List.map_set])
    refine Reg.nil ?_
    refine At.region rfl rfl ?_
    refine Reg.pur rfl rfl rfl rfl (Pur.asg rfl) ?_
    refine Reg.nil ?_
    refine At.loop (σ := Nat) (fun k => [(9, I k), (8, I (cn l i)), (7, I i), (6, .string (rrep i k (rall (rp l (-1) 4) i))), (0, .slice _ l.length cap), (1, I n), (5, ptr H1_0.size 0)]) (fun k H' => (k : Int) ≤ cn l i ∧ Own H' H1_0.size (Is (rp l (-1) (i + 1))) ∧ Ext H H') (fun k => (cn l i).toNat - k) 0 rfl ⟨rfl, (by rw [hcn]; rfl), rfl, rfl, rfl, rfl, rfl, trivial⟩ ⟨by omega, o3_1, hE⟩ ?_
    clear o3_1 hE
    rintro k H4 ⟨hk, o3_1, hE⟩ ih2
    have z_hE := hE.lt
    have z_o3_1 := o3_1.lt
    have hs2 := rrep_size i k (rall (rp l (-1) 4) i)
    refine At.region rfl rfl ?_
    refine Reg.pur rfl rfl rfl rfl (Pur.mv rfl) ?_
    refine Reg.pur rfl rfl rfl rfl (Pur.mv rfl) ?_
    refine Reg.pur rfl rfl rfl rfl (Pur.lss rfl rfl) ?_
    refine Reg.nil ?_
    refine At.cond rfl rfl (fun q34 => ?_) (fun q34 => ?_)
    · first | (simp only [decide_eq_true_eq, decide_eq_false_iff_not, Bool.not_eq_true', Bool.not_eq_false', ne_eq, Decidable.not_not, Bool.not_eq_true, Bool.not_eq_false] at q34) | (dsimp only at q34) | skip
      refine At.region rfl rfl ?_
      refine Reg.pur rfl rfl rfl rfl (Pur.mv rfl) ?_
      refine Reg.pur rfl rfl rfl rfl (Pur.neS rfl rfl) ?_
      refine Reg.nil ?_
      refine At.cond rfl rfl (fun q38 => ?_) (fun q38 => ?_)
      · first | (simp only [decide_eq_true_eq, decide_eq_false_iff_not, Bool.not_eq_true', Bool.not_eq_false', ne_eq, Decidable.not_not, Bool.not_eq_true, Bool.not_eq_false] at q38) | (dsimp only at q38) | skip
        refine At.region rfl rfl ?_
        refine Reg.pur rfl rfl rfl rfl (Pur.mv rfl) ?_
        refine Reg.pur rfl rfl rfl rfl (Pur.addS rfl rfl (szs (m := 10000) (by omega) (sl1 _) (by decide))) ?_
        refine Reg.pur rfl rfl rfl rfl (Pur.asg rfl) ?_
        refine Reg.nil ?_
        refine At.region rfl rfl ?_
        refine Reg.pur rfl rfl rfl rfl (Pur.mv rfl) ?_
        refine Reg.pur rfl rfl rfl rfl (Pur.addS rfl rfl (szs (m := 10001) (by first | omega | exact sza (m := 10000) (by omega) (sl1 _)) (sl1 _) (by decide))) ?_
        refine Reg.pur rfl rfl rfl rfl (Pur.mv rfl) ?_
        refine Reg.op rfl rfl rfl rfl (Does.call rfl (decimal_ok i (by omega) _)) ?_
        rintro _ H17_3 ⟨rfl, hE17_3⟩
        have z17_3 := hE17_3.lt
        replace hE := hE.ext hE17_3
        replace o3_1 := o3_1.ext hE17_3
        refine Reg.pur rfl rfl rfl rfl (Pur.addS rfl rfl (szs (m := 10002) (sza (m := 10001) (by first | omega | exact sza (m := 10000) (by omega) (sl1 _)) (sl1 _)) (dec_size _) (by decide))) ?_
        refine Reg.pur rfl rfl rfl rfl (Pur.asg rfl) ?_
        refine Reg.nil ?_
        refine At.region rfl rfl ?_
        refine Reg.pur rfl rfl rfl rfl (Pur.mv rfl) ?_
        first | refine Reg.pur rfl rfl rfl rfl (Pur.add64 rfl rfl (by omega)) ?_ | refine Reg.pur rfl rfl rfl rfl (Pur.add64 rfl rfl (by assumption)) ?_ | refine Reg.pur rfl rfl rfl rfl (Pur.add rfl rfl) ?_
        refine Reg.pur rfl rfl rfl rfl (Pur.asg rfl) ?_
        refine Reg.nil ?_
        exact At.meets rfl (ih2 (k + 1) _ ⟨by omega, o3_1, hE⟩ (by omega)) ⟨rfl, rfl, rfl, by (show some (Value.string _) = some (Value.string (rone i (rrep i k (rall (rp l (-1) 4) i))))); unfold rone; simp only [q38]; rfl, rfl, rfl, rfl, trivial⟩
      first | (simp only [decide_eq_true_eq, decide_eq_false_iff_not, Bool.not_eq_true', Bool.not_eq_false', ne_eq, Decidable.not_not, Bool.not_eq_true, Bool.not_eq_false] at q38) | (dsimp only at q38) | skip
      refine At.region rfl rfl ?_
      refine Reg.pur rfl rfl rfl rfl (Pur.mv rfl) ?_
      refine Reg.pur rfl rfl rfl rfl (Pur.addS rfl rfl (szs (m := 10001) (by first | omega | exact sza (m := 10000) (by omega) (sl1 _)) (sl1 _) (by decide))) ?_
      refine Reg.pur rfl rfl rfl rfl (Pur.mv rfl) ?_
      refine Reg.op rfl rfl rfl rfl (Does.call rfl (decimal_ok i (by omega) _)) ?_
      rintro _ H17_3 ⟨rfl, hE17_3⟩
      have z17_3 := hE17_3.lt
      replace hE := hE.ext hE17_3
      replace o3_1 := o3_1.ext hE17_3
      refine Reg.pur rfl rfl rfl rfl (Pur.addS rfl rfl (szs (m := 10002) (sza (m := 10001) (by first | omega | exact sza (m := 10000) (by omega) (sl1 _)) (sl1 _)) (dec_size _) (by decide))) ?_
      refine Reg.pur rfl rfl rfl rfl (Pur.asg rfl) ?_
      refine Reg.nil ?_
      refine At.region rfl rfl ?_
      refine Reg.pur rfl rfl rfl rfl (Pur.mv rfl) ?_
      first | refine Reg.pur rfl rfl rfl rfl (Pur.add64 rfl rfl (by omega)) ?_ | refine Reg.pur rfl rfl rfl rfl (Pur.add64 rfl rfl (by assumption)) ?_ | refine Reg.pur rfl rfl rfl rfl (Pur.add rfl rfl) ?_
      refine Reg.pur rfl rfl rfl rfl (Pur.asg rfl) ?_
      refine Reg.nil ?_
      exact At.meets rfl (ih2 (k + 1) _ ⟨by omega, o3_1, hE⟩ (by omega)) ⟨rfl, rfl, rfl, by (show some (Value.string _) = some (Value.string (rone i (rrep i k (rall (rp l (-1) 4) i))))); unfold rone; simp only [q38]; rfl, rfl, rfl, rfl, trivial⟩
    first | (simp only [decide_eq_true_eq, decide_eq_false_iff_not, Bool.not_eq_true', Bool.not_eq_false', ne_eq, Decidable.not_not, Bool.not_eq_true, Bool.not_eq_false] at q34) | (dsimp only at q34) | skip
    refine At.region rfl rfl ?_
    refine Reg.pur rfl rfl rfl rfl (Pur.mv rfl) ?_
    first | refine Reg.pur rfl rfl rfl rfl (Pur.add64 rfl rfl (by omega)) ?_ | refine Reg.pur rfl rfl rfl rfl (Pur.add64 rfl rfl (by assumption)) ?_ | refine Reg.pur rfl rfl rfl rfl (Pur.add rfl rfl) ?_
    refine Reg.pur rfl rfl rfl rfl (Pur.asg rfl) ?_
    refine Reg.nil ?_
    have hk' : (k : Nat) = ((rp l (-1) 4).getD i 0).toNat := by rw [hat]; omega
    exact At.meets rfl (ih (i + 1) _ ⟨by omega, o3_1, hE⟩ (by omega)) ⟨rfl, by (show some (Value.string _) = some (Value.string (rrep i ((rp l (-1) 4).getD i 0).toNat (rall (rp l (-1) 4) i)))); rw [← hk'], rfl, rfl, rfl, trivial⟩
  first | (simp only [decide_eq_true_eq, decide_eq_false_iff_not, Bool.not_eq_true', Bool.not_eq_false', ne_eq, Decidable.not_not, Bool.not_eq_true, Bool.not_eq_false] at q16) | (dsimp only at q16) | skip
  obtain rfl : i = 4 := by omega
  have hs4 := hsz 4 (by omega)
  refine At.region rfl rfl ?_
  refine Reg.pur rfl rfl rfl rfl (Pur.mv rfl) ?_
  refine Reg.pur rfl rfl rfl rfl (Pur.and rfl rfl) ?_
  refine Reg.pur rfl rfl rfl rfl (Pur.eql rfl rfl) ?_
  refine Reg.nil ?_
  refine At.cond rfl rfl (fun q48 => ?_) (fun q48 => ?_)
  · first | (simp only [decide_eq_true_eq, decide_eq_false_iff_not, Bool.not_eq_true', Bool.not_eq_false', ne_eq, Decidable.not_not, Bool.not_eq_true, Bool.not_eq_false] at q48) | (dsimp only at q48) | skip
    refine At.region rfl rfl ?_
    refine Reg.pur rfl rfl rfl rfl (Pur.mv rfl) ?_
    refine Reg.pur rfl rfl rfl rfl (Pur.and rfl rfl) ?_
    refine Reg.pur rfl rfl rfl rfl (Pur.fld _ fo24_1 rfl) ?_
    refine Reg.op0 rfl rfl rfl (Does.st sc3 rfl rfl rfl o3_1 (by rw [List.length_map, rp_len]; omega)) ?_
    rintro _ H19_3 hu19_3
    have z19_3 := hu19_3.size
    replace hE := hE.upw hu19_3 (by omega)
    replace o3_1 := hu19_3.own
    replace o3_1 : Own H19_3 H1_0.size (Is (rp l (bits .and .i64 n 1023) 4)) := o3_1.of rfl
    refine Reg.nil ?_
    refine At.region rfl rfl ?_
    refine Reg.pur rfl rfl rfl rfl (Pur.mv rfl) ?_
    refine Reg.pur rfl rfl rfl rfl (Pur.addS rfl rfl (szs (m := 1280) (n := 3) (by omega) (Nat.le_of_ble_eq_true rfl) (by decide))) ?_
    refine Reg.pur rfl rfl rfl rfl (Pur.asg rfl) ?_
    refine Reg.nil ?_
    have hrt := rowTextP_ok (rp_len l (bits .and .i64 n 1023) 4) (hT.ext hE)
    refine At.region rfl rfl ?_
    refine Reg.lod rfl rfl rfl rfl (Lod.ldn ag24 rfl o3_1.blk (whole (by simp [rp_len])) (by simp [rp_len])) ?_
    refine Reg.op rfl rfl rfl rfl (Does.call rfl (hrt)) ?_
    rintro _ H21_1 ⟨rfl, hE21_1⟩
    have z21_1 := hE21_1.lt
    replace hE := hE.ext hE21_1
    replace o3_1 := o3_1.ext hE21_1
    rw [rp_text l (t := bits .and .i64 n 1023) (by omega), if_pos hb1.1]
    refine Reg.pur rfl rfl rfl rfl (Pur.mv rfl) ?_
    refine Reg.pur rfl rfl rfl rfl (Pur.ext rfl rfl) ?_
    refine Reg.pur rfl rfl rfl rfl (Pur.ext rfl rfl) ?_
    refine Reg.pur rfl rfl rfl rfl (Pur.asg rfl) ?_
    refine Reg.pur rfl rfl rfl rfl (Pur.asg rfl) ?_
    refine Reg.nil ?_
    refine At.region rfl rfl ?_
    refine Reg.pur rfl rfl rfl rfl (Pur.mv rfl) ?_
    refine Reg.op rfl rfl rfl rfl (Does.call rfl (numE_ok _ _)) ?_
    rintro _ H21_1 ⟨rfl, rfl⟩
    refine Reg.pur rfl rfl rfl rfl (Pur.eql rfl rfl) ?_
    refine Reg.pur rfl rfl rfl rfl (Pur.mv rfl) ?_
    refine Reg.known (b' := true) 62 rfl (by first | rfl | simp) ?_
    refine Reg.gpur rfl rfl rfl rfl rfl rfl (Pur.mv rfl) ?_
    refine Reg.gpur rfl rfl rfl rfl rfl rfl (Pur.mv rfl) ?_
    refine Reg.gpur rfl rfl rfl rfl rfl rfl (Pur.addS rfl rfl (szs (n := 1283) (sl1 _) (by first | omega | exact sza (m := 1280) (n := 3) (by omega) (Nat.le_of_ble_eq_true rfl)) (by decide))) ?_
    refine Reg.gpur rfl rfl rfl rfl rfl rfl (Pur.addS rfl rfl (szs (m := 1284) (n := 1) (sza (m := 1) (n := 1283) (sl1 _) (by first | omega | exact sza (m := 1280) (n := 3) (by omega) (Nat.le_of_ble_eq_true rfl))) (sl1 _) (by decide))) ?_
    refine Reg.gpur rfl rfl rfl rfl rfl rfl (Pur.eqS rfl rfl) ?_
    refine Reg.pur rfl rfl rfl rfl (Pur.pickT rfl rfl) ?_
    refine Reg.pur rfl rfl rfl rfl (Pur.asg rfl) ?_
    refine Reg.nil ?_
    refine At.ret rfl Tryd.func7 rfl ?_
    exact ⟨(by first | rfl | simp), hE⟩
  first | (simp only [decide_eq_true_eq, decide_eq_false_iff_not, Bool.not_eq_true', Bool.not_eq_false', ne_eq, Decidable.not_not, Bool.not_eq_true, Bool.not_eq_false] at q48) | (dsimp only at q48) | skip
  have hrt := rowTextP_ok (rp_len l (-1) 4) (hT.ext hE)
  refine At.region rfl rfl ?_
  refine Reg.lod rfl rfl rfl rfl (Lod.ldn ag24 rfl o3_1.blk (whole (by simp [rp_len])) (by simp [rp_len])) ?_
  refine Reg.op rfl rfl rfl rfl (Does.call rfl (hrt)) ?_
  rintro _ H21_1 ⟨rfl, hE21_1⟩
  have z21_1 := hE21_1.lt
  replace hE := hE.ext hE21_1
  replace o3_1 := o3_1.ext hE21_1
  rw [rp_text l (t := -1) (by decide), if_neg (by decide)]
  refine Reg.pur rfl rfl rfl rfl (Pur.mv rfl) ?_
  refine Reg.pur rfl rfl rfl rfl (Pur.ext rfl rfl) ?_
  refine Reg.pur rfl rfl rfl rfl (Pur.ext rfl rfl) ?_
  refine Reg.pur rfl rfl rfl rfl (Pur.asg rfl) ?_
  refine Reg.pur rfl rfl rfl rfl (Pur.asg rfl) ?_
  refine Reg.nil ?_
  refine At.region rfl rfl ?_
  refine Reg.pur rfl rfl rfl rfl (Pur.mv rfl) ?_
  refine Reg.op rfl rfl rfl rfl (Does.call rfl (numE_ok _ _)) ?_
  rintro _ H21_1 ⟨rfl, rfl⟩
  refine Reg.pur rfl rfl rfl rfl (Pur.eql rfl rfl) ?_
  refine Reg.pur rfl rfl rfl rfl (Pur.mv rfl) ?_
  refine Reg.known (b' := true) 62 rfl (by first | rfl | simp) ?_
  refine Reg.gpur rfl rfl rfl rfl rfl rfl (Pur.mv rfl) ?_
  refine Reg.gpur rfl rfl rfl rfl rfl rfl (Pur.mv rfl) ?_
  refine Reg.gpur rfl rfl rfl rfl rfl rfl (Pur.addS rfl rfl (szs (n := 1283) (sl1 _) (by first | omega | exact sza (m := 1280) (n := 3) (by omega) (Nat.le_of_ble_eq_true rfl)) (by decide))) ?_
  refine Reg.gpur rfl rfl rfl rfl rfl rfl (Pur.addS rfl rfl (szs (m := 1284) (n := 1) (sza (m := 1) (n := 1283) (sl1 _) (by first | omega | exact sza (m := 1280) (n := 3) (by omega) (Nat.le_of_ble_eq_true rfl))) (sl1 _) (by decide))) ?_
  refine Reg.gpur rfl rfl rfl rfl rfl rfl (Pur.eqS rfl rfl) ?_
  refine Reg.pur rfl rfl rfl rfl (Pur.pickT rfl rfl) ?_
  refine Reg.pur rfl rfl rfl rfl (Pur.asg rfl) ?_
  refine Reg.nil ?_
  refine At.ret rfl Tryd.func7 rfl ?_
  exact ⟨(by first | rfl | simp), hE⟩
end Go.Proofs.YtlfillhffpiffaaDoor

namespace Go.Proofs.YtlfillhffpiffaaDoor
set_option linter.unusedSimpArgs false
set_option linter.unusedVariables false
set_option maxRecDepth 8000
set_option maxHeartbeats 1000000
open Go Go.Fx Go.Proofs
namespace FactsDRwF
theorem ag24 : ag Tryd.prog 24 = some 5 := by kernel_rfl
theorem arr22 : arr Tryd.prog 22 = some (4, 1) := by kernel_rfl
theorem eqt24 : eqT Tryd.prog 24 = some [.int .i64, .int .i64, .int .i64, .int .i64, .int .i64] := by kernel_rfl
theorem es25 : esz Tryd.prog 25 = some 8 := by kernel_rfl
theorem fo24_0 : foff Tryd.prog 24 0 = some 0 := by kernel_rfl
theorem fo24_1 : foff Tryd.prog 24 1 = some 4 := by kernel_rfl
theorem fo57_0 : foff Tryd.prog 57 0 = some 0 := by kernel_rfl
theorem fo57_3 : foff Tryd.prog 57 3 = some 3 := by kernel_rfl
theorem isl25 : isSl Tryd.prog 25 = true := by kernel_rfl
theorem mixed : Tryd.prog.follows .mixedOrders = true := by kernel_rfl
theorem pl24 : places Tryd.prog 24 = some [(0, 4), (4, 1)] := by kernel_rfl
theorem sc3 : sc Tryd.prog 3 = true := by kernel_rfl
theorem zc24 : zc Tryd.prog 24 = some [.int .i64 0, .int .i64 0, .int .i64 0, .int .i64 0, .int .i64 0] := by kernel_rfl
end FactsDRwF
open FactsDRwF

def noTo (r : List Int) (i : Nat) : Bool := (List.range i).all fun i => decide (r.getD i 0 = 0)
theorem noTo_succ (r : List Int) (i : Nat) : noTo r (i + 1) = (noTo r i && decide (r.getD i 0 = 0)) := by simp [noTo, List.range_succ]
theorem more_pure {r : List Int} (h5 : r.length = 5) (h : rowM r = true) : moreC r [0, 0, 0, 0, -1] = !noTo r 4 ∧ moreC [0, 0, 0, 0, -1] r = false := by
  have hc := row_cnt h5 h
  have key : ∀ i, i ≤ 4 → moreTo r [0, 0, 0, 0, -1] i = !noTo r i ∧ moreTo [0, 0, 0, 0, -1] r i = false := by
    intro i
    induction i with
    | zero => intro _; exact ⟨rfl, rfl⟩
    | succ i ih =>
      intro hi
      obtain ⟨e1, e2⟩ := ih (by omega)
      have hci := hc i (by omega)
      have hz : ([0, 0, 0, 0, -1] : List Int).getD i 0 = 0 := by
        match i, (show i < 4 by omega) with
        | 0, _ => rfl
        | 1, _ => rfl
        | 2, _ => rfl
        | 3, _ => rfl
      rw [moreTo_succ, moreTo_succ, noTo_succ, e1, e2, hz]
      by_cases h0 : r.getD i 0 = 0
      · rw [h0]; simp
      · rw [decide_eq_false h0, decide_eq_true (show 0 < r.getD i 0 by omega), decide_eq_false (show ¬ r.getD i 0 < 0 by omega)]; simp
  exact key 4 (Nat.le_refl _)
theorem pure_1 {r : List Int} (h5 : r.length = 5) (h : rowM r = true) (ht : r.getD 4 0 < 90) :
    ((uniR r [0, 0, 0, 0, -1] 90).2 = 0 ↔ noTo r 4 = true) ∧ (noTo r 4 = true → (((uniR r [0, 0, 0, 0, -1] 90).1.length : Int) = 1 ↔ 0 ≤ r.getD 4 0)) := by
  obtain ⟨m1, m2⟩ := more_pure h5 h
  have htl := rowM_t h
  have e4 : ([0, 0, 0, 0, -1] : List Int).getD 4 0 = -1 := rfl
  rw [uniR_yes ⟨h, by decide, by omega, by omega, ht, by rw [e4]; omega⟩]
  unfold uniQ
  rw [m1, m2, e4]
  generalize r.getD 4 0 = t at htl ht
  cases hn : noTo r 4 with
  | true =>
    by_cases hq : t = -1
    · simp [hq]
    · simp [hq]; omega
  | false =>
    by_cases hq : t = -1
    · simp [hq]
    · simp [hq]
theorem more_89 {s : List Int} (h5 : s.length = 5) (h : rowM s = true) : moreC [0, 0, 0, 0, 89] s = false ∧ subC s [0, 0, 0, 0, 89] = s.take 4 := by
  have hc := row_cnt h5 h
  constructor
  · have key : ∀ i, i ≤ 4 → moreTo [0, 0, 0, 0, 89] s i = false := by
      intro i
      induction i with
      | zero => intro _; rfl
      | succ i ih =>
        intro hi
        have hci := hc i (by omega)
        have hz : ([0, 0, 0, 0, 89] : List Int).getD i 0 = 0 := by
          match i, (show i < 4 by omega) with
          | 0, _ => rfl
          | 1, _ => rfl
          | 2, _ => rfl
          | 3, _ => rfl
        rw [moreTo_succ, ih (by omega), hz, decide_eq_false (by omega)]; rfl
    exact key 4 (Nat.le_refl _)
  · obtain ⟨a, b, c, d, e, rfl⟩ := row_five h5
    have h0 := hc 0 (by decide); have h1 := hc 1 (by decide); have h2 := hc 2 (by decide); have h3 := hc 3 (by decide)
    simp only [List.getD_cons_zero, List.getD_cons_succ] at h0 h1 h2 h3
    have key : ∀ x : Int, 0 ≤ x → (if 0 < x then x - 0 else 0) = x := fun x hx => by split <;> omega
    show [sb1 _ _ 0, sb1 _ _ 1, sb1 _ _ 2, sb1 _ _ 3] = [a, b, c, d]
    unfold sb1
    simp only [List.getD_cons_zero, List.getD_cons_succ]
    rw [key a h0.1, key b h1.1, key c h2.1, key d h3.1]
theorem pure_2 {s : List Int} (h5 : s.length = 5) (h : rowM s = true) (ht : s.getD 4 0 < 89) : uniR [0, 0, 0, 0, 89] s 90 = ([bR 89 s], 0) := by
  obtain ⟨m1, m2⟩ := more_89 h5 h
  have e4 : ([0, 0, 0, 0, 89] : List Int).getD 4 0 = 89 := rfl
  rw [uniR_yes ⟨by decide, h, by omega, by omega, by rw [e4]; omega, by omega⟩]
  unfold uniQ
  rw [m1, m2, e4, if_neg (show ¬ (89 : Int) = s.getD 4 0 by omega), if_neg (by simp)]
  have hs : s.take 4 ++ [s.getD 4 0] = s := by
    obtain ⟨a, b, c, d, e, rfl⟩ := row_five h5
    rfl
  by_cases hq : s.getD 4 0 = -1
  · rw [if_pos hq, ← hq, hs]
  · rw [if_neg hq, if_neg (by decide), if_pos rfl, hs]
theorem pure_3 {s : List Int} (h : ¬ (rowM s = true ∧ s.getD 4 0 < 90)) : (uniR [0, 0, 0, 0, 89] s 90).2 = 800 := by
  rw [uniR_no (fun k => h ⟨k.2.1, k.2.2.2.2.2⟩)]

theorem rowPure_law {r s : List Int} (hr : r.length = 5) (hs : s.length = 5) {H : Heap} (hT : Tens H) :
    Ret Tryd.prog 8 [.agg (Is r).toArray, .agg (Is s).toArray] H (fun v H' => v = .bool true ∧ Ext H H') := by
  have hr' : (Is r).length = 5 := by simp [hr]
  have hs' : (Is s).length = 5 := by simp [hs]
  have hfs := fks_ints .i64 s
  rw [hs] at hfs
  have h15 : (uniR [0, 0, 0, 0, 89] s 90).2 = 0 → ¬ (rowM s = true ∧ s.getD 4 0 < 89) → s.getD 4 0 = 89 := by
    intro h0 h1
    by_cases hk : rowM s = true ∧ s.getD 4 0 < 90
    · have h2 : ¬ s.getD 4 0 < 89 := fun h => h1 ⟨hk.1, h⟩
      have h3 := hk.2
      omega
    · rw [pure_3 hk] at h0; cases h0
  refine Ret.of_at (N := 104) Tryd.call8 Tryd.func8 rfl rfl rfl ?_
  have hE := Ext.refl H
  refine At.region rfl rfl ?_
  refine Reg.op rfl rfl rfl rfl (Does.box rfl rfl) ?_
  rintro _ H0_0 ⟨rfl, hn0_0⟩
  have z0_0 := hn0_0.size
  replace hE := hE.ext hn0_0.ext
  have o0_0 := hn0_0.own
  refine Reg.op rfl rfl rfl rfl (Does.box rfl rfl) ?_
  rintro _ H0_1 ⟨rfl, hn0_1⟩
  have z0_1 := hn0_1.size
  replace hE := hE.ext hn0_1.ext
  replace o0_0 := o0_0.ext hn0_1.ext
  have o0_1 := hn0_1.own
  refine Reg.pur rfl rfl rfl rfl (Pur.asg rfl) ?_
  refine Reg.nil ?_
  refine At.region rfl rfl ?_
  refine Reg.op rfl rfl rfl rfl (Does.call rfl (awake8_ok (hT.ext hE))) ?_
  rintro _ H1_0 ⟨rfl, hE1_0⟩
  have z1_0 := hE1_0.lt
  replace hE := hE.ext hE1_0
  replace o0_0 := o0_0.ext hE1_0
  replace o0_1 := o0_1.ext hE1_0
  refine Reg.pur rfl rfl rfl rfl (Pur.not rfl) ?_
  refine Reg.nil ?_
  refine At.condF rfl rfl (rfl) ?_
  refine At.region rfl rfl ?_
  refine Reg.lod rfl rfl rfl rfl (Lod.ldn ag24 rfl o0_0.blk (whole hr') hr') ?_
  refine Reg.pur rfl rfl rfl rfl (Pur.bld (cs := [_, _, _, _, _]) pl24 zc24 rfl rfl ⟨rfl, rfl, rfl, rfl, rfl, rfl⟩) ?_
  refine Reg.op rfl rfl rfl rfl (Does.call rfl (rowUnifyO_ok r [0, 0, 0, 0, -1] 90 hr rfl _)) ?_
  rintro v3_2 H3_2 ⟨A1, k1, rfl, hB1, hO1, hE3_2⟩
  have z3_2 := hE3_2.lt
  replace hE := hE.ext hE3_2
  replace o0_0 := o0_0.ext hE3_2
  replace o0_1 := o0_1.ext hE3_2
  refine Reg.pur rfl rfl rfl rfl (Pur.mv rfl) ?_
  refine Reg.pur rfl rfl rfl rfl (Pur.ext rfl rfl) ?_
  refine Reg.pur rfl rfl rfl rfl (Pur.ext rfl rfl) ?_
  refine Reg.pur rfl rfl rfl rfl (Pur.asg rfl) ?_
  refine Reg.pur rfl rfl rfl rfl (Pur.asg rfl) ?_
  refine Reg.nil ?_
  refine At.region rfl rfl ?_
  refine Reg.pur rfl rfl rfl rfl (Pur.bld (cs := [_, _, _, _, _]) pl24 zc24 rfl rfl ⟨rfl, rfl, rfl, rfl, rfl, rfl⟩) ?_
  refine Reg.lod rfl rfl rfl rfl (Lod.ldn ag24 rfl o0_1.blk (whole hs') hs') ?_
  refine Reg.op rfl rfl rfl rfl (Does.call rfl (rowUnifyO_ok [0, 0, 0, 0, 89] s 90 rfl hs _)) ?_
  rintro v4_2 H4_2 ⟨A2, k2, rfl, hB2, hO2, hE4_2⟩
  have z4_2 := hE4_2.lt
  replace hE := hE.ext hE4_2
  replace o0_0 := o0_0.ext hE4_2
  replace o0_1 := o0_1.ext hE4_2
  have hX2 := Ext.refl H4_2
  have z_hX2 := hX2.lt
  refine Reg.pur rfl rfl rfl rfl (Pur.mv rfl) ?_
  refine Reg.pur rfl rfl rfl rfl (Pur.ext rfl rfl) ?_
  refine Reg.pur rfl rfl rfl rfl (Pur.ext rfl rfl) ?_
  refine Reg.pur rfl rfl rfl rfl (Pur.asg rfl) ?_
  refine Reg.pur rfl rfl rfl rfl (Pur.asg rfl) ?_
  refine Reg.nil ?_
  refine At.region rfl rfl ?_
  refine Reg.lod rfl rfl rfl rfl (Lod.ldn ag24 rfl o0_0.blk (whole hr') hr') ?_
  refine Reg.op rfl rfl rfl rfl (Does.call rfl (rowMay_ok r hr _)) ?_
  rintro _ H5_1 ⟨rfl, hE5_1⟩
  have z5_1 := hE5_1.lt
  replace hE := hE.ext hE5_1
  replace o0_0 := o0_0.ext hE5_1
  replace o0_1 := o0_1.ext hE5_1
  replace hX2 := hX2.ext hE5_1
  refine Reg.pur rfl rfl rfl rfl (Pur.not rfl) ?_
  refine Reg.pur rfl rfl rfl rfl (Pur.mv rfl) ?_
  refine Reg.case 28 rfl (fun q28 => ?_) (fun q28 => ?_)
  · first | (simp only [decide_eq_true_eq, decide_eq_false_iff_not, Bool.not_eq_true', Bool.not_eq_false', ne_eq, Decidable.not_not, Bool.not_eq_true, Bool.not_eq_false] at q28) | (dsimp only at q28) | skip
    refine Reg.skip rfl rfl rfl rfl rfl rfl rfl ?_
    refine Reg.skip rfl rfl rfl rfl rfl rfl rfl ?_
    refine Reg.skip rfl rfl rfl rfl rfl rfl rfl ?_
    refine Reg.pur rfl rfl rfl rfl (Pur.pickT rfl rfl) ?_
    refine Reg.nil ?_
    refine At.condT rfl rfl rfl ?_
    refine At.region rfl rfl ?_
    refine Reg.pur rfl rfl rfl rfl (Pur.mv rfl) ?_
    refine Reg.op rfl rfl rfl rfl (Does.call rfl (numE_ok _ _)) ?_
    rintro _ H5_1 ⟨rfl, rfl⟩
    refine Reg.pur rfl rfl rfl rfl (Pur.eql rfl rfl) ?_
    refine Reg.pur rfl rfl rfl rfl (Pur.asg rfl) ?_
    refine Reg.nil ?_
    refine At.ret rfl Tryd.func8 rfl ?_
    refine ⟨?_, hE⟩
    rw [uniR_no (fun k => by have := k.1; have := k.2.2.2.2.1; simp_all; try omega)]; rfl
  first | (simp only [decide_eq_true_eq, decide_eq_false_iff_not, Bool.not_eq_true', Bool.not_eq_false', ne_eq, Decidable.not_not, Bool.not_eq_true, Bool.not_eq_false] at q28) | (dsimp only at q28) | skip
  refine Reg.gpur rfl rfl rfl rfl rfl rfl (Pur.fld _ fo24_1 rfl) ?_
  refine Reg.glod rfl rfl rfl rfl rfl rfl (Lod.ld sc3 rfl o0_0.blk (hat4 r hr)) ?_
  refine Reg.gpur rfl rfl rfl rfl rfl rfl (Pur.geq rfl rfl) ?_
  refine Reg.pur rfl rfl rfl rfl (Pur.pickF rfl rfl) ?_
  refine Reg.nil ?_
  refine At.cond rfl rfl (fun q32 => ?_) (fun q32 => ?_)
  · first | (simp only [decide_eq_true_eq, decide_eq_false_iff_not, Bool.not_eq_true', Bool.not_eq_false', ne_eq, Decidable.not_not, Bool.not_eq_true, Bool.not_eq_false] at q32) | (dsimp only at q32) | skip
    refine At.region rfl rfl ?_
    refine Reg.pur rfl rfl rfl rfl (Pur.mv rfl) ?_
    refine Reg.op rfl rfl rfl rfl (Does.call rfl (numE_ok _ _)) ?_
    rintro _ H5_1 ⟨rfl, rfl⟩
    refine Reg.pur rfl rfl rfl rfl (Pur.eql rfl rfl) ?_
    refine Reg.pur rfl rfl rfl rfl (Pur.asg rfl) ?_
    refine Reg.nil ?_
    refine At.ret rfl Tryd.func8 rfl ?_
    refine ⟨?_, hE⟩
    rw [uniR_no (fun k => by have := k.1; have := k.2.2.2.2.1; simp_all; try omega)]; rfl
  first | (simp only [decide_eq_true_eq, decide_eq_false_iff_not, Bool.not_eq_true', Bool.not_eq_false', ne_eq, Decidable.not_not, Bool.not_eq_true, Bool.not_eq_false] at q32) | (dsimp only at q32) | skip
  refine At.region rfl rfl ?_
  refine Reg.pur rfl rfl rfl rfl (Pur.asg rfl) ?_
  refine Reg.nil ?_
  refine At.region rfl rfl ?_
  refine Reg.pur rfl rfl rfl rfl (Pur.asg rfl) ?_
  refine Reg.nil ?_
  obtain ⟨hp1, hp2⟩ := pure_1 hr q28 (by omega)
  refine At.loop (σ := Nat) (fun i => [(10, I i), (9, .bool (noTo r i)), (5, .slice A1 (uniR r [0, 0, 0, 0, -1] 90).1.length k1), (6, I (uniR r [0, 0, 0, 0, -1] 90).2), (7, .slice A2 (uniR [0, 0, 0, 0, 89] s 90).1.length k2), (8, I (uniR [0, 0, 0, 0, 89] s 90).2), (2, ptr H.size 0), (3, ptr H0_0.size 0)]) (fun i H' => i ≤ 4 ∧ Own H' H.size (Is r) ∧ Own H' H0_0.size (Is s) ∧ Ext H H' ∧ Ext H4_2 H') (fun i => 4 - i) 0 rfl ⟨rfl, rfl, rfl, rfl, rfl, rfl, rfl, rfl, trivial⟩ ⟨by omega, o0_0, o0_1, hE, hX2⟩ ?_
  clear o0_0 o0_1 hE hX2
  rintro i H5 ⟨hi, o0_0, o0_1, hE, hX2⟩ ih
  have z_hE := hE.lt
  have z_hX2 := hX2.lt
  have z_o0_0 := o0_0.lt
  have z_o0_1 := o0_1.lt
  refine At.region rfl rfl ?_
  refine Reg.pur rfl rfl rfl rfl (Pur.mv rfl) ?_
  refine Reg.pur rfl rfl rfl rfl (Pur.lss rfl rfl) ?_
  refine Reg.nil ?_
  refine At.cond rfl rfl (fun q37 => ?_) (fun q37 => ?_)
  · first | (simp only [decide_eq_true_eq, decide_eq_false_iff_not, Bool.not_eq_true', Bool.not_eq_false', ne_eq, Decidable.not_not, Bool.not_eq_true, Bool.not_eq_false] at q37) | (dsimp only at q37) | skip
    have hri : (Is r)[0 + 0 + (i : Int).toNat * 1]? = some (I (r.getD i 0)) := by rw [show 0 + 0 + (i : Int).toNat * 1 = i from by omega]; exact at_Is (by omega)
    have hsu := noTo_succ r i
    refine At.region rfl rfl ?_
    refine Reg.pur rfl rfl rfl rfl (Pur.mv rfl) ?_
    refine Reg.pur rfl rfl rfl rfl (Pur.mv rfl) ?_
    refine Reg.case 41 rfl (fun q41 => ?_) (fun q41 => ?_)
    · first | (simp only [decide_eq_true_eq, decide_eq_false_iff_not, Bool.not_eq_true', Bool.not_eq_false', ne_eq, Decidable.not_not, Bool.not_eq_true, Bool.not_eq_false] at q41) | (dsimp only at q41) | skip
      refine Reg.gpur rfl rfl rfl rfl rfl rfl (Pur.mv rfl) ?_
      refine Reg.gpur rfl rfl rfl rfl rfl rfl (Pur.fld _ fo24_0 rfl) ?_
      refine Reg.gpur rfl rfl rfl rfl rfl rfl (Pur.idxP arr22 rfl rfl (by omega) (by omega)) ?_
      refine Reg.glod rfl rfl rfl rfl rfl rfl (Lod.ld sc3 rfl o0_0.blk hri) ?_
      refine Reg.gpur rfl rfl rfl rfl rfl rfl (Pur.eql rfl rfl) ?_
      refine Reg.pur rfl rfl rfl rfl (Pur.pickT rfl rfl) ?_
      refine Reg.pur rfl rfl rfl rfl (Pur.asg rfl) ?_
      refine Reg.nil ?_
      refine At.region rfl rfl ?_
      refine Reg.pur rfl rfl rfl rfl (Pur.mv rfl) ?_
      first | refine Reg.pur rfl rfl rfl rfl (Pur.add64 rfl rfl (by omega)) ?_ | refine Reg.pur rfl rfl rfl rfl (Pur.add64 rfl rfl (by assumption)) ?_ | refine Reg.pur rfl rfl rfl rfl (Pur.add rfl rfl) ?_
      refine Reg.pur rfl rfl rfl rfl (Pur.asg rfl) ?_
      refine Reg.nil ?_
      rw [q41, Bool.true_and] at hsu
      exact At.meets rfl (ih (i + 1) _ ⟨by omega, o0_0, o0_1, hE, hX2⟩ (by omega)) ⟨rfl, by (show some (Value.bool _) = _); rw [hsu], rfl, rfl, rfl, rfl, rfl, rfl, trivial⟩
    first | (simp only [decide_eq_true_eq, decide_eq_false_iff_not, Bool.not_eq_true', Bool.not_eq_false', ne_eq, Decidable.not_not, Bool.not_eq_true, Bool.not_eq_false] at q41) | (dsimp only at q41) | skip
    refine Reg.skip rfl rfl rfl rfl rfl rfl rfl ?_
    refine Reg.skip rfl rfl rfl rfl rfl rfl rfl ?_
    refine Reg.skip rfl rfl rfl rfl rfl rfl rfl ?_
    refine Reg.skip rfl rfl rfl rfl rfl rfl rfl ?_
    refine Reg.skip rfl rfl rfl rfl rfl rfl rfl ?_
    refine Reg.pur rfl rfl rfl rfl (Pur.pickF rfl rfl) ?_
    refine Reg.pur rfl rfl rfl rfl (Pur.asg rfl) ?_
    refine Reg.nil ?_
    refine At.region rfl rfl ?_
    refine Reg.pur rfl rfl rfl rfl (Pur.mv rfl) ?_
    first | refine Reg.pur rfl rfl rfl rfl (Pur.add64 rfl rfl (by omega)) ?_ | refine Reg.pur rfl rfl rfl rfl (Pur.add64 rfl rfl (by assumption)) ?_ | refine Reg.pur rfl rfl rfl rfl (Pur.add rfl rfl) ?_
    refine Reg.pur rfl rfl rfl rfl (Pur.asg rfl) ?_
    refine Reg.nil ?_
    rw [q41, Bool.false_and] at hsu
    exact At.meets rfl (ih (i + 1) _ ⟨by omega, o0_0, o0_1, hE, hX2⟩ (by omega)) ⟨rfl, by (show some (Value.bool _) = _); rw [hsu], rfl, rfl, rfl, rfl, rfl, rfl, trivial⟩
  first | (simp only [decide_eq_true_eq, decide_eq_false_iff_not, Bool.not_eq_true', Bool.not_eq_false', ne_eq, Decidable.not_not, Bool.not_eq_true, Bool.not_eq_false] at q37) | (dsimp only at q37) | skip
  obtain rfl : i = 4 := by omega
  refine At.region rfl rfl ?_
  refine Reg.pur rfl rfl rfl rfl (Pur.mv rfl) ?_
  refine Reg.op rfl rfl rfl rfl (Does.call rfl (numE_ok _ _)) ?_
  rintro _ H5 ⟨rfl, rfl⟩
  refine Reg.pur rfl rfl rfl rfl (Pur.eql rfl rfl) ?_
  refine Reg.pur rfl rfl rfl rfl (Pur.mv rfl) ?_
  refine Reg.pur rfl rfl rfl rfl (Pur.neB Tryd.underlying4 rfl rfl) ?_
  refine Reg.pur rfl rfl rfl rfl (Pur.mv rfl) ?_
  refine Reg.known (b' := false) 53 rfl (by cases hn : noTo r 4 <;> simp_all) ?_
  refine Reg.gpur rfl rfl rfl rfl rfl rfl (Pur.mv rfl) ?_
  refine Reg.gpur rfl rfl rfl rfl rfl rfl (Pur.mv rfl) ?_
  refine Reg.case 55 rfl (fun q55 => ?_) (fun q55 => ?_)
  · first | (simp only [decide_eq_true_eq, decide_eq_false_iff_not, Bool.not_eq_true', Bool.not_eq_false', ne_eq, Decidable.not_not, Bool.not_eq_true, Bool.not_eq_false] at q55) | (dsimp only at q55) | skip
    refine Reg.gpur rfl rfl rfl rfl rfl rfl (Pur.mv rfl) ?_
    refine Reg.gpur rfl rfl rfl rfl rfl rfl (Pur.lenS isl25 rfl) ?_
    refine Reg.gpur rfl rfl rfl rfl rfl rfl (Pur.eql rfl rfl) ?_
    refine Reg.gpur rfl rfl rfl rfl rfl rfl (Pur.fld _ fo24_1 rfl) ?_
    refine Reg.glod rfl rfl rfl rfl rfl rfl (Lod.ld sc3 rfl o0_0.blk (hat4 r hr)) ?_
    refine Reg.gpur rfl rfl rfl rfl rfl rfl (Pur.geq rfl rfl) ?_
    refine Reg.gpur rfl rfl rfl rfl rfl rfl (Pur.neB Tryd.underlying4 rfl rfl) ?_
    refine Reg.gpur rfl rfl rfl rfl rfl rfl (Pur.pickT rfl rfl) ?_
    refine Reg.pur rfl rfl rfl rfl (Pur.pickF rfl rfl) ?_
    refine Reg.nil ?_
    refine At.condF rfl rfl (by first | rfl | (simp only [hp2 q55]; simp)) ?_
    refine At.region rfl rfl ?_
    refine Reg.lod rfl rfl rfl rfl (Lod.ldn ag24 rfl o0_1.blk (whole hs') hs') ?_
    refine Reg.op rfl rfl rfl rfl (Does.call rfl (rowMay_ok s hs _)) ?_
    rintro _ H14_1 ⟨rfl, hE14_1⟩
    have z14_1 := hE14_1.lt
    replace hE := hE.ext hE14_1
    replace hX2 := hX2.ext hE14_1
    replace o0_0 := o0_0.ext hE14_1
    replace o0_1 := o0_1.ext hE14_1
    refine Reg.pur rfl rfl rfl rfl (Pur.not rfl) ?_
    refine Reg.pur rfl rfl rfl rfl (Pur.mv rfl) ?_
    refine Reg.case 68 rfl (fun q68 => ?_) (fun q68 => ?_)
    · first | (simp only [decide_eq_true_eq, decide_eq_false_iff_not, Bool.not_eq_true', Bool.not_eq_false', ne_eq, Decidable.not_not, Bool.not_eq_true, Bool.not_eq_false] at q68) | (dsimp only at q68) | skip
      refine Reg.skip rfl rfl rfl rfl rfl rfl rfl ?_
      refine Reg.skip rfl rfl rfl rfl rfl rfl rfl ?_
      refine Reg.skip rfl rfl rfl rfl rfl rfl rfl ?_
      refine Reg.pur rfl rfl rfl rfl (Pur.pickT rfl rfl) ?_
      refine Reg.nil ?_
      refine At.condT rfl rfl rfl ?_
      refine At.region rfl rfl ?_
      refine Reg.pur rfl rfl rfl rfl (Pur.mv rfl) ?_
      refine Reg.op rfl rfl rfl rfl (Does.call rfl (numE_ok _ _)) ?_
      rintro _ H14_1 ⟨rfl, rfl⟩
      refine Reg.pur rfl rfl rfl rfl (Pur.neq rfl rfl) ?_
      refine Reg.pur rfl rfl rfl rfl (Pur.mv rfl) ?_
      refine Reg.case 76 rfl (fun q76 => ?_) (fun q76 => ?_)
      · first | (simp only [decide_eq_true_eq, decide_eq_false_iff_not, Bool.not_eq_true', Bool.not_eq_false', ne_eq, Decidable.not_not, Bool.not_eq_true, Bool.not_eq_false] at q76) | (dsimp only at q76) | skip
        refine Reg.skip rfl rfl rfl rfl rfl rfl rfl ?_
        refine Reg.skip rfl rfl rfl rfl rfl rfl rfl ?_
        refine Reg.skip rfl rfl rfl rfl rfl rfl rfl ?_
        refine Reg.pur rfl rfl rfl rfl (Pur.pickT rfl rfl) ?_
        refine Reg.pur rfl rfl rfl rfl (Pur.asg rfl) ?_
        refine Reg.nil ?_
        refine At.ret rfl Tryd.func8 rfl ?_
        first | exact ⟨rfl, hE⟩ | exact ⟨congrArg Value.bool (decide_eq_true (h15 q76 (by intro hk; simp_all; try omega))), hE⟩
      first | (simp only [decide_eq_true_eq, decide_eq_false_iff_not, Bool.not_eq_true', Bool.not_eq_false', ne_eq, Decidable.not_not, Bool.not_eq_true, Bool.not_eq_false] at q76) | (dsimp only at q76) | skip
      refine Reg.gpur rfl rfl rfl rfl rfl rfl (Pur.fld _ fo24_1 rfl) ?_
      refine Reg.glod rfl rfl rfl rfl rfl rfl (Lod.ld sc3 rfl o0_1.blk (hat4 s hs)) ?_
      refine Reg.gpur rfl rfl rfl rfl rfl rfl (Pur.eql rfl rfl) ?_
      refine Reg.pur rfl rfl rfl rfl (Pur.pickF rfl rfl) ?_
      refine Reg.pur rfl rfl rfl rfl (Pur.asg rfl) ?_
      refine Reg.nil ?_
      refine At.ret rfl Tryd.func8 rfl ?_
      first | exact ⟨rfl, hE⟩ | exact ⟨congrArg Value.bool (decide_eq_true (h15 q76 (by intro hk; simp_all; try omega))), hE⟩
    first | (simp only [decide_eq_true_eq, decide_eq_false_iff_not, Bool.not_eq_true', Bool.not_eq_false', ne_eq, Decidable.not_not, Bool.not_eq_true, Bool.not_eq_false] at q68) | (dsimp only at q68) | skip
    refine Reg.gpur rfl rfl rfl rfl rfl rfl (Pur.fld _ fo24_1 rfl) ?_
    refine Reg.glod rfl rfl rfl rfl rfl rfl (Lod.ld sc3 rfl o0_1.blk (hat4 s hs)) ?_
    refine Reg.gpur rfl rfl rfl rfl rfl rfl (Pur.geq rfl rfl) ?_
    refine Reg.pur rfl rfl rfl rfl (Pur.pickF rfl rfl) ?_
    refine Reg.nil ?_
    refine At.cond rfl rfl (fun q72 => ?_) (fun q72 => ?_)
    · first | (simp only [decide_eq_true_eq, decide_eq_false_iff_not, Bool.not_eq_true', Bool.not_eq_false', ne_eq, Decidable.not_not, Bool.not_eq_true, Bool.not_eq_false] at q72) | (dsimp only at q72) | skip
      refine At.region rfl rfl ?_
      refine Reg.pur rfl rfl rfl rfl (Pur.mv rfl) ?_
      refine Reg.op rfl rfl rfl rfl (Does.call rfl (numE_ok _ _)) ?_
      rintro _ H14_1 ⟨rfl, rfl⟩
      refine Reg.pur rfl rfl rfl rfl (Pur.neq rfl rfl) ?_
      refine Reg.pur rfl rfl rfl rfl (Pur.mv rfl) ?_
      refine Reg.case 76 rfl (fun q76 => ?_) (fun q76 => ?_)
      · first | (simp only [decide_eq_true_eq, decide_eq_false_iff_not, Bool.not_eq_true', Bool.not_eq_false', ne_eq, Decidable.not_not, Bool.not_eq_true, Bool.not_eq_false] at q76) | (dsimp only at q76) | skip
        refine Reg.skip rfl rfl rfl rfl rfl rfl rfl ?_
        refine Reg.skip rfl rfl rfl rfl rfl rfl rfl ?_
        refine Reg.skip rfl rfl rfl rfl rfl rfl rfl ?_
        refine Reg.pur rfl rfl rfl rfl (Pur.pickT rfl rfl) ?_
        refine Reg.pur rfl rfl rfl rfl (Pur.asg rfl) ?_
        refine Reg.nil ?_
        refine At.ret rfl Tryd.func8 rfl ?_
        first | exact ⟨rfl, hE⟩ | exact ⟨congrArg Value.bool (decide_eq_true (h15 q76 (by intro hk; simp_all; try omega))), hE⟩
      first | (simp only [decide_eq_true_eq, decide_eq_false_iff_not, Bool.not_eq_true', Bool.not_eq_false', ne_eq, Decidable.not_not, Bool.not_eq_true, Bool.not_eq_false] at q76) | (dsimp only at q76) | skip
      refine Reg.gpur rfl rfl rfl rfl rfl rfl (Pur.fld _ fo24_1 rfl) ?_
      refine Reg.glod rfl rfl rfl rfl rfl rfl (Lod.ld sc3 rfl o0_1.blk (hat4 s hs)) ?_
      refine Reg.gpur rfl rfl rfl rfl rfl rfl (Pur.eql rfl rfl) ?_
      refine Reg.pur rfl rfl rfl rfl (Pur.pickF rfl rfl) ?_
      refine Reg.pur rfl rfl rfl rfl (Pur.asg rfl) ?_
      refine Reg.nil ?_
      refine At.ret rfl Tryd.func8 rfl ?_
      first | exact ⟨rfl, hE⟩ | exact ⟨congrArg Value.bool (decide_eq_true (h15 q76 (by intro hk; simp_all; try omega))), hE⟩
    first | (simp only [decide_eq_true_eq, decide_eq_false_iff_not, Bool.not_eq_true', Bool.not_eq_false', ne_eq, Decidable.not_not, Bool.not_eq_true, Bool.not_eq_false] at q72) | (dsimp only at q72) | skip
    have hp := pure_2 hs q68 (by omega)
    rw [hp] at hO2 ⊢
    obtain ⟨b2, rfl, _, ho2⟩ := hO2.resolve_left (by simp)
    replace ho2 := ho2.ext hX2
    have z_ho2 := ho2.lt
    refine At.drawE ((Bks.cons o0_1.blk (Bks.cons ho2.blk Bks.nil))) [] mixed rfl rfl ?_
    refine RegD.tpur (i := 0) rfl rfl rfl rfl (by kernel_rfl) (Pur.mv rfl) ?_
    refine RegD.one (i := 1) (by kernel_rfl) rfl rfl rfl rfl (Does.call rfl (numE_ok _ _)) ?_
    rintro _ H14_1 ⟨rfl, rfl⟩
    refine ⟨fun _ _ => (Bks.cons o0_1.blk (Bks.cons ho2.blk Bks.nil)), ?_⟩
    refine RegD.tpur (i := 2) rfl rfl rfl rfl (by kernel_rfl) (Pur.eql rfl rfl) ?_
    refine RegD.tpur (i := 3) rfl rfl rfl rfl (by kernel_rfl) (Pur.mv rfl) ?_
    refine RegD.known (b' := true) 84 rfl (by first | rfl | simp) ?_
    refine RegD.gtpur (i := 4) rfl rfl rfl rfl rfl rfl (by kernel_rfl) (Pur.mv rfl) ?_
    refine RegD.gtpur (i := 5) rfl rfl rfl rfl rfl rfl (by kernel_rfl) (Pur.lenS isl25 rfl) ?_
    refine RegD.gtpur (i := 6) rfl rfl rfl rfl rfl rfl (by kernel_rfl) (Pur.eql rfl rfl) ?_
    refine RegD.tpur (i := 7) rfl rfl rfl rfl (by kernel_rfl) (Pur.pickT rfl rfl) ?_
    refine RegD.tpur (i := 8) rfl rfl rfl rfl (by kernel_rfl) (Pur.mv rfl) ?_
    refine RegD.known (b' := true) 89 rfl (by first | rfl | simp) ?_
    refine RegD.gtpur (i := 9) rfl rfl rfl rfl rfl rfl (by kernel_rfl) (Pur.mv rfl) ?_
    refine RegD.gtpur (i := 10) rfl rfl rfl rfl rfl rfl (by kernel_rfl) (Pur.idx _ es25 rfl rfl (by decide) (by simp)) ?_
    refine RegD.gtpur (i := 11) rfl rfl rfl rfl rfl rfl (by kernel_rfl) (Pur.fld _ fo57_0 rfl) ?_
    refine RegD.gtake (i := 12) rfl rfl rfl rfl rfl rfl (by kernel_rfl) (Bks.cons o0_1.blk (Bks.cons ho2.blk Bks.nil)) (fun H hS => Lod.ld sc3 rfl hS.tl.hd rfl) ?_
    refine RegD.gtpur (i := 13) rfl rfl rfl rfl rfl rfl (by kernel_rfl) (Pur.eql rfl rfl) ?_
    refine RegD.tpur (i := 14) rfl rfl rfl rfl (by kernel_rfl) (Pur.pickT rfl rfl) ?_
    refine RegD.tpur (i := 15) rfl rfl rfl rfl (by kernel_rfl) (Pur.mv rfl) ?_
    refine RegD.known (b' := true) 96 rfl (by first | rfl | simp) ?_
    refine RegD.gtpur (i := 16) rfl rfl rfl rfl rfl rfl (by kernel_rfl) (Pur.mv rfl) ?_
    refine RegD.gtpur (i := 17) rfl rfl rfl rfl rfl rfl (by kernel_rfl) (Pur.idx _ es25 rfl rfl (by decide) (by simp)) ?_
    refine RegD.gtpur (i := 18) rfl rfl rfl rfl rfl rfl (by kernel_rfl) (Pur.fld _ fo57_3 rfl) ?_
    refine RegD.gtake (i := 19) rfl rfl rfl rfl rfl rfl (by kernel_rfl) (Bks.cons o0_1.blk (Bks.cons ho2.blk Bks.nil)) (fun H hS => Lod.ldn ag24 rfl hS.tl.hd (show (Is s ++ []).take 5 = Is s by rw [List.append_nil, List.take_of_length_le (by omega)]) hs') ?_
    refine RegD.gtake (i := 20) rfl rfl rfl rfl rfl rfl (by kernel_rfl) (Bks.cons o0_1.blk (Bks.cons ho2.blk Bks.nil)) (fun H hS => Lod.ldn ag24 rfl hS.hd (whole hs') hs') ?_
    refine RegD.gtpur (i := 21) rfl rfl rfl rfl rfl rfl (by kernel_rfl) (Pur.eqA eqt24 rfl rfl hfs hfs) ?_
    refine RegD.tpur (i := 22) rfl rfl rfl rfl (by kernel_rfl) (Pur.pickT rfl rfl) ?_
    refine RegD.tpur (i := 23) rfl rfl rfl rfl (by kernel_rfl) (Pur.asg rfl) ?_
    refine RegD.done (by kernel_rfl) ?_
    refine At.ret rfl Tryd.func8 rfl ?_
    exact ⟨by rw [eqs_ints]; simp, hE⟩
  first | (simp only [decide_eq_true_eq, decide_eq_false_iff_not, Bool.not_eq_true', Bool.not_eq_false', ne_eq, Decidable.not_not, Bool.not_eq_true, Bool.not_eq_false] at q55) | (dsimp only at q55) | skip
  refine Reg.skip rfl rfl rfl rfl rfl rfl rfl ?_
  refine Reg.skip rfl rfl rfl rfl rfl rfl rfl ?_
  refine Reg.skip rfl rfl rfl rfl rfl rfl rfl ?_
  refine Reg.skip rfl rfl rfl rfl rfl rfl rfl ?_
  refine Reg.skip rfl rfl rfl rfl rfl rfl rfl ?_
  refine Reg.skip rfl rfl rfl rfl rfl rfl rfl ?_
  refine Reg.skip rfl rfl rfl rfl rfl rfl rfl ?_
  refine Reg.gpur rfl rfl rfl rfl rfl rfl (Pur.pickF rfl rfl) ?_
  refine Reg.pur rfl rfl rfl rfl (Pur.pickF rfl rfl) ?_
  refine Reg.nil ?_
  refine At.condF rfl rfl rfl ?_
  refine At.region rfl rfl ?_
  refine Reg.lod rfl rfl rfl rfl (Lod.ldn ag24 rfl o0_1.blk (whole hs') hs') ?_
  refine Reg.op rfl rfl rfl rfl (Does.call rfl (rowMay_ok s hs _)) ?_
  rintro _ H14_1 ⟨rfl, hE14_1⟩
  have z14_1 := hE14_1.lt
  replace hE := hE.ext hE14_1
  replace hX2 := hX2.ext hE14_1
  replace o0_0 := o0_0.ext hE14_1
  replace o0_1 := o0_1.ext hE14_1
  refine Reg.pur rfl rfl rfl rfl (Pur.not rfl) ?_
  refine Reg.pur rfl rfl rfl rfl (Pur.mv rfl) ?_
  refine Reg.case 68 rfl (fun q68 => ?_) (fun q68 => ?_)
  · first | (simp only [decide_eq_true_eq, decide_eq_false_iff_not, Bool.not_eq_true', Bool.not_eq_false', ne_eq, Decidable.not_not, Bool.not_eq_true, Bool.not_eq_false] at q68) | (dsimp only at q68) | skip
    refine Reg.skip rfl rfl rfl rfl rfl rfl rfl ?_
    refine Reg.skip rfl rfl rfl rfl rfl rfl rfl ?_
    refine Reg.skip rfl rfl rfl rfl rfl rfl rfl ?_
    refine Reg.pur rfl rfl rfl rfl (Pur.pickT rfl rfl) ?_
    refine Reg.nil ?_
    refine At.condT rfl rfl rfl ?_
    refine At.region rfl rfl ?_
    refine Reg.pur rfl rfl rfl rfl (Pur.mv rfl) ?_
    refine Reg.op rfl rfl rfl rfl (Does.call rfl (numE_ok _ _)) ?_
    rintro _ H14_1 ⟨rfl, rfl⟩
    refine Reg.pur rfl rfl rfl rfl (Pur.neq rfl rfl) ?_
    refine Reg.pur rfl rfl rfl rfl (Pur.mv rfl) ?_
    refine Reg.case 76 rfl (fun q76 => ?_) (fun q76 => ?_)
    · first | (simp only [decide_eq_true_eq, decide_eq_false_iff_not, Bool.not_eq_true', Bool.not_eq_false', ne_eq, Decidable.not_not, Bool.not_eq_true, Bool.not_eq_false] at q76) | (dsimp only at q76) | skip
      refine Reg.skip rfl rfl rfl rfl rfl rfl rfl ?_
      refine Reg.skip rfl rfl rfl rfl rfl rfl rfl ?_
      refine Reg.skip rfl rfl rfl rfl rfl rfl rfl ?_
      refine Reg.pur rfl rfl rfl rfl (Pur.pickT rfl rfl) ?_
      refine Reg.pur rfl rfl rfl rfl (Pur.asg rfl) ?_
      refine Reg.nil ?_
      refine At.ret rfl Tryd.func8 rfl ?_
      first | exact ⟨rfl, hE⟩ | exact ⟨congrArg Value.bool (decide_eq_true (h15 q76 (by intro hk; simp_all; try omega))), hE⟩
    first | (simp only [decide_eq_true_eq, decide_eq_false_iff_not, Bool.not_eq_true', Bool.not_eq_false', ne_eq, Decidable.not_not, Bool.not_eq_true, Bool.not_eq_false] at q76) | (dsimp only at q76) | skip
    refine Reg.gpur rfl rfl rfl rfl rfl rfl (Pur.fld _ fo24_1 rfl) ?_
    refine Reg.glod rfl rfl rfl rfl rfl rfl (Lod.ld sc3 rfl o0_1.blk (hat4 s hs)) ?_
    refine Reg.gpur rfl rfl rfl rfl rfl rfl (Pur.eql rfl rfl) ?_
    refine Reg.pur rfl rfl rfl rfl (Pur.pickF rfl rfl) ?_
    refine Reg.pur rfl rfl rfl rfl (Pur.asg rfl) ?_
    refine Reg.nil ?_
    refine At.ret rfl Tryd.func8 rfl ?_
    first | exact ⟨rfl, hE⟩ | exact ⟨congrArg Value.bool (decide_eq_true (h15 q76 (by intro hk; simp_all; try omega))), hE⟩
  first | (simp only [decide_eq_true_eq, decide_eq_false_iff_not, Bool.not_eq_true', Bool.not_eq_false', ne_eq, Decidable.not_not, Bool.not_eq_true, Bool.not_eq_false] at q68) | (dsimp only at q68) | skip
  refine Reg.gpur rfl rfl rfl rfl rfl rfl (Pur.fld _ fo24_1 rfl) ?_
  refine Reg.glod rfl rfl rfl rfl rfl rfl (Lod.ld sc3 rfl o0_1.blk (hat4 s hs)) ?_
  refine Reg.gpur rfl rfl rfl rfl rfl rfl (Pur.geq rfl rfl) ?_
  refine Reg.pur rfl rfl rfl rfl (Pur.pickF rfl rfl) ?_
  refine Reg.nil ?_
  refine At.cond rfl rfl (fun q72 => ?_) (fun q72 => ?_)
  · first | (simp only [decide_eq_true_eq, decide_eq_false_iff_not, Bool.not_eq_true', Bool.not_eq_false', ne_eq, Decidable.not_not, Bool.not_eq_true, Bool.not_eq_false] at q72) | (dsimp only at q72) | skip
    refine At.region rfl rfl ?_
    refine Reg.pur rfl rfl rfl rfl (Pur.mv rfl) ?_
    refine Reg.op rfl rfl rfl rfl (Does.call rfl (numE_ok _ _)) ?_
    rintro _ H14_1 ⟨rfl, rfl⟩
    refine Reg.pur rfl rfl rfl rfl (Pur.neq rfl rfl) ?_
    refine Reg.pur rfl rfl rfl rfl (Pur.mv rfl) ?_
    refine Reg.case 76 rfl (fun q76 => ?_) (fun q76 => ?_)
    · first | (simp only [decide_eq_true_eq, decide_eq_false_iff_not, Bool.not_eq_true', Bool.not_eq_false', ne_eq, Decidable.not_not, Bool.not_eq_true, Bool.not_eq_false] at q76) | (dsimp only at q76) | skip
      refine Reg.skip rfl rfl rfl rfl rfl rfl rfl ?_
      refine Reg.skip rfl rfl rfl rfl rfl rfl rfl ?_
      refine Reg.skip rfl rfl rfl rfl rfl rfl rfl ?_
      refine Reg.pur rfl rfl rfl rfl (Pur.pickT rfl rfl) ?_
      refine Reg.pur rfl rfl rfl rfl (Pur.asg rfl) ?_
      refine Reg.nil ?_
      refine At.ret rfl Tryd.func8 rfl ?_
      first | exact ⟨rfl, hE⟩ | exact ⟨congrArg Value.bool (decide_eq_true (h15 q76 (by intro hk; simp_all; try omega))), hE⟩
    first | (simp only [decide_eq_true_eq, decide_eq_false_iff_not, Bool.not_eq_true', Bool.not_eq_false', ne_eq, Decidable.not_not, Bool.not_eq_true, Bool.not_eq_false] at q76) | (dsimp only at q76) | skip
    refine Reg.gpur rfl rfl rfl rfl rfl rfl (Pur.fld _ fo24_1 rfl) ?_
    refine Reg.glod rfl rfl rfl rfl rfl rfl (Lod.ld sc3 rfl o0_1.blk (hat4 s hs)) ?_
    refine Reg.gpur rfl rfl rfl rfl rfl rfl (Pur.eql rfl rfl) ?_
    refine Reg.pur rfl rfl rfl rfl (Pur.pickF rfl rfl) ?_
    refine Reg.pur rfl rfl rfl rfl (Pur.asg rfl) ?_
    refine Reg.nil ?_
    refine At.ret rfl Tryd.func8 rfl ?_
    first | exact ⟨rfl, hE⟩ | exact ⟨congrArg Value.bool (decide_eq_true (h15 q76 (by intro hk; simp_all; try omega))), hE⟩
  first | (simp only [decide_eq_true_eq, decide_eq_false_iff_not, Bool.not_eq_true', Bool.not_eq_false', ne_eq, Decidable.not_not, Bool.not_eq_true, Bool.not_eq_false] at q72) | (dsimp only at q72) | skip
  have hp := pure_2 hs q68 (by omega)
  rw [hp] at hO2 ⊢
  obtain ⟨b2, rfl, _, ho2⟩ := hO2.resolve_left (by simp)
  replace ho2 := ho2.ext hX2
  have z_ho2 := ho2.lt
  refine At.drawE ((Bks.cons o0_1.blk (Bks.cons ho2.blk Bks.nil))) [] mixed rfl rfl ?_
  refine RegD.tpur (i := 0) rfl rfl rfl rfl (by kernel_rfl) (Pur.mv rfl) ?_
  refine RegD.one (i := 1) (by kernel_rfl) rfl rfl rfl rfl (Does.call rfl (numE_ok _ _)) ?_
  rintro _ H14_1 ⟨rfl, rfl⟩
  refine ⟨fun _ _ => (Bks.cons o0_1.blk (Bks.cons ho2.blk Bks.nil)), ?_⟩
  refine RegD.tpur (i := 2) rfl rfl rfl rfl (by kernel_rfl) (Pur.eql rfl rfl) ?_
  refine RegD.tpur (i := 3) rfl rfl rfl rfl (by kernel_rfl) (Pur.mv rfl) ?_
  refine RegD.known (b' := true) 84 rfl (by first | rfl | simp) ?_
  refine RegD.gtpur (i := 4) rfl rfl rfl rfl rfl rfl (by kernel_rfl) (Pur.mv rfl) ?_
  refine RegD.gtpur (i := 5) rfl rfl rfl rfl rfl rfl (by kernel_rfl) (Pur.lenS isl25 rfl) ?_
  refine RegD.gtpur (i := 6) rfl rfl rfl rfl rfl rfl (by kernel_rfl) (Pur.eql rfl rfl) ?_
  refine RegD.tpur (i := 7) rfl rfl rfl rfl (by kernel_rfl) (Pur.pickT rfl rfl) ?_
  refine RegD.tpur (i := 8) rfl rfl rfl rfl (by kernel_rfl) (Pur.mv rfl) ?_
  refine RegD.known (b' := true) 89 rfl (by first | rfl | simp) ?_
  refine RegD.gtpur (i := 9) rfl rfl rfl rfl rfl rfl (by kernel_rfl) (Pur.mv rfl) ?_
  refine RegD.gtpur (i := 10) rfl rfl rfl rfl rfl rfl (by kernel_rfl) (Pur.idx _ es25 rfl rfl (by decide) (by simp)) ?_
  refine RegD.gtpur (i := 11) rfl rfl rfl rfl rfl rfl (by kernel_rfl) (Pur.fld _ fo57_0 rfl) ?_
  refine RegD.gtake (i := 12) rfl rfl rfl rfl rfl rfl (by kernel_rfl) (Bks.cons o0_1.blk (Bks.cons ho2.blk Bks.nil)) (fun H hS => Lod.ld sc3 rfl hS.tl.hd rfl) ?_
  refine RegD.gtpur (i := 13) rfl rfl rfl rfl rfl rfl (by kernel_rfl) (Pur.eql rfl rfl) ?_
  refine RegD.tpur (i := 14) rfl rfl rfl rfl (by kernel_rfl) (Pur.pickT rfl rfl) ?_
  refine RegD.tpur (i := 15) rfl rfl rfl rfl (by kernel_rfl) (Pur.mv rfl) ?_
  refine RegD.known (b' := true) 96 rfl (by first | rfl | simp) ?_
  refine RegD.gtpur (i := 16) rfl rfl rfl rfl rfl rfl (by kernel_rfl) (Pur.mv rfl) ?_
  refine RegD.gtpur (i := 17) rfl rfl rfl rfl rfl rfl (by kernel_rfl) (Pur.idx _ es25 rfl rfl (by decide) (by simp)) ?_
  refine RegD.gtpur (i := 18) rfl rfl rfl rfl rfl rfl (by kernel_rfl) (Pur.fld _ fo57_3 rfl) ?_
  refine RegD.gtake (i := 19) rfl rfl rfl rfl rfl rfl (by kernel_rfl) (Bks.cons o0_1.blk (Bks.cons ho2.blk Bks.nil)) (fun H hS => Lod.ldn ag24 rfl hS.tl.hd (show (Is s ++ []).take 5 = Is s by rw [List.append_nil, List.take_of_length_le (by omega)]) hs') ?_
  refine RegD.gtake (i := 20) rfl rfl rfl rfl rfl rfl (by kernel_rfl) (Bks.cons o0_1.blk (Bks.cons ho2.blk Bks.nil)) (fun H hS => Lod.ldn ag24 rfl hS.hd (whole hs') hs') ?_
  refine RegD.gtpur (i := 21) rfl rfl rfl rfl rfl rfl (by kernel_rfl) (Pur.eqA eqt24 rfl rfl hfs hfs) ?_
  refine RegD.tpur (i := 22) rfl rfl rfl rfl (by kernel_rfl) (Pur.pickT rfl rfl) ?_
  refine RegD.tpur (i := 23) rfl rfl rfl rfl (by kernel_rfl) (Pur.asg rfl) ?_
  refine RegD.done (by kernel_rfl) ?_
  refine At.ret rfl Tryd.func8 rfl ?_
  exact ⟨by rw [eqs_ints]; simp, hE⟩
end Go.Proofs.YtlfillhffpiffaaDoor

