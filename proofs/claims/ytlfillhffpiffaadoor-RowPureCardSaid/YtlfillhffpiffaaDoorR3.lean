/-
  Parts of the proof, 3.
-/
import Derived.Test.YtlfillhffpiffaaDoorRows
import Derived.Test.YtlfillhffpiffaaDoorCards
import Derived.Test.YtlfillhffpiffaaDoorTie
import Derived.ProofKit
import Derived.ChangeSame
import Derived.ChangeVars
import Derived.JoinedOf
import Derived.LaidLaws
import Derived.Handed
import Derived.SevenTiedAt
import Derived.SizedLaws
import Derived.Test.YtlfillhffpiffaaDoorR2
namespace Go.Proofs.YtlfillhffpiffaaDoor
set_option linter.unusedSimpArgs false
set_option linter.unusedVariables false
set_option maxRecDepth 8000
set_option maxHeartbeats 1000000
open Go Go.Fx Go.Proofs
namespace FactsDRwB
theorem ag22 : ag Tryd.prog 22 = some 4 := by kernel_rfl
theorem ag24 : ag Tryd.prog 24 = some 5 := by kernel_rfl
theorem ag55 : ag Tryd.prog 55 = some 1 := by kernel_rfl
theorem arr22 : arr Tryd.prog 22 = some (4, 1) := by kernel_rfl
theorem es25 : esz Tryd.prog 25 = some 8 := by kernel_rfl
theorem fo24_0 : foff Tryd.prog 24 0 = some 0 := by kernel_rfl
theorem fo24_1 : foff Tryd.prog 24 1 = some 4 := by kernel_rfl
theorem fo57_0 : foff Tryd.prog 57 0 = some 0 := by kernel_rfl
theorem fo57_2 : foff Tryd.prog 57 2 = some 2 := by kernel_rfl
theorem isl25 : isSl Tryd.prog 25 = true := by kernel_rfl
theorem mixed : Tryd.prog.follows .mixedOrders = true := by kernel_rfl
theorem sc3 : sc Tryd.prog 3 = true := by kernel_rfl
theorem slA25 : slA Tryd.prog 25 = some (57, 8) := by kernel_rfl
theorem zc22 : zc Tryd.prog 22 = some [.int .i64 0, .int .i64 0, .int .i64 0, .int .i64 0] := by kernel_rfl
end FactsDRwB
open FactsDRwB

def UniO (H : Heap) (p : List Bd × Int) (v : Value) (H' : Heap) : Prop :=
  ∃ A' cap', v = .tuple #[.slice A' p.1.length cap', I p.2] ∧ Bds H' (.slice A' p.1.length cap') p.1 ∧ ((p.1 = [] ∧ A' = none) ∨ ∃ b, A' = some ⟨b, 0, none⟩ ∧ H.size ≤ b ∧ Own H' b (p.1.flatMap encB)) ∧ Ext H H'
theorem uniO_nil {H H' : Heap} {p : List Bd × Int} {c : Int} (h : p = ([], c)) (hE : Ext H H') : UniO H p (tupl [.slice none 0 0, I c]) H' := by
  subst h; exact ⟨none, 0, rfl, bds_nil' _, .inl ⟨rfl, rfl⟩, hE⟩
theorem uniO_one {H H' : Heap} {p : List Bd × Int} {b : Nat} {v : Int} {r : List Int} (h : p = ([bR v r], 0)) (hr : r.length = 5) (hn : Own H' b ([bR v r].flatMap encB)) (hb : H.size ≤ b) (hE : Ext H H') : UniO H p (tupl [.slice (some ⟨b, 0, none⟩) 1 1, I 0]) H' := by
  subst h
  have hw : Wide encB 8 [bR v r] := fun x hx => by simp at hx; subst hx; simp [bR, hr]
  exact ⟨_, _, rfl, ⟨sl_own hw (by decide) hn (by simp), fun x hx => by { rw [List.mem_singleton.1 hx]; exact bR_ok _ _ hr _ }, by simp⟩, .inr ⟨b, rfl, hb, hn⟩, hE⟩
theorem uniO_two {H H' : Heap} {p : List Bd × Int} {b : Nat} {v w : Int} {r s : List Int} (h : p = ([bR v r, bR w s], 0)) (hr : r.length = 5) (hs : s.length = 5) (hn : Own H' b ([bR v r, bR w s].flatMap encB)) (hb : H.size ≤ b) (hE : Ext H H') : UniO H p (tupl [.slice (some ⟨b, 0, none⟩) 2 2, I 0]) H' := by
  subst h
  have hw : Wide encB 8 [bR v r, bR w s] := fun x hx => by simp at hx; rcases hx with rfl | rfl <;> simp [bR, hr, hs]
  refine ⟨_, _, rfl, ⟨sl_own hw (by decide) hn (by simp), fun x hx => ?_, by simp⟩, .inr ⟨b, rfl, hb, hn⟩, hE⟩
  simp at hx
  rcases hx with rfl | rfl
  · exact bR_ok _ _ hr _
  · exact bR_ok _ _ hs _

theorem rowUnifyO_ok (a b : List Int) (f : Int) (ha5 : a.length = 5) (hb5 : b.length = 5) (H : Heap) :
    Ret Tryd.prog 18 [.agg (Is a).toArray, .agg (Is b).toArray, I f] H (UniO H (uniR a b f)) := by
  refine Ret.of_at (N := 124) Tryd.call18 Tryd.func18 rfl rfl rfl ?_
  have hE := Ext.refl H
  have z_hE := hE.lt
  refine At.region rfl rfl ?_
  refine Reg.op rfl rfl rfl rfl (Does.box rfl rfl) ?_
  rintro _ H0_0 ⟨rfl, hn0_0⟩
  have z0_0 := hn0_0.size
  replace hE := hE.ext hn0_0.ext
  have o0_0 := hn0_0.own
  refine Reg.op rfl rfl rfl rfl (Does.box rfl rfl) ?_
  rintro _ H0_1 ⟨rfl, hn0_1⟩
  have z0_1 := hn0_1.size
  replace hE := hE.ext hn0_1.ext
  replace o0_0 := o0_0.ext hn0_1.ext
  have o0_1 := hn0_1.own
  refine Reg.pur rfl rfl rfl rfl (Pur.asg rfl) ?_
  refine Reg.pur rfl rfl rfl rfl (Pur.asg rfl) ?_
  refine Reg.nil ?_
  refine At.region rfl rfl ?_
  refine Reg.lod rfl rfl rfl rfl (Lod.ldn ag24 rfl o0_0.blk (whole (by simp [ha5])) (by simp [ha5])) ?_
  refine Reg.op rfl rfl rfl rfl (Does.call rfl (rowMay_ok a ha5 _)) ?_
  rintro _ H1_1 ⟨rfl, hE1_1⟩
  have z1_1 := hE1_1.lt
  replace hE := hE.ext hE1_1
  replace o0_0 := o0_0.ext hE1_1
  replace o0_1 := o0_1.ext hE1_1
  refine Reg.pur rfl rfl rfl rfl (Pur.not rfl) ?_
  refine Reg.pur rfl rfl rfl rfl (Pur.mv rfl) ?_
  refine Reg.case 16 rfl (fun q16 => ?_) (fun q16 => ?_)
  · first | (simp only [decide_eq_true_eq, decide_eq_false_iff_not, Bool.not_eq_true', Bool.not_eq_false', ne_eq, Decidable.not_not, Bool.not_eq_true, Bool.not_eq_false] at q16) | (dsimp only at q16) | skip
    refine Reg.skip rfl rfl rfl rfl rfl rfl rfl ?_
    refine Reg.skip rfl rfl rfl rfl rfl rfl rfl ?_
    refine Reg.skip rfl rfl rfl rfl rfl rfl rfl ?_
    refine Reg.pur rfl rfl rfl rfl (Pur.pickT rfl rfl) ?_
    refine Reg.pur rfl rfl rfl rfl (Pur.mv rfl) ?_
    refine Reg.skip rfl rfl rfl rfl rfl rfl rfl ?_
    refine Reg.skip rfl rfl rfl rfl rfl rfl rfl ?_
    refine Reg.pur rfl rfl rfl rfl (Pur.pickT rfl rfl) ?_
    refine Reg.pur rfl rfl rfl rfl (Pur.mv rfl) ?_
    refine Reg.skip rfl rfl rfl rfl rfl rfl rfl ?_
    refine Reg.skip rfl rfl rfl rfl rfl rfl rfl ?_
    refine Reg.pur rfl rfl rfl rfl (Pur.pickT rfl rfl) ?_
    refine Reg.pur rfl rfl rfl rfl (Pur.mv rfl) ?_
    refine Reg.skip rfl rfl rfl rfl rfl rfl rfl ?_
    refine Reg.skip rfl rfl rfl rfl rfl rfl rfl ?_
    refine Reg.skip rfl rfl rfl rfl rfl rfl rfl ?_
    refine Reg.skip rfl rfl rfl rfl rfl rfl rfl ?_
    refine Reg.pur rfl rfl rfl rfl (Pur.pickT rfl rfl) ?_
    refine Reg.pur rfl rfl rfl rfl (Pur.mv rfl) ?_
    refine Reg.skip rfl rfl rfl rfl rfl rfl rfl ?_
    refine Reg.skip rfl rfl rfl rfl rfl rfl rfl ?_
    refine Reg.skip rfl rfl rfl rfl rfl rfl rfl ?_
    refine Reg.skip rfl rfl rfl rfl rfl rfl rfl ?_
    refine Reg.pur rfl rfl rfl rfl (Pur.pickT rfl rfl) ?_
    refine Reg.nil ?_
    refine At.condT rfl rfl rfl ?_
    refine At.region rfl rfl ?_
    refine Reg.pur rfl rfl rfl rfl (Pur.asg rfl) ?_
    refine Reg.pur rfl rfl rfl rfl (Pur.asg rfl) ?_
    refine Reg.nil ?_
    refine At.ret rfl Tryd.func18 rfl ?_
    exact uniO_nil (uniR_no (by simp_all; try omega)) hE
  first | (simp only [decide_eq_true_eq, decide_eq_false_iff_not, Bool.not_eq_true', Bool.not_eq_false', ne_eq, Decidable.not_not, Bool.not_eq_true, Bool.not_eq_false] at q16) | (dsimp only at q16) | skip
  refine Reg.glod rfl rfl rfl rfl rfl rfl (Lod.ldn ag24 rfl o0_1.blk (whole (by simp [hb5])) (by simp [hb5])) ?_
  refine Reg.gop rfl rfl rfl rfl rfl rfl (Does.call rfl (rowMay_ok b hb5 _)) ?_
  rintro _ H1_5 ⟨rfl, hE1_5⟩
  have z1_5 := hE1_5.lt
  replace hE := hE.ext hE1_5
  replace o0_0 := o0_0.ext hE1_5
  replace o0_1 := o0_1.ext hE1_5
  refine Reg.gpur rfl rfl rfl rfl rfl rfl (Pur.not rfl) ?_
  refine Reg.pur rfl rfl rfl rfl (Pur.pickF rfl rfl) ?_
  refine Reg.pur rfl rfl rfl rfl (Pur.mv rfl) ?_
  refine Reg.case 21 rfl (fun q21 => ?_) (fun q21 => ?_)
  · first | (simp only [decide_eq_true_eq, decide_eq_false_iff_not, Bool.not_eq_true', Bool.not_eq_false', ne_eq, Decidable.not_not, Bool.not_eq_true, Bool.not_eq_false] at q21) | (dsimp only at q21) | skip
    refine Reg.skip rfl rfl rfl rfl rfl rfl rfl ?_
    refine Reg.skip rfl rfl rfl rfl rfl rfl rfl ?_
    refine Reg.pur rfl rfl rfl rfl (Pur.pickT rfl rfl) ?_
    refine Reg.pur rfl rfl rfl rfl (Pur.mv rfl) ?_
    refine Reg.skip rfl rfl rfl rfl rfl rfl rfl ?_
    refine Reg.skip rfl rfl rfl rfl rfl rfl rfl ?_
    refine Reg.pur rfl rfl rfl rfl (Pur.pickT rfl rfl) ?_
    refine Reg.pur rfl rfl rfl rfl (Pur.mv rfl) ?_
    refine Reg.skip rfl rfl rfl rfl rfl rfl rfl ?_
    refine Reg.skip rfl rfl rfl rfl rfl rfl rfl ?_
    refine Reg.skip rfl rfl rfl rfl rfl rfl rfl ?_
    refine Reg.skip rfl rfl rfl rfl rfl rfl rfl ?_
    refine Reg.pur rfl rfl rfl rfl (Pur.pickT rfl rfl) ?_
    refine Reg.pur rfl rfl rfl rfl (Pur.mv rfl) ?_
    refine Reg.skip rfl rfl rfl rfl rfl rfl rfl ?_
    refine Reg.skip rfl rfl rfl rfl rfl rfl rfl ?_
    refine Reg.skip rfl rfl rfl rfl rfl rfl rfl ?_
    refine Reg.skip rfl rfl rfl rfl rfl rfl rfl ?_
    refine Reg.pur rfl rfl rfl rfl (Pur.pickT rfl rfl) ?_
    refine Reg.nil ?_
    refine At.condT rfl rfl rfl ?_
    refine At.region rfl rfl ?_
    refine Reg.pur rfl rfl rfl rfl (Pur.asg rfl) ?_
    refine Reg.pur rfl rfl rfl rfl (Pur.asg rfl) ?_
    refine Reg.nil ?_
    refine At.ret rfl Tryd.func18 rfl ?_
    exact uniO_nil (uniR_no (by simp_all; try omega)) hE
  first | (simp only [decide_eq_true_eq, decide_eq_false_iff_not, Bool.not_eq_true', Bool.not_eq_false', ne_eq, Decidable.not_not, Bool.not_eq_true, Bool.not_eq_false] at q21) | (dsimp only at q21) | skip
  refine Reg.gpur rfl rfl rfl rfl rfl rfl (Pur.mv rfl) ?_
  refine Reg.gpur rfl rfl rfl rfl rfl rfl (Pur.lss rfl rfl) ?_
  refine Reg.pur rfl rfl rfl rfl (Pur.pickF rfl rfl) ?_
  refine Reg.pur rfl rfl rfl rfl (Pur.mv rfl) ?_
  refine Reg.case 25 rfl (fun q25 => ?_) (fun q25 => ?_)
  · first | (simp only [decide_eq_true_eq, decide_eq_false_iff_not, Bool.not_eq_true', Bool.not_eq_false', ne_eq, Decidable.not_not, Bool.not_eq_true, Bool.not_eq_false] at q25) | (dsimp only at q25) | skip
    refine Reg.skip rfl rfl rfl rfl rfl rfl rfl ?_
    refine Reg.skip rfl rfl rfl rfl rfl rfl rfl ?_
    refine Reg.pur rfl rfl rfl rfl (Pur.pickT rfl rfl) ?_
    refine Reg.pur rfl rfl rfl rfl (Pur.mv rfl) ?_
    refine Reg.skip rfl rfl rfl rfl rfl rfl rfl ?_
    refine Reg.skip rfl rfl rfl rfl rfl rfl rfl ?_
    refine Reg.skip rfl rfl rfl rfl rfl rfl rfl ?_
    refine Reg.skip rfl rfl rfl rfl rfl rfl rfl ?_
    refine Reg.pur rfl rfl rfl rfl (Pur.pickT rfl rfl) ?_
    refine Reg.pur rfl rfl rfl rfl (Pur.mv rfl) ?_
    refine Reg.skip rfl rfl rfl rfl rfl rfl rfl ?_
    refine Reg.skip rfl rfl rfl rfl rfl rfl rfl ?_
    refine Reg.skip rfl rfl rfl rfl rfl rfl rfl ?_
    refine Reg.skip rfl rfl rfl rfl rfl rfl rfl ?_
    refine Reg.pur rfl rfl rfl rfl (Pur.pickT rfl rfl) ?_
    refine Reg.nil ?_
    refine At.condT rfl rfl rfl ?_
    refine At.region rfl rfl ?_
    refine Reg.pur rfl rfl rfl rfl (Pur.asg rfl) ?_
    refine Reg.pur rfl rfl rfl rfl (Pur.asg rfl) ?_
    refine Reg.nil ?_
    refine At.ret rfl Tryd.func18 rfl ?_
    exact uniO_nil (uniR_no (by simp_all; try omega)) hE
  first | (simp only [decide_eq_true_eq, decide_eq_false_iff_not, Bool.not_eq_true', Bool.not_eq_false', ne_eq, Decidable.not_not, Bool.not_eq_true, Bool.not_eq_false] at q25) | (dsimp only at q25) | skip
  refine Reg.gpur rfl rfl rfl rfl rfl rfl (Pur.mv rfl) ?_
  refine Reg.gpur rfl rfl rfl rfl rfl rfl (Pur.geq rfl rfl) ?_
  refine Reg.pur rfl rfl rfl rfl (Pur.pickF rfl rfl) ?_
  refine Reg.pur rfl rfl rfl rfl (Pur.mv rfl) ?_
  refine Reg.case 29 rfl (fun q29 => ?_) (fun q29 => ?_)
  · first | (simp only [decide_eq_true_eq, decide_eq_false_iff_not, Bool.not_eq_true', Bool.not_eq_false', ne_eq, Decidable.not_not, Bool.not_eq_true, Bool.not_eq_false] at q29) | (dsimp only at q29) | skip
    refine Reg.skip rfl rfl rfl rfl rfl rfl rfl ?_
    refine Reg.skip rfl rfl rfl rfl rfl rfl rfl ?_
    refine Reg.skip rfl rfl rfl rfl rfl rfl rfl ?_
    refine Reg.skip rfl rfl rfl rfl rfl rfl rfl ?_
    refine Reg.pur rfl rfl rfl rfl (Pur.pickT rfl rfl) ?_
    refine Reg.pur rfl rfl rfl rfl (Pur.mv rfl) ?_
    refine Reg.skip rfl rfl rfl rfl rfl rfl rfl ?_
    refine Reg.skip rfl rfl rfl rfl rfl rfl rfl ?_
    refine Reg.skip rfl rfl rfl rfl rfl rfl rfl ?_
    refine Reg.skip rfl rfl rfl rfl rfl rfl rfl ?_
    refine Reg.pur rfl rfl rfl rfl (Pur.pickT rfl rfl) ?_
    refine Reg.nil ?_
    refine At.condT rfl rfl rfl ?_
    refine At.region rfl rfl ?_
    refine Reg.pur rfl rfl rfl rfl (Pur.asg rfl) ?_
    refine Reg.pur rfl rfl rfl rfl (Pur.asg rfl) ?_
    refine Reg.nil ?_
    refine At.ret rfl Tryd.func18 rfl ?_
    exact uniO_nil (uniR_no (by simp_all; try omega)) hE
  first | (simp only [decide_eq_true_eq, decide_eq_false_iff_not, Bool.not_eq_true', Bool.not_eq_false', ne_eq, Decidable.not_not, Bool.not_eq_true, Bool.not_eq_false] at q29) | (dsimp only at q29) | skip
  refine Reg.gpur rfl rfl rfl rfl rfl rfl (Pur.fld _ fo24_1 rfl) ?_
  refine Reg.glod rfl rfl rfl rfl rfl rfl (Lod.ld sc3 rfl o0_0.blk (hat4 a ha5)) ?_
  refine Reg.gpur rfl rfl rfl rfl rfl rfl (Pur.mv rfl) ?_
  refine Reg.gpur rfl rfl rfl rfl rfl rfl (Pur.geq rfl rfl) ?_
  refine Reg.pur rfl rfl rfl rfl (Pur.pickF rfl rfl) ?_
  refine Reg.pur rfl rfl rfl rfl (Pur.mv rfl) ?_
  refine Reg.case 35 rfl (fun q35 => ?_) (fun q35 => ?_)
  · first | (simp only [decide_eq_true_eq, decide_eq_false_iff_not, Bool.not_eq_true', Bool.not_eq_false', ne_eq, Decidable.not_not, Bool.not_eq_true, Bool.not_eq_false] at q35) | (dsimp only at q35) | skip
    refine Reg.skip rfl rfl rfl rfl rfl rfl rfl ?_
    refine Reg.skip rfl rfl rfl rfl rfl rfl rfl ?_
    refine Reg.skip rfl rfl rfl rfl rfl rfl rfl ?_
    refine Reg.skip rfl rfl rfl rfl rfl rfl rfl ?_
    refine Reg.pur rfl rfl rfl rfl (Pur.pickT rfl rfl) ?_
    refine Reg.nil ?_
    refine At.condT rfl rfl rfl ?_
    refine At.region rfl rfl ?_
    refine Reg.pur rfl rfl rfl rfl (Pur.asg rfl) ?_
    refine Reg.pur rfl rfl rfl rfl (Pur.asg rfl) ?_
    refine Reg.nil ?_
    refine At.ret rfl Tryd.func18 rfl ?_
    exact uniO_nil (uniR_no (by simp_all; try omega)) hE
  first | (simp only [decide_eq_true_eq, decide_eq_false_iff_not, Bool.not_eq_true', Bool.not_eq_false', ne_eq, Decidable.not_not, Bool.not_eq_true, Bool.not_eq_false] at q35) | (dsimp only at q35) | skip
  refine Reg.gpur rfl rfl rfl rfl rfl rfl (Pur.fld _ fo24_1 rfl) ?_
  refine Reg.glod rfl rfl rfl rfl rfl rfl (Lod.ld sc3 rfl o0_1.blk (hat4 b hb5)) ?_
  refine Reg.gpur rfl rfl rfl rfl rfl rfl (Pur.mv rfl) ?_
  refine Reg.gpur rfl rfl rfl rfl rfl rfl (Pur.geq rfl rfl) ?_
  refine Reg.pur rfl rfl rfl rfl (Pur.pickF rfl rfl) ?_
  refine Reg.nil ?_
  refine At.cond rfl rfl (fun q40 => ?_) (fun q40 => ?_)
  · first | (simp only [decide_eq_true_eq, decide_eq_false_iff_not, Bool.not_eq_true', Bool.not_eq_false', ne_eq, Decidable.not_not, Bool.not_eq_true, Bool.not_eq_false] at q40) | (dsimp only at q40) | skip
    refine At.region rfl rfl ?_
    refine Reg.pur rfl rfl rfl rfl (Pur.asg rfl) ?_
    refine Reg.pur rfl rfl rfl rfl (Pur.asg rfl) ?_
    refine Reg.nil ?_
    refine At.ret rfl Tryd.func18 rfl ?_
    exact uniO_nil (uniR_no (by simp_all; try omega)) hE
  first | (simp only [decide_eq_true_eq, decide_eq_false_iff_not, Bool.not_eq_true', Bool.not_eq_false', ne_eq, Decidable.not_not, Bool.not_eq_true, Bool.not_eq_false] at q40) | (dsimp only at q40) | skip
  have hra : rowM a = true := q16
  have hrb : rowM b = true := q21
  have hy := uniR_yes (a := a) (b := b) (f := f) ⟨hra, hrb, by omega, by omega, by omega, by omega⟩
  clear q16 q21 q25 q29 q35 q40
  refine At.region rfl rfl ?_
  refine Reg.op rfl rfl rfl rfl (Does.call rfl (rowLess_ok a b ha5 hb5 hra hrb o0_0.blk o0_1.blk)) ?_
  rintro _ H3_0 ⟨rfl, hE3_0⟩
  have z3_0 := hE3_0.lt
  replace hE := hE.ext hE3_0
  replace o0_0 := o0_0.ext hE3_0
  replace o0_1 := o0_1.ext hE3_0
  refine Reg.pur rfl rfl rfl rfl (Pur.mv rfl) ?_
  refine Reg.pur rfl rfl rfl rfl (Pur.ext rfl rfl) ?_
  refine Reg.pur rfl rfl rfl rfl (Pur.ext rfl rfl) ?_
  refine Reg.op rfl rfl rfl rfl (Does.alloc zc22) ?_
  rintro _ H3_4 ⟨rfl, hn3_4⟩
  have z3_4 := hn3_4.size
  replace hE := hE.ext hn3_4.ext
  replace o0_0 := o0_0.ext hn3_4.ext
  replace o0_1 := o0_1.ext hn3_4.ext
  have o3_4 := hn3_4.own
  refine Reg.op0 rfl rfl rfl (Does.stn ag22 rfl rfl (by first | rfl | exact ones_Is _) (by first | rfl | (simp [*]; done)) o3_4 (by first | decide | (simp; done) | (simp; omega) | omega)) ?_
  rintro _ H3_5 hu3_5
  have z3_5 := hu3_5.size
  replace hE := hE.upw hu3_5 (by omega)
  replace o0_0 := o0_0.upw hu3_5 (by omega)
  replace o0_1 := o0_1.upw hu3_5 (by omega)
  replace o3_4 := hu3_5.own
  first | rw [over (by first | rfl | (simp; done))] at o3_4 | skip
  refine Reg.pur rfl rfl rfl rfl (Pur.asg rfl) ?_
  refine Reg.nil ?_
  refine At.region rfl rfl ?_
  refine Reg.op rfl rfl rfl rfl (Does.call rfl (rowLess_ok b a hb5 ha5 hrb hra o0_1.blk o0_0.blk)) ?_
  rintro _ H4_0 ⟨rfl, hE4_0⟩
  have z4_0 := hE4_0.lt
  replace hE := hE.ext hE4_0
  replace o0_0 := o0_0.ext hE4_0
  replace o0_1 := o0_1.ext hE4_0
  replace o3_4 := o3_4.ext hE4_0
  refine Reg.pur rfl rfl rfl rfl (Pur.mv rfl) ?_
  refine Reg.pur rfl rfl rfl rfl (Pur.ext rfl rfl) ?_
  refine Reg.pur rfl rfl rfl rfl (Pur.ext rfl rfl) ?_
  refine Reg.op rfl rfl rfl rfl (Does.alloc zc22) ?_
  rintro _ H4_4 ⟨rfl, hn4_4⟩
  have z4_4 := hn4_4.size
  replace hE := hE.ext hn4_4.ext
  replace o0_0 := o0_0.ext hn4_4.ext
  replace o0_1 := o0_1.ext hn4_4.ext
  replace o3_4 := o3_4.ext hn4_4.ext
  have o4_4 := hn4_4.own
  refine Reg.op0 rfl rfl rfl (Does.stn ag22 rfl rfl (by first | rfl | exact ones_Is _) (by first | rfl | (simp [*]; done)) o4_4 (by first | decide | (simp; done) | (simp; omega) | omega)) ?_
  rintro _ H4_5 hu4_5
  have z4_5 := hu4_5.size
  replace hE := hE.upw hu4_5 (by omega)
  replace o0_0 := o0_0.upw hu4_5 (by omega)
  replace o0_1 := o0_1.upw hu4_5 (by omega)
  replace o3_4 := o3_4.upw hu4_5 (by omega)
  replace o4_4 := hu4_5.own
  first | rw [over (by first | rfl | (simp; done))] at o4_4 | skip
  refine Reg.pur rfl rfl rfl rfl (Pur.asg rfl) ?_
  refine Reg.nil ?_
  refine At.region rfl rfl ?_
  refine Reg.pur rfl rfl rfl rfl (Pur.fld _ fo24_1 rfl) ?_
  refine Reg.lod rfl rfl rfl rfl (Lod.ld sc3 rfl o0_0.blk (hat4 a ha5)) ?_
  refine Reg.pur rfl rfl rfl rfl (Pur.fld _ fo24_1 rfl) ?_
  refine Reg.lod rfl rfl rfl rfl (Lod.ld sc3 rfl o0_1.blk (hat4 b hb5)) ?_
  refine Reg.pur rfl rfl rfl rfl (Pur.eql rfl rfl) ?_
  refine Reg.pur rfl rfl rfl rfl (Pur.asg rfl) ?_
  refine Reg.nil ?_
  refine At.region rfl rfl ?_
  refine Reg.pur rfl rfl rfl rfl (Pur.mv rfl) ?_
  refine Reg.pur rfl rfl rfl rfl (Pur.mv rfl) ?_
  refine Reg.case 56 rfl (fun q56 => ?_) (fun q56 => ?_)
  · first | (simp only [decide_eq_true_eq, decide_eq_false_iff_not, Bool.not_eq_true', Bool.not_eq_false', ne_eq, Decidable.not_not, Bool.not_eq_true, Bool.not_eq_false] at q56) | (dsimp only at q56) | skip
    refine Reg.gpur rfl rfl rfl rfl rfl rfl (Pur.mv rfl) ?_
    refine Reg.gpur rfl rfl rfl rfl rfl rfl (Pur.mv rfl) ?_
    refine Reg.case 58 rfl (fun q58 => ?_) (fun q58 => ?_)
    · first | (simp only [decide_eq_true_eq, decide_eq_false_iff_not, Bool.not_eq_true', Bool.not_eq_false', ne_eq, Decidable.not_not, Bool.not_eq_true, Bool.not_eq_false] at q58) | (dsimp only at q58) | skip
      refine Reg.skip rfl rfl rfl rfl rfl rfl rfl ?_
      refine Reg.skip rfl rfl rfl rfl rfl rfl rfl ?_
      refine Reg.skip rfl rfl rfl rfl rfl rfl rfl ?_
      refine Reg.gpur rfl rfl rfl rfl rfl rfl (Pur.pickT rfl rfl) ?_
      refine Reg.pur rfl rfl rfl rfl (Pur.pickT rfl rfl) ?_
      refine Reg.pur rfl rfl rfl rfl (Pur.asg rfl) ?_
      refine Reg.nil ?_
      refine At.condT rfl rfl rfl ?_
      refine At.condT rfl rfl rfl ?_
      refine At.region rfl rfl ?_
      refine Reg.pur rfl rfl rfl rfl (Pur.asg rfl) ?_
      refine Reg.pur rfl rfl rfl rfl (Pur.asg rfl) ?_
      refine Reg.nil ?_
      refine At.ret rfl Tryd.func18 rfl ?_
      exact uniO_nil (by rw [hy]; unfold uniQ; simp_all) hE
    first | (simp only [decide_eq_true_eq, decide_eq_false_iff_not, Bool.not_eq_true', Bool.not_eq_false', ne_eq, Decidable.not_not, Bool.not_eq_true, Bool.not_eq_false] at q58) | (dsimp only at q58) | skip
    refine Reg.gpur rfl rfl rfl rfl rfl rfl (Pur.fld _ fo24_1 rfl) ?_
    refine Reg.glod rfl rfl rfl rfl rfl rfl (Lod.ld sc3 rfl o0_1.blk (hat4 b hb5)) ?_
    refine Reg.gpur rfl rfl rfl rfl rfl rfl (Pur.eql rfl rfl) ?_
    refine Reg.gpur rfl rfl rfl rfl rfl rfl (Pur.pickF rfl rfl) ?_
    refine Reg.pur rfl rfl rfl rfl (Pur.pickT rfl rfl) ?_
    refine Reg.pur rfl rfl rfl rfl (Pur.asg rfl) ?_
    refine Reg.nil ?_
    refine At.cond rfl rfl (fun q54 => ?_) (fun q54 => ?_)
    · first | (simp only [decide_eq_true_eq, decide_eq_false_iff_not, Bool.not_eq_true', Bool.not_eq_false', ne_eq, Decidable.not_not, Bool.not_eq_true, Bool.not_eq_false] at q54) | (dsimp only at q54) | skip
      refine At.condT rfl rfl (by first | exact q54 | exact decide_eq_true q54 | exact decide_eq_false q54 | simpa using q54) ?_
      refine At.region rfl rfl ?_
      refine Reg.pur rfl rfl rfl rfl (Pur.asg rfl) ?_
      refine Reg.pur rfl rfl rfl rfl (Pur.asg rfl) ?_
      refine Reg.nil ?_
      refine At.ret rfl Tryd.func18 rfl ?_
      exact uniO_nil (by rw [hy]; unfold uniQ; simp_all) hE
    first | (simp only [decide_eq_true_eq, decide_eq_false_iff_not, Bool.not_eq_true', Bool.not_eq_false', ne_eq, Decidable.not_not, Bool.not_eq_true, Bool.not_eq_false] at q54) | (dsimp only at q54) | skip
    refine At.region rfl rfl ?_
    refine Reg.pur rfl rfl rfl rfl (Pur.mv rfl) ?_
    refine Reg.pur rfl rfl rfl rfl (Pur.mv rfl) ?_
    refine Reg.case 65 rfl (fun q65 => ?_) (fun q65 => ?_)
    · first | (simp only [decide_eq_true_eq, decide_eq_false_iff_not, Bool.not_eq_true', Bool.not_eq_false', ne_eq, Decidable.not_not, Bool.not_eq_true, Bool.not_eq_false] at q65) | (dsimp only at q65) | skip
      refine Reg.gpur rfl rfl rfl rfl rfl rfl (Pur.mv rfl) ?_
      refine Reg.gpur rfl rfl rfl rfl rfl rfl (Pur.mv rfl) ?_
      refine Reg.known (b' := false) 67 rfl (by first | exact q58 | exact decide_eq_true q58 | exact decide_eq_false q58 | simpa using q58) ?_
      refine Reg.gpur rfl rfl rfl rfl rfl rfl (Pur.fld _ fo24_1 rfl) ?_
      refine Reg.glod rfl rfl rfl rfl rfl rfl (Lod.ld sc3 rfl o0_0.blk (hat4 a ha5)) ?_
      refine Reg.gpur rfl rfl rfl rfl rfl rfl (Pur.eql rfl rfl) ?_
      refine Reg.gpur rfl rfl rfl rfl rfl rfl (Pur.pickF rfl rfl) ?_
      refine Reg.pur rfl rfl rfl rfl (Pur.pickT rfl rfl) ?_
      refine Reg.pur rfl rfl rfl rfl (Pur.asg rfl) ?_
      refine Reg.nil ?_
      refine At.cond rfl rfl (fun q54 => ?_) (fun q54 => ?_)
      · first | (simp only [decide_eq_true_eq, decide_eq_false_iff_not, Bool.not_eq_true', Bool.not_eq_false', ne_eq, Decidable.not_not, Bool.not_eq_true, Bool.not_eq_false] at q54) | (dsimp only at q54) | skip
        refine At.region rfl rfl ?_
        refine Reg.pur rfl rfl rfl rfl (Pur.asg rfl) ?_
        refine Reg.pur rfl rfl rfl rfl (Pur.asg rfl) ?_
        refine Reg.nil ?_
        refine At.ret rfl Tryd.func18 rfl ?_
        exact uniO_nil (by rw [hy]; unfold uniQ; simp_all) hE
      first | (simp only [decide_eq_true_eq, decide_eq_false_iff_not, Bool.not_eq_true', Bool.not_eq_false', ne_eq, Decidable.not_not, Bool.not_eq_true, Bool.not_eq_false] at q54) | (dsimp only at q54) | skip
      refine At.region rfl rfl ?_
      refine Reg.pur rfl rfl rfl rfl (Pur.mv rfl) ?_
      refine Reg.pur rfl rfl rfl rfl (Pur.asg rfl) ?_
      refine Reg.nil ?_
      refine At.condF rfl rfl (by first | exact q58 | exact decide_eq_true q58 | exact decide_eq_false q58 | simpa using q58) ?_
      refine At.region rfl rfl ?_
      refine Reg.pur rfl rfl rfl rfl (Pur.fld _ fo24_1 rfl) ?_
      refine Reg.lod rfl rfl rfl rfl (Lod.ld sc3 rfl o0_1.blk (hat4 b hb5)) ?_
      refine Reg.pur rfl rfl rfl rfl (Pur.eql rfl rfl) ?_
      refine Reg.pur rfl rfl rfl rfl (Pur.asg rfl) ?_
      refine Reg.nil ?_
      refine At.cond rfl rfl (fun q75 => ?_) (fun q75 => ?_)
      · first | (simp only [decide_eq_true_eq, decide_eq_false_iff_not, Bool.not_eq_true', Bool.not_eq_false', ne_eq, Decidable.not_not, Bool.not_eq_true, Bool.not_eq_false] at q75) | (dsimp only at q75) | skip
        refine At.region rfl rfl ?_
        refine Reg.pur rfl rfl rfl rfl (Pur.fld _ fo24_1 rfl) ?_
        refine Reg.lod rfl rfl rfl rfl (Lod.ld sc3 rfl o0_0.blk (hat4 a ha5)) ?_
        refine Reg.lod rfl rfl rfl rfl (Lod.ldn ag22 rfl o4_4.blk (by first | exact whole rfl | rfl | (simp only [List.drop_succ_cons, List.drop_zero, List.take_succ_cons, List.take_zero]; rfl)) (by first | rfl | (simp [*]; done))) ?_
        refine Reg.op rfl rfl rfl rfl (Does.call rfl (rowBind_ok _ _ _ (subC_len b a))) ?_
        rintro _ H12_3 ⟨rfl, hE12_3⟩
        have z12_3 := hE12_3.lt
        replace hE := hE.ext hE12_3
        replace o0_0 := o0_0.ext hE12_3
        replace o0_1 := o0_1.ext hE12_3
        replace o3_4 := o3_4.ext hE12_3
        replace o4_4 := o4_4.ext hE12_3
        refine Reg.op rfl rfl rfl rfl (Does.bslA ([encB (bR (a.getD 4 0) (subC b a ++ [-1]))]) slA25 rfl rfl rfl rfl rfl rfl) ?_
        rintro _ H12_4 ⟨rfl, hp12_4⟩
        have hn12_4 := New.of_eq hp12_4
        have z12_4 := hn12_4.size
        replace hE := hE.ext hn12_4.ext
        replace o0_0 := o0_0.ext hn12_4.ext
        replace o0_1 := o0_1.ext hn12_4.ext
        replace o3_4 := o3_4.ext hn12_4.ext
        replace o4_4 := o4_4.ext hn12_4.ext
        have o12_4 := hn12_4.own
        refine Reg.pur rfl rfl rfl rfl (Pur.asg rfl) ?_
        refine Reg.pur rfl rfl rfl rfl (Pur.asg rfl) ?_
        refine Reg.nil ?_
        refine At.ret rfl Tryd.func18 rfl ?_
        exact uniO_one (by rw [hy]; unfold uniQ; simp_all) rfl o12_4 (by omega) hE
      first | (simp only [decide_eq_true_eq, decide_eq_false_iff_not, Bool.not_eq_true', Bool.not_eq_false', ne_eq, Decidable.not_not, Bool.not_eq_true, Bool.not_eq_false] at q75) | (dsimp only at q75) | skip
      refine At.region rfl rfl ?_
      refine Reg.pur rfl rfl rfl rfl (Pur.fld _ fo24_1 rfl) ?_
      refine Reg.lod rfl rfl rfl rfl (Lod.ld sc3 rfl o0_0.blk (hat4 a ha5)) ?_
      refine Reg.pur rfl rfl rfl rfl (Pur.eql rfl rfl) ?_
      refine Reg.pur rfl rfl rfl rfl (Pur.asg rfl) ?_
      refine Reg.nil ?_
      refine At.cond rfl rfl (fun q84 => ?_) (fun q84 => ?_)
      · first | (simp only [decide_eq_true_eq, decide_eq_false_iff_not, Bool.not_eq_true', Bool.not_eq_false', ne_eq, Decidable.not_not, Bool.not_eq_true, Bool.not_eq_false] at q84) | (dsimp only at q84) | skip
        refine At.region rfl rfl ?_
        refine Reg.pur rfl rfl rfl rfl (Pur.fld _ fo24_1 rfl) ?_
        refine Reg.lod rfl rfl rfl rfl (Lod.ld sc3 rfl o0_1.blk (hat4 b hb5)) ?_
        refine Reg.lod rfl rfl rfl rfl (Lod.ldn ag22 rfl o3_4.blk (by first | exact whole rfl | rfl | (simp only [List.drop_succ_cons, List.drop_zero, List.take_succ_cons, List.take_zero]; rfl)) (by first | rfl | (simp [*]; done))) ?_
        refine Reg.op rfl rfl rfl rfl (Does.call rfl (rowBind_ok _ _ _ (subC_len a b))) ?_
        rintro _ H14_3 ⟨rfl, hE14_3⟩
        have z14_3 := hE14_3.lt
        replace hE := hE.ext hE14_3
        replace o0_0 := o0_0.ext hE14_3
        replace o0_1 := o0_1.ext hE14_3
        replace o3_4 := o3_4.ext hE14_3
        replace o4_4 := o4_4.ext hE14_3
        refine Reg.op rfl rfl rfl rfl (Does.bslA ([encB (bR (b.getD 4 0) (subC a b ++ [-1]))]) slA25 rfl rfl rfl rfl rfl rfl) ?_
        rintro _ H14_4 ⟨rfl, hp14_4⟩
        have hn14_4 := New.of_eq hp14_4
        have z14_4 := hn14_4.size
        replace hE := hE.ext hn14_4.ext
        replace o0_0 := o0_0.ext hn14_4.ext
        replace o0_1 := o0_1.ext hn14_4.ext
        replace o3_4 := o3_4.ext hn14_4.ext
        replace o4_4 := o4_4.ext hn14_4.ext
        have o14_4 := hn14_4.own
        refine Reg.pur rfl rfl rfl rfl (Pur.asg rfl) ?_
        refine Reg.pur rfl rfl rfl rfl (Pur.asg rfl) ?_
        refine Reg.nil ?_
        refine At.ret rfl Tryd.func18 rfl ?_
        exact uniO_one (by rw [hy]; unfold uniQ; simp_all) rfl o14_4 (by omega) hE
      first | (simp only [decide_eq_true_eq, decide_eq_false_iff_not, Bool.not_eq_true', Bool.not_eq_false', ne_eq, Decidable.not_not, Bool.not_eq_true, Bool.not_eq_false] at q84) | (dsimp only at q84) | skip
      refine At.region rfl rfl ?_
      refine Reg.pur rfl rfl rfl rfl (Pur.mv rfl) ?_
      refine Reg.pur rfl rfl rfl rfl (Pur.not rfl) ?_
      refine Reg.pur rfl rfl rfl rfl (Pur.asg rfl) ?_
      refine Reg.nil ?_
      refine At.cond rfl rfl (fun q93 => ?_) (fun q93 => ?_)
      · first | (simp only [decide_eq_true_eq, decide_eq_false_iff_not, Bool.not_eq_true', Bool.not_eq_false', ne_eq, Decidable.not_not, Bool.not_eq_true, Bool.not_eq_false] at q93) | (dsimp only at q93) | skip
        refine At.region rfl rfl ?_
        refine Reg.pur rfl rfl rfl rfl (Pur.fld _ fo24_1 rfl) ?_
        refine Reg.lod rfl rfl rfl rfl (Lod.ld sc3 rfl o0_0.blk (hat4 a ha5)) ?_
        refine Reg.lod rfl rfl rfl rfl (Lod.ldn ag22 rfl o4_4.blk (by first | exact whole rfl | rfl | (simp only [List.drop_succ_cons, List.drop_zero, List.take_succ_cons, List.take_zero]; rfl)) (by first | rfl | (simp [*]; done))) ?_
        refine Reg.pur rfl rfl rfl rfl (Pur.fld _ fo24_1 rfl) ?_
        refine Reg.lod rfl rfl rfl rfl (Lod.ld sc3 rfl o0_1.blk (hat4 b hb5)) ?_
        refine Reg.op rfl rfl rfl rfl (Does.call rfl (rowBind_ok _ _ _ (subC_len b a))) ?_
        rintro _ H16_5 ⟨rfl, hE16_5⟩
        have z16_5 := hE16_5.lt
        replace hE := hE.ext hE16_5
        replace o0_0 := o0_0.ext hE16_5
        replace o0_1 := o0_1.ext hE16_5
        replace o3_4 := o3_4.ext hE16_5
        replace o4_4 := o4_4.ext hE16_5
        refine Reg.op rfl rfl rfl rfl (Does.bslA ([encB (bR (a.getD 4 0) (subC b a ++ [b.getD 4 0]))]) slA25 rfl rfl rfl rfl rfl rfl) ?_
        rintro _ H16_6 ⟨rfl, hp16_6⟩
        have hn16_6 := New.of_eq hp16_6
        have z16_6 := hn16_6.size
        replace hE := hE.ext hn16_6.ext
        replace o0_0 := o0_0.ext hn16_6.ext
        replace o0_1 := o0_1.ext hn16_6.ext
        replace o3_4 := o3_4.ext hn16_6.ext
        replace o4_4 := o4_4.ext hn16_6.ext
        have o16_6 := hn16_6.own
        refine Reg.pur rfl rfl rfl rfl (Pur.asg rfl) ?_
        refine Reg.pur rfl rfl rfl rfl (Pur.asg rfl) ?_
        refine Reg.nil ?_
        refine At.ret rfl Tryd.func18 rfl ?_
        exact uniO_one (by rw [hy]; unfold uniQ; simp_all) rfl o16_6 (by omega) hE
      first | (simp only [decide_eq_true_eq, decide_eq_false_iff_not, Bool.not_eq_true', Bool.not_eq_false', ne_eq, Decidable.not_not, Bool.not_eq_true, Bool.not_eq_false] at q93) | (dsimp only at q93) | skip
      refine At.region rfl rfl ?_
      refine Reg.pur rfl rfl rfl rfl (Pur.mv rfl) ?_
      refine Reg.pur rfl rfl rfl rfl (Pur.not rfl) ?_
      refine Reg.pur rfl rfl rfl rfl (Pur.asg rfl) ?_
      refine Reg.nil ?_
      refine At.cond rfl rfl (fun q103 => ?_) (fun q103 => ?_)
      · first | (simp only [decide_eq_true_eq, decide_eq_false_iff_not, Bool.not_eq_true', Bool.not_eq_false', ne_eq, Decidable.not_not, Bool.not_eq_true, Bool.not_eq_false] at q103) | (dsimp only at q103) | skip
        refine At.region rfl rfl ?_
        refine Reg.pur rfl rfl rfl rfl (Pur.fld _ fo24_1 rfl) ?_
        refine Reg.lod rfl rfl rfl rfl (Lod.ld sc3 rfl o0_1.blk (hat4 b hb5)) ?_
        refine Reg.lod rfl rfl rfl rfl (Lod.ldn ag22 rfl o3_4.blk (by first | exact whole rfl | rfl | (simp only [List.drop_succ_cons, List.drop_zero, List.take_succ_cons, List.take_zero]; rfl)) (by first | rfl | (simp [*]; done))) ?_
        refine Reg.pur rfl rfl rfl rfl (Pur.fld _ fo24_1 rfl) ?_
        refine Reg.lod rfl rfl rfl rfl (Lod.ld sc3 rfl o0_0.blk (hat4 a ha5)) ?_
        refine Reg.op rfl rfl rfl rfl (Does.call rfl (rowBind_ok _ _ _ (subC_len a b))) ?_
        rintro _ H18_5 ⟨rfl, hE18_5⟩
        have z18_5 := hE18_5.lt
        replace hE := hE.ext hE18_5
        replace o0_0 := o0_0.ext hE18_5
        replace o0_1 := o0_1.ext hE18_5
        replace o3_4 := o3_4.ext hE18_5
        replace o4_4 := o4_4.ext hE18_5
        refine Reg.op rfl rfl rfl rfl (Does.bslA ([encB (bR (b.getD 4 0) (subC a b ++ [a.getD 4 0]))]) slA25 rfl rfl rfl rfl rfl rfl) ?_
        rintro _ H18_6 ⟨rfl, hp18_6⟩
        have hn18_6 := New.of_eq hp18_6
        have z18_6 := hn18_6.size
        replace hE := hE.ext hn18_6.ext
        replace o0_0 := o0_0.ext hn18_6.ext
        replace o0_1 := o0_1.ext hn18_6.ext
        replace o3_4 := o3_4.ext hn18_6.ext
        replace o4_4 := o4_4.ext hn18_6.ext
        have o18_6 := hn18_6.own
        refine Reg.pur rfl rfl rfl rfl (Pur.asg rfl) ?_
        refine Reg.pur rfl rfl rfl rfl (Pur.asg rfl) ?_
        refine Reg.nil ?_
        refine At.ret rfl Tryd.func18 rfl ?_
        exact uniO_one (by rw [hy]; unfold uniQ; simp_all) rfl o18_6 (by omega) hE
      first | (simp only [decide_eq_true_eq, decide_eq_false_iff_not, Bool.not_eq_true', Bool.not_eq_false', ne_eq, Decidable.not_not, Bool.not_eq_true, Bool.not_eq_false] at q103) | (dsimp only at q103) | skip
      refine At.drawE ((Bks.cons o0_0.blk (Bks.cons o0_1.blk (Bks.cons o3_4.blk (Bks.cons o4_4.blk Bks.nil))))) [] mixed rfl rfl ?_
      refine RegD.tpur (i := 0) rfl rfl rfl rfl (by kernel_rfl) (Pur.fld _ fo24_1 rfl) ?_
      refine RegD.take (i := 1) rfl rfl rfl rfl (by kernel_rfl) (Bks.cons o0_0.blk (Bks.cons o0_1.blk (Bks.cons o3_4.blk (Bks.cons o4_4.blk Bks.nil)))) (fun H hS => Lod.ld sc3 rfl hS.hd (hat4 a ha5)) ?_
      refine RegD.take (i := 2) rfl rfl rfl rfl (by kernel_rfl) (Bks.cons o0_0.blk (Bks.cons o0_1.blk (Bks.cons o3_4.blk (Bks.cons o4_4.blk Bks.nil)))) (fun H hS => Lod.ldn ag22 rfl hS.tl.tl.tl.hd (by first | exact whole rfl | rfl | (simp only [List.drop_succ_cons, List.drop_zero, List.take_succ_cons, List.take_zero]; rfl)) (by first | rfl | (simp [*]; done))) ?_
      refine RegD.tpur (i := 3) rfl rfl rfl rfl (by kernel_rfl) (Pur.mv rfl) ?_
      refine RegD.tpur (i := 5) rfl rfl rfl rfl (by kernel_rfl) (Pur.fld _ fo24_1 rfl) ?_
      refine RegD.take (i := 6) rfl rfl rfl rfl (by kernel_rfl) (Bks.cons o0_0.blk (Bks.cons o0_1.blk (Bks.cons o3_4.blk (Bks.cons o4_4.blk Bks.nil)))) (fun H hS => Lod.ld sc3 rfl hS.tl.hd (hat4 b hb5)) ?_
      refine RegD.take (i := 7) rfl rfl rfl rfl (by kernel_rfl) (Bks.cons o0_0.blk (Bks.cons o0_1.blk (Bks.cons o3_4.blk (Bks.cons o4_4.blk Bks.nil)))) (fun H hS => Lod.ldn ag22 rfl hS.tl.tl.hd (by first | exact whole rfl | rfl | (simp only [List.drop_succ_cons, List.drop_zero, List.take_succ_cons, List.take_zero]; rfl)) (by first | rfl | (simp [*]; done))) ?_
      refine RegD.tpur (i := 8) rfl rfl rfl rfl (by kernel_rfl) (Pur.mv rfl) ?_
      refine RegD.one (i := 4) (by kernel_rfl) rfl rfl rfl rfl (Does.call rfl (rowBind_ok _ _ _ (subC_len b a))) ?_
      rintro _ H19_4 ⟨rfl, hE19_4⟩
      have z19_4 := hE19_4.lt
      replace hE := hE.ext hE19_4
      replace o0_0 := o0_0.ext hE19_4
      replace o0_1 := o0_1.ext hE19_4
      replace o3_4 := o3_4.ext hE19_4
      replace o4_4 := o4_4.ext hE19_4
      refine ⟨fun _ _ => (Bks.cons o0_0.blk (Bks.cons o0_1.blk (Bks.cons o3_4.blk (Bks.cons o4_4.blk Bks.nil)))), ?_⟩
      refine RegD.one (i := 9) (by kernel_rfl) rfl rfl rfl rfl (Does.call rfl (rowBind_ok _ _ _ (subC_len a b))) ?_
      rintro _ H19_9 ⟨rfl, hE19_9⟩
      have z19_9 := hE19_9.lt
      replace hE := hE.ext hE19_9
      replace o0_0 := o0_0.ext hE19_9
      replace o0_1 := o0_1.ext hE19_9
      replace o3_4 := o3_4.ext hE19_9
      replace o4_4 := o4_4.ext hE19_9
      refine ⟨fun _ _ => (Bks.cons o0_0.blk (Bks.cons o0_1.blk (Bks.cons o3_4.blk (Bks.cons o4_4.blk Bks.nil)))), ?_⟩
      refine RegD.one (i := 10) (by kernel_rfl) rfl rfl rfl rfl (Does.bslA ([encB (bR (a.getD 4 0) (subC b a ++ [f])), encB (bR (b.getD 4 0) (subC a b ++ [f]))]) slA25 rfl rfl rfl rfl rfl rfl) ?_
      rintro _ H19_10 ⟨rfl, hp19_10⟩
      have hn19_10 := New.of_eq hp19_10
      have z19_10 := hn19_10.size
      replace hE := hE.ext hn19_10.ext
      replace o0_0 := o0_0.ext hn19_10.ext
      replace o0_1 := o0_1.ext hn19_10.ext
      replace o3_4 := o3_4.ext hn19_10.ext
      replace o4_4 := o4_4.ext hn19_10.ext
      have o19_10 := hn19_10.own
      refine ⟨fun _ _ => (Bks.cons o0_0.blk (Bks.cons o0_1.blk (Bks.cons o3_4.blk (Bks.cons o4_4.blk Bks.nil)))), ?_⟩
      refine RegD.tpur (i := 11) rfl rfl rfl rfl (by kernel_rfl) (Pur.asg rfl) ?_
      refine RegD.tpur (i := 12) rfl rfl rfl rfl (by kernel_rfl) (Pur.asg rfl) ?_
      refine RegD.done (by kernel_rfl) ?_
      refine At.ret rfl Tryd.func18 rfl ?_
      exact uniO_two (by rw [hy]; unfold uniQ; simp_all) rfl rfl o19_10 (by omega) hE
    first | (simp only [decide_eq_true_eq, decide_eq_false_iff_not, Bool.not_eq_true', Bool.not_eq_false', ne_eq, Decidable.not_not, Bool.not_eq_true, Bool.not_eq_false] at q65) | (dsimp only at q65) | skip
    refine Reg.skip rfl rfl rfl rfl rfl rfl rfl ?_
    refine Reg.skip rfl rfl rfl rfl rfl rfl rfl ?_
    refine Reg.skipU rfl rfl rfl rfl rfl rfl ?_
    refine Reg.skipU rfl rfl rfl rfl rfl rfl ?_
    refine Reg.skipU rfl rfl rfl rfl rfl rfl ?_
    refine Reg.skip rfl rfl rfl rfl rfl rfl rfl ?_
    refine Reg.pur rfl rfl rfl rfl (Pur.pickF rfl rfl) ?_
    refine Reg.pur rfl rfl rfl rfl (Pur.asg rfl) ?_
    refine Reg.nil ?_
    refine At.condF rfl rfl rfl ?_
    refine At.region rfl rfl ?_
    refine Reg.pur rfl rfl rfl rfl (Pur.mv rfl) ?_
    refine Reg.pur rfl rfl rfl rfl (Pur.asg rfl) ?_
    refine Reg.nil ?_
    refine At.condF rfl rfl (by first | exact q58 | exact decide_eq_true q58 | exact decide_eq_false q58 | simpa using q58) ?_
    refine At.region rfl rfl ?_
    refine Reg.pur rfl rfl rfl rfl (Pur.fld _ fo24_1 rfl) ?_
    refine Reg.lod rfl rfl rfl rfl (Lod.ld sc3 rfl o0_1.blk (hat4 b hb5)) ?_
    refine Reg.pur rfl rfl rfl rfl (Pur.eql rfl rfl) ?_
    refine Reg.pur rfl rfl rfl rfl (Pur.asg rfl) ?_
    refine Reg.nil ?_
    refine At.cond rfl rfl (fun q75 => ?_) (fun q75 => ?_)
    · first | (simp only [decide_eq_true_eq, decide_eq_false_iff_not, Bool.not_eq_true', Bool.not_eq_false', ne_eq, Decidable.not_not, Bool.not_eq_true, Bool.not_eq_false] at q75) | (dsimp only at q75) | skip
      refine At.region rfl rfl ?_
      refine Reg.pur rfl rfl rfl rfl (Pur.fld _ fo24_1 rfl) ?_
      refine Reg.lod rfl rfl rfl rfl (Lod.ld sc3 rfl o0_0.blk (hat4 a ha5)) ?_
      refine Reg.lod rfl rfl rfl rfl (Lod.ldn ag22 rfl o4_4.blk (by first | exact whole rfl | rfl | (simp only [List.drop_succ_cons, List.drop_zero, List.take_succ_cons, List.take_zero]; rfl)) (by first | rfl | (simp [*]; done))) ?_
      refine Reg.op rfl rfl rfl rfl (Does.call rfl (rowBind_ok _ _ _ (subC_len b a))) ?_
      rintro _ H12_3 ⟨rfl, hE12_3⟩
      have z12_3 := hE12_3.lt
      replace hE := hE.ext hE12_3
      replace o0_0 := o0_0.ext hE12_3
      replace o0_1 := o0_1.ext hE12_3
      replace o3_4 := o3_4.ext hE12_3
      replace o4_4 := o4_4.ext hE12_3
      refine Reg.op rfl rfl rfl rfl (Does.bslA ([encB (bR (a.getD 4 0) (subC b a ++ [-1]))]) slA25 rfl rfl rfl rfl rfl rfl) ?_
      rintro _ H12_4 ⟨rfl, hp12_4⟩
      have hn12_4 := New.of_eq hp12_4
      have z12_4 := hn12_4.size
      replace hE := hE.ext hn12_4.ext
      replace o0_0 := o0_0.ext hn12_4.ext
      replace o0_1 := o0_1.ext hn12_4.ext
      replace o3_4 := o3_4.ext hn12_4.ext
      replace o4_4 := o4_4.ext hn12_4.ext
      have o12_4 := hn12_4.own
      refine Reg.pur rfl rfl rfl rfl (Pur.asg rfl) ?_
      refine Reg.pur rfl rfl rfl rfl (Pur.asg rfl) ?_
      refine Reg.nil ?_
      refine At.ret rfl Tryd.func18 rfl ?_
      exact uniO_one (by rw [hy]; unfold uniQ; simp_all) rfl o12_4 (by omega) hE
    first | (simp only [decide_eq_true_eq, decide_eq_false_iff_not, Bool.not_eq_true', Bool.not_eq_false', ne_eq, Decidable.not_not, Bool.not_eq_true, Bool.not_eq_false] at q75) | (dsimp only at q75) | skip
    refine At.region rfl rfl ?_
    refine Reg.pur rfl rfl rfl rfl (Pur.fld _ fo24_1 rfl) ?_
    refine Reg.lod rfl rfl rfl rfl (Lod.ld sc3 rfl o0_0.blk (hat4 a ha5)) ?_
    refine Reg.pur rfl rfl rfl rfl (Pur.eql rfl rfl) ?_
    refine Reg.pur rfl rfl rfl rfl (Pur.asg rfl) ?_
    refine Reg.nil ?_
    refine At.cond rfl rfl (fun q84 => ?_) (fun q84 => ?_)
    · first | (simp only [decide_eq_true_eq, decide_eq_false_iff_not, Bool.not_eq_true', Bool.not_eq_false', ne_eq, Decidable.not_not, Bool.not_eq_true, Bool.not_eq_false] at q84) | (dsimp only at q84) | skip
      refine At.region rfl rfl ?_
      refine Reg.pur rfl rfl rfl rfl (Pur.fld _ fo24_1 rfl) ?_
      refine Reg.lod rfl rfl rfl rfl (Lod.ld sc3 rfl o0_1.blk (hat4 b hb5)) ?_
      refine Reg.lod rfl rfl rfl rfl (Lod.ldn ag22 rfl o3_4.blk (by first | exact whole rfl | rfl | (simp only [List.drop_succ_cons, List.drop_zero, List.take_succ_cons, List.take_zero]; rfl)) (by first | rfl | (simp [*]; done))) ?_
      refine Reg.op rfl rfl rfl rfl (Does.call rfl (rowBind_ok _ _ _ (subC_len a b))) ?_
      rintro _ H14_3 ⟨rfl, hE14_3⟩
      have z14_3 := hE14_3.lt
      replace hE := hE.ext hE14_3
      replace o0_0 := o0_0.ext hE14_3
      replace o0_1 := o0_1.ext hE14_3
      replace o3_4 := o3_4.ext hE14_3
      replace o4_4 := o4_4.ext hE14_3
      refine Reg.op rfl rfl rfl rfl (Does.bslA ([encB (bR (b.getD 4 0) (subC a b ++ [-1]))]) slA25 rfl rfl rfl rfl rfl rfl) ?_
      rintro _ H14_4 ⟨rfl, hp14_4⟩
      have hn14_4 := New.of_eq hp14_4
      have z14_4 := hn14_4.size
      replace hE := hE.ext hn14_4.ext
      replace o0_0 := o0_0.ext hn14_4.ext
      replace o0_1 := o0_1.ext hn14_4.ext
      replace o3_4 := o3_4.ext hn14_4.ext
      replace o4_4 := o4_4.ext hn14_4.ext
      have o14_4 := hn14_4.own
      refine Reg.pur rfl rfl rfl rfl (Pur.asg rfl) ?_
      refine Reg.pur rfl rfl rfl rfl (Pur.asg rfl) ?_
      refine Reg.nil ?_
      refine At.ret rfl Tryd.func18 rfl ?_
      exact uniO_one (by rw [hy]; unfold uniQ; simp_all) rfl o14_4 (by omega) hE
    first | (simp only [decide_eq_true_eq, decide_eq_false_iff_not, Bool.not_eq_true', Bool.not_eq_false', ne_eq, Decidable.not_not, Bool.not_eq_true, Bool.not_eq_false] at q84) | (dsimp only at q84) | skip
    refine At.region rfl rfl ?_
    refine Reg.pur rfl rfl rfl rfl (Pur.mv rfl) ?_
    refine Reg.pur rfl rfl rfl rfl (Pur.not rfl) ?_
    refine Reg.pur rfl rfl rfl rfl (Pur.asg rfl) ?_
    refine Reg.nil ?_
    refine At.cond rfl rfl (fun q93 => ?_) (fun q93 => ?_)
    · first | (simp only [decide_eq_true_eq, decide_eq_false_iff_not, Bool.not_eq_true', Bool.not_eq_false', ne_eq, Decidable.not_not, Bool.not_eq_true, Bool.not_eq_false] at q93) | (dsimp only at q93) | skip
      refine At.region rfl rfl ?_
      refine Reg.pur rfl rfl rfl rfl (Pur.fld _ fo24_1 rfl) ?_
      refine Reg.lod rfl rfl rfl rfl (Lod.ld sc3 rfl o0_0.blk (hat4 a ha5)) ?_
      refine Reg.lod rfl rfl rfl rfl (Lod.ldn ag22 rfl o4_4.blk (by first | exact whole rfl | rfl | (simp only [List.drop_succ_cons, List.drop_zero, List.take_succ_cons, List.take_zero]; rfl)) (by first | rfl | (simp [*]; done))) ?_
      refine Reg.pur rfl rfl rfl rfl (Pur.fld _ fo24_1 rfl) ?_
      refine Reg.lod rfl rfl rfl rfl (Lod.ld sc3 rfl o0_1.blk (hat4 b hb5)) ?_
      refine Reg.op rfl rfl rfl rfl (Does.call rfl (rowBind_ok _ _ _ (subC_len b a))) ?_
      rintro _ H16_5 ⟨rfl, hE16_5⟩
      have z16_5 := hE16_5.lt
      replace hE := hE.ext hE16_5
      replace o0_0 := o0_0.ext hE16_5
      replace o0_1 := o0_1.ext hE16_5
      replace o3_4 := o3_4.ext hE16_5
      replace o4_4 := o4_4.ext hE16_5
      refine Reg.op rfl rfl rfl rfl (Does.bslA ([encB (bR (a.getD 4 0) (subC b a ++ [b.getD 4 0]))]) slA25 rfl rfl rfl rfl rfl rfl) ?_
      rintro _ H16_6 ⟨rfl, hp16_6⟩
      have hn16_6 := New.of_eq hp16_6
      have z16_6 := hn16_6.size
      replace hE := hE.ext hn16_6.ext
      replace o0_0 := o0_0.ext hn16_6.ext
      replace o0_1 := o0_1.ext hn16_6.ext
      replace o3_4 := o3_4.ext hn16_6.ext
      replace o4_4 := o4_4.ext hn16_6.ext
      have o16_6 := hn16_6.own
      refine Reg.pur rfl rfl rfl rfl (Pur.asg rfl) ?_
      refine Reg.pur rfl rfl rfl rfl (Pur.asg rfl) ?_
      refine Reg.nil ?_
      refine At.ret rfl Tryd.func18 rfl ?_
      exact uniO_one (by rw [hy]; unfold uniQ; simp_all) rfl o16_6 (by omega) hE
    first | (simp only [decide_eq_true_eq, decide_eq_false_iff_not, Bool.not_eq_true', Bool.not_eq_false', ne_eq, Decidable.not_not, Bool.not_eq_true, Bool.not_eq_false] at q93) | (dsimp only at q93) | skip
    refine At.region rfl rfl ?_
    refine Reg.pur rfl rfl rfl rfl (Pur.mv rfl) ?_
    refine Reg.pur rfl rfl rfl rfl (Pur.not rfl) ?_
    refine Reg.pur rfl rfl rfl rfl (Pur.asg rfl) ?_
    refine Reg.nil ?_
    refine At.cond rfl rfl (fun q103 => ?_) (fun q103 => ?_)
    · first | (simp only [decide_eq_true_eq, decide_eq_false_iff_not, Bool.not_eq_true', Bool.not_eq_false', ne_eq, Decidable.not_not, Bool.not_eq_true, Bool.not_eq_false] at q103) | (dsimp only at q103) | skip
      refine At.region rfl rfl ?_
      refine Reg.pur rfl rfl rfl rfl (Pur.fld _ fo24_1 rfl) ?_
      refine Reg.lod rfl rfl rfl rfl (Lod.ld sc3 rfl o0_1.blk (hat4 b hb5)) ?_
      refine Reg.lod rfl rfl rfl rfl (Lod.ldn ag22 rfl o3_4.blk (by first | exact whole rfl | rfl | (simp only [List.drop_succ_cons, List.drop_zero, List.take_succ_cons, List.take_zero]; rfl)) (by first | rfl | (simp [*]; done))) ?_
      refine Reg.pur rfl rfl rfl rfl (Pur.fld _ fo24_1 rfl) ?_
      refine Reg.lod rfl rfl rfl rfl (Lod.ld sc3 rfl o0_0.blk (hat4 a ha5)) ?_
      refine Reg.op rfl rfl rfl rfl (Does.call rfl (rowBind_ok _ _ _ (subC_len a b))) ?_
      rintro _ H18_5 ⟨rfl, hE18_5⟩
      have z18_5 := hE18_5.lt
      replace hE := hE.ext hE18_5
      replace o0_0 := o0_0.ext hE18_5
      replace o0_1 := o0_1.ext hE18_5
      replace o3_4 := o3_4.ext hE18_5
      replace o4_4 := o4_4.ext hE18_5
      refine Reg.op rfl rfl rfl rfl (Does.bslA ([encB (bR (b.getD 4 0) (subC a b ++ [a.getD 4 0]))]) slA25 rfl rfl rfl rfl rfl rfl) ?_
      rintro _ H18_6 ⟨rfl, hp18_6⟩
      have hn18_6 := New.of_eq hp18_6
      have z18_6 := hn18_6.size
      replace hE := hE.ext hn18_6.ext
      replace o0_0 := o0_0.ext hn18_6.ext
      replace o0_1 := o0_1.ext hn18_6.ext
      replace o3_4 := o3_4.ext hn18_6.ext
      replace o4_4 := o4_4.ext hn18_6.ext
      have o18_6 := hn18_6.own
      refine Reg.pur rfl rfl rfl rfl (Pur.asg rfl) ?_
      refine Reg.pur rfl rfl rfl rfl (Pur.asg rfl) ?_
      refine Reg.nil ?_
      refine At.ret rfl Tryd.func18 rfl ?_
      exact uniO_one (by rw [hy]; unfold uniQ; simp_all) rfl o18_6 (by omega) hE
    first | (simp only [decide_eq_true_eq, decide_eq_false_iff_not, Bool.not_eq_true', Bool.not_eq_false', ne_eq, Decidable.not_not, Bool.not_eq_true, Bool.not_eq_false] at q103) | (dsimp only at q103) | skip
    refine At.drawE ((Bks.cons o0_0.blk (Bks.cons o0_1.blk (Bks.cons o3_4.blk (Bks.cons o4_4.blk Bks.nil))))) [] mixed rfl rfl ?_
    refine RegD.tpur (i := 0) rfl rfl rfl rfl (by kernel_rfl) (Pur.fld _ fo24_1 rfl) ?_
    refine RegD.take (i := 1) rfl rfl rfl rfl (by kernel_rfl) (Bks.cons o0_0.blk (Bks.cons o0_1.blk (Bks.cons o3_4.blk (Bks.cons o4_4.blk Bks.nil)))) (fun H hS => Lod.ld sc3 rfl hS.hd (hat4 a ha5)) ?_
    refine RegD.take (i := 2) rfl rfl rfl rfl (by kernel_rfl) (Bks.cons o0_0.blk (Bks.cons o0_1.blk (Bks.cons o3_4.blk (Bks.cons o4_4.blk Bks.nil)))) (fun H hS => Lod.ldn ag22 rfl hS.tl.tl.tl.hd (by first | exact whole rfl | rfl | (simp only [List.drop_succ_cons, List.drop_zero, List.take_succ_cons, List.take_zero]; rfl)) (by first | rfl | (simp [*]; done))) ?_
    refine RegD.tpur (i := 3) rfl rfl rfl rfl (by kernel_rfl) (Pur.mv rfl) ?_
    refine RegD.tpur (i := 5) rfl rfl rfl rfl (by kernel_rfl) (Pur.fld _ fo24_1 rfl) ?_
    refine RegD.take (i := 6) rfl rfl rfl rfl (by kernel_rfl) (Bks.cons o0_0.blk (Bks.cons o0_1.blk (Bks.cons o3_4.blk (Bks.cons o4_4.blk Bks.nil)))) (fun H hS => Lod.ld sc3 rfl hS.tl.hd (hat4 b hb5)) ?_
    refine RegD.take (i := 7) rfl rfl rfl rfl (by kernel_rfl) (Bks.cons o0_0.blk (Bks.cons o0_1.blk (Bks.cons o3_4.blk (Bks.cons o4_4.blk Bks.nil)))) (fun H hS => Lod.ldn ag22 rfl hS.tl.tl.hd (by first | exact whole rfl | rfl | (simp only [List.drop_succ_cons, List.drop_zero, List.take_succ_cons, List.take_zero]; rfl)) (by first | rfl | (simp [*]; done))) ?_
    refine RegD.tpur (i := 8) rfl rfl rfl rfl (by kernel_rfl) (Pur.mv rfl) ?_
    refine RegD.one (i := 4) (by kernel_rfl) rfl rfl rfl rfl (Does.call rfl (rowBind_ok _ _ _ (subC_len b a))) ?_
    rintro _ H19_4 ⟨rfl, hE19_4⟩
    have z19_4 := hE19_4.lt
    replace hE := hE.ext hE19_4
    replace o0_0 := o0_0.ext hE19_4
    replace o0_1 := o0_1.ext hE19_4
    replace o3_4 := o3_4.ext hE19_4
    replace o4_4 := o4_4.ext hE19_4
    refine ⟨fun _ _ => (Bks.cons o0_0.blk (Bks.cons o0_1.blk (Bks.cons o3_4.blk (Bks.cons o4_4.blk Bks.nil)))), ?_⟩
    refine RegD.one (i := 9) (by kernel_rfl) rfl rfl rfl rfl (Does.call rfl (rowBind_ok _ _ _ (subC_len a b))) ?_
    rintro _ H19_9 ⟨rfl, hE19_9⟩
    have z19_9 := hE19_9.lt
    replace hE := hE.ext hE19_9
    replace o0_0 := o0_0.ext hE19_9
    replace o0_1 := o0_1.ext hE19_9
    replace o3_4 := o3_4.ext hE19_9
    replace o4_4 := o4_4.ext hE19_9
    refine ⟨fun _ _ => (Bks.cons o0_0.blk (Bks.cons o0_1.blk (Bks.cons o3_4.blk (Bks.cons o4_4.blk Bks.nil)))), ?_⟩
    refine RegD.one (i := 10) (by kernel_rfl) rfl rfl rfl rfl (Does.bslA ([encB (bR (a.getD 4 0) (subC b a ++ [f])), encB (bR (b.getD 4 0) (subC a b ++ [f]))]) slA25 rfl rfl rfl rfl rfl rfl) ?_
    rintro _ H19_10 ⟨rfl, hp19_10⟩
    have hn19_10 := New.of_eq hp19_10
    have z19_10 := hn19_10.size
    replace hE := hE.ext hn19_10.ext
    replace o0_0 := o0_0.ext hn19_10.ext
    replace o0_1 := o0_1.ext hn19_10.ext
    replace o3_4 := o3_4.ext hn19_10.ext
    replace o4_4 := o4_4.ext hn19_10.ext
    have o19_10 := hn19_10.own
    refine ⟨fun _ _ => (Bks.cons o0_0.blk (Bks.cons o0_1.blk (Bks.cons o3_4.blk (Bks.cons o4_4.blk Bks.nil)))), ?_⟩
    refine RegD.tpur (i := 11) rfl rfl rfl rfl (by kernel_rfl) (Pur.asg rfl) ?_
    refine RegD.tpur (i := 12) rfl rfl rfl rfl (by kernel_rfl) (Pur.asg rfl) ?_
    refine RegD.done (by kernel_rfl) ?_
    refine At.ret rfl Tryd.func18 rfl ?_
    exact uniO_two (by rw [hy]; unfold uniQ; simp_all) rfl rfl o19_10 (by omega) hE
  first | (simp only [decide_eq_true_eq, decide_eq_false_iff_not, Bool.not_eq_true', Bool.not_eq_false', ne_eq, Decidable.not_not, Bool.not_eq_true, Bool.not_eq_false] at q56) | (dsimp only at q56) | skip
  refine Reg.skip rfl rfl rfl rfl rfl rfl rfl ?_
  refine Reg.skip rfl rfl rfl rfl rfl rfl rfl ?_
  refine Reg.skipU rfl rfl rfl rfl rfl rfl ?_
  refine Reg.skipU rfl rfl rfl rfl rfl rfl ?_
  refine Reg.skipU rfl rfl rfl rfl rfl rfl ?_
  refine Reg.skip rfl rfl rfl rfl rfl rfl rfl ?_
  refine Reg.pur rfl rfl rfl rfl (Pur.pickF rfl rfl) ?_
  refine Reg.pur rfl rfl rfl rfl (Pur.asg rfl) ?_
  refine Reg.nil ?_
  refine At.condF rfl rfl rfl ?_
  refine At.region rfl rfl ?_
  refine Reg.pur rfl rfl rfl rfl (Pur.mv rfl) ?_
  refine Reg.pur rfl rfl rfl rfl (Pur.mv rfl) ?_
  refine Reg.case 65 rfl (fun q65 => ?_) (fun q65 => ?_)
  · first | (simp only [decide_eq_true_eq, decide_eq_false_iff_not, Bool.not_eq_true', Bool.not_eq_false', ne_eq, Decidable.not_not, Bool.not_eq_true, Bool.not_eq_false] at q65) | (dsimp only at q65) | skip
    refine Reg.gpur rfl rfl rfl rfl rfl rfl (Pur.mv rfl) ?_
    refine Reg.gpur rfl rfl rfl rfl rfl rfl (Pur.mv rfl) ?_
    refine Reg.case 67 rfl (fun q67 => ?_) (fun q67 => ?_)
    · first | (simp only [decide_eq_true_eq, decide_eq_false_iff_not, Bool.not_eq_true', Bool.not_eq_false', ne_eq, Decidable.not_not, Bool.not_eq_true, Bool.not_eq_false] at q67) | (dsimp only at q67) | skip
      refine Reg.skip rfl rfl rfl rfl rfl rfl rfl ?_
      refine Reg.skip rfl rfl rfl rfl rfl rfl rfl ?_
      refine Reg.skip rfl rfl rfl rfl rfl rfl rfl ?_
      refine Reg.gpur rfl rfl rfl rfl rfl rfl (Pur.pickT rfl rfl) ?_
      refine Reg.pur rfl rfl rfl rfl (Pur.pickT rfl rfl) ?_
      refine Reg.pur rfl rfl rfl rfl (Pur.asg rfl) ?_
      refine Reg.nil ?_
      refine At.condT rfl rfl rfl ?_
      refine At.region rfl rfl ?_
      refine Reg.pur rfl rfl rfl rfl (Pur.asg rfl) ?_
      refine Reg.pur rfl rfl rfl rfl (Pur.asg rfl) ?_
      refine Reg.nil ?_
      refine At.ret rfl Tryd.func18 rfl ?_
      exact uniO_nil (by rw [hy]; unfold uniQ; simp_all) hE
    first | (simp only [decide_eq_true_eq, decide_eq_false_iff_not, Bool.not_eq_true', Bool.not_eq_false', ne_eq, Decidable.not_not, Bool.not_eq_true, Bool.not_eq_false] at q67) | (dsimp only at q67) | skip
    refine Reg.gpur rfl rfl rfl rfl rfl rfl (Pur.fld _ fo24_1 rfl) ?_
    refine Reg.glod rfl rfl rfl rfl rfl rfl (Lod.ld sc3 rfl o0_0.blk (hat4 a ha5)) ?_
    refine Reg.gpur rfl rfl rfl rfl rfl rfl (Pur.eql rfl rfl) ?_
    refine Reg.gpur rfl rfl rfl rfl rfl rfl (Pur.pickF rfl rfl) ?_
    refine Reg.pur rfl rfl rfl rfl (Pur.pickT rfl rfl) ?_
    refine Reg.pur rfl rfl rfl rfl (Pur.asg rfl) ?_
    refine Reg.nil ?_
    refine At.cond rfl rfl (fun q54 => ?_) (fun q54 => ?_)
    · first | (simp only [decide_eq_true_eq, decide_eq_false_iff_not, Bool.not_eq_true', Bool.not_eq_false', ne_eq, Decidable.not_not, Bool.not_eq_true, Bool.not_eq_false] at q54) | (dsimp only at q54) | skip
      refine At.region rfl rfl ?_
      refine Reg.pur rfl rfl rfl rfl (Pur.asg rfl) ?_
      refine Reg.pur rfl rfl rfl rfl (Pur.asg rfl) ?_
      refine Reg.nil ?_
      refine At.ret rfl Tryd.func18 rfl ?_
      exact uniO_nil (by rw [hy]; unfold uniQ; simp_all) hE
    first | (simp only [decide_eq_true_eq, decide_eq_false_iff_not, Bool.not_eq_true', Bool.not_eq_false', ne_eq, Decidable.not_not, Bool.not_eq_true, Bool.not_eq_false] at q54) | (dsimp only at q54) | skip
    refine At.region rfl rfl ?_
    refine Reg.pur rfl rfl rfl rfl (Pur.mv rfl) ?_
    refine Reg.pur rfl rfl rfl rfl (Pur.asg rfl) ?_
    refine Reg.nil ?_
    refine At.condF rfl rfl (by first | exact q67 | exact decide_eq_true q67 | exact decide_eq_false q67 | simpa using q67) ?_
    refine At.region rfl rfl ?_
    refine Reg.pur rfl rfl rfl rfl (Pur.fld _ fo24_1 rfl) ?_
    refine Reg.lod rfl rfl rfl rfl (Lod.ld sc3 rfl o0_1.blk (hat4 b hb5)) ?_
    refine Reg.pur rfl rfl rfl rfl (Pur.eql rfl rfl) ?_
    refine Reg.pur rfl rfl rfl rfl (Pur.asg rfl) ?_
    refine Reg.nil ?_
    refine At.cond rfl rfl (fun q75 => ?_) (fun q75 => ?_)
    · first | (simp only [decide_eq_true_eq, decide_eq_false_iff_not, Bool.not_eq_true', Bool.not_eq_false', ne_eq, Decidable.not_not, Bool.not_eq_true, Bool.not_eq_false] at q75) | (dsimp only at q75) | skip
      refine At.region rfl rfl ?_
      refine Reg.pur rfl rfl rfl rfl (Pur.fld _ fo24_1 rfl) ?_
      refine Reg.lod rfl rfl rfl rfl (Lod.ld sc3 rfl o0_0.blk (hat4 a ha5)) ?_
      refine Reg.lod rfl rfl rfl rfl (Lod.ldn ag22 rfl o4_4.blk (by first | exact whole rfl | rfl | (simp only [List.drop_succ_cons, List.drop_zero, List.take_succ_cons, List.take_zero]; rfl)) (by first | rfl | (simp [*]; done))) ?_
      refine Reg.op rfl rfl rfl rfl (Does.call rfl (rowBind_ok _ _ _ (subC_len b a))) ?_
      rintro _ H12_3 ⟨rfl, hE12_3⟩
      have z12_3 := hE12_3.lt
      replace hE := hE.ext hE12_3
      replace o0_0 := o0_0.ext hE12_3
      replace o0_1 := o0_1.ext hE12_3
      replace o3_4 := o3_4.ext hE12_3
      replace o4_4 := o4_4.ext hE12_3
      refine Reg.op rfl rfl rfl rfl (Does.bslA ([encB (bR (a.getD 4 0) (subC b a ++ [-1]))]) slA25 rfl rfl rfl rfl rfl rfl) ?_
      rintro _ H12_4 ⟨rfl, hp12_4⟩
      have hn12_4 := New.of_eq hp12_4
      have z12_4 := hn12_4.size
      replace hE := hE.ext hn12_4.ext
      replace o0_0 := o0_0.ext hn12_4.ext
      replace o0_1 := o0_1.ext hn12_4.ext
      replace o3_4 := o3_4.ext hn12_4.ext
      replace o4_4 := o4_4.ext hn12_4.ext
      have o12_4 := hn12_4.own
      refine Reg.pur rfl rfl rfl rfl (Pur.asg rfl) ?_
      refine Reg.pur rfl rfl rfl rfl (Pur.asg rfl) ?_
      refine Reg.nil ?_
      refine At.ret rfl Tryd.func18 rfl ?_
      exact uniO_one (by rw [hy]; unfold uniQ; simp_all) rfl o12_4 (by omega) hE
    first | (simp only [decide_eq_true_eq, decide_eq_false_iff_not, Bool.not_eq_true', Bool.not_eq_false', ne_eq, Decidable.not_not, Bool.not_eq_true, Bool.not_eq_false] at q75) | (dsimp only at q75) | skip
    refine At.region rfl rfl ?_
    refine Reg.pur rfl rfl rfl rfl (Pur.fld _ fo24_1 rfl) ?_
    refine Reg.lod rfl rfl rfl rfl (Lod.ld sc3 rfl o0_0.blk (hat4 a ha5)) ?_
    refine Reg.pur rfl rfl rfl rfl (Pur.eql rfl rfl) ?_
    refine Reg.pur rfl rfl rfl rfl (Pur.asg rfl) ?_
    refine Reg.nil ?_
    refine At.cond rfl rfl (fun q84 => ?_) (fun q84 => ?_)
    · first | (simp only [decide_eq_true_eq, decide_eq_false_iff_not, Bool.not_eq_true', Bool.not_eq_false', ne_eq, Decidable.not_not, Bool.not_eq_true, Bool.not_eq_false] at q84) | (dsimp only at q84) | skip
      refine At.region rfl rfl ?_
      refine Reg.pur rfl rfl rfl rfl (Pur.fld _ fo24_1 rfl) ?_
      refine Reg.lod rfl rfl rfl rfl (Lod.ld sc3 rfl o0_1.blk (hat4 b hb5)) ?_
      refine Reg.lod rfl rfl rfl rfl (Lod.ldn ag22 rfl o3_4.blk (by first | exact whole rfl | rfl | (simp only [List.drop_succ_cons, List.drop_zero, List.take_succ_cons, List.take_zero]; rfl)) (by first | rfl | (simp [*]; done))) ?_
      refine Reg.op rfl rfl rfl rfl (Does.call rfl (rowBind_ok _ _ _ (subC_len a b))) ?_
      rintro _ H14_3 ⟨rfl, hE14_3⟩
      have z14_3 := hE14_3.lt
      replace hE := hE.ext hE14_3
      replace o0_0 := o0_0.ext hE14_3
      replace o0_1 := o0_1.ext hE14_3
      replace o3_4 := o3_4.ext hE14_3
      replace o4_4 := o4_4.ext hE14_3
      refine Reg.op rfl rfl rfl rfl (Does.bslA ([encB (bR (b.getD 4 0) (subC a b ++ [-1]))]) slA25 rfl rfl rfl rfl rfl rfl) ?_
      rintro _ H14_4 ⟨rfl, hp14_4⟩
      have hn14_4 := New.of_eq hp14_4
      have z14_4 := hn14_4.size
      replace hE := hE.ext hn14_4.ext
      replace o0_0 := o0_0.ext hn14_4.ext
      replace o0_1 := o0_1.ext hn14_4.ext
      replace o3_4 := o3_4.ext hn14_4.ext
      replace o4_4 := o4_4.ext hn14_4.ext
      have o14_4 := hn14_4.own
      refine Reg.pur rfl rfl rfl rfl (Pur.asg rfl) ?_
      refine Reg.pur rfl rfl rfl rfl (Pur.asg rfl) ?_
      refine Reg.nil ?_
      refine At.ret rfl Tryd.func18 rfl ?_
      exact uniO_one (by rw [hy]; unfold uniQ; simp_all) rfl o14_4 (by omega) hE
    first | (simp only [decide_eq_true_eq, decide_eq_false_iff_not, Bool.not_eq_true', Bool.not_eq_false', ne_eq, Decidable.not_not, Bool.not_eq_true, Bool.not_eq_false] at q84) | (dsimp only at q84) | skip
    refine At.region rfl rfl ?_
    refine Reg.pur rfl rfl rfl rfl (Pur.mv rfl) ?_
    refine Reg.pur rfl rfl rfl rfl (Pur.not rfl) ?_
    refine Reg.pur rfl rfl rfl rfl (Pur.asg rfl) ?_
    refine Reg.nil ?_
    refine At.cond rfl rfl (fun q93 => ?_) (fun q93 => ?_)
    · first | (simp only [decide_eq_true_eq, decide_eq_false_iff_not, Bool.not_eq_true', Bool.not_eq_false', ne_eq, Decidable.not_not, Bool.not_eq_true, Bool.not_eq_false] at q93) | (dsimp only at q93) | skip
      refine At.region rfl rfl ?_
      refine Reg.pur rfl rfl rfl rfl (Pur.fld _ fo24_1 rfl) ?_
      refine Reg.lod rfl rfl rfl rfl (Lod.ld sc3 rfl o0_0.blk (hat4 a ha5)) ?_
      refine Reg.lod rfl rfl rfl rfl (Lod.ldn ag22 rfl o4_4.blk (by first | exact whole rfl | rfl | (simp only [List.drop_succ_cons, List.drop_zero, List.take_succ_cons, List.take_zero]; rfl)) (by first | rfl | (simp [*]; done))) ?_
      refine Reg.pur rfl rfl rfl rfl (Pur.fld _ fo24_1 rfl) ?_
      refine Reg.lod rfl rfl rfl rfl (Lod.ld sc3 rfl o0_1.blk (hat4 b hb5)) ?_
      refine Reg.op rfl rfl rfl rfl (Does.call rfl (rowBind_ok _ _ _ (subC_len b a))) ?_
      rintro _ H16_5 ⟨rfl, hE16_5⟩
      have z16_5 := hE16_5.lt
      replace hE := hE.ext hE16_5
      replace o0_0 := o0_0.ext hE16_5
      replace o0_1 := o0_1.ext hE16_5
      replace o3_4 := o3_4.ext hE16_5
      replace o4_4 := o4_4.ext hE16_5
      refine Reg.op rfl rfl rfl rfl (Does.bslA ([encB (bR (a.getD 4 0) (subC b a ++ [b.getD 4 0]))]) slA25 rfl rfl rfl rfl rfl rfl) ?_
      rintro _ H16_6 ⟨rfl, hp16_6⟩
      have hn16_6 := New.of_eq hp16_6
      have z16_6 := hn16_6.size
      replace hE := hE.ext hn16_6.ext
      replace o0_0 := o0_0.ext hn16_6.ext
      replace o0_1 := o0_1.ext hn16_6.ext
      replace o3_4 := o3_4.ext hn16_6.ext
      replace o4_4 := o4_4.ext hn16_6.ext
      have o16_6 := hn16_6.own
      refine Reg.pur rfl rfl rfl rfl (Pur.asg rfl) ?_
      refine Reg.pur rfl rfl rfl rfl (Pur.asg rfl) ?_
      refine Reg.nil ?_
      refine At.ret rfl Tryd.func18 rfl ?_
      exact uniO_one (by rw [hy]; unfold uniQ; simp_all) rfl o16_6 (by omega) hE
    first | (simp only [decide_eq_true_eq, decide_eq_false_iff_not, Bool.not_eq_true', Bool.not_eq_false', ne_eq, Decidable.not_not, Bool.not_eq_true, Bool.not_eq_false] at q93) | (dsimp only at q93) | skip
    refine At.region rfl rfl ?_
    refine Reg.pur rfl rfl rfl rfl (Pur.mv rfl) ?_
    refine Reg.pur rfl rfl rfl rfl (Pur.not rfl) ?_
    refine Reg.pur rfl rfl rfl rfl (Pur.asg rfl) ?_
    refine Reg.nil ?_
    refine At.cond rfl rfl (fun q103 => ?_) (fun q103 => ?_)
    · first | (simp only [decide_eq_true_eq, decide_eq_false_iff_not, Bool.not_eq_true', Bool.not_eq_false', ne_eq, Decidable.not_not, Bool.not_eq_true, Bool.not_eq_false] at q103) | (dsimp only at q103) | skip
      refine At.region rfl rfl ?_
      refine Reg.pur rfl rfl rfl rfl (Pur.fld _ fo24_1 rfl) ?_
      refine Reg.lod rfl rfl rfl rfl (Lod.ld sc3 rfl o0_1.blk (hat4 b hb5)) ?_
      refine Reg.lod rfl rfl rfl rfl (Lod.ldn ag22 rfl o3_4.blk (by first | exact whole rfl | rfl | (simp only [List.drop_succ_cons, List.drop_zero, List.take_succ_cons, List.take_zero]; rfl)) (by first | rfl | (simp [*]; done))) ?_
      refine Reg.pur rfl rfl rfl rfl (Pur.fld _ fo24_1 rfl) ?_
      refine Reg.lod rfl rfl rfl rfl (Lod.ld sc3 rfl o0_0.blk (hat4 a ha5)) ?_
      refine Reg.op rfl rfl rfl rfl (Does.call rfl (rowBind_ok _ _ _ (subC_len a b))) ?_
      rintro _ H18_5 ⟨rfl, hE18_5⟩
      have z18_5 := hE18_5.lt
      replace hE := hE.ext hE18_5
      replace o0_0 := o0_0.ext hE18_5
      replace o0_1 := o0_1.ext hE18_5
      replace o3_4 := o3_4.ext hE18_5
      replace o4_4 := o4_4.ext hE18_5
      refine Reg.op rfl rfl rfl rfl (Does.bslA ([encB (bR (b.getD 4 0) (subC a b ++ [a.getD 4 0]))]) slA25 rfl rfl rfl rfl rfl rfl) ?_
      rintro _ H18_6 ⟨rfl, hp18_6⟩
      have hn18_6 := New.of_eq hp18_6
      have z18_6 := hn18_6.size
      replace hE := hE.ext hn18_6.ext
      replace o0_0 := o0_0.ext hn18_6.ext
      replace o0_1 := o0_1.ext hn18_6.ext
      replace o3_4 := o3_4.ext hn18_6.ext
      replace o4_4 := o4_4.ext hn18_6.ext
      have o18_6 := hn18_6.own
      refine Reg.pur rfl rfl rfl rfl (Pur.asg rfl) ?_
      refine Reg.pur rfl rfl rfl rfl (Pur.asg rfl) ?_
      refine Reg.nil ?_
      refine At.ret rfl Tryd.func18 rfl ?_
      exact uniO_one (by rw [hy]; unfold uniQ; simp_all) rfl o18_6 (by omega) hE
    first | (simp only [decide_eq_true_eq, decide_eq_false_iff_not, Bool.not_eq_true', Bool.not_eq_false', ne_eq, Decidable.not_not, Bool.not_eq_true, Bool.not_eq_false] at q103) | (dsimp only at q103) | skip
    refine At.drawE ((Bks.cons o0_0.blk (Bks.cons o0_1.blk (Bks.cons o3_4.blk (Bks.cons o4_4.blk Bks.nil))))) [] mixed rfl rfl ?_
    refine RegD.tpur (i := 0) rfl rfl rfl rfl (by kernel_rfl) (Pur.fld _ fo24_1 rfl) ?_
    refine RegD.take (i := 1) rfl rfl rfl rfl (by kernel_rfl) (Bks.cons o0_0.blk (Bks.cons o0_1.blk (Bks.cons o3_4.blk (Bks.cons o4_4.blk Bks.nil)))) (fun H hS => Lod.ld sc3 rfl hS.hd (hat4 a ha5)) ?_
    refine RegD.take (i := 2) rfl rfl rfl rfl (by kernel_rfl) (Bks.cons o0_0.blk (Bks.cons o0_1.blk (Bks.cons o3_4.blk (Bks.cons o4_4.blk Bks.nil)))) (fun H hS => Lod.ldn ag22 rfl hS.tl.tl.tl.hd (by first | exact whole rfl | rfl | (simp only [List.drop_succ_cons, List.drop_zero, List.take_succ_cons, List.take_zero]; rfl)) (by first | rfl | (simp [*]; done))) ?_
    refine RegD.tpur (i := 3) rfl rfl rfl rfl (by kernel_rfl) (Pur.mv rfl) ?_
    refine RegD.tpur (i := 5) rfl rfl rfl rfl (by kernel_rfl) (Pur.fld _ fo24_1 rfl) ?_
    refine RegD.take (i := 6) rfl rfl rfl rfl (by kernel_rfl) (Bks.cons o0_0.blk (Bks.cons o0_1.blk (Bks.cons o3_4.blk (Bks.cons o4_4.blk Bks.nil)))) (fun H hS => Lod.ld sc3 rfl hS.tl.hd (hat4 b hb5)) ?_
    refine RegD.take (i := 7) rfl rfl rfl rfl (by kernel_rfl) (Bks.cons o0_0.blk (Bks.cons o0_1.blk (Bks.cons o3_4.blk (Bks.cons o4_4.blk Bks.nil)))) (fun H hS => Lod.ldn ag22 rfl hS.tl.tl.hd (by first | exact whole rfl | rfl | (simp only [List.drop_succ_cons, List.drop_zero, List.take_succ_cons, List.take_zero]; rfl)) (by first | rfl | (simp [*]; done))) ?_
    refine RegD.tpur (i := 8) rfl rfl rfl rfl (by kernel_rfl) (Pur.mv rfl) ?_
    refine RegD.one (i := 4) (by kernel_rfl) rfl rfl rfl rfl (Does.call rfl (rowBind_ok _ _ _ (subC_len b a))) ?_
    rintro _ H19_4 ⟨rfl, hE19_4⟩
    have z19_4 := hE19_4.lt
    replace hE := hE.ext hE19_4
    replace o0_0 := o0_0.ext hE19_4
    replace o0_1 := o0_1.ext hE19_4
    replace o3_4 := o3_4.ext hE19_4
    replace o4_4 := o4_4.ext hE19_4
    refine ⟨fun _ _ => (Bks.cons o0_0.blk (Bks.cons o0_1.blk (Bks.cons o3_4.blk (Bks.cons o4_4.blk Bks.nil)))), ?_⟩
    refine RegD.one (i := 9) (by kernel_rfl) rfl rfl rfl rfl (Does.call rfl (rowBind_ok _ _ _ (subC_len a b))) ?_
    rintro _ H19_9 ⟨rfl, hE19_9⟩
    have z19_9 := hE19_9.lt
    replace hE := hE.ext hE19_9
    replace o0_0 := o0_0.ext hE19_9
    replace o0_1 := o0_1.ext hE19_9
    replace o3_4 := o3_4.ext hE19_9
    replace o4_4 := o4_4.ext hE19_9
    refine ⟨fun _ _ => (Bks.cons o0_0.blk (Bks.cons o0_1.blk (Bks.cons o3_4.blk (Bks.cons o4_4.blk Bks.nil)))), ?_⟩
    refine RegD.one (i := 10) (by kernel_rfl) rfl rfl rfl rfl (Does.bslA ([encB (bR (a.getD 4 0) (subC b a ++ [f])), encB (bR (b.getD 4 0) (subC a b ++ [f]))]) slA25 rfl rfl rfl rfl rfl rfl) ?_
    rintro _ H19_10 ⟨rfl, hp19_10⟩
    have hn19_10 := New.of_eq hp19_10
    have z19_10 := hn19_10.size
    replace hE := hE.ext hn19_10.ext
    replace o0_0 := o0_0.ext hn19_10.ext
    replace o0_1 := o0_1.ext hn19_10.ext
    replace o3_4 := o3_4.ext hn19_10.ext
    replace o4_4 := o4_4.ext hn19_10.ext
    have o19_10 := hn19_10.own
    refine ⟨fun _ _ => (Bks.cons o0_0.blk (Bks.cons o0_1.blk (Bks.cons o3_4.blk (Bks.cons o4_4.blk Bks.nil)))), ?_⟩
    refine RegD.tpur (i := 11) rfl rfl rfl rfl (by kernel_rfl) (Pur.asg rfl) ?_
    refine RegD.tpur (i := 12) rfl rfl rfl rfl (by kernel_rfl) (Pur.asg rfl) ?_
    refine RegD.done (by kernel_rfl) ?_
    refine At.ret rfl Tryd.func18 rfl ?_
    exact uniO_two (by rw [hy]; unfold uniQ; simp_all) rfl rfl o19_10 (by omega) hE
  first | (simp only [decide_eq_true_eq, decide_eq_false_iff_not, Bool.not_eq_true', Bool.not_eq_false', ne_eq, Decidable.not_not, Bool.not_eq_true, Bool.not_eq_false] at q65) | (dsimp only at q65) | skip
  refine Reg.skip rfl rfl rfl rfl rfl rfl rfl ?_
  refine Reg.skip rfl rfl rfl rfl rfl rfl rfl ?_
  refine Reg.skipU rfl rfl rfl rfl rfl rfl ?_
  refine Reg.skipU rfl rfl rfl rfl rfl rfl ?_
  refine Reg.skipU rfl rfl rfl rfl rfl rfl ?_
  refine Reg.skip rfl rfl rfl rfl rfl rfl rfl ?_
  refine Reg.pur rfl rfl rfl rfl (Pur.pickF rfl rfl) ?_
  refine Reg.pur rfl rfl rfl rfl (Pur.asg rfl) ?_
  refine Reg.nil ?_
  refine At.condF rfl rfl rfl ?_
  refine At.region rfl rfl ?_
  refine Reg.pur rfl rfl rfl rfl (Pur.mv rfl) ?_
  refine Reg.pur rfl rfl rfl rfl (Pur.asg rfl) ?_
  refine Reg.nil ?_
  refine At.cond rfl rfl (fun q73 => ?_) (fun q73 => ?_)
  · first | (simp only [decide_eq_true_eq, decide_eq_false_iff_not, Bool.not_eq_true', Bool.not_eq_false', ne_eq, Decidable.not_not, Bool.not_eq_true, Bool.not_eq_false] at q73) | (dsimp only at q73) | skip
    refine At.region rfl rfl ?_
    refine Reg.pur rfl rfl rfl rfl (Pur.asg rfl) ?_
    refine Reg.pur rfl rfl rfl rfl (Pur.asg rfl) ?_
    refine Reg.nil ?_
    refine At.ret rfl Tryd.func18 rfl ?_
    exact uniO_nil (by rw [hy]; unfold uniQ; simp_all) hE
  first | (simp only [decide_eq_true_eq, decide_eq_false_iff_not, Bool.not_eq_true', Bool.not_eq_false', ne_eq, Decidable.not_not, Bool.not_eq_true, Bool.not_eq_false] at q73) | (dsimp only at q73) | skip
  refine At.region rfl rfl ?_
  refine Reg.pur rfl rfl rfl rfl (Pur.fld _ fo24_1 rfl) ?_
  refine Reg.lod rfl rfl rfl rfl (Lod.ld sc3 rfl o0_1.blk (hat4 b hb5)) ?_
  refine Reg.pur rfl rfl rfl rfl (Pur.eql rfl rfl) ?_
  refine Reg.pur rfl rfl rfl rfl (Pur.asg rfl) ?_
  refine Reg.nil ?_
  refine At.cond rfl rfl (fun q75 => ?_) (fun q75 => ?_)
  · first | (simp only [decide_eq_true_eq, decide_eq_false_iff_not, Bool.not_eq_true', Bool.not_eq_false', ne_eq, Decidable.not_not, Bool.not_eq_true, Bool.not_eq_false] at q75) | (dsimp only at q75) | skip
    refine At.region rfl rfl ?_
    refine Reg.pur rfl rfl rfl rfl (Pur.fld _ fo24_1 rfl) ?_
    refine Reg.lod rfl rfl rfl rfl (Lod.ld sc3 rfl o0_0.blk (hat4 a ha5)) ?_
    refine Reg.lod rfl rfl rfl rfl (Lod.ldn ag22 rfl o4_4.blk (by first | exact whole rfl | rfl | (simp only [List.drop_succ_cons, List.drop_zero, List.take_succ_cons, List.take_zero]; rfl)) (by first | rfl | (simp [*]; done))) ?_
    refine Reg.op rfl rfl rfl rfl (Does.call rfl (rowBind_ok _ _ _ (subC_len b a))) ?_
    rintro _ H12_3 ⟨rfl, hE12_3⟩
    have z12_3 := hE12_3.lt
    replace hE := hE.ext hE12_3
    replace o0_0 := o0_0.ext hE12_3
    replace o0_1 := o0_1.ext hE12_3
    replace o3_4 := o3_4.ext hE12_3
    replace o4_4 := o4_4.ext hE12_3
    refine Reg.op rfl rfl rfl rfl (Does.bslA ([encB (bR (a.getD 4 0) (subC b a ++ [-1]))]) slA25 rfl rfl rfl rfl rfl rfl) ?_
    rintro _ H12_4 ⟨rfl, hp12_4⟩
    have hn12_4 := New.of_eq hp12_4
    have z12_4 := hn12_4.size
    replace hE := hE.ext hn12_4.ext
    replace o0_0 := o0_0.ext hn12_4.ext
    replace o0_1 := o0_1.ext hn12_4.ext
    replace o3_4 := o3_4.ext hn12_4.ext
    replace o4_4 := o4_4.ext hn12_4.ext
    have o12_4 := hn12_4.own
    refine Reg.pur rfl rfl rfl rfl (Pur.asg rfl) ?_
    refine Reg.pur rfl rfl rfl rfl (Pur.asg rfl) ?_
    refine Reg.nil ?_
    refine At.ret rfl Tryd.func18 rfl ?_
    exact uniO_one (by rw [hy]; unfold uniQ; simp_all) rfl o12_4 (by omega) hE
  first | (simp only [decide_eq_true_eq, decide_eq_false_iff_not, Bool.not_eq_true', Bool.not_eq_false', ne_eq, Decidable.not_not, Bool.not_eq_true, Bool.not_eq_false] at q75) | (dsimp only at q75) | skip
  refine At.region rfl rfl ?_
  refine Reg.pur rfl rfl rfl rfl (Pur.fld _ fo24_1 rfl) ?_
  refine Reg.lod rfl rfl rfl rfl (Lod.ld sc3 rfl o0_0.blk (hat4 a ha5)) ?_
  refine Reg.pur rfl rfl rfl rfl (Pur.eql rfl rfl) ?_
  refine Reg.pur rfl rfl rfl rfl (Pur.asg rfl) ?_
  refine Reg.nil ?_
  refine At.cond rfl rfl (fun q84 => ?_) (fun q84 => ?_)
  · first | (simp only [decide_eq_true_eq, decide_eq_false_iff_not, Bool.not_eq_true', Bool.not_eq_false', ne_eq, Decidable.not_not, Bool.not_eq_true, Bool.not_eq_false] at q84) | (dsimp only at q84) | skip
    refine At.region rfl rfl ?_
    refine Reg.pur rfl rfl rfl rfl (Pur.fld _ fo24_1 rfl) ?_
    refine Reg.lod rfl rfl rfl rfl (Lod.ld sc3 rfl o0_1.blk (hat4 b hb5)) ?_
    refine Reg.lod rfl rfl rfl rfl (Lod.ldn ag22 rfl o3_4.blk (by first | exact whole rfl | rfl | (simp only [List.drop_succ_cons, List.drop_zero, List.take_succ_cons, List.take_zero]; rfl)) (by first | rfl | (simp [*]; done))) ?_
    refine Reg.op rfl rfl rfl rfl (Does.call rfl (rowBind_ok _ _ _ (subC_len a b))) ?_
    rintro _ H14_3 ⟨rfl, hE14_3⟩
    have z14_3 := hE14_3.lt
    replace hE := hE.ext hE14_3
    replace o0_0 := o0_0.ext hE14_3
    replace o0_1 := o0_1.ext hE14_3
    replace o3_4 := o3_4.ext hE14_3
    replace o4_4 := o4_4.ext hE14_3
    refine Reg.op rfl rfl rfl rfl (Does.bslA ([encB (bR (b.getD 4 0) (subC a b ++ [-1]))]) slA25 rfl rfl rfl rfl rfl rfl) ?_
    rintro _ H14_4 ⟨rfl, hp14_4⟩
    have hn14_4 := New.of_eq hp14_4
    have z14_4 := hn14_4.size
    replace hE := hE.ext hn14_4.ext
    replace o0_0 := o0_0.ext hn14_4.ext
    replace o0_1 := o0_1.ext hn14_4.ext
    replace o3_4 := o3_4.ext hn14_4.ext
    replace o4_4 := o4_4.ext hn14_4.ext
    have o14_4 := hn14_4.own
    refine Reg.pur rfl rfl rfl rfl (Pur.asg rfl) ?_
    refine Reg.pur rfl rfl rfl rfl (Pur.asg rfl) ?_
    refine Reg.nil ?_
    refine At.ret rfl Tryd.func18 rfl ?_
    exact uniO_one (by rw [hy]; unfold uniQ; simp_all) rfl o14_4 (by omega) hE
  first | (simp only [decide_eq_true_eq, decide_eq_false_iff_not, Bool.not_eq_true', Bool.not_eq_false', ne_eq, Decidable.not_not, Bool.not_eq_true, Bool.not_eq_false] at q84) | (dsimp only at q84) | skip
  refine At.region rfl rfl ?_
  refine Reg.pur rfl rfl rfl rfl (Pur.mv rfl) ?_
  refine Reg.pur rfl rfl rfl rfl (Pur.not rfl) ?_
  refine Reg.pur rfl rfl rfl rfl (Pur.asg rfl) ?_
  refine Reg.nil ?_
  refine At.cond rfl rfl (fun q93 => ?_) (fun q93 => ?_)
  · first | (simp only [decide_eq_true_eq, decide_eq_false_iff_not, Bool.not_eq_true', Bool.not_eq_false', ne_eq, Decidable.not_not, Bool.not_eq_true, Bool.not_eq_false] at q93) | (dsimp only at q93) | skip
    refine At.region rfl rfl ?_
    refine Reg.pur rfl rfl rfl rfl (Pur.fld _ fo24_1 rfl) ?_
    refine Reg.lod rfl rfl rfl rfl (Lod.ld sc3 rfl o0_0.blk (hat4 a ha5)) ?_
    refine Reg.lod rfl rfl rfl rfl (Lod.ldn ag22 rfl o4_4.blk (by first | exact whole rfl | rfl | (simp only [List.drop_succ_cons, List.drop_zero, List.take_succ_cons, List.take_zero]; rfl)) (by first | rfl | (simp [*]; done))) ?_
    refine Reg.pur rfl rfl rfl rfl (Pur.fld _ fo24_1 rfl) ?_
    refine Reg.lod rfl rfl rfl rfl (Lod.ld sc3 rfl o0_1.blk (hat4 b hb5)) ?_
    refine Reg.op rfl rfl rfl rfl (Does.call rfl (rowBind_ok _ _ _ (subC_len b a))) ?_
    rintro _ H16_5 ⟨rfl, hE16_5⟩
    have z16_5 := hE16_5.lt
    replace hE := hE.ext hE16_5
    replace o0_0 := o0_0.ext hE16_5
    replace o0_1 := o0_1.ext hE16_5
    replace o3_4 := o3_4.ext hE16_5
    replace o4_4 := o4_4.ext hE16_5
    refine Reg.op rfl rfl rfl rfl (Does.bslA ([encB (bR (a.getD 4 0) (subC b a ++ [b.getD 4 0]))]) slA25 rfl rfl rfl rfl rfl rfl) ?_
    rintro _ H16_6 ⟨rfl, hp16_6⟩
    have hn16_6 := New.of_eq hp16_6
    have z16_6 := hn16_6.size
    replace hE := hE.ext hn16_6.ext
    replace o0_0 := o0_0.ext hn16_6.ext
    replace o0_1 := o0_1.ext hn16_6.ext
    replace o3_4 := o3_4.ext hn16_6.ext
    replace o4_4 := o4_4.ext hn16_6.ext
    have o16_6 := hn16_6.own
    refine Reg.pur rfl rfl rfl rfl (Pur.asg rfl) ?_
    refine Reg.pur rfl rfl rfl rfl (Pur.asg rfl) ?_
    refine Reg.nil ?_
    refine At.ret rfl Tryd.func18 rfl ?_
    exact uniO_one (by rw [hy]; unfold uniQ; simp_all) rfl o16_6 (by omega) hE
  first | (simp only [decide_eq_true_eq, decide_eq_false_iff_not, Bool.not_eq_true', Bool.not_eq_false', ne_eq, Decidable.not_not, Bool.not_eq_true, Bool.not_eq_false] at q93) | (dsimp only at q93) | skip
  refine At.region rfl rfl ?_
  refine Reg.pur rfl rfl rfl rfl (Pur.mv rfl) ?_
  refine Reg.pur rfl rfl rfl rfl (Pur.not rfl) ?_
  refine Reg.pur rfl rfl rfl rfl (Pur.asg rfl) ?_
  refine Reg.nil ?_
  refine At.cond rfl rfl (fun q103 => ?_) (fun q103 => ?_)
  · first | (simp only [decide_eq_true_eq, decide_eq_false_iff_not, Bool.not_eq_true', Bool.not_eq_false', ne_eq, Decidable.not_not, Bool.not_eq_true, Bool.not_eq_false] at q103) | (dsimp only at q103) | skip
    refine At.region rfl rfl ?_
    refine Reg.pur rfl rfl rfl rfl (Pur.fld _ fo24_1 rfl) ?_
    refine Reg.lod rfl rfl rfl rfl (Lod.ld sc3 rfl o0_1.blk (hat4 b hb5)) ?_
    refine Reg.lod rfl rfl rfl rfl (Lod.ldn ag22 rfl o3_4.blk (by first | exact whole rfl | rfl | (simp only [List.drop_succ_cons, List.drop_zero, List.take_succ_cons, List.take_zero]; rfl)) (by first | rfl | (simp [*]; done))) ?_
    refine Reg.pur rfl rfl rfl rfl (Pur.fld _ fo24_1 rfl) ?_
    refine Reg.lod rfl rfl rfl rfl (Lod.ld sc3 rfl o0_0.blk (hat4 a ha5)) ?_
    refine Reg.op rfl rfl rfl rfl (Does.call rfl (rowBind_ok _ _ _ (subC_len a b))) ?_
    rintro _ H18_5 ⟨rfl, hE18_5⟩
    have z18_5 := hE18_5.lt
    replace hE := hE.ext hE18_5
    replace o0_0 := o0_0.ext hE18_5
    replace o0_1 := o0_1.ext hE18_5
    replace o3_4 := o3_4.ext hE18_5
    replace o4_4 := o4_4.ext hE18_5
    refine Reg.op rfl rfl rfl rfl (Does.bslA ([encB (bR (b.getD 4 0) (subC a b ++ [a.getD 4 0]))]) slA25 rfl rfl rfl rfl rfl rfl) ?_
    rintro _ H18_6 ⟨rfl, hp18_6⟩
    have hn18_6 := New.of_eq hp18_6
    have z18_6 := hn18_6.size
    replace hE := hE.ext hn18_6.ext
    replace o0_0 := o0_0.ext hn18_6.ext
    replace o0_1 := o0_1.ext hn18_6.ext
    replace o3_4 := o3_4.ext hn18_6.ext
    replace o4_4 := o4_4.ext hn18_6.ext
    have o18_6 := hn18_6.own
    refine Reg.pur rfl rfl rfl rfl (Pur.asg rfl) ?_
    refine Reg.pur rfl rfl rfl rfl (Pur.asg rfl) ?_
    refine Reg.nil ?_
    refine At.ret rfl Tryd.func18 rfl ?_
    exact uniO_one (by rw [hy]; unfold uniQ; simp_all) rfl o18_6 (by omega) hE
  first | (simp only [decide_eq_true_eq, decide_eq_false_iff_not, Bool.not_eq_true', Bool.not_eq_false', ne_eq, Decidable.not_not, Bool.not_eq_true, Bool.not_eq_false] at q103) | (dsimp only at q103) | skip
  refine At.drawE ((Bks.cons o0_0.blk (Bks.cons o0_1.blk (Bks.cons o3_4.blk (Bks.cons o4_4.blk Bks.nil))))) [] mixed rfl rfl ?_
  refine RegD.tpur (i := 0) rfl rfl rfl rfl (by kernel_rfl) (Pur.fld _ fo24_1 rfl) ?_
  refine RegD.take (i := 1) rfl rfl rfl rfl (by kernel_rfl) (Bks.cons o0_0.blk (Bks.cons o0_1.blk (Bks.cons o3_4.blk (Bks.cons o4_4.blk Bks.nil)))) (fun H hS => Lod.ld sc3 rfl hS.hd (hat4 a ha5)) ?_
  refine RegD.take (i := 2) rfl rfl rfl rfl (by kernel_rfl) (Bks.cons o0_0.blk (Bks.cons o0_1.blk (Bks.cons o3_4.blk (Bks.cons o4_4.blk Bks.nil)))) (fun H hS => Lod.ldn ag22 rfl hS.tl.tl.tl.hd (by first | exact whole rfl | rfl | (simp only [List.drop_succ_cons, List.drop_zero, List.take_succ_cons, List.take_zero]; rfl)) (by first | rfl | (simp [*]; done))) ?_
  refine RegD.tpur (i := 3) rfl rfl rfl rfl (by kernel_rfl) (Pur.mv rfl) ?_
  refine RegD.tpur (i := 5) rfl rfl rfl rfl (by kernel_rfl) (Pur.fld _ fo24_1 rfl) ?_
  refine RegD.take (i := 6) rfl rfl rfl rfl (by kernel_rfl) (Bks.cons o0_0.blk (Bks.cons o0_1.blk (Bks.cons o3_4.blk (Bks.cons o4_4.blk Bks.nil)))) (fun H hS => Lod.ld sc3 rfl hS.tl.hd (hat4 b hb5)) ?_
  refine RegD.take (i := 7) rfl rfl rfl rfl (by kernel_rfl) (Bks.cons o0_0.blk (Bks.cons o0_1.blk (Bks.cons o3_4.blk (Bks.cons o4_4.blk Bks.nil)))) (fun H hS => Lod.ldn ag22 rfl hS.tl.tl.hd (by first | exact whole rfl | rfl | (simp only [List.drop_succ_cons, List.drop_zero, List.take_succ_cons, List.take_zero]; rfl)) (by first | rfl | (simp [*]; done))) ?_
  refine RegD.tpur (i := 8) rfl rfl rfl rfl (by kernel_rfl) (Pur.mv rfl) ?_
  refine RegD.one (i := 4) (by kernel_rfl) rfl rfl rfl rfl (Does.call rfl (rowBind_ok _ _ _ (subC_len b a))) ?_
  rintro _ H19_4 ⟨rfl, hE19_4⟩
  have z19_4 := hE19_4.lt
  replace hE := hE.ext hE19_4
  replace o0_0 := o0_0.ext hE19_4
  replace o0_1 := o0_1.ext hE19_4
  replace o3_4 := o3_4.ext hE19_4
  replace o4_4 := o4_4.ext hE19_4
  refine ⟨fun _ _ => (Bks.cons o0_0.blk (Bks.cons o0_1.blk (Bks.cons o3_4.blk (Bks.cons o4_4.blk Bks.nil)))), ?_⟩
  refine RegD.one (i := 9) (by kernel_rfl) rfl rfl rfl rfl (Does.call rfl (rowBind_ok _ _ _ (subC_len a b))) ?_
  rintro _ H19_9 ⟨rfl, hE19_9⟩
  have z19_9 := hE19_9.lt
  replace hE := hE.ext hE19_9
  replace o0_0 := o0_0.ext hE19_9
  replace o0_1 := o0_1.ext hE19_9
  replace o3_4 := o3_4.ext hE19_9
  replace o4_4 := o4_4.ext hE19_9
  refine ⟨fun _ _ => (Bks.cons o0_0.blk (Bks.cons o0_1.blk (Bks.cons o3_4.blk (Bks.cons o4_4.blk Bks.nil)))), ?_⟩
  refine RegD.one (i := 10) (by kernel_rfl) rfl rfl rfl rfl (Does.bslA ([encB (bR (a.getD 4 0) (subC b a ++ [f])), encB (bR (b.getD 4 0) (subC a b ++ [f]))]) slA25 rfl rfl rfl rfl rfl rfl) ?_
  rintro _ H19_10 ⟨rfl, hp19_10⟩
  have hn19_10 := New.of_eq hp19_10
  have z19_10 := hn19_10.size
  replace hE := hE.ext hn19_10.ext
  replace o0_0 := o0_0.ext hn19_10.ext
  replace o0_1 := o0_1.ext hn19_10.ext
  replace o3_4 := o3_4.ext hn19_10.ext
  replace o4_4 := o4_4.ext hn19_10.ext
  have o19_10 := hn19_10.own
  refine ⟨fun _ _ => (Bks.cons o0_0.blk (Bks.cons o0_1.blk (Bks.cons o3_4.blk (Bks.cons o4_4.blk Bks.nil)))), ?_⟩
  refine RegD.tpur (i := 11) rfl rfl rfl rfl (by kernel_rfl) (Pur.asg rfl) ?_
  refine RegD.tpur (i := 12) rfl rfl rfl rfl (by kernel_rfl) (Pur.asg rfl) ?_
  refine RegD.done (by kernel_rfl) ?_
  refine At.ret rfl Tryd.func18 rfl ?_
  exact uniO_two (by rw [hy]; unfold uniQ; simp_all) rfl rfl o19_10 (by omega) hE

theorem unifyRowsO_ok (a b : List Int) (f : Int) (ha5 : a.length = 5) (hb5 : b.length = 5) (H : Heap) :
    Ret Tryd.prog 19 [.agg (Is a).toArray, .agg (Is b).toArray, I f] H (UniO H (uniR a b f)) := by
  refine Ret.of_at (N := 159) Tryd.call19 Tryd.func19 rfl rfl rfl ?_
  have hE := Ext.refl H
  have z_hE := hE.lt
  refine At.region rfl rfl ?_
  refine Reg.op rfl rfl rfl rfl (Does.box rfl rfl) ?_
  rintro _ H0_0 ⟨rfl, hn0_0⟩
  have z0_0 := hn0_0.size
  replace hE := hE.ext hn0_0.ext
  have o0_0 := hn0_0.own
  refine Reg.op rfl rfl rfl rfl (Does.box rfl rfl) ?_
  rintro _ H0_1 ⟨rfl, hn0_1⟩
  have z0_1 := hn0_1.size
  replace hE := hE.ext hn0_1.ext
  replace o0_0 := o0_0.ext hn0_1.ext
  have o0_1 := hn0_1.own
  refine Reg.pur rfl rfl rfl rfl (Pur.asg rfl) ?_
  refine Reg.pur rfl rfl rfl rfl (Pur.asg rfl) ?_
  refine Reg.nil ?_
  refine At.region rfl rfl ?_
  refine Reg.lod rfl rfl rfl rfl (Lod.ldn ag24 rfl o0_0.blk (whole (by simp [ha5])) (by simp [ha5])) ?_
  refine Reg.op rfl rfl rfl rfl (Does.call rfl (rowMayR_ok a ha5 _)) ?_
  rintro _ H1_1 ⟨rfl, hE1_1⟩
  have z1_1 := hE1_1.lt
  replace hE := hE.ext hE1_1
  replace o0_0 := o0_0.ext hE1_1
  replace o0_1 := o0_1.ext hE1_1
  refine Reg.pur rfl rfl rfl rfl (Pur.not rfl) ?_
  refine Reg.pur rfl rfl rfl rfl (Pur.mv rfl) ?_
  refine Reg.case 17 rfl (fun q17 => ?_) (fun q17 => ?_)
  · first | (simp only [decide_eq_true_eq, decide_eq_false_iff_not, Bool.not_eq_true', Bool.not_eq_false', ne_eq, Decidable.not_not, Bool.not_eq_true, Bool.not_eq_false] at q17) | (dsimp only at q17) | skip
    refine Reg.skip rfl rfl rfl rfl rfl rfl rfl ?_
    refine Reg.skip rfl rfl rfl rfl rfl rfl rfl ?_
    refine Reg.skip rfl rfl rfl rfl rfl rfl rfl ?_
    refine Reg.pur rfl rfl rfl rfl (Pur.pickT rfl rfl) ?_
    refine Reg.pur rfl rfl rfl rfl (Pur.mv rfl) ?_
    refine Reg.skip rfl rfl rfl rfl rfl rfl rfl ?_
    refine Reg.skip rfl rfl rfl rfl rfl rfl rfl ?_
    refine Reg.pur rfl rfl rfl rfl (Pur.pickT rfl rfl) ?_
    refine Reg.pur rfl rfl rfl rfl (Pur.mv rfl) ?_
    refine Reg.skip rfl rfl rfl rfl rfl rfl rfl ?_
    refine Reg.skip rfl rfl rfl rfl rfl rfl rfl ?_
    refine Reg.pur rfl rfl rfl rfl (Pur.pickT rfl rfl) ?_
    refine Reg.pur rfl rfl rfl rfl (Pur.mv rfl) ?_
    refine Reg.skip rfl rfl rfl rfl rfl rfl rfl ?_
    refine Reg.skip rfl rfl rfl rfl rfl rfl rfl ?_
    refine Reg.skip rfl rfl rfl rfl rfl rfl rfl ?_
    refine Reg.skip rfl rfl rfl rfl rfl rfl rfl ?_
    refine Reg.pur rfl rfl rfl rfl (Pur.pickT rfl rfl) ?_
    refine Reg.pur rfl rfl rfl rfl (Pur.mv rfl) ?_
    refine Reg.skip rfl rfl rfl rfl rfl rfl rfl ?_
    refine Reg.skip rfl rfl rfl rfl rfl rfl rfl ?_
    refine Reg.skip rfl rfl rfl rfl rfl rfl rfl ?_
    refine Reg.skip rfl rfl rfl rfl rfl rfl rfl ?_
    refine Reg.pur rfl rfl rfl rfl (Pur.pickT rfl rfl) ?_
    refine Reg.nil ?_
    refine At.condT rfl rfl rfl ?_
    refine At.region rfl rfl ?_
    refine Reg.pur rfl rfl rfl rfl (Pur.asg rfl) ?_
    refine Reg.pur rfl rfl rfl rfl (Pur.asg rfl) ?_
    refine Reg.nil ?_
    refine At.ret rfl Tryd.func19 rfl ?_
    exact uniO_nil (uniR_no (by simp_all; try omega)) hE
  first | (simp only [decide_eq_true_eq, decide_eq_false_iff_not, Bool.not_eq_true', Bool.not_eq_false', ne_eq, Decidable.not_not, Bool.not_eq_true, Bool.not_eq_false] at q17) | (dsimp only at q17) | skip
  refine Reg.glod rfl rfl rfl rfl rfl rfl (Lod.ldn ag24 rfl o0_1.blk (whole (by simp [hb5])) (by simp [hb5])) ?_
  refine Reg.gop rfl rfl rfl rfl rfl rfl (Does.call rfl (rowMayR_ok b hb5 _)) ?_
  rintro _ H1_5 ⟨rfl, hE1_5⟩
  have z1_5 := hE1_5.lt
  replace hE := hE.ext hE1_5
  replace o0_0 := o0_0.ext hE1_5
  replace o0_1 := o0_1.ext hE1_5
  refine Reg.gpur rfl rfl rfl rfl rfl rfl (Pur.not rfl) ?_
  refine Reg.pur rfl rfl rfl rfl (Pur.pickF rfl rfl) ?_
  refine Reg.pur rfl rfl rfl rfl (Pur.mv rfl) ?_
  refine Reg.case 22 rfl (fun q22 => ?_) (fun q22 => ?_)
  · first | (simp only [decide_eq_true_eq, decide_eq_false_iff_not, Bool.not_eq_true', Bool.not_eq_false', ne_eq, Decidable.not_not, Bool.not_eq_true, Bool.not_eq_false] at q22) | (dsimp only at q22) | skip
    refine Reg.skip rfl rfl rfl rfl rfl rfl rfl ?_
    refine Reg.skip rfl rfl rfl rfl rfl rfl rfl ?_
    refine Reg.pur rfl rfl rfl rfl (Pur.pickT rfl rfl) ?_
    refine Reg.pur rfl rfl rfl rfl (Pur.mv rfl) ?_
    refine Reg.skip rfl rfl rfl rfl rfl rfl rfl ?_
    refine Reg.skip rfl rfl rfl rfl rfl rfl rfl ?_
    refine Reg.pur rfl rfl rfl rfl (Pur.pickT rfl rfl) ?_
    refine Reg.pur rfl rfl rfl rfl (Pur.mv rfl) ?_
    refine Reg.skip rfl rfl rfl rfl rfl rfl rfl ?_
    refine Reg.skip rfl rfl rfl rfl rfl rfl rfl ?_
    refine Reg.skip rfl rfl rfl rfl rfl rfl rfl ?_
    refine Reg.skip rfl rfl rfl rfl rfl rfl rfl ?_
    refine Reg.pur rfl rfl rfl rfl (Pur.pickT rfl rfl) ?_
    refine Reg.pur rfl rfl rfl rfl (Pur.mv rfl) ?_
    refine Reg.skip rfl rfl rfl rfl rfl rfl rfl ?_
    refine Reg.skip rfl rfl rfl rfl rfl rfl rfl ?_
    refine Reg.skip rfl rfl rfl rfl rfl rfl rfl ?_
    refine Reg.skip rfl rfl rfl rfl rfl rfl rfl ?_
    refine Reg.pur rfl rfl rfl rfl (Pur.pickT rfl rfl) ?_
    refine Reg.nil ?_
    refine At.condT rfl rfl rfl ?_
    refine At.region rfl rfl ?_
    refine Reg.pur rfl rfl rfl rfl (Pur.asg rfl) ?_
    refine Reg.pur rfl rfl rfl rfl (Pur.asg rfl) ?_
    refine Reg.nil ?_
    refine At.ret rfl Tryd.func19 rfl ?_
    exact uniO_nil (uniR_no (by simp_all; try omega)) hE
  first | (simp only [decide_eq_true_eq, decide_eq_false_iff_not, Bool.not_eq_true', Bool.not_eq_false', ne_eq, Decidable.not_not, Bool.not_eq_true, Bool.not_eq_false] at q22) | (dsimp only at q22) | skip
  refine Reg.gpur rfl rfl rfl rfl rfl rfl (Pur.mv rfl) ?_
  refine Reg.gpur rfl rfl rfl rfl rfl rfl (Pur.lss rfl rfl) ?_
  refine Reg.pur rfl rfl rfl rfl (Pur.pickF rfl rfl) ?_
  refine Reg.pur rfl rfl rfl rfl (Pur.mv rfl) ?_
  refine Reg.case 26 rfl (fun q26 => ?_) (fun q26 => ?_)
  · first | (simp only [decide_eq_true_eq, decide_eq_false_iff_not, Bool.not_eq_true', Bool.not_eq_false', ne_eq, Decidable.not_not, Bool.not_eq_true, Bool.not_eq_false] at q26) | (dsimp only at q26) | skip
    refine Reg.skip rfl rfl rfl rfl rfl rfl rfl ?_
    refine Reg.skip rfl rfl rfl rfl rfl rfl rfl ?_
    refine Reg.pur rfl rfl rfl rfl (Pur.pickT rfl rfl) ?_
    refine Reg.pur rfl rfl rfl rfl (Pur.mv rfl) ?_
    refine Reg.skip rfl rfl rfl rfl rfl rfl rfl ?_
    refine Reg.skip rfl rfl rfl rfl rfl rfl rfl ?_
    refine Reg.skip rfl rfl rfl rfl rfl rfl rfl ?_
    refine Reg.skip rfl rfl rfl rfl rfl rfl rfl ?_
    refine Reg.pur rfl rfl rfl rfl (Pur.pickT rfl rfl) ?_
    refine Reg.pur rfl rfl rfl rfl (Pur.mv rfl) ?_
    refine Reg.skip rfl rfl rfl rfl rfl rfl rfl ?_
    refine Reg.skip rfl rfl rfl rfl rfl rfl rfl ?_
    refine Reg.skip rfl rfl rfl rfl rfl rfl rfl ?_
    refine Reg.skip rfl rfl rfl rfl rfl rfl rfl ?_
    refine Reg.pur rfl rfl rfl rfl (Pur.pickT rfl rfl) ?_
    refine Reg.nil ?_
    refine At.condT rfl rfl rfl ?_
    refine At.region rfl rfl ?_
    refine Reg.pur rfl rfl rfl rfl (Pur.asg rfl) ?_
    refine Reg.pur rfl rfl rfl rfl (Pur.asg rfl) ?_
    refine Reg.nil ?_
    refine At.ret rfl Tryd.func19 rfl ?_
    exact uniO_nil (uniR_no (by simp_all; try omega)) hE
  first | (simp only [decide_eq_true_eq, decide_eq_false_iff_not, Bool.not_eq_true', Bool.not_eq_false', ne_eq, Decidable.not_not, Bool.not_eq_true, Bool.not_eq_false] at q26) | (dsimp only at q26) | skip
  refine Reg.gpur rfl rfl rfl rfl rfl rfl (Pur.mv rfl) ?_
  refine Reg.gpur rfl rfl rfl rfl rfl rfl (Pur.geq rfl rfl) ?_
  refine Reg.pur rfl rfl rfl rfl (Pur.pickF rfl rfl) ?_
  refine Reg.pur rfl rfl rfl rfl (Pur.mv rfl) ?_
  refine Reg.case 30 rfl (fun q30 => ?_) (fun q30 => ?_)
  · first | (simp only [decide_eq_true_eq, decide_eq_false_iff_not, Bool.not_eq_true', Bool.not_eq_false', ne_eq, Decidable.not_not, Bool.not_eq_true, Bool.not_eq_false] at q30) | (dsimp only at q30) | skip
    refine Reg.skip rfl rfl rfl rfl rfl rfl rfl ?_
    refine Reg.skip rfl rfl rfl rfl rfl rfl rfl ?_
    refine Reg.skip rfl rfl rfl rfl rfl rfl rfl ?_
    refine Reg.skip rfl rfl rfl rfl rfl rfl rfl ?_
    refine Reg.pur rfl rfl rfl rfl (Pur.pickT rfl rfl) ?_
    refine Reg.pur rfl rfl rfl rfl (Pur.mv rfl) ?_
    refine Reg.skip rfl rfl rfl rfl rfl rfl rfl ?_
    refine Reg.skip rfl rfl rfl rfl rfl rfl rfl ?_
    refine Reg.skip rfl rfl rfl rfl rfl rfl rfl ?_
    refine Reg.skip rfl rfl rfl rfl rfl rfl rfl ?_
    refine Reg.pur rfl rfl rfl rfl (Pur.pickT rfl rfl) ?_
    refine Reg.nil ?_
    refine At.condT rfl rfl rfl ?_
    refine At.region rfl rfl ?_
    refine Reg.pur rfl rfl rfl rfl (Pur.asg rfl) ?_
    refine Reg.pur rfl rfl rfl rfl (Pur.asg rfl) ?_
    refine Reg.nil ?_
    refine At.ret rfl Tryd.func19 rfl ?_
    exact uniO_nil (uniR_no (by simp_all; try omega)) hE
  first | (simp only [decide_eq_true_eq, decide_eq_false_iff_not, Bool.not_eq_true', Bool.not_eq_false', ne_eq, Decidable.not_not, Bool.not_eq_true, Bool.not_eq_false] at q30) | (dsimp only at q30) | skip
  refine Reg.gpur rfl rfl rfl rfl rfl rfl (Pur.fld _ fo24_1 rfl) ?_
  refine Reg.glod rfl rfl rfl rfl rfl rfl (Lod.ld sc3 rfl o0_0.blk (hat4 a ha5)) ?_
  refine Reg.gpur rfl rfl rfl rfl rfl rfl (Pur.mv rfl) ?_
  refine Reg.gpur rfl rfl rfl rfl rfl rfl (Pur.geq rfl rfl) ?_
  refine Reg.pur rfl rfl rfl rfl (Pur.pickF rfl rfl) ?_
  refine Reg.pur rfl rfl rfl rfl (Pur.mv rfl) ?_
  refine Reg.case 36 rfl (fun q36 => ?_) (fun q36 => ?_)
  · first | (simp only [decide_eq_true_eq, decide_eq_false_iff_not, Bool.not_eq_true', Bool.not_eq_false', ne_eq, Decidable.not_not, Bool.not_eq_true, Bool.not_eq_false] at q36) | (dsimp only at q36) | skip
    refine Reg.skip rfl rfl rfl rfl rfl rfl rfl ?_
    refine Reg.skip rfl rfl rfl rfl rfl rfl rfl ?_
    refine Reg.skip rfl rfl rfl rfl rfl rfl rfl ?_
    refine Reg.skip rfl rfl rfl rfl rfl rfl rfl ?_
    refine Reg.pur rfl rfl rfl rfl (Pur.pickT rfl rfl) ?_
    refine Reg.nil ?_
    refine At.condT rfl rfl rfl ?_
    refine At.region rfl rfl ?_
    refine Reg.pur rfl rfl rfl rfl (Pur.asg rfl) ?_
    refine Reg.pur rfl rfl rfl rfl (Pur.asg rfl) ?_
    refine Reg.nil ?_
    refine At.ret rfl Tryd.func19 rfl ?_
    exact uniO_nil (uniR_no (by simp_all; try omega)) hE
  first | (simp only [decide_eq_true_eq, decide_eq_false_iff_not, Bool.not_eq_true', Bool.not_eq_false', ne_eq, Decidable.not_not, Bool.not_eq_true, Bool.not_eq_false] at q36) | (dsimp only at q36) | skip
  refine Reg.gpur rfl rfl rfl rfl rfl rfl (Pur.fld _ fo24_1 rfl) ?_
  refine Reg.glod rfl rfl rfl rfl rfl rfl (Lod.ld sc3 rfl o0_1.blk (hat4 b hb5)) ?_
  refine Reg.gpur rfl rfl rfl rfl rfl rfl (Pur.mv rfl) ?_
  refine Reg.gpur rfl rfl rfl rfl rfl rfl (Pur.geq rfl rfl) ?_
  refine Reg.pur rfl rfl rfl rfl (Pur.pickF rfl rfl) ?_
  refine Reg.nil ?_
  refine At.cond rfl rfl (fun q41 => ?_) (fun q41 => ?_)
  · first | (simp only [decide_eq_true_eq, decide_eq_false_iff_not, Bool.not_eq_true', Bool.not_eq_false', ne_eq, Decidable.not_not, Bool.not_eq_true, Bool.not_eq_false] at q41) | (dsimp only at q41) | skip
    refine At.region rfl rfl ?_
    refine Reg.pur rfl rfl rfl rfl (Pur.asg rfl) ?_
    refine Reg.pur rfl rfl rfl rfl (Pur.asg rfl) ?_
    refine Reg.nil ?_
    refine At.ret rfl Tryd.func19 rfl ?_
    exact uniO_nil (uniR_no (by simp_all; try omega)) hE
  first | (simp only [decide_eq_true_eq, decide_eq_false_iff_not, Bool.not_eq_true', Bool.not_eq_false', ne_eq, Decidable.not_not, Bool.not_eq_true, Bool.not_eq_false] at q41) | (dsimp only at q41) | skip
  have hra : rowM a = true := q17
  have hrb : rowM b = true := q22
  have hy := uniR_yes (a := a) (b := b) (f := f) ⟨hra, hrb, by omega, by omega, by omega, by omega⟩
  have hta := rowM_t hra
  have htb := rowM_t hrb
  clear q17 q22 q26 q30 q36 q41
  refine At.region rfl rfl ?_
  refine Reg.op rfl rfl rfl rfl (Does.alloc zc22) ?_
  rintro _ H3_0 ⟨rfl, hn3_0⟩
  have z3_0 := hn3_0.size
  replace hE := hE.ext hn3_0.ext
  replace o0_0 := o0_0.ext hn3_0.ext
  replace o0_1 := o0_1.ext hn3_0.ext
  have o3_0 := hn3_0.own
  refine Reg.op rfl rfl rfl rfl (Does.alloc zc22) ?_
  rintro _ H3_1 ⟨rfl, hn3_1⟩
  have z3_1 := hn3_1.size
  replace hE := hE.ext hn3_1.ext
  replace o0_0 := o0_0.ext hn3_1.ext
  replace o0_1 := o0_1.ext hn3_1.ext
  replace o3_0 := o3_0.ext hn3_1.ext
  have o3_1 := hn3_1.own
  refine Reg.nil ?_
  refine At.region rfl rfl ?_
  refine Reg.pur rfl rfl rfl rfl (Pur.asg rfl) ?_
  refine Reg.pur rfl rfl rfl rfl (Pur.asg rfl) ?_
  refine Reg.nil ?_
  refine At.region rfl rfl ?_
  refine Reg.pur rfl rfl rfl rfl (Pur.asg rfl) ?_
  refine Reg.nil ?_
  refine At.loop (σ := Nat) (fun i => [(12, I i), (8, ptr H1_5.size 0), (9, ptr H3_0.size 0), (10, .bool (moreTo a b i)), (11, .bool (moreTo b a i)), (3, ptr H.size 0), (4, ptr H0_0.size 0), (2, I f)]) (fun i H' => i ≤ 4 ∧ Own H' H1_5.size (Is (mixS a b i)) ∧ Own H' H3_0.size (Is (mixS b a i)) ∧ Own H' H.size (Is a) ∧ Own H' H0_0.size (Is b) ∧ Ext H H') (fun i => 4 - i) 0 rfl ⟨rfl, rfl, rfl, rfl, rfl, rfl, rfl, rfl, trivial⟩ ⟨by omega, o3_0, o3_1, o0_0, o0_1, hE⟩ ?_
  have hzz : H.size < H0_0.size ∧ H0_0.size < H1_5.size ∧ H1_5.size < H3_0.size := by omega
  rintro i H6 ⟨hi, op, oq, hA, hB, hE⟩ ih
  have hbb := oq.lt
  have z_hE := hE.lt
  have z_hA := hA.lt
  have z_hB := hB.lt
  have z_op := op.lt
  have z_oq := oq.lt
  refine At.region rfl rfl ?_
  refine Reg.pur rfl rfl rfl rfl (Pur.mv rfl) ?_
  refine Reg.pur rfl rfl rfl rfl (Pur.lss rfl rfl) ?_
  refine Reg.nil ?_
  refine At.cond rfl rfl (fun q43 => ?_) (fun q43 => ?_)
  · first | (simp only [decide_eq_true_eq, decide_eq_false_iff_not, Bool.not_eq_true', Bool.not_eq_false', ne_eq, Decidable.not_not, Bool.not_eq_true, Bool.not_eq_false] at q43) | (dsimp only at q43) | skip
    have hi4 : i < 4 := by omega
    have ha1 := rowM_all hra hi4 ha5
    have hb1 := rowM_all hrb hi4 hb5
    have hbi : (Is b)[0 + 0 + (i : Int).toNat * 1]? = some (I (b.getD i 0)) := by rw [Int.toNat_natCast, show 0 + 0 + i * 1 = i by omega]; exact at_Is (by omega)
    have hai : (Is a)[0 + 0 + (i : Int).toNat * 1]? = some (I (a.getD i 0)) := by rw [Int.toNat_natCast, show 0 + 0 + i * 1 = i by omega]; exact at_Is (by omega)
    refine At.drawE ((Bks.cons hA.blk (Bks.cons hB.blk Bks.nil))) [] mixed rfl rfl ?_
    refine RegD.tpur (i := 0) rfl rfl rfl rfl (by kernel_rfl) (Pur.mv rfl) ?_
    refine RegD.tpur (i := 1) rfl rfl rfl rfl (by kernel_rfl) (Pur.fld _ fo24_0 rfl) ?_
    refine RegD.tpur (i := 2) rfl rfl rfl rfl (by kernel_rfl) (Pur.idxP arr22 rfl rfl (by omega) (by omega)) ?_
    refine RegD.take (i := 3) rfl rfl rfl rfl (by kernel_rfl) (Bks.cons hA.blk (Bks.cons hB.blk Bks.nil)) (fun H hS => Lod.ld sc3 rfl hS.hd hai) ?_
    refine RegD.tpur (i := 4) rfl rfl rfl rfl (by kernel_rfl) (Pur.mv rfl) ?_
    refine RegD.tpur (i := 5) rfl rfl rfl rfl (by kernel_rfl) (Pur.fld _ fo24_0 rfl) ?_
    refine RegD.tpur (i := 6) rfl rfl rfl rfl (by kernel_rfl) (Pur.idxP arr22 rfl rfl (by omega) (by omega)) ?_
    refine RegD.take (i := 7) rfl rfl rfl rfl (by kernel_rfl) (Bks.cons hA.blk (Bks.cons hB.blk Bks.nil)) (fun H hS => Lod.ld sc3 rfl hS.tl.hd hbi) ?_
    refine RegD.tpur (i := 8) rfl rfl rfl rfl (by kernel_rfl) (Pur.min2 rfl rfl) ?_
    refine RegD.tpur (i := 9) rfl rfl rfl rfl (by kernel_rfl) (Pur.asg rfl) ?_
    refine RegD.done (by kernel_rfl) ?_
    refine At.region rfl rfl ?_
    refine Reg.pur rfl rfl rfl rfl (Pur.mv rfl) ?_
    refine Reg.pur rfl rfl rfl rfl (Pur.mv rfl) ?_
    refine Reg.pur rfl rfl rfl rfl (Pur.fld _ fo24_0 rfl) ?_
    refine Reg.pur rfl rfl rfl rfl (Pur.idxP arr22 rfl rfl (by omega) (by omega)) ?_
    refine Reg.lod rfl rfl rfl rfl (Lod.ld sc3 rfl hA.blk hai) ?_
    refine Reg.pur rfl rfl rfl rfl (Pur.mv rfl) ?_
    first | refine Reg.pur rfl rfl rfl rfl (Pur.sub64 rfl rfl (by omega)) ?_ | refine Reg.pur rfl rfl rfl rfl (Pur.sub64 rfl rfl (by assumption)) ?_ | refine Reg.pur rfl rfl rfl rfl (Pur.sub rfl rfl) ?_
    refine Reg.pur rfl rfl rfl rfl (Pur.idxP arr22 rfl rfl (by omega) (by omega)) ?_
    refine Reg.op0 rfl rfl rfl (Does.st sc3 rfl rfl rfl op (by rw [List.length_map, mixS_len]; omega)) ?_
    rintro _ H9_8 hu9_8
    have z9_8 := hu9_8.size
    replace hE := hE.upw hu9_8 (by omega)
    replace hA := hA.upw hu9_8 (by omega)
    replace hB := hB.upw hu9_8 (by omega)
    replace oq := oq.upw hu9_8 (by omega)
    replace op := hu9_8.own
    replace op := op.of (set_mix hi4 sb1_min)
    refine Reg.nil ?_
    refine At.region rfl rfl ?_
    refine Reg.pur rfl rfl rfl rfl (Pur.mv rfl) ?_
    refine Reg.pur rfl rfl rfl rfl (Pur.mv rfl) ?_
    refine Reg.pur rfl rfl rfl rfl (Pur.fld _ fo24_0 rfl) ?_
    refine Reg.pur rfl rfl rfl rfl (Pur.idxP arr22 rfl rfl (by omega) (by omega)) ?_
    refine Reg.lod rfl rfl rfl rfl (Lod.ld sc3 rfl hB.blk hbi) ?_
    refine Reg.pur rfl rfl rfl rfl (Pur.mv rfl) ?_
    first | refine Reg.pur rfl rfl rfl rfl (Pur.sub64 rfl rfl (by omega)) ?_ | refine Reg.pur rfl rfl rfl rfl (Pur.sub64 rfl rfl (by assumption)) ?_ | refine Reg.pur rfl rfl rfl rfl (Pur.sub rfl rfl) ?_
    refine Reg.pur rfl rfl rfl rfl (Pur.idxP arr22 rfl rfl (by omega) (by omega)) ?_
    refine Reg.op0 rfl rfl rfl (Does.st sc3 rfl rfl rfl oq (by rw [List.length_map, mixS_len]; omega)) ?_
    rintro _ H10_8 hu10_8
    have z10_8 := hu10_8.size
    replace hE := hE.upw hu10_8 (by omega)
    replace hA := hA.upw hu10_8 (by omega)
    replace hB := hB.upw hu10_8 (by omega)
    replace op := op.upw hu10_8 (by omega)
    replace oq := hu10_8.own
    replace oq := oq.of (set_mix hi4 (by rw [← sb1_min, Int.min_comm]))
    refine Reg.nil ?_
    refine At.region rfl rfl ?_
    refine Reg.pur rfl rfl rfl rfl (Pur.mv rfl) ?_
    refine Reg.pur rfl rfl rfl rfl (Pur.mv rfl) ?_
    refine Reg.case 72 rfl (fun q72 => ?_) (fun q72 => ?_)
    · first | (simp only [decide_eq_true_eq, decide_eq_false_iff_not, Bool.not_eq_true', Bool.not_eq_false', ne_eq, Decidable.not_not, Bool.not_eq_true, Bool.not_eq_false] at q72) | (dsimp only at q72) | skip
      refine Reg.skip rfl rfl rfl rfl rfl rfl rfl ?_
      refine Reg.skip rfl rfl rfl rfl rfl rfl rfl ?_
      refine Reg.skip rfl rfl rfl rfl rfl rfl rfl ?_
      refine Reg.skip rfl rfl rfl rfl rfl rfl rfl ?_
      refine Reg.pur rfl rfl rfl rfl (Pur.pickT rfl rfl) ?_
      refine Reg.pur rfl rfl rfl rfl (Pur.asg rfl) ?_
      refine Reg.nil ?_
      refine At.region rfl rfl ?_
      refine Reg.pur rfl rfl rfl rfl (Pur.mv rfl) ?_
      refine Reg.pur rfl rfl rfl rfl (Pur.mv rfl) ?_
      refine Reg.case 79 rfl (fun q79 => ?_) (fun q79 => ?_)
      · first | (simp only [decide_eq_true_eq, decide_eq_false_iff_not, Bool.not_eq_true', Bool.not_eq_false', ne_eq, Decidable.not_not, Bool.not_eq_true, Bool.not_eq_false] at q79) | (dsimp only at q79) | skip
        refine Reg.skip rfl rfl rfl rfl rfl rfl rfl ?_
        refine Reg.skip rfl rfl rfl rfl rfl rfl rfl ?_
        refine Reg.skip rfl rfl rfl rfl rfl rfl rfl ?_
        refine Reg.skip rfl rfl rfl rfl rfl rfl rfl ?_
        refine Reg.pur rfl rfl rfl rfl (Pur.pickT rfl rfl) ?_
        refine Reg.pur rfl rfl rfl rfl (Pur.asg rfl) ?_
        refine Reg.nil ?_
        refine At.region rfl rfl ?_
        refine Reg.pur rfl rfl rfl rfl (Pur.mv rfl) ?_
        first | refine Reg.pur rfl rfl rfl rfl (Pur.add64 rfl rfl (by omega)) ?_ | refine Reg.pur rfl rfl rfl rfl (Pur.add64 rfl rfl (by assumption)) ?_ | refine Reg.pur rfl rfl rfl rfl (Pur.add rfl rfl) ?_
        refine Reg.pur rfl rfl rfl rfl (Pur.asg rfl) ?_
        refine Reg.nil ?_
        refine At.via (ih (i + 1) _ ⟨by omega, op, oq, hA, hB, hE⟩ (by omega)) ⟨rfl, rfl, rfl, ?_, ?_, rfl, rfl, rfl, trivial⟩
        · rw [moreTo_succ, ← sb1_pos]; first | exact or_t q72 | exact or_f q72 | (rw [q72]; rfl)
        · rw [moreTo_succ, ← sb1_pos]; first | exact or_t q79 | exact or_f q79 | (rw [q79]; rfl)
      first | (simp only [decide_eq_true_eq, decide_eq_false_iff_not, Bool.not_eq_true', Bool.not_eq_false', ne_eq, Decidable.not_not, Bool.not_eq_true, Bool.not_eq_false] at q79) | (dsimp only at q79) | skip
      refine Reg.gpur rfl rfl rfl rfl rfl rfl (Pur.mv rfl) ?_
      refine Reg.gpur rfl rfl rfl rfl rfl rfl (Pur.idxP arr22 rfl rfl (by omega) (by omega)) ?_
      refine Reg.glod rfl rfl rfl rfl rfl rfl (Lod.ld sc3 rfl oq.blk (mix_at hi4)) ?_
      refine Reg.gpur rfl rfl rfl rfl rfl rfl (Pur.gtr rfl rfl) ?_
      refine Reg.pur rfl rfl rfl rfl (Pur.pickF rfl rfl) ?_
      refine Reg.pur rfl rfl rfl rfl (Pur.asg rfl) ?_
      refine Reg.nil ?_
      refine At.region rfl rfl ?_
      refine Reg.pur rfl rfl rfl rfl (Pur.mv rfl) ?_
      first | refine Reg.pur rfl rfl rfl rfl (Pur.add64 rfl rfl (by omega)) ?_ | refine Reg.pur rfl rfl rfl rfl (Pur.add64 rfl rfl (by assumption)) ?_ | refine Reg.pur rfl rfl rfl rfl (Pur.add rfl rfl) ?_
      refine Reg.pur rfl rfl rfl rfl (Pur.asg rfl) ?_
      refine Reg.nil ?_
      refine At.via (ih (i + 1) _ ⟨by omega, op, oq, hA, hB, hE⟩ (by omega)) ⟨rfl, rfl, rfl, ?_, ?_, rfl, rfl, rfl, trivial⟩
      · rw [moreTo_succ, ← sb1_pos]; first | exact or_t q72 | exact or_f q72 | (rw [q72]; rfl)
      · rw [moreTo_succ, ← sb1_pos]; first | exact or_t q79 | exact or_f q79 | (rw [q79]; rfl)
    first | (simp only [decide_eq_true_eq, decide_eq_false_iff_not, Bool.not_eq_true', Bool.not_eq_false', ne_eq, Decidable.not_not, Bool.not_eq_true, Bool.not_eq_false] at q72) | (dsimp only at q72) | skip
    refine Reg.gpur rfl rfl rfl rfl rfl rfl (Pur.mv rfl) ?_
    refine Reg.gpur rfl rfl rfl rfl rfl rfl (Pur.idxP arr22 rfl rfl (by omega) (by omega)) ?_
    refine Reg.glod rfl rfl rfl rfl rfl rfl (Lod.ld sc3 rfl op.blk (mix_at hi4)) ?_
    refine Reg.gpur rfl rfl rfl rfl rfl rfl (Pur.gtr rfl rfl) ?_
    refine Reg.pur rfl rfl rfl rfl (Pur.pickF rfl rfl) ?_
    refine Reg.pur rfl rfl rfl rfl (Pur.asg rfl) ?_
    refine Reg.nil ?_
    refine At.region rfl rfl ?_
    refine Reg.pur rfl rfl rfl rfl (Pur.mv rfl) ?_
    refine Reg.pur rfl rfl rfl rfl (Pur.mv rfl) ?_
    refine Reg.case 79 rfl (fun q79 => ?_) (fun q79 => ?_)
    · first | (simp only [decide_eq_true_eq, decide_eq_false_iff_not, Bool.not_eq_true', Bool.not_eq_false', ne_eq, Decidable.not_not, Bool.not_eq_true, Bool.not_eq_false] at q79) | (dsimp only at q79) | skip
      refine Reg.skip rfl rfl rfl rfl rfl rfl rfl ?_
      refine Reg.skip rfl rfl rfl rfl rfl rfl rfl ?_
      refine Reg.skip rfl rfl rfl rfl rfl rfl rfl ?_
      refine Reg.skip rfl rfl rfl rfl rfl rfl rfl ?_
      refine Reg.pur rfl rfl rfl rfl (Pur.pickT rfl rfl) ?_
      refine Reg.pur rfl rfl rfl rfl (Pur.asg rfl) ?_
      refine Reg.nil ?_
      refine At.region rfl rfl ?_
      refine Reg.pur rfl rfl rfl rfl (Pur.mv rfl) ?_
      first | refine Reg.pur rfl rfl rfl rfl (Pur.add64 rfl rfl (by omega)) ?_ | refine Reg.pur rfl rfl rfl rfl (Pur.add64 rfl rfl (by assumption)) ?_ | refine Reg.pur rfl rfl rfl rfl (Pur.add rfl rfl) ?_
      refine Reg.pur rfl rfl rfl rfl (Pur.asg rfl) ?_
      refine Reg.nil ?_
      refine At.via (ih (i + 1) _ ⟨by omega, op, oq, hA, hB, hE⟩ (by omega)) ⟨rfl, rfl, rfl, ?_, ?_, rfl, rfl, rfl, trivial⟩
      · rw [moreTo_succ, ← sb1_pos]; first | exact or_t q72 | exact or_f q72 | (rw [q72]; rfl)
      · rw [moreTo_succ, ← sb1_pos]; first | exact or_t q79 | exact or_f q79 | (rw [q79]; rfl)
    first | (simp only [decide_eq_true_eq, decide_eq_false_iff_not, Bool.not_eq_true', Bool.not_eq_false', ne_eq, Decidable.not_not, Bool.not_eq_true, Bool.not_eq_false] at q79) | (dsimp only at q79) | skip
    refine Reg.gpur rfl rfl rfl rfl rfl rfl (Pur.mv rfl) ?_
    refine Reg.gpur rfl rfl rfl rfl rfl rfl (Pur.idxP arr22 rfl rfl (by omega) (by omega)) ?_
    refine Reg.glod rfl rfl rfl rfl rfl rfl (Lod.ld sc3 rfl oq.blk (mix_at hi4)) ?_
    refine Reg.gpur rfl rfl rfl rfl rfl rfl (Pur.gtr rfl rfl) ?_
    refine Reg.pur rfl rfl rfl rfl (Pur.pickF rfl rfl) ?_
    refine Reg.pur rfl rfl rfl rfl (Pur.asg rfl) ?_
    refine Reg.nil ?_
    refine At.region rfl rfl ?_
    refine Reg.pur rfl rfl rfl rfl (Pur.mv rfl) ?_
    first | refine Reg.pur rfl rfl rfl rfl (Pur.add64 rfl rfl (by omega)) ?_ | refine Reg.pur rfl rfl rfl rfl (Pur.add64 rfl rfl (by assumption)) ?_ | refine Reg.pur rfl rfl rfl rfl (Pur.add rfl rfl) ?_
    refine Reg.pur rfl rfl rfl rfl (Pur.asg rfl) ?_
    refine Reg.nil ?_
    refine At.via (ih (i + 1) _ ⟨by omega, op, oq, hA, hB, hE⟩ (by omega)) ⟨rfl, rfl, rfl, ?_, ?_, rfl, rfl, rfl, trivial⟩
    · rw [moreTo_succ, ← sb1_pos]; first | exact or_t q72 | exact or_f q72 | (rw [q72]; rfl)
    · rw [moreTo_succ, ← sb1_pos]; first | exact or_t q79 | exact or_f q79 | (rw [q79]; rfl)
  first | (simp only [decide_eq_true_eq, decide_eq_false_iff_not, Bool.not_eq_true', Bool.not_eq_false', ne_eq, Decidable.not_not, Bool.not_eq_true, Bool.not_eq_false] at q43) | (dsimp only at q43) | skip
  obtain rfl : i = 4 := by omega
  clear ih
  refine At.region rfl rfl ?_
  refine Reg.pur rfl rfl rfl rfl (Pur.fld _ fo24_1 rfl) ?_
  refine Reg.lod rfl rfl rfl rfl (Lod.ld sc3 rfl hA.blk (hat4 a ha5)) ?_
  refine Reg.pur rfl rfl rfl rfl (Pur.fld _ fo24_1 rfl) ?_
  refine Reg.lod rfl rfl rfl rfl (Lod.ld sc3 rfl hB.blk (hat4 b hb5)) ?_
  refine Reg.pur rfl rfl rfl rfl (Pur.eql rfl rfl) ?_
  refine Reg.pur rfl rfl rfl rfl (Pur.asg rfl) ?_
  refine Reg.nil ?_
  refine At.cond rfl rfl (fun q85 => ?_) (fun q85 => ?_)
  · first | (simp only [decide_eq_true_eq, decide_eq_false_iff_not, Bool.not_eq_true', Bool.not_eq_false', ne_eq, Decidable.not_not, Bool.not_eq_true, Bool.not_eq_false] at q85) | (dsimp only at q85) | skip
    refine At.region rfl rfl ?_
    refine Reg.pur rfl rfl rfl rfl (Pur.mv rfl) ?_
    refine Reg.pur rfl rfl rfl rfl (Pur.mv rfl) ?_
    refine Reg.case 92 rfl (fun q92 => ?_) (fun q92 => ?_)
    · first | (simp only [decide_eq_true_eq, decide_eq_false_iff_not, Bool.not_eq_true', Bool.not_eq_false', ne_eq, Decidable.not_not, Bool.not_eq_true, Bool.not_eq_false] at q92) | (dsimp only at q92) | skip
      refine Reg.skip rfl rfl rfl rfl rfl rfl rfl ?_
      refine Reg.pur rfl rfl rfl rfl (Pur.pickT rfl rfl) ?_
      refine Reg.nil ?_
      refine At.condT rfl rfl rfl ?_
      refine At.region rfl rfl ?_
      refine Reg.pur rfl rfl rfl rfl (Pur.asg rfl) ?_
      refine Reg.pur rfl rfl rfl rfl (Pur.asg rfl) ?_
      refine Reg.nil ?_
      refine At.ret rfl Tryd.func19 rfl ?_
      exact uniO_nil (by rw [hy]; unfold uniQ; simp_all [moreC]) hE
    first | (simp only [decide_eq_true_eq, decide_eq_false_iff_not, Bool.not_eq_true', Bool.not_eq_false', ne_eq, Decidable.not_not, Bool.not_eq_true, Bool.not_eq_false] at q92) | (dsimp only at q92) | skip
    refine Reg.gpur rfl rfl rfl rfl rfl rfl (Pur.mv rfl) ?_
    refine Reg.pur rfl rfl rfl rfl (Pur.pickF rfl rfl) ?_
    refine Reg.nil ?_
    refine At.cond rfl rfl (fun q94 => ?_) (fun q94 => ?_)
    · first | (simp only [decide_eq_true_eq, decide_eq_false_iff_not, Bool.not_eq_true', Bool.not_eq_false', ne_eq, Decidable.not_not, Bool.not_eq_true, Bool.not_eq_false] at q94) | (dsimp only at q94) | skip
      refine At.region rfl rfl ?_
      refine Reg.pur rfl rfl rfl rfl (Pur.asg rfl) ?_
      refine Reg.pur rfl rfl rfl rfl (Pur.asg rfl) ?_
      refine Reg.nil ?_
      refine At.ret rfl Tryd.func19 rfl ?_
      exact uniO_nil (by rw [hy]; unfold uniQ; simp_all [moreC]) hE
    first | (simp only [decide_eq_true_eq, decide_eq_false_iff_not, Bool.not_eq_true', Bool.not_eq_false', ne_eq, Decidable.not_not, Bool.not_eq_true, Bool.not_eq_false] at q94) | (dsimp only at q94) | skip
    refine At.region rfl rfl ?_
    refine Reg.pur rfl rfl rfl rfl (Pur.asg rfl) ?_
    refine Reg.pur rfl rfl rfl rfl (Pur.asg rfl) ?_
    refine Reg.nil ?_
    refine At.ret rfl Tryd.func19 rfl ?_
    exact uniO_nil (by rw [hy]; unfold uniQ; simp_all [moreC]) hE
  first | (simp only [decide_eq_true_eq, decide_eq_false_iff_not, Bool.not_eq_true', Bool.not_eq_false', ne_eq, Decidable.not_not, Bool.not_eq_true, Bool.not_eq_false] at q85) | (dsimp only at q85) | skip
  refine At.region rfl rfl ?_
  refine Reg.pur rfl rfl rfl rfl (Pur.mv rfl) ?_
  refine Reg.pur rfl rfl rfl rfl (Pur.mv rfl) ?_
  refine Reg.case 97 rfl (fun q97 => ?_) (fun q97 => ?_)
  · first | (simp only [decide_eq_true_eq, decide_eq_false_iff_not, Bool.not_eq_true', Bool.not_eq_false', ne_eq, Decidable.not_not, Bool.not_eq_true, Bool.not_eq_false] at q97) | (dsimp only at q97) | skip
    refine Reg.gpur rfl rfl rfl rfl rfl rfl (Pur.fld _ fo24_1 rfl) ?_
    refine Reg.glod rfl rfl rfl rfl rfl rfl (Lod.ld sc3 rfl hB.blk (hat4 b hb5)) ?_
    refine Reg.gpur rfl rfl rfl rfl rfl rfl (Pur.lss rfl rfl) ?_
    refine Reg.pur rfl rfl rfl rfl (Pur.pickT rfl rfl) ?_
    refine Reg.pur rfl rfl rfl rfl (Pur.mv rfl) ?_
    refine Reg.case 102 rfl (fun q102 => ?_) (fun q102 => ?_)
    · first | (simp only [decide_eq_true_eq, decide_eq_false_iff_not, Bool.not_eq_true', Bool.not_eq_false', ne_eq, Decidable.not_not, Bool.not_eq_true, Bool.not_eq_false] at q102) | (dsimp only at q102) | skip
      refine Reg.skip rfl rfl rfl rfl rfl rfl rfl ?_
      refine Reg.skip rfl rfl rfl rfl rfl rfl rfl ?_
      refine Reg.skipU rfl rfl rfl rfl rfl rfl ?_
      refine Reg.skipU rfl rfl rfl rfl rfl rfl ?_
      refine Reg.skipU rfl rfl rfl rfl rfl rfl ?_
      refine Reg.skip rfl rfl rfl rfl rfl rfl rfl ?_
      refine Reg.pur rfl rfl rfl rfl (Pur.pickT rfl rfl) ?_
      refine Reg.pur rfl rfl rfl rfl (Pur.asg rfl) ?_
      refine Reg.nil ?_
      refine At.condT rfl rfl rfl ?_
      refine At.region rfl rfl ?_
      refine Reg.pur rfl rfl rfl rfl (Pur.asg rfl) ?_
      refine Reg.pur rfl rfl rfl rfl (Pur.asg rfl) ?_
      refine Reg.nil ?_
      refine At.ret rfl Tryd.func19 rfl ?_
      exact uniO_nil (by rw [hy]; unfold uniQ moreC; rw [if_neg (by assumption), if_pos (by simp_all; try omega)]) hE
    first | (simp only [decide_eq_true_eq, decide_eq_false_iff_not, Bool.not_eq_true', Bool.not_eq_false', ne_eq, Decidable.not_not, Bool.not_eq_true, Bool.not_eq_false] at q102) | (dsimp only at q102) | skip
    refine Reg.gpur rfl rfl rfl rfl rfl rfl (Pur.mv rfl) ?_
    refine Reg.gpur rfl rfl rfl rfl rfl rfl (Pur.mv rfl) ?_
    refine Reg.case 104 rfl (fun q104 => ?_) (fun q104 => ?_)
    · first | (simp only [decide_eq_true_eq, decide_eq_false_iff_not, Bool.not_eq_true', Bool.not_eq_false', ne_eq, Decidable.not_not, Bool.not_eq_true, Bool.not_eq_false] at q104) | (dsimp only at q104) | skip
      refine Reg.gpur rfl rfl rfl rfl rfl rfl (Pur.fld _ fo24_1 rfl) ?_
      refine Reg.glod rfl rfl rfl rfl rfl rfl (Lod.ld sc3 rfl hA.blk (hat4 a ha5)) ?_
      refine Reg.gpur rfl rfl rfl rfl rfl rfl (Pur.lss rfl rfl) ?_
      refine Reg.gpur rfl rfl rfl rfl rfl rfl (Pur.pickT rfl rfl) ?_
      refine Reg.pur rfl rfl rfl rfl (Pur.pickF rfl rfl) ?_
      refine Reg.pur rfl rfl rfl rfl (Pur.asg rfl) ?_
      refine Reg.nil ?_
      refine At.cond rfl rfl (fun q95 => ?_) (fun q95 => ?_)
      · first | (simp only [decide_eq_true_eq, decide_eq_false_iff_not, Bool.not_eq_true', Bool.not_eq_false', ne_eq, Decidable.not_not, Bool.not_eq_true, Bool.not_eq_false] at q95) | (dsimp only at q95) | skip
        refine At.region rfl rfl ?_
        refine Reg.pur rfl rfl rfl rfl (Pur.asg rfl) ?_
        refine Reg.pur rfl rfl rfl rfl (Pur.asg rfl) ?_
        refine Reg.nil ?_
        refine At.ret rfl Tryd.func19 rfl ?_
        exact uniO_nil (by rw [hy]; unfold uniQ moreC; rw [if_neg (by assumption), if_pos (by simp_all; try omega)]) hE
      first | (simp only [decide_eq_true_eq, decide_eq_false_iff_not, Bool.not_eq_true', Bool.not_eq_false', ne_eq, Decidable.not_not, Bool.not_eq_true, Bool.not_eq_false] at q95) | (dsimp only at q95) | skip
      refine At.region rfl rfl ?_
      refine Reg.pur rfl rfl rfl rfl (Pur.fld _ fo24_1 rfl) ?_
      refine Reg.lod rfl rfl rfl rfl (Lod.ld sc3 rfl hB.blk (hat4 b hb5)) ?_
      refine Reg.pur rfl rfl rfl rfl (Pur.lss rfl rfl) ?_
      refine Reg.pur rfl rfl rfl rfl (Pur.asg rfl) ?_
      refine Reg.nil ?_
      refine At.cond rfl rfl (fun q110 => ?_) (fun q110 => ?_)
      · first | (simp only [decide_eq_true_eq, decide_eq_false_iff_not, Bool.not_eq_true', Bool.not_eq_false', ne_eq, Decidable.not_not, Bool.not_eq_true, Bool.not_eq_false] at q110) | (dsimp only at q110) | skip
        refine At.region rfl rfl ?_
        refine Reg.pur rfl rfl rfl rfl (Pur.fld _ fo24_1 rfl) ?_
        refine Reg.lod rfl rfl rfl rfl (Lod.ld sc3 rfl hA.blk (hat4 a ha5)) ?_
        refine Reg.lod rfl rfl rfl rfl (Lod.ldn ag22 rfl oq.blk (whole rfl) rfl) ?_
        refine Reg.op rfl rfl rfl rfl (Does.call rfl (rowBindR_ok _ _ _ (subC_len b a))) ?_
        rintro _ H20_3 ⟨rfl, hE20_3⟩
        have z20_3 := hE20_3.lt
        replace hE := hE.ext hE20_3
        replace hA := hA.ext hE20_3
        replace hB := hB.ext hE20_3
        replace op := op.ext hE20_3
        replace oq := oq.ext hE20_3
        refine Reg.op rfl rfl rfl rfl (Does.bslA ([encB (bR (a.getD 4 0) (subC b a ++ [-1]))]) slA25 rfl rfl rfl rfl rfl rfl) ?_
        rintro _ H20_4 ⟨rfl, hp20_4⟩
        have hn20_4 := New.of_eq hp20_4
        have z20_4 := hn20_4.size
        replace hE := hE.ext hn20_4.ext
        replace hA := hA.ext hn20_4.ext
        replace hB := hB.ext hn20_4.ext
        replace op := op.ext hn20_4.ext
        replace oq := oq.ext hn20_4.ext
        have o20_4 := hn20_4.own
        refine Reg.pur rfl rfl rfl rfl (Pur.asg rfl) ?_
        refine Reg.pur rfl rfl rfl rfl (Pur.asg rfl) ?_
        refine Reg.nil ?_
        refine At.ret rfl Tryd.func19 rfl ?_
        exact uniO_one (by have h1 : b.getD 4 0 = -1 := (by omega); rw [hy]; unfold uniQ moreC; simp_all; try omega) rfl o20_4 (by omega) hE
      first | (simp only [decide_eq_true_eq, decide_eq_false_iff_not, Bool.not_eq_true', Bool.not_eq_false', ne_eq, Decidable.not_not, Bool.not_eq_true, Bool.not_eq_false] at q110) | (dsimp only at q110) | skip
      refine At.region rfl rfl ?_
      refine Reg.pur rfl rfl rfl rfl (Pur.fld _ fo24_1 rfl) ?_
      refine Reg.lod rfl rfl rfl rfl (Lod.ld sc3 rfl hA.blk (hat4 a ha5)) ?_
      refine Reg.pur rfl rfl rfl rfl (Pur.lss rfl rfl) ?_
      refine Reg.pur rfl rfl rfl rfl (Pur.asg rfl) ?_
      refine Reg.nil ?_
      refine At.cond rfl rfl (fun q119 => ?_) (fun q119 => ?_)
      · first | (simp only [decide_eq_true_eq, decide_eq_false_iff_not, Bool.not_eq_true', Bool.not_eq_false', ne_eq, Decidable.not_not, Bool.not_eq_true, Bool.not_eq_false] at q119) | (dsimp only at q119) | skip
        refine At.region rfl rfl ?_
        refine Reg.pur rfl rfl rfl rfl (Pur.fld _ fo24_1 rfl) ?_
        refine Reg.lod rfl rfl rfl rfl (Lod.ld sc3 rfl hB.blk (hat4 b hb5)) ?_
        refine Reg.lod rfl rfl rfl rfl (Lod.ldn ag22 rfl op.blk (whole rfl) rfl) ?_
        refine Reg.op rfl rfl rfl rfl (Does.call rfl (rowBindR_ok _ _ _ (subC_len a b))) ?_
        rintro _ H22_3 ⟨rfl, hE22_3⟩
        have z22_3 := hE22_3.lt
        replace hE := hE.ext hE22_3
        replace hA := hA.ext hE22_3
        replace hB := hB.ext hE22_3
        replace op := op.ext hE22_3
        replace oq := oq.ext hE22_3
        refine Reg.op rfl rfl rfl rfl (Does.bslA ([encB (bR (b.getD 4 0) (subC a b ++ [-1]))]) slA25 rfl rfl rfl rfl rfl rfl) ?_
        rintro _ H22_4 ⟨rfl, hp22_4⟩
        have hn22_4 := New.of_eq hp22_4
        have z22_4 := hn22_4.size
        replace hE := hE.ext hn22_4.ext
        replace hA := hA.ext hn22_4.ext
        replace hB := hB.ext hn22_4.ext
        replace op := op.ext hn22_4.ext
        replace oq := oq.ext hn22_4.ext
        have o22_4 := hn22_4.own
        refine Reg.pur rfl rfl rfl rfl (Pur.asg rfl) ?_
        refine Reg.pur rfl rfl rfl rfl (Pur.asg rfl) ?_
        refine Reg.nil ?_
        refine At.ret rfl Tryd.func19 rfl ?_
        exact uniO_one (by have h1 : a.getD 4 0 = -1 := (by omega); rw [hy]; unfold uniQ moreC; simp_all; try omega) rfl o22_4 (by omega) hE
      first | (simp only [decide_eq_true_eq, decide_eq_false_iff_not, Bool.not_eq_true', Bool.not_eq_false', ne_eq, Decidable.not_not, Bool.not_eq_true, Bool.not_eq_false] at q119) | (dsimp only at q119) | skip
      refine At.region rfl rfl ?_
      refine Reg.pur rfl rfl rfl rfl (Pur.mv rfl) ?_
      refine Reg.pur rfl rfl rfl rfl (Pur.not rfl) ?_
      refine Reg.pur rfl rfl rfl rfl (Pur.asg rfl) ?_
      refine Reg.nil ?_
      refine At.cond rfl rfl (fun q128 => ?_) (fun q128 => ?_)
      · first | (simp only [decide_eq_true_eq, decide_eq_false_iff_not, Bool.not_eq_true', Bool.not_eq_false', ne_eq, Decidable.not_not, Bool.not_eq_true, Bool.not_eq_false] at q128) | (dsimp only at q128) | skip
        refine At.region rfl rfl ?_
        refine Reg.pur rfl rfl rfl rfl (Pur.fld _ fo24_1 rfl) ?_
        refine Reg.lod rfl rfl rfl rfl (Lod.ld sc3 rfl hA.blk (hat4 a ha5)) ?_
        refine Reg.lod rfl rfl rfl rfl (Lod.ldn ag22 rfl oq.blk (whole rfl) rfl) ?_
        refine Reg.pur rfl rfl rfl rfl (Pur.fld _ fo24_1 rfl) ?_
        refine Reg.lod rfl rfl rfl rfl (Lod.ld sc3 rfl hB.blk (hat4 b hb5)) ?_
        refine Reg.op rfl rfl rfl rfl (Does.call rfl (rowBindR_ok _ _ _ (subC_len b a))) ?_
        rintro _ H24_5 ⟨rfl, hE24_5⟩
        have z24_5 := hE24_5.lt
        replace hE := hE.ext hE24_5
        replace hA := hA.ext hE24_5
        replace hB := hB.ext hE24_5
        replace op := op.ext hE24_5
        replace oq := oq.ext hE24_5
        refine Reg.op rfl rfl rfl rfl (Does.bslA ([encB (bR (a.getD 4 0) (subC b a ++ [b.getD 4 0]))]) slA25 rfl rfl rfl rfl rfl rfl) ?_
        rintro _ H24_6 ⟨rfl, hp24_6⟩
        have hn24_6 := New.of_eq hp24_6
        have z24_6 := hn24_6.size
        replace hE := hE.ext hn24_6.ext
        replace hA := hA.ext hn24_6.ext
        replace hB := hB.ext hn24_6.ext
        replace op := op.ext hn24_6.ext
        replace oq := oq.ext hn24_6.ext
        have o24_6 := hn24_6.own
        refine Reg.pur rfl rfl rfl rfl (Pur.asg rfl) ?_
        refine Reg.pur rfl rfl rfl rfl (Pur.asg rfl) ?_
        refine Reg.nil ?_
        refine At.ret rfl Tryd.func19 rfl ?_
        exact uniO_one (by have h1 : a.getD 4 0 ≠ -1 := (by omega); have h2 : b.getD 4 0 ≠ -1 := (by omega); rw [hy]; unfold uniQ moreC; simp_all) rfl o24_6 (by omega) hE
      first | (simp only [decide_eq_true_eq, decide_eq_false_iff_not, Bool.not_eq_true', Bool.not_eq_false', ne_eq, Decidable.not_not, Bool.not_eq_true, Bool.not_eq_false] at q128) | (dsimp only at q128) | skip
      refine At.region rfl rfl ?_
      refine Reg.pur rfl rfl rfl rfl (Pur.mv rfl) ?_
      refine Reg.pur rfl rfl rfl rfl (Pur.not rfl) ?_
      refine Reg.pur rfl rfl rfl rfl (Pur.asg rfl) ?_
      refine Reg.nil ?_
      refine At.cond rfl rfl (fun q138 => ?_) (fun q138 => ?_)
      · first | (simp only [decide_eq_true_eq, decide_eq_false_iff_not, Bool.not_eq_true', Bool.not_eq_false', ne_eq, Decidable.not_not, Bool.not_eq_true, Bool.not_eq_false] at q138) | (dsimp only at q138) | skip
        refine At.region rfl rfl ?_
        refine Reg.pur rfl rfl rfl rfl (Pur.fld _ fo24_1 rfl) ?_
        refine Reg.lod rfl rfl rfl rfl (Lod.ld sc3 rfl hB.blk (hat4 b hb5)) ?_
        refine Reg.lod rfl rfl rfl rfl (Lod.ldn ag22 rfl op.blk (whole rfl) rfl) ?_
        refine Reg.pur rfl rfl rfl rfl (Pur.fld _ fo24_1 rfl) ?_
        refine Reg.lod rfl rfl rfl rfl (Lod.ld sc3 rfl hA.blk (hat4 a ha5)) ?_
        refine Reg.op rfl rfl rfl rfl (Does.call rfl (rowBindR_ok _ _ _ (subC_len a b))) ?_
        rintro _ H26_5 ⟨rfl, hE26_5⟩
        have z26_5 := hE26_5.lt
        replace hE := hE.ext hE26_5
        replace hA := hA.ext hE26_5
        replace hB := hB.ext hE26_5
        replace op := op.ext hE26_5
        replace oq := oq.ext hE26_5
        refine Reg.op rfl rfl rfl rfl (Does.bslA ([encB (bR (b.getD 4 0) (subC a b ++ [a.getD 4 0]))]) slA25 rfl rfl rfl rfl rfl rfl) ?_
        rintro _ H26_6 ⟨rfl, hp26_6⟩
        have hn26_6 := New.of_eq hp26_6
        have z26_6 := hn26_6.size
        replace hE := hE.ext hn26_6.ext
        replace hA := hA.ext hn26_6.ext
        replace hB := hB.ext hn26_6.ext
        replace op := op.ext hn26_6.ext
        replace oq := oq.ext hn26_6.ext
        have o26_6 := hn26_6.own
        refine Reg.pur rfl rfl rfl rfl (Pur.asg rfl) ?_
        refine Reg.pur rfl rfl rfl rfl (Pur.asg rfl) ?_
        refine Reg.nil ?_
        refine At.ret rfl Tryd.func19 rfl ?_
        exact uniO_one (by have h1 : a.getD 4 0 ≠ -1 := (by omega); have h2 : b.getD 4 0 ≠ -1 := (by omega); rw [hy]; unfold uniQ moreC; simp_all) rfl o26_6 (by omega) hE
      first | (simp only [decide_eq_true_eq, decide_eq_false_iff_not, Bool.not_eq_true', Bool.not_eq_false', ne_eq, Decidable.not_not, Bool.not_eq_true, Bool.not_eq_false] at q138) | (dsimp only at q138) | skip
      refine At.drawE ((Bks.cons hA.blk (Bks.cons hB.blk (Bks.cons op.blk (Bks.cons oq.blk Bks.nil))))) [] mixed rfl rfl ?_
      refine RegD.tpur (i := 0) rfl rfl rfl rfl (by kernel_rfl) (Pur.fld _ fo24_1 rfl) ?_
      refine RegD.take (i := 1) rfl rfl rfl rfl (by kernel_rfl) (Bks.cons hA.blk (Bks.cons hB.blk (Bks.cons op.blk (Bks.cons oq.blk Bks.nil)))) (fun H hS => Lod.ld sc3 rfl hS.hd (hat4 a ha5)) ?_
      refine RegD.take (i := 2) rfl rfl rfl rfl (by kernel_rfl) (Bks.cons hA.blk (Bks.cons hB.blk (Bks.cons op.blk (Bks.cons oq.blk Bks.nil)))) (fun H hS => Lod.ldn ag22 rfl hS.tl.tl.tl.hd (whole rfl) rfl) ?_
      refine RegD.tpur (i := 3) rfl rfl rfl rfl (by kernel_rfl) (Pur.mv rfl) ?_
      refine RegD.tpur (i := 5) rfl rfl rfl rfl (by kernel_rfl) (Pur.fld _ fo24_1 rfl) ?_
      refine RegD.take (i := 6) rfl rfl rfl rfl (by kernel_rfl) (Bks.cons hA.blk (Bks.cons hB.blk (Bks.cons op.blk (Bks.cons oq.blk Bks.nil)))) (fun H hS => Lod.ld sc3 rfl hS.tl.hd (hat4 b hb5)) ?_
      refine RegD.take (i := 7) rfl rfl rfl rfl (by kernel_rfl) (Bks.cons hA.blk (Bks.cons hB.blk (Bks.cons op.blk (Bks.cons oq.blk Bks.nil)))) (fun H hS => Lod.ldn ag22 rfl hS.tl.tl.hd (whole rfl) rfl) ?_
      refine RegD.tpur (i := 8) rfl rfl rfl rfl (by kernel_rfl) (Pur.mv rfl) ?_
      refine RegD.one (i := 4) (by kernel_rfl) rfl rfl rfl rfl (Does.call rfl (rowBindR_ok _ _ _ (subC_len b a))) ?_
      rintro _ H27_4 ⟨rfl, hE27_4⟩
      have z27_4 := hE27_4.lt
      replace hE := hE.ext hE27_4
      replace hA := hA.ext hE27_4
      replace hB := hB.ext hE27_4
      replace op := op.ext hE27_4
      replace oq := oq.ext hE27_4
      refine ⟨fun _ _ => (Bks.cons hA.blk (Bks.cons hB.blk (Bks.cons op.blk (Bks.cons oq.blk Bks.nil)))), ?_⟩
      refine RegD.one (i := 9) (by kernel_rfl) rfl rfl rfl rfl (Does.call rfl (rowBindR_ok _ _ _ (subC_len a b))) ?_
      rintro _ H27_9 ⟨rfl, hE27_9⟩
      have z27_9 := hE27_9.lt
      replace hE := hE.ext hE27_9
      replace hA := hA.ext hE27_9
      replace hB := hB.ext hE27_9
      replace op := op.ext hE27_9
      replace oq := oq.ext hE27_9
      refine ⟨fun _ _ => (Bks.cons hA.blk (Bks.cons hB.blk (Bks.cons op.blk (Bks.cons oq.blk Bks.nil)))), ?_⟩
      refine RegD.one (i := 10) (by kernel_rfl) rfl rfl rfl rfl (Does.bslA ([encB (bR (a.getD 4 0) (subC b a ++ [f])), encB (bR (b.getD 4 0) (subC a b ++ [f]))]) slA25 rfl rfl rfl rfl rfl rfl) ?_
      rintro _ H27_10 ⟨rfl, hp27_10⟩
      have hn27_10 := New.of_eq hp27_10
      have z27_10 := hn27_10.size
      replace hE := hE.ext hn27_10.ext
      replace hA := hA.ext hn27_10.ext
      replace hB := hB.ext hn27_10.ext
      replace op := op.ext hn27_10.ext
      replace oq := oq.ext hn27_10.ext
      have o27_10 := hn27_10.own
      refine ⟨fun _ _ => (Bks.cons hA.blk (Bks.cons hB.blk (Bks.cons op.blk (Bks.cons oq.blk Bks.nil)))), ?_⟩
      refine RegD.tpur (i := 11) rfl rfl rfl rfl (by kernel_rfl) (Pur.asg rfl) ?_
      refine RegD.tpur (i := 12) rfl rfl rfl rfl (by kernel_rfl) (Pur.asg rfl) ?_
      refine RegD.done (by kernel_rfl) ?_
      refine At.ret rfl Tryd.func19 rfl ?_
      exact uniO_two (by have h1 : a.getD 4 0 ≠ -1 := (by omega); have h2 : b.getD 4 0 ≠ -1 := (by omega); rw [hy]; unfold uniQ moreC; simp_all) rfl rfl o27_10 (by omega) hE
    first | (simp only [decide_eq_true_eq, decide_eq_false_iff_not, Bool.not_eq_true', Bool.not_eq_false', ne_eq, Decidable.not_not, Bool.not_eq_true, Bool.not_eq_false] at q104) | (dsimp only at q104) | skip
    refine Reg.skip rfl rfl rfl rfl rfl rfl rfl ?_
    refine Reg.skip rfl rfl rfl rfl rfl rfl rfl ?_
    refine Reg.skip rfl rfl rfl rfl rfl rfl rfl ?_
    refine Reg.gpur rfl rfl rfl rfl rfl rfl (Pur.pickF rfl rfl) ?_
    refine Reg.pur rfl rfl rfl rfl (Pur.pickF rfl rfl) ?_
    refine Reg.pur rfl rfl rfl rfl (Pur.asg rfl) ?_
    refine Reg.nil ?_
    refine At.condF rfl rfl rfl ?_
    refine At.region rfl rfl ?_
    refine Reg.pur rfl rfl rfl rfl (Pur.fld _ fo24_1 rfl) ?_
    refine Reg.lod rfl rfl rfl rfl (Lod.ld sc3 rfl hB.blk (hat4 b hb5)) ?_
    refine Reg.pur rfl rfl rfl rfl (Pur.lss rfl rfl) ?_
    refine Reg.pur rfl rfl rfl rfl (Pur.asg rfl) ?_
    refine Reg.nil ?_
    refine At.cond rfl rfl (fun q110 => ?_) (fun q110 => ?_)
    · first | (simp only [decide_eq_true_eq, decide_eq_false_iff_not, Bool.not_eq_true', Bool.not_eq_false', ne_eq, Decidable.not_not, Bool.not_eq_true, Bool.not_eq_false] at q110) | (dsimp only at q110) | skip
      refine At.region rfl rfl ?_
      refine Reg.pur rfl rfl rfl rfl (Pur.fld _ fo24_1 rfl) ?_
      refine Reg.lod rfl rfl rfl rfl (Lod.ld sc3 rfl hA.blk (hat4 a ha5)) ?_
      refine Reg.lod rfl rfl rfl rfl (Lod.ldn ag22 rfl oq.blk (whole rfl) rfl) ?_
      refine Reg.op rfl rfl rfl rfl (Does.call rfl (rowBindR_ok _ _ _ (subC_len b a))) ?_
      rintro _ H20_3 ⟨rfl, hE20_3⟩
      have z20_3 := hE20_3.lt
      replace hE := hE.ext hE20_3
      replace hA := hA.ext hE20_3
      replace hB := hB.ext hE20_3
      replace op := op.ext hE20_3
      replace oq := oq.ext hE20_3
      refine Reg.op rfl rfl rfl rfl (Does.bslA ([encB (bR (a.getD 4 0) (subC b a ++ [-1]))]) slA25 rfl rfl rfl rfl rfl rfl) ?_
      rintro _ H20_4 ⟨rfl, hp20_4⟩
      have hn20_4 := New.of_eq hp20_4
      have z20_4 := hn20_4.size
      replace hE := hE.ext hn20_4.ext
      replace hA := hA.ext hn20_4.ext
      replace hB := hB.ext hn20_4.ext
      replace op := op.ext hn20_4.ext
      replace oq := oq.ext hn20_4.ext
      have o20_4 := hn20_4.own
      refine Reg.pur rfl rfl rfl rfl (Pur.asg rfl) ?_
      refine Reg.pur rfl rfl rfl rfl (Pur.asg rfl) ?_
      refine Reg.nil ?_
      refine At.ret rfl Tryd.func19 rfl ?_
      exact uniO_one (by have h1 : b.getD 4 0 = -1 := (by omega); rw [hy]; unfold uniQ moreC; simp_all; try omega) rfl o20_4 (by omega) hE
    first | (simp only [decide_eq_true_eq, decide_eq_false_iff_not, Bool.not_eq_true', Bool.not_eq_false', ne_eq, Decidable.not_not, Bool.not_eq_true, Bool.not_eq_false] at q110) | (dsimp only at q110) | skip
    refine At.region rfl rfl ?_
    refine Reg.pur rfl rfl rfl rfl (Pur.fld _ fo24_1 rfl) ?_
    refine Reg.lod rfl rfl rfl rfl (Lod.ld sc3 rfl hA.blk (hat4 a ha5)) ?_
    refine Reg.pur rfl rfl rfl rfl (Pur.lss rfl rfl) ?_
    refine Reg.pur rfl rfl rfl rfl (Pur.asg rfl) ?_
    refine Reg.nil ?_
    refine At.cond rfl rfl (fun q119 => ?_) (fun q119 => ?_)
    · first | (simp only [decide_eq_true_eq, decide_eq_false_iff_not, Bool.not_eq_true', Bool.not_eq_false', ne_eq, Decidable.not_not, Bool.not_eq_true, Bool.not_eq_false] at q119) | (dsimp only at q119) | skip
      refine At.region rfl rfl ?_
      refine Reg.pur rfl rfl rfl rfl (Pur.fld _ fo24_1 rfl) ?_
      refine Reg.lod rfl rfl rfl rfl (Lod.ld sc3 rfl hB.blk (hat4 b hb5)) ?_
      refine Reg.lod rfl rfl rfl rfl (Lod.ldn ag22 rfl op.blk (whole rfl) rfl) ?_
      refine Reg.op rfl rfl rfl rfl (Does.call rfl (rowBindR_ok _ _ _ (subC_len a b))) ?_
      rintro _ H22_3 ⟨rfl, hE22_3⟩
      have z22_3 := hE22_3.lt
      replace hE := hE.ext hE22_3
      replace hA := hA.ext hE22_3
      replace hB := hB.ext hE22_3
      replace op := op.ext hE22_3
      replace oq := oq.ext hE22_3
      refine Reg.op rfl rfl rfl rfl (Does.bslA ([encB (bR (b.getD 4 0) (subC a b ++ [-1]))]) slA25 rfl rfl rfl rfl rfl rfl) ?_
      rintro _ H22_4 ⟨rfl, hp22_4⟩
      have hn22_4 := New.of_eq hp22_4
      have z22_4 := hn22_4.size
      replace hE := hE.ext hn22_4.ext
      replace hA := hA.ext hn22_4.ext
      replace hB := hB.ext hn22_4.ext
      replace op := op.ext hn22_4.ext
      replace oq := oq.ext hn22_4.ext
      have o22_4 := hn22_4.own
      refine Reg.pur rfl rfl rfl rfl (Pur.asg rfl) ?_
      refine Reg.pur rfl rfl rfl rfl (Pur.asg rfl) ?_
      refine Reg.nil ?_
      refine At.ret rfl Tryd.func19 rfl ?_
      exact uniO_one (by have h1 : a.getD 4 0 = -1 := (by omega); rw [hy]; unfold uniQ moreC; simp_all; try omega) rfl o22_4 (by omega) hE
    first | (simp only [decide_eq_true_eq, decide_eq_false_iff_not, Bool.not_eq_true', Bool.not_eq_false', ne_eq, Decidable.not_not, Bool.not_eq_true, Bool.not_eq_false] at q119) | (dsimp only at q119) | skip
    refine At.region rfl rfl ?_
    refine Reg.pur rfl rfl rfl rfl (Pur.mv rfl) ?_
    refine Reg.pur rfl rfl rfl rfl (Pur.not rfl) ?_
    refine Reg.pur rfl rfl rfl rfl (Pur.asg rfl) ?_
    refine Reg.nil ?_
    refine At.cond rfl rfl (fun q128 => ?_) (fun q128 => ?_)
    · first | (simp only [decide_eq_true_eq, decide_eq_false_iff_not, Bool.not_eq_true', Bool.not_eq_false', ne_eq, Decidable.not_not, Bool.not_eq_true, Bool.not_eq_false] at q128) | (dsimp only at q128) | skip
      refine At.region rfl rfl ?_
      refine Reg.pur rfl rfl rfl rfl (Pur.fld _ fo24_1 rfl) ?_
      refine Reg.lod rfl rfl rfl rfl (Lod.ld sc3 rfl hA.blk (hat4 a ha5)) ?_
      refine Reg.lod rfl rfl rfl rfl (Lod.ldn ag22 rfl oq.blk (whole rfl) rfl) ?_
      refine Reg.pur rfl rfl rfl rfl (Pur.fld _ fo24_1 rfl) ?_
      refine Reg.lod rfl rfl rfl rfl (Lod.ld sc3 rfl hB.blk (hat4 b hb5)) ?_
      refine Reg.op rfl rfl rfl rfl (Does.call rfl (rowBindR_ok _ _ _ (subC_len b a))) ?_
      rintro _ H24_5 ⟨rfl, hE24_5⟩
      have z24_5 := hE24_5.lt
      replace hE := hE.ext hE24_5
      replace hA := hA.ext hE24_5
      replace hB := hB.ext hE24_5
      replace op := op.ext hE24_5
      replace oq := oq.ext hE24_5
      refine Reg.op rfl rfl rfl rfl (Does.bslA ([encB (bR (a.getD 4 0) (subC b a ++ [b.getD 4 0]))]) slA25 rfl rfl rfl rfl rfl rfl) ?_
      rintro _ H24_6 ⟨rfl, hp24_6⟩
      have hn24_6 := New.of_eq hp24_6
      have z24_6 := hn24_6.size
      replace hE := hE.ext hn24_6.ext
      replace hA := hA.ext hn24_6.ext
      replace hB := hB.ext hn24_6.ext
      replace op := op.ext hn24_6.ext
      replace oq := oq.ext hn24_6.ext
      have o24_6 := hn24_6.own
      refine Reg.pur rfl rfl rfl rfl (Pur.asg rfl) ?_
      refine Reg.pur rfl rfl rfl rfl (Pur.asg rfl) ?_
      refine Reg.nil ?_
      refine At.ret rfl Tryd.func19 rfl ?_
      exact uniO_one (by have h1 : a.getD 4 0 ≠ -1 := (by omega); have h2 : b.getD 4 0 ≠ -1 := (by omega); rw [hy]; unfold uniQ moreC; simp_all) rfl o24_6 (by omega) hE
    first | (simp only [decide_eq_true_eq, decide_eq_false_iff_not, Bool.not_eq_true', Bool.not_eq_false', ne_eq, Decidable.not_not, Bool.not_eq_true, Bool.not_eq_false] at q128) | (dsimp only at q128) | skip
    refine At.region rfl rfl ?_
    refine Reg.pur rfl rfl rfl rfl (Pur.mv rfl) ?_
    refine Reg.pur rfl rfl rfl rfl (Pur.not rfl) ?_
    refine Reg.pur rfl rfl rfl rfl (Pur.asg rfl) ?_
    refine Reg.nil ?_
    refine At.cond rfl rfl (fun q138 => ?_) (fun q138 => ?_)
    · first | (simp only [decide_eq_true_eq, decide_eq_false_iff_not, Bool.not_eq_true', Bool.not_eq_false', ne_eq, Decidable.not_not, Bool.not_eq_true, Bool.not_eq_false] at q138) | (dsimp only at q138) | skip
      refine At.region rfl rfl ?_
      refine Reg.pur rfl rfl rfl rfl (Pur.fld _ fo24_1 rfl) ?_
      refine Reg.lod rfl rfl rfl rfl (Lod.ld sc3 rfl hB.blk (hat4 b hb5)) ?_
      refine Reg.lod rfl rfl rfl rfl (Lod.ldn ag22 rfl op.blk (whole rfl) rfl) ?_
      refine Reg.pur rfl rfl rfl rfl (Pur.fld _ fo24_1 rfl) ?_
      refine Reg.lod rfl rfl rfl rfl (Lod.ld sc3 rfl hA.blk (hat4 a ha5)) ?_
      refine Reg.op rfl rfl rfl rfl (Does.call rfl (rowBindR_ok _ _ _ (subC_len a b))) ?_
      rintro _ H26_5 ⟨rfl, hE26_5⟩
      have z26_5 := hE26_5.lt
      replace hE := hE.ext hE26_5
      replace hA := hA.ext hE26_5
      replace hB := hB.ext hE26_5
      replace op := op.ext hE26_5
      replace oq := oq.ext hE26_5
      refine Reg.op rfl rfl rfl rfl (Does.bslA ([encB (bR (b.getD 4 0) (subC a b ++ [a.getD 4 0]))]) slA25 rfl rfl rfl rfl rfl rfl) ?_
      rintro _ H26_6 ⟨rfl, hp26_6⟩
      have hn26_6 := New.of_eq hp26_6
      have z26_6 := hn26_6.size
      replace hE := hE.ext hn26_6.ext
      replace hA := hA.ext hn26_6.ext
      replace hB := hB.ext hn26_6.ext
      replace op := op.ext hn26_6.ext
      replace oq := oq.ext hn26_6.ext
      have o26_6 := hn26_6.own
      refine Reg.pur rfl rfl rfl rfl (Pur.asg rfl) ?_
      refine Reg.pur rfl rfl rfl rfl (Pur.asg rfl) ?_
      refine Reg.nil ?_
      refine At.ret rfl Tryd.func19 rfl ?_
      exact uniO_one (by have h1 : a.getD 4 0 ≠ -1 := (by omega); have h2 : b.getD 4 0 ≠ -1 := (by omega); rw [hy]; unfold uniQ moreC; simp_all) rfl o26_6 (by omega) hE
    first | (simp only [decide_eq_true_eq, decide_eq_false_iff_not, Bool.not_eq_true', Bool.not_eq_false', ne_eq, Decidable.not_not, Bool.not_eq_true, Bool.not_eq_false] at q138) | (dsimp only at q138) | skip
    refine At.drawE ((Bks.cons hA.blk (Bks.cons hB.blk (Bks.cons op.blk (Bks.cons oq.blk Bks.nil))))) [] mixed rfl rfl ?_
    refine RegD.tpur (i := 0) rfl rfl rfl rfl (by kernel_rfl) (Pur.fld _ fo24_1 rfl) ?_
    refine RegD.take (i := 1) rfl rfl rfl rfl (by kernel_rfl) (Bks.cons hA.blk (Bks.cons hB.blk (Bks.cons op.blk (Bks.cons oq.blk Bks.nil)))) (fun H hS => Lod.ld sc3 rfl hS.hd (hat4 a ha5)) ?_
    refine RegD.take (i := 2) rfl rfl rfl rfl (by kernel_rfl) (Bks.cons hA.blk (Bks.cons hB.blk (Bks.cons op.blk (Bks.cons oq.blk Bks.nil)))) (fun H hS => Lod.ldn ag22 rfl hS.tl.tl.tl.hd (whole rfl) rfl) ?_
    refine RegD.tpur (i := 3) rfl rfl rfl rfl (by kernel_rfl) (Pur.mv rfl) ?_
    refine RegD.tpur (i := 5) rfl rfl rfl rfl (by kernel_rfl) (Pur.fld _ fo24_1 rfl) ?_
    refine RegD.take (i := 6) rfl rfl rfl rfl (by kernel_rfl) (Bks.cons hA.blk (Bks.cons hB.blk (Bks.cons op.blk (Bks.cons oq.blk Bks.nil)))) (fun H hS => Lod.ld sc3 rfl hS.tl.hd (hat4 b hb5)) ?_
    refine RegD.take (i := 7) rfl rfl rfl rfl (by kernel_rfl) (Bks.cons hA.blk (Bks.cons hB.blk (Bks.cons op.blk (Bks.cons oq.blk Bks.nil)))) (fun H hS => Lod.ldn ag22 rfl hS.tl.tl.hd (whole rfl) rfl) ?_
    refine RegD.tpur (i := 8) rfl rfl rfl rfl (by kernel_rfl) (Pur.mv rfl) ?_
    refine RegD.one (i := 4) (by kernel_rfl) rfl rfl rfl rfl (Does.call rfl (rowBindR_ok _ _ _ (subC_len b a))) ?_
    rintro _ H27_4 ⟨rfl, hE27_4⟩
    have z27_4 := hE27_4.lt
    replace hE := hE.ext hE27_4
    replace hA := hA.ext hE27_4
    replace hB := hB.ext hE27_4
    replace op := op.ext hE27_4
    replace oq := oq.ext hE27_4
    refine ⟨fun _ _ => (Bks.cons hA.blk (Bks.cons hB.blk (Bks.cons op.blk (Bks.cons oq.blk Bks.nil)))), ?_⟩
    refine RegD.one (i := 9) (by kernel_rfl) rfl rfl rfl rfl (Does.call rfl (rowBindR_ok _ _ _ (subC_len a b))) ?_
    rintro _ H27_9 ⟨rfl, hE27_9⟩
    have z27_9 := hE27_9.lt
    replace hE := hE.ext hE27_9
    replace hA := hA.ext hE27_9
    replace hB := hB.ext hE27_9
    replace op := op.ext hE27_9
    replace oq := oq.ext hE27_9
    refine ⟨fun _ _ => (Bks.cons hA.blk (Bks.cons hB.blk (Bks.cons op.blk (Bks.cons oq.blk Bks.nil)))), ?_⟩
    refine RegD.one (i := 10) (by kernel_rfl) rfl rfl rfl rfl (Does.bslA ([encB (bR (a.getD 4 0) (subC b a ++ [f])), encB (bR (b.getD 4 0) (subC a b ++ [f]))]) slA25 rfl rfl rfl rfl rfl rfl) ?_
    rintro _ H27_10 ⟨rfl, hp27_10⟩
    have hn27_10 := New.of_eq hp27_10
    have z27_10 := hn27_10.size
    replace hE := hE.ext hn27_10.ext
    replace hA := hA.ext hn27_10.ext
    replace hB := hB.ext hn27_10.ext
    replace op := op.ext hn27_10.ext
    replace oq := oq.ext hn27_10.ext
    have o27_10 := hn27_10.own
    refine ⟨fun _ _ => (Bks.cons hA.blk (Bks.cons hB.blk (Bks.cons op.blk (Bks.cons oq.blk Bks.nil)))), ?_⟩
    refine RegD.tpur (i := 11) rfl rfl rfl rfl (by kernel_rfl) (Pur.asg rfl) ?_
    refine RegD.tpur (i := 12) rfl rfl rfl rfl (by kernel_rfl) (Pur.asg rfl) ?_
    refine RegD.done (by kernel_rfl) ?_
    refine At.ret rfl Tryd.func19 rfl ?_
    exact uniO_two (by have h1 : a.getD 4 0 ≠ -1 := (by omega); have h2 : b.getD 4 0 ≠ -1 := (by omega); rw [hy]; unfold uniQ moreC; simp_all) rfl rfl o27_10 (by omega) hE
  first | (simp only [decide_eq_true_eq, decide_eq_false_iff_not, Bool.not_eq_true', Bool.not_eq_false', ne_eq, Decidable.not_not, Bool.not_eq_true, Bool.not_eq_false] at q97) | (dsimp only at q97) | skip
  refine Reg.skip rfl rfl rfl rfl rfl rfl rfl ?_
  refine Reg.skip rfl rfl rfl rfl rfl rfl rfl ?_
  refine Reg.skip rfl rfl rfl rfl rfl rfl rfl ?_
  refine Reg.pur rfl rfl rfl rfl (Pur.pickF rfl rfl) ?_
  refine Reg.pur rfl rfl rfl rfl (Pur.mv rfl) ?_
  refine Reg.gpur rfl rfl rfl rfl rfl rfl (Pur.mv rfl) ?_
  refine Reg.gpur rfl rfl rfl rfl rfl rfl (Pur.mv rfl) ?_
  refine Reg.case 104 rfl (fun q104 => ?_) (fun q104 => ?_)
  · first | (simp only [decide_eq_true_eq, decide_eq_false_iff_not, Bool.not_eq_true', Bool.not_eq_false', ne_eq, Decidable.not_not, Bool.not_eq_true, Bool.not_eq_false] at q104) | (dsimp only at q104) | skip
    refine Reg.gpur rfl rfl rfl rfl rfl rfl (Pur.fld _ fo24_1 rfl) ?_
    refine Reg.glod rfl rfl rfl rfl rfl rfl (Lod.ld sc3 rfl hA.blk (hat4 a ha5)) ?_
    refine Reg.gpur rfl rfl rfl rfl rfl rfl (Pur.lss rfl rfl) ?_
    refine Reg.gpur rfl rfl rfl rfl rfl rfl (Pur.pickT rfl rfl) ?_
    refine Reg.pur rfl rfl rfl rfl (Pur.pickF rfl rfl) ?_
    refine Reg.pur rfl rfl rfl rfl (Pur.asg rfl) ?_
    refine Reg.nil ?_
    refine At.cond rfl rfl (fun q95 => ?_) (fun q95 => ?_)
    · first | (simp only [decide_eq_true_eq, decide_eq_false_iff_not, Bool.not_eq_true', Bool.not_eq_false', ne_eq, Decidable.not_not, Bool.not_eq_true, Bool.not_eq_false] at q95) | (dsimp only at q95) | skip
      refine At.region rfl rfl ?_
      refine Reg.pur rfl rfl rfl rfl (Pur.asg rfl) ?_
      refine Reg.pur rfl rfl rfl rfl (Pur.asg rfl) ?_
      refine Reg.nil ?_
      refine At.ret rfl Tryd.func19 rfl ?_
      exact uniO_nil (by rw [hy]; unfold uniQ moreC; rw [if_neg (by assumption), if_pos (by simp_all; try omega)]) hE
    first | (simp only [decide_eq_true_eq, decide_eq_false_iff_not, Bool.not_eq_true', Bool.not_eq_false', ne_eq, Decidable.not_not, Bool.not_eq_true, Bool.not_eq_false] at q95) | (dsimp only at q95) | skip
    refine At.region rfl rfl ?_
    refine Reg.pur rfl rfl rfl rfl (Pur.fld _ fo24_1 rfl) ?_
    refine Reg.lod rfl rfl rfl rfl (Lod.ld sc3 rfl hB.blk (hat4 b hb5)) ?_
    refine Reg.pur rfl rfl rfl rfl (Pur.lss rfl rfl) ?_
    refine Reg.pur rfl rfl rfl rfl (Pur.asg rfl) ?_
    refine Reg.nil ?_
    refine At.cond rfl rfl (fun q110 => ?_) (fun q110 => ?_)
    · first | (simp only [decide_eq_true_eq, decide_eq_false_iff_not, Bool.not_eq_true', Bool.not_eq_false', ne_eq, Decidable.not_not, Bool.not_eq_true, Bool.not_eq_false] at q110) | (dsimp only at q110) | skip
      refine At.region rfl rfl ?_
      refine Reg.pur rfl rfl rfl rfl (Pur.fld _ fo24_1 rfl) ?_
      refine Reg.lod rfl rfl rfl rfl (Lod.ld sc3 rfl hA.blk (hat4 a ha5)) ?_
      refine Reg.lod rfl rfl rfl rfl (Lod.ldn ag22 rfl oq.blk (whole rfl) rfl) ?_
      refine Reg.op rfl rfl rfl rfl (Does.call rfl (rowBindR_ok _ _ _ (subC_len b a))) ?_
      rintro _ H20_3 ⟨rfl, hE20_3⟩
      have z20_3 := hE20_3.lt
      replace hE := hE.ext hE20_3
      replace hA := hA.ext hE20_3
      replace hB := hB.ext hE20_3
      replace op := op.ext hE20_3
      replace oq := oq.ext hE20_3
      refine Reg.op rfl rfl rfl rfl (Does.bslA ([encB (bR (a.getD 4 0) (subC b a ++ [-1]))]) slA25 rfl rfl rfl rfl rfl rfl) ?_
      rintro _ H20_4 ⟨rfl, hp20_4⟩
      have hn20_4 := New.of_eq hp20_4
      have z20_4 := hn20_4.size
      replace hE := hE.ext hn20_4.ext
      replace hA := hA.ext hn20_4.ext
      replace hB := hB.ext hn20_4.ext
      replace op := op.ext hn20_4.ext
      replace oq := oq.ext hn20_4.ext
      have o20_4 := hn20_4.own
      refine Reg.pur rfl rfl rfl rfl (Pur.asg rfl) ?_
      refine Reg.pur rfl rfl rfl rfl (Pur.asg rfl) ?_
      refine Reg.nil ?_
      refine At.ret rfl Tryd.func19 rfl ?_
      exact uniO_one (by have h1 : b.getD 4 0 = -1 := (by omega); rw [hy]; unfold uniQ moreC; simp_all; try omega) rfl o20_4 (by omega) hE
    first | (simp only [decide_eq_true_eq, decide_eq_false_iff_not, Bool.not_eq_true', Bool.not_eq_false', ne_eq, Decidable.not_not, Bool.not_eq_true, Bool.not_eq_false] at q110) | (dsimp only at q110) | skip
    refine At.region rfl rfl ?_
    refine Reg.pur rfl rfl rfl rfl (Pur.fld _ fo24_1 rfl) ?_
    refine Reg.lod rfl rfl rfl rfl (Lod.ld sc3 rfl hA.blk (hat4 a ha5)) ?_
    refine Reg.pur rfl rfl rfl rfl (Pur.lss rfl rfl) ?_
    refine Reg.pur rfl rfl rfl rfl (Pur.asg rfl) ?_
    refine Reg.nil ?_
    refine At.cond rfl rfl (fun q119 => ?_) (fun q119 => ?_)
    · first | (simp only [decide_eq_true_eq, decide_eq_false_iff_not, Bool.not_eq_true', Bool.not_eq_false', ne_eq, Decidable.not_not, Bool.not_eq_true, Bool.not_eq_false] at q119) | (dsimp only at q119) | skip
      refine At.region rfl rfl ?_
      refine Reg.pur rfl rfl rfl rfl (Pur.fld _ fo24_1 rfl) ?_
      refine Reg.lod rfl rfl rfl rfl (Lod.ld sc3 rfl hB.blk (hat4 b hb5)) ?_
      refine Reg.lod rfl rfl rfl rfl (Lod.ldn ag22 rfl op.blk (whole rfl) rfl) ?_
      refine Reg.op rfl rfl rfl rfl (Does.call rfl (rowBindR_ok _ _ _ (subC_len a b))) ?_
      rintro _ H22_3 ⟨rfl, hE22_3⟩
      have z22_3 := hE22_3.lt
      replace hE := hE.ext hE22_3
      replace hA := hA.ext hE22_3
      replace hB := hB.ext hE22_3
      replace op := op.ext hE22_3
      replace oq := oq.ext hE22_3
      refine Reg.op rfl rfl rfl rfl (Does.bslA ([encB (bR (b.getD 4 0) (subC a b ++ [-1]))]) slA25 rfl rfl rfl rfl rfl rfl) ?_
      rintro _ H22_4 ⟨rfl, hp22_4⟩
      have hn22_4 := New.of_eq hp22_4
      have z22_4 := hn22_4.size
      replace hE := hE.ext hn22_4.ext
      replace hA := hA.ext hn22_4.ext
      replace hB := hB.ext hn22_4.ext
      replace op := op.ext hn22_4.ext
      replace oq := oq.ext hn22_4.ext
      have o22_4 := hn22_4.own
      refine Reg.pur rfl rfl rfl rfl (Pur.asg rfl) ?_
      refine Reg.pur rfl rfl rfl rfl (Pur.asg rfl) ?_
      refine Reg.nil ?_
      refine At.ret rfl Tryd.func19 rfl ?_
      exact uniO_one (by have h1 : a.getD 4 0 = -1 := (by omega); rw [hy]; unfold uniQ moreC; simp_all; try omega) rfl o22_4 (by omega) hE
    first | (simp only [decide_eq_true_eq, decide_eq_false_iff_not, Bool.not_eq_true', Bool.not_eq_false', ne_eq, Decidable.not_not, Bool.not_eq_true, Bool.not_eq_false] at q119) | (dsimp only at q119) | skip
    refine At.region rfl rfl ?_
    refine Reg.pur rfl rfl rfl rfl (Pur.mv rfl) ?_
    refine Reg.pur rfl rfl rfl rfl (Pur.not rfl) ?_
    refine Reg.pur rfl rfl rfl rfl (Pur.asg rfl) ?_
    refine Reg.nil ?_
    refine At.cond rfl rfl (fun q128 => ?_) (fun q128 => ?_)
    · first | (simp only [decide_eq_true_eq, decide_eq_false_iff_not, Bool.not_eq_true', Bool.not_eq_false', ne_eq, Decidable.not_not, Bool.not_eq_true, Bool.not_eq_false] at q128) | (dsimp only at q128) | skip
      refine At.region rfl rfl ?_
      refine Reg.pur rfl rfl rfl rfl (Pur.fld _ fo24_1 rfl) ?_
      refine Reg.lod rfl rfl rfl rfl (Lod.ld sc3 rfl hA.blk (hat4 a ha5)) ?_
      refine Reg.lod rfl rfl rfl rfl (Lod.ldn ag22 rfl oq.blk (whole rfl) rfl) ?_
      refine Reg.pur rfl rfl rfl rfl (Pur.fld _ fo24_1 rfl) ?_
      refine Reg.lod rfl rfl rfl rfl (Lod.ld sc3 rfl hB.blk (hat4 b hb5)) ?_
      refine Reg.op rfl rfl rfl rfl (Does.call rfl (rowBindR_ok _ _ _ (subC_len b a))) ?_
      rintro _ H24_5 ⟨rfl, hE24_5⟩
      have z24_5 := hE24_5.lt
      replace hE := hE.ext hE24_5
      replace hA := hA.ext hE24_5
      replace hB := hB.ext hE24_5
      replace op := op.ext hE24_5
      replace oq := oq.ext hE24_5
      refine Reg.op rfl rfl rfl rfl (Does.bslA ([encB (bR (a.getD 4 0) (subC b a ++ [b.getD 4 0]))]) slA25 rfl rfl rfl rfl rfl rfl) ?_
      rintro _ H24_6 ⟨rfl, hp24_6⟩
      have hn24_6 := New.of_eq hp24_6
      have z24_6 := hn24_6.size
      replace hE := hE.ext hn24_6.ext
      replace hA := hA.ext hn24_6.ext
      replace hB := hB.ext hn24_6.ext
      replace op := op.ext hn24_6.ext
      replace oq := oq.ext hn24_6.ext
      have o24_6 := hn24_6.own
      refine Reg.pur rfl rfl rfl rfl (Pur.asg rfl) ?_
      refine Reg.pur rfl rfl rfl rfl (Pur.asg rfl) ?_
      refine Reg.nil ?_
      refine At.ret rfl Tryd.func19 rfl ?_
      exact uniO_one (by have h1 : a.getD 4 0 ≠ -1 := (by omega); have h2 : b.getD 4 0 ≠ -1 := (by omega); rw [hy]; unfold uniQ moreC; simp_all) rfl o24_6 (by omega) hE
    first | (simp only [decide_eq_true_eq, decide_eq_false_iff_not, Bool.not_eq_true', Bool.not_eq_false', ne_eq, Decidable.not_not, Bool.not_eq_true, Bool.not_eq_false] at q128) | (dsimp only at q128) | skip
    refine At.region rfl rfl ?_
    refine Reg.pur rfl rfl rfl rfl (Pur.mv rfl) ?_
    refine Reg.pur rfl rfl rfl rfl (Pur.not rfl) ?_
    refine Reg.pur rfl rfl rfl rfl (Pur.asg rfl) ?_
    refine Reg.nil ?_
    refine At.cond rfl rfl (fun q138 => ?_) (fun q138 => ?_)
    · first | (simp only [decide_eq_true_eq, decide_eq_false_iff_not, Bool.not_eq_true', Bool.not_eq_false', ne_eq, Decidable.not_not, Bool.not_eq_true, Bool.not_eq_false] at q138) | (dsimp only at q138) | skip
      refine At.region rfl rfl ?_
      refine Reg.pur rfl rfl rfl rfl (Pur.fld _ fo24_1 rfl) ?_
      refine Reg.lod rfl rfl rfl rfl (Lod.ld sc3 rfl hB.blk (hat4 b hb5)) ?_
      refine Reg.lod rfl rfl rfl rfl (Lod.ldn ag22 rfl op.blk (whole rfl) rfl) ?_
      refine Reg.pur rfl rfl rfl rfl (Pur.fld _ fo24_1 rfl) ?_
      refine Reg.lod rfl rfl rfl rfl (Lod.ld sc3 rfl hA.blk (hat4 a ha5)) ?_
      refine Reg.op rfl rfl rfl rfl (Does.call rfl (rowBindR_ok _ _ _ (subC_len a b))) ?_
      rintro _ H26_5 ⟨rfl, hE26_5⟩
      have z26_5 := hE26_5.lt
      replace hE := hE.ext hE26_5
      replace hA := hA.ext hE26_5
      replace hB := hB.ext hE26_5
      replace op := op.ext hE26_5
      replace oq := oq.ext hE26_5
      refine Reg.op rfl rfl rfl rfl (Does.bslA ([encB (bR (b.getD 4 0) (subC a b ++ [a.getD 4 0]))]) slA25 rfl rfl rfl rfl rfl rfl) ?_
      rintro _ H26_6 ⟨rfl, hp26_6⟩
      have hn26_6 := New.of_eq hp26_6
      have z26_6 := hn26_6.size
      replace hE := hE.ext hn26_6.ext
      replace hA := hA.ext hn26_6.ext
      replace hB := hB.ext hn26_6.ext
      replace op := op.ext hn26_6.ext
      replace oq := oq.ext hn26_6.ext
      have o26_6 := hn26_6.own
      refine Reg.pur rfl rfl rfl rfl (Pur.asg rfl) ?_
      refine Reg.pur rfl rfl rfl rfl (Pur.asg rfl) ?_
      refine Reg.nil ?_
      refine At.ret rfl Tryd.func19 rfl ?_
      exact uniO_one (by have h1 : a.getD 4 0 ≠ -1 := (by omega); have h2 : b.getD 4 0 ≠ -1 := (by omega); rw [hy]; unfold uniQ moreC; simp_all) rfl o26_6 (by omega) hE
    first | (simp only [decide_eq_true_eq, decide_eq_false_iff_not, Bool.not_eq_true', Bool.not_eq_false', ne_eq, Decidable.not_not, Bool.not_eq_true, Bool.not_eq_false] at q138) | (dsimp only at q138) | skip
    refine At.drawE ((Bks.cons hA.blk (Bks.cons hB.blk (Bks.cons op.blk (Bks.cons oq.blk Bks.nil))))) [] mixed rfl rfl ?_
    refine RegD.tpur (i := 0) rfl rfl rfl rfl (by kernel_rfl) (Pur.fld _ fo24_1 rfl) ?_
    refine RegD.take (i := 1) rfl rfl rfl rfl (by kernel_rfl) (Bks.cons hA.blk (Bks.cons hB.blk (Bks.cons op.blk (Bks.cons oq.blk Bks.nil)))) (fun H hS => Lod.ld sc3 rfl hS.hd (hat4 a ha5)) ?_
    refine RegD.take (i := 2) rfl rfl rfl rfl (by kernel_rfl) (Bks.cons hA.blk (Bks.cons hB.blk (Bks.cons op.blk (Bks.cons oq.blk Bks.nil)))) (fun H hS => Lod.ldn ag22 rfl hS.tl.tl.tl.hd (whole rfl) rfl) ?_
    refine RegD.tpur (i := 3) rfl rfl rfl rfl (by kernel_rfl) (Pur.mv rfl) ?_
    refine RegD.tpur (i := 5) rfl rfl rfl rfl (by kernel_rfl) (Pur.fld _ fo24_1 rfl) ?_
    refine RegD.take (i := 6) rfl rfl rfl rfl (by kernel_rfl) (Bks.cons hA.blk (Bks.cons hB.blk (Bks.cons op.blk (Bks.cons oq.blk Bks.nil)))) (fun H hS => Lod.ld sc3 rfl hS.tl.hd (hat4 b hb5)) ?_
    refine RegD.take (i := 7) rfl rfl rfl rfl (by kernel_rfl) (Bks.cons hA.blk (Bks.cons hB.blk (Bks.cons op.blk (Bks.cons oq.blk Bks.nil)))) (fun H hS => Lod.ldn ag22 rfl hS.tl.tl.hd (whole rfl) rfl) ?_
    refine RegD.tpur (i := 8) rfl rfl rfl rfl (by kernel_rfl) (Pur.mv rfl) ?_
    refine RegD.one (i := 4) (by kernel_rfl) rfl rfl rfl rfl (Does.call rfl (rowBindR_ok _ _ _ (subC_len b a))) ?_
    rintro _ H27_4 ⟨rfl, hE27_4⟩
    have z27_4 := hE27_4.lt
    replace hE := hE.ext hE27_4
    replace hA := hA.ext hE27_4
    replace hB := hB.ext hE27_4
    replace op := op.ext hE27_4
    replace oq := oq.ext hE27_4
    refine ⟨fun _ _ => (Bks.cons hA.blk (Bks.cons hB.blk (Bks.cons op.blk (Bks.cons oq.blk Bks.nil)))), ?_⟩
    refine RegD.one (i := 9) (by kernel_rfl) rfl rfl rfl rfl (Does.call rfl (rowBindR_ok _ _ _ (subC_len a b))) ?_
    rintro _ H27_9 ⟨rfl, hE27_9⟩
    have z27_9 := hE27_9.lt
    replace hE := hE.ext hE27_9
    replace hA := hA.ext hE27_9
    replace hB := hB.ext hE27_9
    replace op := op.ext hE27_9
    replace oq := oq.ext hE27_9
    refine ⟨fun _ _ => (Bks.cons hA.blk (Bks.cons hB.blk (Bks.cons op.blk (Bks.cons oq.blk Bks.nil)))), ?_⟩
    refine RegD.one (i := 10) (by kernel_rfl) rfl rfl rfl rfl (Does.bslA ([encB (bR (a.getD 4 0) (subC b a ++ [f])), encB (bR (b.getD 4 0) (subC a b ++ [f]))]) slA25 rfl rfl rfl rfl rfl rfl) ?_
    rintro _ H27_10 ⟨rfl, hp27_10⟩
    have hn27_10 := New.of_eq hp27_10
    have z27_10 := hn27_10.size
    replace hE := hE.ext hn27_10.ext
    replace hA := hA.ext hn27_10.ext
    replace hB := hB.ext hn27_10.ext
    replace op := op.ext hn27_10.ext
    replace oq := oq.ext hn27_10.ext
    have o27_10 := hn27_10.own
    refine ⟨fun _ _ => (Bks.cons hA.blk (Bks.cons hB.blk (Bks.cons op.blk (Bks.cons oq.blk Bks.nil)))), ?_⟩
    refine RegD.tpur (i := 11) rfl rfl rfl rfl (by kernel_rfl) (Pur.asg rfl) ?_
    refine RegD.tpur (i := 12) rfl rfl rfl rfl (by kernel_rfl) (Pur.asg rfl) ?_
    refine RegD.done (by kernel_rfl) ?_
    refine At.ret rfl Tryd.func19 rfl ?_
    exact uniO_two (by have h1 : a.getD 4 0 ≠ -1 := (by omega); have h2 : b.getD 4 0 ≠ -1 := (by omega); rw [hy]; unfold uniQ moreC; simp_all) rfl rfl o27_10 (by omega) hE
  first | (simp only [decide_eq_true_eq, decide_eq_false_iff_not, Bool.not_eq_true', Bool.not_eq_false', ne_eq, Decidable.not_not, Bool.not_eq_true, Bool.not_eq_false] at q104) | (dsimp only at q104) | skip
  refine Reg.skip rfl rfl rfl rfl rfl rfl rfl ?_
  refine Reg.skip rfl rfl rfl rfl rfl rfl rfl ?_
  refine Reg.skip rfl rfl rfl rfl rfl rfl rfl ?_
  refine Reg.gpur rfl rfl rfl rfl rfl rfl (Pur.pickF rfl rfl) ?_
  refine Reg.pur rfl rfl rfl rfl (Pur.pickF rfl rfl) ?_
  refine Reg.pur rfl rfl rfl rfl (Pur.asg rfl) ?_
  refine Reg.nil ?_
  refine At.condF rfl rfl rfl ?_
  refine At.region rfl rfl ?_
  refine Reg.pur rfl rfl rfl rfl (Pur.fld _ fo24_1 rfl) ?_
  refine Reg.lod rfl rfl rfl rfl (Lod.ld sc3 rfl hB.blk (hat4 b hb5)) ?_
  refine Reg.pur rfl rfl rfl rfl (Pur.lss rfl rfl) ?_
  refine Reg.pur rfl rfl rfl rfl (Pur.asg rfl) ?_
  refine Reg.nil ?_
  refine At.cond rfl rfl (fun q110 => ?_) (fun q110 => ?_)
  · first | (simp only [decide_eq_true_eq, decide_eq_false_iff_not, Bool.not_eq_true', Bool.not_eq_false', ne_eq, Decidable.not_not, Bool.not_eq_true, Bool.not_eq_false] at q110) | (dsimp only at q110) | skip
    refine At.region rfl rfl ?_
    refine Reg.pur rfl rfl rfl rfl (Pur.fld _ fo24_1 rfl) ?_
    refine Reg.lod rfl rfl rfl rfl (Lod.ld sc3 rfl hA.blk (hat4 a ha5)) ?_
    refine Reg.lod rfl rfl rfl rfl (Lod.ldn ag22 rfl oq.blk (whole rfl) rfl) ?_
    refine Reg.op rfl rfl rfl rfl (Does.call rfl (rowBindR_ok _ _ _ (subC_len b a))) ?_
    rintro _ H20_3 ⟨rfl, hE20_3⟩
    have z20_3 := hE20_3.lt
    replace hE := hE.ext hE20_3
    replace hA := hA.ext hE20_3
    replace hB := hB.ext hE20_3
    replace op := op.ext hE20_3
    replace oq := oq.ext hE20_3
    refine Reg.op rfl rfl rfl rfl (Does.bslA ([encB (bR (a.getD 4 0) (subC b a ++ [-1]))]) slA25 rfl rfl rfl rfl rfl rfl) ?_
    rintro _ H20_4 ⟨rfl, hp20_4⟩
    have hn20_4 := New.of_eq hp20_4
    have z20_4 := hn20_4.size
    replace hE := hE.ext hn20_4.ext
    replace hA := hA.ext hn20_4.ext
    replace hB := hB.ext hn20_4.ext
    replace op := op.ext hn20_4.ext
    replace oq := oq.ext hn20_4.ext
    have o20_4 := hn20_4.own
    refine Reg.pur rfl rfl rfl rfl (Pur.asg rfl) ?_
    refine Reg.pur rfl rfl rfl rfl (Pur.asg rfl) ?_
    refine Reg.nil ?_
    refine At.ret rfl Tryd.func19 rfl ?_
    exact uniO_one (by have h1 : b.getD 4 0 = -1 := (by omega); rw [hy]; unfold uniQ moreC; simp_all; try omega) rfl o20_4 (by omega) hE
  first | (simp only [decide_eq_true_eq, decide_eq_false_iff_not, Bool.not_eq_true', Bool.not_eq_false', ne_eq, Decidable.not_not, Bool.not_eq_true, Bool.not_eq_false] at q110) | (dsimp only at q110) | skip
  refine At.region rfl rfl ?_
  refine Reg.pur rfl rfl rfl rfl (Pur.fld _ fo24_1 rfl) ?_
  refine Reg.lod rfl rfl rfl rfl (Lod.ld sc3 rfl hA.blk (hat4 a ha5)) ?_
  refine Reg.pur rfl rfl rfl rfl (Pur.lss rfl rfl) ?_
  refine Reg.pur rfl rfl rfl rfl (Pur.asg rfl) ?_
  refine Reg.nil ?_
  refine At.cond rfl rfl (fun q119 => ?_) (fun q119 => ?_)
  · first | (simp only [decide_eq_true_eq, decide_eq_false_iff_not, Bool.not_eq_true', Bool.not_eq_false', ne_eq, Decidable.not_not, Bool.not_eq_true, Bool.not_eq_false] at q119) | (dsimp only at q119) | skip
    refine At.region rfl rfl ?_
    refine Reg.pur rfl rfl rfl rfl (Pur.fld _ fo24_1 rfl) ?_
    refine Reg.lod rfl rfl rfl rfl (Lod.ld sc3 rfl hB.blk (hat4 b hb5)) ?_
    refine Reg.lod rfl rfl rfl rfl (Lod.ldn ag22 rfl op.blk (whole rfl) rfl) ?_
    refine Reg.op rfl rfl rfl rfl (Does.call rfl (rowBindR_ok _ _ _ (subC_len a b))) ?_
    rintro _ H22_3 ⟨rfl, hE22_3⟩
    have z22_3 := hE22_3.lt
    replace hE := hE.ext hE22_3
    replace hA := hA.ext hE22_3
    replace hB := hB.ext hE22_3
    replace op := op.ext hE22_3
    replace oq := oq.ext hE22_3
    refine Reg.op rfl rfl rfl rfl (Does.bslA ([encB (bR (b.getD 4 0) (subC a b ++ [-1]))]) slA25 rfl rfl rfl rfl rfl rfl) ?_
    rintro _ H22_4 ⟨rfl, hp22_4⟩
    have hn22_4 := New.of_eq hp22_4
    have z22_4 := hn22_4.size
    replace hE := hE.ext hn22_4.ext
    replace hA := hA.ext hn22_4.ext
    replace hB := hB.ext hn22_4.ext
    replace op := op.ext hn22_4.ext
    replace oq := oq.ext hn22_4.ext
    have o22_4 := hn22_4.own
    refine Reg.pur rfl rfl rfl rfl (Pur.asg rfl) ?_
    refine Reg.pur rfl rfl rfl rfl (Pur.asg rfl) ?_
    refine Reg.nil ?_
    refine At.ret rfl Tryd.func19 rfl ?_
    exact uniO_one (by have h1 : a.getD 4 0 = -1 := (by omega); rw [hy]; unfold uniQ moreC; simp_all; try omega) rfl o22_4 (by omega) hE
  first | (simp only [decide_eq_true_eq, decide_eq_false_iff_not, Bool.not_eq_true', Bool.not_eq_false', ne_eq, Decidable.not_not, Bool.not_eq_true, Bool.not_eq_false] at q119) | (dsimp only at q119) | skip
  refine At.region rfl rfl ?_
  refine Reg.pur rfl rfl rfl rfl (Pur.mv rfl) ?_
  refine Reg.pur rfl rfl rfl rfl (Pur.not rfl) ?_
  refine Reg.pur rfl rfl rfl rfl (Pur.asg rfl) ?_
  refine Reg.nil ?_
  refine At.cond rfl rfl (fun q128 => ?_) (fun q128 => ?_)
  · first | (simp only [decide_eq_true_eq, decide_eq_false_iff_not, Bool.not_eq_true', Bool.not_eq_false', ne_eq, Decidable.not_not, Bool.not_eq_true, Bool.not_eq_false] at q128) | (dsimp only at q128) | skip
    refine At.region rfl rfl ?_
    refine Reg.pur rfl rfl rfl rfl (Pur.fld _ fo24_1 rfl) ?_
    refine Reg.lod rfl rfl rfl rfl (Lod.ld sc3 rfl hA.blk (hat4 a ha5)) ?_
    refine Reg.lod rfl rfl rfl rfl (Lod.ldn ag22 rfl oq.blk (whole rfl) rfl) ?_
    refine Reg.pur rfl rfl rfl rfl (Pur.fld _ fo24_1 rfl) ?_
    refine Reg.lod rfl rfl rfl rfl (Lod.ld sc3 rfl hB.blk (hat4 b hb5)) ?_
    refine Reg.op rfl rfl rfl rfl (Does.call rfl (rowBindR_ok _ _ _ (subC_len b a))) ?_
    rintro _ H24_5 ⟨rfl, hE24_5⟩
    have z24_5 := hE24_5.lt
    replace hE := hE.ext hE24_5
    replace hA := hA.ext hE24_5
    replace hB := hB.ext hE24_5
    replace op := op.ext hE24_5
    replace oq := oq.ext hE24_5
    refine Reg.op rfl rfl rfl rfl (Does.bslA ([encB (bR (a.getD 4 0) (subC b a ++ [b.getD 4 0]))]) slA25 rfl rfl rfl rfl rfl rfl) ?_
    rintro _ H24_6 ⟨rfl, hp24_6⟩
    have hn24_6 := New.of_eq hp24_6
    have z24_6 := hn24_6.size
    replace hE := hE.ext hn24_6.ext
    replace hA := hA.ext hn24_6.ext
    replace hB := hB.ext hn24_6.ext
    replace op := op.ext hn24_6.ext
    replace oq := oq.ext hn24_6.ext
    have o24_6 := hn24_6.own
    refine Reg.pur rfl rfl rfl rfl (Pur.asg rfl) ?_
    refine Reg.pur rfl rfl rfl rfl (Pur.asg rfl) ?_
    refine Reg.nil ?_
    refine At.ret rfl Tryd.func19 rfl ?_
    exact uniO_one (by have h1 : a.getD 4 0 ≠ -1 := (by omega); have h2 : b.getD 4 0 ≠ -1 := (by omega); rw [hy]; unfold uniQ moreC; simp_all) rfl o24_6 (by omega) hE
  first | (simp only [decide_eq_true_eq, decide_eq_false_iff_not, Bool.not_eq_true', Bool.not_eq_false', ne_eq, Decidable.not_not, Bool.not_eq_true, Bool.not_eq_false] at q128) | (dsimp only at q128) | skip
  refine At.region rfl rfl ?_
  refine Reg.pur rfl rfl rfl rfl (Pur.mv rfl) ?_
  refine Reg.pur rfl rfl rfl rfl (Pur.not rfl) ?_
  refine Reg.pur rfl rfl rfl rfl (Pur.asg rfl) ?_
  refine Reg.nil ?_
  refine At.cond rfl rfl (fun q138 => ?_) (fun q138 => ?_)
  · first | (simp only [decide_eq_true_eq, decide_eq_false_iff_not, Bool.not_eq_true', Bool.not_eq_false', ne_eq, Decidable.not_not, Bool.not_eq_true, Bool.not_eq_false] at q138) | (dsimp only at q138) | skip
    refine At.region rfl rfl ?_
    refine Reg.pur rfl rfl rfl rfl (Pur.fld _ fo24_1 rfl) ?_
    refine Reg.lod rfl rfl rfl rfl (Lod.ld sc3 rfl hB.blk (hat4 b hb5)) ?_
    refine Reg.lod rfl rfl rfl rfl (Lod.ldn ag22 rfl op.blk (whole rfl) rfl) ?_
    refine Reg.pur rfl rfl rfl rfl (Pur.fld _ fo24_1 rfl) ?_
    refine Reg.lod rfl rfl rfl rfl (Lod.ld sc3 rfl hA.blk (hat4 a ha5)) ?_
    refine Reg.op rfl rfl rfl rfl (Does.call rfl (rowBindR_ok _ _ _ (subC_len a b))) ?_
    rintro _ H26_5 ⟨rfl, hE26_5⟩
    have z26_5 := hE26_5.lt
    replace hE := hE.ext hE26_5
    replace hA := hA.ext hE26_5
    replace hB := hB.ext hE26_5
    replace op := op.ext hE26_5
    replace oq := oq.ext hE26_5
    refine Reg.op rfl rfl rfl rfl (Does.bslA ([encB (bR (b.getD 4 0) (subC a b ++ [a.getD 4 0]))]) slA25 rfl rfl rfl rfl rfl rfl) ?_
    rintro _ H26_6 ⟨rfl, hp26_6⟩
    have hn26_6 := New.of_eq hp26_6
    have z26_6 := hn26_6.size
    replace hE := hE.ext hn26_6.ext
    replace hA := hA.ext hn26_6.ext
    replace hB := hB.ext hn26_6.ext
    replace op := op.ext hn26_6.ext
    replace oq := oq.ext hn26_6.ext
    have o26_6 := hn26_6.own
    refine Reg.pur rfl rfl rfl rfl (Pur.asg rfl) ?_
    refine Reg.pur rfl rfl rfl rfl (Pur.asg rfl) ?_
    refine Reg.nil ?_
    refine At.ret rfl Tryd.func19 rfl ?_
    exact uniO_one (by have h1 : a.getD 4 0 ≠ -1 := (by omega); have h2 : b.getD 4 0 ≠ -1 := (by omega); rw [hy]; unfold uniQ moreC; simp_all) rfl o26_6 (by omega) hE
  first | (simp only [decide_eq_true_eq, decide_eq_false_iff_not, Bool.not_eq_true', Bool.not_eq_false', ne_eq, Decidable.not_not, Bool.not_eq_true, Bool.not_eq_false] at q138) | (dsimp only at q138) | skip
  refine At.drawE ((Bks.cons hA.blk (Bks.cons hB.blk (Bks.cons op.blk (Bks.cons oq.blk Bks.nil))))) [] mixed rfl rfl ?_
  refine RegD.tpur (i := 0) rfl rfl rfl rfl (by kernel_rfl) (Pur.fld _ fo24_1 rfl) ?_
  refine RegD.take (i := 1) rfl rfl rfl rfl (by kernel_rfl) (Bks.cons hA.blk (Bks.cons hB.blk (Bks.cons op.blk (Bks.cons oq.blk Bks.nil)))) (fun H hS => Lod.ld sc3 rfl hS.hd (hat4 a ha5)) ?_
  refine RegD.take (i := 2) rfl rfl rfl rfl (by kernel_rfl) (Bks.cons hA.blk (Bks.cons hB.blk (Bks.cons op.blk (Bks.cons oq.blk Bks.nil)))) (fun H hS => Lod.ldn ag22 rfl hS.tl.tl.tl.hd (whole rfl) rfl) ?_
  refine RegD.tpur (i := 3) rfl rfl rfl rfl (by kernel_rfl) (Pur.mv rfl) ?_
  refine RegD.tpur (i := 5) rfl rfl rfl rfl (by kernel_rfl) (Pur.fld _ fo24_1 rfl) ?_
  refine RegD.take (i := 6) rfl rfl rfl rfl (by kernel_rfl) (Bks.cons hA.blk (Bks.cons hB.blk (Bks.cons op.blk (Bks.cons oq.blk Bks.nil)))) (fun H hS => Lod.ld sc3 rfl hS.tl.hd (hat4 b hb5)) ?_
  refine RegD.take (i := 7) rfl rfl rfl rfl (by kernel_rfl) (Bks.cons hA.blk (Bks.cons hB.blk (Bks.cons op.blk (Bks.cons oq.blk Bks.nil)))) (fun H hS => Lod.ldn ag22 rfl hS.tl.tl.hd (whole rfl) rfl) ?_
  refine RegD.tpur (i := 8) rfl rfl rfl rfl (by kernel_rfl) (Pur.mv rfl) ?_
  refine RegD.one (i := 4) (by kernel_rfl) rfl rfl rfl rfl (Does.call rfl (rowBindR_ok _ _ _ (subC_len b a))) ?_
  rintro _ H27_4 ⟨rfl, hE27_4⟩
  have z27_4 := hE27_4.lt
  replace hE := hE.ext hE27_4
  replace hA := hA.ext hE27_4
  replace hB := hB.ext hE27_4
  replace op := op.ext hE27_4
  replace oq := oq.ext hE27_4
  refine ⟨fun _ _ => (Bks.cons hA.blk (Bks.cons hB.blk (Bks.cons op.blk (Bks.cons oq.blk Bks.nil)))), ?_⟩
  refine RegD.one (i := 9) (by kernel_rfl) rfl rfl rfl rfl (Does.call rfl (rowBindR_ok _ _ _ (subC_len a b))) ?_
  rintro _ H27_9 ⟨rfl, hE27_9⟩
  have z27_9 := hE27_9.lt
  replace hE := hE.ext hE27_9
  replace hA := hA.ext hE27_9
  replace hB := hB.ext hE27_9
  replace op := op.ext hE27_9
  replace oq := oq.ext hE27_9
  refine ⟨fun _ _ => (Bks.cons hA.blk (Bks.cons hB.blk (Bks.cons op.blk (Bks.cons oq.blk Bks.nil)))), ?_⟩
  refine RegD.one (i := 10) (by kernel_rfl) rfl rfl rfl rfl (Does.bslA ([encB (bR (a.getD 4 0) (subC b a ++ [f])), encB (bR (b.getD 4 0) (subC a b ++ [f]))]) slA25 rfl rfl rfl rfl rfl rfl) ?_
  rintro _ H27_10 ⟨rfl, hp27_10⟩
  have hn27_10 := New.of_eq hp27_10
  have z27_10 := hn27_10.size
  replace hE := hE.ext hn27_10.ext
  replace hA := hA.ext hn27_10.ext
  replace hB := hB.ext hn27_10.ext
  replace op := op.ext hn27_10.ext
  replace oq := oq.ext hn27_10.ext
  have o27_10 := hn27_10.own
  refine ⟨fun _ _ => (Bks.cons hA.blk (Bks.cons hB.blk (Bks.cons op.blk (Bks.cons oq.blk Bks.nil)))), ?_⟩
  refine RegD.tpur (i := 11) rfl rfl rfl rfl (by kernel_rfl) (Pur.asg rfl) ?_
  refine RegD.tpur (i := 12) rfl rfl rfl rfl (by kernel_rfl) (Pur.asg rfl) ?_
  refine RegD.done (by kernel_rfl) ?_
  refine At.ret rfl Tryd.func19 rfl ?_
  exact uniO_two (by have h1 : a.getD 4 0 ≠ -1 := (by omega); have h2 : b.getD 4 0 ≠ -1 := (by omega); rw [hy]; unfold uniQ moreC; simp_all) rfl rfl o27_10 (by omega) hE

theorem spoilNil_ok (H : Heap) : Ret Tryd.prog 48 [Ty none 0 0] H (fun _ H' => Ext H H') := by
  refine (spoilT_ok (A := none) (cap := 0) (g := H.size) (L := []) (c0 := []) (nine_lit rfl) (by decide) (.inl rfl)).mono ?_
  rintro v H' (⟨_, h⟩ | h)
  · exact h
  · exact ⟨h.1, fun b hb => h.2 b hb (by omega)⟩
def RwB (Bs : List Bd) : Prop := ∀ b ∈ Bs, ∃ v r, b = bR v r ∧ r.length = 5
theorem rwb_one {v : Int} {r : List Int} (h : r.length = 5) : RwB [bR v r] := fun b hb => ⟨v, r, List.mem_singleton.1 hb, h⟩
theorem rwb_two {v w : Int} {r s : List Int} (h : r.length = 5) (k : s.length = 5) : RwB [bR v r, bR w s] := by
  intro b hb
  simp at hb
  rcases hb with rfl | rfl
  · exact ⟨_, _, rfl, h⟩
  · exact ⟨_, _, rfl, k⟩
theorem rwb_nil : RwB [] := fun b hb => by cases hb
theorem uniR_rwb (a b : List Int) (f : Int) : RwB (uniR a b f).1 ∧ (uniR a b f).1.length ≤ 2 := by
  unfold uniR
  split
  · unfold uniQ
    repeat' split
    all_goals first | exact ⟨rwb_nil, by simp⟩ | exact ⟨rwb_one rfl, by simp⟩ | exact ⟨rwb_two rfl rfl, by simp⟩
  · exact ⟨rwb_nil, by simp⟩
theorem spoilR_ok {A : Option Addr} {cap : Nat} {Bs : List Bd} (hR : RwB Bs) (hl : Bs.length ≤ 2) {H : Heap} (h : (Bs = [] ∧ A = none) ∨ ∃ b, A = some ⟨b, 0, none⟩ ∧ Own H b (Bs.flatMap encB)) :
    Ret Tryd.prog 28 [.slice A Bs.length cap] H (fun _ H' => But (fun g => (g : Int) = ob A) H H') := by
  have hw : Wide encB 8 Bs := fun x hx => by
    obtain ⟨v, r, rfl, h5⟩ := hR x hx
    simp [bR, h5]
  have hinv : Bs.length = 0 ∨ ∃ g c, A = some ⟨g, 0, none⟩ ∧ Own H g c ∧ Bs.length * 8 ≤ c.length ∧ ∀ j (hj : j < Bs.length), 0 ≤ j → (c.drop (j * 8)).take 8 = encB Bs[j] := by
    rcases h with ⟨rfl, _⟩ | ⟨g, rfl, ho⟩
    · exact .inl rfl
    · refine .inr ⟨g, _, rfl, ho, by rw [flat_len hw]; exact Nat.le_refl _, fun j hj _ => row_rd hw hj (by rw [← flat_len hw, List.take_length])⟩
  clear h
  refine Ret.of_at (N := 25) Tryd.call28 Tryd.func28 rfl rfl rfl ?_
  have hE := Ext.refl H
  refine At.region rfl rfl ?_
  refine Reg.pur rfl rfl rfl rfl (Pur.asg rfl) ?_
  refine Reg.nil ?_
  refine At.loop (σ := Nat) (fun i => [(2, I i), (0, .slice A Bs.length cap)]) (fun i H' => i ≤ Bs.length ∧ But (fun g => (g : Int) = ob A) H H' ∧ (Bs.length = 0 ∨ ∃ g c, A = some ⟨g, 0, none⟩ ∧ Own H' g c ∧ Bs.length * 8 ≤ c.length ∧ ∀ j (hj : j < Bs.length), i ≤ j → (c.drop (j * 8)).take 8 = encB Bs[j])) (fun i => Bs.length - i) 0 rfl ⟨rfl, rfl, trivial⟩ ⟨by omega, hE.but, hinv⟩ ?_
  clear hinv hE
  rintro i H3 ⟨hi, hbut, hinv⟩ ih

  refine At.region rfl rfl ?_
  refine Reg.pur rfl rfl rfl rfl (Pur.mv rfl) ?_
  refine Reg.pur rfl rfl rfl rfl (Pur.mv rfl) ?_
  refine Reg.pur rfl rfl rfl rfl (Pur.lenS isl25 rfl) ?_
  refine Reg.pur rfl rfl rfl rfl (Pur.lss rfl rfl) ?_
  refine Reg.nil ?_
  refine At.cond rfl rfl (fun q6 => ?_) (fun q6 => ?_)
  · first | (simp only [decide_eq_true_eq, decide_eq_false_iff_not, Bool.not_eq_true', Bool.not_eq_false', ne_eq, Decidable.not_not, Bool.not_eq_true, Bool.not_eq_false] at q6) | (dsimp only at q6) | skip
    have hi' : i < Bs.length := by omega
    obtain ⟨g, c, rfl, ho, hcl, hall⟩ := hinv.resolve_left (by omega)
    have hd := hall i hi' (Nat.le_refl _)
    obtain ⟨v, r, hb, h5⟩ := hR _ (List.getElem_mem hi')
    rw [hb] at hd
    have hob : ob (some ⟨g, 0, none⟩) = g := ob_some g 0
    have hgl := ho.lt
    have z_ho := ho.lt
    refine At.region rfl rfl ?_
    refine Reg.pur rfl rfl rfl rfl (Pur.mv rfl) ?_
    refine Reg.pur rfl rfl rfl rfl (Pur.mv rfl) ?_
    refine Reg.pur rfl rfl rfl rfl (Pur.idx _ es25 rfl rfl (by omega) (by omega)) ?_
    refine Reg.pur rfl rfl rfl rfl (Pur.fld _ fo57_2 rfl) ?_
    refine Reg.lod rfl rfl rfl rfl (Lod.ldn ag55 rfl ho.blk (sp_ld hd) rfl) ?_
    refine Reg.op rfl rfl rfl rfl (Does.call rfl (spoilNil_ok _)) ?_
    rintro w3_5 H3_5 hE3_5
    have z3_5 := hE3_5.lt
    replace ho := ho.ext hE3_5
    refine Reg.nil ?_
    refine At.region rfl rfl ?_
    refine Reg.pur rfl rfl rfl rfl (Pur.mv rfl) ?_
    refine Reg.pur rfl rfl rfl rfl (Pur.mv rfl) ?_
    refine Reg.pur rfl rfl rfl rfl (Pur.mv rfl) ?_
    refine Reg.pur rfl rfl rfl rfl (Pur.mv rfl) ?_
    refine Reg.pur rfl rfl rfl rfl (Pur.idx _ es25 rfl rfl (by omega) (by omega)) ?_
    refine Reg.pur rfl rfl rfl rfl (Pur.fld _ fo57_0 rfl) ?_
    refine Reg.lod rfl rfl rfl rfl (Lod.ld sc3 rfl ho.blk (by rw [Int.toNat_natCast, Nat.zero_add]; exact at_tk hd (by decide) rfl)) ?_
    refine Reg.pur rfl rfl rfl rfl (Pur.xor rfl rfl) ?_
    refine Reg.pur rfl rfl rfl rfl (Pur.idx _ es25 rfl rfl (by omega) (by omega)) ?_
    refine Reg.pur rfl rfl rfl rfl (Pur.fld _ fo57_0 rfl) ?_
    refine Reg.op0 rfl rfl rfl (Does.st sc3 rfl rfl rfl ho (by rw [Int.toNat_natCast]; omega)) ?_
    rintro _ H4_10 hu4_10
    have z4_10 := hu4_10.size
    replace ho := hu4_10.own
    refine Reg.nil ?_
    refine At.region rfl rfl ?_
    refine Reg.pur rfl rfl rfl rfl (Pur.mv rfl) ?_
    first | refine Reg.pur rfl rfl rfl rfl (Pur.add64 rfl rfl (by omega)) ?_ | refine Reg.pur rfl rfl rfl rfl (Pur.add64 rfl rfl (by assumption)) ?_ | refine Reg.pur rfl rfl rfl rfl (Pur.add rfl rfl) ?_
    refine Reg.pur rfl rfl rfl rfl (Pur.asg rfl) ?_
    refine Reg.nil ?_
    have hb1 : But (fun g' => (g' : Int) = ob (some ⟨g, 0, none⟩)) H3 H4_10 := hE3_5.but.trans (hu4_10.but.mono (fun b hb e => by rw [hob, e]))
    refine At.via (ih (i + 1) _ ⟨by omega, hbut.trans hb1, .inr ⟨g, _, rfl, ho, by rw [List.length_set]; exact hcl, fun j hj hij => ?_⟩⟩ (by omega)) ⟨rfl, rfl, trivial⟩
    rw [List.drop_set_of_lt (by rw [Int.toNat_natCast]; omega)]
    exact hall j hj (by omega)
  first | (simp only [decide_eq_true_eq, decide_eq_false_iff_not, Bool.not_eq_true', Bool.not_eq_false', ne_eq, Decidable.not_not, Bool.not_eq_true, Bool.not_eq_false] at q6) | (dsimp only at q6) | skip
  refine At.fall rfl Tryd.func28 rfl ?_
  exact hbut
end Go.Proofs.YtlfillhffpiffaaDoor

namespace Go.Proofs.YtlfillhffpiffaaDoor
set_option linter.unusedSimpArgs false
set_option linter.unusedVariables false
set_option maxRecDepth 8000
set_option maxHeartbeats 1000000
open Go Go.Fx Go.Proofs
namespace FactsDRwC
theorem ag24 : ag Tryd.prog 24 = some 5 := by kernel_rfl
theorem arr22 : arr Tryd.prog 22 = some (4, 1) := by kernel_rfl
theorem es25 : esz Tryd.prog 25 = some 8 := by kernel_rfl
theorem fo24_0 : foff Tryd.prog 24 0 = some 0 := by kernel_rfl
theorem fo24_1 : foff Tryd.prog 24 1 = some 4 := by kernel_rfl
theorem fo57_0 : foff Tryd.prog 57 0 = some 0 := by kernel_rfl
theorem fo57_1 : foff Tryd.prog 57 1 = some 1 := by kernel_rfl
theorem fo57_3 : foff Tryd.prog 57 3 = some 3 := by kernel_rfl
theorem isl25 : isSl Tryd.prog 25 = true := by kernel_rfl
theorem pl24 : places Tryd.prog 24 = some [(0, 4), (4, 1)] := by kernel_rfl
theorem sc3 : sc Tryd.prog 3 = true := by kernel_rfl
theorem sc4 : sc Tryd.prog 4 = true := by kernel_rfl
theorem zc24 : zc Tryd.prog 24 = some [.int .i64 0, .int .i64 0, .int .i64 0, .int .i64 0, .int .i64 0] := by kernel_rfl
end FactsDRwC
open FactsDRwC

abbrev raA : List Int := [1, 0, 0, 0, 0]
abbrev raB : List Int := [0, 0, 2, 0, 1]
theorem ra1 : uniR raA raB 5 = ([bR 0 [0, 0, 2, 0, 5], bR 1 [1, 0, 0, 0, 5]], 0) := by rw [uniR_yes (by decide)]; rfl
theorem ra2 : uniR raA [0, 0, 0, 0, -1] 5 = ([], 801) := by rw [uniR_yes (by decide)]; rfl
theorem ra3 : uniR raA raB 1 = ([], 800) := uniR_no (by decide)
theorem ra4 : uniR raA [0, 0, 0, 0, 0] 5 = ([], 801) := by rw [uniR_yes (by decide)]; rfl
theorem ra5 : wth raA 0 = ([2, 0, 0, 0, 0], 0) := by decide
theorem ra6 : wth raA 4 = (noRow, 800) := by decide
theorem ra7 : rtV raB = (⟨#[60, 111, 50, 44, 111, 50, 124, 101, 48, 62]⟩, 0) := by
  rw [rtV_yes (by decide)]
  refine Prod.ext (WideShapes.bytes_inj ?_) rfl
  kernel_rfl
theorem awake8_ok {H : Heap} (hT : Tens H) : Ret Tryd.prog 29 [] H (fun v H' => v = .bool true ∧ Ext H H') := by
  refine Ret.of_at (N := 165) Tryd.call29 Tryd.func29 rfl rfl rfl ?_
  have hE := Ext.refl H
  refine At.region rfl rfl ?_
  refine Reg.pur rfl rfl rfl rfl (Pur.asg rfl) ?_
  refine Reg.nil ?_
  refine At.region rfl rfl ?_
  refine Reg.pur rfl rfl rfl rfl (Pur.bld (cs := [_, _, _, _, _]) pl24 zc24 rfl rfl ⟨rfl, rfl, rfl, rfl, rfl, rfl⟩) ?_
  refine Reg.pur rfl rfl rfl rfl (Pur.bld (cs := [_, _, _, _, _]) pl24 zc24 rfl rfl ⟨rfl, rfl, rfl, rfl, rfl, rfl⟩) ?_
  refine Reg.op rfl rfl rfl rfl (Does.alloc zc24) ?_
  rintro _ H1_2 ⟨rfl, hn1_2⟩
  have z1_2 := hn1_2.size
  replace hE := hE.ext hn1_2.ext
  have o1_2 := hn1_2.own
  refine Reg.op rfl rfl rfl rfl (Does.alloc zc24) ?_
  rintro _ H1_3 ⟨rfl, hn1_3⟩
  have z1_3 := hn1_3.size
  replace hE := hE.ext hn1_3.ext
  replace o1_2 := o1_2.ext hn1_3.ext
  have o1_3 := hn1_3.own
  refine Reg.op0 rfl rfl rfl (Does.stn ag24 rfl rfl (by first | rfl | exact ones_Is _) (by first | rfl | (simp [*]; done)) o1_2 (by first | decide | (simp; done) | (simp; omega) | omega)) ?_
  rintro _ H1_4 hu1_4
  have z1_4 := hu1_4.size
  replace hE := hE.upw hu1_4 (by omega)
  replace o1_3 := o1_3.upw hu1_4 (by omega)
  replace o1_2 := hu1_4.own
  first | rw [over (by first | rfl | (simp; done))] at o1_2 | skip
  refine Reg.op0 rfl rfl rfl (Does.stn ag24 rfl rfl (by first | rfl | exact ones_Is _) (by first | rfl | (simp [*]; done)) o1_3 (by first | decide | (simp; done) | (simp; omega) | omega)) ?_
  rintro _ H1_5 hu1_5
  have z1_5 := hu1_5.size
  replace hE := hE.upw hu1_5 (by omega)
  replace o1_2 := o1_2.upw hu1_5 (by omega)
  replace o1_3 := hu1_5.own
  first | rw [over (by first | rfl | (simp; done))] at o1_3 | skip
  refine Reg.nil ?_
  refine At.region rfl rfl ?_
  refine Reg.pur rfl rfl rfl rfl (Pur.fld _ fo24_0 rfl) ?_
  refine Reg.pur rfl rfl rfl rfl (Pur.idxP arr22 rfl rfl (by omega) (by omega)) ?_
  refine Reg.op0 rfl rfl rfl (Does.st sc3 rfl rfl rfl o1_2 (by first | decide | (simp; done) | (simp; omega) | omega)) ?_
  rintro _ H2_2 hu2_2
  have z2_2 := hu2_2.size
  replace hE := hE.upw hu2_2 (by omega)
  replace o1_3 := o1_3.upw hu2_2 (by omega)
  replace o1_2 := hu2_2.own
  refine Reg.nil ?_
  refine At.region rfl rfl ?_
  refine Reg.pur rfl rfl rfl rfl (Pur.fld _ fo24_0 rfl) ?_
  refine Reg.pur rfl rfl rfl rfl (Pur.idxP arr22 rfl rfl (by omega) (by omega)) ?_
  refine Reg.op0 rfl rfl rfl (Does.st sc3 rfl rfl rfl o1_3 (by first | decide | (simp; done) | (simp; omega) | omega)) ?_
  rintro _ H3_2 hu3_2
  have z3_2 := hu3_2.size
  replace hE := hE.upw hu3_2 (by omega)
  replace o1_2 := o1_2.upw hu3_2 (by omega)
  replace o1_3 := hu3_2.own
  refine Reg.nil ?_
  refine At.region rfl rfl ?_
  refine Reg.lod rfl rfl rfl rfl (Lod.ldn ag24 rfl o1_2.blk (whole rfl) rfl) ?_
  refine Reg.lod rfl rfl rfl rfl (Lod.ldn ag24 rfl o1_3.blk (whole rfl) rfl) ?_
  refine Reg.op rfl rfl rfl rfl (Does.call rfl (rowUnifyO_ok raA raB 5 rfl rfl _)) ?_
  rintro v4_2 H4_2 ⟨A4, k4, rfl, hB4, hO4, hE4_2⟩
  have z4_2 := hE4_2.lt
  replace hE := hE.ext hE4_2
  replace o1_2 := o1_2.ext hE4_2
  replace o1_3 := o1_3.ext hE4_2
  rw [ra1] at hB4 hO4 ⊢
  obtain ⟨b4, rfl, hb4, ho4⟩ := hO4.resolve_left (by simp)
  have z_ho4 := ho4.lt
  refine Reg.pur rfl rfl rfl rfl (Pur.mv rfl) ?_
  refine Reg.pur rfl rfl rfl rfl (Pur.ext rfl rfl) ?_
  refine Reg.pur rfl rfl rfl rfl (Pur.ext rfl rfl) ?_
  refine Reg.pur rfl rfl rfl rfl (Pur.asg rfl) ?_
  refine Reg.pur rfl rfl rfl rfl (Pur.asg rfl) ?_
  refine Reg.nil ?_
  refine At.region rfl rfl ?_
  refine Reg.lod rfl rfl rfl rfl (Lod.ldn ag24 rfl o1_3.blk (whole rfl) rfl) ?_
  refine Reg.op rfl rfl rfl rfl (Does.call rfl (rowTextP_ok (r := raB) rfl (hT.ext hE))) ?_
  rintro _ H5_1 ⟨rfl, hE5_1⟩
  have z5_1 := hE5_1.lt
  replace hE := hE.ext hE5_1
  replace o1_2 := o1_2.ext hE5_1
  replace o1_3 := o1_3.ext hE5_1
  replace ho4 := ho4.ext hE5_1
  rw [ra7]
  refine Reg.pur rfl rfl rfl rfl (Pur.mv rfl) ?_
  refine Reg.pur rfl rfl rfl rfl (Pur.ext rfl rfl) ?_
  refine Reg.pur rfl rfl rfl rfl (Pur.ext rfl rfl) ?_
  refine Reg.pur rfl rfl rfl rfl (Pur.asg rfl) ?_
  refine Reg.pur rfl rfl rfl rfl (Pur.asg rfl) ?_
  refine Reg.nil ?_
  refine At.region rfl rfl ?_
  refine Reg.lod rfl rfl rfl rfl (Lod.ldn ag24 rfl o1_2.blk (whole rfl) rfl) ?_
  refine Reg.op rfl rfl rfl rfl (Does.call rfl (withP_ok (r := raA) rfl 0)) ?_
  rintro _ H6_1 ⟨rfl, hE6_1⟩
  have z6_1 := hE6_1.lt
  replace hE := hE.ext hE6_1
  replace o1_2 := o1_2.ext hE6_1
  replace o1_3 := o1_3.ext hE6_1
  replace ho4 := ho4.ext hE6_1
  rw [ra5]
  refine Reg.pur rfl rfl rfl rfl (Pur.mv rfl) ?_
  refine Reg.pur rfl rfl rfl rfl (Pur.ext rfl rfl) ?_
  refine Reg.pur rfl rfl rfl rfl (Pur.ext rfl rfl) ?_
  refine Reg.op rfl rfl rfl rfl (Does.alloc zc24) ?_
  rintro _ H6_5 ⟨rfl, hn6_5⟩
  have z6_5 := hn6_5.size
  replace hE := hE.ext hn6_5.ext
  replace o1_2 := o1_2.ext hn6_5.ext
  replace o1_3 := o1_3.ext hn6_5.ext
  replace ho4 := ho4.ext hn6_5.ext
  have o6_5 := hn6_5.own
  refine Reg.op0 rfl rfl rfl (Does.stn ag24 rfl rfl (by first | rfl | exact ones_Is _) (by first | rfl | (simp [*]; done)) o6_5 (by first | decide | (simp; done) | (simp; omega) | omega)) ?_
  rintro _ H6_6 hu6_6
  have z6_6 := hu6_6.size
  replace hE := hE.upw hu6_6 (by omega)
  replace o1_2 := o1_2.upw hu6_6 (by omega)
  replace o1_3 := o1_3.upw hu6_6 (by omega)
  replace ho4 := ho4.upw hu6_6 (by omega)
  replace o6_5 := hu6_6.own
  first | rw [over (by first | rfl | (simp; done))] at o6_5 | skip
  refine Reg.pur rfl rfl rfl rfl (Pur.asg rfl) ?_
  refine Reg.nil ?_
  refine At.region rfl rfl ?_
  refine Reg.lod rfl rfl rfl rfl (Lod.ldn ag24 rfl o1_2.blk (whole rfl) rfl) ?_
  refine Reg.pur rfl rfl rfl rfl (Pur.bld (cs := [_, _, _, _, _]) pl24 zc24 rfl rfl ⟨rfl, rfl, rfl, rfl, rfl, rfl⟩) ?_
  refine Reg.op rfl rfl rfl rfl (Does.call rfl (rowUnifyO_ok raA [0, 0, 0, 0, -1] 5 rfl rfl _)) ?_
  rintro v7_2 H7_2 ⟨A7, k7, rfl, hB7, hO7, hE7_2⟩
  have z7_2 := hE7_2.lt
  replace hE := hE.ext hE7_2
  replace o1_2 := o1_2.ext hE7_2
  replace o1_3 := o1_3.ext hE7_2
  replace ho4 := ho4.ext hE7_2
  replace o6_5 := o6_5.ext hE7_2
  rw [ra2]
  refine Reg.pur rfl rfl rfl rfl (Pur.mv rfl) ?_
  refine Reg.pur rfl rfl rfl rfl (Pur.ext rfl rfl) ?_
  refine Reg.pur rfl rfl rfl rfl (Pur.ext rfl rfl) ?_
  refine Reg.pur rfl rfl rfl rfl (Pur.asg rfl) ?_
  refine Reg.pur rfl rfl rfl rfl (Pur.asg rfl) ?_
  refine Reg.nil ?_
  refine At.region rfl rfl ?_
  refine Reg.lod rfl rfl rfl rfl (Lod.ldn ag24 rfl o1_2.blk (whole rfl) rfl) ?_
  refine Reg.lod rfl rfl rfl rfl (Lod.ldn ag24 rfl o1_3.blk (whole rfl) rfl) ?_
  refine Reg.op rfl rfl rfl rfl (Does.call rfl (rowUnifyO_ok raA raB 1 rfl rfl _)) ?_
  rintro v8_2 H8_2 ⟨A8, k8, rfl, hB8, hO8, hE8_2⟩
  have z8_2 := hE8_2.lt
  replace hE := hE.ext hE8_2
  replace o1_2 := o1_2.ext hE8_2
  replace o1_3 := o1_3.ext hE8_2
  replace ho4 := ho4.ext hE8_2
  replace o6_5 := o6_5.ext hE8_2
  rw [ra3]
  refine Reg.pur rfl rfl rfl rfl (Pur.mv rfl) ?_
  refine Reg.pur rfl rfl rfl rfl (Pur.ext rfl rfl) ?_
  refine Reg.pur rfl rfl rfl rfl (Pur.ext rfl rfl) ?_
  refine Reg.pur rfl rfl rfl rfl (Pur.asg rfl) ?_
  refine Reg.pur rfl rfl rfl rfl (Pur.asg rfl) ?_
  refine Reg.nil ?_
  refine At.region rfl rfl ?_
  refine Reg.lod rfl rfl rfl rfl (Lod.ldn ag24 rfl o1_2.blk (whole rfl) rfl) ?_
  refine Reg.op rfl rfl rfl rfl (Does.call rfl (withP_ok (r := raA) rfl 4)) ?_
  rintro _ H9_1 ⟨rfl, hE9_1⟩
  have z9_1 := hE9_1.lt
  replace hE := hE.ext hE9_1
  replace o1_2 := o1_2.ext hE9_1
  replace o1_3 := o1_3.ext hE9_1
  replace ho4 := ho4.ext hE9_1
  replace o6_5 := o6_5.ext hE9_1
  rw [ra6]
  refine Reg.pur rfl rfl rfl rfl (Pur.mv rfl) ?_
  refine Reg.pur rfl rfl rfl rfl (Pur.ext rfl rfl) ?_
  refine Reg.pur rfl rfl rfl rfl (Pur.ext rfl rfl) ?_
  refine Reg.op rfl rfl rfl rfl (Does.alloc zc24) ?_
  rintro _ H9_5 ⟨rfl, hn9_5⟩
  have z9_5 := hn9_5.size
  replace hE := hE.ext hn9_5.ext
  replace o1_2 := o1_2.ext hn9_5.ext
  replace o1_3 := o1_3.ext hn9_5.ext
  replace ho4 := ho4.ext hn9_5.ext
  replace o6_5 := o6_5.ext hn9_5.ext
  have o9_5 := hn9_5.own
  refine Reg.op0 rfl rfl rfl (Does.stn ag24 rfl rfl (by first | rfl | exact ones_Is _) (by first | rfl | (simp [*]; done)) o9_5 (by first | decide | (simp; done) | (simp; omega) | omega)) ?_
  rintro _ H9_6 hu9_6
  have z9_6 := hu9_6.size
  replace hE := hE.upw hu9_6 (by omega)
  replace o1_2 := o1_2.upw hu9_6 (by omega)
  replace o1_3 := o1_3.upw hu9_6 (by omega)
  replace ho4 := ho4.upw hu9_6 (by omega)
  replace o6_5 := o6_5.upw hu9_6 (by omega)
  replace o9_5 := hu9_6.own
  first | rw [over (by first | rfl | (simp; done))] at o9_5 | skip
  refine Reg.pur rfl rfl rfl rfl (Pur.asg rfl) ?_
  refine Reg.nil ?_
  refine At.region rfl rfl ?_
  refine Reg.lod rfl rfl rfl rfl (Lod.ldn ag24 rfl o1_2.blk (whole rfl) rfl) ?_
  refine Reg.pur rfl rfl rfl rfl (Pur.bld (cs := [_, _, _, _, _]) pl24 zc24 rfl rfl ⟨rfl, rfl, rfl, rfl, rfl, rfl⟩) ?_
  refine Reg.op rfl rfl rfl rfl (Does.call rfl (rowUnifyO_ok raA [0, 0, 0, 0, 0] 5 rfl rfl _)) ?_
  rintro v10_2 H10_2 ⟨A10, k10, rfl, hB10, hO10, hE10_2⟩
  have z10_2 := hE10_2.lt
  replace hE := hE.ext hE10_2
  replace o1_2 := o1_2.ext hE10_2
  replace o1_3 := o1_3.ext hE10_2
  replace ho4 := ho4.ext hE10_2
  replace o6_5 := o6_5.ext hE10_2
  replace o9_5 := o9_5.ext hE10_2
  rw [ra4]
  refine Reg.pur rfl rfl rfl rfl (Pur.mv rfl) ?_
  refine Reg.pur rfl rfl rfl rfl (Pur.ext rfl rfl) ?_
  refine Reg.pur rfl rfl rfl rfl (Pur.ext rfl rfl) ?_
  refine Reg.pur rfl rfl rfl rfl (Pur.asg rfl) ?_
  refine Reg.pur rfl rfl rfl rfl (Pur.asg rfl) ?_
  refine Reg.nil ?_
  refine At.region rfl rfl ?_
  refine Reg.pur rfl rfl rfl rfl (Pur.mv rfl) ?_
  refine Reg.pur rfl rfl rfl rfl (Pur.lenS isl25 rfl) ?_
  refine Reg.pur rfl rfl rfl rfl (Pur.eql rfl rfl) ?_
  refine Reg.pur rfl rfl rfl rfl (Pur.mv rfl) ?_
  refine Reg.known (b' := true) 65 rfl (by first | rfl | decide | simp) ?_
  refine Reg.gpur rfl rfl rfl rfl rfl rfl (Pur.mv rfl) ?_
  refine Reg.gpur rfl rfl rfl rfl rfl rfl (Pur.idx _ es25 rfl rfl (by decide) (by simp)) ?_
  refine Reg.gpur rfl rfl rfl rfl rfl rfl (Pur.fld _ fo57_0 rfl) ?_
  refine Reg.glod rfl rfl rfl rfl rfl rfl (Lod.ld sc3 rfl ho4.blk rfl) ?_
  refine Reg.gpur rfl rfl rfl rfl rfl rfl (Pur.eql rfl rfl) ?_
  refine Reg.pur rfl rfl rfl rfl (Pur.pickT rfl rfl) ?_
  refine Reg.pur rfl rfl rfl rfl (Pur.mv rfl) ?_
  refine Reg.known (b' := true) 72 rfl (by first | rfl | decide | simp) ?_
  refine Reg.gpur rfl rfl rfl rfl rfl rfl (Pur.mv rfl) ?_
  refine Reg.gpur rfl rfl rfl rfl rfl rfl (Pur.idx _ es25 rfl rfl (by decide) (by simp)) ?_
  refine Reg.gpur rfl rfl rfl rfl rfl rfl (Pur.fld _ fo57_1 rfl) ?_
  refine Reg.glod rfl rfl rfl rfl rfl rfl (Lod.ld sc4 rfl ho4.blk rfl) ?_
  refine Reg.pur rfl rfl rfl rfl (Pur.pickT rfl rfl) ?_
  refine Reg.pur rfl rfl rfl rfl (Pur.mv rfl) ?_
  refine Reg.known (b' := true) 78 rfl (by first | rfl | decide | simp) ?_
  refine Reg.gpur rfl rfl rfl rfl rfl rfl (Pur.mv rfl) ?_
  refine Reg.gpur rfl rfl rfl rfl rfl rfl (Pur.idx _ es25 rfl rfl (by decide) (by simp)) ?_
  refine Reg.gpur rfl rfl rfl rfl rfl rfl (Pur.fld _ fo57_3 rfl) ?_
  refine Reg.gpur rfl rfl rfl rfl rfl rfl (Pur.fld _ fo24_0 rfl) ?_
  refine Reg.gpur rfl rfl rfl rfl rfl rfl (Pur.idxP arr22 rfl rfl (by omega) (by omega)) ?_
  refine Reg.glod rfl rfl rfl rfl rfl rfl (Lod.ld sc3 rfl ho4.blk rfl) ?_
  refine Reg.gpur rfl rfl rfl rfl rfl rfl (Pur.eql rfl rfl) ?_
  refine Reg.pur rfl rfl rfl rfl (Pur.pickT rfl rfl) ?_
  refine Reg.pur rfl rfl rfl rfl (Pur.mv rfl) ?_
  refine Reg.known (b' := true) 87 rfl (by first | rfl | decide | simp) ?_
  refine Reg.gpur rfl rfl rfl rfl rfl rfl (Pur.mv rfl) ?_
  refine Reg.gpur rfl rfl rfl rfl rfl rfl (Pur.idx _ es25 rfl rfl (by decide) (by simp)) ?_
  refine Reg.gpur rfl rfl rfl rfl rfl rfl (Pur.fld _ fo57_3 rfl) ?_
  refine Reg.gpur rfl rfl rfl rfl rfl rfl (Pur.fld _ fo24_1 rfl) ?_
  refine Reg.glod rfl rfl rfl rfl rfl rfl (Lod.ld sc3 rfl ho4.blk rfl) ?_
  refine Reg.gpur rfl rfl rfl rfl rfl rfl (Pur.eql rfl rfl) ?_
  refine Reg.pur rfl rfl rfl rfl (Pur.pickT rfl rfl) ?_
  refine Reg.pur rfl rfl rfl rfl (Pur.mv rfl) ?_
  refine Reg.known (b' := true) 95 rfl (by first | rfl | decide | simp) ?_
  refine Reg.gpur rfl rfl rfl rfl rfl rfl (Pur.mv rfl) ?_
  refine Reg.gpur rfl rfl rfl rfl rfl rfl (Pur.idx _ es25 rfl rfl (by decide) (by simp)) ?_
  refine Reg.gpur rfl rfl rfl rfl rfl rfl (Pur.fld _ fo57_0 rfl) ?_
  refine Reg.glod rfl rfl rfl rfl rfl rfl (Lod.ld sc3 rfl ho4.blk rfl) ?_
  refine Reg.gpur rfl rfl rfl rfl rfl rfl (Pur.eql rfl rfl) ?_
  refine Reg.pur rfl rfl rfl rfl (Pur.pickT rfl rfl) ?_
  refine Reg.pur rfl rfl rfl rfl (Pur.mv rfl) ?_
  refine Reg.known (b' := true) 102 rfl (by first | rfl | decide | simp) ?_
  refine Reg.gpur rfl rfl rfl rfl rfl rfl (Pur.mv rfl) ?_
  refine Reg.gpur rfl rfl rfl rfl rfl rfl (Pur.idx _ es25 rfl rfl (by decide) (by simp)) ?_
  refine Reg.gpur rfl rfl rfl rfl rfl rfl (Pur.fld _ fo57_3 rfl) ?_
  refine Reg.gpur rfl rfl rfl rfl rfl rfl (Pur.fld _ fo24_0 rfl) ?_
  refine Reg.gpur rfl rfl rfl rfl rfl rfl (Pur.idxP arr22 rfl rfl (by omega) (by omega)) ?_
  refine Reg.glod rfl rfl rfl rfl rfl rfl (Lod.ld sc3 rfl ho4.blk rfl) ?_
  refine Reg.gpur rfl rfl rfl rfl rfl rfl (Pur.eql rfl rfl) ?_
  refine Reg.pur rfl rfl rfl rfl (Pur.pickT rfl rfl) ?_
  refine Reg.pur rfl rfl rfl rfl (Pur.mv rfl) ?_
  refine Reg.known (b' := true) 111 rfl (by first | rfl | decide | simp) ?_
  refine Reg.gpur rfl rfl rfl rfl rfl rfl (Pur.mv rfl) ?_
  refine Reg.gop rfl rfl rfl rfl rfl rfl (Does.call rfl (numE_ok _ _)) ?_
  rintro _ H10_2 ⟨rfl, rfl⟩
  refine Reg.gpur rfl rfl rfl rfl rfl rfl (Pur.eql rfl rfl) ?_
  refine Reg.pur rfl rfl rfl rfl (Pur.pickT rfl rfl) ?_
  refine Reg.pur rfl rfl rfl rfl (Pur.mv rfl) ?_
  refine Reg.known (b' := true) 116 rfl (by first | rfl | decide | simp) ?_
  refine Reg.gpur rfl rfl rfl rfl rfl rfl (Pur.mv rfl) ?_
  refine Reg.gpur rfl rfl rfl rfl rfl rfl (Pur.eqS rfl rfl) ?_
  refine Reg.pur rfl rfl rfl rfl (Pur.pickT rfl rfl) ?_
  refine Reg.pur rfl rfl rfl rfl (Pur.mv rfl) ?_
  refine Reg.known (b' := true) 120 rfl (by first | rfl | decide | simp) ?_
  refine Reg.gpur rfl rfl rfl rfl rfl rfl (Pur.mv rfl) ?_
  refine Reg.gop rfl rfl rfl rfl rfl rfl (Does.call rfl (numE_ok _ _)) ?_
  rintro _ H10_2 ⟨rfl, rfl⟩
  refine Reg.gpur rfl rfl rfl rfl rfl rfl (Pur.eql rfl rfl) ?_
  refine Reg.pur rfl rfl rfl rfl (Pur.pickT rfl rfl) ?_
  refine Reg.pur rfl rfl rfl rfl (Pur.mv rfl) ?_
  refine Reg.known (b' := true) 125 rfl (by first | rfl | decide | simp) ?_
  refine Reg.gpur rfl rfl rfl rfl rfl rfl (Pur.fld _ fo24_0 rfl) ?_
  refine Reg.gpur rfl rfl rfl rfl rfl rfl (Pur.idxP arr22 rfl rfl (by omega) (by omega)) ?_
  refine Reg.glod rfl rfl rfl rfl rfl rfl (Lod.ld sc3 rfl o6_5.blk rfl) ?_
  refine Reg.gpur rfl rfl rfl rfl rfl rfl (Pur.eql rfl rfl) ?_
  refine Reg.pur rfl rfl rfl rfl (Pur.pickT rfl rfl) ?_
  refine Reg.pur rfl rfl rfl rfl (Pur.mv rfl) ?_
  refine Reg.known (b' := true) 131 rfl (by first | rfl | decide | simp) ?_
  refine Reg.gpur rfl rfl rfl rfl rfl rfl (Pur.mv rfl) ?_
  refine Reg.gop rfl rfl rfl rfl rfl rfl (Does.call rfl (numE_ok _ _)) ?_
  rintro _ H10_2 ⟨rfl, rfl⟩
  refine Reg.gpur rfl rfl rfl rfl rfl rfl (Pur.eql rfl rfl) ?_
  refine Reg.pur rfl rfl rfl rfl (Pur.pickT rfl rfl) ?_
  refine Reg.pur rfl rfl rfl rfl (Pur.mv rfl) ?_
  refine Reg.known (b' := true) 136 rfl (by first | rfl | decide | simp) ?_
  refine Reg.gpur rfl rfl rfl rfl rfl rfl (Pur.mv rfl) ?_
  refine Reg.gop rfl rfl rfl rfl rfl rfl (Does.call rfl (numE_ok _ _)) ?_
  rintro _ H10_2 ⟨rfl, rfl⟩
  refine Reg.gpur rfl rfl rfl rfl rfl rfl (Pur.eql rfl rfl) ?_
  refine Reg.pur rfl rfl rfl rfl (Pur.pickT rfl rfl) ?_
  refine Reg.pur rfl rfl rfl rfl (Pur.mv rfl) ?_
  refine Reg.known (b' := true) 141 rfl (by first | rfl | decide | simp) ?_
  refine Reg.gpur rfl rfl rfl rfl rfl rfl (Pur.mv rfl) ?_
  refine Reg.gop rfl rfl rfl rfl rfl rfl (Does.call rfl (numE_ok _ _)) ?_
  rintro _ H10_2 ⟨rfl, rfl⟩
  refine Reg.gpur rfl rfl rfl rfl rfl rfl (Pur.eql rfl rfl) ?_
  refine Reg.pur rfl rfl rfl rfl (Pur.pickT rfl rfl) ?_
  refine Reg.pur rfl rfl rfl rfl (Pur.mv rfl) ?_
  refine Reg.known (b' := true) 146 rfl (by first | rfl | decide | simp) ?_
  refine Reg.gpur rfl rfl rfl rfl rfl rfl (Pur.mv rfl) ?_
  refine Reg.gop rfl rfl rfl rfl rfl rfl (Does.call rfl (numE_ok _ _)) ?_
  rintro _ H10_2 ⟨rfl, rfl⟩
  refine Reg.gpur rfl rfl rfl rfl rfl rfl (Pur.eql rfl rfl) ?_
  refine Reg.pur rfl rfl rfl rfl (Pur.pickT rfl rfl) ?_
  refine Reg.pur rfl rfl rfl rfl (Pur.mv rfl) ?_
  refine Reg.known (b' := true) 151 rfl (by first | rfl | decide | simp) ?_
  refine Reg.gpur rfl rfl rfl rfl rfl rfl (Pur.mv rfl) ?_
  refine Reg.gop rfl rfl rfl rfl rfl rfl (Does.call rfl (numE_ok _ _)) ?_
  rintro _ H10_2 ⟨rfl, rfl⟩
  refine Reg.gpur rfl rfl rfl rfl rfl rfl (Pur.eql rfl rfl) ?_
  refine Reg.pur rfl rfl rfl rfl (Pur.pickT rfl rfl) ?_
  refine Reg.pur rfl rfl rfl rfl (Pur.mv rfl) ?_
  refine Reg.known (b' := true) 156 rfl (by first | rfl | decide | simp) ?_
  refine Reg.glod rfl rfl rfl rfl rfl rfl (Lod.ldn ag24 rfl o1_2.blk (whole rfl) rfl) ?_
  refine Reg.gop rfl rfl rfl rfl rfl rfl (Does.call rfl (rowMay_ok raA rfl _)) ?_
  rintro _ H11_96 ⟨rfl, hE11_96⟩
  have z11_96 := hE11_96.lt
  replace hE := hE.ext hE11_96
  replace o1_2 := o1_2.ext hE11_96
  replace o1_3 := o1_3.ext hE11_96
  replace ho4 := ho4.ext hE11_96
  replace o6_5 := o6_5.ext hE11_96
  replace o9_5 := o9_5.ext hE11_96
  refine Reg.pur rfl rfl rfl rfl (Pur.pickT rfl rfl) ?_
  refine Reg.pur rfl rfl rfl rfl (Pur.mv rfl) ?_
  refine Reg.known (b' := true) 160 rfl (by first | rfl | decide | simp) ?_
  refine Reg.gpur rfl rfl rfl rfl rfl rfl (Pur.bld (cs := [_, _, _, _, _]) pl24 zc24 rfl rfl ⟨rfl, rfl, rfl, rfl, rfl, rfl⟩) ?_
  refine Reg.gop rfl rfl rfl rfl rfl rfl (Does.call rfl (rowMay_ok [0, 0, 0, 0, -2] rfl _)) ?_
  rintro _ H11_100 ⟨rfl, hE11_100⟩
  have z11_100 := hE11_100.lt
  replace hE := hE.ext hE11_100
  replace o1_2 := o1_2.ext hE11_100
  replace o1_3 := o1_3.ext hE11_100
  replace ho4 := ho4.ext hE11_100
  replace o6_5 := o6_5.ext hE11_100
  replace o9_5 := o9_5.ext hE11_100
  refine Reg.gpur rfl rfl rfl rfl rfl rfl (Pur.not rfl) ?_
  refine Reg.pur rfl rfl rfl rfl (Pur.pickT rfl rfl) ?_
  refine Reg.pur rfl rfl rfl rfl (Pur.asg rfl) ?_
  refine Reg.nil ?_
  refine At.ret rfl Tryd.func29 rfl ?_
  exact ⟨rfl, hE⟩
end Go.Proofs.YtlfillhffpiffaaDoor

namespace Go.Proofs.YtlfillhffpiffaaDoor
set_option linter.unusedSimpArgs false
set_option linter.unusedVariables false
set_option maxRecDepth 8000
set_option maxHeartbeats 1000000
open Go Go.Fx Go.Proofs
namespace FactsDRwD
theorem ag24 : ag Tryd.prog 24 = some 5 := by kernel_rfl
theorem eqt24 : eqT Tryd.prog 24 = some [.int .i64, .int .i64, .int .i64, .int .i64, .int .i64] := by kernel_rfl
theorem mixed : Tryd.prog.follows .mixedOrders = true := by kernel_rfl
theorem zc24 : zc Tryd.prog 24 = some [.int .i64 0, .int .i64 0, .int .i64 0, .int .i64 0, .int .i64 0] := by kernel_rfl
end FactsDRwD
open FactsDRwD

theorem rows_law {a b : List Int} (ha : a.length = 5) (hb : b.length = 5) (f op : Int) {H : Heap} (hT : Tens H) :
    Ret Tryd.prog 3 [.agg (Is a).toArray, .agg (Is b).toArray, I f, I op] H (fun v H' => v = .bool true ∧ Ext H H') := by
  have ha' : (Is a).length = 5 := by simp [ha]
  have hb' : (Is b).length = 5 := by simp [hb]
  have hw5 := wth_len ha op
  have hw5' : (Is (wth a op).1).length = 5 := by simp [hw5]
  have hfw := fks_ints .i64 (wth a op).1
  rw [hw5] at hfw
  have hrw := uniR_rwb a b f
  have zT : gT < H.size := hT.lt
  refine Ret.of_at (N := 99) Tryd.call3 Tryd.func3 rfl rfl rfl ?_
  have hE := Ext.refl H
  refine At.region rfl rfl ?_
  refine Reg.op rfl rfl rfl rfl (Does.box rfl rfl) ?_
  rintro _ H0_0 ⟨rfl, hn0_0⟩
  have z0_0 := hn0_0.size
  replace hE := hE.ext hn0_0.ext
  have o0_0 := hn0_0.own
  refine Reg.op rfl rfl rfl rfl (Does.box rfl rfl) ?_
  rintro _ H0_1 ⟨rfl, hn0_1⟩
  have z0_1 := hn0_1.size
  replace hE := hE.ext hn0_1.ext
  replace o0_0 := o0_0.ext hn0_1.ext
  have o0_1 := hn0_1.own
  refine Reg.pur rfl rfl rfl rfl (Pur.asg rfl) ?_
  refine Reg.nil ?_
  refine At.region rfl rfl ?_
  refine Reg.lod rfl rfl rfl rfl (Lod.ldn ag24 rfl o0_0.blk (whole ha') ha') ?_
  refine Reg.lod rfl rfl rfl rfl (Lod.ldn ag24 rfl o0_1.blk (whole hb') hb') ?_
  refine Reg.pur rfl rfl rfl rfl (Pur.mv rfl) ?_
  refine Reg.op rfl rfl rfl rfl (Does.call rfl (rowUnifyO_ok a b f ha hb _)) ?_
  rintro v1_3 H1_3 ⟨A1, k1, rfl, hB1, hO1, hE1_3⟩
  have z1_3 := hE1_3.lt
  replace hE := hE.ext hE1_3
  replace o0_0 := o0_0.ext hE1_3
  replace o0_1 := o0_1.ext hE1_3
  have hb1 : ob A1 = -1 ∨ (H.size : Int) ≤ ob A1 := by rcases hO1 with ⟨_, h⟩ | ⟨b1, h, h1, _⟩ <;> rw [h]; exact .inl ob_none; exact .inr (by rw [ob_some]; omega)
  have hX1 := Ext.refl H1_3
  have z_hX1 := hX1.lt
  refine Reg.pur rfl rfl rfl rfl (Pur.mv rfl) ?_
  refine Reg.pur rfl rfl rfl rfl (Pur.ext rfl rfl) ?_
  refine Reg.pur rfl rfl rfl rfl (Pur.ext rfl rfl) ?_
  refine Reg.pur rfl rfl rfl rfl (Pur.asg rfl) ?_
  refine Reg.pur rfl rfl rfl rfl (Pur.asg rfl) ?_
  refine Reg.nil ?_
  refine At.region rfl rfl ?_
  refine Reg.lod rfl rfl rfl rfl (Lod.ldn ag24 rfl o0_0.blk (whole ha') ha') ?_
  refine Reg.lod rfl rfl rfl rfl (Lod.ldn ag24 rfl o0_1.blk (whole hb') hb') ?_
  refine Reg.pur rfl rfl rfl rfl (Pur.mv rfl) ?_
  refine Reg.op rfl rfl rfl rfl (Does.call rfl (unifyRowsO_ok a b f ha hb _)) ?_
  rintro v2_3 H2_3 ⟨A2, k2, rfl, hB2, hO2, hE2_3⟩
  have z2_3 := hE2_3.lt
  replace hE := hE.ext hE2_3
  replace o0_0 := o0_0.ext hE2_3
  replace o0_1 := o0_1.ext hE2_3
  replace hX1 := hX1.ext hE2_3
  have hX2 := Ext.refl H2_3
  have z_hX2 := hX2.lt
  refine Reg.pur rfl rfl rfl rfl (Pur.mv rfl) ?_
  refine Reg.pur rfl rfl rfl rfl (Pur.ext rfl rfl) ?_
  refine Reg.pur rfl rfl rfl rfl (Pur.ext rfl rfl) ?_
  refine Reg.pur rfl rfl rfl rfl (Pur.asg rfl) ?_
  refine Reg.pur rfl rfl rfl rfl (Pur.asg rfl) ?_
  refine Reg.nil ?_
  refine At.region rfl rfl ?_
  refine Reg.lod rfl rfl rfl rfl (Lod.ldn ag24 rfl o0_0.blk (whole ha') ha') ?_
  refine Reg.op rfl rfl rfl rfl (Does.call rfl (rowTextP_ok ha (hT.ext hE))) ?_
  rintro _ H3_1 ⟨rfl, hE3_1⟩
  have z3_1 := hE3_1.lt
  replace hE := hE.ext hE3_1
  replace o0_0 := o0_0.ext hE3_1
  replace o0_1 := o0_1.ext hE3_1
  replace hX1 := hX1.ext hE3_1
  replace hX2 := hX2.ext hE3_1
  refine Reg.pur rfl rfl rfl rfl (Pur.mv rfl) ?_
  refine Reg.pur rfl rfl rfl rfl (Pur.ext rfl rfl) ?_
  refine Reg.pur rfl rfl rfl rfl (Pur.ext rfl rfl) ?_
  refine Reg.pur rfl rfl rfl rfl (Pur.asg rfl) ?_
  refine Reg.pur rfl rfl rfl rfl (Pur.asg rfl) ?_
  refine Reg.nil ?_
  refine At.region rfl rfl ?_
  refine Reg.lod rfl rfl rfl rfl (Lod.ldn ag24 rfl o0_0.blk (whole ha') ha') ?_
  refine Reg.op rfl rfl rfl rfl (Does.call rfl (rowTextR_ok ha)) ?_
  rintro _ H4_1 ⟨rfl, hE4_1⟩
  have z4_1 := hE4_1.lt
  replace hE := hE.ext hE4_1
  replace o0_0 := o0_0.ext hE4_1
  replace o0_1 := o0_1.ext hE4_1
  replace hX1 := hX1.ext hE4_1
  replace hX2 := hX2.ext hE4_1
  refine Reg.pur rfl rfl rfl rfl (Pur.mv rfl) ?_
  refine Reg.pur rfl rfl rfl rfl (Pur.ext rfl rfl) ?_
  refine Reg.pur rfl rfl rfl rfl (Pur.ext rfl rfl) ?_
  refine Reg.pur rfl rfl rfl rfl (Pur.asg rfl) ?_
  refine Reg.pur rfl rfl rfl rfl (Pur.asg rfl) ?_
  refine Reg.nil ?_
  refine At.region rfl rfl ?_
  refine Reg.lod rfl rfl rfl rfl (Lod.ldn ag24 rfl o0_0.blk (whole ha') ha') ?_
  refine Reg.pur rfl rfl rfl rfl (Pur.mv rfl) ?_
  refine Reg.op rfl rfl rfl rfl (Does.call rfl (withP_ok ha op)) ?_
  rintro _ H5_2 ⟨rfl, hE5_2⟩
  have z5_2 := hE5_2.lt
  replace hE := hE.ext hE5_2
  replace o0_0 := o0_0.ext hE5_2
  replace o0_1 := o0_1.ext hE5_2
  replace hX1 := hX1.ext hE5_2
  replace hX2 := hX2.ext hE5_2
  refine Reg.pur rfl rfl rfl rfl (Pur.mv rfl) ?_
  refine Reg.pur rfl rfl rfl rfl (Pur.ext rfl rfl) ?_
  refine Reg.pur rfl rfl rfl rfl (Pur.ext rfl rfl) ?_
  refine Reg.op rfl rfl rfl rfl (Does.alloc zc24) ?_
  rintro _ H5_6 ⟨rfl, hn5_6⟩
  have z5_6 := hn5_6.size
  replace hE := hE.ext hn5_6.ext
  replace o0_0 := o0_0.ext hn5_6.ext
  replace o0_1 := o0_1.ext hn5_6.ext
  replace hX1 := hX1.ext hn5_6.ext
  replace hX2 := hX2.ext hn5_6.ext
  have o5_6 := hn5_6.own
  refine Reg.op0 rfl rfl rfl (Does.stn ag24 rfl rfl (by first | rfl | exact ones_Is _) (by first | rfl | (simp [*]; done)) o5_6 (by first | decide | (simp; done) | (simp; omega) | omega)) ?_
  rintro _ H5_7 hu5_7
  have z5_7 := hu5_7.size
  replace hE := hE.upw hu5_7 (by omega)
  replace o0_0 := o0_0.upw hu5_7 (by omega)
  replace o0_1 := o0_1.upw hu5_7 (by omega)
  replace hX1 := hX1.upw hu5_7 (by omega)
  replace hX2 := hX2.upw hu5_7 (by omega)
  replace o5_6 := hu5_7.own
  first | rw [over (by first | rfl | (simp; done))] at o5_6 | skip
  refine Reg.pur rfl rfl rfl rfl (Pur.asg rfl) ?_
  refine Reg.nil ?_
  refine At.region rfl rfl ?_
  refine Reg.lod rfl rfl rfl rfl (Lod.ldn ag24 rfl o0_0.blk (whole ha') ha') ?_
  refine Reg.pur rfl rfl rfl rfl (Pur.mv rfl) ?_
  refine Reg.op rfl rfl rfl rfl (Does.call rfl (withR_ok ha op)) ?_
  rintro _ H6_2 ⟨rfl, hE6_2⟩
  have z6_2 := hE6_2.lt
  replace hE := hE.ext hE6_2
  replace o0_0 := o0_0.ext hE6_2
  replace o0_1 := o0_1.ext hE6_2
  replace hX1 := hX1.ext hE6_2
  replace hX2 := hX2.ext hE6_2
  replace o5_6 := o5_6.ext hE6_2
  refine Reg.pur rfl rfl rfl rfl (Pur.mv rfl) ?_
  refine Reg.pur rfl rfl rfl rfl (Pur.ext rfl rfl) ?_
  refine Reg.pur rfl rfl rfl rfl (Pur.ext rfl rfl) ?_
  refine Reg.op rfl rfl rfl rfl (Does.alloc zc24) ?_
  rintro _ H6_6 ⟨rfl, hn6_6⟩
  have z6_6 := hn6_6.size
  replace hE := hE.ext hn6_6.ext
  replace o0_0 := o0_0.ext hn6_6.ext
  replace o0_1 := o0_1.ext hn6_6.ext
  replace hX1 := hX1.ext hn6_6.ext
  replace hX2 := hX2.ext hn6_6.ext
  replace o5_6 := o5_6.ext hn6_6.ext
  have o6_6 := hn6_6.own
  refine Reg.op0 rfl rfl rfl (Does.stn ag24 rfl rfl (by first | rfl | exact ones_Is _) (by first | rfl | (simp [*]; done)) o6_6 (by first | decide | (simp; done) | (simp; omega) | omega)) ?_
  rintro _ H6_7 hu6_7
  have z6_7 := hu6_7.size
  replace hE := hE.upw hu6_7 (by omega)
  replace o0_0 := o0_0.upw hu6_7 (by omega)
  replace o0_1 := o0_1.upw hu6_7 (by omega)
  replace hX1 := hX1.upw hu6_7 (by omega)
  replace hX2 := hX2.upw hu6_7 (by omega)
  replace o5_6 := o5_6.upw hu6_7 (by omega)
  replace o6_6 := hu6_7.own
  first | rw [over (by first | rfl | (simp; done))] at o6_6 | skip
  refine Reg.pur rfl rfl rfl rfl (Pur.asg rfl) ?_
  refine Reg.nil ?_
  refine At.drawE ((Bks.cons o0_0.blk (Bks.cons o5_6.blk (Bks.cons o6_6.blk Bks.nil)))) [] mixed rfl rfl ?_
  refine RegD.tpur (i := 0) rfl rfl rfl rfl (by kernel_rfl) (Pur.mv rfl) ?_
  refine RegD.tpur (i := 1) rfl rfl rfl rfl (by kernel_rfl) (Pur.mv rfl) ?_
  refine RegD.one (i := 2) (by kernel_rfl) rfl rfl rfl rfl (Does.call rfl (sameBinds_ok (hB1.ext hX1) (hB2.ext hX2))) ?_
  rintro _ H7_2 ⟨rfl, hE7_2⟩
  have z7_2 := hE7_2.lt
  replace hE := hE.ext hE7_2
  replace o0_0 := o0_0.ext hE7_2
  replace o0_1 := o0_1.ext hE7_2
  replace hX1 := hX1.ext hE7_2
  replace hX2 := hX2.ext hE7_2
  replace o5_6 := o5_6.ext hE7_2
  replace o6_6 := o6_6.ext hE7_2
  refine ⟨fun _ _ => (Bks.cons o0_0.blk (Bks.cons o5_6.blk (Bks.cons o6_6.blk Bks.nil))), ?_⟩
  refine RegD.tpur (i := 3) rfl rfl rfl rfl (by kernel_rfl) (Pur.not rfl) ?_
  refine RegD.tpur (i := 4) rfl rfl rfl rfl (by kernel_rfl) (Pur.mv rfl) ?_
  refine RegD.known (b' := false) 61 rfl (by first | rfl | simp) ?_
  refine RegD.gtpur (i := 5) rfl rfl rfl rfl rfl rfl (by kernel_rfl) (Pur.mv rfl) ?_
  refine RegD.gtpur (i := 7) rfl rfl rfl rfl rfl rfl (by kernel_rfl) (Pur.mv rfl) ?_
  refine RegD.gone (i := 6) (by kernel_rfl) rfl rfl rfl rfl rfl rfl (Does.call rfl (numE_ok _ _)) ?_
  rintro _ H7_2 ⟨rfl, rfl⟩
  refine ⟨fun _ _ => (Bks.cons o0_0.blk (Bks.cons o5_6.blk (Bks.cons o6_6.blk Bks.nil))), ?_⟩
  refine RegD.gtpur (i := 8) rfl rfl rfl rfl rfl rfl (by kernel_rfl) (Pur.neq rfl rfl) ?_
  refine RegD.tpur (i := 9) rfl rfl rfl rfl (by kernel_rfl) (Pur.pickF rfl rfl) ?_
  refine RegD.tpur (i := 10) rfl rfl rfl rfl (by kernel_rfl) (Pur.mv rfl) ?_
  refine RegD.known (b' := false) 67 rfl (by first | rfl | simp) ?_
  refine RegD.gtpur (i := 11) rfl rfl rfl rfl rfl rfl (by kernel_rfl) (Pur.mv rfl) ?_
  refine RegD.gtpur (i := 12) rfl rfl rfl rfl rfl rfl (by kernel_rfl) (Pur.mv rfl) ?_
  refine RegD.gtpur (i := 13) rfl rfl rfl rfl rfl rfl (by kernel_rfl) (Pur.neS rfl rfl) ?_
  refine RegD.tpur (i := 14) rfl rfl rfl rfl (by kernel_rfl) (Pur.pickF rfl rfl) ?_
  refine RegD.tpur (i := 15) rfl rfl rfl rfl (by kernel_rfl) (Pur.mv rfl) ?_
  refine RegD.known (b' := false) 72 rfl (by first | rfl | simp) ?_
  refine RegD.gtpur (i := 16) rfl rfl rfl rfl rfl rfl (by kernel_rfl) (Pur.mv rfl) ?_
  refine RegD.gtpur (i := 18) rfl rfl rfl rfl rfl rfl (by kernel_rfl) (Pur.mv rfl) ?_
  refine RegD.gone (i := 17) (by kernel_rfl) rfl rfl rfl rfl rfl rfl (Does.call rfl (numE_ok _ _)) ?_
  rintro _ H7_2 ⟨rfl, rfl⟩
  refine ⟨fun _ _ => (Bks.cons o0_0.blk (Bks.cons o5_6.blk (Bks.cons o6_6.blk Bks.nil))), ?_⟩
  refine RegD.gtpur (i := 19) rfl rfl rfl rfl rfl rfl (by kernel_rfl) (Pur.neq rfl rfl) ?_
  refine RegD.tpur (i := 20) rfl rfl rfl rfl (by kernel_rfl) (Pur.pickF rfl rfl) ?_
  refine RegD.tpur (i := 21) rfl rfl rfl rfl (by kernel_rfl) (Pur.mv rfl) ?_
  refine RegD.known (b' := false) 78 rfl (by first | rfl | simp) ?_
  refine RegD.gtake (i := 22) rfl rfl rfl rfl rfl rfl (by kernel_rfl) (Bks.cons o0_0.blk (Bks.cons o5_6.blk (Bks.cons o6_6.blk Bks.nil))) (fun H hS => Lod.ldn ag24 rfl hS.tl.hd (whole hw5') hw5') ?_
  refine RegD.gtake (i := 23) rfl rfl rfl rfl rfl rfl (by kernel_rfl) (Bks.cons o0_0.blk (Bks.cons o5_6.blk (Bks.cons o6_6.blk Bks.nil))) (fun H hS => Lod.ldn ag24 rfl hS.tl.tl.hd (whole hw5') hw5') ?_
  refine RegD.gtpur (i := 24) rfl rfl rfl rfl rfl rfl (by kernel_rfl) (Pur.neA eqt24 rfl rfl hfw hfw) ?_
  refine RegD.tpur (i := 25) rfl rfl rfl rfl (by kernel_rfl) (Pur.pickF rfl rfl) ?_
  refine RegD.tpur (i := 26) rfl rfl rfl rfl (by kernel_rfl) (Pur.mv rfl) ?_
  refine RegD.known (b' := false) 83 rfl (by first | rfl | simp [eqs_self]) ?_
  refine RegD.gtpur (i := 27) rfl rfl rfl rfl rfl rfl (by kernel_rfl) (Pur.mv rfl) ?_
  refine RegD.gtpur (i := 29) rfl rfl rfl rfl rfl rfl (by kernel_rfl) (Pur.mv rfl) ?_
  refine RegD.gone (i := 28) (by kernel_rfl) rfl rfl rfl rfl rfl rfl (Does.call rfl (numE_ok _ _)) ?_
  rintro _ H7_2 ⟨rfl, rfl⟩
  refine ⟨fun _ _ => (Bks.cons o0_0.blk (Bks.cons o5_6.blk (Bks.cons o6_6.blk Bks.nil))), ?_⟩
  refine RegD.gtpur (i := 30) rfl rfl rfl rfl rfl rfl (by kernel_rfl) (Pur.neq rfl rfl) ?_
  refine RegD.tpur (i := 31) rfl rfl rfl rfl (by kernel_rfl) (Pur.pickF rfl rfl) ?_
  refine RegD.tpur (i := 32) rfl rfl rfl rfl (by kernel_rfl) (Pur.mv rfl) ?_
  refine RegD.known (b' := false) 89 rfl (by first | rfl | simp) ?_
  refine RegD.gtake (i := 33) rfl rfl rfl rfl rfl rfl (by kernel_rfl) (Bks.cons o0_0.blk (Bks.cons o5_6.blk (Bks.cons o6_6.blk Bks.nil))) (fun H hS => Lod.ldn ag24 rfl hS.hd (whole ha') ha') ?_
  refine RegD.gtake (i := 35) rfl rfl rfl rfl rfl rfl (by kernel_rfl) (Bks.cons o0_0.blk (Bks.cons o5_6.blk (Bks.cons o6_6.blk Bks.nil))) (fun H hS => Lod.ldn ag24 rfl hS.hd (whole ha') ha') ?_
  refine RegD.gone (i := 34) (by kernel_rfl) rfl rfl rfl rfl rfl rfl (Does.call rfl (rowMay_ok a ha _)) ?_
  rintro _ H7_34 ⟨rfl, hE7_34⟩
  have z7_34 := hE7_34.lt
  replace hE := hE.ext hE7_34
  replace o0_0 := o0_0.ext hE7_34
  replace o0_1 := o0_1.ext hE7_34
  replace hX1 := hX1.ext hE7_34
  replace hX2 := hX2.ext hE7_34
  replace o5_6 := o5_6.ext hE7_34
  replace o6_6 := o6_6.ext hE7_34
  refine ⟨fun _ _ => (Bks.cons o0_0.blk (Bks.cons o5_6.blk (Bks.cons o6_6.blk Bks.nil))), ?_⟩
  refine RegD.gone (i := 36) (by kernel_rfl) rfl rfl rfl rfl rfl rfl (Does.call rfl (rowMayR_ok a ha _)) ?_
  rintro _ H7_36 ⟨rfl, hE7_36⟩
  have z7_36 := hE7_36.lt
  replace hE := hE.ext hE7_36
  replace o0_0 := o0_0.ext hE7_36
  replace o0_1 := o0_1.ext hE7_36
  replace hX1 := hX1.ext hE7_36
  replace hX2 := hX2.ext hE7_36
  replace o5_6 := o5_6.ext hE7_36
  replace o6_6 := o6_6.ext hE7_36
  refine ⟨fun _ _ => (Bks.cons o0_0.blk (Bks.cons o5_6.blk (Bks.cons o6_6.blk Bks.nil))), ?_⟩
  refine RegD.gtpur (i := 37) rfl rfl rfl rfl rfl rfl (by kernel_rfl) (Pur.neB Tryd.underlying4 rfl rfl) ?_
  refine RegD.tpur (i := 38) rfl rfl rfl rfl (by kernel_rfl) (Pur.pickF rfl rfl) ?_
  refine RegD.done (by kernel_rfl) ?_
  refine At.condF rfl rfl (by first | rfl | simp) ?_
  refine At.region rfl rfl ?_
  refine Reg.pur rfl rfl rfl rfl (Pur.mv rfl) ?_

  have hE0 := hE

  refine Reg.op rfl rfl rfl rfl (Does.call rfl (spoilR_ok hrw.1 hrw.2 (hO1.imp id (fun ⟨b1, h, _, ho⟩ ↦ ⟨b1, h, ho.ext hX1⟩)))) ?_
  rintro _ H9_1 hbut9_1
  have z9_1 := hbut9_1.lt
  have hE1 : Ext H H9_1 := hE0.via hbut9_1 (fun g hg h => by omega)
  refine Reg.nil ?_
  refine At.region rfl rfl ?_
  refine Reg.op rfl rfl rfl rfl (Does.call rfl (awake8_ok (hT.ext hE1))) ?_
  rintro _ H10_0 ⟨rfl, hE210_0⟩
  have z10_0 := hE210_0.lt
  refine Reg.pur rfl rfl rfl rfl (Pur.asg rfl) ?_
  refine Reg.nil ?_
  refine At.ret rfl Tryd.func3 rfl ?_
  exact ⟨rfl, hE1.trans hE210_0⟩
end Go.Proofs.YtlfillhffpiffaaDoor

namespace Go.Proofs.YtlfillhffpiffaaDoor
set_option linter.unusedSimpArgs false
set_option linter.unusedVariables false
set_option maxRecDepth 100000
open Go Go.Fx Go.Proofs

theorem own : ownKnob Tryd.prog.godebug = none := by kernel_rfl
theorem laidOut : laidOutB Tryd.prog = true := by kernel_rfl
def litsOf : DataW Unit → Array Value
  | .agg l => (l.map fun | .lit (.int k n) => Value.int k n | _ => undef).toArray
  | _ => #[]
def put (a : Array Value) : Obj → Obj
  | .cells _ t fr => .cells a t fr
  | o => o
noncomputable def laidWorld (os : Os) : World :=
  let w0 := World.holding Tryd.prog os ⟨#[], #[], []⟩
  { w0 with heap := ((w0.heap.modify 0 (put (litsOf Rows.laid_internal_strconv_uint64pow10))).modify 2 (put (litsOf Rows.laid_math_bits_deBruijn32tab))).modify 3 (put (litsOf Rows.laid_math_bits_deBruijn64tab)) }
theorem laid_met (os : Os) (args : Array Value) : laidMet Tryd.prog Rows.rowsRow.laid ((laidWorld os).forCall (fun _ _ => 0) ⟨#[], args, []⟩).memory :=
  laidMet_of_run' 8 (by kernel_rfl) (by kernel_rfl)
theorem tab_eq : (Rows.laid_internal_strconv_uint64pow10 : DataW Unit) = Lib.tabData .u64 Lib.pow10Tab := by kernel_rfl
theorem tens_of {W : World} (h : laidMet Tryd.prog Rows.rowsRow.laid W) : Tens W.heap := by
  obtain ⟨g, t, cs, fuel, p, hg, hty, hvar, hd⟩ := Lib.laidMet.reads h (.tail _ (.tail _ (.head _)))
  obtain rfl := Option.some.inj ((show Tryd.prog.globalNamed _ = some 0 by kernel_rfl).symm.trans hg)
  obtain rfl := Option.some.inj ((show (Tryd.prog.globals[0]?).map (·.type) = some 172 by kernel_rfl).symm.trans hty)
  rw [tab_eq] at hd
  have hcs := Lib.cells_of_tab Tryd.underlying172 Tryd.underlying93 (by kernel_rfl) (by kernel_rfl) hd
  unfold World.var? at hvar
  rw [hg] at hvar
  simp only [Option.bind_some] at hvar
  cases hx : W.heap[0]? with
  | none => rw [hx] at hvar; cases hvar
  | some ob =>
    rw [hx] at hvar
    cases ob with
    | cells c T fr =>
      simp only [Option.some.injEq] at hvar
      subst hvar
      exact ⟨T, fr, by rw [hx, tens, ← hcs]⟩
    | _ => cases hvar
end Go.Proofs.YtlfillhffpiffaaDoor

namespace Go.Proofs.YtlfillhffpiffaaDoor
set_option linter.unusedSimpArgs false
set_option linter.unusedVariables false
set_option maxRecDepth 8000
set_option maxHeartbeats 1000000
open Go Go.Fx Go.Proofs
namespace FactsDRwI
theorem ag24 : ag Tryd.prog 24 = some 5 := by kernel_rfl
theorem arr22 : arr Tryd.prog 22 = some (4, 1) := by kernel_rfl
theorem es25 : esz Tryd.prog 25 = some 8 := by kernel_rfl
theorem fo24_0 : foff Tryd.prog 24 0 = some 0 := by kernel_rfl
theorem fo24_1 : foff Tryd.prog 24 1 = some 4 := by kernel_rfl
theorem fo57_0 : foff Tryd.prog 57 0 = some 0 := by kernel_rfl
theorem fo57_1 : foff Tryd.prog 57 1 = some 1 := by kernel_rfl
theorem fo57_3 : foff Tryd.prog 57 3 = some 3 := by kernel_rfl
theorem isl25 : isSl Tryd.prog 25 = true := by kernel_rfl
theorem mixed : Tryd.prog.follows .mixedOrders = true := by kernel_rfl
theorem sc3 : sc Tryd.prog 3 = true := by kernel_rfl
theorem sc4 : sc Tryd.prog 4 = true := by kernel_rfl
theorem zc24 : zc Tryd.prog 24 = some [.int .i64 0, .int .i64 0, .int .i64 0, .int .i64 0, .int .i64 0] := by kernel_rfl
end FactsDRwI
open FactsDRwI

def und : List Bd → List Int → List Int
  | [], r => r
  | b :: Bs, r => if b.var = r.getD 4 0 then adR r b.row else und Bs r
theorem und_len {r : List Int} (h : r.length = 5) : ∀ Bs : List Bd, (und Bs r).length = 5
  | [] => h
  | b :: Bs => by unfold und; split; exact rfl; exact und_len h Bs
theorem und_drop {Bs : List Bd} {r : List Int} {i : Nat} (hi : i < Bs.length) (h : ¬ Bs[i].var = r.getD 4 0) : und (Bs.drop i) r = und (Bs.drop (i + 1)) r := by
  rw [List.drop_eq_getElem_cons hi]; unfold und; rw [if_neg h]; cases Bs.drop (i + 1) <;> rfl
theorem und_hit {Bs : List Bd} {r : List Int} {i : Nat} (hi : i < Bs.length) (h : Bs[i].var = r.getD 4 0) : und (Bs.drop i) r = adR r Bs[i].row := by
  rw [List.drop_eq_getElem_cons hi]; unfold und; rw [if_pos h]
def adTo (r s : List Int) (j : Nat) : List Int := (List.range 4).map (fun i => if i < j then r.getD i 0 + s.getD i 0 else r.getD i 0) ++ [r.getD 4 0]
theorem adTo_len (r s : List Int) (j : Nat) : (adTo r s j).length = 5 := by simp [adTo]
theorem adTo_0 {r : List Int} (h : r.length = 5) (s : List Int) : adTo r s 0 = r := by
  obtain ⟨a, b, c, d, e, rfl⟩ := row_five h
  rfl
theorem adTo_set (r s : List Int) {j : Nat} (hj : j < 4) : (adTo r s j).set j (r.getD j 0 + s.getD j 0) = adTo r s (j + 1) := by
  match j, hj with
  | 0, _ => rfl
  | 1, _ => rfl
  | 2, _ => rfl
  | 3, _ => rfl
theorem adTo_at (r s : List Int) {j : Nat} (hj : j < 4) : (adTo r s j).getD j 0 = r.getD j 0 := by
  match j, hj with
  | 0, _ => rfl
  | 1, _ => rfl
  | 2, _ => rfl
  | 3, _ => rfl
theorem adTo_end (r s : List Int) : (adTo r s 4).set 4 (s.getD 4 0) = adR r s := rfl

theorem under_ok {A : Option Addr} {cap : Nat} {Bs : List Bd} {r : List Int} (hR : RwB Bs) (h5 : r.length = 5) (hr : ∀ i, i < 4 → -1000 ≤ r.getD i 0 ∧ r.getD i 0 ≤ 1000) (hb : ∀ b ∈ Bs, ∀ i, i < 4 → -1000 ≤ b.row.getD i 0 ∧ b.row.getD i 0 ≤ 1000) {H : Heap} (hB : Bds H (.slice A Bs.length cap) Bs) :
    Ret Tryd.prog 30 [.slice A Bs.length cap, .agg (Is r).toArray] H (fun v H' => v = .agg (Is (und Bs r)).toArray ∧ Ext H H') := by
  have hm := hB.max
  have hal : ∀ s j, (Is (adTo r s j)).length = 5 := fun s j => by simp [adTo_len]
  refine Ret.of_at (N := 57) Tryd.call30 Tryd.func30 rfl rfl rfl ?_
  have hE := Ext.refl H
  refine At.region rfl rfl ?_
  refine Reg.op rfl rfl rfl rfl (Does.box rfl rfl) ?_
  rintro _ H0_0 ⟨rfl, hn0_0⟩
  have z0_0 := hn0_0.size
  replace hE := hE.ext hn0_0.ext
  have o0_0 := hn0_0.own
  refine Reg.op rfl rfl rfl rfl (Does.alloc zc24) ?_
  rintro _ H0_1 ⟨rfl, hn0_1⟩
  have z0_1 := hn0_1.size
  replace hE := hE.ext hn0_1.ext
  replace o0_0 := o0_0.ext hn0_1.ext
  have o0_1 := hn0_1.own
  refine Reg.nil ?_
  refine At.region rfl rfl ?_
  refine Reg.pur rfl rfl rfl rfl (Pur.asg rfl) ?_
  refine Reg.nil ?_
  refine At.loop (σ := Nat) (fun i => [(5, I i), (0, .slice A Bs.length cap), (3, ptr H.size 0), (4, ptr H0_0.size 0)]) (fun i H' => i ≤ Bs.length ∧ und (Bs.drop i) r = und Bs r ∧ Own H' H.size (Is r) ∧ Own H' H0_0.size [I 0, I 0, I 0, I 0, I 0] ∧ Ext H H') (fun i => Bs.length - i) 0 rfl ⟨rfl, rfl, rfl, rfl, trivial⟩ ⟨by omega, rfl, o0_0, o0_1, hE⟩ ?_
  clear o0_0 o0_1 hE
  rintro i H3 ⟨hi, hun, o0_0, o0_1, hE⟩ ih
  have zH := hn0_0.size
  have z_hE := hE.lt
  have z_o0_0 := o0_0.lt
  have z_o0_1 := o0_1.lt
  refine At.region rfl rfl ?_
  refine Reg.pur rfl rfl rfl rfl (Pur.mv rfl) ?_
  refine Reg.pur rfl rfl rfl rfl (Pur.mv rfl) ?_
  refine Reg.pur rfl rfl rfl rfl (Pur.lenS isl25 rfl) ?_
  refine Reg.pur rfl rfl rfl rfl (Pur.lss rfl rfl) ?_
  refine Reg.nil ?_
  refine At.cond rfl rfl (fun q10 => ?_) (fun q10 => ?_)
  · first | (simp only [decide_eq_true_eq, decide_eq_false_iff_not, Bool.not_eq_true', Bool.not_eq_false', ne_eq, Decidable.not_not, Bool.not_eq_true, Bool.not_eq_false] at q10) | (dsimp only at q10) | skip
    have hlt : i < Bs.length := by omega
    obtain ⟨b, o, c, rfl, hBk, hd, hok⟩ := (hB.ext hE).at hlt
    obtain ⟨v, s, hbR, hs5⟩ := hR _ (List.getElem_mem hlt)
    have hsb := hb _ (List.getElem_mem hlt)
    have hhit := und_hit (r := r) hlt
    have hmis := und_drop (r := r) hlt
    rw [hbR] at hd hsb hhit hmis
    have hbl : b < H.size := by have := hB.at hlt; obtain ⟨b', _, _, e', hk', _⟩ := this; cases e'; exact hk'.lt
    have z_hBk := hBk.lt
    refine At.drawE ((Bks.cons hBk.blk (Bks.cons o0_0.blk Bks.nil))) [] mixed rfl rfl ?_
    refine RegD.tpur (i := 0) rfl rfl rfl rfl (by kernel_rfl) (Pur.mv rfl) ?_
    refine RegD.tpur (i := 1) rfl rfl rfl rfl (by kernel_rfl) (Pur.mv rfl) ?_
    refine RegD.tpur (i := 2) rfl rfl rfl rfl (by kernel_rfl) (Pur.idx _ es25 rfl rfl (by omega) (by omega)) ?_
    refine RegD.tpur (i := 3) rfl rfl rfl rfl (by kernel_rfl) (Pur.fld _ fo57_1 rfl) ?_
    refine RegD.take (i := 4) rfl rfl rfl rfl (by kernel_rfl) (Bks.cons hBk.blk (Bks.cons o0_0.blk Bks.nil)) (fun H hS => Lod.ld sc4 rfl hS.hd (at_tk (j := 1) hd (by decide) rfl)) ?_
    refine RegD.tpur (i := 5) rfl rfl rfl rfl (by kernel_rfl) (Pur.mv rfl) ?_
    refine RegD.known (b' := true) 18 rfl (rfl) ?_
    refine RegD.gtpur (i := 6) rfl rfl rfl rfl rfl rfl (by kernel_rfl) (Pur.mv rfl) ?_
    refine RegD.gtpur (i := 7) rfl rfl rfl rfl rfl rfl (by kernel_rfl) (Pur.mv rfl) ?_
    refine RegD.gtpur (i := 8) rfl rfl rfl rfl rfl rfl (by kernel_rfl) (Pur.idx _ es25 rfl rfl (by omega) (by omega)) ?_
    refine RegD.gtpur (i := 9) rfl rfl rfl rfl rfl rfl (by kernel_rfl) (Pur.fld _ fo57_0 rfl) ?_
    refine RegD.gtake (i := 10) rfl rfl rfl rfl rfl rfl (by kernel_rfl) (Bks.cons hBk.blk (Bks.cons o0_0.blk Bks.nil)) (fun H hS => Lod.ld sc3 rfl hS.hd (at_tk (j := 0) hd (by decide) rfl)) ?_
    refine RegD.gtpur (i := 11) rfl rfl rfl rfl rfl rfl (by kernel_rfl) (Pur.fld _ fo24_1 rfl) ?_
    refine RegD.gtake (i := 12) rfl rfl rfl rfl rfl rfl (by kernel_rfl) (Bks.cons hBk.blk (Bks.cons o0_0.blk Bks.nil)) (fun H hS => Lod.ld sc3 rfl hS.tl.hd (hat4 r h5)) ?_
    refine RegD.gtpur (i := 13) rfl rfl rfl rfl rfl rfl (by kernel_rfl) (Pur.eql rfl rfl) ?_
    refine RegD.tpur (i := 14) rfl rfl rfl rfl (by kernel_rfl) (Pur.pickT rfl rfl) ?_
    refine RegD.done (by kernel_rfl) ?_
    refine At.cond rfl rfl (fun q27 => ?_) (fun q27 => ?_)
    · first | (simp only [decide_eq_true_eq, decide_eq_false_iff_not, Bool.not_eq_true', Bool.not_eq_false', ne_eq, Decidable.not_not, Bool.not_eq_true, Bool.not_eq_false] at q27) | (dsimp only at q27) | skip
      refine At.region rfl rfl ?_
      refine Reg.pur rfl rfl rfl rfl (Pur.asg rfl) ?_
      refine Reg.nil ?_
      refine At.loop (σ := Nat) (fun j => [(6, I j), (5, I i), (0, .slice (some ⟨b, o, none⟩) Bs.length cap), (3, ptr H.size 0), (4, ptr H0_0.size 0)]) (fun j H' => j ≤ 4 ∧ Own H' H.size (Is (adTo r s j)) ∧ Own H' H0_0.size [I 0, I 0, I 0, I 0, I 0] ∧ Blk H' b c ∧ Ext H H') (fun j => 4 - j) 0 rfl ⟨rfl, rfl, rfl, rfl, rfl, trivial⟩ ⟨by omega, by rw [adTo_0 h5]; exact o0_0, o0_1, hBk, hE⟩ ?_
      clear o0_0 o0_1 hE hBk
      rintro j H4 ⟨hj, o0_0, o0_1, hBk, hE⟩ ih2
      have z_hE := hE.lt
      have z_o0_0 := o0_0.lt
      have z_o0_1 := o0_1.lt
      have z_hBk := hBk.lt
      refine At.region rfl rfl ?_
      refine Reg.pur rfl rfl rfl rfl (Pur.mv rfl) ?_
      refine Reg.pur rfl rfl rfl rfl (Pur.lss rfl rfl) ?_
      refine Reg.nil ?_
      refine At.cond rfl rfl (fun q29 => ?_) (fun q29 => ?_)
      · first | (simp only [decide_eq_true_eq, decide_eq_false_iff_not, Bool.not_eq_true', Bool.not_eq_false', ne_eq, Decidable.not_not, Bool.not_eq_true, Bool.not_eq_false] at q29) | (dsimp only at q29) | skip
        have hj4 : j < 4 := by omega
        have hrj := hr j hj4
        have hsj : -1000 ≤ s.getD j 0 ∧ s.getD j 0 ≤ 1000 := hsb j hj4
        have hra : (Is (adTo r s j))[0 + 0 + (j : Int).toNat * 1]? = some (I (r.getD j 0)) := by rw [show 0 + 0 + (j : Int).toNat * 1 = j from by omega, ← adTo_at r s hj4]; exact at_Is (by rw [adTo_len]; omega)
        have hsa : c[o + (i : Int).toNat * 8 + 3 + 0 + (j : Int).toNat * 1]? = some (I (s.getD j 0)) := by
          have := at_tk (j := j + 3) hd (by omega) (v := I (s.getD j 0)) (by (show (Is s)[j]? = _); exact at_Is (by omega))
          rw [show o + (i : Int).toNat * 8 + 3 + 0 + (j : Int).toNat * 1 = o + i * 8 + (j + 3) from by omega]; exact this
        refine At.drawE ((Bks.cons o0_0.blk (Bks.cons hBk.blk Bks.nil))) [16] mixed rfl rfl ?_
        refine RegD.tpur (i := 0) rfl rfl rfl rfl (by kernel_rfl) (Pur.mv rfl) ?_
        refine RegD.tpur (i := 1) rfl rfl rfl rfl (by kernel_rfl) (Pur.mv rfl) ?_
        refine RegD.tpur (i := 2) rfl rfl rfl rfl (by kernel_rfl) (Pur.fld _ fo24_0 rfl) ?_
        refine RegD.tpur (i := 3) rfl rfl rfl rfl (by kernel_rfl) (Pur.idxP arr22 rfl rfl (by omega) (by omega)) ?_
        refine RegD.take (i := 4) rfl rfl rfl rfl (by kernel_rfl) (Bks.cons o0_0.blk (Bks.cons hBk.blk Bks.nil)) (fun H hS => Lod.ld sc3 rfl hS.hd hra) ?_
        refine RegD.tpur (i := 5) rfl rfl rfl rfl (by kernel_rfl) (Pur.mv rfl) ?_
        refine RegD.tpur (i := 6) rfl rfl rfl rfl (by kernel_rfl) (Pur.mv rfl) ?_
        refine RegD.tpur (i := 7) rfl rfl rfl rfl (by kernel_rfl) (Pur.mv rfl) ?_
        refine RegD.tpur (i := 8) rfl rfl rfl rfl (by kernel_rfl) (Pur.idx _ es25 rfl rfl (by omega) (by omega)) ?_
        refine RegD.tpur (i := 9) rfl rfl rfl rfl (by kernel_rfl) (Pur.fld _ fo57_3 rfl) ?_
        refine RegD.tpur (i := 10) rfl rfl rfl rfl (by kernel_rfl) (Pur.fld _ fo24_0 rfl) ?_
        refine RegD.tpur (i := 11) rfl rfl rfl rfl (by kernel_rfl) (Pur.idxP arr22 rfl rfl (by omega) (by omega)) ?_
        refine RegD.take (i := 12) rfl rfl rfl rfl (by kernel_rfl) (Bks.cons o0_0.blk (Bks.cons hBk.blk Bks.nil)) (fun H hS => Lod.ld sc3 rfl hS.tl.hd hsa) ?_
        refine RegD.tpur (i := 13) rfl rfl rfl rfl (by kernel_rfl) (Pur.add64 rfl rfl (by omega)) ?_
        refine RegD.tpur (i := 14) rfl rfl rfl rfl (by kernel_rfl) (Pur.fld _ fo24_0 rfl) ?_
        refine RegD.tpur (i := 15) rfl rfl rfl rfl (by kernel_rfl) (Pur.idxP arr22 rfl rfl (by omega) (by omega)) ?_
        refine RegD.one0 (i := 16) (by kernel_rfl) rfl rfl rfl (Does.st sc3 rfl rfl rfl o0_0 (by rw [hal]; omega)) ?_
        rintro _ H8_16 hu8_16
        have z8_16 := hu8_16.size
        replace hE := hE.upw hu8_16 (by omega)
        replace o0_1 := o0_1.upw hu8_16 (by omega)
        replace hBk := hBk.upw hu8_16 (by omega)
        replace o0_0 := hu8_16.own
        refine ⟨fun h => (by cases h), ?_⟩
        refine RegD.done (by kernel_rfl) ?_
        refine At.region rfl rfl ?_
        refine Reg.pur rfl rfl rfl rfl (Pur.mv rfl) ?_
        first | refine Reg.pur rfl rfl rfl rfl (Pur.add64 rfl rfl (by omega)) ?_ | refine Reg.pur rfl rfl rfl rfl (Pur.add64 rfl rfl (by assumption)) ?_ | refine Reg.pur rfl rfl rfl rfl (Pur.add rfl rfl) ?_
        refine Reg.pur rfl rfl rfl rfl (Pur.asg rfl) ?_
        refine Reg.nil ?_
        replace o0_0 : Own H8_16 H.size (Is (adTo r s (j + 1))) := o0_0.of (by rw [← adTo_set r s hj4, show 0 + 0 + (j : Int).toNat * 1 = j from by omega]; simp [Is, List.map_set])
        exact At.meets rfl (ih2 (j + 1) _ ⟨by omega, o0_0, o0_1, hBk, hE⟩ (by omega)) ⟨rfl, rfl, rfl, rfl, rfl, trivial⟩
      first | (simp only [decide_eq_true_eq, decide_eq_false_iff_not, Bool.not_eq_true', Bool.not_eq_false', ne_eq, Decidable.not_not, Bool.not_eq_true, Bool.not_eq_false] at q29) | (dsimp only at q29) | skip
      obtain rfl : j = 4 := by omega
      have hst : c[o + (i : Int).toNat * 8 + 3 + 4]? = some (I (s.getD 4 0)) := by
        have := at_tk (j := 7) hd (by omega) (v := I (s.getD 4 0)) (by (show (Is s)[4]? = _); exact at_Is (by omega))
        rw [show o + (i : Int).toNat * 8 + 3 + 4 = o + i * 8 + 7 from by omega]; exact this
      refine At.region rfl rfl ?_
      refine Reg.pur rfl rfl rfl rfl (Pur.mv rfl) ?_
      refine Reg.pur rfl rfl rfl rfl (Pur.mv rfl) ?_
      refine Reg.pur rfl rfl rfl rfl (Pur.idx _ es25 rfl rfl (by omega) (by omega)) ?_
      refine Reg.pur rfl rfl rfl rfl (Pur.fld _ fo57_3 rfl) ?_
      refine Reg.pur rfl rfl rfl rfl (Pur.fld _ fo24_1 rfl) ?_
      refine Reg.lod rfl rfl rfl rfl (Lod.ld sc3 rfl hBk hst) ?_
      refine Reg.pur rfl rfl rfl rfl (Pur.fld _ fo24_1 rfl) ?_
      refine Reg.op0 rfl rfl rfl (Does.st sc3 rfl rfl rfl o0_0 (by rw [hal]; omega)) ?_
      rintro _ H9_7 hu9_7
      have z9_7 := hu9_7.size
      replace hE := hE.upw hu9_7 (by omega)
      replace o0_1 := o0_1.upw hu9_7 (by omega)
      replace hBk := hBk.upw hu9_7 (by omega)
      replace o0_0 := hu9_7.own
      replace o0_0 : Own H9_7 H.size (Is (adR r s)) := o0_0.of (by rw [← adTo_end r s]; simp [Is, List.map_set])
      refine Reg.nil ?_
      refine At.region rfl rfl ?_
      refine Reg.lod rfl rfl rfl rfl (Lod.ldn ag24 rfl o0_0.blk (whole rfl) rfl) ?_
      refine Reg.op0 rfl rfl rfl (Does.stn ag24 rfl rfl (by first | rfl | exact ones_Is _) (by first | rfl | (simp [*]; done)) o0_1 (by first | decide | (simp; done) | (simp; omega) | omega)) ?_
      rintro _ H10_1 hu10_1
      have z10_1 := hu10_1.size
      replace hE := hE.upw hu10_1 (by omega)
      replace o0_0 := o0_0.upw hu10_1 (by omega)
      replace hBk := hBk.upw hu10_1 (by omega)
      replace o0_1 := hu10_1.own
      first | rw [over (by first | rfl | (simp; done))] at o0_1 | skip
      refine Reg.nil ?_
      refine At.retC rfl Tryd.func30 ⟨_, _, _, _, rfl, rfl, ⟨_, o0_1.blk, .inr ⟨_, _, ag24, (whole rfl), rfl, rfl⟩⟩, rfl⟩ ?_
      rw [← hun, hhit q27]
      exact ⟨rfl, hE⟩
    first | (simp only [decide_eq_true_eq, decide_eq_false_iff_not, Bool.not_eq_true', Bool.not_eq_false', ne_eq, Decidable.not_not, Bool.not_eq_true, Bool.not_eq_false] at q27) | (dsimp only at q27) | skip
    refine At.region rfl rfl ?_
    refine Reg.pur rfl rfl rfl rfl (Pur.mv rfl) ?_
    first | refine Reg.pur rfl rfl rfl rfl (Pur.add64 rfl rfl (by omega)) ?_ | refine Reg.pur rfl rfl rfl rfl (Pur.add64 rfl rfl (by assumption)) ?_ | refine Reg.pur rfl rfl rfl rfl (Pur.add rfl rfl) ?_
    refine Reg.pur rfl rfl rfl rfl (Pur.asg rfl) ?_
    refine Reg.nil ?_
    exact At.via (ih (i + 1) _ ⟨by omega, by rw [← hmis q27]; exact hun, o0_0, o0_1, hE⟩ (by omega)) ⟨rfl, rfl, rfl, rfl, trivial⟩
  first | (simp only [decide_eq_true_eq, decide_eq_false_iff_not, Bool.not_eq_true', Bool.not_eq_false', ne_eq, Decidable.not_not, Bool.not_eq_true, Bool.not_eq_false] at q10) | (dsimp only at q10) | skip
  refine At.region rfl rfl ?_
  refine Reg.lod rfl rfl rfl rfl (Lod.ldn ag24 rfl o0_0.blk (whole (by simp [h5])) (by simp [h5])) ?_
  refine Reg.op0 rfl rfl rfl (Does.stn ag24 rfl rfl (by first | rfl | exact ones_Is _) (by first | rfl | (simp [*]; done)) o0_1 (by first | decide | (simp; done) | (simp; omega) | omega)) ?_
  rintro _ H11_1 hu11_1
  have z11_1 := hu11_1.size
  replace hE := hE.upw hu11_1 (by omega)
  replace o0_0 := o0_0.upw hu11_1 (by omega)
  replace o0_1 := hu11_1.own
  first | rw [over (by first | rfl | (simp; done))] at o0_1 | skip
  refine Reg.nil ?_
  refine At.retC rfl Tryd.func30 ⟨_, _, _, _, rfl, rfl, ⟨_, o0_1.blk, .inr ⟨_, _, ag24, (whole (by simp [h5])), (by simp [h5]), rfl⟩⟩, rfl⟩ ?_
  rw [List.drop_of_length_le (by omega)] at hun
  rw [← hun]
  exact ⟨rfl, hE⟩

def rsM (a b : List Int) (t : Int) : List Int := [max (a.getD 0 0) (b.getD 0 0), max (a.getD 1 0) (b.getD 1 0), max (a.getD 2 0) (b.getD 2 0), max (a.getD 3 0) (b.getD 3 0), t]
theorem rs_ad (a b : List Int) (t : Int) : adR a (subC b a ++ [t]) = rsM a b t := by
  have key : ∀ i, a.getD i 0 + sb1 b a i = max (a.getD i 0) (b.getD i 0) := by
    intro i; unfold sb1; split <;> omega
  show [a.getD 0 0 + sb1 b a 0, a.getD 1 0 + sb1 b a 1, a.getD 2 0 + sb1 b a 2, a.getD 3 0 + sb1 b a 3, t] = _
  rw [key, key, key, key]; rfl
theorem rs_comm (a b : List Int) (t : Int) : rsM a b t = rsM b a t := by
  unfold rsM
  rw [Int.max_comm, Int.max_comm (a.getD 1 0), Int.max_comm (a.getD 2 0), Int.max_comm (a.getD 3 0)]
theorem more_all {a b : List Int} (h : moreC a b = false) : ∀ i, i < 4 → a.getD i 0 ≤ b.getD i 0 := by
  intro i hi
  rcases Int.lt_or_le (b.getD i 0) (a.getD i 0) with hl | hl
  · have : moreC a b = true := by
      unfold moreC moreTo
      rw [List.any_eq_true]
      exact ⟨i, List.mem_range.2 hi, decide_eq_true hl⟩
    rw [this] at h; cases h
  · exact hl
theorem rs_le {a b : List Int} (hb : b.length = 5) (h : moreC a b = false) : rsM a b (b.getD 4 0) = b := by
  have h0 := more_all h 0 (by decide); have h1 := more_all h 1 (by decide); have h2 := more_all h 2 (by decide); have h3 := more_all h 3 (by decide)
  unfold rsM
  rw [Int.max_eq_right h0, Int.max_eq_right h1, Int.max_eq_right h2, Int.max_eq_right h3]
  obtain ⟨x, y, z, w, t, rfl⟩ := row_five hb
  rfl
theorem row_ext {a b : List Int} (ha : a.length = 5) (hb : b.length = 5) (h : moreC a b = false) (k : moreC b a = false) (ht : a.getD 4 0 = b.getD 4 0) : a = b := by
  rw [← rs_le hb h, ← ht, rs_comm]
  exact (rs_le ha k).symm
def refd (a b : List Int) : Prop := (a.getD 4 0 = b.getD 4 0 ∧ (moreC a b = true ∨ moreC b a = true)) ∨ (moreC a b = true ∧ b.getD 4 0 < 0) ∨ (moreC b a = true ∧ a.getD 4 0 < 0)
theorem sol_ref {a b : List Int} (ha : rowM a = true) (hb : rowM b = true) (ta : a.getD 4 0 < 4095) (tb : b.getD 4 0 < 4095) (h : refd a b) : uniR a b 4095 = ([], 801) := by
  have h1 := rowM_t ha
  have h2 := rowM_t hb
  rw [uniR_yes ⟨ha, hb, by decide, by decide, ta, tb⟩]
  unfold uniQ
  by_cases ht : a.getD 4 0 = b.getD 4 0
  · rw [if_pos ht]
    have : moreC a b = true ∨ moreC b a = true := by
      rcases h with h | h | h
      · exact h.2
      · exact .inl h.1
      · exact .inr h.1
    rw [if_pos this]
  · rw [if_neg ht]
    have : (moreC a b = true ∧ b.getD 4 0 = -1) ∨ (moreC b a = true ∧ a.getD 4 0 = -1) := by
      rcases h with h | h | h
      · exact absurd h.1 ht
      · exact .inl ⟨h.1, by omega⟩
      · exact .inr ⟨h.1, by omega⟩
    rw [if_pos this]
theorem und1 (v : Int) (s r : List Int) : und [bR v s] r = if v = r.getD 4 0 then adR r s else r := rfl
theorem und2 (v w : Int) (s u r : List Int) : und [bR v s, bR w u] r = if v = r.getD 4 0 then adR r s else if w = r.getD 4 0 then adR r u else r := rfl
theorem sol_ok {a b : List Int} (ha5 : a.length = 5) (hb5 : b.length = 5) (ha : rowM a = true) (hb : rowM b = true) (ta : a.getD 4 0 < 4095) (tb : b.getD 4 0 < 4095) (h : ¬ refd a b) :
    (uniR a b 4095).2 = 0 ∧ und (uniR a b 4095).1 a = und (uniR a b 4095).1 b ∧ (0 < (uniR a b 4095).1.length ∨ a = b) := by
  have h1 := rowM_t ha
  have h2 := rowM_t hb
  rw [uniR_yes ⟨ha, hb, by decide, by decide, ta, tb⟩]
  unfold uniQ
  by_cases ht : a.getD 4 0 = b.getD 4 0
  · rw [if_pos ht]
    have hn : ¬ (moreC a b = true ∨ moreC b a = true) := fun k => h (.inl ⟨ht, k⟩)
    rw [if_neg hn]
    have e : a = b := row_ext ha5 hb5 (by simpa using fun k => hn (.inl k)) (by simpa using fun k => hn (.inr k)) ht
    subst e
    exact ⟨rfl, rfl, .inr rfl⟩
  · have ht' : ¬ b.getD 4 0 = a.getD 4 0 := fun e => ht e.symm
    rw [if_neg ht]
    have hn : ¬ ((moreC a b = true ∧ b.getD 4 0 = -1) ∨ (moreC b a = true ∧ a.getD 4 0 = -1)) := by
      rintro (k | k)
      · exact h (.inr (.inl ⟨k.1, by omega⟩))
      · exact h (.inr (.inr ⟨k.1, by omega⟩))
    rw [if_neg hn]
    by_cases b1 : b.getD 4 0 = -1
    · have hm : moreC a b = false := by simpa using fun k => hn (.inl ⟨k, b1⟩)
      rw [if_pos b1]
      refine ⟨rfl, ?_, .inl (Nat.zero_lt_succ _)⟩
      rw [und1, und1, if_pos rfl, if_neg ht, rs_ad, ← b1, rs_le hb5 hm]
    · rw [if_neg b1]
      by_cases a1 : a.getD 4 0 = -1
      · have hm : moreC b a = false := by simpa using fun k => hn (.inr ⟨k, a1⟩)
        rw [if_pos a1]
        refine ⟨rfl, ?_, .inl (Nat.zero_lt_succ _)⟩
        rw [und1, und1, if_neg ht', if_pos rfl, rs_ad, ← a1, rs_le ha5 hm]
      · rw [if_neg a1]
        by_cases m1 : moreC a b = false
        · rw [if_pos m1]
          refine ⟨rfl, ?_, .inl (Nat.zero_lt_succ _)⟩
          rw [und1, und1, if_pos rfl, if_neg ht, rs_ad, rs_le hb5 m1]
        · rw [if_neg m1]
          by_cases m2 : moreC b a = false
          · rw [if_pos m2]
            refine ⟨rfl, ?_, .inl (Nat.zero_lt_succ _)⟩
            rw [und1, und1, if_neg ht', if_pos rfl, rs_ad, rs_le ha5 m2]
          · rw [if_neg m2]
            refine ⟨rfl, ?_, .inl (Nat.zero_lt_succ _)⟩
            rw [und2, und2, if_pos rfl, if_neg ht, if_pos rfl, rs_ad, rs_ad, rs_comm]
theorem uniR_cnt {a b : List Int} {f : Int} (ha5 : a.length = 5) (hb5 : b.length = 5) : ∀ x ∈ (uniR a b f).1, ∀ i, i < 4 → -1000 ≤ x.row.getD i 0 ∧ x.row.getD i 0 ≤ 1000 := by
  unfold uniR
  split
  · rename_i h
    have ca := row_cnt ha5 h.1
    have cb := row_cnt hb5 h.2.1
    have key : ∀ (t : Int) i, i < 4 → (-1000 ≤ (subC a b ++ [t]).getD i 0 ∧ (subC a b ++ [t]).getD i 0 ≤ 1000) ∧ (-1000 ≤ (subC b a ++ [t]).getD i 0 ∧ (subC b a ++ [t]).getD i 0 ≤ 1000) := by
      intro t i hi
      have e1 : (subC a b ++ [t]).getD i 0 = sb1 a b i := by
        match i, hi with
        | 0, _ => rfl
        | 1, _ => rfl
        | 2, _ => rfl
        | 3, _ => rfl
      have e2 : (subC b a ++ [t]).getD i 0 = sb1 b a i := by
        match i, hi with
        | 0, _ => rfl
        | 1, _ => rfl
        | 2, _ => rfl
        | 3, _ => rfl
      have := ca i hi
      have := cb i hi
      rw [e1, e2]
      unfold sb1
      constructor <;> split <;> omega
    unfold uniQ
    repeat' split
    all_goals intro x hx i hi
    all_goals simp only [List.mem_cons, List.not_mem_nil, or_false] at hx
    all_goals first | exact hx.elim | (subst hx; first | exact (key _ i hi).1 | exact (key _ i hi).2) | (rcases hx with rfl | rfl; exact (key _ i hi).2; exact (key _ i hi).1)
  · intro x hx; cases hx
end Go.Proofs.YtlfillhffpiffaaDoor

