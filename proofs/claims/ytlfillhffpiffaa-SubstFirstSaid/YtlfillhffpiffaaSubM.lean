/-
  subst.Type, subst.Row, and the reference's.
-/
import Derived.Test.YtlfillhffpiffaaSubL
namespace Go.Proofs.Ytlfillhffpiffaa
set_option linter.unusedSimpArgs false
set_option linter.unusedVariables false
set_option maxRecDepth 8000
open Go Go.Fx Go.Proofs
namespace FactsSubM
theorem ag25 : ag Try.prog 25 = some 1 := by kernel_rfl
theorem ag28 : ag Try.prog 28 = some 5 := by kernel_rfl
theorem pl25 : places Try.prog 25 = some [(0, 1)] := by kernel_rfl
theorem pl28 : places Try.prog 28 = some [(0, 4), (4, 1)] := by kernel_rfl
theorem zc25 : zc Try.prog 25 = some [.slice none 0 0] := by kernel_rfl
theorem zc28 : zc Try.prog 28 = some [.int .i64 0, .int .i64 0, .int .i64 0, .int .i64 0, .int .i64 0] := by kernel_rfl
end FactsSubM
open FactsSubM

/-- a type in new memory, and something beside it -/
def TypV (B : Nat) (H' : Heap) (w v : Value) (out : List (List Int)) : Prop :=
  ∃ A' cap', v = .tuple #[Ty A' out.length cap', w] ∧ OwnS H' B 47 9 (.slice A' out.length cap') out.length (out.flatMap Is) ∧ Nine out ∧ out.length ≤ 256
theorem TypB.v {B : Nat} {H' : Heap} {v : Value} {o : Option (List (List Int))} (h : TypB B H' v o) : TypV B H' (.bool o.isSome) v (o.getD []) := by
  cases o with
  | none => exact ⟨none, 0, h, OwnS.nil _ _ _ _, (fun x hx => by cases hx), by simp⟩
  | some out => exact h
theorem TypV.non {B : Nat} {H' : Heap} {w v : Value} (h : v = .tuple #[Ty none 0 0, w]) : TypV B H' w v [] := ⟨none, 0, h, OwnS.nil _ _ _ _, (fun x hx => by cases hx), by simp⟩
def ce (b : Bool) : Int := if b then 0 else 900
def subT (Bs : List Bd) (L : List (List Int)) : Option (List (List Int)) := if bindsM Bs = true ∧ typM L = true then typS Bs L else none
def subR (Bs : List Bd) (r : List Int) : List Int × Bool := if bindsM Bs = true ∧ rowM r = true then rowS Bs r else (noRow, false)

theorem binds256 {L : List Bd} (h : bindsM L = true) : ∀ b ∈ L, b.nodes.length ≤ 256 := by
  intro b hb
  unfold bindsM at h
  simp only [Bool.and_eq_true, List.all_eq_true] at h
  have := h.2 b hb
  unfold bindM at this
  simp only [Bool.and_eq_true, decide_eq_true_eq] at this
  have h2 := this.2
  split at h2
  · simp only [Bool.and_eq_true, decide_eq_true_eq] at h2; omega
  · simp only [Bool.and_eq_true, decide_eq_true_eq] at h2
    have h3 := h2.2
    unfold typM at h3
    simp only [Bool.and_eq_true, decide_eq_true_eq] at h3
    exact h3.1.1.2

theorem type_ok {A A1 : Option Addr} {cap cap1 : Nat} {Bs : List Bd} {L : List (List Int)} {H : Heap} (hB : Bds H (.slice A Bs.length cap) Bs) (hS : SlT H Is 9 (.slice A1 L.length cap1) L) (hL : Nine L) (hm : L.length * 72 ≤ 140737488351232) :
    Ret Try.prog 20 [.slice A Bs.length cap, Ty A1 L.length cap1] H (fun v H' => Ext H H' ∧ TypV H.size H' (I (ce (subT Bs L).isSome)) v ((subT Bs L).getD [])) := by
  refine Ret.of_at (N := 26) Try.call20 Try.func20 rfl rfl rfl ?_
  have hE := Ext.refl H
  refine At.region rfl rfl ?_
  refine Reg.op rfl rfl rfl rfl (Does.box rfl rfl) ?_
  rintro _ H0_0 ⟨rfl, hn0_0⟩
  have z0_0 := hn0_0.size
  replace hE := hE.ext hn0_0.ext
  have o0_0 := hn0_0.own
  refine Reg.op rfl rfl rfl rfl (Does.alloc zc25) ?_
  rintro _ H0_1 ⟨rfl, hn0_1⟩
  have z0_1 := hn0_1.size
  replace hE := hE.ext hn0_1.ext
  replace o0_0 := o0_0.ext hn0_1.ext
  have o0_1 := hn0_1.own
  refine Reg.pur rfl rfl rfl rfl (Pur.asg rfl) ?_
  refine Reg.nil ?_
  refine At.region rfl rfl ?_
  refine Reg.pur rfl rfl rfl rfl (Pur.mv rfl) ?_
  refine Reg.op rfl rfl rfl rfl (Does.call rfl (bindsMay_ok (hB.ext hE))) ?_
  rintro _ H1_1 ⟨rfl, hE1_1⟩
  have z1_1 := hE1_1.lt
  replace hE := hE.ext hE1_1
  replace o0_0 := o0_0.ext hE1_1
  replace o0_1 := o0_1.ext hE1_1
  refine Reg.pur rfl rfl rfl rfl (Pur.not rfl) ?_
  refine Reg.pur rfl rfl rfl rfl (Pur.mv rfl) ?_
  refine Reg.case 11 rfl (fun q11 => ?_) (fun q11 => ?_)
  · first | (simp only [decide_eq_true_eq, decide_eq_false_iff_not, Bool.not_eq_true', Bool.not_eq_false', ne_eq, Decidable.not_not, Bool.not_eq_true, Bool.not_eq_false] at q11) | (dsimp only at q11) | skip
    refine Reg.skip rfl rfl rfl rfl rfl rfl rfl ?_
    refine Reg.skip rfl rfl rfl rfl rfl rfl rfl ?_
    refine Reg.skip rfl rfl rfl rfl rfl rfl rfl ?_
    refine Reg.pur rfl rfl rfl rfl (Pur.pickT rfl rfl) ?_
    refine Reg.nil ?_
    refine At.condT rfl rfl rfl ?_
    refine At.region rfl rfl ?_
    refine Reg.pur rfl rfl rfl rfl (Pur.bld (cs := [_]) pl25 zc25 rfl rfl ⟨rfl, rfl⟩) ?_
    refine Reg.op0 rfl rfl rfl (Does.stn ag25 rfl rfl (by first | rfl | exact ones_Is _) (by first | rfl | (simp [*]; done)) o0_1 (by first | decide | (simp; done) | (simp; omega) | omega)) ?_
    rintro _ H2_1 hu2_1
    have z2_1 := hu2_1.size
    replace hE := hE.upw hu2_1 (by omega)
    replace o0_0 := o0_0.upw hu2_1 (by omega)
    replace o0_1 := hu2_1.own
    first | rw [over (by first | rfl | (simp; done))] at o0_1 | skip
    refine Reg.pur rfl rfl rfl rfl (Pur.asg rfl) ?_
    refine Reg.nil ?_
    refine At.retC rfl Try.func20 ⟨_, _, _, _, rfl, rfl, ⟨_, o0_1.blk, .inr ⟨_, _, ag25, (by first | exact whole rfl | exact whole (by simp [*])), (by first | rfl | simp [*]), rfl⟩⟩, ⟨_, _, rfl, rfl, rfl⟩⟩ ?_
    refine ⟨hE, ?_⟩
    rw [show subT Bs L = none by unfold subT; rw [if_neg]; simp_all]
    exact TypV.non rfl
  · first | (simp only [decide_eq_true_eq, decide_eq_false_iff_not, Bool.not_eq_true', Bool.not_eq_false', ne_eq, Decidable.not_not, Bool.not_eq_true, Bool.not_eq_false] at q11) | (dsimp only at q11) | skip
    refine Reg.glod rfl rfl rfl rfl rfl rfl (Lod.ldn ag25 rfl o0_0.blk (by first | exact whole rfl | rfl | (simp only [List.drop_succ_cons, List.drop_zero, List.take_succ_cons, List.take_zero]; rfl)) (by first | rfl | (simp [*]; done))) ?_
    refine Reg.gop rfl rfl rfl rfl rfl rfl (Does.call rfl (typMay_ok L hL (hS.ext hE) (by omega))) ?_
    rintro _ H1_5 ⟨rfl, hE1_5⟩
    have z1_5 := hE1_5.lt
    replace hE := hE.ext hE1_5
    replace o0_0 := o0_0.ext hE1_5
    replace o0_1 := o0_1.ext hE1_5
    refine Reg.gpur rfl rfl rfl rfl rfl rfl (Pur.not rfl) ?_
    refine Reg.pur rfl rfl rfl rfl (Pur.pickF rfl rfl) ?_
    refine Reg.nil ?_
    refine At.cond rfl rfl (fun q15 => ?_) (fun q15 => ?_)
    · first | (simp only [decide_eq_true_eq, decide_eq_false_iff_not, Bool.not_eq_true', Bool.not_eq_false', ne_eq, Decidable.not_not, Bool.not_eq_true, Bool.not_eq_false] at q15) | (dsimp only at q15) | skip
      refine At.region rfl rfl ?_
      refine Reg.pur rfl rfl rfl rfl (Pur.bld (cs := [_]) pl25 zc25 rfl rfl ⟨rfl, rfl⟩) ?_
      refine Reg.op0 rfl rfl rfl (Does.stn ag25 rfl rfl (by first | rfl | exact ones_Is _) (by first | rfl | (simp [*]; done)) o0_1 (by first | decide | (simp; done) | (simp; omega) | omega)) ?_
      rintro _ H2_1 hu2_1
      have z2_1 := hu2_1.size
      replace hE := hE.upw hu2_1 (by omega)
      replace o0_0 := o0_0.upw hu2_1 (by omega)
      replace o0_1 := hu2_1.own
      first | rw [over (by first | rfl | (simp; done))] at o0_1 | skip
      refine Reg.pur rfl rfl rfl rfl (Pur.asg rfl) ?_
      refine Reg.nil ?_
      refine At.retC rfl Try.func20 ⟨_, _, _, _, rfl, rfl, ⟨_, o0_1.blk, .inr ⟨_, _, ag25, (by first | exact whole rfl | exact whole (by simp [*])), (by first | rfl | simp [*]), rfl⟩⟩, ⟨_, _, rfl, rfl, rfl⟩⟩ ?_
      refine ⟨hE, ?_⟩
      rw [show subT Bs L = none by unfold subT; rw [if_neg]; simp_all]
      exact TypV.non rfl
    · first | (simp only [decide_eq_true_eq, decide_eq_false_iff_not, Bool.not_eq_true', Bool.not_eq_false', ne_eq, Decidable.not_not, Bool.not_eq_true, Bool.not_eq_false] at q15) | (dsimp only at q15) | skip
      have hM : typM L = true := q15
      refine At.region rfl rfl ?_
      refine Reg.pur rfl rfl rfl rfl (Pur.mv rfl) ?_
      refine Reg.op rfl rfl rfl rfl (Does.call rfl (ofType_ok (hB.ext hE) (hS.ext hE) hL hM o0_0.blk rfl)) ?_
      rintro v3_1 H3_1 ⟨hE3_1, hT3_1⟩
      have z3_1 := hE3_1.lt
      replace hE := hE.ext hE3_1
      replace o0_0 := o0_0.ext hE3_1
      replace o0_1 := o0_1.ext hE3_1
      obtain ⟨A', cap', rfl, ho, hN, hl⟩ := hT3_1.v
      have z_ho := ho.lt
      refine Reg.pur rfl rfl rfl rfl (Pur.mv rfl) ?_
      refine Reg.pur rfl rfl rfl rfl (Pur.ext rfl rfl) ?_
      refine Reg.pur rfl rfl rfl rfl (Pur.ext rfl rfl) ?_
      refine Reg.op rfl rfl rfl rfl (Does.alloc zc25) ?_
      rintro _ H3_5 ⟨rfl, hn3_5⟩
      have z3_5 := hn3_5.size
      replace hE := hE.ext hn3_5.ext
      replace o0_0 := o0_0.ext hn3_5.ext
      replace o0_1 := o0_1.ext hn3_5.ext
      replace ho := ho.ext hn3_5.ext
      have o3_5 := hn3_5.own
      refine Reg.op0 rfl rfl rfl (Does.stn ag25 rfl rfl (by first | rfl | exact ones_Is _) (by first | rfl | (simp [*]; done)) o3_5 (by first | decide | (simp; done) | (simp; omega) | omega)) ?_
      rintro _ H3_6 hu3_6
      have z3_6 := hu3_6.size
      replace hE := hE.upw hu3_6 (by omega)
      replace o0_0 := o0_0.upw hu3_6 (by omega)
      replace o0_1 := o0_1.upw hu3_6 (by omega)
      replace ho := ho.upw hu3_6 (by omega)
      replace o3_5 := hu3_6.own
      first | rw [over (by first | rfl | (simp; done))] at o3_5 | skip
      refine Reg.pur rfl rfl rfl rfl (Pur.asg rfl) ?_
      refine Reg.nil ?_
      have hq : subT Bs L = typS Bs L := by unfold subT; rw [if_pos ⟨q11, hM⟩]
      refine At.region rfl rfl ?_
      refine Reg.pur rfl rfl rfl rfl (Pur.mv rfl) ?_
      refine Reg.pur rfl rfl rfl rfl (Pur.not rfl) ?_
      refine Reg.nil ?_
      refine At.cond rfl rfl (fun q23 => ?_) (fun q23 => ?_)
      · first | (simp only [decide_eq_true_eq, decide_eq_false_iff_not, Bool.not_eq_true', Bool.not_eq_false', ne_eq, Decidable.not_not, Bool.not_eq_true, Bool.not_eq_false] at q23) | (dsimp only at q23) | skip
        refine At.region rfl rfl ?_
        refine Reg.pur rfl rfl rfl rfl (Pur.bld (cs := [_]) pl25 zc25 rfl rfl ⟨rfl, rfl⟩) ?_
        refine Reg.op0 rfl rfl rfl (Does.stn ag25 rfl rfl (by first | rfl | exact ones_Is _) (by first | rfl | (simp [*]; done)) o0_1 (by first | decide | (simp; done) | (simp; omega) | omega)) ?_
        rintro _ H5_1 hu5_1
        have z5_1 := hu5_1.size
        replace hE := hE.upw hu5_1 (by omega)
        replace o0_0 := o0_0.upw hu5_1 (by omega)
        replace ho := ho.upw hu5_1 (by omega)
        replace o3_5 := o3_5.upw hu5_1 (by omega)
        replace o0_1 := hu5_1.own
        first | rw [over (by first | rfl | (simp; done))] at o0_1 | skip
        refine Reg.pur rfl rfl rfl rfl (Pur.asg rfl) ?_
        refine Reg.nil ?_
        refine At.retC rfl Try.func20 ⟨_, _, _, _, rfl, rfl, ⟨_, o0_1.blk, .inr ⟨_, _, ag25, (by first | exact whole rfl | exact whole (by simp [*])), (by first | rfl | simp [*]), rfl⟩⟩, ⟨_, _, rfl, rfl, rfl⟩⟩ ?_
        refine ⟨hE, ?_⟩
        rw [hq]
        cases hh : typS Bs L with
        | none => exact TypV.non rfl
        | some out => rw [hh] at q23; cases q23
      · first | (simp only [decide_eq_true_eq, decide_eq_false_iff_not, Bool.not_eq_true', Bool.not_eq_false', ne_eq, Decidable.not_not, Bool.not_eq_true, Bool.not_eq_false] at q23) | (dsimp only at q23) | skip
        refine At.region rfl rfl ?_
        refine Reg.lod rfl rfl rfl rfl (Lod.ldn ag25 rfl o3_5.blk (by first | exact whole rfl | rfl | (simp only [List.drop_succ_cons, List.drop_zero, List.take_succ_cons, List.take_zero]; rfl)) (by first | rfl | (simp [*]; done))) ?_
        refine Reg.op0 rfl rfl rfl (Does.stn ag25 rfl rfl (by first | rfl | exact ones_Is _) (by first | rfl | (simp [*]; done)) o0_1 (by first | decide | (simp; done) | (simp; omega) | omega)) ?_
        rintro _ H6_1 hu6_1
        have z6_1 := hu6_1.size
        replace hE := hE.upw hu6_1 (by omega)
        replace o0_0 := o0_0.upw hu6_1 (by omega)
        replace ho := ho.upw hu6_1 (by omega)
        replace o3_5 := o3_5.upw hu6_1 (by omega)
        replace o0_1 := hu6_1.own
        first | rw [over (by first | rfl | (simp; done))] at o0_1 | skip
        refine Reg.pur rfl rfl rfl rfl (Pur.asg rfl) ?_
        refine Reg.nil ?_
        refine At.retC rfl Try.func20 ⟨_, _, _, _, rfl, rfl, ⟨_, o0_1.blk, .inr ⟨_, _, ag25, (by first | exact whole rfl | exact whole (by simp [*])), (by first | rfl | simp [*]), rfl⟩⟩, ⟨_, _, rfl, rfl, rfl⟩⟩ ?_
        refine ⟨hE, ?_⟩
        rw [hq]
        rw [show (typS Bs L).isSome = true from q23]
        exact ⟨A', cap', rfl, ho.mono (by omega), hN, hl⟩

theorem typeR_ok {A A1 : Option Addr} {cap cap1 : Nat} {Bs : List Bd} {L : List (List Int)} {H : Heap} (hB : Bds H (.slice A Bs.length cap) Bs) (hS : SlT H Is 9 (.slice A1 L.length cap1) L) (hL : Nine L) (hm : L.length * 72 ≤ 140737488351232) :
    Ret Try.prog 21 [.slice A Bs.length cap, Ty A1 L.length cap1] H (fun v H' => Ext H H' ∧ TypV H.size H' (I (ce (subT Bs L).isSome)) v ((subT Bs L).getD [])) := by
  refine Ret.of_at (N := 27) Try.call21 Try.func21 rfl rfl rfl ?_
  have hE := Ext.refl H
  refine At.region rfl rfl ?_
  refine Reg.op rfl rfl rfl rfl (Does.box rfl rfl) ?_
  rintro _ H0_0 ⟨rfl, hn0_0⟩
  have z0_0 := hn0_0.size
  replace hE := hE.ext hn0_0.ext
  have o0_0 := hn0_0.own
  refine Reg.op rfl rfl rfl rfl (Does.alloc zc25) ?_
  rintro _ H0_1 ⟨rfl, hn0_1⟩
  have z0_1 := hn0_1.size
  replace hE := hE.ext hn0_1.ext
  replace o0_0 := o0_0.ext hn0_1.ext
  have o0_1 := hn0_1.own
  refine Reg.pur rfl rfl rfl rfl (Pur.asg rfl) ?_
  refine Reg.nil ?_
  refine At.region rfl rfl ?_
  refine Reg.pur rfl rfl rfl rfl (Pur.mv rfl) ?_
  refine Reg.op rfl rfl rfl rfl (Does.call rfl (bindsMayR_ok (hB.ext hE))) ?_
  rintro _ H1_1 ⟨rfl, hE1_1⟩
  have z1_1 := hE1_1.lt
  replace hE := hE.ext hE1_1
  replace o0_0 := o0_0.ext hE1_1
  replace o0_1 := o0_1.ext hE1_1
  refine Reg.pur rfl rfl rfl rfl (Pur.not rfl) ?_
  refine Reg.pur rfl rfl rfl rfl (Pur.mv rfl) ?_
  refine Reg.case 11 rfl (fun q11 => ?_) (fun q11 => ?_)
  · first | (simp only [decide_eq_true_eq, decide_eq_false_iff_not, Bool.not_eq_true', Bool.not_eq_false', ne_eq, Decidable.not_not, Bool.not_eq_true, Bool.not_eq_false] at q11) | (dsimp only at q11) | skip
    refine Reg.skip rfl rfl rfl rfl rfl rfl rfl ?_
    refine Reg.skip rfl rfl rfl rfl rfl rfl rfl ?_
    refine Reg.skip rfl rfl rfl rfl rfl rfl rfl ?_
    refine Reg.pur rfl rfl rfl rfl (Pur.pickT rfl rfl) ?_
    refine Reg.nil ?_
    refine At.condT rfl rfl rfl ?_
    refine At.region rfl rfl ?_
    refine Reg.pur rfl rfl rfl rfl (Pur.bld (cs := [_]) pl25 zc25 rfl rfl ⟨rfl, rfl⟩) ?_
    refine Reg.op0 rfl rfl rfl (Does.stn ag25 rfl rfl (by first | rfl | exact ones_Is _) (by first | rfl | (simp [*]; done)) o0_1 (by first | decide | (simp; done) | (simp; omega) | omega)) ?_
    rintro _ H2_1 hu2_1
    have z2_1 := hu2_1.size
    replace hE := hE.upw hu2_1 (by omega)
    replace o0_0 := o0_0.upw hu2_1 (by omega)
    replace o0_1 := hu2_1.own
    first | rw [over (by first | rfl | (simp; done))] at o0_1 | skip
    refine Reg.pur rfl rfl rfl rfl (Pur.asg rfl) ?_
    refine Reg.nil ?_
    refine At.retC rfl Try.func21 ⟨_, _, _, _, rfl, rfl, ⟨_, o0_1.blk, .inr ⟨_, _, ag25, (by first | exact whole rfl | exact whole (by simp [*])), (by first | rfl | simp [*]), rfl⟩⟩, ⟨_, _, rfl, rfl, rfl⟩⟩ ?_
    refine ⟨hE, ?_⟩
    rw [show subT Bs L = none by unfold subT; rw [if_neg]; simp_all]
    exact TypV.non rfl
  · first | (simp only [decide_eq_true_eq, decide_eq_false_iff_not, Bool.not_eq_true', Bool.not_eq_false', ne_eq, Decidable.not_not, Bool.not_eq_true, Bool.not_eq_false] at q11) | (dsimp only at q11) | skip
    refine Reg.glod rfl rfl rfl rfl rfl rfl (Lod.ldn ag25 rfl o0_0.blk (by first | exact whole rfl | rfl | (simp only [List.drop_succ_cons, List.drop_zero, List.take_succ_cons, List.take_zero]; rfl)) (by first | rfl | (simp [*]; done))) ?_
    refine Reg.gop rfl rfl rfl rfl rfl rfl (Does.call rfl (typMayR_ok L hL (hS.ext hE) (by omega))) ?_
    rintro _ H1_5 ⟨rfl, hE1_5⟩
    have z1_5 := hE1_5.lt
    replace hE := hE.ext hE1_5
    replace o0_0 := o0_0.ext hE1_5
    replace o0_1 := o0_1.ext hE1_5
    refine Reg.gpur rfl rfl rfl rfl rfl rfl (Pur.not rfl) ?_
    refine Reg.pur rfl rfl rfl rfl (Pur.pickF rfl rfl) ?_
    refine Reg.nil ?_
    refine At.cond rfl rfl (fun q15 => ?_) (fun q15 => ?_)
    · first | (simp only [decide_eq_true_eq, decide_eq_false_iff_not, Bool.not_eq_true', Bool.not_eq_false', ne_eq, Decidable.not_not, Bool.not_eq_true, Bool.not_eq_false] at q15) | (dsimp only at q15) | skip
      refine At.region rfl rfl ?_
      refine Reg.pur rfl rfl rfl rfl (Pur.bld (cs := [_]) pl25 zc25 rfl rfl ⟨rfl, rfl⟩) ?_
      refine Reg.op0 rfl rfl rfl (Does.stn ag25 rfl rfl (by first | rfl | exact ones_Is _) (by first | rfl | (simp [*]; done)) o0_1 (by first | decide | (simp; done) | (simp; omega) | omega)) ?_
      rintro _ H2_1 hu2_1
      have z2_1 := hu2_1.size
      replace hE := hE.upw hu2_1 (by omega)
      replace o0_0 := o0_0.upw hu2_1 (by omega)
      replace o0_1 := hu2_1.own
      first | rw [over (by first | rfl | (simp; done))] at o0_1 | skip
      refine Reg.pur rfl rfl rfl rfl (Pur.asg rfl) ?_
      refine Reg.nil ?_
      refine At.retC rfl Try.func21 ⟨_, _, _, _, rfl, rfl, ⟨_, o0_1.blk, .inr ⟨_, _, ag25, (by first | exact whole rfl | exact whole (by simp [*])), (by first | rfl | simp [*]), rfl⟩⟩, ⟨_, _, rfl, rfl, rfl⟩⟩ ?_
      refine ⟨hE, ?_⟩
      rw [show subT Bs L = none by unfold subT; rw [if_neg]; simp_all]
      exact TypV.non rfl
    · first | (simp only [decide_eq_true_eq, decide_eq_false_iff_not, Bool.not_eq_true', Bool.not_eq_false', ne_eq, Decidable.not_not, Bool.not_eq_true, Bool.not_eq_false] at q15) | (dsimp only at q15) | skip
      refine At.region rfl rfl ?_
      refine Reg.pur rfl rfl rfl rfl (Pur.mv rfl) ?_
      refine Reg.lod rfl rfl rfl rfl (Lod.ldn ag25 rfl o0_0.blk (by first | exact whole rfl | rfl | (simp only [List.drop_succ_cons, List.drop_zero, List.take_succ_cons, List.take_zero]; rfl)) (by first | rfl | (simp [*]; done))) ?_
      refine Reg.op rfl rfl rfl rfl (Does.call rfl (typeOf_ok (hB.ext hE) (binds256 q11) (hS.ext hE) hL q15)) ?_
      rintro v3_2 H3_2 ⟨hE3_2, hT3_2⟩
      have z3_2 := hE3_2.lt
      replace hE := hE.ext hE3_2
      replace o0_0 := o0_0.ext hE3_2
      replace o0_1 := o0_1.ext hE3_2
      obtain ⟨A', cap', rfl, ho, hN, hl⟩ := hT3_2.v
      have z_ho := ho.lt
      refine Reg.pur rfl rfl rfl rfl (Pur.mv rfl) ?_
      refine Reg.pur rfl rfl rfl rfl (Pur.ext rfl rfl) ?_
      refine Reg.pur rfl rfl rfl rfl (Pur.ext rfl rfl) ?_
      refine Reg.op rfl rfl rfl rfl (Does.alloc zc25) ?_
      rintro _ H3_6 ⟨rfl, hn3_6⟩
      have z3_6 := hn3_6.size
      replace hE := hE.ext hn3_6.ext
      replace o0_0 := o0_0.ext hn3_6.ext
      replace o0_1 := o0_1.ext hn3_6.ext
      replace ho := ho.ext hn3_6.ext
      have o3_6 := hn3_6.own
      refine Reg.op0 rfl rfl rfl (Does.stn ag25 rfl rfl (by first | rfl | exact ones_Is _) (by first | rfl | (simp [*]; done)) o3_6 (by first | decide | (simp; done) | (simp; omega) | omega)) ?_
      rintro _ H3_7 hu3_7
      have z3_7 := hu3_7.size
      replace hE := hE.upw hu3_7 (by omega)
      replace o0_0 := o0_0.upw hu3_7 (by omega)
      replace o0_1 := o0_1.upw hu3_7 (by omega)
      replace ho := ho.upw hu3_7 (by omega)
      replace o3_6 := hu3_7.own
      first | rw [over (by first | rfl | (simp; done))] at o3_6 | skip
      refine Reg.pur rfl rfl rfl rfl (Pur.asg rfl) ?_
      refine Reg.nil ?_
      have hq : subT Bs L = typS Bs L := by unfold subT; rw [if_pos ⟨q11, q15⟩]
      refine At.region rfl rfl ?_
      refine Reg.pur rfl rfl rfl rfl (Pur.mv rfl) ?_
      refine Reg.pur rfl rfl rfl rfl (Pur.not rfl) ?_
      refine Reg.nil ?_
      refine At.cond rfl rfl (fun q24 => ?_) (fun q24 => ?_)
      · first | (simp only [decide_eq_true_eq, decide_eq_false_iff_not, Bool.not_eq_true', Bool.not_eq_false', ne_eq, Decidable.not_not, Bool.not_eq_true, Bool.not_eq_false] at q24) | (dsimp only at q24) | skip
        refine At.region rfl rfl ?_
        refine Reg.pur rfl rfl rfl rfl (Pur.bld (cs := [_]) pl25 zc25 rfl rfl ⟨rfl, rfl⟩) ?_
        refine Reg.op0 rfl rfl rfl (Does.stn ag25 rfl rfl (by first | rfl | exact ones_Is _) (by first | rfl | (simp [*]; done)) o0_1 (by first | decide | (simp; done) | (simp; omega) | omega)) ?_
        rintro _ H5_1 hu5_1
        have z5_1 := hu5_1.size
        replace hE := hE.upw hu5_1 (by omega)
        replace o0_0 := o0_0.upw hu5_1 (by omega)
        replace ho := ho.upw hu5_1 (by omega)
        replace o3_6 := o3_6.upw hu5_1 (by omega)
        replace o0_1 := hu5_1.own
        first | rw [over (by first | rfl | (simp; done))] at o0_1 | skip
        refine Reg.pur rfl rfl rfl rfl (Pur.asg rfl) ?_
        refine Reg.nil ?_
        refine At.retC rfl Try.func21 ⟨_, _, _, _, rfl, rfl, ⟨_, o0_1.blk, .inr ⟨_, _, ag25, (by first | exact whole rfl | exact whole (by simp [*])), (by first | rfl | simp [*]), rfl⟩⟩, ⟨_, _, rfl, rfl, rfl⟩⟩ ?_
        refine ⟨hE, ?_⟩
        rw [hq]
        cases hh : typS Bs L with
        | none => exact TypV.non rfl
        | some out => rw [hh] at q24; cases q24
      · first | (simp only [decide_eq_true_eq, decide_eq_false_iff_not, Bool.not_eq_true', Bool.not_eq_false', ne_eq, Decidable.not_not, Bool.not_eq_true, Bool.not_eq_false] at q24) | (dsimp only at q24) | skip
        refine At.region rfl rfl ?_
        refine Reg.lod rfl rfl rfl rfl (Lod.ldn ag25 rfl o3_6.blk (by first | exact whole rfl | rfl | (simp only [List.drop_succ_cons, List.drop_zero, List.take_succ_cons, List.take_zero]; rfl)) (by first | rfl | (simp [*]; done))) ?_
        refine Reg.op0 rfl rfl rfl (Does.stn ag25 rfl rfl (by first | rfl | exact ones_Is _) (by first | rfl | (simp [*]; done)) o0_1 (by first | decide | (simp; done) | (simp; omega) | omega)) ?_
        rintro _ H6_1 hu6_1
        have z6_1 := hu6_1.size
        replace hE := hE.upw hu6_1 (by omega)
        replace o0_0 := o0_0.upw hu6_1 (by omega)
        replace ho := ho.upw hu6_1 (by omega)
        replace o3_6 := o3_6.upw hu6_1 (by omega)
        replace o0_1 := hu6_1.own
        first | rw [over (by first | rfl | (simp; done))] at o0_1 | skip
        refine Reg.pur rfl rfl rfl rfl (Pur.asg rfl) ?_
        refine Reg.nil ?_
        refine At.retC rfl Try.func21 ⟨_, _, _, _, rfl, rfl, ⟨_, o0_1.blk, .inr ⟨_, _, ag25, (by first | exact whole rfl | exact whole (by simp [*])), (by first | rfl | simp [*]), rfl⟩⟩, ⟨_, _, rfl, rfl, rfl⟩⟩ ?_
        refine ⟨hE, ?_⟩
        rw [hq]
        rw [show (typS Bs L).isSome = true from q24]
        exact ⟨A', cap', rfl, ho.mono (by omega), hN, hl⟩

theorem rowS_false {Bs : List Bd} {r : List Int} (h : (rowS Bs r).2 = false) : rowS Bs r = (noRow, false) := by
  revert h; unfold rowS
  split
  · intro h; cases h
  · split
    · intro h; cases h
    · split
      · intro h; cases h
      · intro _; rfl
/-- a row and a code -/
abbrev RowE (p : List Int × Bool) : Value := .tuple #[.agg (Is p.1).toArray, I (ce p.2)]
theorem row_ok {A : Option Addr} {cap : Nat} {Bs : List Bd} {H : Heap} (hB : Bds H (.slice A Bs.length cap) Bs) (r : List Int) (hr : r.length = 5) :
    Ret Try.prog 22 [.slice A Bs.length cap, .agg (Is r).toArray] H (fun v H' => v = RowE (subR Bs r) ∧ (subR Bs r).1.length = 5 ∧ Ext H H') := by
  have hr' : (Is r).length = 5 := by simp [hr]
  refine Ret.of_at (N := 27) Try.call22 Try.func22 rfl rfl rfl ?_
  have hE := Ext.refl H
  refine At.region rfl rfl ?_
  refine Reg.op rfl rfl rfl rfl (Does.box rfl rfl) ?_
  rintro _ H0_0 ⟨rfl, hn0_0⟩
  have z0_0 := hn0_0.size
  replace hE := hE.ext hn0_0.ext
  have o0_0 := hn0_0.own
  refine Reg.op rfl rfl rfl rfl (Does.alloc zc28) ?_
  rintro _ H0_1 ⟨rfl, hn0_1⟩
  have z0_1 := hn0_1.size
  replace hE := hE.ext hn0_1.ext
  replace o0_0 := o0_0.ext hn0_1.ext
  have o0_1 := hn0_1.own
  refine Reg.pur rfl rfl rfl rfl (Pur.asg rfl) ?_
  refine Reg.nil ?_
  refine At.region rfl rfl ?_
  refine Reg.pur rfl rfl rfl rfl (Pur.mv rfl) ?_
  refine Reg.op rfl rfl rfl rfl (Does.call rfl (bindsMay_ok (hB.ext hE))) ?_
  rintro _ H1_1 ⟨rfl, hE1_1⟩
  have z1_1 := hE1_1.lt
  replace hE := hE.ext hE1_1
  replace o0_0 := o0_0.ext hE1_1
  replace o0_1 := o0_1.ext hE1_1
  refine Reg.pur rfl rfl rfl rfl (Pur.not rfl) ?_
  refine Reg.pur rfl rfl rfl rfl (Pur.mv rfl) ?_
  refine Reg.case 11 rfl (fun q11 => ?_) (fun q11 => ?_)
  · first | (simp only [decide_eq_true_eq, decide_eq_false_iff_not, Bool.not_eq_true', Bool.not_eq_false', ne_eq, Decidable.not_not, Bool.not_eq_true, Bool.not_eq_false] at q11) | (dsimp only at q11) | skip
    refine Reg.skip rfl rfl rfl rfl rfl rfl rfl ?_
    refine Reg.skip rfl rfl rfl rfl rfl rfl rfl ?_
    refine Reg.skip rfl rfl rfl rfl rfl rfl rfl ?_
    refine Reg.pur rfl rfl rfl rfl (Pur.pickT rfl rfl) ?_
    refine Reg.nil ?_
    refine At.condT rfl rfl rfl ?_
    refine At.region rfl rfl ?_
    refine Reg.pur rfl rfl rfl rfl (Pur.bld (cs := [_, _, _, _, _]) pl28 zc28 rfl rfl ⟨rfl, rfl, rfl, rfl, rfl, rfl⟩) ?_
    refine Reg.op0 rfl rfl rfl (Does.stn ag28 rfl rfl (by first | rfl | exact ones_Is _) (by first | rfl | (simp [*]; done)) o0_1 (by first | decide | (simp; done) | (simp; omega) | omega)) ?_
    rintro _ H2_1 hu2_1
    have z2_1 := hu2_1.size
    replace hE := hE.upw hu2_1 (by omega)
    replace o0_0 := o0_0.upw hu2_1 (by omega)
    replace o0_1 := hu2_1.own
    first | rw [over (by first | rfl | (simp; done))] at o0_1 | skip
    refine Reg.pur rfl rfl rfl rfl (Pur.asg rfl) ?_
    refine Reg.nil ?_
    refine At.retC rfl Try.func22 ⟨_, _, _, _, rfl, rfl, ⟨_, o0_1.blk, .inr ⟨_, _, ag28, (by first | exact whole rfl | exact whole (by simp [*])), (by first | rfl | simp [*]), rfl⟩⟩, ⟨_, _, rfl, rfl, rfl⟩⟩ ?_
    rw [show subR Bs r = (noRow, false) by unfold subR; rw [if_neg]; simp_all]
    exact ⟨rfl, rfl, hE⟩
  · first | (simp only [decide_eq_true_eq, decide_eq_false_iff_not, Bool.not_eq_true', Bool.not_eq_false', ne_eq, Decidable.not_not, Bool.not_eq_true, Bool.not_eq_false] at q11) | (dsimp only at q11) | skip
    refine Reg.glod rfl rfl rfl rfl rfl rfl (Lod.ldn ag28 rfl o0_0.blk (whole hr') hr') ?_
    refine Reg.gop rfl rfl rfl rfl rfl rfl (Does.call rfl (rowMay_ok r hr _)) ?_
    rintro _ H1_5 ⟨rfl, hE1_5⟩
    have z1_5 := hE1_5.lt
    replace hE := hE.ext hE1_5
    replace o0_0 := o0_0.ext hE1_5
    replace o0_1 := o0_1.ext hE1_5
    refine Reg.gpur rfl rfl rfl rfl rfl rfl (Pur.not rfl) ?_
    refine Reg.pur rfl rfl rfl rfl (Pur.pickF rfl rfl) ?_
    refine Reg.nil ?_
    refine At.cond rfl rfl (fun q15 => ?_) (fun q15 => ?_)
    · first | (simp only [decide_eq_true_eq, decide_eq_false_iff_not, Bool.not_eq_true', Bool.not_eq_false', ne_eq, Decidable.not_not, Bool.not_eq_true, Bool.not_eq_false] at q15) | (dsimp only at q15) | skip
      refine At.region rfl rfl ?_
      refine Reg.pur rfl rfl rfl rfl (Pur.bld (cs := [_, _, _, _, _]) pl28 zc28 rfl rfl ⟨rfl, rfl, rfl, rfl, rfl, rfl⟩) ?_
      refine Reg.op0 rfl rfl rfl (Does.stn ag28 rfl rfl (by first | rfl | exact ones_Is _) (by first | rfl | (simp [*]; done)) o0_1 (by first | decide | (simp; done) | (simp; omega) | omega)) ?_
      rintro _ H2_1 hu2_1
      have z2_1 := hu2_1.size
      replace hE := hE.upw hu2_1 (by omega)
      replace o0_0 := o0_0.upw hu2_1 (by omega)
      replace o0_1 := hu2_1.own
      first | rw [over (by first | rfl | (simp; done))] at o0_1 | skip
      refine Reg.pur rfl rfl rfl rfl (Pur.asg rfl) ?_
      refine Reg.nil ?_
      refine At.retC rfl Try.func22 ⟨_, _, _, _, rfl, rfl, ⟨_, o0_1.blk, .inr ⟨_, _, ag28, (by first | exact whole rfl | exact whole (by simp [*])), (by first | rfl | simp [*]), rfl⟩⟩, ⟨_, _, rfl, rfl, rfl⟩⟩ ?_
      rw [show subR Bs r = (noRow, false) by unfold subR; rw [if_neg]; simp_all]
      exact ⟨rfl, rfl, hE⟩
    · first | (simp only [decide_eq_true_eq, decide_eq_false_iff_not, Bool.not_eq_true', Bool.not_eq_false', ne_eq, Decidable.not_not, Bool.not_eq_true, Bool.not_eq_false] at q15) | (dsimp only at q15) | skip
      refine At.region rfl rfl ?_
      refine Reg.pur rfl rfl rfl rfl (Pur.mv rfl) ?_
      refine Reg.lod rfl rfl rfl rfl (Lod.ldn ag28 rfl o0_0.blk (whole hr') hr') ?_
      refine Reg.op rfl rfl rfl rfl (Does.call rfl (ofRow_ok (hB.ext hE) r hr (row_tail q15))) ?_
      rintro _ H3_2 ⟨rfl, hl, hE3_2⟩
      have z3_2 := hE3_2.lt
      replace hE := hE.ext hE3_2
      replace o0_0 := o0_0.ext hE3_2
      replace o0_1 := o0_1.ext hE3_2
      refine Reg.pur rfl rfl rfl rfl (Pur.mv rfl) ?_
      refine Reg.pur rfl rfl rfl rfl (Pur.ext rfl rfl) ?_
      refine Reg.pur rfl rfl rfl rfl (Pur.ext rfl rfl) ?_
      refine Reg.op rfl rfl rfl rfl (Does.alloc zc28) ?_
      rintro _ H3_6 ⟨rfl, hn3_6⟩
      have z3_6 := hn3_6.size
      replace hE := hE.ext hn3_6.ext
      replace o0_0 := o0_0.ext hn3_6.ext
      replace o0_1 := o0_1.ext hn3_6.ext
      have o3_6 := hn3_6.own
      refine Reg.op0 rfl rfl rfl (Does.stn ag28 rfl rfl (by first | rfl | exact ones_Is _) (by first | rfl | (simp [*]; done)) o3_6 (by first | decide | (simp; done) | (simp; omega) | omega)) ?_
      rintro _ H3_7 hu3_7
      have z3_7 := hu3_7.size
      replace hE := hE.upw hu3_7 (by omega)
      replace o0_0 := o0_0.upw hu3_7 (by omega)
      replace o0_1 := o0_1.upw hu3_7 (by omega)
      replace o3_6 := hu3_7.own
      first | rw [over (by first | rfl | (simp; done))] at o3_6 | skip
      refine Reg.pur rfl rfl rfl rfl (Pur.asg rfl) ?_
      refine Reg.nil ?_
      have hl' : (Is (rowS Bs r).1).length = 5 := by simp [hl]
      have hq : subR Bs r = rowS Bs r := by unfold subR; rw [if_pos ⟨q11, q15⟩]
      refine At.region rfl rfl ?_
      refine Reg.pur rfl rfl rfl rfl (Pur.mv rfl) ?_
      refine Reg.pur rfl rfl rfl rfl (Pur.not rfl) ?_
      refine Reg.nil ?_
      refine At.cond rfl rfl (fun q24 => ?_) (fun q24 => ?_)
      · first | (simp only [decide_eq_true_eq, decide_eq_false_iff_not, Bool.not_eq_true', Bool.not_eq_false', ne_eq, Decidable.not_not, Bool.not_eq_true, Bool.not_eq_false] at q24) | (dsimp only at q24) | skip
        refine At.region rfl rfl ?_
        refine Reg.pur rfl rfl rfl rfl (Pur.bld (cs := [_, _, _, _, _]) pl28 zc28 rfl rfl ⟨rfl, rfl, rfl, rfl, rfl, rfl⟩) ?_
        refine Reg.op0 rfl rfl rfl (Does.stn ag28 rfl rfl (by first | rfl | exact ones_Is _) (by first | rfl | (simp [*]; done)) o0_1 (by first | decide | (simp; done) | (simp; omega) | omega)) ?_
        rintro _ H5_1 hu5_1
        have z5_1 := hu5_1.size
        replace hE := hE.upw hu5_1 (by omega)
        replace o0_0 := o0_0.upw hu5_1 (by omega)
        replace o3_6 := o3_6.upw hu5_1 (by omega)
        replace o0_1 := hu5_1.own
        first | rw [over (by first | rfl | (simp; done))] at o0_1 | skip
        refine Reg.pur rfl rfl rfl rfl (Pur.asg rfl) ?_
        refine Reg.nil ?_
        refine At.retC rfl Try.func22 ⟨_, _, _, _, rfl, rfl, ⟨_, o0_1.blk, .inr ⟨_, _, ag28, (by first | exact whole rfl | exact whole (by simp [*])), (by first | rfl | simp [*]), rfl⟩⟩, ⟨_, _, rfl, rfl, rfl⟩⟩ ?_
        rw [hq]
        have hz := rowS_false q24
        rw [hz]
        exact ⟨rfl, rfl, hE⟩
      · first | (simp only [decide_eq_true_eq, decide_eq_false_iff_not, Bool.not_eq_true', Bool.not_eq_false', ne_eq, Decidable.not_not, Bool.not_eq_true, Bool.not_eq_false] at q24) | (dsimp only at q24) | skip
        refine At.region rfl rfl ?_
        refine Reg.lod rfl rfl rfl rfl (Lod.ldn ag28 rfl o3_6.blk (whole hl') hl') ?_
        refine Reg.op0 rfl rfl rfl (Does.stn ag28 rfl rfl (by first | rfl | exact ones_Is _) (by first | rfl | (simp [*]; done)) o0_1 (by first | decide | (simp; done) | (simp; omega) | omega)) ?_
        rintro _ H6_1 hu6_1
        have z6_1 := hu6_1.size
        replace hE := hE.upw hu6_1 (by omega)
        replace o0_0 := o0_0.upw hu6_1 (by omega)
        replace o3_6 := o3_6.upw hu6_1 (by omega)
        replace o0_1 := hu6_1.own
        first | rw [over (by first | rfl | (simp; done))] at o0_1 | skip
        refine Reg.pur rfl rfl rfl rfl (Pur.asg rfl) ?_
        refine Reg.nil ?_
        refine At.retC rfl Try.func22 ⟨_, _, _, _, rfl, rfl, ⟨_, o0_1.blk, .inr ⟨_, _, ag28, (whole hl'), hl', rfl⟩⟩, ⟨_, _, rfl, rfl, rfl⟩⟩ ?_
        rw [hq]
        refine ⟨?_, hl, hE⟩
        unfold RowE; rw [show (rowS Bs r).2 = true from q24]; rfl
theorem rowR_ok {A : Option Addr} {cap : Nat} {Bs : List Bd} {H : Heap} (hB : Bds H (.slice A Bs.length cap) Bs) (r : List Int) (hr : r.length = 5) :
    Ret Try.prog 23 [.slice A Bs.length cap, .agg (Is r).toArray] H (fun v H' => v = RowE (subR Bs r) ∧ (subR Bs r).1.length = 5 ∧ Ext H H') := by
  have hr' : (Is r).length = 5 := by simp [hr]
  refine Ret.of_at (N := 27) Try.call23 Try.func23 rfl rfl rfl ?_
  have hE := Ext.refl H
  refine At.region rfl rfl ?_
  refine Reg.op rfl rfl rfl rfl (Does.box rfl rfl) ?_
  rintro _ H0_0 ⟨rfl, hn0_0⟩
  have z0_0 := hn0_0.size
  replace hE := hE.ext hn0_0.ext
  have o0_0 := hn0_0.own
  refine Reg.op rfl rfl rfl rfl (Does.alloc zc28) ?_
  rintro _ H0_1 ⟨rfl, hn0_1⟩
  have z0_1 := hn0_1.size
  replace hE := hE.ext hn0_1.ext
  replace o0_0 := o0_0.ext hn0_1.ext
  have o0_1 := hn0_1.own
  refine Reg.pur rfl rfl rfl rfl (Pur.asg rfl) ?_
  refine Reg.nil ?_
  refine At.region rfl rfl ?_
  refine Reg.pur rfl rfl rfl rfl (Pur.mv rfl) ?_
  refine Reg.op rfl rfl rfl rfl (Does.call rfl (bindsMayR_ok (hB.ext hE))) ?_
  rintro _ H1_1 ⟨rfl, hE1_1⟩
  have z1_1 := hE1_1.lt
  replace hE := hE.ext hE1_1
  replace o0_0 := o0_0.ext hE1_1
  replace o0_1 := o0_1.ext hE1_1
  refine Reg.pur rfl rfl rfl rfl (Pur.not rfl) ?_
  refine Reg.pur rfl rfl rfl rfl (Pur.mv rfl) ?_
  refine Reg.case 11 rfl (fun q11 => ?_) (fun q11 => ?_)
  · first | (simp only [decide_eq_true_eq, decide_eq_false_iff_not, Bool.not_eq_true', Bool.not_eq_false', ne_eq, Decidable.not_not, Bool.not_eq_true, Bool.not_eq_false] at q11) | (dsimp only at q11) | skip
    refine Reg.skip rfl rfl rfl rfl rfl rfl rfl ?_
    refine Reg.skip rfl rfl rfl rfl rfl rfl rfl ?_
    refine Reg.skip rfl rfl rfl rfl rfl rfl rfl ?_
    refine Reg.pur rfl rfl rfl rfl (Pur.pickT rfl rfl) ?_
    refine Reg.nil ?_
    refine At.condT rfl rfl rfl ?_
    refine At.region rfl rfl ?_
    refine Reg.pur rfl rfl rfl rfl (Pur.bld (cs := [_, _, _, _, _]) pl28 zc28 rfl rfl ⟨rfl, rfl, rfl, rfl, rfl, rfl⟩) ?_
    refine Reg.op0 rfl rfl rfl (Does.stn ag28 rfl rfl (by first | rfl | exact ones_Is _) (by first | rfl | (simp [*]; done)) o0_1 (by first | decide | (simp; done) | (simp; omega) | omega)) ?_
    rintro _ H2_1 hu2_1
    have z2_1 := hu2_1.size
    replace hE := hE.upw hu2_1 (by omega)
    replace o0_0 := o0_0.upw hu2_1 (by omega)
    replace o0_1 := hu2_1.own
    first | rw [over (by first | rfl | (simp; done))] at o0_1 | skip
    refine Reg.pur rfl rfl rfl rfl (Pur.asg rfl) ?_
    refine Reg.nil ?_
    refine At.retC rfl Try.func23 ⟨_, _, _, _, rfl, rfl, ⟨_, o0_1.blk, .inr ⟨_, _, ag28, (by first | exact whole rfl | exact whole (by simp [*])), (by first | rfl | simp [*]), rfl⟩⟩, ⟨_, _, rfl, rfl, rfl⟩⟩ ?_
    rw [show subR Bs r = (noRow, false) by unfold subR; rw [if_neg]; simp_all]
    exact ⟨rfl, rfl, hE⟩
  · first | (simp only [decide_eq_true_eq, decide_eq_false_iff_not, Bool.not_eq_true', Bool.not_eq_false', ne_eq, Decidable.not_not, Bool.not_eq_true, Bool.not_eq_false] at q11) | (dsimp only at q11) | skip
    refine Reg.glod rfl rfl rfl rfl rfl rfl (Lod.ldn ag28 rfl o0_0.blk (whole hr') hr') ?_
    refine Reg.gop rfl rfl rfl rfl rfl rfl (Does.call rfl (rowMayR_ok r hr _)) ?_
    rintro _ H1_5 ⟨rfl, hE1_5⟩
    have z1_5 := hE1_5.lt
    replace hE := hE.ext hE1_5
    replace o0_0 := o0_0.ext hE1_5
    replace o0_1 := o0_1.ext hE1_5
    refine Reg.gpur rfl rfl rfl rfl rfl rfl (Pur.not rfl) ?_
    refine Reg.pur rfl rfl rfl rfl (Pur.pickF rfl rfl) ?_
    refine Reg.nil ?_
    refine At.cond rfl rfl (fun q15 => ?_) (fun q15 => ?_)
    · first | (simp only [decide_eq_true_eq, decide_eq_false_iff_not, Bool.not_eq_true', Bool.not_eq_false', ne_eq, Decidable.not_not, Bool.not_eq_true, Bool.not_eq_false] at q15) | (dsimp only at q15) | skip
      refine At.region rfl rfl ?_
      refine Reg.pur rfl rfl rfl rfl (Pur.bld (cs := [_, _, _, _, _]) pl28 zc28 rfl rfl ⟨rfl, rfl, rfl, rfl, rfl, rfl⟩) ?_
      refine Reg.op0 rfl rfl rfl (Does.stn ag28 rfl rfl (by first | rfl | exact ones_Is _) (by first | rfl | (simp [*]; done)) o0_1 (by first | decide | (simp; done) | (simp; omega) | omega)) ?_
      rintro _ H2_1 hu2_1
      have z2_1 := hu2_1.size
      replace hE := hE.upw hu2_1 (by omega)
      replace o0_0 := o0_0.upw hu2_1 (by omega)
      replace o0_1 := hu2_1.own
      first | rw [over (by first | rfl | (simp; done))] at o0_1 | skip
      refine Reg.pur rfl rfl rfl rfl (Pur.asg rfl) ?_
      refine Reg.nil ?_
      refine At.retC rfl Try.func23 ⟨_, _, _, _, rfl, rfl, ⟨_, o0_1.blk, .inr ⟨_, _, ag28, (by first | exact whole rfl | exact whole (by simp [*])), (by first | rfl | simp [*]), rfl⟩⟩, ⟨_, _, rfl, rfl, rfl⟩⟩ ?_
      rw [show subR Bs r = (noRow, false) by unfold subR; rw [if_neg]; simp_all]
      exact ⟨rfl, rfl, hE⟩
    · first | (simp only [decide_eq_true_eq, decide_eq_false_iff_not, Bool.not_eq_true', Bool.not_eq_false', ne_eq, Decidable.not_not, Bool.not_eq_true, Bool.not_eq_false] at q15) | (dsimp only at q15) | skip
      refine At.region rfl rfl ?_
      refine Reg.pur rfl rfl rfl rfl (Pur.mv rfl) ?_
      refine Reg.lod rfl rfl rfl rfl (Lod.ldn ag28 rfl o0_0.blk (whole hr') hr') ?_
      refine Reg.op rfl rfl rfl rfl (Does.call rfl (rowOf_ok (hB.ext hE) r hr)) ?_
      rintro _ H3_2 ⟨rfl, hl, hE3_2⟩
      have z3_2 := hE3_2.lt
      replace hE := hE.ext hE3_2
      replace o0_0 := o0_0.ext hE3_2
      replace o0_1 := o0_1.ext hE3_2
      refine Reg.pur rfl rfl rfl rfl (Pur.mv rfl) ?_
      refine Reg.pur rfl rfl rfl rfl (Pur.ext rfl rfl) ?_
      refine Reg.pur rfl rfl rfl rfl (Pur.ext rfl rfl) ?_
      refine Reg.op rfl rfl rfl rfl (Does.alloc zc28) ?_
      rintro _ H3_6 ⟨rfl, hn3_6⟩
      have z3_6 := hn3_6.size
      replace hE := hE.ext hn3_6.ext
      replace o0_0 := o0_0.ext hn3_6.ext
      replace o0_1 := o0_1.ext hn3_6.ext
      have o3_6 := hn3_6.own
      refine Reg.op0 rfl rfl rfl (Does.stn ag28 rfl rfl (by first | rfl | exact ones_Is _) (by first | rfl | (simp [*]; done)) o3_6 (by first | decide | (simp; done) | (simp; omega) | omega)) ?_
      rintro _ H3_7 hu3_7
      have z3_7 := hu3_7.size
      replace hE := hE.upw hu3_7 (by omega)
      replace o0_0 := o0_0.upw hu3_7 (by omega)
      replace o0_1 := o0_1.upw hu3_7 (by omega)
      replace o3_6 := hu3_7.own
      first | rw [over (by first | rfl | (simp; done))] at o3_6 | skip
      refine Reg.pur rfl rfl rfl rfl (Pur.asg rfl) ?_
      refine Reg.nil ?_
      have hl' : (Is (rowS Bs r).1).length = 5 := by simp [hl]
      have hq : subR Bs r = rowS Bs r := by unfold subR; rw [if_pos ⟨q11, q15⟩]
      refine At.region rfl rfl ?_
      refine Reg.pur rfl rfl rfl rfl (Pur.mv rfl) ?_
      refine Reg.pur rfl rfl rfl rfl (Pur.not rfl) ?_
      refine Reg.nil ?_
      refine At.cond rfl rfl (fun q24 => ?_) (fun q24 => ?_)
      · first | (simp only [decide_eq_true_eq, decide_eq_false_iff_not, Bool.not_eq_true', Bool.not_eq_false', ne_eq, Decidable.not_not, Bool.not_eq_true, Bool.not_eq_false] at q24) | (dsimp only at q24) | skip
        refine At.region rfl rfl ?_
        refine Reg.pur rfl rfl rfl rfl (Pur.bld (cs := [_, _, _, _, _]) pl28 zc28 rfl rfl ⟨rfl, rfl, rfl, rfl, rfl, rfl⟩) ?_
        refine Reg.op0 rfl rfl rfl (Does.stn ag28 rfl rfl (by first | rfl | exact ones_Is _) (by first | rfl | (simp [*]; done)) o0_1 (by first | decide | (simp; done) | (simp; omega) | omega)) ?_
        rintro _ H5_1 hu5_1
        have z5_1 := hu5_1.size
        replace hE := hE.upw hu5_1 (by omega)
        replace o0_0 := o0_0.upw hu5_1 (by omega)
        replace o3_6 := o3_6.upw hu5_1 (by omega)
        replace o0_1 := hu5_1.own
        first | rw [over (by first | rfl | (simp; done))] at o0_1 | skip
        refine Reg.pur rfl rfl rfl rfl (Pur.asg rfl) ?_
        refine Reg.nil ?_
        refine At.retC rfl Try.func23 ⟨_, _, _, _, rfl, rfl, ⟨_, o0_1.blk, .inr ⟨_, _, ag28, (by first | exact whole rfl | exact whole (by simp [*])), (by first | rfl | simp [*]), rfl⟩⟩, ⟨_, _, rfl, rfl, rfl⟩⟩ ?_
        rw [hq]
        have hz := rowS_false q24
        rw [hz]
        exact ⟨rfl, rfl, hE⟩
      · first | (simp only [decide_eq_true_eq, decide_eq_false_iff_not, Bool.not_eq_true', Bool.not_eq_false', ne_eq, Decidable.not_not, Bool.not_eq_true, Bool.not_eq_false] at q24) | (dsimp only at q24) | skip
        refine At.region rfl rfl ?_
        refine Reg.lod rfl rfl rfl rfl (Lod.ldn ag28 rfl o3_6.blk (whole hl') hl') ?_
        refine Reg.op0 rfl rfl rfl (Does.stn ag28 rfl rfl (by first | rfl | exact ones_Is _) (by first | rfl | (simp [*]; done)) o0_1 (by first | decide | (simp; done) | (simp; omega) | omega)) ?_
        rintro _ H6_1 hu6_1
        have z6_1 := hu6_1.size
        replace hE := hE.upw hu6_1 (by omega)
        replace o0_0 := o0_0.upw hu6_1 (by omega)
        replace o3_6 := o3_6.upw hu6_1 (by omega)
        replace o0_1 := hu6_1.own
        first | rw [over (by first | rfl | (simp; done))] at o0_1 | skip
        refine Reg.pur rfl rfl rfl rfl (Pur.asg rfl) ?_
        refine Reg.nil ?_
        refine At.retC rfl Try.func23 ⟨_, _, _, _, rfl, rfl, ⟨_, o0_1.blk, .inr ⟨_, _, ag28, (whole hl'), hl', rfl⟩⟩, ⟨_, _, rfl, rfl, rfl⟩⟩ ?_
        rw [hq]
        refine ⟨?_, hl, hE⟩
        unfold RowE; rw [show (rowS Bs r).2 = true from q24]; rfl
end Go.Proofs.Ytlfillhffpiffaa
