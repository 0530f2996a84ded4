/-
  Parts of the proof, 2.
-/
import Derived.Test.YtlfillhffpiffaaProg
import Derived.Laws.BytesString
import Derived.Test.YtlfillhffpiffaaV1
namespace Go.Proofs.Ytlfillhffpiffaa
set_option linter.unusedSimpArgs false
set_option linter.unusedVariables false
set_option maxRecDepth 8000
open Go Go.Fx Go.Proofs
namespace FactsSchA
theorem isl54 : isSl Try.prog 54 = true := by kernel_rfl
end FactsSchA
open FactsSchA

def ixL : List Int → Int → Nat
  | [], _ => 0
  | x :: l, v => if x = v then 0 else ixL l v + 1
def inL (l : List Int) (v : Int) : Bool := decide (ixL l v < l.length)
theorem ixL_le : ∀ (l : List Int) (v : Int), ixL l v ≤ l.length
  | [], _ => Nat.le_refl _
  | x :: l, v => by
    simp only [ixL]; split
    · simp
    · simp only [List.length_cons]; have := ixL_le l v; omega
theorem ix_drop {l : List Int} {i : Nat} {v : Int} (hi : i < l.length) : ixL (l.drop i) v = if l[i] = v then 0 else ixL (l.drop (i + 1)) v + 1 := by
  rw [dropL hi, ixL]
theorem ix_end {l : List Int} {i : Nat} {v : Int} (hi : l.length ≤ i) : ixL (l.drop i) v = 0 := by rw [List.drop_of_length_le hi]; rfl
theorem int_at {l : List Int} {H : Heap} {A : Option Addr} {cap : Nat} (hS : SlT H e1 1 (.slice A l.length cap) l) {i : Nat} (hi : i < l.length) :
    ∃ b o c, A = some ⟨b, o, none⟩ ∧ Blk H b c ∧ c[o + i * 1]? = some (I l[i]) := by
  obtain ⟨b, o, c, h1, h2, h3, _⟩ := sl_at (wide1 l) hS hi
  exact ⟨b, o, c, h1, h2, by have := at_tk (j := 0) h3 (by omega) (v := I l[i]) rfl; simpa using this⟩

end Go.Proofs.Ytlfillhffpiffaa

namespace Go.Proofs.Ytlfillhffpiffaa
set_option linter.unusedSimpArgs false
set_option linter.unusedVariables false
set_option maxRecDepth 8000
open Go Go.Fx Go.Proofs
namespace FactsSchB
theorem isl54 : isSl Try.prog 54 = true := by kernel_rfl
theorem sc54 : sc Try.prog 54 = true := by kernel_rfl
end FactsSchB
open FactsSchB

end Go.Proofs.Ytlfillhffpiffaa

namespace Go.Proofs.Ytlfillhffpiffaa
set_option linter.unusedSimpArgs false
set_option linter.unusedVariables false
set_option maxRecDepth 8000
open Go Go.Fx Go.Proofs
namespace FactsSchC
theorem fo116_0 : foff Try.prog 116 0 = some 0 := by kernel_rfl
theorem fo116_1 : foff Try.prog 116 1 = some 1 := by kernel_rfl
theorem isl54 : isSl Try.prog 54 = true := by kernel_rfl
theorem sc54 : sc Try.prog 54 = true := by kernel_rfl
end FactsSchC
open FactsSchC

def addL (T : List Int) (v : Int) : List Int := if inL T v then T else T ++ [v]
theorem addL_len (T : List Int) (v : Int) : (addL T v).length ≤ T.length + 1 := by unfold addL; split <;> simp
structure Nm (H : Heap) (nb B : Nat) (A1 : Option Addr) (c1 : Nat) (T : List Int) (A2 : Option Addr) (c2 : Nat) (R : List Int) : Prop where
  own : Own H nb [.slice A1 T.length c1, .slice A2 R.length c2]
  g1 : Gs H B 3 1 A1 c1 T.length (T.flatMap e1)
  g2 : Gs H B 3 1 A2 c2 R.length (R.flatMap e1)
  d1 : ob A1 = -1 ∨ ob A1 ≠ ob A2
  d2 : ob A1 ≠ nb
  d3 : ob A2 ≠ nb
  lo : B ≤ H.size
def Mod (nb : Nat) (A1 A2 A1' A2' : Option Addr) (H H' : Heap) : Prop :=
  But (fun g => g = nb ∨ (g : Int) = ob A1 ∨ (g : Int) = ob A2) H H' ∧ (ob A1' = ob A1 ∨ (H.size : Int) ≤ ob A1') ∧ (ob A2' = ob A2 ∨ (H.size : Int) ≤ ob A2')
theorem Mod.refl (nb : Nat) (A1 A2 : Option Addr) (H : Heap) : Mod nb A1 A2 A1 A2 H H := ⟨But.refl _ _, .inl rfl, .inl rfl⟩
theorem Mod.trans {nb : Nat} {A1 A2 B1 B2 C1 C2 : Option Addr} {H H' H'' : Heap} (h : Mod nb A1 A2 B1 B2 H H') (k : Mod nb B1 B2 C1 C2 H' H'') : Mod nb A1 A2 C1 C2 H H'' := by
  obtain ⟨h1, h2, h3⟩ := h
  obtain ⟨k1, k2, k3⟩ := k
  have hs := h1.1
  refine ⟨⟨Nat.le_trans h1.1 k1.1, fun b hb hS => ?_⟩, by omega, by omega⟩
  rw [k1.2 b (by omega) (fun hk => hS (by dsimp only at hk ⊢; omega)), h1.2 b hb hS]
theorem Mod.ext {nb : Nat} {A1 A2 B1 B2 : Option Addr} {H H' H'' : Heap} (h : Mod nb A1 A2 B1 B2 H H') (k : Ext H' H'') : Mod nb A1 A2 B1 B2 H H'' :=
  ⟨h.1.trans k.but, h.2⟩
theorem Nm.ext {H H' : Heap} {nb B : Nat} {A1 A2 : Option Addr} {c1 c2 : Nat} {T R : List Int} (h : Nm H nb B A1 c1 T A2 c2 R) (he : Ext H H') : Nm H' nb B A1 c1 T A2 c2 R :=
  ⟨h.own.ext he, h.g1.ext he, h.g2.ext he, h.d1, h.d2, h.d3, Nat.le_trans h.lo he.1⟩

theorem at_ok {B cap : Nat} {A : Option Addr} (T : List Int) (v : Int) {H : Heap} (hg : Gs H B 3 1 A cap T.length (T.flatMap e1)) (hB : B ≤ H.size) (hm : T.length ≤ 1000000) :
    Ret Try.prog 126 [.slice A T.length cap, I v] H (fun r H' => ∃ A' cap', r = .tuple #[.slice A' (addL T v).length cap', I (ixL T v)] ∧ Gs H' B 3 1 A' cap' (addL T v).length ((addL T v).flatMap e1) ∧ But (fun g => (g : Int) = ob A) H H' ∧ (ob A' = ob A ∨ (H.size : Int) ≤ ob A')) := by
  have hS := own_sl (wide1 T) (by decide) hg
  have z1 := hg.lt
  refine Ret.of_at (N := 29) Try.call126 Try.func126 rfl rfl rfl ?_
  have hE := Ext.refl H
  have z_hg := hg.lt
  refine At.region rfl rfl ?_
  refine Reg.pur rfl rfl rfl rfl (Pur.asg rfl) ?_
  refine Reg.pur rfl rfl rfl rfl (Pur.asg rfl) ?_
  refine Reg.nil ?_
  refine At.region rfl rfl ?_
  refine Reg.pur rfl rfl rfl rfl (Pur.asg rfl) ?_
  refine Reg.nil ?_
  refine At.loop (σ := Nat) (fun i => [(6, I i), (0, .slice A T.length cap), (1, I v)]) (fun i H' => i ≤ T.length ∧ H' = H ∧ ixL T v = i + ixL (T.drop i) v) (fun i => T.length - i) 0 rfl ⟨rfl, rfl, rfl, trivial⟩ ⟨by omega, rfl, by simp⟩ ?_
  rintro i H ⟨hi, rfl, hgo⟩ ih
  refine At.region rfl rfl ?_
  refine Reg.pur rfl rfl rfl rfl (Pur.mv rfl) ?_
  refine Reg.pur rfl rfl rfl rfl (Pur.mv rfl) ?_
  refine Reg.pur rfl rfl rfl rfl (Pur.lenS isl54 rfl) ?_
  refine Reg.pur rfl rfl rfl rfl (Pur.lss rfl rfl) ?_
  refine Reg.nil ?_
  refine At.cond rfl rfl (fun q10 => ?_) (fun q10 => ?_)
  · first | (simp only [decide_eq_true_eq, decide_eq_false_iff_not, Bool.not_eq_true', Bool.not_eq_false', ne_eq, Decidable.not_not, Bool.not_eq_true, Bool.not_eq_false] at q10) | (dsimp only at q10) | skip
    have hlt : i < T.length := by omega
    obtain ⟨b, o, c, rfl, hB, hc⟩ := int_at hS hlt
    rw [ix_drop hlt] at hgo
    refine At.region rfl rfl ?_
    refine Reg.pur rfl rfl rfl rfl (Pur.mv rfl) ?_
    refine Reg.pur rfl rfl rfl rfl (Pur.mv rfl) ?_
    refine Reg.pur rfl rfl rfl rfl (Pur.idx _ es54 rfl rfl (by omega) (by omega)) ?_
    refine Reg.lod rfl rfl rfl rfl (Lod.ld sc3 rfl hB hc) ?_
    refine Reg.pur rfl rfl rfl rfl (Pur.mv rfl) ?_
    refine Reg.pur rfl rfl rfl rfl (Pur.eql rfl rfl) ?_
    refine Reg.nil ?_
    refine At.cond rfl rfl (fun q18 => ?_) (fun q18 => ?_)
    · first | (simp only [decide_eq_true_eq, decide_eq_false_iff_not, Bool.not_eq_true', Bool.not_eq_false', ne_eq, Decidable.not_not, Bool.not_eq_true, Bool.not_eq_false] at q18) | (dsimp only at q18) | skip
      refine At.region rfl rfl ?_
      refine Reg.pur rfl rfl rfl rfl (Pur.mv rfl) ?_
      refine Reg.pur rfl rfl rfl rfl (Pur.mv rfl) ?_
      refine Reg.pur rfl rfl rfl rfl (Pur.asg rfl) ?_
      refine Reg.pur rfl rfl rfl rfl (Pur.asg rfl) ?_
      refine Reg.nil ?_
      refine At.ret rfl Try.func126 rfl ?_
      rw [if_pos q18] at hgo
      have hin : inL T v = true := by simp [inL]; omega
      have had : addL T v = T := by unfold addL; rw [hin]; rfl
      rw [had]
      exact ⟨_, cap, by rw [show ixL T v = i by omega], hg, But.refl _ _, .inl rfl⟩
    first | (simp only [decide_eq_true_eq, decide_eq_false_iff_not, Bool.not_eq_true', Bool.not_eq_false', ne_eq, Decidable.not_not, Bool.not_eq_true, Bool.not_eq_false] at q18) | (dsimp only at q18) | skip
    refine At.region rfl rfl ?_
    refine Reg.pur rfl rfl rfl rfl (Pur.mv rfl) ?_
    first | refine Reg.pur rfl rfl rfl rfl (Pur.add64 rfl rfl (by omega)) ?_ | refine Reg.pur rfl rfl rfl rfl (Pur.add64 rfl rfl (by assumption)) ?_ | refine Reg.pur rfl rfl rfl rfl (Pur.add rfl rfl) ?_
    refine Reg.pur rfl rfl rfl rfl (Pur.asg rfl) ?_
    refine Reg.nil ?_
    rw [if_neg q18] at hgo
    exact At.via (ih (i + 1) _ ⟨by omega, rfl, by omega⟩ (by omega)) ⟨rfl, rfl, rfl, trivial⟩
  first | (simp only [decide_eq_true_eq, decide_eq_false_iff_not, Bool.not_eq_true', Bool.not_eq_false', ne_eq, Decidable.not_not, Bool.not_eq_true, Bool.not_eq_false] at q10) | (dsimp only at q10) | skip
  rw [ix_end (by omega)] at hgo
  have hni : inL T v = false := by simp [inL]; omega
  have had : addL T v = T ++ [v] := by unfold addL; rw [hni]; rfl
  refine At.region rfl rfl ?_
  refine Reg.pur rfl rfl rfl rfl (Pur.mv rfl) ?_
  refine Reg.pur rfl rfl rfl rfl (Pur.mv rfl) ?_
  refine Reg.op rfl rfl rfl rfl (Does.bsl1T sl1_54 Try.underlying54 rfl rfl rfl rfl rfl) ?_
  rintro _ H6_2 ⟨rfl, hp6_2⟩
  have hn6_2 := New.of_eq hp6_2
  have z6_2 := hn6_2.size
  replace hg := hg.ext hn6_2.ext
  have o6_2 := hn6_2.own
  refine Reg.op rfl rfl rfl rfl (Does.appL apt54 rfl rfl (by decide) hg (wide1 _) (sl_new (L := [v]) (wide1 _) (by decide) hn6_2 (by simp)) (ones_e1 _) (by simp; omega) (by omega)) ?_
  rintro _ H6_3 ⟨A6_3, cap6_3, rfl, g6_3, hbut6_3, ha6_3⟩
  have z6_3 := hbut6_3.lt
  replace o6_2 := o6_2.via hbut6_3 (by first | omega | (intro g; omega) | (intro g hg; omega) | (intro g hg h; omega))
  replace hg := g6_3
  have zg6_3 := g6_3.lt
  refine Reg.pur rfl rfl rfl rfl (Pur.asg rfl) ?_
  refine Reg.nil ?_
  refine At.region rfl rfl ?_
  refine Reg.pur rfl rfl rfl rfl (Pur.mv rfl) ?_
  refine Reg.pur rfl rfl rfl rfl (Pur.mv rfl) ?_
  refine Reg.pur rfl rfl rfl rfl (Pur.lenS isl54 rfl) ?_
  refine Reg.pur rfl rfl rfl rfl (Pur.sub64 rfl rfl (by simp; omega)) ?_
  refine Reg.pur rfl rfl rfl rfl (Pur.asg rfl) ?_
  refine Reg.pur rfl rfl rfl rfl (Pur.asg rfl) ?_
  refine Reg.nil ?_
  refine At.ret rfl Try.func126 rfl ?_
  rw [had]
  exact ⟨A6_3, cap6_3, by rw [show ixL T v = T.length by omega]; simp [tupl], hg, (hn6_2.ext.but (S := fun g => (g : Int) = ob A)).trans hbut6_3, by omega⟩
theorem nm_kind {nb B c1 c2 : Nat} {A1 A2 : Option Addr} {T R : List Int} (v : Int) {H : Heap} (h : Nm H nb B A1 c1 T A2 c2 R) (hm : T.length ≤ 1000000) :
    Ret Try.prog 98 [ptr nb 0, I v] H (fun r H' => r = I (ixL T v) ∧ ∃ A1' c1', Nm H' nb B A1' c1' (addL T v) A2 c2 R ∧ Mod nb A1 A2 A1' A2 H H') := by
  obtain ⟨ho, hg1, hg2, hd1, hd2, hd3, hlo⟩ := h
  have z1 := hg1.lt
  have z2 := hg2.lt
  have hnb := ho.lt
  refine Ret.of_at (N := 21) Try.call98 Try.func98 rfl rfl rfl ?_
  have hE := Ext.refl H
  have z_ho := ho.lt
  have z_hg2 := hg2.lt
  refine At.region rfl rfl ?_
  refine Reg.pur rfl rfl rfl rfl (Pur.asg rfl) ?_
  refine Reg.nil ?_
  refine At.region rfl rfl ?_
  refine Reg.pur rfl rfl rfl rfl (Pur.mv rfl) ?_
  refine Reg.pur rfl rfl rfl rfl (Pur.nilc rfl) ?_
  refine Reg.pur rfl rfl rfl rfl (Pur.fld _ fo116_0 rfl) ?_
  refine Reg.lod rfl rfl rfl rfl (Lod.ld sc54 rfl ho.blk rfl) ?_
  refine Reg.pur rfl rfl rfl rfl (Pur.mv rfl) ?_
  refine Reg.op rfl rfl rfl rfl (Does.call rfl (at_ok T v hg1 hlo hm)) ?_
  rintro _ H1_5 ⟨A', cap', rfl, hg1_5, hbut1_5, ha1_5⟩
  have z1_5 := hbut1_5.lt
  replace ho := ho.via hbut1_5 (by first | omega | (intro g; omega) | (intro g hg; omega) | (intro g hg h; omega))
  replace hg2 := hg2.via hbut1_5 (by first | omega | (intro g; omega) | (intro g hg; omega) | (intro g hg h; omega))
  have z_hg1_5 := hg1_5.lt
  refine Reg.pur rfl rfl rfl rfl (Pur.mv rfl) ?_
  refine Reg.pur rfl rfl rfl rfl (Pur.ext rfl rfl) ?_
  refine Reg.pur rfl rfl rfl rfl (Pur.ext rfl rfl) ?_
  refine Reg.pur rfl rfl rfl rfl (Pur.asg rfl) ?_
  refine Reg.pur rfl rfl rfl rfl (Pur.asg rfl) ?_
  refine Reg.nil ?_
  refine At.region rfl rfl ?_
  refine Reg.pur rfl rfl rfl rfl (Pur.mv rfl) ?_
  refine Reg.pur rfl rfl rfl rfl (Pur.mv rfl) ?_
  refine Reg.pur rfl rfl rfl rfl (Pur.nilc rfl) ?_
  refine Reg.pur rfl rfl rfl rfl (Pur.fld _ fo116_0 rfl) ?_
  refine Reg.op0 rfl rfl rfl (Does.st sc54 rfl rfl rfl ho (by simp)) ?_
  rintro _ H2_4 hu2_4
  have z2_4 := hu2_4.size
  replace hg2 := hg2.upw hu2_4 (by omega)
  replace hg1_5 := hg1_5.upw hu2_4 (by omega)
  replace ho := hu2_4.own
  refine Reg.nil ?_
  refine At.region rfl rfl ?_
  refine Reg.pur rfl rfl rfl rfl (Pur.mv rfl) ?_
  refine Reg.pur rfl rfl rfl rfl (Pur.asg rfl) ?_
  refine Reg.nil ?_
  refine At.ret rfl Try.func98 rfl ?_
  refine ⟨rfl, A', cap', ⟨ho, hg1_5, hg2, by omega, by omega, hd3, by omega⟩, ⟨(hbut1_5.mono (fun b hb h => Or.inr (Or.inl h))).trans (hu2_4.but.mono (fun b hb h => Or.inl h)), by omega, .inl rfl⟩⟩
theorem nm_row {nb B c1 c2 : Nat} {A1 A2 : Option Addr} {T R : List Int} (v : Int) {H : Heap} (h : Nm H nb B A1 c1 T A2 c2 R) (hm : R.length ≤ 1000000) :
    Ret Try.prog 99 [ptr nb 0, I v] H (fun r H' => r = I (ixL R v) ∧ ∃ A2' c2', Nm H' nb B A1 c1 T A2' c2' (addL R v) ∧ Mod nb A1 A2 A1 A2' H H') := by
  obtain ⟨ho, hg1, hg2, hd1, hd2, hd3, hlo⟩ := h
  have z1 := hg1.lt
  have z2 := hg2.lt
  have hnb := ho.lt
  refine Ret.of_at (N := 21) Try.call99 Try.func99 rfl rfl rfl ?_
  have hE := Ext.refl H
  have z_ho := ho.lt
  have z_hg1 := hg1.lt
  refine At.region rfl rfl ?_
  refine Reg.pur rfl rfl rfl rfl (Pur.asg rfl) ?_
  refine Reg.nil ?_
  refine At.region rfl rfl ?_
  refine Reg.pur rfl rfl rfl rfl (Pur.mv rfl) ?_
  refine Reg.pur rfl rfl rfl rfl (Pur.nilc rfl) ?_
  refine Reg.pur rfl rfl rfl rfl (Pur.fld _ fo116_1 rfl) ?_
  refine Reg.lod rfl rfl rfl rfl (Lod.ld sc54 rfl ho.blk rfl) ?_
  refine Reg.pur rfl rfl rfl rfl (Pur.mv rfl) ?_
  refine Reg.op rfl rfl rfl rfl (Does.call rfl (at_ok R v hg2 hlo hm)) ?_
  rintro _ H1_5 ⟨A', cap', rfl, hg1_5, hbut1_5, ha1_5⟩
  have z1_5 := hbut1_5.lt
  replace ho := ho.via hbut1_5 (by first | omega | (intro g; omega) | (intro g hg; omega) | (intro g hg h; omega))
  replace hg1 := hg1.via hbut1_5 (by first | omega | (intro g; omega) | (intro g hg; omega) | (intro g hg h; omega))
  have z_hg1_5 := hg1_5.lt
  refine Reg.pur rfl rfl rfl rfl (Pur.mv rfl) ?_
  refine Reg.pur rfl rfl rfl rfl (Pur.ext rfl rfl) ?_
  refine Reg.pur rfl rfl rfl rfl (Pur.ext rfl rfl) ?_
  refine Reg.pur rfl rfl rfl rfl (Pur.asg rfl) ?_
  refine Reg.pur rfl rfl rfl rfl (Pur.asg rfl) ?_
  refine Reg.nil ?_
  refine At.region rfl rfl ?_
  refine Reg.pur rfl rfl rfl rfl (Pur.mv rfl) ?_
  refine Reg.pur rfl rfl rfl rfl (Pur.mv rfl) ?_
  refine Reg.pur rfl rfl rfl rfl (Pur.nilc rfl) ?_
  refine Reg.pur rfl rfl rfl rfl (Pur.fld _ fo116_1 rfl) ?_
  refine Reg.op0 rfl rfl rfl (Does.st sc54 rfl rfl rfl ho (by simp)) ?_
  rintro _ H2_4 hu2_4
  have z2_4 := hu2_4.size
  replace hg1 := hg1.upw hu2_4 (by omega)
  replace hg1_5 := hg1_5.upw hu2_4 (by omega)
  replace ho := hu2_4.own
  refine Reg.nil ?_
  refine At.region rfl rfl ?_
  refine Reg.pur rfl rfl rfl rfl (Pur.mv rfl) ?_
  refine Reg.pur rfl rfl rfl rfl (Pur.asg rfl) ?_
  refine Reg.nil ?_
  refine At.ret rfl Try.func99 rfl ?_
  refine ⟨rfl, A', cap', ⟨ho, hg1, hg1_5, by omega, hd2, by omega, by omega⟩, ⟨(hbut1_5.mono (fun b hb h => Or.inr (Or.inr h))).trans (hu2_4.but.mono (fun b hb h => Or.inl h)), .inl rfl, by omega⟩⟩
end Go.Proofs.Ytlfillhffpiffaa

namespace Go.Proofs.Ytlfillhffpiffaa
set_option linter.unusedSimpArgs false
set_option linter.unusedVariables false
set_option maxRecDepth 8000
open Go Go.Fx Go.Proofs
namespace FactsSchD
end FactsSchD
open FactsSchD

abbrev Nms := List Int × List Int
end Go.Proofs.Ytlfillhffpiffaa

namespace Go.Proofs.Ytlfillhffpiffaa
set_option linter.unusedSimpArgs false
set_option linter.unusedVariables false
set_option maxRecDepth 8000
open Go Go.Fx Go.Proofs
namespace FactsSchE
end FactsSchE
open FactsSchE

structure Off (nb : Nat) (A1 A2 : Option Addr) (b : Int) : Prop where
  h1 : b ≠ nb
  h2 : b ≠ ob A1
  h3 : b ≠ ob A2
theorem Off.not {nb : Nat} {A1 A2 : Option Addr} {b : Nat} (h : Off nb A1 A2 b) : ¬ (b = nb ∨ (b : Int) = ob A1 ∨ (b : Int) = ob A2) := by
  rintro (e | e | e)
  · exact h.h1 (by rw [e])
  · exact h.h2 e
  · exact h.h3 e
theorem Off.mod {nb : Nat} {A1 A2 A1' A2' : Option Addr} {b : Int} {H H' : Heap} (h : Off nb A1 A2 b) (hb : b < H.size) (hM : Mod nb A1 A2 A1' A2' H H') : Off nb A1' A2' b := by
  obtain ⟨_, h1, h2⟩ := hM
  obtain ⟨k1, k2, k3⟩ := h
  exact ⟨k1, by omega, by omega⟩
end Go.Proofs.Ytlfillhffpiffaa

namespace Go.Proofs.Ytlfillhffpiffaa
set_option linter.unusedSimpArgs false
set_option linter.unusedVariables false
set_option maxRecDepth 8000
open Go Go.Fx Go.Proofs
namespace FactsSchF
theorem fo116_0 : foff Try.prog 116 0 = some 0 := by kernel_rfl
theorem fo116_1 : foff Try.prog 116 1 = some 1 := by kernel_rfl
theorem pl116 : places Try.prog 116 = some [(0, 1), (1, 1)] := by kernel_rfl
theorem sc54 : sc Try.prog 54 = true := by kernel_rfl
theorem zc116 : zc Try.prog 116 = some [.slice none 0 0, .slice none 0 0] := by kernel_rfl
end FactsSchF
open FactsSchF

theorem nm_new {H H' : Heap} {B : Nat} (h : Own H' H.size [.slice none 0 0, .slice none 0 0]) (hB : B ≤ H'.size) : Nm H' H.size B none 0 [] none 0 [] :=
  ⟨h, OwnS.nilG, OwnS.nilG, .inl rfl, by rw [ob_none]; omega, by rw [ob_none]; omega, hB⟩
theorem off_none {nb : Nat} {b : Int} (h : b ≠ nb) (h0 : 0 ≤ b) : Off nb none none b := ⟨h, by rw [ob_none]; omega, by rw [ob_none]; omega⟩
theorem mod_ext {nb : Nat} {A1' A2' : Option Addr} {H0 H H' : Heap} (h : Mod nb none none A1' A2' H H') (hE : Ext H0 H) (hn : H0.size ≤ nb) : Ext H0 H' :=
  hE.via h.1 (fun g hg hS => by rw [ob_none] at hS; omega)
end Go.Proofs.Ytlfillhffpiffaa

namespace Go.Proofs.Ytlfillhffpiffaa
set_option linter.unusedSimpArgs false
set_option linter.unusedVariables false
set_option maxRecDepth 8000
open Go Go.Fx Go.Proofs
namespace FactsSchH
theorem isl54 : isSl Try.prog 54 = true := by kernel_rfl
end FactsSchH
open FactsSchH

end Go.Proofs.Ytlfillhffpiffaa

namespace Go.Proofs.Ytlfillhffpiffaa
set_option linter.unusedSimpArgs false
set_option linter.unusedVariables false
set_option maxRecDepth 8000
open Go Go.Fx Go.Proofs
namespace FactsSchI
theorem isl54 : isSl Try.prog 54 = true := by kernel_rfl
end FactsSchI
open FactsSchI

end Go.Proofs.Ytlfillhffpiffaa

namespace Go.Proofs.Ytlfillhffpiffaa
set_option linter.unusedSimpArgs false
set_option linter.unusedVariables false
set_option maxRecDepth 8000
open Go Go.Fx Go.Proofs
namespace FactsSchJ
theorem sc54 : sc Try.prog 54 = true := by kernel_rfl
end FactsSchJ
open FactsSchJ

end Go.Proofs.Ytlfillhffpiffaa

namespace Go.Proofs.Ytlfillhffpiffaa
set_option linter.unusedSimpArgs false
set_option linter.unusedVariables false
set_option maxRecDepth 8000
set_option maxHeartbeats 1000000
open Go Go.Fx Go.Proofs
namespace FactsSchM
theorem isl54 : isSl Try.prog 54 = true := by kernel_rfl
theorem sc54 : sc Try.prog 54 = true := by kernel_rfl
end FactsSchM
open FactsSchM

end Go.Proofs.Ytlfillhffpiffaa

namespace Go.Proofs.Ytlfillhffpiffaa
set_option linter.unusedSimpArgs false
set_option linter.unusedVariables false
set_option maxRecDepth 8000
set_option maxHeartbeats 1000000
open Go Go.Fx Go.Proofs
namespace FactsSchN
theorem isl54 : isSl Try.prog 54 = true := by kernel_rfl
theorem sc54 : sc Try.prog 54 = true := by kernel_rfl
end FactsSchN
open FactsSchN

end Go.Proofs.Ytlfillhffpiffaa

namespace Go.Proofs.Ytlfillhffpiffaa
set_option linter.unusedSimpArgs false
set_option linter.unusedVariables false
set_option maxRecDepth 8000
set_option maxHeartbeats 1000000
open Go Go.Fx Go.Proofs
namespace FactsSchO
theorem sc54 : sc Try.prog 54 = true := by kernel_rfl
end FactsSchO
open FactsSchO

end Go.Proofs.Ytlfillhffpiffaa

namespace Go.Proofs.Ytlfillhffpiffaa
set_option linter.unusedSimpArgs false
set_option linter.unusedVariables false
set_option maxRecDepth 8000
set_option maxHeartbeats 2000000
open Go Go.Fx Go.Proofs
namespace FactsSchP
theorem sc54 : sc Try.prog 54 = true := by kernel_rfl
end FactsSchP
open FactsSchP

end Go.Proofs.Ytlfillhffpiffaa

namespace Go.Proofs.Ytlfillhffpiffaa
set_option linter.unusedSimpArgs false
set_option linter.unusedVariables false
set_option maxRecDepth 8000
set_option maxHeartbeats 1000000
open Go Go.Fx Go.Proofs
namespace FactsSchQ
theorem isl54 : isSl Try.prog 54 = true := by kernel_rfl
theorem sc54 : sc Try.prog 54 = true := by kernel_rfl
end FactsSchQ
open FactsSchQ

end Go.Proofs.Ytlfillhffpiffaa

namespace Go.Proofs.Ytlfillhffpiffaa
set_option linter.unusedSimpArgs false
set_option linter.unusedVariables false
set_option maxRecDepth 8000
set_option maxHeartbeats 2000000
open Go Go.Fx Go.Proofs
namespace FactsSchR
theorem sc54 : sc Try.prog 54 = true := by kernel_rfl
end FactsSchR
open FactsSchR

end Go.Proofs.Ytlfillhffpiffaa

namespace Go.Proofs.Ytlfillhffpiffaa
set_option linter.unusedSimpArgs false
set_option linter.unusedVariables false
set_option maxRecDepth 8000
open Go Go.Fx Go.Proofs
namespace FactsUniSA
theorem apt209 : appT Try.prog 209 = some (5, 1, 1) := by kernel_rfl
theorem isl209 : isSl Try.prog 209 = true := by kernel_rfl
theorem sl1_209 : sl1 Try.prog 209 = true := by kernel_rfl
end FactsUniSA
open FactsUniSA

abbrev eb (x : Int) : List Value := [.int .u8 x]
theorem wideb (L : List Int) : Wide eb 1 L := fun _ _ => rfl
theorem flat_eb : ∀ L : List Int, L.flatMap eb = L.map (Value.int .u8)
  | [] => rfl
  | x :: L => by rw [List.flatMap_cons, flat_eb L]; rfl
theorem ones_eb (L : List Int) : ones (L.flatMap eb) = true := by
  simp only [ones, List.all_eq_true, List.mem_flatMap]
  rintro v ⟨x, _, hv⟩
  simp only [List.mem_singleton] at hv
  subst hv; rfl
def bstr (l : List Int) : ByteArray := l.foldl (fun r n => r.push (UInt8.ofNat n.toNat)) ByteArray.empty
theorem push_size : ∀ (l : List Int) (s : ByteArray), (l.foldl (fun r n => r.push (UInt8.ofNat n.toNat)) s).size = s.size + l.length
  | [], _ => rfl
  | x :: l, s => by
    rw [List.foldl_cons, push_size l, ByteArray.size_push, List.length_cons]; omega
theorem bstr_size (l : List Int) : (bstr l).size = l.length := by
  unfold bstr; rw [push_size]; simp
section rules
variable {P : Program} {dst : Option Tmp} {ty : TypeId} {pos : String} {aft : Array Edge} {gd : Option (Nat × Bool)} {e : Env} {H : Heap}
theorem Pur.addS {t t' : TypeId} {x y : Operand} {a b : ByteArray} (hx : ev e x = some (.string a)) (hy : ev e y = some (.string b)) (h : a.size + b.size ≤ 9223372036854775807) :
    Pur P ⟨dst, .binOp .add t x y t', ty, pos, aft, gd⟩ e (.string (a ++ b)) := by
  intro A w hA
  have e1 := hA.ev hx
  have e2 := hA.ev hy
  have hn : ¬ ((a.size + b.size : Nat) : Int) > IntKind.i64.max := by rw [show IntKind.i64.max = 9223372036854775807 from rfl]; omega
  simp only [execOp, e1, e2, eqGuard_at_string, Sem.run_bind, Sem.run_pure, Result.andThen_ok]
  simp only [binOp, Op.stringOp]
  rw [if_neg hn]
  simp
theorem Lod.bstr {src t el : TypeId} {x : Operand} {A : Option Addr} {cap : Nat} {l : List Int} (hs : P.underlying src = some (.slice el)) (he : P.underlying el = some (.int .u8)) (hd : P.underlying t = some .string)
    (hx : ev e x = some (.slice A l.length cap)) (hS : SlT H eb 1 (.slice A l.length cap) l) : Lod P ⟨dst, .convert src t x, ty, pos, aft, gd⟩ e H (.string (bstr l)) := by
  intro a w hw hA
  have e1 := hA.ev hx
  have hr : (Conv.bytesToString (.slice A l.length cap)).run P w = .ok (.string (Proofs.Ytlfillhffpiffaa.bstr l)) w := by
    obtain ⟨_, A', cap', hv, _, h3⟩ := sl_src (wideb l) hS
    simp only [Value.slice.injEq, true_and] at hv
    obtain ⟨rfl, rfl⟩ := hv
    rcases h3 with h0 | ⟨b, o, c, rfl, hb, hc⟩
    · obtain rfl : l = [] := List.eq_nil_of_length_eq_zero h0
      cases A with
      | none => simp [Conv.bytesToString]; try rfl
      | some ad => exact run_bytesToString w ad 0 cap [] (by simp [loadCells, loadCellsFrom])
    · refine run_bytesToString w _ l.length cap l ?_
      rw [Nat.mul_one] at hc
      rw [loadCells_run hb hc (by rw [flat_eb]; simp) hw, flat_eb]
  simp only [execOp, e1]
  rw [Sem.run_bind, run_convert_bytes_string w src t el _ _ _ hs he hd, hr]
  simp
end rules

def decG : Nat → Nat → List Int → List Int
  | 0, _, l => l
  | f + 1, n, l => if n = 0 ∧ l.length ≠ 0 then l else decG f (n / 10) (((48 + n % 10 : Nat) : Int) :: l)
def decI (n : Nat) : List Int := decG 8 n []
theorem decG_len : ∀ (f n : Nat) (l : List Int), (decG f n l).length ≤ f + l.length
  | 0, n, l => by simp [decG]
  | f + 1, n, l => by
    unfold decG; split
    · omega
    · have := decG_len f (n / 10) (((48 + n % 10 : Nat) : Int) :: l)
      rw [List.length_cons] at this; omega
def dec (n : Nat) : ByteArray := bstr (decI n)
theorem dec_size (n : Nat) : (dec n).size ≤ 8 := by
  unfold dec; rw [bstr_size]; exact decG_len 8 n []
theorem dig_eq (n : Nat) (h : n < 100000000) : IntKind.u8.wrap (IntKind.u64.wrap (48 + (n : Int).tmod 10)) = ((48 + n % 10 : Nat) : Int) := by
  have : (n : Int).tmod 10 = ((n % 10 : Nat) : Int) := by rw [Int.tmod_eq_emod_of_nonneg (by omega)]; omega
  rw [this, IntWalk.u64_in _ (by omega), IntWalk.u8_in _ (by omega)]; omega
theorem quo_eq (n : Nat) (h : n < 100000000) : IntKind.u64.wrap ((n : Int).tdiv 10) = ((n / 10 : Nat) : Int) := by
  have : (n : Int).tdiv 10 = ((n / 10 : Nat) : Int) := by rw [Int.tdiv_eq_ediv_of_nonneg (by omega)]; omega
  rw [this, IntWalk.u64_in _ (by omega)]
theorem decG_go {f n : Nat} {l : List Int} (h : 0 < n ∨ l.length = 0) : decG (f + 1) n l = decG f (n / 10) (((48 + n % 10 : Nat) : Int) :: l) := by
  show (if _ then _ else _) = _
  rw [if_neg (by omega)]
theorem decG_end {f : Nat} {l : List Int} (h : l.length ≠ 0) : decG (f + 1) 0 l = l := by
  show (if _ then _ else _) = _
  rw [if_pos ⟨rfl, h⟩]
theorem pow_step {f n : Nat} (hf : n < 10 ^ (f + 1)) : n / 10 < 10 ^ f := by
  rw [Nat.pow_succ] at hf; omega
theorem decimal_ok (n : Nat) (h : n < 10000000) (H : Heap) :
    Ret Try.prog 117 [I n] H (fun r H' => r = .string (dec n) ∧ Ext H H') := by
  have hu : IntKind.u64.wrap (n : Int) = (n : Int) := IntWalk.u64_in _ (by omega)
  refine Ret.of_at (N := 37) Try.call117 Try.func117 rfl rfl rfl ?_
  have hE := Ext.refl H
  refine At.region rfl rfl ?_
  refine Reg.pur rfl rfl rfl rfl (Pur.asg rfl) ?_
  refine Reg.nil ?_
  refine At.region rfl rfl ?_
  refine Reg.pur rfl rfl rfl rfl (Pur.mv rfl) ?_
  refine Reg.pur rfl rfl rfl rfl (Pur.cnv Try.underlying3 Try.underlying208 rfl) ?_
  refine Reg.pur rfl rfl rfl rfl (Pur.asg rfl) ?_
  refine Reg.nil ?_
  refine At.region rfl rfl ?_
  refine Reg.pur rfl rfl rfl rfl (Pur.mv rfl) ?_
  refine Reg.pur rfl rfl rfl rfl (Pur.lss rfl rfl) ?_
  refine Reg.nil ?_
  refine At.condF rfl rfl (decide_eq_false (by omega)) ?_
  refine At.region rfl rfl ?_
  refine Reg.pur rfl rfl rfl rfl (Pur.asg rfl) ?_
  refine Reg.nil ?_
  refine At.loop (σ := Nat × Nat × List Int × Option Addr × Nat) (fun (f, m, l, A, cap) => [(3, .int .u64 m), (4, .slice A l.length cap), (0, I n)]) (fun (f, m, l, A, cap) H' => m < 10 ^ f ∧ m < 10000000 ∧ (l.length = 0 → 0 < f) ∧ l.length ≤ 8 ∧ f + l.length ≤ 8 ∧ decG (f + 1) m l = decI n ∧ SlT H' eb 1 (.slice A l.length cap) l ∧ Ext H H') (fun (f, m, l, A, cap) => f) (7, n, [], none, 0) rfl ⟨by (show some (Value.int .u64 (IntKind.u64.wrap ↑n)) = _); rw [hu], rfl, rfl, trivial⟩ ⟨h, h, fun _ => by decide, by simp, by simp, rfl, sl_nil H, hE⟩ ?_
  rintro ⟨f, m, l, A, cap⟩ H1 ⟨hmf, hm, h0, hl, hfl, hgo, hS, hE1⟩ ih
  dsimp only at hmf hm h0 hl hfl hgo hS ih
  replace hE := hE1
  clear hE1
  have zE := hE.1
  refine At.region rfl rfl ?_
  refine Reg.pur rfl rfl rfl rfl (Pur.mv rfl) ?_
  refine Reg.pur rfl rfl rfl rfl (Pur.gtr rfl rfl) ?_
  refine Reg.pur rfl rfl rfl rfl (Pur.mv rfl) ?_
  refine Reg.case 16 rfl (fun q16 => ?_) (fun q16 => ?_)
  · first | (simp only [decide_eq_true_eq, decide_eq_false_iff_not, Bool.not_eq_true', Bool.not_eq_false', ne_eq, Decidable.not_not, Bool.not_eq_true, Bool.not_eq_false] at q16) | (dsimp only at q16) | skip
    refine Reg.skip rfl rfl rfl rfl rfl rfl rfl ?_
    refine Reg.skip rfl rfl rfl rfl rfl rfl rfl ?_
    refine Reg.skip rfl rfl rfl rfl rfl rfl rfl ?_
    refine Reg.pur rfl rfl rfl rfl (Pur.pickT rfl rfl) ?_
    refine Reg.nil ?_
    refine At.condT rfl rfl rfl ?_
    refine At.region rfl rfl ?_
    refine Reg.pur rfl rfl rfl rfl (Pur.mv rfl) ?_
    first | refine Reg.pur rfl rfl rfl rfl (Pur.rem rfl rfl (by omega)) ?_ | refine Reg.pur rfl rfl rfl rfl (Pur.rem rfl rfl (by decide)) ?_
    refine Reg.pur rfl rfl rfl rfl (Pur.add rfl rfl) ?_
    refine Reg.pur rfl rfl rfl rfl (Pur.cnv Try.underlying208 Try.underlying5 rfl) ?_
    refine Reg.op rfl rfl rfl rfl (Does.bsl1T sl1_209 Try.underlying209 rfl rfl rfl rfl rfl) ?_
    rintro _ H6_4 ⟨rfl, hp6_4⟩
    have hn6_4 := New.of_eq hp6_4
    have z6_4 := hn6_4.size
    replace hE := hE.ext hn6_4.ext
    have o6_4 := hn6_4.own
    rw [dig_eq m (by omega)] at hp6_4
    have hg : Gs H6_4 H1.size 5 1 (some ⟨H1.size, 0, none⟩) 1 [((48 + m % 10 : Nat) : Int)].length ([((48 + m % 10 : Nat) : Int)].flatMap eb) := by rw [hp6_4]; exact OwnS.new (xs := [_]) (n := 1) rfl (by decide) (Nat.le_refl _)
    refine Reg.pur rfl rfl rfl rfl (Pur.mv rfl) ?_

    have z_hg := hg.lt
    refine Reg.op rfl rfl rfl rfl (Does.appL apt209 rfl rfl (by decide) hg (wideb _) (hS.ext hn6_4.ext) (ones_eb _) (by simp; omega) (by omega)) ?_
    rintro _ H6_6 ⟨A6_6, cap6_6, rfl, g6_6, hbut6_6, ha6_6⟩
    have z6_6 := hbut6_6.lt
    replace hE := hE.via hbut6_6 (by first | omega | (intro g; omega) | (intro g hg; omega) | (intro g hg h; omega))
    replace hg := g6_6
    have zg6_6 := g6_6.lt
    refine Reg.pur rfl rfl rfl rfl (Pur.asg rfl) ?_
    refine Reg.nil ?_
    refine At.region rfl rfl ?_
    refine Reg.pur rfl rfl rfl rfl (Pur.mv rfl) ?_
    first | refine Reg.pur rfl rfl rfl rfl (Pur.quo rfl rfl (by omega)) ?_ | refine Reg.pur rfl rfl rfl rfl (Pur.quo rfl rfl (by decide)) ?_
    refine Reg.pur rfl rfl rfl rfl (Pur.asg rfl) ?_
    refine Reg.nil ?_
    rw [decG_go (by omega)] at hgo
    have hf : 0 < f := Nat.pos_of_ne_zero (fun h0' => by (subst h0'; have hm1 : m < 1 := hmf; omega))
    obtain ⟨f', rfl⟩ : ∃ f', f = f' + 1 := ⟨f - 1, by omega⟩
    have hst := ih (f', m / 10, ((48 + m % 10 : Nat) : Int) :: l, A6_6, cap6_6) _ ⟨pow_step hmf, (show m / 10 < 10000000 by omega), fun h => by simp at h, by simp; omega, by simp; omega, hgo, own_sl (wideb _) (by decide) hg, hE⟩ (Nat.lt_succ_self f')
    exact At.meets rfl hst ⟨by (show some (Value.int .u64 (IntKind.u64.wrap ((m : Int).tdiv 10))) = _); rw [quo_eq m (by omega)], rfl, rfl, trivial⟩
  first | (simp only [decide_eq_true_eq, decide_eq_false_iff_not, Bool.not_eq_true', Bool.not_eq_false', ne_eq, Decidable.not_not, Bool.not_eq_true, Bool.not_eq_false] at q16) | (dsimp only at q16) | skip
  refine Reg.gpur rfl rfl rfl rfl rfl rfl (Pur.mv rfl) ?_
  refine Reg.gpur rfl rfl rfl rfl rfl rfl (Pur.lenS isl209 rfl) ?_
  refine Reg.gpur rfl rfl rfl rfl rfl rfl (Pur.eql rfl rfl) ?_
  refine Reg.pur rfl rfl rfl rfl (Pur.pickF rfl rfl) ?_
  refine Reg.nil ?_
  refine At.cond rfl rfl (fun q20 => ?_) (fun q20 => ?_)
  · first | (simp only [decide_eq_true_eq, decide_eq_false_iff_not, Bool.not_eq_true', Bool.not_eq_false', ne_eq, Decidable.not_not, Bool.not_eq_true, Bool.not_eq_false] at q20) | (dsimp only at q20) | skip
    refine At.region rfl rfl ?_
    refine Reg.pur rfl rfl rfl rfl (Pur.mv rfl) ?_
    first | refine Reg.pur rfl rfl rfl rfl (Pur.rem rfl rfl (by omega)) ?_ | refine Reg.pur rfl rfl rfl rfl (Pur.rem rfl rfl (by decide)) ?_
    refine Reg.pur rfl rfl rfl rfl (Pur.add rfl rfl) ?_
    refine Reg.pur rfl rfl rfl rfl (Pur.cnv Try.underlying208 Try.underlying5 rfl) ?_
    refine Reg.op rfl rfl rfl rfl (Does.bsl1T sl1_209 Try.underlying209 rfl rfl rfl rfl rfl) ?_
    rintro _ H6_4 ⟨rfl, hp6_4⟩
    have hn6_4 := New.of_eq hp6_4
    have z6_4 := hn6_4.size
    replace hE := hE.ext hn6_4.ext
    have o6_4 := hn6_4.own
    rw [dig_eq m (by omega)] at hp6_4
    have hg : Gs H6_4 H1.size 5 1 (some ⟨H1.size, 0, none⟩) 1 [((48 + m % 10 : Nat) : Int)].length ([((48 + m % 10 : Nat) : Int)].flatMap eb) := by rw [hp6_4]; exact OwnS.new (xs := [_]) (n := 1) rfl (by decide) (Nat.le_refl _)
    refine Reg.pur rfl rfl rfl rfl (Pur.mv rfl) ?_

    have z_hg := hg.lt
    refine Reg.op rfl rfl rfl rfl (Does.appL apt209 rfl rfl (by decide) hg (wideb _) (hS.ext hn6_4.ext) (ones_eb _) (by simp; omega) (by omega)) ?_
    rintro _ H6_6 ⟨A6_6, cap6_6, rfl, g6_6, hbut6_6, ha6_6⟩
    have z6_6 := hbut6_6.lt
    replace hE := hE.via hbut6_6 (by first | omega | (intro g; omega) | (intro g hg; omega) | (intro g hg h; omega))
    replace hg := g6_6
    have zg6_6 := g6_6.lt
    refine Reg.pur rfl rfl rfl rfl (Pur.asg rfl) ?_
    refine Reg.nil ?_
    refine At.region rfl rfl ?_
    refine Reg.pur rfl rfl rfl rfl (Pur.mv rfl) ?_
    first | refine Reg.pur rfl rfl rfl rfl (Pur.quo rfl rfl (by omega)) ?_ | refine Reg.pur rfl rfl rfl rfl (Pur.quo rfl rfl (by decide)) ?_
    refine Reg.pur rfl rfl rfl rfl (Pur.asg rfl) ?_
    refine Reg.nil ?_
    rw [decG_go (by omega)] at hgo
    have hf : 0 < f := Nat.pos_of_ne_zero (fun h0' => by (subst h0'; have hm1 : m < 1 := hmf; omega))
    obtain ⟨f', rfl⟩ : ∃ f', f = f' + 1 := ⟨f - 1, by omega⟩
    have hst := ih (f', m / 10, ((48 + m % 10 : Nat) : Int) :: l, A6_6, cap6_6) _ ⟨pow_step hmf, (show m / 10 < 10000000 by omega), fun h => by simp at h, by simp; omega, by simp; omega, hgo, own_sl (wideb _) (by decide) hg, hE⟩ (Nat.lt_succ_self f')
    exact At.meets rfl hst ⟨by (show some (Value.int .u64 (IntKind.u64.wrap ((m : Int).tdiv 10))) = _); rw [quo_eq m (by omega)], rfl, rfl, trivial⟩
  first | (simp only [decide_eq_true_eq, decide_eq_false_iff_not, Bool.not_eq_true', Bool.not_eq_false', ne_eq, Decidable.not_not, Bool.not_eq_true, Bool.not_eq_false] at q20) | (dsimp only at q20) | skip
  refine At.region rfl rfl ?_
  refine Reg.pur rfl rfl rfl rfl (Pur.mv rfl) ?_
  refine Reg.pur rfl rfl rfl rfl (Pur.lss rfl rfl) ?_
  refine Reg.nil ?_
  refine At.condF rfl rfl (decide_eq_false (by omega)) ?_
  refine At.region rfl rfl ?_
  refine Reg.pur rfl rfl rfl rfl (Pur.mv rfl) ?_
  refine Reg.lod rfl rfl rfl rfl (Lod.bstr Try.underlying209 Try.underlying5 Try.underlying9 rfl hS) ?_
  refine Reg.pur rfl rfl rfl rfl (Pur.asg rfl) ?_
  refine Reg.nil ?_
  refine At.ret rfl Try.func117 rfl ?_
  obtain rfl : m = 0 := by omega
  rw [decG_end (by omega)] at hgo
  exact ⟨by rw [hgo]; rfl, hE⟩
end Go.Proofs.Ytlfillhffpiffaa

namespace Go.Proofs.Ytlfillhffpiffaa
set_option linter.unusedSimpArgs false
set_option linter.unusedVariables false
set_option maxRecDepth 8000
open Go Go.Fx Go.Proofs
namespace FactsUniSB
theorem arr26 : arr Try.prog 26 = some (4, 1) := by kernel_rfl
theorem fo28_0 : foff Try.prog 28 0 = some 0 := by kernel_rfl
theorem fo28_1 : foff Try.prog 28 1 = some 4 := by kernel_rfl
theorem sc3 : sc Try.prog 3 = true := by kernel_rfl
end FactsUniSB
open FactsUniSB

def rone (i : Nat) (s : ByteArray) : ByteArray := (if (!(s.toList == (⟨#[]⟩ : ByteArray).toList)) = true then s ++ ⟨#[44]⟩ else s) ++ ⟨#[111]⟩ ++ dec i
def rrep (i : Nat) : Nat → ByteArray → ByteArray
  | 0, s => s
  | k + 1, s => rone i (rrep i k s)
def rall (r : List Int) : Nat → ByteArray
  | 0 => ⟨#[]⟩
  | i + 1 => rrep i (r.getD i 0).toNat (rall r i)
def rtx (R : List Int) (r : List Int) : ByteArray := ⟨#[60]⟩ ++ (if 0 ≤ r.getD 4 0 then rall r 4 ++ ⟨#[124, 101]⟩ ++ dec (ixL R (r.getD 4 0)) else rall r 4) ++ ⟨#[62]⟩
def rnm (R : List Int) (r : List Int) : List Int := if 0 ≤ r.getD 4 0 then addL R (r.getD 4 0) else R
theorem sz1 (a : UInt8) : (ByteArray.mk #[a]).size = 1 := rfl
theorem sz2 (a b : UInt8) : (ByteArray.mk #[a, b]).size = 2 := rfl
theorem rone_size (i : Nat) (s : ByteArray) : (rone i s).size ≤ s.size + 10 := by
  have := dec_size i
  unfold rone
  rw [ByteArray.size_append, ByteArray.size_append]
  split
  · rw [ByteArray.size_append, sz1, sz1]; omega
  · rw [sz1]; omega
theorem rrep_size (i : Nat) : ∀ (k : Nat) (s : ByteArray), (rrep i k s).size ≤ s.size + 10 * k
  | 0, s => by simp [rrep]
  | k + 1, s => by
    have h1 := rone_size i (rrep i k s)
    have h2 := rrep_size i k s
    unfold rrep; omega
theorem row_cnt {r : List Int} (h5 : r.length = 5) (h : rowM r = true) : ∀ i, i < 4 → 0 ≤ r.getD i 0 ∧ r.getD i 0 ≤ 32 := by
  intro i hi
  unfold rowM at h
  simp only [Bool.and_eq_true, List.all_eq_true] at h
  have := h.1 (r.getD i 0) (by rw [← take4_at h5 hi]; exact List.getElem_mem _)
  simpa [okc] using this
theorem rall_size {r : List Int} (h5 : r.length = 5) (h : rowM r = true) : ∀ i, i ≤ 4 → (rall r i).size ≤ 320 * i
  | 0, _ => Nat.le_refl 0
  | i + 1, hi => by
    have h1 := rrep_size i (r.getD i 0).toNat (rall r i)
    have h2 := rall_size h5 h i (by omega)
    have h3 := row_cnt h5 h i (by omega)
    unfold rall; omega
theorem rtx_size {R r : List Int} (h5 : r.length = 5) (h : rowM r = true) : (rtx R r).size ≤ 1300 := by
  have h1 := rall_size h5 h 4 (Nat.le_refl _)
  have h2 := dec_size (ixL R (r.getD 4 0))
  unfold rtx
  rw [ByteArray.size_append, ByteArray.size_append, sz1, sz1]
  split
  · rw [ByteArray.size_append, ByteArray.size_append, sz2]; omega
  · omega
theorem sza {a b : ByteArray} {m n : Nat} (h : a.size ≤ m) (k : b.size ≤ n) : (a ++ b).size ≤ m + n := by rw [ByteArray.size_append]; omega
theorem szs {a b : ByteArray} {m n : Nat} (h : a.size ≤ m) (k : b.size ≤ n) (hn : m + n ≤ 1000000000000) : a.size + b.size ≤ 9223372036854775807 := by omega
theorem sl1 (a : UInt8) : (ByteArray.mk #[a]).size ≤ 1 := Nat.le_refl _
theorem sl2 (a b : UInt8) : (ByteArray.mk #[a, b]).size ≤ 2 := Nat.le_refl _

theorem rowText_ok {nb B c1 c2 : Nat} {A1 A2 : Option Addr} {T R r : List Int} (h5 : r.length = 5) (hr : rowM r = true) {H : Heap} (hN : Nm H nb B A1 c1 T A2 c2 R) (hm : R.length ≤ 100000) :
    Ret Try.prog 118 [ptr nb 0, .agg (Is r).toArray] H (fun v H' => v = .string (rtx R r) ∧ ∃ A2' c2', Nm H' nb B A1 c1 T A2' c2' (rnm R r) ∧ Mod nb A1 A2 A1 A2' H H') := by
  have zN := hN.own.lt
  have hcnt := row_cnt h5 hr
  have hsz := rall_size h5 hr
  refine Ret.of_at (N := 43) Try.call118 Try.func118 rfl rfl rfl ?_
  have hE := Ext.refl H
  refine At.region rfl rfl ?_
  refine Reg.op rfl rfl rfl rfl (Does.box rfl rfl) ?_
  rintro _ H0_0 ⟨rfl, hn0_0⟩
  have z0_0 := hn0_0.size
  replace hE := hE.ext hn0_0.ext
  have o0_0 := hn0_0.own
  refine Reg.pur rfl rfl rfl rfl (Pur.asg rfl) ?_
  refine Reg.nil ?_
  refine At.region rfl rfl ?_
  refine Reg.pur rfl rfl rfl rfl (Pur.asg rfl) ?_
  refine Reg.nil ?_
  refine At.region rfl rfl ?_
  refine Reg.pur rfl rfl rfl rfl (Pur.asg rfl) ?_
  refine Reg.nil ?_
  refine At.loop (σ := Nat) (fun i => [(6, I i), (5, .string (rall r i)), (0, ptr nb 0), (3, ptr H.size 0)]) (fun i H' => i ≤ 4 ∧ Ext H H' ∧ Own H' H.size (Is r)) (fun i => 4 - i) 0 rfl ⟨rfl, rfl, rfl, rfl, trivial⟩ ⟨by omega, hE, o0_0⟩ ?_
  rintro i H1 ⟨hi, hE1, hX⟩ ih
  replace hE := hE1
  clear hE1
  replace o0_0 := hX
  clear hX
  have zE := hE.1
  refine At.region rfl rfl ?_
  refine Reg.pur rfl rfl rfl rfl (Pur.mv rfl) ?_
  refine Reg.pur rfl rfl rfl rfl (Pur.lss rfl rfl) ?_
  refine Reg.nil ?_
  refine At.cond rfl rfl (fun q9 => ?_) (fun q9 => ?_)
  · first | (simp only [decide_eq_true_eq, decide_eq_false_iff_not, Bool.not_eq_true', Bool.not_eq_false', ne_eq, Decidable.not_not, Bool.not_eq_true, Bool.not_eq_false] at q9) | (dsimp only at q9) | skip
    refine At.region rfl rfl ?_
    refine Reg.pur rfl rfl rfl rfl (Pur.asg rfl) ?_
    refine Reg.nil ?_
    have hlt : i < 4 := by omega
    have hc := hcnt i hlt
    have hs1 := hsz i (by omega)
    refine At.loop (σ := Nat) (fun k => [(7, I k), (6, I i), (5, .string (rrep i k (rall r i))), (0, ptr nb 0), (3, ptr H.size 0)]) (fun k H' => (k : Int) ≤ r.getD i 0 ∧ Ext H H' ∧ Own H' H.size (Is r)) (fun k => (r.getD i 0).toNat - k) 0 rfl ⟨rfl, rfl, rfl, rfl, rfl, trivial⟩ ⟨by omega, hE, o0_0⟩ ?_
    rintro k H2 ⟨hk, hE2, hX2⟩ ih2
    replace hE := hE2
    clear hE2
    replace o0_0 := hX2
    clear hX2
    have zE2 := hE.1
    have hai : (Is r)[0 + 0 + (i : Int).toNat * 1]? = some (I (r.getD i 0)) := by rw [show 0 + 0 + (i : Int).toNat * 1 = i from by omega]; exact at_Is (by omega)
    have hs2 := rrep_size i k (rall r i)
    refine At.region rfl rfl ?_
    refine Reg.pur rfl rfl rfl rfl (Pur.mv rfl) ?_
    refine Reg.pur rfl rfl rfl rfl (Pur.mv rfl) ?_
    refine Reg.pur rfl rfl rfl rfl (Pur.fld _ fo28_0 rfl) ?_
    refine Reg.pur rfl rfl rfl rfl (Pur.idxP arr26 rfl rfl (by omega) (by omega)) ?_
    refine Reg.lod rfl rfl rfl rfl (Lod.ld sc3 rfl o0_0.blk hai) ?_
    refine Reg.pur rfl rfl rfl rfl (Pur.lss rfl rfl) ?_
    refine Reg.nil ?_
    refine At.cond rfl rfl (fun q17 => ?_) (fun q17 => ?_)
    · first | (simp only [decide_eq_true_eq, decide_eq_false_iff_not, Bool.not_eq_true', Bool.not_eq_false', ne_eq, Decidable.not_not, Bool.not_eq_true, Bool.not_eq_false] at q17) | (dsimp only at q17) | skip
      refine At.region rfl rfl ?_
      refine Reg.pur rfl rfl rfl rfl (Pur.mv rfl) ?_
      refine Reg.pur rfl rfl rfl rfl (Pur.neS rfl rfl) ?_
      refine Reg.nil ?_
      refine At.cond rfl rfl (fun q21 => ?_) (fun q21 => ?_)
      · first | (simp only [decide_eq_true_eq, decide_eq_false_iff_not, Bool.not_eq_true', Bool.not_eq_false', ne_eq, Decidable.not_not, Bool.not_eq_true, Bool.not_eq_false] at q21) | (dsimp only at q21) | skip
        refine At.region rfl rfl ?_
        refine Reg.pur rfl rfl rfl rfl (Pur.mv rfl) ?_
        refine Reg.pur rfl rfl rfl rfl (Pur.addS rfl rfl (szs (m := 10000) (by omega) (sl1 _) (by decide))) ?_
        refine Reg.pur rfl rfl rfl rfl (Pur.asg rfl) ?_
        refine Reg.nil ?_
        refine At.region rfl rfl ?_
        refine Reg.pur rfl rfl rfl rfl (Pur.mv rfl) ?_
        refine Reg.pur rfl rfl rfl rfl (Pur.addS rfl rfl (szs (m := 10001) (by first | omega | exact sza (m := 10000) (by omega) (sl1 _)) (sl1 _) (by decide))) ?_
        refine Reg.pur rfl rfl rfl rfl (Pur.mv rfl) ?_
        refine Reg.op rfl rfl rfl rfl (Does.call rfl (decimal_ok i (by omega) _)) ?_
        rintro _ H10_3 ⟨rfl, hE10_3⟩
        have z10_3 := hE10_3.lt
        replace hE := hE.ext hE10_3
        replace o0_0 := o0_0.ext hE10_3
        refine Reg.pur rfl rfl rfl rfl (Pur.addS rfl rfl (szs (m := 10002) (sza (m := 10001) (by first | omega | exact sza (m := 10000) (by omega) (sl1 _)) (sl1 _)) (dec_size _) (by decide))) ?_
        refine Reg.pur rfl rfl rfl rfl (Pur.asg rfl) ?_
        refine Reg.nil ?_
        refine At.region rfl rfl ?_
        refine Reg.pur rfl rfl rfl rfl (Pur.mv rfl) ?_
        first | refine Reg.pur rfl rfl rfl rfl (Pur.add64 rfl rfl (by omega)) ?_ | refine Reg.pur rfl rfl rfl rfl (Pur.add64 rfl rfl (by assumption)) ?_ | refine Reg.pur rfl rfl rfl rfl (Pur.add rfl rfl) ?_
        refine Reg.pur rfl rfl rfl rfl (Pur.asg rfl) ?_
        refine Reg.nil ?_
        exact At.meets rfl (ih2 (k + 1) _ ⟨by omega, hE, o0_0⟩ (by omega)) ⟨rfl, rfl, by (show some (Value.string _) = some (Value.string (rone i (rrep i k (rall r i))))); unfold rone; simp only [q21]; rfl, rfl, rfl, trivial⟩
      first | (simp only [decide_eq_true_eq, decide_eq_false_iff_not, Bool.not_eq_true', Bool.not_eq_false', ne_eq, Decidable.not_not, Bool.not_eq_true, Bool.not_eq_false] at q21) | (dsimp only at q21) | skip
      refine At.region rfl rfl ?_
      refine Reg.pur rfl rfl rfl rfl (Pur.mv rfl) ?_
      refine Reg.pur rfl rfl rfl rfl (Pur.addS rfl rfl (szs (m := 10001) (by first | omega | exact sza (m := 10000) (by omega) (sl1 _)) (sl1 _) (by decide))) ?_
      refine Reg.pur rfl rfl rfl rfl (Pur.mv rfl) ?_
      refine Reg.op rfl rfl rfl rfl (Does.call rfl (decimal_ok i (by omega) _)) ?_
      rintro _ H10_3 ⟨rfl, hE10_3⟩
      have z10_3 := hE10_3.lt
      replace hE := hE.ext hE10_3
      replace o0_0 := o0_0.ext hE10_3
      refine Reg.pur rfl rfl rfl rfl (Pur.addS rfl rfl (szs (m := 10002) (sza (m := 10001) (by first | omega | exact sza (m := 10000) (by omega) (sl1 _)) (sl1 _)) (dec_size _) (by decide))) ?_
      refine Reg.pur rfl rfl rfl rfl (Pur.asg rfl) ?_
      refine Reg.nil ?_
      refine At.region rfl rfl ?_
      refine Reg.pur rfl rfl rfl rfl (Pur.mv rfl) ?_
      first | refine Reg.pur rfl rfl rfl rfl (Pur.add64 rfl rfl (by omega)) ?_ | refine Reg.pur rfl rfl rfl rfl (Pur.add64 rfl rfl (by assumption)) ?_ | refine Reg.pur rfl rfl rfl rfl (Pur.add rfl rfl) ?_
      refine Reg.pur rfl rfl rfl rfl (Pur.asg rfl) ?_
      refine Reg.nil ?_
      exact At.meets rfl (ih2 (k + 1) _ ⟨by omega, hE, o0_0⟩ (by omega)) ⟨rfl, rfl, by (show some (Value.string _) = some (Value.string (rone i (rrep i k (rall r i))))); unfold rone; simp only [q21]; rfl, rfl, rfl, trivial⟩
    first | (simp only [decide_eq_true_eq, decide_eq_false_iff_not, Bool.not_eq_true', Bool.not_eq_false', ne_eq, Decidable.not_not, Bool.not_eq_true, Bool.not_eq_false] at q17) | (dsimp only at q17) | skip
    refine At.region rfl rfl ?_
    refine Reg.pur rfl rfl rfl rfl (Pur.mv rfl) ?_
    first | refine Reg.pur rfl rfl rfl rfl (Pur.add64 rfl rfl (by omega)) ?_ | refine Reg.pur rfl rfl rfl rfl (Pur.add64 rfl rfl (by assumption)) ?_ | refine Reg.pur rfl rfl rfl rfl (Pur.add rfl rfl) ?_
    refine Reg.pur rfl rfl rfl rfl (Pur.asg rfl) ?_
    refine Reg.nil ?_
    obtain hk' : (k : Nat) = (r.getD i 0).toNat := by omega
    exact At.meets rfl (ih (i + 1) _ ⟨by omega, hE, o0_0⟩ (by omega)) ⟨rfl, by (show some (Value.string _) = some (Value.string (rrep i (r.getD i 0).toNat (rall r i)))); rw [← hk'], rfl, rfl, trivial⟩
  first | (simp only [decide_eq_true_eq, decide_eq_false_iff_not, Bool.not_eq_true', Bool.not_eq_false', ne_eq, Decidable.not_not, Bool.not_eq_true, Bool.not_eq_false] at q9) | (dsimp only at q9) | skip
  obtain rfl : i = 4 := by omega
  have hs4 := hsz 4 (by omega)
  have hix := ixL_le R (r.getD 4 0)
  have hN1 := hN.ext hE
  have hM1 : Mod nb A1 A2 A1 A2 H H1 := (Mod.refl nb A1 A2 H).ext hE

  refine At.region rfl rfl ?_
  refine Reg.pur rfl rfl rfl rfl (Pur.fld _ fo28_1 rfl) ?_
  refine Reg.lod rfl rfl rfl rfl (Lod.ld sc3 rfl o0_0.blk (hat4 r h5)) ?_
  refine Reg.pur rfl rfl rfl rfl (Pur.geq rfl rfl) ?_
  refine Reg.nil ?_
  refine At.cond rfl rfl (fun q31 => ?_) (fun q31 => ?_)
  · first | (simp only [decide_eq_true_eq, decide_eq_false_iff_not, Bool.not_eq_true', Bool.not_eq_false', ne_eq, Decidable.not_not, Bool.not_eq_true, Bool.not_eq_false] at q31) | (dsimp only at q31) | skip
    refine At.region rfl rfl ?_
    refine Reg.pur rfl rfl rfl rfl (Pur.mv rfl) ?_
    refine Reg.pur rfl rfl rfl rfl (Pur.addS rfl rfl (szs (m := 1280) (by omega) (sl2 _ _) (by decide))) ?_
    refine Reg.pur rfl rfl rfl rfl (Pur.mv rfl) ?_
    refine Reg.pur rfl rfl rfl rfl (Pur.fld _ fo28_1 rfl) ?_
    refine Reg.lod rfl rfl rfl rfl (Lod.ld sc3 rfl o0_0.blk (hat4 r h5)) ?_
    refine Reg.op rfl rfl rfl rfl (Does.call rfl (nm_row _ hN1 (by omega))) ?_
    rintro _ H12_5 ⟨rfl, A2a, c2a, hN12_5, hM12_5⟩
    refine Reg.op rfl rfl rfl rfl (Does.call rfl (decimal_ok (ixL R (r.getD 4 0)) (by omega) _)) ?_
    rintro _ H12_6 ⟨rfl, hD12_6⟩
    refine Reg.pur rfl rfl rfl rfl (Pur.addS rfl rfl (szs (m := 1282) (sza (m := 1280) (by omega) (sl2 _ _)) (dec_size _) (by decide))) ?_
    refine Reg.pur rfl rfl rfl rfl (Pur.asg rfl) ?_
    refine Reg.nil ?_
    refine At.region rfl rfl ?_
    refine Reg.pur rfl rfl rfl rfl (Pur.mv rfl) ?_
    refine Reg.pur rfl rfl rfl rfl (Pur.addS rfl rfl (szs (n := 1290) (sl1 _) (by first | omega | exact sza (m := 1282) (sza (m := 1280) (by omega) (sl2 _ _)) (dec_size _)) (by decide))) ?_
    refine Reg.pur rfl rfl rfl rfl (Pur.addS rfl rfl (szs (m := 1 + 1290) (n := 1) (sza (m := 1) (n := 1290) (sl1 _) (by first | omega | exact sza (m := 1282) (sza (m := 1280) (by omega) (sl2 _ _)) (dec_size _))) (sl1 _) (by decide))) ?_
    refine Reg.pur rfl rfl rfl rfl (Pur.asg rfl) ?_
    refine Reg.nil ?_
    refine At.ret rfl Try.func118 rfl ?_
    exact ⟨by unfold rtx; rw [if_pos q31], A2a, c2a, by unfold rnm; rw [if_pos q31]; exact hN12_5.ext hD12_6, (hM1.trans hM12_5).ext hD12_6⟩
  first | (simp only [decide_eq_true_eq, decide_eq_false_iff_not, Bool.not_eq_true', Bool.not_eq_false', ne_eq, Decidable.not_not, Bool.not_eq_true, Bool.not_eq_false] at q31) | (dsimp only at q31) | skip
  refine At.region rfl rfl ?_
  refine Reg.pur rfl rfl rfl rfl (Pur.mv rfl) ?_
  refine Reg.pur rfl rfl rfl rfl (Pur.addS rfl rfl (szs (n := 1290) (sl1 _) (by first | omega | exact sza (m := 1282) (sza (m := 1280) (by omega) (sl2 _ _)) (dec_size _)) (by decide))) ?_
  refine Reg.pur rfl rfl rfl rfl (Pur.addS rfl rfl (szs (m := 1 + 1290) (n := 1) (sza (m := 1) (n := 1290) (sl1 _) (by first | omega | exact sza (m := 1282) (sza (m := 1280) (by omega) (sl2 _ _)) (dec_size _))) (sl1 _) (by decide))) ?_
  refine Reg.pur rfl rfl rfl rfl (Pur.asg rfl) ?_
  refine Reg.nil ?_
  refine At.ret rfl Try.func118 rfl ?_
  exact ⟨by unfold rtx; rw [if_neg q31], A2, c2, by unfold rnm; rw [if_neg q31]; exact hN1, hM1⟩
end Go.Proofs.Ytlfillhffpiffaa

namespace Go.Proofs.Ytlfillhffpiffaa
set_option linter.unusedSimpArgs false
set_option linter.unusedVariables false
set_option maxRecDepth 8000
open Go Go.Fx Go.Proofs
namespace FactsUniSC
theorem ag25 : ag Try.prog 25 = some 1 := by kernel_rfl
theorem ag28 : ag Try.prog 28 = some 5 := by kernel_rfl
theorem ag47 : ag Try.prog 47 = some 9 := by kernel_rfl
theorem es23 : esz Try.prog 23 = some 9 := by kernel_rfl
theorem fo25_0 : foff Try.prog 25 0 = some 0 := by kernel_rfl
theorem fo47_0 : foff Try.prog 47 0 = some 0 := by kernel_rfl
theorem fo47_1 : foff Try.prog 47 1 = some 1 := by kernel_rfl
theorem fo47_2 : foff Try.prog 47 2 = some 2 := by kernel_rfl
theorem fo47_3 : foff Try.prog 47 3 = some 3 := by kernel_rfl
theorem fo47_4 : foff Try.prog 47 4 = some 4 := by kernel_rfl
theorem isl23 : isSl Try.prog 23 = true := by kernel_rfl
theorem pl116 : places Try.prog 116 = some [(0, 1), (1, 1)] := by kernel_rfl
theorem sc23 : sc Try.prog 23 = true := by kernel_rfl
theorem sc3 : sc Try.prog 3 = true := by kernel_rfl
theorem zc116 : zc Try.prog 116 = some [.slice none 0 0, .slice none 0 0] := by kernel_rfl
theorem zc47 : zc Try.prog 47 = some [.int .i64 0, .int .i64 0, .int .i64 0, .int .i64 0, .int .i64 0, .int .i64 0, .int .i64 0, .int .i64 0, .int .i64 0] := by kernel_rfl
end FactsUniSC
open FactsUniSC

def tx : Nms → Tm → ByteArray × Nms
  | N, .bas b => (if b then ⟨#[98, 111, 111, 108]⟩ else ⟨#[105, 110, 116]⟩, N)
  | N, .var v => (⟨#[116]⟩ ++ dec (ixL N.1 v), (addL N.1 v, N.2))
  | N, .fn a r b => (⟨#[40]⟩ ++ (tx N a).1 ++ ⟨#[32, 45]⟩ ++ rtx (tx N a).2.2 r ++ ⟨#[32]⟩ ++ (tx ((tx N a).2.1, rnm (tx N a).2.2 r) b).1 ++ ⟨#[41]⟩, (tx ((tx N a).2.1, rnm (tx N a).2.2 r) b).2)
theorem tx_size : ∀ (t : Tm) (N : Nms), t.ok → (tx N t).1.size ≤ 1400 * t.sz
  | .bas b, N, _ => by cases b <;> exact Nat.le_of_ble_eq_true rfl
  | .var v, N, _ => by
    have := dec_size (ixL N.1 v)
    simp only [tx, Tm.sz]
    rw [ByteArray.size_append, sz1]; omega
  | .fn a r b, N, h => by
    have h1 := tx_size a N h.1
    have h2 := tx_size b ((tx N a).2.1, rnm (tx N a).2.2 r) h.2.2.2
    have h3 := rtx_size (R := (tx N a).2.2) h.2.1 h.2.2.1
    simp only [tx, Tm.sz]
    rw [ByteArray.size_append, ByteArray.size_append, ByteArray.size_append, ByteArray.size_append, ByteArray.size_append, ByteArray.size_append, sz1, sz2, sz1, sz1]
    omega
theorem rnm_len (R r : List Int) : (rnm R r).length ≤ R.length + 1 := by
  have := addL_len R (r.getD 4 0)
  unfold rnm; split <;> omega
theorem tx_len : ∀ (t : Tm) (N : Nms), (tx N t).2.1.length + (tx N t).2.2.length ≤ N.1.length + N.2.length + t.sz
  | .bas b, N => by simp only [tx, Tm.sz]; omega
  | .var v, N => by
    have := addL_len N.1 v
    simp only [tx, Tm.sz]; omega
  | .fn a r b, N => by
    have h1 := tx_len a N
    have h2 := tx_len b ((tx N a).2.1, rnm (tx N a).2.2 r)
    have h3 := rnm_len (tx N a).2.2 r
    simp only [tx, Tm.sz]
    dsimp only at h2
    omega
theorem nd_at (t : Tm) (pre post : List (List Int)) (x : List Int) (hx : el (pre ++ t.enc pre.length ++ post) ((pre.length : Int) + t.sz - 1) = x) :
    (x.getD 0 0 = 0 → t = .bas false) ∧ (x.getD 0 0 = 1 → t = .bas true) ∧ (x.getD 0 0 = 2 → t = .var (x.getD 1 0)) ∧
    (x.getD 0 0 ≠ 0 → x.getD 0 0 ≠ 1 → x.getD 0 0 ≠ 2 → ∃ a r b, t = .fn a r b ∧ x = fNode ((pre.length : Int) + a.sz - 1) ((pre.length : Int) + a.sz + b.sz - 1) r) := by
  cases t with
  | bas b =>
    rw [show (pre.length : Int) + (Tm.bas b).sz - 1 = pre.length by simp only [Tm.sz]; omega] at hx
    simp only [Tm.enc, List.append_assoc, List.singleton_append] at hx
    rw [el_mid] at hx; subst hx
    cases b <;> simp
  | var v =>
    rw [show (pre.length : Int) + (Tm.var v).sz - 1 = pre.length by simp only [Tm.sz]; omega] at hx
    simp only [Tm.enc, List.append_assoc, List.singleton_append] at hx
    rw [el_mid] at hx; subst hx
    simp
  | fn a r b =>
    have hp2 : ((pre ++ a.enc pre.length ++ b.enc ((pre.length : Int) + a.sz)).length : Int) = (pre.length : Int) + a.sz + b.sz := by rw [List.length_append, List.length_append, Tm.enc_len, Tm.enc_len]; omega
    have hL1 : pre ++ (Tm.fn a r b).enc pre.length ++ post = (pre ++ a.enc pre.length ++ b.enc ((pre.length : Int) + a.sz)) ++ fNode ((pre.length : Int) + a.sz - 1) ((pre.length : Int) + a.sz + b.sz - 1) r :: post := by
      simp only [Tm.enc, List.append_assoc, List.singleton_append]
    rw [hL1, show (pre.length : Int) + (Tm.fn a r b).sz - 1 = ((pre ++ a.enc pre.length ++ b.enc ((pre.length : Int) + a.sz)).length : Int) by rw [hp2]; simp only [Tm.sz]; omega, el_mid] at hx
    subst hx
    exact ⟨fun h => by (change (3 : Int) = 0 at h); omega, fun h => by (change (3 : Int) = 1 at h); omega, fun h => by (change (3 : Int) = 2 at h); omega, fun _ _ _ => ⟨a, r, b, rfl, rfl⟩⟩
theorem spl_a (a : Tm) (r : List Int) (b : Tm) (pre post : List (List Int)) : pre ++ (Tm.fn a r b).enc pre.length ++ post = pre ++ a.enc pre.length ++ (b.enc ((pre.length : Int) + a.sz) ++ fNode ((pre.length : Int) + a.sz - 1) ((pre.length : Int) + a.sz + b.sz - 1) r :: post) := by
  simp only [Tm.enc, List.append_assoc, List.singleton_append]
theorem spl_b (a : Tm) (r : List Int) (b : Tm) (pre post : List (List Int)) : pre ++ (Tm.fn a r b).enc pre.length ++ post = (pre ++ a.enc pre.length) ++ b.enc ((pre ++ a.enc pre.length).length : Int) ++ (fNode ((pre.length : Int) + a.sz - 1) ((pre.length : Int) + a.sz + b.sz - 1) r :: post) := by
  have hp : ((pre ++ a.enc pre.length).length : Int) = (pre.length : Int) + a.sz := by rw [List.length_append, Tm.enc_len]; omega
  rw [hp]; simp only [Tm.enc, List.append_assoc, List.singleton_append]
theorem spl_l (a : Tm) (pre : List (List Int)) : (pre ++ a.enc pre.length).length = pre.length + a.sz := by rw [List.length_append, Tm.enc_len]

theorem text_ok {L : List (List Int)} (hL : Nine L) {A : Option Addr} {cap nb B : Nat} (hm : L.length ≤ 256) : ∀ (f : Nat) (t : Tm) (pre post : List (List Int)), t.sz ≤ f → t.ok → L = pre ++ t.enc pre.length ++ post →
    ∀ {H : Heap} {A1 A2 : Option Addr} {c1 c2 : Nat} {T R : List Int}, SlT H Is 9 (.slice A L.length cap) L → Nm H nb B A1 c1 T A2 c2 R → T.length + R.length + t.sz ≤ 90000 → Off nb A1 A2 (ob A) → ∀ z : Int, z = (pre.length : Int) + t.sz - 1 →
    Ret Try.prog 82 [ptr nb 0, .slice A L.length cap, I z] H (fun v H' => v = .string (tx (T, R) t).1 ∧ ∃ A1' c1' A2' c2', Nm H' nb B A1' c1' (tx (T, R) t).2.1 A2' c2' (tx (T, R) t).2.2 ∧ Mod nb A1 A2 A1' A2' H H') := by
  intro f
  induction f with
  | zero => intro t _ _ h; have := t.sz_pos; omega
  | succ f ihf =>
  intro t pre post hf hok hLe H A1 A2 c1 c2 T R hS hN hlen hoA z hz
  have hlL : L.length = pre.length + t.sz + post.length := by rw [hLe, List.length_append, List.length_append, Tm.enc_len]
  have hpos := t.sz_pos
  obtain ⟨b, o, c, rfl, hB, hd, hx9, hat⟩ := el_cells hL hS (z := z) (by omega) (by omega)
  obtain ⟨n0, n1, n2, n3⟩ := nd_at t pre post (el L z) (by rw [← hLe, hz])
  generalize el L z = x at hd hx9 hat n0 n1 n2 n3
  have hob : ob (some ⟨b, o, none⟩) = b := ob_some b o
  have hat' : ∀ j, j < 9 → (Is x)[j]? = some (I (x.getD j 0)) := fun j hj => at_Is (by omega)
  have zB := Int.ofNat_lt.2 hB.lt
  have zN := hN.own.lt
  have hx9' : (Is x).length = 9 := by simp [hx9]
  rw [hob] at hoA
  refine Ret.of_at (N := 50) Try.call82 Try.func82 rfl rfl rfl ?_
  have hE := Ext.refl H

  refine At.region rfl rfl ?_
  refine Reg.pur rfl rfl rfl rfl (Pur.asg rfl) ?_
  refine Reg.nil ?_
  refine At.region rfl rfl ?_
  refine Reg.pur rfl rfl rfl rfl (Pur.mv rfl) ?_
  refine Reg.pur rfl rfl rfl rfl (Pur.mv rfl) ?_
  refine Reg.pur rfl rfl rfl rfl (Pur.idx _ es23 rfl rfl (by omega) (by omega)) ?_
  refine Reg.lod rfl rfl rfl rfl (Lod.ldn ag47 rfl hB hd hx9') ?_
  refine Reg.op rfl rfl rfl rfl (Does.alloc zc47) ?_
  rintro _ H1_4 ⟨rfl, hn1_4⟩
  have z1_4 := hn1_4.size
  have o1_4 := hn1_4.own
  refine Reg.op0 rfl rfl rfl (Does.stn ag47 rfl rfl (by first | rfl | exact ones_Is _) (by first | rfl | (simp [*]; done)) o1_4 (by first | decide | (simp; done) | (simp; omega) | omega)) ?_
  rintro _ H1_5 hu1_5
  have z1_5 := hu1_5.size
  replace o1_4 := hu1_5.own
  first | rw [over (by first | rfl | (simp; done))] at o1_4 | skip
  refine Reg.nil ?_

  have hX : Own H1_5 H.size (Is x) := o1_4
  have hE0 : Ext H H1_5 := hn1_4.ext.upd hu1_5 (Nat.le_refl _)
  have hN0 := hN.ext hE0
  have hS0 := hS.ext hE0
  have hoX : Off nb A1 A2 H.size := ⟨by omega, by have := hN.g1.lt; omega, by have := hN.g2.lt; omega⟩
  have zX := Int.ofNat_lt.2 hX.lt
  have hM0 : Mod nb A1 A2 A1 A2 H H1_5 := (Mod.refl nb A1 A2 H).ext hE0
  have zB0 : (b : Int) < H1_5.size := by have := hE0.1; omega
  refine At.region rfl rfl ?_
  refine Reg.pur rfl rfl rfl rfl (Pur.fld _ fo47_0 rfl) ?_
  refine Reg.lod rfl rfl rfl rfl (Lod.ld sc3 rfl hX.blk (hat' 0 (by omega))) ?_
  refine Reg.nil ?_
  refine At.region rfl rfl ?_
  refine Reg.pur rfl rfl rfl rfl (Pur.eql rfl rfl) ?_
  refine Reg.pur rfl rfl rfl rfl (Pur.asg rfl) ?_
  refine Reg.nil ?_
  refine At.cond rfl rfl (fun q16 => ?_) (fun q16 => ?_)
  · first | (simp only [decide_eq_true_eq, decide_eq_false_iff_not, Bool.not_eq_true', Bool.not_eq_false', ne_eq, Decidable.not_not, Bool.not_eq_true, Bool.not_eq_false] at q16) | (dsimp only at q16) | skip
    refine At.region rfl rfl ?_
    refine Reg.pur rfl rfl rfl rfl (Pur.asg rfl) ?_
    refine Reg.nil ?_
    refine At.ret rfl Try.func82 rfl ?_
    obtain rfl := n0 q16
    exact ⟨rfl, A1, c1, A2, c2, hN0, hM0⟩
  first | (simp only [decide_eq_true_eq, decide_eq_false_iff_not, Bool.not_eq_true', Bool.not_eq_false', ne_eq, Decidable.not_not, Bool.not_eq_true, Bool.not_eq_false] at q16) | (dsimp only at q16) | skip
  refine At.region rfl rfl ?_
  refine Reg.pur rfl rfl rfl rfl (Pur.eql rfl rfl) ?_
  refine Reg.pur rfl rfl rfl rfl (Pur.asg rfl) ?_
  refine Reg.nil ?_
  refine At.cond rfl rfl (fun q18 => ?_) (fun q18 => ?_)
  · first | (simp only [decide_eq_true_eq, decide_eq_false_iff_not, Bool.not_eq_true', Bool.not_eq_false', ne_eq, Decidable.not_not, Bool.not_eq_true, Bool.not_eq_false] at q18) | (dsimp only at q18) | skip
    refine At.region rfl rfl ?_
    refine Reg.pur rfl rfl rfl rfl (Pur.asg rfl) ?_
    refine Reg.nil ?_
    refine At.ret rfl Try.func82 rfl ?_
    obtain rfl := n1 q18
    exact ⟨rfl, A1, c1, A2, c2, hN0, hM0⟩
  first | (simp only [decide_eq_true_eq, decide_eq_false_iff_not, Bool.not_eq_true', Bool.not_eq_false', ne_eq, Decidable.not_not, Bool.not_eq_true, Bool.not_eq_false] at q18) | (dsimp only at q18) | skip
  refine At.region rfl rfl ?_
  refine Reg.pur rfl rfl rfl rfl (Pur.eql rfl rfl) ?_
  refine Reg.pur rfl rfl rfl rfl (Pur.asg rfl) ?_
  refine Reg.nil ?_
  refine At.cond rfl rfl (fun q20 => ?_) (fun q20 => ?_)
  · first | (simp only [decide_eq_true_eq, decide_eq_false_iff_not, Bool.not_eq_true', Bool.not_eq_false', ne_eq, Decidable.not_not, Bool.not_eq_true, Bool.not_eq_false] at q20) | (dsimp only at q20) | skip
    refine At.region rfl rfl ?_
    refine Reg.pur rfl rfl rfl rfl (Pur.mv rfl) ?_
    refine Reg.pur rfl rfl rfl rfl (Pur.fld _ fo47_1 rfl) ?_
    refine Reg.lod rfl rfl rfl rfl (Lod.ld sc3 rfl hX.blk (hat' 1 (by omega))) ?_
    refine Reg.op rfl rfl rfl rfl (Does.call rfl (nm_kind _ hN0 (by omega))) ?_
    rintro _ H8_3 ⟨rfl, A1a, c1a, hN8_3, hM8_3⟩
    have hix := ixL_le T (x.getD 1 0)
    refine Reg.op rfl rfl rfl rfl (Does.call rfl (decimal_ok (ixL T (x.getD 1 0)) (by omega) _)) ?_
    rintro _ H8_4 ⟨rfl, hD8_4⟩
    refine Reg.pur rfl rfl rfl rfl (Pur.addS rfl rfl (szs (sl1 _) (dec_size _) (by decide))) ?_
    refine Reg.pur rfl rfl rfl rfl (Pur.asg rfl) ?_
    refine Reg.nil ?_
    refine At.ret rfl Try.func82 rfl ?_
    have ht := n2 q20
    rw [ht]
    exact ⟨rfl, A1a, c1a, A2, c2, hN8_3.ext hD8_4, (hM0.trans hM8_3).ext hD8_4⟩
  first | (simp only [decide_eq_true_eq, decide_eq_false_iff_not, Bool.not_eq_true', Bool.not_eq_false', ne_eq, Decidable.not_not, Bool.not_eq_true, Bool.not_eq_false] at q20) | (dsimp only at q20) | skip
  obtain ⟨ta, r, tb, rfl, rfl⟩ := n3 q16 q18 q20
  obtain ⟨hoa, hr5, hrow, hob2⟩ := hok
  have hpa := ta.sz_pos
  have hpb := tb.sz_pos
  have e0 : (Tm.fn ta r tb).sz = ta.sz + tb.sz + 1 := rfl
  have sA : (tx (T, R) ta).1.size ≤ 358400 := Nat.le_trans (tx_size ta _ hoa) (by omega)
  have lA := tx_len ta (T, R)
  have lR := rnm_len (tx (T, R) ta).2.2 r
  have sR := rtx_size (R := (tx (T, R) ta).2.2) hr5 hrow
  have sB : (tx ((tx (T, R) ta).2.1, rnm (tx (T, R) ta).2.2 r) tb).1.size ≤ 358400 := Nat.le_trans (tx_size tb _ hob2) (by omega)
  dsimp only at lA
  refine At.region rfl rfl ?_
  refine Reg.pur rfl rfl rfl rfl (Pur.mv rfl) ?_
  refine Reg.pur rfl rfl rfl rfl (Pur.mv rfl) ?_
  refine Reg.pur rfl rfl rfl rfl (Pur.fld _ fo47_2 rfl) ?_
  refine Reg.lod rfl rfl rfl rfl (Lod.ld sc3 rfl hX.blk (show _ = some (I ((pre.length : Int) + ta.sz - 1)) from hat' 2 (by omega))) ?_
  refine Reg.op rfl rfl rfl rfl (Does.call rfl (ihf ta pre _ (by omega) hoa (hLe.trans (spl_a ta r tb pre post)) hS0 hN0 (by omega) (by rw [hob]; exact hoA) _ rfl)) ?_
  rintro _ H9_4 ⟨rfl, A1a, c1a, A2a, c2a, hN9_4, hM9_4⟩
  replace hX := hX.via hM9_4.1 hoX.not
  have hS1 := hS0.via hM9_4.1 (fun _ g hg => by rw [hob] at hg; obtain rfl : g = b := (by omega); exact hoA.not)
  replace hoX := hoX.mod zX hM9_4
  replace hoA := hoA.mod zB0 hM9_4
  replace zX := Int.ofNat_lt.2 hX.lt
  have zB1 : (b : Int) < H9_4.size := by have := hM9_4.1.1; omega
  refine Reg.pur rfl rfl rfl rfl (Pur.asg rfl) ?_
  refine Reg.nil ?_
  refine At.region rfl rfl ?_
  refine Reg.pur rfl rfl rfl rfl (Pur.mv rfl) ?_
  refine Reg.pur rfl rfl rfl rfl (Pur.fld _ fo47_4 rfl) ?_
  refine Reg.lod rfl rfl rfl rfl (Lod.ldn ag28 rfl hX.blk (show _ = Is r by simp [Is, List.take_of_length_le, hr5]) (by simp [hr5])) ?_
  refine Reg.op rfl rfl rfl rfl (Does.call rfl (rowText_ok hr5 hrow hN9_4 (by omega))) ?_
  rintro _ H10_3 ⟨rfl, A2b, c2b, hN10_3, hM10_3⟩
  replace hX := hX.via hM10_3.1 hoX.not
  have hS2 := hS1.via hM10_3.1 (fun _ g hg => by rw [hob] at hg; obtain rfl : g = b := (by omega); exact hoA.not)
  replace hoA := hoA.mod zB1 hM10_3
  refine Reg.pur rfl rfl rfl rfl (Pur.asg rfl) ?_
  refine Reg.nil ?_
  refine At.region rfl rfl ?_
  refine Reg.pur rfl rfl rfl rfl (Pur.mv rfl) ?_
  refine Reg.pur rfl rfl rfl rfl (Pur.addS rfl rfl (szs (sl1 _) sA (by decide))) ?_
  refine Reg.pur rfl rfl rfl rfl (Pur.addS rfl rfl (szs (sza (sl1 _) sA) (sl2 _ _) (by decide))) ?_
  refine Reg.pur rfl rfl rfl rfl (Pur.mv rfl) ?_
  refine Reg.pur rfl rfl rfl rfl (Pur.addS rfl rfl (szs (sza (sza (sl1 _) sA) (sl2 _ _)) sR (by decide))) ?_
  refine Reg.pur rfl rfl rfl rfl (Pur.addS rfl rfl (szs (sza (sza (sza (sl1 _) sA) (sl2 _ _)) sR) (sl1 _) (by decide))) ?_
  refine Reg.pur rfl rfl rfl rfl (Pur.mv rfl) ?_
  refine Reg.pur rfl rfl rfl rfl (Pur.mv rfl) ?_
  refine Reg.pur rfl rfl rfl rfl (Pur.fld _ fo47_3 rfl) ?_
  refine Reg.lod rfl rfl rfl rfl (Lod.ld sc3 rfl hX.blk (show _ = some (I ((pre.length : Int) + ta.sz + tb.sz - 1)) from hat' 3 (by omega))) ?_
  refine Reg.op rfl rfl rfl rfl (Does.call rfl (ihf tb (pre ++ ta.enc pre.length) _ (by omega) hob2 (hLe.trans (spl_b ta r tb pre post)) hS2 hN10_3 (by first | omega | (dsimp only; omega)) (by rw [hob]; exact hoA) _ (by rw [spl_l]; omega))) ?_
  rintro _ H11_10 ⟨rfl, A1d, c1d, A2d, c2d, hN11_10, hM11_10⟩
  refine Reg.pur rfl rfl rfl rfl (Pur.addS rfl rfl (szs (sza (sza (sza (sza (sl1 _) sA) (sl2 _ _)) sR) (sl1 _)) sB (by decide))) ?_
  refine Reg.pur rfl rfl rfl rfl (Pur.addS rfl rfl (szs (sza (sza (sza (sza (sza (sl1 _) sA) (sl2 _ _)) sR) (sl1 _)) sB) (sl1 _) (by decide))) ?_
  refine Reg.pur rfl rfl rfl rfl (Pur.asg rfl) ?_
  refine Reg.nil ?_
  refine At.ret rfl Try.func82 rfl ?_
  exact ⟨rfl, A1d, c1d, A2d, c2d, hN11_10, ((hM0.trans hM9_4).trans hM10_3).trans hM11_10⟩
theorem typeText_ok {A : Option Addr} {cap : Nat} {t : Tm} (hok : t.ok) (hsz : t.sz ≤ 256) {H : Heap} (hS : SlT H Is 9 (.slice A (t.enc 0).length cap) (t.enc 0)) :
    Ret Try.prog 51 [Ty A (t.enc 0).length cap] H (fun v H' => v = .tuple #[.string (tx ([], []) t).1, I 0] ∧ Ext H H') := by
  have hl : (t.enc 0).length = t.sz := Tm.enc_len t 0
  have hpos := t.sz_pos
  have h9 := Tm.enc_nine t 0 hok
  refine Ret.of_at (N := 18) Try.call51 Try.func51 rfl rfl rfl ?_
  have hE := Ext.refl H
  refine At.region rfl rfl ?_
  refine Reg.op rfl rfl rfl rfl (Does.box rfl rfl) ?_
  rintro _ H0_0 ⟨rfl, hn0_0⟩
  have z0_0 := hn0_0.size
  replace hE := hE.ext hn0_0.ext
  have o0_0 := hn0_0.own
  refine Reg.pur rfl rfl rfl rfl (Pur.asg rfl) ?_
  refine Reg.pur rfl rfl rfl rfl (Pur.asg rfl) ?_
  refine Reg.nil ?_
  refine At.region rfl rfl ?_
  refine Reg.lod rfl rfl rfl rfl (Lod.ldn ag25 rfl o0_0.blk (whole rfl) rfl) ?_
  refine Reg.op rfl rfl rfl rfl (Does.call rfl (typMayR_ok (t.enc 0) h9 (hS.ext hE) (by omega))) ?_
  rintro _ H1_1 ⟨rfl, hE1_1⟩
  have z1_1 := hE1_1.lt
  replace hE := hE.ext hE1_1
  replace o0_0 := o0_0.ext hE1_1
  refine Reg.pur rfl rfl rfl rfl (Pur.not rfl) ?_
  refine Reg.nil ?_
  refine At.condF rfl rfl (by rw [enc_typ hok hsz]; rfl) ?_
  refine At.region rfl rfl ?_
  refine Reg.pur rfl rfl rfl rfl (Pur.bld (cs := [_, _]) pl116 zc116 rfl rfl ⟨rfl, rfl, rfl⟩) ?_
  refine Reg.op rfl rfl rfl rfl (Does.box rfl rfl) ?_
  rintro _ H3_1 ⟨rfl, hn3_1⟩
  have z3_1 := hn3_1.size
  replace hE := hE.ext hn3_1.ext
  replace o0_0 := o0_0.ext hn3_1.ext
  have o3_1 := hn3_1.own
  refine Reg.pur rfl rfl rfl rfl (Pur.asg rfl) ?_
  refine Reg.nil ?_
  refine At.region rfl rfl ?_
  refine Reg.pur rfl rfl rfl rfl (Pur.mv rfl) ?_
  refine Reg.pur rfl rfl rfl rfl (Pur.fld _ fo25_0 rfl) ?_
  refine Reg.lod rfl rfl rfl rfl (Lod.ld sc23 rfl o0_0.blk rfl) ?_
  refine Reg.pur rfl rfl rfl rfl (Pur.fld _ fo25_0 rfl) ?_
  refine Reg.lod rfl rfl rfl rfl (Lod.ld sc23 rfl o0_0.blk rfl) ?_
  refine Reg.pur rfl rfl rfl rfl (Pur.lenS isl23 rfl) ?_
  refine Reg.pur rfl rfl rfl rfl (Pur.sub64 rfl rfl (by omega)) ?_
  refine Reg.op rfl rfl rfl rfl (Does.call rfl (text_ok h9 (by omega) t.sz t [] [] (Nat.le_refl _) hok (by simp) (hS.ext hE) (nm_new (B := H.size) o3_1 (by omega)) (by simp; omega) (off_none (by have := hS.lt; omega) (by have := hS.lt; omega)) _ (by rw [hl]; simp))) ?_
  rintro _ H4_7 ⟨rfl, A1, c1, A2, c2, hN4_7, hM4_7⟩
  refine Reg.pur rfl rfl rfl rfl (Pur.asg rfl) ?_
  refine Reg.pur rfl rfl rfl rfl (Pur.asg rfl) ?_
  refine Reg.nil ?_
  refine At.ret rfl Try.func51 rfl ?_
  exact ⟨rfl, mod_ext hM4_7 hE (by omega)⟩
end Go.Proofs.Ytlfillhffpiffaa

namespace Go.Proofs.Ytlfillhffpiffaa
set_option linter.unusedSimpArgs false
set_option linter.unusedVariables false
set_option maxRecDepth 8000
open Go Go.Fx Go.Proofs

theorem adR_five (a b c d e a' b' c' d' e' : Int) : adR [a, b, c, d, e] [a', b', c', d', e'] = [a + a', b + b', c + c', d + d', e'] := rfl
end Go.Proofs.Ytlfillhffpiffaa

namespace Go.Proofs.Ytlfillhffpiffaa
set_option linter.unusedSimpArgs false
set_option linter.unusedVariables false
set_option maxRecDepth 8000
open Go Go.Fx Go.Proofs

structure Asg.Ok (θ : Asg) : Prop where
  len : ∀ v, 0 ≤ v → (θ.R v).length = 5
  pos : ∀ v, 0 ≤ v → ∀ i, i < 4 → 0 ≤ (θ.R v).getD i 0
  tl : ∀ v, 0 ≤ v → -1 ≤ (θ.R v).getD 4 0
def Agree (f : Int) (θ θ' : Asg) : Prop := (∀ v, θ'.T v = θ.T v) ∧ ∀ v, v < f → θ'.R v = θ.R v
theorem Agree.refl (f : Int) (θ : Asg) : Agree f θ θ := ⟨fun _ => rfl, fun _ _ => rfl⟩
theorem Agree.trans {f f' : Int} {θ θ' θ'' : Asg} (h : Agree f θ θ') (k : Agree f' θ' θ'') (hf : f ≤ f') : Agree f θ θ'' :=
  ⟨fun v => (k.1 v).trans (h.1 v), fun v hv => (k.2 v (by omega)).trans (h.2 v hv)⟩
theorem Agree.row {f : Int} {θ θ' : Asg} (h : Agree f θ θ') {r : List Int} (hr : r.getD 4 0 < f) : θ'.row r = θ.row r := by
  unfold Asg.row
  rw [h.2 _ hr]
theorem Agree.tm {f : Int} {θ θ' : Asg} (h : Agree f θ θ') : ∀ {t : Tm}, Lw f t → θ'.tm t = θ.tm t
  | .bas k, _ => rfl
  | .var v, _ => h.1 v
  | .fn a r b, hl => by
    obtain ⟨h1, h2, h3⟩ := lw_row hl
    simp only [Asg.tm]
    rw [h.tm h1, h.row h2, h.tm h3]
theorem Agree.resp {f : Int} {θ θ' : Asg} (h : Agree f θ θ') {l : List Bt} (hl : InvR l f) (hr : Resp θ l) : Resp θ' l := by
  intro b hb
  have h1 := hr b hb
  cases b with
  | t v u =>
    show θ'.T v = θ'.tm u
    rw [h.1 v, h.tm (fun w hw => hl.low w hw _ hb)]
    exact h1
  | r v s =>
    show θ'.R v = θ'.row s
    have h2 := (hl.rng v (mem_domR hb)).2
    have h3 : s.getD 4 0 < f := by
      rcases Int.lt_or_le (s.getD 4 0) f with h4 | h4
      · exact h4
      · have := hl.low _ h4 _ hb; simp [Bt.occR] at this
    rw [h.2 v h2, h.row h3]
    exact h1

theorem adR_at (r s : List Int) : ∀ i, i < 4 → (adR r s).getD i 0 = r.getD i 0 + s.getD i 0
  | 0, _ => rfl
  | 1, _ => rfl
  | 2, _ => rfl
  | 3, _ => rfl
theorem subC_at (a b : List Int) (t : Int) : ∀ i, i < 4 → (subC a b ++ [t]).getD i 0 = sb1 a b i
  | 0, _ => rfl
  | 1, _ => rfl
  | 2, _ => rfl
  | 3, _ => rfl
theorem sub_tl (a b : List Int) (t : Int) : (subC a b ++ [t]).getD 4 0 = t := rfl
theorem uniR_mgu {θ : Asg} (hθ : θ.Ok) {a b : List Int} {f : Int} (ha : a.length = 5) (hb : b.length = 5) (ham : rowM a = true) (hbm : rowM b = true) (h0 : 0 ≤ f) (h1 : f < 4096) (hta : a.getD 4 0 < f) (htb : b.getD 4 0 < f) (he : θ.row a = θ.row b) :
    (uniR a b f).2 = 0 ∧ ∃ θ', θ'.Ok ∧ Agree f θ θ' ∧ ∀ x ∈ (uniR a b f).1, (bt x).resp θ' := by
  have ta := rowM_t ham
  have tb := rowM_t hbm
  have pa := fun i (hi : i < 4) => (rowM_all ham hi ha).1
  have pb := fun i (hi : i < 4) => (rowM_all hbm hi hb).1
  have hei : ∀ i, (θ.row a).getD i 0 = (θ.row b).getD i 0 := fun i => by rw [he]
  have hL : ∀ v, 0 ≤ v → (θ.R v).length = 5 := hθ.len
  rw [uniR_yes ⟨ham, hbm, h0, h1, hta, htb⟩]
  unfold uniQ
  by_cases e1 : a.getD 4 0 = b.getD 4 0
  · rw [if_pos e1]
    have hab : ∀ i, i < 4 → a.getD i 0 = b.getD i 0 := by
      intro i hi
      by_cases hn : a.getD 4 0 < 0
      · have := hei i
        rw [Asg.row_no hn, Asg.row_no (by omega)] at this
        exact this
      · have := hei i
        rw [Asg.row_yes hn, Asg.row_yes (by omega), adR_at _ _ i hi, adR_at _ _ i hi, e1] at this
        omega
    rw [if_neg (by
      rw [more_of (fun i hi => by rw [hab i hi]; exact Int.le_refl _), more_of (a := b) (fun i hi => by rw [hab i hi]; exact Int.le_refl _)]
      simp)]
    exact ⟨rfl, θ, hθ, Agree.refl _ _, fun x hx => by cases hx⟩
  · rw [if_neg e1]
    by_cases e2 : b.getD 4 0 = -1
    · have na : ¬ a.getD 4 0 < 0 := by omega
      have nb : b.getD 4 0 < 0 := by omega
      rw [Asg.row_yes na, Asg.row_no nb] at hei
      have hi4 := fun i (hi : i < 4) => (adR_at a (θ.R (a.getD 4 0)) i hi).symm.trans (hei i)
      have hX := fun i (hi : i < 4) => hθ.pos (a.getD 4 0) (by omega) i hi
      have ht := hei 4
      rw [adR_tail] at ht
      have hle : ∀ i, i < 4 → a.getD i 0 ≤ b.getD i 0 := fun i hi => by have := hi4 i hi; have := hX i hi; omega
      rw [if_neg (by rintro (⟨h, h'⟩ | ⟨h, h'⟩) <;> first | omega | (rw [more_of hle] at h; cases h)), if_pos e2]
      refine ⟨rfl, θ, hθ, Agree.refl _ _, fun x hx => ?_⟩
      rw [List.mem_singleton.1 hx]
      show θ.R (a.getD 4 0) = θ.row (subC b a ++ [-1])
      rw [Asg.row_no (by rw [sub_tl]; decide)]
      refine eq_five (hL _ (by omega)) rfl (fun i hi => ?_) (by rw [sub_tl]; omega)
      rw [subC_at _ _ _ i hi]
      have := hi4 i hi
      have := hle i hi
      unfold sb1
      split <;> omega
    · by_cases e3 : a.getD 4 0 = -1
      · have na : a.getD 4 0 < 0 := by omega
        have nb : ¬ b.getD 4 0 < 0 := by omega
        rw [Asg.row_no na, Asg.row_yes nb] at hei
        have hi4 := fun i (hi : i < 4) => (hei i).trans (adR_at b (θ.R (b.getD 4 0)) i hi)
        have hX := fun i (hi : i < 4) => hθ.pos (b.getD 4 0) (by omega) i hi
        have ht := hei 4
        rw [adR_tail] at ht
        have hle : ∀ i, i < 4 → b.getD i 0 ≤ a.getD i 0 := fun i hi => by have := hi4 i hi; have := hX i hi; omega
        rw [if_neg (by rintro (⟨h, h'⟩ | ⟨h, h'⟩) <;> first | omega | (rw [more_of hle] at h; cases h)), if_neg e2, if_pos e3]
        refine ⟨rfl, θ, hθ, Agree.refl _ _, fun x hx => ?_⟩
        rw [List.mem_singleton.1 hx]
        show θ.R (b.getD 4 0) = θ.row (subC a b ++ [-1])
        rw [Asg.row_no (by rw [sub_tl]; decide)]
        refine eq_five (hL _ (by omega)) rfl (fun i hi => ?_) (by rw [sub_tl]; omega)
        rw [subC_at _ _ _ i hi]
        have := hi4 i hi
        have := hle i hi
        unfold sb1
        split <;> omega
      · rw [if_neg (by omega), if_neg e2, if_neg e3]
        have na : ¬ a.getD 4 0 < 0 := by omega
        have nb : ¬ b.getD 4 0 < 0 := by omega
        rw [Asg.row_yes na, Asg.row_yes nb] at hei
        have hi4 := fun i (hi : i < 4) => (adR_at a (θ.R (a.getD 4 0)) i hi).symm.trans ((hei i).trans (adR_at b (θ.R (b.getD 4 0)) i hi))
        have hX := fun i (hi : i < 4) => hθ.pos (a.getD 4 0) (by omega) i hi
        have hY := fun i (hi : i < 4) => hθ.pos (b.getD 4 0) (by omega) i hi
        have ht := hei 4
        rw [adR_tail, adR_tail] at ht
        by_cases e4 : moreC a b = false
        · rw [if_pos e4]
          have hle := more_no e4
          refine ⟨rfl, θ, hθ, Agree.refl _ _, fun x hx => ?_⟩
          rw [List.mem_singleton.1 hx]
          show θ.R (a.getD 4 0) = θ.row (subC b a ++ [b.getD 4 0])
          rw [Asg.row_yes (by rw [sub_tl]; exact nb), sub_tl]
          refine eq_five (hL _ (by omega)) rfl (fun i hi => ?_) (by rw [adR_tail]; exact ht)
          rw [adR_at _ _ i hi, subC_at _ _ _ i hi]
          have := hi4 i hi
          have := hle i hi
          unfold sb1
          split <;> omega
        · rw [if_neg e4]
          by_cases e5 : moreC b a = false
          · rw [if_pos e5]
            have hle := more_no e5
            refine ⟨rfl, θ, hθ, Agree.refl _ _, fun x hx => ?_⟩
            rw [List.mem_singleton.1 hx]
            show θ.R (b.getD 4 0) = θ.row (subC a b ++ [a.getD 4 0])
            rw [Asg.row_yes (by rw [sub_tl]; exact na), sub_tl]
            refine eq_five (hL _ (by omega)) rfl (fun i hi => ?_) (by rw [adR_tail]; exact ht.symm)
            rw [adR_at _ _ i hi, subC_at _ _ _ i hi]
            have := hi4 i hi
            have := hle i hi
            unfold sb1
            split <;> omega
          · rw [if_neg e5]
            have hZ : ∀ i, i < 4 → 0 ≤ (θ.R (a.getD 4 0)).getD i 0 - sb1 b a i := fun i hi => by
              have := hi4 i hi
              have := hX i hi
              have := hY i hi
              unfold sb1
              split <;> omega
            generalize hz : ([(θ.R (a.getD 4 0)).getD 0 0 - sb1 b a 0, (θ.R (a.getD 4 0)).getD 1 0 - sb1 b a 1, (θ.R (a.getD 4 0)).getD 2 0 - sb1 b a 2, (θ.R (a.getD 4 0)).getD 3 0 - sb1 b a 3, (θ.R (a.getD 4 0)).getD 4 0] : List Int) = Z
            have hz5 : Z.length = 5 := by rw [← hz]; rfl
            have hzi : ∀ i, i < 4 → Z.getD i 0 = (θ.R (a.getD 4 0)).getD i 0 - sb1 b a i := by
              rw [← hz]
              intro i hi
              match i, hi with
              | 0, _ => rfl
              | 1, _ => rfl
              | 2, _ => rfl
              | 3, _ => rfl
            have hzt : Z.getD 4 0 = (θ.R (a.getD 4 0)).getD 4 0 := by rw [← hz]; rfl
            have hRf : (⟨θ.T, fun v => if v = f then Z else θ.R v⟩ : Asg).R f = Z := if_pos rfl
            have hRn : ∀ v, v < f → (⟨θ.T, fun v => if v = f then Z else θ.R v⟩ : Asg).R v = θ.R v := fun v hv => if_neg (by omega)
            refine ⟨rfl, ⟨θ.T, fun v => if v = f then Z else θ.R v⟩, ⟨fun v hv => ?_, fun v hv i hi => ?_, fun v hv => ?_⟩, ⟨fun _ => rfl, hRn⟩, fun x hx => ?_⟩
            · by_cases hvf : v = f
              · subst hvf; rw [hRf]; exact hz5
              · dsimp only; rw [if_neg hvf]; exact hθ.len v hv
            · by_cases hvf : v = f
              · subst hvf; rw [hRf, hzi i hi]; exact hZ i hi
              · dsimp only; rw [if_neg hvf]; exact hθ.pos v hv i hi
            · by_cases hvf : v = f
              · subst hvf; rw [hRf, hzt]; exact hθ.tl _ (by omega)
              · dsimp only; rw [if_neg hvf]; exact hθ.tl v hv
            · rcases List.mem_cons.1 hx with rfl | hx
              · show (⟨θ.T, fun v => if v = f then Z else θ.R v⟩ : Asg).R (a.getD 4 0) = (⟨θ.T, fun v => if v = f then Z else θ.R v⟩ : Asg).row (subC b a ++ [f])
                rw [Asg.row_yes (by rw [sub_tl]; omega), sub_tl, hRf, hRn _ hta]
                refine eq_five (hL _ (by omega)) rfl (fun i hi => ?_) (by rw [adR_tail]; exact hzt.symm)
                rw [adR_at _ _ i hi, subC_at _ _ _ i hi, hzi i hi]
                omega
              · rw [List.mem_singleton.1 hx]
                show (⟨θ.T, fun v => if v = f then Z else θ.R v⟩ : Asg).R (b.getD 4 0) = (⟨θ.T, fun v => if v = f then Z else θ.R v⟩ : Asg).row (subC a b ++ [f])
                rw [Asg.row_yes (by rw [sub_tl]; omega), sub_tl, hRf, hRn _ htb]
                refine eq_five (hL _ (by omega)) rfl (fun i hi => ?_) (by rw [adR_tail, hzt]; exact ht.symm)
                rw [adR_at _ _ i hi, subC_at _ _ _ i hi, hzi i hi]
                have := hi4 i hi
                unfold sb1
                split <;> split <;> omega
theorem rowsU_mgu {θ : Asg} {s : Us} {a b : List Int} (hG : Good s) (hθ : θ.Ok) (hR : Resp θ s.1) (ha5 : a.length = 5) (ha : rowM a = true) (hb5 : b.length = 5) (hb : rowM b = true) (hta : a.getD 4 0 < s.2) (htb : b.getD 4 0 < s.2) (he : θ.row a = θ.row b) :
    rowsU s a b = .error 1003 ∨ ∃ s' θ', rowsU s a b = .ok s' ∧ θ'.Ok ∧ Resp θ' s'.1 ∧ Agree s.2 θ θ' := by
  have hf0 := hG.f0
  unfold rowsU
  cases h1 : rwS s.1 a with
  | none => exact .inl rfl
  | some a' =>
    cases h2 : rwS s.1 b with
    | none => exact .inl rfl
    | some b' =>
      dsimp only
      by_cases hf : 4096 ≤ s.2
      · rw [if_pos hf]; exact .inl rfl
      · rw [if_neg hf]
        have ha' := rw_ok hG.inv.ok ha5 ha h1
        have hb' := rw_ok hG.inv.ok hb5 hb h2
        have ta : a'.getD 4 0 < s.2 := by
          by_cases h0 : 0 ≤ a'.getD 4 0
          · exact (rw_tail hG.invR hta h1 h0).2
          · omega
        have tb : b'.getD 4 0 < s.2 := by
          by_cases h0 : 0 ≤ b'.getD 4 0
          · exact (rw_tail hG.invR htb h2 h0).2
          · omega
        have he' : θ.row a' = θ.row b' := by rw [rw_resp hG.inv.ok hR ha5 ha h1, rw_resp hG.inv.ok hR hb5 hb h2, he]
        obtain ⟨hc, θ', k1, k2, k3⟩ := uniR_mgu hθ ha'.1 hb'.1 ha'.2 hb'.2 hf0 (by omega) ta tb he'
        rw [if_neg (by rw [hc]; simp)]
        cases h3 : addAll ((uniR a' b' s.2).1.map bt) s.1 with
        | none => exact .inl rfl
        | some l =>
          refine .inr ⟨_, θ', rfl, k1, ?_, k2⟩
          refine (resp_all (uniR_bts ha'.1 hb'.1 (by omega) hc) hG.inv.ok h3).2 ⟨k2.resp hG.invR hR, fun x hx => ?_⟩
          obtain ⟨y, hy, rfl⟩ := List.mem_map.1 hx
          exact k3 y hy
theorem occ_le {θ : Asg} {v : Int} : ∀ {t : Tm}, occ v t = true → (θ.T v).sz ≤ (θ.tm t).sz
  | .bas k, h => by cases h
  | .var w, h => by
    have : w = v := by simpa [occ] using h
    subst this; exact Nat.le_refl _
  | .fn a r b, h => by
    simp only [occ, Bool.or_eq_true] at h
    simp only [Asg.tm, Tm.sz]
    rcases h with h | h
    · have := occ_le (θ := θ) h; omega
    · have := occ_le (θ := θ) h; omega
theorem bindU_mgu {θ : Asg} {s : Us} {v : Int} {t : Tm} (hv : t ≠ .var v) (he : θ.T v = θ.tm t) : bindU s v t = .error 1003 ∨ ∃ s', bindU s v t = .ok s' := by
  unfold bindU
  have ho : ¬ occ v t = true := by
    intro ho
    cases t with
    | bas k => cases ho
    | var w => have : w = v := by simpa [occ] using ho
               subst this; exact hv rfl
    | fn a r b =>
      simp only [occ, Bool.or_eq_true] at ho
      have h1 := congrArg Tm.sz he
      simp only [Asg.tm, Tm.sz] at h1
      rcases ho with ho | ho
      · have := occ_le (θ := θ) ho; omega
      · have := occ_le (θ := θ) ho; omega
  rw [if_neg ho]
  cases addB (.t v t) s.1 with
  | none => exact .inl rfl
  | some l => exact .inr ⟨_, rfl⟩
theorem leafU_mgu {θ : Asg} {s : Us} {p q : Tm} (hf : (isFn p && isFn q) = false) (he : θ.tm p = θ.tm q) : leafU s p q = .error 1003 ∨ ∃ s', leafU s p q = .ok s' := by
  cases p with
  | var v =>
    cases q with
    | var w =>
      simp only [leafU]
      by_cases hvw : v = w
      · rw [if_pos hvw]; exact .inr ⟨_, rfl⟩
      · rw [if_neg hvw]; exact bindU_mgu (fun e => hvw (by cases e; rfl)) he
    | bas k => exact bindU_mgu (fun e => by cases e) he
    | fn a r b => exact bindU_mgu (fun e => by cases e) he
  | bas k =>
    cases q with
    | var w => exact bindU_mgu (fun e => by cases e) he.symm
    | bas l =>
      simp only [leafU]
      have : k = l := by cases he; rfl
      rw [if_pos this]; exact .inr ⟨_, rfl⟩
    | fn a r b => cases he
  | fn a r b =>
    cases q with
    | var w => exact bindU_mgu (fun e => by cases e) he.symm
    | bas l => cases he
    | fn a' r' b' => cases hf
theorem uniU_mgu : ∀ (n : Nat) {θ : Asg} {s : Us} {a b : Tm} {r : Except Int Us}, Good s → a.ok → b.ok → Lw s.2 a → Lw s.2 b → θ.Ok → Resp θ s.1 → θ.tm a = θ.tm b → uniU n s a b = some r →
    r = .error 1003 ∨ ∃ s' θ', r = .ok s' ∧ θ'.Ok ∧ Resp θ' s'.1 ∧ Agree s.2 θ θ'
  | 0, _, _, _, _, _, _, _, _, _, _, _, _, _, h => by cases h
  | n + 1, θ, s, a, b, r, hG, ha, hb, hla, hlb, hθ, hR, he, h => by
    cases h1 : tys s.1 a with
    | none => rw [uniU_bad (.inl h1)] at h; cases h; exact .inl rfl
    | some p =>
      cases h2 : tys s.1 b with
      | none => rw [uniU_bad (.inr h2)] at h; cases h; exact .inl rfl
      | some q =>
        obtain ⟨hsp, hpz⟩ := tys_sub h1
        obtain ⟨hsq, hqz⟩ := tys_sub h2
        have hpo := sub_ok hG.inv.ok ha hsp
        have hqo := sub_ok hG.inv.ok hb hsq
        obtain ⟨hpl, hpr⟩ := sub_low hG.invR hG.f0 hla hsp
        obtain ⟨hql, hqr⟩ := sub_low hG.invR hG.f0 hlb hsq
        have hpq : θ.tm p = θ.tm q := by rw [tys_resp hG.inv.ok hR ha h1, tys_resp hG.inv.ok hR hb h2, he]
        cases hf : isFn p && isFn q with
        | false =>
          rw [uniU_leaf h1 h2 hf] at h
          have e : leafU s p q = r := by simpa using h
          rcases leafU_mgu (s := s) hf hpq with k | ⟨s', k⟩
          · exact .inl (e.symm.trans k)
          · exact .inr ⟨s', θ, e.symm.trans k, hθ, (leafU_iff hG.inv.ok hpo hqo hpz hqz k).2 ⟨hR, hpq⟩, Agree.refl _ _⟩
        | true =>
          cases p with
          | var v => cases hf
          | bas k => cases hf
          | fn f x g =>
            cases q with
            | var v => cases hf
            | bas k => cases hf
            | fn h' x' i =>
              obtain ⟨lf, lr, lg⟩ := lw_row hpl
              obtain ⟨lh, lr', li⟩ := lw_row hql
              simp only [Asg.tm, Tm.fn.injEq] at hpq
              obtain ⟨q1, q2, q3⟩ := hpq
              rw [uniU_fn h1 h2] at h
              cases hu : uniU n s f h' with
              | none => rw [hu] at h; cases h
              | some y =>
                rw [hu] at h
                rcases uniU_mgu n hG hpo.1 hqo.1 lf lh hθ hR q1 hu with rfl | ⟨s1, θ1, rfl, o1, r1, a1⟩
                · cases h; exact .inl rfl
                · dsimp only at h
                  obtain ⟨G1, m1, _⟩ := uniU_good n hG hpo.1 hqo.1 lf lh hu
                  rcases rowsU_mgu G1 o1 r1 hpo.2.1 hpo.2.2.1 hqo.2.1 hqo.2.2.1 (by omega) (by omega) (by rw [a1.row lr, a1.row lr', q2]) with k | ⟨s2, θ2, k, o2, r2, a2⟩
                  · rw [k] at h; cases h; exact .inl rfl
                  · rw [k] at h
                    dsimp only at h
                    obtain ⟨G2, m2, _⟩ := rowsU_good G1 hpo.2.1 hpo.2.2.1 hqo.2.1 hqo.2.2.1 (by omega) (by omega) k
                    have a12 := a1.trans a2 m1
                    rcases uniU_mgu n G2 hpo.2.2.2 hqo.2.2.2 (lg.mono (by omega)) (li.mono (by omega)) o2 r2 (by rw [a12.tm lg, a12.tm li, q3]) h with k | ⟨s3, θ3, k, o3, r3, a3⟩
                    · exact .inl k
                    · exact .inr ⟨s3, θ3, k, o3, r3, a12.trans a3 (by omega)⟩
end Go.Proofs.Ytlfillhffpiffaa

namespace Go.Proofs.Ytlfillhffpiffaa
set_option linter.unusedSimpArgs false
set_option linter.unusedVariables false
set_option maxRecDepth 8000
open Go Go.Fx Go.Proofs

theorem asg_ok {l : List Bt} (h : ∀ b ∈ l, b.ok) : (asg l).Ok := by
  have key : ∀ v, 0 ≤ v → ((asg l).R v).length = 5 ∧ (∀ i, i < 4 → 0 ≤ ((asg l).R v).getD i 0) ∧ -1 ≤ ((asg l).R v).getD 4 0 := by
    intro v hv
    unfold asg
    dsimp only
    cases hf : findR l v with
    | none =>
      refine ⟨rfl, fun i hi => ?_, by show -1 ≤ v; omega⟩
      match i, hi with
      | 0, _ => exact Int.le_refl _
      | 1, _ => exact Int.le_refl _
      | 2, _ => exact Int.le_refl _
      | 3, _ => exact Int.le_refl _
    | some s =>
      have hs := h _ (findR_some hf)
      exact ⟨hs.1, fun i hi => (rowM_all hs.2 hi hs.1).1, (rowM_t hs.2).1⟩
  exact ⟨fun v hv => (key v hv).1, fun v hv => (key v hv).2.1, fun v hv => (key v hv).2.2⟩
end Go.Proofs.Ytlfillhffpiffaa

namespace Go.Proofs.Ytlfillhffpiffaa
set_option linter.unusedSimpArgs false
set_option linter.unusedVariables false
set_option maxRecDepth 8000
set_option maxHeartbeats 1000000
open Go Go.Fx Go.Proofs
namespace FactsUniAE
theorem ag25 : ag Try.prog 25 = some 1 := by kernel_rfl
theorem ag47 : ag Try.prog 47 = some 9 := by kernel_rfl
theorem es22 : esz Try.prog 22 = some 8 := by kernel_rfl
theorem es23 : esz Try.prog 23 = some 9 := by kernel_rfl
theorem fo25_0 : foff Try.prog 25 0 = some 0 := by kernel_rfl
theorem fo28_1 : foff Try.prog 28 1 = some 4 := by kernel_rfl
theorem fo47_0 : foff Try.prog 47 0 = some 0 := by kernel_rfl
theorem fo47_1 : foff Try.prog 47 1 = some 1 := by kernel_rfl
theorem fo47_4 : foff Try.prog 47 4 = some 4 := by kernel_rfl
theorem fo49_0 : foff Try.prog 49 0 = some 0 := by kernel_rfl
theorem fo49_1 : foff Try.prog 49 1 = some 1 := by kernel_rfl
theorem isl22 : isSl Try.prog 22 = true := by kernel_rfl
theorem isl23 : isSl Try.prog 23 = true := by kernel_rfl
theorem mixed : Try.prog.follows .mixedOrders = true := by kernel_rfl
theorem sc23 : sc Try.prog 23 = true := by kernel_rfl
theorem sc3 : sc Try.prog 3 = true := by kernel_rfl
theorem sc4 : sc Try.prog 4 = true := by kernel_rfl
theorem zc25 : zc Try.prog 25 = some [.slice none 0 0] := by kernel_rfl
theorem zc47 : zc Try.prog 47 = some [.int .i64 0, .int .i64 0, .int .i64 0, .int .i64 0, .int .i64 0, .int .i64 0, .int .i64 0, .int .i64 0, .int .i64 0] := by kernel_rfl
end FactsUniAE
open FactsUniAE

def errC (c : Int) : Prop := c = 1001 ∨ c = 1002 ∨ c = 1003
theorem bindU_err {s : Us} {v : Int} {t : Tm} {c : Int} (e : bindU s v t = .error c) : errC c := by
  unfold bindU at e
  split at e
  · cases e; exact .inr (.inl rfl)
  · cases ha : addB (.t v t) s.1 with
    | none => rw [ha] at e; cases e; exact .inr (.inr rfl)
    | some l => rw [ha] at e; cases e
theorem rowsU_err {s : Us} {a b : List Int} {c : Int} (e : rowsU s a b = .error c) : errC c := by
  unfold rowsU at e
  split at e
  · split at e
    · cases e; exact .inr (.inr rfl)
    · split at e
      · cases e; exact .inl rfl
      · split at e
        · cases e
        · cases e; exact .inr (.inr rfl)
  · cases e; exact .inr (.inr rfl)
theorem leafU_err {s : Us} {p q : Tm} {c : Int} (e : leafU s p q = .error c) : errC c := by
  cases p with
  | var v =>
    cases q with
    | var w =>
      simp only [leafU] at e
      split at e
      · cases e
      · exact bindU_err e
    | bas k => exact bindU_err e
    | fn a r b => exact bindU_err e
  | bas k =>
    cases q with
    | var w => exact bindU_err e
    | bas l =>
      simp only [leafU] at e
      split at e
      · cases e
      · cases e; exact .inl rfl
    | fn a r b => cases e; exact .inl rfl
  | fn a r b =>
    cases q with
    | var w => exact bindU_err e
    | bas l => cases e; exact .inl rfl
    | fn a r b => cases e; exact .inl rfl
theorem uniU_err : ∀ (n : Nat) {s : Us} {a b : Tm} {c : Int}, uniU n s a b = some (.error c) → errC c
  | 0, _, _, _, _, h => by cases h
  | n + 1, s, a, b, c, h => by
    cases h1 : tys s.1 a with
    | none => rw [uniU_bad (.inl h1)] at h; cases h; exact .inr (.inr rfl)
    | some p =>
      cases h2 : tys s.1 b with
      | none => rw [uniU_bad (.inr h2)] at h; cases h; exact .inr (.inr rfl)
      | some q =>
        cases hf : isFn p && isFn q with
        | false => rw [uniU_leaf h1 h2 hf] at h; exact leafU_err (by simpa using h)
        | true =>
          cases p with
          | var v => cases hf
          | bas k => cases hf
          | fn f r g =>
            cases q with
            | var v => cases hf
            | bas k => cases hf
            | fn h' r' i =>
              rw [uniU_fn h1 h2] at h
              cases hu : uniU n s f h' with
              | none => rw [hu] at h; cases h
              | some x =>
                rw [hu] at h
                cases x with
                | error c' => cases h; exact uniU_err n hu
                | ok s1 =>
                  dsimp only at h
                  cases hr : rowsU s1 r r' with
                  | error c' => rw [hr] at h; cases h; exact rowsU_err hr
                  | ok s2 => rw [hr] at h; exact uniU_err n h
theorem unf_err {L M : List (List Int)} {f : Int} {r : Except Int (List Bt)} (h : Unf L M f r) : codU r = 0 ∨ codU r = 1000 ∨ errC (codU r) := by
  cases h with
  | no _ => exact .inr (.inl rfl)
  | @yes t u n x h0 h1 ht htz hL hu huz hM hlt hlu hx =>
    cases x with
    | ok s => exact .inl rfl
    | error c => exact .inr (.inr (uniU_err n hx))
theorem unf_ok {L M : List (List Int)} {f : Int} {r : Except Int (List Bt)} (h : Unf L M f r) (hc : codU r = 0) : ∃ Ts, r = .ok Ts := by
  cases h with
  | no _ => cases hc
  | @yes t u n x h0 h1 ht htz hL hu huz hM hlt hlu hx =>
    cases x with
    | ok s => exact ⟨_, rfl⟩
    | error c => have h2 := uniU_err n hx; change c = 0 at hc; unfold errC at h2; omega
def pRow (v : Int) (x : List Int) : Bool := decide (x.getD 0 0 = 3) && decide (x.getD 8 0 = v)
theorem any_row (v : Int) : ∀ (t : Tm) (k : Int), t.ok → (t.enc k).any (pRow v) = occR v t
  | .bas b, k, _ => by cases b <;> rfl
  | .var w, k, _ => rfl
  | .fn a r b, k, h => by
    obtain ⟨r0, r1, r2, r3, r4, rfl⟩ := row_five h.2.1
    simp only [Tm.enc, List.any_append, any_row v a _ h.1, any_row v b _ h.2.2.2, occR]
    have : pRow v (fNode (k + a.sz - 1) (k + a.sz + b.sz - 1) [r0, r1, r2, r3, r4]) = decide (r4 = v) := rfl
    rw [List.any_cons, this]
    simp only [List.any_nil, Bool.or_false, List.getD_cons_zero, List.getD_cons_succ]
    cases occR v a <;> cases occR v b <;> simp
def pBd (b : Bd) (x : List Int) : Bool := if b.isRow = true then pRow b.var x else pVar b.var x
theorem subT_tys {Bs : List Bd} {Ts : List Bt} {t : Tm} {X : List (List Int)} (h : Bs.map pl = Ts.map Bt.pl) (hok : ∀ b ∈ Ts, b.ok) (hX : subT Bs (t.enc 0) = some X) : ∃ p, tys Ts t = some p ∧ X = p.enc 0 := by
  unfold subT at hX
  split at hX
  · rw [typS_tys h hok t] at hX
    cases hp : tys Ts t with
    | none => rw [hp] at hX; cases hX
    | some p => rw [hp] at hX; exact ⟨p, rfl, (Option.some.inj hX).symm⟩
  · cases hX
theorem unf_solves {L M X Y : List (List Int)} {Ts : List Bt} {Bs : List Bd} (hu : Unf L M 40 (.ok Ts)) (h : Bs.map pl = Ts.map Bt.pl) (hX : subT Bs L = some X) (hY : subT Bs M = some Y) : X = Y ∧ ∀ b ∈ Bs, X.any (pBd b) = false := by
  generalize hr : (Except.ok Ts : Except Int (List Bt)) = r at hu
  cases hu with
  | no _ => cases hr
  | @yes t u n x h0 h1 ht htz hL hu huz hM hlt hlu hx =>
    subst hL hM
    cases x with
    | error c => cases hr
    | ok s =>
      cases hr
      obtain ⟨G, _, _⟩ := uniU_good n (good_nil h0 (by decide)) ht hu hlt hlu hx
      obtain ⟨p, hp, rfl⟩ := subT_tys h G.inv.ok hX
      obtain ⟨q, hq, rfl⟩ := subT_tys h G.inv.ok hY
      obtain ⟨rfl, h2, h3⟩ := uniU_one h0 (by decide) ht hu hlt hlu hx hp hq
      refine ⟨rfl, fun b hb => ?_⟩
      have hpo := sub_ok G.inv.ok ht (tys_sub hp).1
      obtain ⟨i, hi, rfl⟩ := List.mem_iff_getElem.1 hb
      have hj : i < s.1.length := by have h5 := congrArg List.length h; rw [List.length_map, List.length_map] at h5; omega
      have hpi := pl_at h hi hj
      have hm := List.getElem_mem hj
      generalize s.1[i] = c at hpi hm
      cases c with
      | t v w =>
        have e1 : Bs[i].isRow = false := congrArg (fun p => p.2.1) hpi
        have e2 : Bs[i].var = v := congrArg (fun p => p.1) hpi
        have : pBd Bs[i] = pVar v := by funext x; unfold pBd; rw [e1, e2]; rfl
        rw [this, any_var]
        exact h2 v (mem_domT hm)
      | r v w =>
        have e1 : Bs[i].isRow = true := congrArg (fun p => p.2.1) hpi
        have e2 : Bs[i].var = v := congrArg (fun p => p.1) hpi
        have : pBd Bs[i] = pRow v := by funext x; unfold pBd; rw [e1, e2]; rfl
        rw [this, any_row v p 0 hpo]
        exact h3 v (mem_domR hm)
theorem unifySolves_law {A B : Option Addr} {ca cb : Nat} {L M : List (List Int)} (hL : Nine L) (hM : Nine M) {H : Heap} (hS : SlT H Is 9 (.slice A L.length ca) L) (hT : SlT H Is 9 (.slice B M.length cb) M) (hl : L.length * 72 ≤ 140737488351232) (hm : M.length * 72 ≤ 140737488351232) :
    Ret Try.prog 15 [Ty A L.length ca, Ty B M.length cb] H (fun v H' => v = .bool true ∧ Ext H H') := by
  obtain ⟨r, hr⟩ := unf_ex 40 hL hM
  refine Ret.of_at (N := 122) Try.call15 Try.func15 rfl rfl rfl ?_
  have hE := Ext.refl H
  refine At.region rfl rfl ?_
  refine Reg.op rfl rfl rfl rfl (Does.box rfl rfl) ?_
  rintro _ H0_0 ⟨rfl, hn0_0⟩
  have z0_0 := hn0_0.size
  replace hE := hE.ext hn0_0.ext
  have o0_0 := hn0_0.own
  refine Reg.op rfl rfl rfl rfl (Does.box rfl rfl) ?_
  rintro _ H0_1 ⟨rfl, hn0_1⟩
  have z0_1 := hn0_1.size
  replace hE := hE.ext hn0_1.ext
  replace o0_0 := o0_0.ext hn0_1.ext
  have o0_1 := hn0_1.own
  refine Reg.pur rfl rfl rfl rfl (Pur.asg rfl) ?_
  refine Reg.nil ?_
  refine At.region rfl rfl ?_
  refine Reg.op rfl rfl rfl rfl (Does.call rfl (awake10_ok _)) ?_
  rintro _ H1_0 ⟨rfl, hE1_0⟩
  have z1_0 := hE1_0.lt
  replace hE := hE.ext hE1_0
  replace o0_0 := o0_0.ext hE1_0
  replace o0_1 := o0_1.ext hE1_0
  refine Reg.pur rfl rfl rfl rfl (Pur.not rfl) ?_
  refine Reg.nil ?_
  refine At.condF rfl rfl rfl ?_
  refine At.region rfl rfl ?_
  refine Reg.lod rfl rfl rfl rfl (Lod.ldn ag25 rfl o0_0.blk (whole rfl) rfl) ?_
  refine Reg.lod rfl rfl rfl rfl (Lod.ldn ag25 rfl o0_1.blk (whole rfl) rfl) ?_
  refine Reg.op rfl rfl rfl rfl (Does.call rfl (unify_ok hL hM (hS.ext hE) (hT.ext hE) (by omega) (by omega) hr)) ?_
  rintro v3_2 H3_2 ⟨hU, hE3_2⟩
  have z3_2 := hE3_2.lt
  replace hE := hE.ext hE3_2
  replace o0_0 := o0_0.ext hE3_2
  replace o0_1 := o0_1.ext hE3_2
  obtain ⟨A2, k2, Bs, sb2, rfl, hSl⟩ := hU.un
  have hE3 := Ext.refl H3_2
  have z_hE3 := hE3.lt
  refine Reg.pur rfl rfl rfl rfl (Pur.mv rfl) ?_
  refine Reg.pur rfl rfl rfl rfl (Pur.ext rfl rfl) ?_
  refine Reg.pur rfl rfl rfl rfl (Pur.ext rfl rfl) ?_
  refine Reg.pur rfl rfl rfl rfl (Pur.asg rfl) ?_
  refine Reg.pur rfl rfl rfl rfl (Pur.asg rfl) ?_
  refine Reg.nil ?_
  refine At.region rfl rfl ?_
  refine Reg.pur rfl rfl rfl rfl (Pur.mv rfl) ?_
  refine Reg.op rfl rfl rfl rfl (Does.call rfl (numE_ok _ _)) ?_
  rintro _ H3_2 ⟨rfl, rfl⟩
  refine Reg.pur rfl rfl rfl rfl (Pur.neq rfl rfl) ?_
  refine Reg.nil ?_
  refine At.cond rfl rfl (fun q24 => ?_) (fun q24 => ?_)
  · first | (simp only [decide_eq_true_eq, decide_eq_false_iff_not, Bool.not_eq_true', Bool.not_eq_false', ne_eq, Decidable.not_not, Bool.not_eq_true, Bool.not_eq_false] at q24) | (dsimp only at q24) | skip
    obtain ⟨c, rfl⟩ : ∃ c, r = .error c := by { cases r with | ok Ts => exact absurd rfl q24 | error c => exact ⟨c, rfl⟩ }
    obtain rfl : Bs = [] := by simpa [bndU] using hSl.pl
    refine At.region rfl rfl ?_
    refine Reg.pur rfl rfl rfl rfl (Pur.mv rfl) ?_
    refine Reg.pur rfl rfl rfl rfl (Pur.lenS isl22 rfl) ?_
    refine Reg.pur rfl rfl rfl rfl (Pur.eql rfl rfl) ?_
    refine Reg.pur rfl rfl rfl rfl (Pur.asg rfl) ?_
    refine Reg.nil ?_
    refine At.ret rfl Try.func15 rfl ?_
    exact ⟨rfl, hE⟩
  first | (simp only [decide_eq_true_eq, decide_eq_false_iff_not, Bool.not_eq_true', Bool.not_eq_false', ne_eq, Decidable.not_not, Bool.not_eq_true, Bool.not_eq_false] at q24) | (dsimp only at q24) | skip
  obtain ⟨Ts, rfl⟩ := unf_ok hr q24
  refine At.region rfl rfl ?_
  refine Reg.pur rfl rfl rfl rfl (Pur.mv rfl) ?_
  refine Reg.lod rfl rfl rfl rfl (Lod.ldn ag25 rfl o0_0.blk (whole rfl) rfl) ?_
  refine Reg.op rfl rfl rfl rfl (Does.call rfl (type_ok (hSl.ext hE3).bds (hS.ext hE) hL hl)) ?_
  rintro v6_2 H6_2 ⟨hE6_2, hT6_2⟩
  have z6_2 := hE6_2.lt
  replace hE := hE.ext hE6_2
  replace o0_0 := o0_0.ext hE6_2
  replace o0_1 := o0_1.ext hE6_2
  replace hE3 := hE3.ext hE6_2
  generalize hX : subT Bs L = X at hT6_2
  obtain ⟨A7, k7, rfl, hg7, hN7, hl7⟩ := hT6_2
  have hgl7 := hg7.lt
  have hs7 := own_sl (wide9 hN7) (by decide) hg7
  have z_hs7 := hs7.lt
  refine Reg.pur rfl rfl rfl rfl (Pur.mv rfl) ?_
  refine Reg.pur rfl rfl rfl rfl (Pur.ext rfl rfl) ?_
  refine Reg.pur rfl rfl rfl rfl (Pur.ext rfl rfl) ?_
  refine Reg.op rfl rfl rfl rfl (Does.alloc zc25) ?_
  rintro _ H6_6 ⟨rfl, hn6_6⟩
  have z6_6 := hn6_6.size
  replace hE := hE.ext hn6_6.ext
  replace o0_0 := o0_0.ext hn6_6.ext
  replace o0_1 := o0_1.ext hn6_6.ext
  replace hE3 := hE3.ext hn6_6.ext
  replace hs7 := hs7.ext hn6_6.ext
  have o6_6 := hn6_6.own
  refine Reg.op0 rfl rfl rfl (Does.stn ag25 rfl rfl (by first | rfl | exact ones_Is _) (by first | rfl | (simp [*]; done)) o6_6 (by first | decide | (simp; done) | (simp; omega) | omega)) ?_
  rintro _ H6_7 hu6_7
  have z6_7 := hu6_7.size
  replace hE := hE.upw hu6_7 (by omega)
  replace o0_0 := o0_0.upw hu6_7 (by omega)
  replace o0_1 := o0_1.upw hu6_7 (by omega)
  replace hE3 := hE3.upw hu6_7 (by omega)
  replace hs7 := hs7.upw hu6_7 (by omega)
  replace o6_6 := hu6_7.own
  first | rw [over (by first | rfl | (simp; done))] at o6_6 | skip
  refine Reg.pur rfl rfl rfl rfl (Pur.asg rfl) ?_
  refine Reg.nil ?_
  refine At.region rfl rfl ?_
  refine Reg.pur rfl rfl rfl rfl (Pur.mv rfl) ?_
  refine Reg.lod rfl rfl rfl rfl (Lod.ldn ag25 rfl o0_1.blk (whole rfl) rfl) ?_
  refine Reg.op rfl rfl rfl rfl (Does.call rfl (type_ok (hSl.ext hE3).bds (hT.ext hE) hM hm)) ?_
  rintro v7_2 H7_2 ⟨hE7_2, hT7_2⟩
  have z7_2 := hE7_2.lt
  replace hE := hE.ext hE7_2
  replace o0_0 := o0_0.ext hE7_2
  replace o0_1 := o0_1.ext hE7_2
  replace hE3 := hE3.ext hE7_2
  replace hs7 := hs7.ext hE7_2
  replace o6_6 := o6_6.ext hE7_2
  generalize hY : subT Bs M = Y at hT7_2
  obtain ⟨A9, k9, rfl, hg9, hN9, hl9⟩ := hT7_2
  have hgl9 := hg9.lt
  have hs9 := own_sl (wide9 hN9) (by decide) hg9
  have z_hs9 := hs9.lt
  refine Reg.pur rfl rfl rfl rfl (Pur.mv rfl) ?_
  refine Reg.pur rfl rfl rfl rfl (Pur.ext rfl rfl) ?_
  refine Reg.pur rfl rfl rfl rfl (Pur.ext rfl rfl) ?_
  refine Reg.op rfl rfl rfl rfl (Does.alloc zc25) ?_
  rintro _ H7_6 ⟨rfl, hn7_6⟩
  have z7_6 := hn7_6.size
  replace hE := hE.ext hn7_6.ext
  replace o0_0 := o0_0.ext hn7_6.ext
  replace o0_1 := o0_1.ext hn7_6.ext
  replace hE3 := hE3.ext hn7_6.ext
  replace hs7 := hs7.ext hn7_6.ext
  replace o6_6 := o6_6.ext hn7_6.ext
  replace hs9 := hs9.ext hn7_6.ext
  have o7_6 := hn7_6.own
  refine Reg.op0 rfl rfl rfl (Does.stn ag25 rfl rfl (by first | rfl | exact ones_Is _) (by first | rfl | (simp [*]; done)) o7_6 (by first | decide | (simp; done) | (simp; omega) | omega)) ?_
  rintro _ H7_7 hu7_7
  have z7_7 := hu7_7.size
  replace hE := hE.upw hu7_7 (by omega)
  replace o0_0 := o0_0.upw hu7_7 (by omega)
  replace o0_1 := o0_1.upw hu7_7 (by omega)
  replace hE3 := hE3.upw hu7_7 (by omega)
  replace hs7 := hs7.upw hu7_7 (by omega)
  replace o6_6 := o6_6.upw hu7_7 (by omega)
  replace hs9 := hs9.upw hu7_7 (by omega)
  replace o7_6 := hu7_7.own
  first | rw [over (by first | rfl | (simp; done))] at o7_6 | skip
  refine Reg.pur rfl rfl rfl rfl (Pur.asg rfl) ?_
  refine Reg.nil ?_
  refine At.region rfl rfl ?_
  refine Reg.pur rfl rfl rfl rfl (Pur.mv rfl) ?_
  refine Reg.op rfl rfl rfl rfl (Does.call rfl (numE_ok _ _)) ?_
  rintro _ H7_7 ⟨rfl, rfl⟩
  refine Reg.pur rfl rfl rfl rfl (Pur.neq rfl rfl) ?_
  refine Reg.pur rfl rfl rfl rfl (Pur.mv rfl) ?_
  refine Reg.case 43 rfl (fun q43 => ?_) (fun q43 => ?_)
  · first | (simp only [decide_eq_true_eq, decide_eq_false_iff_not, Bool.not_eq_true', Bool.not_eq_false', ne_eq, Decidable.not_not, Bool.not_eq_true, Bool.not_eq_false] at q43) | (dsimp only at q43) | skip
    refine Reg.skip rfl rfl rfl rfl rfl rfl rfl ?_
    refine Reg.skip rfl rfl rfl rfl rfl rfl rfl ?_
    refine Reg.skip rfl rfl rfl rfl rfl rfl rfl ?_
    refine Reg.pur rfl rfl rfl rfl (Pur.pickT rfl rfl) ?_
    refine Reg.nil ?_
    refine At.condT rfl rfl rfl ?_
    refine At.region rfl rfl ?_
    refine Reg.pur rfl rfl rfl rfl (Pur.mv rfl) ?_
    refine Reg.op rfl rfl rfl rfl (Does.call rfl (numE_ok _ _)) ?_
    rintro _ H7_7 ⟨rfl, rfl⟩
    refine Reg.pur rfl rfl rfl rfl (Pur.eql rfl rfl) ?_
    refine Reg.pur rfl rfl rfl rfl (Pur.mv rfl) ?_
    refine Reg.case 51 rfl (fun q51 => ?_) (fun q51 => ?_)
    · first | (simp only [decide_eq_true_eq, decide_eq_false_iff_not, Bool.not_eq_true', Bool.not_eq_false', ne_eq, Decidable.not_not, Bool.not_eq_true, Bool.not_eq_false] at q51) | (dsimp only at q51) | skip
      refine Reg.skip rfl rfl rfl rfl rfl rfl rfl ?_
      refine Reg.skip rfl rfl rfl rfl rfl rfl rfl ?_
      refine Reg.skip rfl rfl rfl rfl rfl rfl rfl ?_
      refine Reg.pur rfl rfl rfl rfl (Pur.pickT rfl rfl) ?_
      refine Reg.pur rfl rfl rfl rfl (Pur.asg rfl) ?_
      refine Reg.nil ?_
      refine At.ret rfl Try.func15 rfl ?_
      refine ⟨?_, hE⟩
      cases X <;> cases Y <;> simp_all [ce]
    first | (simp only [decide_eq_true_eq, decide_eq_false_iff_not, Bool.not_eq_true', Bool.not_eq_false', ne_eq, Decidable.not_not, Bool.not_eq_true, Bool.not_eq_false] at q51) | (dsimp only at q51) | skip
    refine Reg.gpur rfl rfl rfl rfl rfl rfl (Pur.mv rfl) ?_
    refine Reg.gop rfl rfl rfl rfl rfl rfl (Does.call rfl (numE_ok _ _)) ?_
    rintro _ H7_7 ⟨rfl, rfl⟩
    refine Reg.gpur rfl rfl rfl rfl rfl rfl (Pur.eql rfl rfl) ?_
    refine Reg.pur rfl rfl rfl rfl (Pur.pickF rfl rfl) ?_
    refine Reg.pur rfl rfl rfl rfl (Pur.asg rfl) ?_
    refine Reg.nil ?_
    refine At.ret rfl Try.func15 rfl ?_
    refine ⟨?_, hE⟩
    cases X <;> cases Y <;> simp_all [ce]
  first | (simp only [decide_eq_true_eq, decide_eq_false_iff_not, Bool.not_eq_true', Bool.not_eq_false', ne_eq, Decidable.not_not, Bool.not_eq_true, Bool.not_eq_false] at q43) | (dsimp only at q43) | skip
  refine Reg.gpur rfl rfl rfl rfl rfl rfl (Pur.mv rfl) ?_
  refine Reg.gop rfl rfl rfl rfl rfl rfl (Does.call rfl (numE_ok _ _)) ?_
  rintro _ H7_7 ⟨rfl, rfl⟩
  refine Reg.gpur rfl rfl rfl rfl rfl rfl (Pur.neq rfl rfl) ?_
  refine Reg.pur rfl rfl rfl rfl (Pur.pickF rfl rfl) ?_
  refine Reg.nil ?_
  refine At.cond rfl rfl (fun q47 => ?_) (fun q47 => ?_)
  · first | (simp only [decide_eq_true_eq, decide_eq_false_iff_not, Bool.not_eq_true', Bool.not_eq_false', ne_eq, Decidable.not_not, Bool.not_eq_true, Bool.not_eq_false] at q47) | (dsimp only at q47) | skip
    refine At.region rfl rfl ?_
    refine Reg.pur rfl rfl rfl rfl (Pur.mv rfl) ?_
    refine Reg.op rfl rfl rfl rfl (Does.call rfl (numE_ok _ _)) ?_
    rintro _ H7_7 ⟨rfl, rfl⟩
    refine Reg.pur rfl rfl rfl rfl (Pur.eql rfl rfl) ?_
    refine Reg.pur rfl rfl rfl rfl (Pur.mv rfl) ?_
    refine Reg.case 51 rfl (fun q51 => ?_) (fun q51 => ?_)
    · first | (simp only [decide_eq_true_eq, decide_eq_false_iff_not, Bool.not_eq_true', Bool.not_eq_false', ne_eq, Decidable.not_not, Bool.not_eq_true, Bool.not_eq_false] at q51) | (dsimp only at q51) | skip
      refine Reg.skip rfl rfl rfl rfl rfl rfl rfl ?_
      refine Reg.skip rfl rfl rfl rfl rfl rfl rfl ?_
      refine Reg.skip rfl rfl rfl rfl rfl rfl rfl ?_
      refine Reg.pur rfl rfl rfl rfl (Pur.pickT rfl rfl) ?_
      refine Reg.pur rfl rfl rfl rfl (Pur.asg rfl) ?_
      refine Reg.nil ?_
      refine At.ret rfl Try.func15 rfl ?_
      refine ⟨?_, hE⟩
      cases X <;> cases Y <;> simp_all [ce]
    first | (simp only [decide_eq_true_eq, decide_eq_false_iff_not, Bool.not_eq_true', Bool.not_eq_false', ne_eq, Decidable.not_not, Bool.not_eq_true, Bool.not_eq_false] at q51) | (dsimp only at q51) | skip
    refine Reg.gpur rfl rfl rfl rfl rfl rfl (Pur.mv rfl) ?_
    refine Reg.gop rfl rfl rfl rfl rfl rfl (Does.call rfl (numE_ok _ _)) ?_
    rintro _ H7_7 ⟨rfl, rfl⟩
    refine Reg.gpur rfl rfl rfl rfl rfl rfl (Pur.eql rfl rfl) ?_
    refine Reg.pur rfl rfl rfl rfl (Pur.pickF rfl rfl) ?_
    refine Reg.pur rfl rfl rfl rfl (Pur.asg rfl) ?_
    refine Reg.nil ?_
    refine At.ret rfl Try.func15 rfl ?_
    refine ⟨?_, hE⟩
    cases X <;> cases Y <;> simp_all [ce]
  first | (simp only [decide_eq_true_eq, decide_eq_false_iff_not, Bool.not_eq_true', Bool.not_eq_false', ne_eq, Decidable.not_not, Bool.not_eq_true, Bool.not_eq_false] at q47) | (dsimp only at q47) | skip
  obtain ⟨X1, rfl⟩ : ∃ X1, X = some X1 := by { cases X with | none => cases q43 | some X1 => exact ⟨X1, rfl⟩ }
  obtain ⟨Y1, rfl⟩ : ∃ Y1, Y = some Y1 := by { cases Y with | none => cases q47 | some Y1 => exact ⟨Y1, rfl⟩ }
  obtain ⟨rfl, hno⟩ := unf_solves hr hSl.pl hX hY
  refine At.region rfl rfl ?_
  refine Reg.lod rfl rfl rfl rfl (Lod.ldn ag25 rfl o6_6.blk (whole rfl) rfl) ?_
  refine Reg.lod rfl rfl rfl rfl (Lod.ldn ag25 rfl o7_6.blk (whole rfl) rfl) ?_
  refine Reg.op rfl rfl rfl rfl (Does.call rfl (sameType_ok hN7 hN9 hs7 hs9 (by omega))) ?_
  rintro _ H10_2 ⟨rfl, hE10_2⟩
  have z10_2 := hE10_2.lt
  replace hE := hE.ext hE10_2
  replace o0_0 := o0_0.ext hE10_2
  replace o0_1 := o0_1.ext hE10_2
  replace hE3 := hE3.ext hE10_2
  replace hs7 := hs7.ext hE10_2
  replace o6_6 := o6_6.ext hE10_2
  replace hs9 := hs9.ext hE10_2
  replace o7_6 := o7_6.ext hE10_2
  refine Reg.pur rfl rfl rfl rfl (Pur.not rfl) ?_
  refine Reg.nil ?_
  refine At.condF rfl rfl (by simp) ?_
  generalize hH12 : H10_2 = H12 at *
  have hSlF := hSl.ext hE3
  have hBl := hSl.len
  have hob0 := hSlF.lt
  refine At.region rfl rfl ?_
  refine Reg.pur rfl rfl rfl rfl (Pur.asg rfl) ?_
  refine Reg.nil ?_
  refine At.loop (σ := Nat) (fun i => [(11, I i), (5, .slice A2 Bs.length k2), (7, ptr H6_2.size 0)]) (fun i H' => i ≤ Bs.length ∧ Ext H12 H') (fun i => Bs.length - i) 0 rfl ⟨rfl, rfl, rfl, trivial⟩ ⟨by omega, Ext.refl _⟩ ?_
  rintro i H3 ⟨hi, hEi⟩ ih
  have hzi := hEi.1
  have z_hEi := hEi.lt
  refine At.region rfl rfl ?_
  refine Reg.pur rfl rfl rfl rfl (Pur.mv rfl) ?_
  refine Reg.pur rfl rfl rfl rfl (Pur.mv rfl) ?_
  refine Reg.pur rfl rfl rfl rfl (Pur.lenS isl22 rfl) ?_
  refine Reg.pur rfl rfl rfl rfl (Pur.lss rfl rfl) ?_
  refine Reg.nil ?_
  refine At.cond rfl rfl (fun q63 => ?_) (fun q63 => ?_)
  · first | (simp only [decide_eq_true_eq, decide_eq_false_iff_not, Bool.not_eq_true', Bool.not_eq_false', ne_eq, Decidable.not_not, Bool.not_eq_true, Bool.not_eq_false] at q63) | (dsimp only at q63) | skip
    refine At.region rfl rfl ?_
    refine Reg.pur rfl rfl rfl rfl (Pur.asg rfl) ?_
    refine Reg.nil ?_
    refine At.loop (σ := Nat) (fun j => [(12, I j), (11, I i), (5, .slice A2 Bs.length k2), (7, ptr H6_2.size 0)]) (fun j H' => j ≤ (Option.getD (some X1) []).length ∧ Ext H12 H') (fun j => (Option.getD (some X1) []).length - j) 0 rfl ⟨rfl, rfl, rfl, rfl, trivial⟩ ⟨by omega, hEi⟩ ?_
    clear hEi
    rintro j H4 ⟨hj, hEj⟩ ihj
    have z_hEj := hEj.lt
    refine At.region rfl rfl ?_
    refine Reg.pur rfl rfl rfl rfl (Pur.mv rfl) ?_
    refine Reg.pur rfl rfl rfl rfl (Pur.fld _ fo25_0 rfl) ?_
    refine Reg.lod rfl rfl rfl rfl (Lod.ld sc23 rfl (o6_6.blk.ext hEj) rfl) ?_
    refine Reg.pur rfl rfl rfl rfl (Pur.lenS isl23 rfl) ?_
    refine Reg.pur rfl rfl rfl rfl (Pur.lss rfl rfl) ?_
    refine Reg.nil ?_
    refine At.cond rfl rfl (fun q70 => ?_) (fun q70 => ?_)
    · first | (simp only [decide_eq_true_eq, decide_eq_false_iff_not, Bool.not_eq_true', Bool.not_eq_false', ne_eq, Decidable.not_not, Bool.not_eq_true, Bool.not_eq_false] at q70) | (dsimp only at q70) | skip
      have hlt : j < X1.length := by { change (j : Int) < (X1.length : Nat) at q70; omega }
      have hib : i < Bs.length := by omega
      have hN7' : Nine X1 := hN7
      have hs7' : SlT H12 Is 9 (.slice A7 X1.length k7) X1 := hs7
      obtain ⟨b1, o1, c1, rfl, hB1, hd1, h91⟩ := sl_at (wide9 hN7') (hs7'.ext hEj) hlt
      have h9n := hN7' _ (List.getElem_mem hlt)
      obtain ⟨g, c, rfl, hTg, hc, _⟩ := hSlF.blk (by omega)
      have hdi := row_rd hSlF.wide hib hc
      have hgB := hTg.blk.ext hEj
      have hf := List.any_eq_false.1 (hno _ (List.getElem_mem hib)) _ (List.getElem_mem hlt)
      have z_hgB := hgB.lt
      refine At.region rfl rfl ?_
      refine Reg.pur rfl rfl rfl rfl (Pur.fld _ fo25_0 rfl) ?_
      refine Reg.lod rfl rfl rfl rfl (Lod.ld sc23 rfl (o6_6.blk.ext hEj) rfl) ?_
      refine Reg.pur rfl rfl rfl rfl (Pur.mv rfl) ?_
      refine Reg.pur rfl rfl rfl rfl (Pur.idx _ es23 rfl rfl (by omega) (by omega)) ?_
      refine Reg.lod rfl rfl rfl rfl (Lod.ldn ag47 rfl hB1 hd1 h91) ?_
      refine Reg.op rfl rfl rfl rfl (Does.alloc zc47) ?_
      rintro _ H18_5 ⟨rfl, hn18_5⟩
      have z18_5 := hn18_5.size
      replace hEj := hEj.ext hn18_5.ext
      replace hgB := hgB.ext hn18_5.ext
      have o18_5 := hn18_5.own
      refine Reg.op0 rfl rfl rfl (Does.stn ag47 rfl rfl (ones_Is _) h91 o18_5 (Nat.le_refl _)) ?_
      rintro _ H18_6 hu18_6
      have z18_6 := hu18_6.size
      replace hEj := hEj.upw hu18_6 (by omega)
      replace hgB := hgB.upw hu18_6 (by omega)
      replace o18_5 := hu18_6.own
      first | rw [over (by first | rfl | (simp; done))] at o18_5 | skip
      replace o18_5 := o18_5.of (c' := Is X1[j]) (by simp)
      refine Reg.nil ?_
      refine At.drawE ((Bks.cons hgB.blk (Bks.cons o18_5.blk Bks.nil))) [] mixed rfl rfl ?_
      refine RegD.tpur (i := 0) rfl rfl rfl rfl (by kernel_rfl) (Pur.mv rfl) ?_
      refine RegD.tpur (i := 1) rfl rfl rfl rfl (by kernel_rfl) (Pur.mv rfl) ?_
      refine RegD.tpur (i := 2) rfl rfl rfl rfl (by kernel_rfl) (Pur.idx _ es22 rfl rfl (by omega) (by omega)) ?_
      refine RegD.tpur (i := 3) rfl rfl rfl rfl (by kernel_rfl) (Pur.fld _ fo49_1 rfl) ?_
      refine RegD.take (i := 4) rfl rfl rfl rfl (by kernel_rfl) (Bks.cons hgB.blk (Bks.cons o18_5.blk Bks.nil)) (fun H hS => Lod.ld sc4 rfl hS.hd (by rw [Int.toNat_natCast, Nat.zero_add]; exact at_tk hdi (j := 1) (by decide) rfl)) ?_
      refine RegD.tpur (i := 5) rfl rfl rfl rfl (by kernel_rfl) (Pur.not rfl) ?_
      refine RegD.tpur (i := 6) rfl rfl rfl rfl (by kernel_rfl) (Pur.mv rfl) ?_
      refine RegD.case 84 rfl (fun q84 => ?_) (fun q84 => ?_)
      · first | (simp only [decide_eq_true_eq, decide_eq_false_iff_not, Bool.not_eq_true', Bool.not_eq_false', ne_eq, Decidable.not_not, Bool.not_eq_true, Bool.not_eq_false] at q84) | (dsimp only at q84) | skip
        refine RegD.gtpur (i := 7) rfl rfl rfl rfl rfl rfl (by kernel_rfl) (Pur.fld _ fo47_0 rfl) ?_
        refine RegD.gtake (i := 8) rfl rfl rfl rfl rfl rfl (by kernel_rfl) (Bks.cons hgB.blk (Bks.cons o18_5.blk Bks.nil)) (fun H hS => Lod.ld sc3 rfl hS.tl.hd (show _ = some (I (X1[j].getD 0 0)) from at_Is (by rw [h9n]; decide))) ?_
        refine RegD.gtpur (i := 9) rfl rfl rfl rfl rfl rfl (by kernel_rfl) (Pur.eql rfl rfl) ?_
        refine RegD.tpur (i := 10) rfl rfl rfl rfl (by kernel_rfl) (Pur.pickT rfl rfl) ?_
        refine RegD.tpur (i := 11) rfl rfl rfl rfl (by kernel_rfl) (Pur.mv rfl) ?_
        refine RegD.case 89 rfl (fun q89 => ?_) (fun q89 => ?_)
        · first | (simp only [decide_eq_true_eq, decide_eq_false_iff_not, Bool.not_eq_true', Bool.not_eq_false', ne_eq, Decidable.not_not, Bool.not_eq_true, Bool.not_eq_false] at q89) | (dsimp only at q89) | skip
          refine RegD.gtpur (i := 12) rfl rfl rfl rfl rfl rfl (by kernel_rfl) (Pur.fld _ fo47_1 rfl) ?_
          refine RegD.gtake (i := 13) rfl rfl rfl rfl rfl rfl (by kernel_rfl) (Bks.cons hgB.blk (Bks.cons o18_5.blk Bks.nil)) (fun H hS => Lod.ld sc3 rfl hS.tl.hd (show _ = some (I (X1[j].getD 1 0)) from at_Is (by rw [h9n]; decide))) ?_
          refine RegD.gtpur (i := 14) rfl rfl rfl rfl rfl rfl (by kernel_rfl) (Pur.mv rfl) ?_
          refine RegD.gtpur (i := 15) rfl rfl rfl rfl rfl rfl (by kernel_rfl) (Pur.mv rfl) ?_
          refine RegD.gtpur (i := 16) rfl rfl rfl rfl rfl rfl (by kernel_rfl) (Pur.idx _ es22 rfl rfl (by omega) (by omega)) ?_
          refine RegD.gtpur (i := 17) rfl rfl rfl rfl rfl rfl (by kernel_rfl) (Pur.fld _ fo49_0 rfl) ?_
          refine RegD.gtake (i := 18) rfl rfl rfl rfl rfl rfl (by kernel_rfl) (Bks.cons hgB.blk (Bks.cons o18_5.blk Bks.nil)) (fun H hS => Lod.ld sc3 rfl hS.hd (by rw [Int.toNat_natCast, Nat.zero_add]; exact at_tk hdi (j := 0) (by decide) rfl)) ?_
          refine RegD.gtpur (i := 19) rfl rfl rfl rfl rfl rfl (by kernel_rfl) (Pur.eql rfl rfl) ?_
          refine RegD.tpur (i := 20) rfl rfl rfl rfl (by kernel_rfl) (Pur.pickT rfl rfl) ?_
          refine RegD.tpur (i := 21) rfl rfl rfl rfl (by kernel_rfl) (Pur.mv rfl) ?_
          refine RegD.case 99 rfl (fun q99 => ?_) (fun q99 => ?_)
          · first | (simp only [decide_eq_true_eq, decide_eq_false_iff_not, Bool.not_eq_true', Bool.not_eq_false', ne_eq, Decidable.not_not, Bool.not_eq_true, Bool.not_eq_false] at q99) | (dsimp only at q99) | skip
            refine RegD.skip (i := 22) rfl rfl rfl rfl rfl rfl rfl (by kernel_rfl) ?_
            refine RegD.skip (i := 23) rfl rfl rfl rfl rfl rfl rfl (by kernel_rfl) ?_
            refine RegD.skip (i := 24) rfl rfl rfl rfl rfl rfl rfl (by kernel_rfl) ?_
            refine RegD.skip (i := 25) rfl rfl rfl rfl rfl rfl rfl (by kernel_rfl) ?_
            refine RegD.skip (i := 26) rfl rfl rfl rfl rfl rfl rfl (by kernel_rfl) ?_
            refine RegD.skip (i := 27) rfl rfl rfl rfl rfl rfl rfl (by kernel_rfl) ?_
            refine RegD.skipU (i := 28) rfl rfl rfl rfl rfl rfl (by kernel_rfl) ?_
            refine RegD.skipU (i := 29) rfl rfl rfl rfl rfl rfl (by kernel_rfl) ?_
            refine RegD.skipU (i := 30) rfl rfl rfl rfl rfl rfl (by kernel_rfl) ?_
            refine RegD.skip (i := 31) rfl rfl rfl rfl rfl rfl rfl (by kernel_rfl) ?_
            refine RegD.skip (i := 32) rfl rfl rfl rfl rfl rfl rfl (by kernel_rfl) ?_
            refine RegD.skipU (i := 33) rfl rfl rfl rfl rfl rfl (by kernel_rfl) ?_
            refine RegD.skipU (i := 34) rfl rfl rfl rfl rfl rfl (by kernel_rfl) ?_
            refine RegD.skipU (i := 35) rfl rfl rfl rfl rfl rfl (by kernel_rfl) ?_
            refine RegD.skipU (i := 36) rfl rfl rfl rfl rfl rfl (by kernel_rfl) ?_
            refine RegD.skipU (i := 37) rfl rfl rfl rfl rfl rfl (by kernel_rfl) ?_
            refine RegD.skipU (i := 38) rfl rfl rfl rfl rfl rfl (by kernel_rfl) ?_
            refine RegD.skipU (i := 39) rfl rfl rfl rfl rfl rfl (by kernel_rfl) ?_
            refine RegD.skipU (i := 40) rfl rfl rfl rfl rfl rfl (by kernel_rfl) ?_
            refine RegD.skipU (i := 41) rfl rfl rfl rfl rfl rfl (by kernel_rfl) ?_
            refine RegD.skip (i := 42) rfl rfl rfl rfl rfl rfl rfl (by kernel_rfl) ?_
            refine RegD.tpur (i := 43) rfl rfl rfl rfl (by kernel_rfl) (Pur.pickT rfl rfl) ?_
            refine RegD.done (by kernel_rfl) ?_
            refine At.condT rfl rfl rfl ?_
            refine At.region rfl rfl ?_
            refine Reg.pur rfl rfl rfl rfl (Pur.asg rfl) ?_
            refine Reg.nil ?_
            refine At.ret rfl Try.func15 rfl ?_
            exact absurd (by unfold pBd pVar pRow; simp_all) hf
          first | (simp only [decide_eq_true_eq, decide_eq_false_iff_not, Bool.not_eq_true', Bool.not_eq_false', ne_eq, Decidable.not_not, Bool.not_eq_true, Bool.not_eq_false] at q99) | (dsimp only at q99) | skip
          refine RegD.gtpur (i := 22) rfl rfl rfl rfl rfl rfl (by kernel_rfl) (Pur.mv rfl) ?_
          refine RegD.gtpur (i := 23) rfl rfl rfl rfl rfl rfl (by kernel_rfl) (Pur.mv rfl) ?_
          refine RegD.gtpur (i := 24) rfl rfl rfl rfl rfl rfl (by kernel_rfl) (Pur.idx _ es22 rfl rfl (by omega) (by omega)) ?_
          refine RegD.gtpur (i := 25) rfl rfl rfl rfl rfl rfl (by kernel_rfl) (Pur.fld _ fo49_1 rfl) ?_
          refine RegD.gtake (i := 26) rfl rfl rfl rfl rfl rfl (by kernel_rfl) (Bks.cons hgB.blk (Bks.cons o18_5.blk Bks.nil)) (fun H hS => Lod.ld sc4 rfl hS.hd (by rw [Int.toNat_natCast, Nat.zero_add]; exact at_tk hdi (j := 1) (by decide) rfl)) ?_
          refine RegD.gtpur (i := 27) rfl rfl rfl rfl rfl rfl (by kernel_rfl) (Pur.mv rfl) ?_
          refine RegD.case 105 rfl (fun q105 => ?_) (fun q105 => ?_)
          · first | (simp only [decide_eq_true_eq, decide_eq_false_iff_not, Bool.not_eq_true', Bool.not_eq_false', ne_eq, Decidable.not_not, Bool.not_eq_true, Bool.not_eq_false] at q105) | (dsimp only at q105) | skip
            refine RegD.gtpur (i := 28) rfl rfl rfl rfl rfl rfl (by kernel_rfl) (Pur.fld _ fo47_0 rfl) ?_
            refine RegD.gtake (i := 29) rfl rfl rfl rfl rfl rfl (by kernel_rfl) (Bks.cons hgB.blk (Bks.cons o18_5.blk Bks.nil)) (fun H hS => Lod.ld sc3 rfl hS.tl.hd (show _ = some (I (X1[j].getD 0 0)) from at_Is (by rw [h9n]; decide))) ?_
            refine RegD.gtpur (i := 30) rfl rfl rfl rfl rfl rfl (by kernel_rfl) (Pur.eql rfl rfl) ?_
            refine RegD.gtpur (i := 31) rfl rfl rfl rfl rfl rfl (by kernel_rfl) (Pur.pickT rfl rfl) ?_
            refine RegD.gtpur (i := 32) rfl rfl rfl rfl rfl rfl (by kernel_rfl) (Pur.mv rfl) ?_
            refine RegD.case 110 rfl (fun q110 => ?_) (fun q110 => ?_)
            · first | (simp only [decide_eq_true_eq, decide_eq_false_iff_not, Bool.not_eq_true', Bool.not_eq_false', ne_eq, Decidable.not_not, Bool.not_eq_true, Bool.not_eq_false] at q110) | (dsimp only at q110) | skip
              refine RegD.gtpur (i := 33) rfl rfl rfl rfl rfl rfl (by kernel_rfl) (Pur.fld _ fo47_4 rfl) ?_
              refine RegD.gtpur (i := 34) rfl rfl rfl rfl rfl rfl (by kernel_rfl) (Pur.fld _ fo28_1 rfl) ?_
              refine RegD.gtake (i := 35) rfl rfl rfl rfl rfl rfl (by kernel_rfl) (Bks.cons hgB.blk (Bks.cons o18_5.blk Bks.nil)) (fun H hS => Lod.ld sc3 rfl hS.tl.hd (show _ = some (I (X1[j].getD 8 0)) from at_Is (by rw [h9n]; decide))) ?_
              refine RegD.gtpur (i := 36) rfl rfl rfl rfl rfl rfl (by kernel_rfl) (Pur.mv rfl) ?_
              refine RegD.gtpur (i := 37) rfl rfl rfl rfl rfl rfl (by kernel_rfl) (Pur.mv rfl) ?_
              refine RegD.gtpur (i := 38) rfl rfl rfl rfl rfl rfl (by kernel_rfl) (Pur.idx _ es22 rfl rfl (by omega) (by omega)) ?_
              refine RegD.gtpur (i := 39) rfl rfl rfl rfl rfl rfl (by kernel_rfl) (Pur.fld _ fo49_0 rfl) ?_
              refine RegD.gtake (i := 40) rfl rfl rfl rfl rfl rfl (by kernel_rfl) (Bks.cons hgB.blk (Bks.cons o18_5.blk Bks.nil)) (fun H hS => Lod.ld sc3 rfl hS.hd (by rw [Int.toNat_natCast, Nat.zero_add]; exact at_tk hdi (j := 0) (by decide) rfl)) ?_
              refine RegD.gtpur (i := 41) rfl rfl rfl rfl rfl rfl (by kernel_rfl) (Pur.eql rfl rfl) ?_
              refine RegD.gtpur (i := 42) rfl rfl rfl rfl rfl rfl (by kernel_rfl) (Pur.pickT rfl rfl) ?_
              refine RegD.tpur (i := 43) rfl rfl rfl rfl (by kernel_rfl) (Pur.pickF rfl rfl) ?_
              refine RegD.done (by kernel_rfl) ?_
              refine At.cond rfl rfl (fun q121 => ?_) (fun q121 => ?_)
              · first | (simp only [decide_eq_true_eq, decide_eq_false_iff_not, Bool.not_eq_true', Bool.not_eq_false', ne_eq, Decidable.not_not, Bool.not_eq_true, Bool.not_eq_false] at q121) | (dsimp only at q121) | skip
                refine At.region rfl rfl ?_
                refine Reg.pur rfl rfl rfl rfl (Pur.asg rfl) ?_
                refine Reg.nil ?_
                refine At.ret rfl Try.func15 rfl ?_
                exact absurd (by unfold pBd pVar pRow; simp_all) hf
              first | (simp only [decide_eq_true_eq, decide_eq_false_iff_not, Bool.not_eq_true', Bool.not_eq_false', ne_eq, Decidable.not_not, Bool.not_eq_true, Bool.not_eq_false] at q121) | (dsimp only at q121) | skip
              refine At.region rfl rfl ?_
              refine Reg.pur rfl rfl rfl rfl (Pur.mv rfl) ?_
              first | refine Reg.pur rfl rfl rfl rfl (Pur.add64 rfl rfl (by omega)) ?_ | refine Reg.pur rfl rfl rfl rfl (Pur.add64 rfl rfl (by assumption)) ?_ | refine Reg.pur rfl rfl rfl rfl (Pur.add rfl rfl) ?_
              refine Reg.pur rfl rfl rfl rfl (Pur.asg rfl) ?_
              refine Reg.nil ?_
              exact At.via (ihj (j + 1) _ ⟨by omega, hEj⟩ (by omega)) ⟨rfl, rfl, rfl, rfl, trivial⟩
            first | (simp only [decide_eq_true_eq, decide_eq_false_iff_not, Bool.not_eq_true', Bool.not_eq_false', ne_eq, Decidable.not_not, Bool.not_eq_true, Bool.not_eq_false] at q110) | (dsimp only at q110) | skip
            refine RegD.skip (i := 33) rfl rfl rfl rfl rfl rfl rfl (by kernel_rfl) ?_
            refine RegD.skip (i := 34) rfl rfl rfl rfl rfl rfl rfl (by kernel_rfl) ?_
            refine RegD.skip (i := 35) rfl rfl rfl rfl rfl rfl rfl (by kernel_rfl) ?_
            refine RegD.skip (i := 36) rfl rfl rfl rfl rfl rfl rfl (by kernel_rfl) ?_
            refine RegD.skip (i := 37) rfl rfl rfl rfl rfl rfl rfl (by kernel_rfl) ?_
            refine RegD.skip (i := 38) rfl rfl rfl rfl rfl rfl rfl (by kernel_rfl) ?_
            refine RegD.skip (i := 39) rfl rfl rfl rfl rfl rfl rfl (by kernel_rfl) ?_
            refine RegD.skip (i := 40) rfl rfl rfl rfl rfl rfl rfl (by kernel_rfl) ?_
            refine RegD.skip (i := 41) rfl rfl rfl rfl rfl rfl rfl (by kernel_rfl) ?_
            refine RegD.gtpur (i := 42) rfl rfl rfl rfl rfl rfl (by kernel_rfl) (Pur.pickF rfl rfl) ?_
            refine RegD.tpur (i := 43) rfl rfl rfl rfl (by kernel_rfl) (Pur.pickF rfl rfl) ?_
            refine RegD.done (by kernel_rfl) ?_
            refine At.condF rfl rfl rfl ?_
            refine At.region rfl rfl ?_
            refine Reg.pur rfl rfl rfl rfl (Pur.mv rfl) ?_
            first | refine Reg.pur rfl rfl rfl rfl (Pur.add64 rfl rfl (by omega)) ?_ | refine Reg.pur rfl rfl rfl rfl (Pur.add64 rfl rfl (by assumption)) ?_ | refine Reg.pur rfl rfl rfl rfl (Pur.add rfl rfl) ?_
            refine Reg.pur rfl rfl rfl rfl (Pur.asg rfl) ?_
            refine Reg.nil ?_
            exact At.via (ihj (j + 1) _ ⟨by omega, hEj⟩ (by omega)) ⟨rfl, rfl, rfl, rfl, trivial⟩
          first | (simp only [decide_eq_true_eq, decide_eq_false_iff_not, Bool.not_eq_true', Bool.not_eq_false', ne_eq, Decidable.not_not, Bool.not_eq_true, Bool.not_eq_false] at q105) | (dsimp only at q105) | skip
          refine RegD.skip (i := 28) rfl rfl rfl rfl rfl rfl rfl (by kernel_rfl) ?_
          refine RegD.skip (i := 29) rfl rfl rfl rfl rfl rfl rfl (by kernel_rfl) ?_
          refine RegD.skip (i := 30) rfl rfl rfl rfl rfl rfl rfl (by kernel_rfl) ?_
          refine RegD.gtpur (i := 31) rfl rfl rfl rfl rfl rfl (by kernel_rfl) (Pur.pickF rfl rfl) ?_
          refine RegD.gtpur (i := 32) rfl rfl rfl rfl rfl rfl (by kernel_rfl) (Pur.mv rfl) ?_
          refine RegD.skip (i := 33) rfl rfl rfl rfl rfl rfl rfl (by kernel_rfl) ?_
          refine RegD.skip (i := 34) rfl rfl rfl rfl rfl rfl rfl (by kernel_rfl) ?_
          refine RegD.skip (i := 35) rfl rfl rfl rfl rfl rfl rfl (by kernel_rfl) ?_
          refine RegD.skip (i := 36) rfl rfl rfl rfl rfl rfl rfl (by kernel_rfl) ?_
          refine RegD.skip (i := 37) rfl rfl rfl rfl rfl rfl rfl (by kernel_rfl) ?_
          refine RegD.skip (i := 38) rfl rfl rfl rfl rfl rfl rfl (by kernel_rfl) ?_
          refine RegD.skip (i := 39) rfl rfl rfl rfl rfl rfl rfl (by kernel_rfl) ?_
          refine RegD.skip (i := 40) rfl rfl rfl rfl rfl rfl rfl (by kernel_rfl) ?_
          refine RegD.skip (i := 41) rfl rfl rfl rfl rfl rfl rfl (by kernel_rfl) ?_
          refine RegD.gtpur (i := 42) rfl rfl rfl rfl rfl rfl (by kernel_rfl) (Pur.pickF rfl rfl) ?_
          refine RegD.tpur (i := 43) rfl rfl rfl rfl (by kernel_rfl) (Pur.pickF rfl rfl) ?_
          refine RegD.done (by kernel_rfl) ?_
          refine At.condF rfl rfl rfl ?_
          refine At.region rfl rfl ?_
          refine Reg.pur rfl rfl rfl rfl (Pur.mv rfl) ?_
          first | refine Reg.pur rfl rfl rfl rfl (Pur.add64 rfl rfl (by omega)) ?_ | refine Reg.pur rfl rfl rfl rfl (Pur.add64 rfl rfl (by assumption)) ?_ | refine Reg.pur rfl rfl rfl rfl (Pur.add rfl rfl) ?_
          refine Reg.pur rfl rfl rfl rfl (Pur.asg rfl) ?_
          refine Reg.nil ?_
          exact At.via (ihj (j + 1) _ ⟨by omega, hEj⟩ (by omega)) ⟨rfl, rfl, rfl, rfl, trivial⟩
        first | (simp only [decide_eq_true_eq, decide_eq_false_iff_not, Bool.not_eq_true', Bool.not_eq_false', ne_eq, Decidable.not_not, Bool.not_eq_true, Bool.not_eq_false] at q89) | (dsimp only at q89) | skip
        refine RegD.skip (i := 12) rfl rfl rfl rfl rfl rfl rfl (by kernel_rfl) ?_
        refine RegD.skip (i := 13) rfl rfl rfl rfl rfl rfl rfl (by kernel_rfl) ?_
        refine RegD.skip (i := 14) rfl rfl rfl rfl rfl rfl rfl (by kernel_rfl) ?_
        refine RegD.skip (i := 15) rfl rfl rfl rfl rfl rfl rfl (by kernel_rfl) ?_
        refine RegD.skip (i := 16) rfl rfl rfl rfl rfl rfl rfl (by kernel_rfl) ?_
        refine RegD.skip (i := 17) rfl rfl rfl rfl rfl rfl rfl (by kernel_rfl) ?_
        refine RegD.skip (i := 18) rfl rfl rfl rfl rfl rfl rfl (by kernel_rfl) ?_
        refine RegD.skip (i := 19) rfl rfl rfl rfl rfl rfl rfl (by kernel_rfl) ?_
        refine RegD.tpur (i := 20) rfl rfl rfl rfl (by kernel_rfl) (Pur.pickF rfl rfl) ?_
        refine RegD.tpur (i := 21) rfl rfl rfl rfl (by kernel_rfl) (Pur.mv rfl) ?_
        refine RegD.gtpur (i := 22) rfl rfl rfl rfl rfl rfl (by kernel_rfl) (Pur.mv rfl) ?_
        refine RegD.gtpur (i := 23) rfl rfl rfl rfl rfl rfl (by kernel_rfl) (Pur.mv rfl) ?_
        refine RegD.gtpur (i := 24) rfl rfl rfl rfl rfl rfl (by kernel_rfl) (Pur.idx _ es22 rfl rfl (by omega) (by omega)) ?_
        refine RegD.gtpur (i := 25) rfl rfl rfl rfl rfl rfl (by kernel_rfl) (Pur.fld _ fo49_1 rfl) ?_
        refine RegD.gtake (i := 26) rfl rfl rfl rfl rfl rfl (by kernel_rfl) (Bks.cons hgB.blk (Bks.cons o18_5.blk Bks.nil)) (fun H hS => Lod.ld sc4 rfl hS.hd (by rw [Int.toNat_natCast, Nat.zero_add]; exact at_tk hdi (j := 1) (by decide) rfl)) ?_
        refine RegD.gtpur (i := 27) rfl rfl rfl rfl rfl rfl (by kernel_rfl) (Pur.mv rfl) ?_
        refine RegD.case 105 rfl (fun q105 => ?_) (fun q105 => ?_)
        · first | (simp only [decide_eq_true_eq, decide_eq_false_iff_not, Bool.not_eq_true', Bool.not_eq_false', ne_eq, Decidable.not_not, Bool.not_eq_true, Bool.not_eq_false] at q105) | (dsimp only at q105) | skip
          refine RegD.gtpur (i := 28) rfl rfl rfl rfl rfl rfl (by kernel_rfl) (Pur.fld _ fo47_0 rfl) ?_
          refine RegD.gtake (i := 29) rfl rfl rfl rfl rfl rfl (by kernel_rfl) (Bks.cons hgB.blk (Bks.cons o18_5.blk Bks.nil)) (fun H hS => Lod.ld sc3 rfl hS.tl.hd (show _ = some (I (X1[j].getD 0 0)) from at_Is (by rw [h9n]; decide))) ?_
          refine RegD.gtpur (i := 30) rfl rfl rfl rfl rfl rfl (by kernel_rfl) (Pur.eql rfl rfl) ?_
          refine RegD.gtpur (i := 31) rfl rfl rfl rfl rfl rfl (by kernel_rfl) (Pur.pickT rfl rfl) ?_
          refine RegD.gtpur (i := 32) rfl rfl rfl rfl rfl rfl (by kernel_rfl) (Pur.mv rfl) ?_
          refine RegD.case 110 rfl (fun q110 => ?_) (fun q110 => ?_)
          · first | (simp only [decide_eq_true_eq, decide_eq_false_iff_not, Bool.not_eq_true', Bool.not_eq_false', ne_eq, Decidable.not_not, Bool.not_eq_true, Bool.not_eq_false] at q110) | (dsimp only at q110) | skip
            refine RegD.gtpur (i := 33) rfl rfl rfl rfl rfl rfl (by kernel_rfl) (Pur.fld _ fo47_4 rfl) ?_
            refine RegD.gtpur (i := 34) rfl rfl rfl rfl rfl rfl (by kernel_rfl) (Pur.fld _ fo28_1 rfl) ?_
            refine RegD.gtake (i := 35) rfl rfl rfl rfl rfl rfl (by kernel_rfl) (Bks.cons hgB.blk (Bks.cons o18_5.blk Bks.nil)) (fun H hS => Lod.ld sc3 rfl hS.tl.hd (show _ = some (I (X1[j].getD 8 0)) from at_Is (by rw [h9n]; decide))) ?_
            refine RegD.gtpur (i := 36) rfl rfl rfl rfl rfl rfl (by kernel_rfl) (Pur.mv rfl) ?_
            refine RegD.gtpur (i := 37) rfl rfl rfl rfl rfl rfl (by kernel_rfl) (Pur.mv rfl) ?_
            refine RegD.gtpur (i := 38) rfl rfl rfl rfl rfl rfl (by kernel_rfl) (Pur.idx _ es22 rfl rfl (by omega) (by omega)) ?_
            refine RegD.gtpur (i := 39) rfl rfl rfl rfl rfl rfl (by kernel_rfl) (Pur.fld _ fo49_0 rfl) ?_
            refine RegD.gtake (i := 40) rfl rfl rfl rfl rfl rfl (by kernel_rfl) (Bks.cons hgB.blk (Bks.cons o18_5.blk Bks.nil)) (fun H hS => Lod.ld sc3 rfl hS.hd (by rw [Int.toNat_natCast, Nat.zero_add]; exact at_tk hdi (j := 0) (by decide) rfl)) ?_
            refine RegD.gtpur (i := 41) rfl rfl rfl rfl rfl rfl (by kernel_rfl) (Pur.eql rfl rfl) ?_
            refine RegD.gtpur (i := 42) rfl rfl rfl rfl rfl rfl (by kernel_rfl) (Pur.pickT rfl rfl) ?_
            refine RegD.tpur (i := 43) rfl rfl rfl rfl (by kernel_rfl) (Pur.pickF rfl rfl) ?_
            refine RegD.done (by kernel_rfl) ?_
            refine At.cond rfl rfl (fun q121 => ?_) (fun q121 => ?_)
            · first | (simp only [decide_eq_true_eq, decide_eq_false_iff_not, Bool.not_eq_true', Bool.not_eq_false', ne_eq, Decidable.not_not, Bool.not_eq_true, Bool.not_eq_false] at q121) | (dsimp only at q121) | skip
              refine At.region rfl rfl ?_
              refine Reg.pur rfl rfl rfl rfl (Pur.asg rfl) ?_
              refine Reg.nil ?_
              refine At.ret rfl Try.func15 rfl ?_
              exact absurd (by unfold pBd pVar pRow; simp_all) hf
            first | (simp only [decide_eq_true_eq, decide_eq_false_iff_not, Bool.not_eq_true', Bool.not_eq_false', ne_eq, Decidable.not_not, Bool.not_eq_true, Bool.not_eq_false] at q121) | (dsimp only at q121) | skip
            refine At.region rfl rfl ?_
            refine Reg.pur rfl rfl rfl rfl (Pur.mv rfl) ?_
            first | refine Reg.pur rfl rfl rfl rfl (Pur.add64 rfl rfl (by omega)) ?_ | refine Reg.pur rfl rfl rfl rfl (Pur.add64 rfl rfl (by assumption)) ?_ | refine Reg.pur rfl rfl rfl rfl (Pur.add rfl rfl) ?_
            refine Reg.pur rfl rfl rfl rfl (Pur.asg rfl) ?_
            refine Reg.nil ?_
            exact At.via (ihj (j + 1) _ ⟨by omega, hEj⟩ (by omega)) ⟨rfl, rfl, rfl, rfl, trivial⟩
          first | (simp only [decide_eq_true_eq, decide_eq_false_iff_not, Bool.not_eq_true', Bool.not_eq_false', ne_eq, Decidable.not_not, Bool.not_eq_true, Bool.not_eq_false] at q110) | (dsimp only at q110) | skip
          refine RegD.skip (i := 33) rfl rfl rfl rfl rfl rfl rfl (by kernel_rfl) ?_
          refine RegD.skip (i := 34) rfl rfl rfl rfl rfl rfl rfl (by kernel_rfl) ?_
          refine RegD.skip (i := 35) rfl rfl rfl rfl rfl rfl rfl (by kernel_rfl) ?_
          refine RegD.skip (i := 36) rfl rfl rfl rfl rfl rfl rfl (by kernel_rfl) ?_
          refine RegD.skip (i := 37) rfl rfl rfl rfl rfl rfl rfl (by kernel_rfl) ?_
          refine RegD.skip (i := 38) rfl rfl rfl rfl rfl rfl rfl (by kernel_rfl) ?_
          refine RegD.skip (i := 39) rfl rfl rfl rfl rfl rfl rfl (by kernel_rfl) ?_
          refine RegD.skip (i := 40) rfl rfl rfl rfl rfl rfl rfl (by kernel_rfl) ?_
          refine RegD.skip (i := 41) rfl rfl rfl rfl rfl rfl rfl (by kernel_rfl) ?_
          refine RegD.gtpur (i := 42) rfl rfl rfl rfl rfl rfl (by kernel_rfl) (Pur.pickF rfl rfl) ?_
          refine RegD.tpur (i := 43) rfl rfl rfl rfl (by kernel_rfl) (Pur.pickF rfl rfl) ?_
          refine RegD.done (by kernel_rfl) ?_
          refine At.condF rfl rfl rfl ?_
          refine At.region rfl rfl ?_
          refine Reg.pur rfl rfl rfl rfl (Pur.mv rfl) ?_
          first | refine Reg.pur rfl rfl rfl rfl (Pur.add64 rfl rfl (by omega)) ?_ | refine Reg.pur rfl rfl rfl rfl (Pur.add64 rfl rfl (by assumption)) ?_ | refine Reg.pur rfl rfl rfl rfl (Pur.add rfl rfl) ?_
          refine Reg.pur rfl rfl rfl rfl (Pur.asg rfl) ?_
          refine Reg.nil ?_
          exact At.via (ihj (j + 1) _ ⟨by omega, hEj⟩ (by omega)) ⟨rfl, rfl, rfl, rfl, trivial⟩
        first | (simp only [decide_eq_true_eq, decide_eq_false_iff_not, Bool.not_eq_true', Bool.not_eq_false', ne_eq, Decidable.not_not, Bool.not_eq_true, Bool.not_eq_false] at q105) | (dsimp only at q105) | skip
        refine RegD.skip (i := 28) rfl rfl rfl rfl rfl rfl rfl (by kernel_rfl) ?_
        refine RegD.skip (i := 29) rfl rfl rfl rfl rfl rfl rfl (by kernel_rfl) ?_
        refine RegD.skip (i := 30) rfl rfl rfl rfl rfl rfl rfl (by kernel_rfl) ?_
        refine RegD.gtpur (i := 31) rfl rfl rfl rfl rfl rfl (by kernel_rfl) (Pur.pickF rfl rfl) ?_
        refine RegD.gtpur (i := 32) rfl rfl rfl rfl rfl rfl (by kernel_rfl) (Pur.mv rfl) ?_
        refine RegD.skip (i := 33) rfl rfl rfl rfl rfl rfl rfl (by kernel_rfl) ?_
        refine RegD.skip (i := 34) rfl rfl rfl rfl rfl rfl rfl (by kernel_rfl) ?_
        refine RegD.skip (i := 35) rfl rfl rfl rfl rfl rfl rfl (by kernel_rfl) ?_
        refine RegD.skip (i := 36) rfl rfl rfl rfl rfl rfl rfl (by kernel_rfl) ?_
        refine RegD.skip (i := 37) rfl rfl rfl rfl rfl rfl rfl (by kernel_rfl) ?_
        refine RegD.skip (i := 38) rfl rfl rfl rfl rfl rfl rfl (by kernel_rfl) ?_
        refine RegD.skip (i := 39) rfl rfl rfl rfl rfl rfl rfl (by kernel_rfl) ?_
        refine RegD.skip (i := 40) rfl rfl rfl rfl rfl rfl rfl (by kernel_rfl) ?_
        refine RegD.skip (i := 41) rfl rfl rfl rfl rfl rfl rfl (by kernel_rfl) ?_
        refine RegD.gtpur (i := 42) rfl rfl rfl rfl rfl rfl (by kernel_rfl) (Pur.pickF rfl rfl) ?_
        refine RegD.tpur (i := 43) rfl rfl rfl rfl (by kernel_rfl) (Pur.pickF rfl rfl) ?_
        refine RegD.done (by kernel_rfl) ?_
        refine At.condF rfl rfl rfl ?_
        refine At.region rfl rfl ?_
        refine Reg.pur rfl rfl rfl rfl (Pur.mv rfl) ?_
        first | refine Reg.pur rfl rfl rfl rfl (Pur.add64 rfl rfl (by omega)) ?_ | refine Reg.pur rfl rfl rfl rfl (Pur.add64 rfl rfl (by assumption)) ?_ | refine Reg.pur rfl rfl rfl rfl (Pur.add rfl rfl) ?_
        refine Reg.pur rfl rfl rfl rfl (Pur.asg rfl) ?_
        refine Reg.nil ?_
        exact At.via (ihj (j + 1) _ ⟨by omega, hEj⟩ (by omega)) ⟨rfl, rfl, rfl, rfl, trivial⟩
      first | (simp only [decide_eq_true_eq, decide_eq_false_iff_not, Bool.not_eq_true', Bool.not_eq_false', ne_eq, Decidable.not_not, Bool.not_eq_true, Bool.not_eq_false] at q84) | (dsimp only at q84) | skip
      refine RegD.skip (i := 7) rfl rfl rfl rfl rfl rfl rfl (by kernel_rfl) ?_
      refine RegD.skip (i := 8) rfl rfl rfl rfl rfl rfl rfl (by kernel_rfl) ?_
      refine RegD.skip (i := 9) rfl rfl rfl rfl rfl rfl rfl (by kernel_rfl) ?_
      refine RegD.tpur (i := 10) rfl rfl rfl rfl (by kernel_rfl) (Pur.pickF rfl rfl) ?_
      refine RegD.tpur (i := 11) rfl rfl rfl rfl (by kernel_rfl) (Pur.mv rfl) ?_
      refine RegD.skip (i := 12) rfl rfl rfl rfl rfl rfl rfl (by kernel_rfl) ?_
      refine RegD.skip (i := 13) rfl rfl rfl rfl rfl rfl rfl (by kernel_rfl) ?_
      refine RegD.skip (i := 14) rfl rfl rfl rfl rfl rfl rfl (by kernel_rfl) ?_
      refine RegD.skip (i := 15) rfl rfl rfl rfl rfl rfl rfl (by kernel_rfl) ?_
      refine RegD.skip (i := 16) rfl rfl rfl rfl rfl rfl rfl (by kernel_rfl) ?_
      refine RegD.skip (i := 17) rfl rfl rfl rfl rfl rfl rfl (by kernel_rfl) ?_
      refine RegD.skip (i := 18) rfl rfl rfl rfl rfl rfl rfl (by kernel_rfl) ?_
      refine RegD.skip (i := 19) rfl rfl rfl rfl rfl rfl rfl (by kernel_rfl) ?_
      refine RegD.tpur (i := 20) rfl rfl rfl rfl (by kernel_rfl) (Pur.pickF rfl rfl) ?_
      refine RegD.tpur (i := 21) rfl rfl rfl rfl (by kernel_rfl) (Pur.mv rfl) ?_
      refine RegD.gtpur (i := 22) rfl rfl rfl rfl rfl rfl (by kernel_rfl) (Pur.mv rfl) ?_
      refine RegD.gtpur (i := 23) rfl rfl rfl rfl rfl rfl (by kernel_rfl) (Pur.mv rfl) ?_
      refine RegD.gtpur (i := 24) rfl rfl rfl rfl rfl rfl (by kernel_rfl) (Pur.idx _ es22 rfl rfl (by omega) (by omega)) ?_
      refine RegD.gtpur (i := 25) rfl rfl rfl rfl rfl rfl (by kernel_rfl) (Pur.fld _ fo49_1 rfl) ?_
      refine RegD.gtake (i := 26) rfl rfl rfl rfl rfl rfl (by kernel_rfl) (Bks.cons hgB.blk (Bks.cons o18_5.blk Bks.nil)) (fun H hS => Lod.ld sc4 rfl hS.hd (by rw [Int.toNat_natCast, Nat.zero_add]; exact at_tk hdi (j := 1) (by decide) rfl)) ?_
      refine RegD.gtpur (i := 27) rfl rfl rfl rfl rfl rfl (by kernel_rfl) (Pur.mv rfl) ?_
      refine RegD.case 105 rfl (fun q105 => ?_) (fun q105 => ?_)
      · first | (simp only [decide_eq_true_eq, decide_eq_false_iff_not, Bool.not_eq_true', Bool.not_eq_false', ne_eq, Decidable.not_not, Bool.not_eq_true, Bool.not_eq_false] at q105) | (dsimp only at q105) | skip
        refine RegD.gtpur (i := 28) rfl rfl rfl rfl rfl rfl (by kernel_rfl) (Pur.fld _ fo47_0 rfl) ?_
        refine RegD.gtake (i := 29) rfl rfl rfl rfl rfl rfl (by kernel_rfl) (Bks.cons hgB.blk (Bks.cons o18_5.blk Bks.nil)) (fun H hS => Lod.ld sc3 rfl hS.tl.hd (show _ = some (I (X1[j].getD 0 0)) from at_Is (by rw [h9n]; decide))) ?_
        refine RegD.gtpur (i := 30) rfl rfl rfl rfl rfl rfl (by kernel_rfl) (Pur.eql rfl rfl) ?_
        refine RegD.gtpur (i := 31) rfl rfl rfl rfl rfl rfl (by kernel_rfl) (Pur.pickT rfl rfl) ?_
        refine RegD.gtpur (i := 32) rfl rfl rfl rfl rfl rfl (by kernel_rfl) (Pur.mv rfl) ?_
        refine RegD.case 110 rfl (fun q110 => ?_) (fun q110 => ?_)
        · first | (simp only [decide_eq_true_eq, decide_eq_false_iff_not, Bool.not_eq_true', Bool.not_eq_false', ne_eq, Decidable.not_not, Bool.not_eq_true, Bool.not_eq_false] at q110) | (dsimp only at q110) | skip
          refine RegD.gtpur (i := 33) rfl rfl rfl rfl rfl rfl (by kernel_rfl) (Pur.fld _ fo47_4 rfl) ?_
          refine RegD.gtpur (i := 34) rfl rfl rfl rfl rfl rfl (by kernel_rfl) (Pur.fld _ fo28_1 rfl) ?_
          refine RegD.gtake (i := 35) rfl rfl rfl rfl rfl rfl (by kernel_rfl) (Bks.cons hgB.blk (Bks.cons o18_5.blk Bks.nil)) (fun H hS => Lod.ld sc3 rfl hS.tl.hd (show _ = some (I (X1[j].getD 8 0)) from at_Is (by rw [h9n]; decide))) ?_
          refine RegD.gtpur (i := 36) rfl rfl rfl rfl rfl rfl (by kernel_rfl) (Pur.mv rfl) ?_
          refine RegD.gtpur (i := 37) rfl rfl rfl rfl rfl rfl (by kernel_rfl) (Pur.mv rfl) ?_
          refine RegD.gtpur (i := 38) rfl rfl rfl rfl rfl rfl (by kernel_rfl) (Pur.idx _ es22 rfl rfl (by omega) (by omega)) ?_
          refine RegD.gtpur (i := 39) rfl rfl rfl rfl rfl rfl (by kernel_rfl) (Pur.fld _ fo49_0 rfl) ?_
          refine RegD.gtake (i := 40) rfl rfl rfl rfl rfl rfl (by kernel_rfl) (Bks.cons hgB.blk (Bks.cons o18_5.blk Bks.nil)) (fun H hS => Lod.ld sc3 rfl hS.hd (by rw [Int.toNat_natCast, Nat.zero_add]; exact at_tk hdi (j := 0) (by decide) rfl)) ?_
          refine RegD.gtpur (i := 41) rfl rfl rfl rfl rfl rfl (by kernel_rfl) (Pur.eql rfl rfl) ?_
          refine RegD.gtpur (i := 42) rfl rfl rfl rfl rfl rfl (by kernel_rfl) (Pur.pickT rfl rfl) ?_
          refine RegD.tpur (i := 43) rfl rfl rfl rfl (by kernel_rfl) (Pur.pickF rfl rfl) ?_
          refine RegD.done (by kernel_rfl) ?_
          refine At.cond rfl rfl (fun q121 => ?_) (fun q121 => ?_)
          · first | (simp only [decide_eq_true_eq, decide_eq_false_iff_not, Bool.not_eq_true', Bool.not_eq_false', ne_eq, Decidable.not_not, Bool.not_eq_true, Bool.not_eq_false] at q121) | (dsimp only at q121) | skip
            refine At.region rfl rfl ?_
            refine Reg.pur rfl rfl rfl rfl (Pur.asg rfl) ?_
            refine Reg.nil ?_
            refine At.ret rfl Try.func15 rfl ?_
            exact absurd (by unfold pBd pVar pRow; simp_all) hf
          first | (simp only [decide_eq_true_eq, decide_eq_false_iff_not, Bool.not_eq_true', Bool.not_eq_false', ne_eq, Decidable.not_not, Bool.not_eq_true, Bool.not_eq_false] at q121) | (dsimp only at q121) | skip
          refine At.region rfl rfl ?_
          refine Reg.pur rfl rfl rfl rfl (Pur.mv rfl) ?_
          first | refine Reg.pur rfl rfl rfl rfl (Pur.add64 rfl rfl (by omega)) ?_ | refine Reg.pur rfl rfl rfl rfl (Pur.add64 rfl rfl (by assumption)) ?_ | refine Reg.pur rfl rfl rfl rfl (Pur.add rfl rfl) ?_
          refine Reg.pur rfl rfl rfl rfl (Pur.asg rfl) ?_
          refine Reg.nil ?_
          exact At.via (ihj (j + 1) _ ⟨by omega, hEj⟩ (by omega)) ⟨rfl, rfl, rfl, rfl, trivial⟩
        first | (simp only [decide_eq_true_eq, decide_eq_false_iff_not, Bool.not_eq_true', Bool.not_eq_false', ne_eq, Decidable.not_not, Bool.not_eq_true, Bool.not_eq_false] at q110) | (dsimp only at q110) | skip
        refine RegD.skip (i := 33) rfl rfl rfl rfl rfl rfl rfl (by kernel_rfl) ?_
        refine RegD.skip (i := 34) rfl rfl rfl rfl rfl rfl rfl (by kernel_rfl) ?_
        refine RegD.skip (i := 35) rfl rfl rfl rfl rfl rfl rfl (by kernel_rfl) ?_
        refine RegD.skip (i := 36) rfl rfl rfl rfl rfl rfl rfl (by kernel_rfl) ?_
        refine RegD.skip (i := 37) rfl rfl rfl rfl rfl rfl rfl (by kernel_rfl) ?_
        refine RegD.skip (i := 38) rfl rfl rfl rfl rfl rfl rfl (by kernel_rfl) ?_
        refine RegD.skip (i := 39) rfl rfl rfl rfl rfl rfl rfl (by kernel_rfl) ?_
        refine RegD.skip (i := 40) rfl rfl rfl rfl rfl rfl rfl (by kernel_rfl) ?_
        refine RegD.skip (i := 41) rfl rfl rfl rfl rfl rfl rfl (by kernel_rfl) ?_
        refine RegD.gtpur (i := 42) rfl rfl rfl rfl rfl rfl (by kernel_rfl) (Pur.pickF rfl rfl) ?_
        refine RegD.tpur (i := 43) rfl rfl rfl rfl (by kernel_rfl) (Pur.pickF rfl rfl) ?_
        refine RegD.done (by kernel_rfl) ?_
        refine At.condF rfl rfl rfl ?_
        refine At.region rfl rfl ?_
        refine Reg.pur rfl rfl rfl rfl (Pur.mv rfl) ?_
        first | refine Reg.pur rfl rfl rfl rfl (Pur.add64 rfl rfl (by omega)) ?_ | refine Reg.pur rfl rfl rfl rfl (Pur.add64 rfl rfl (by assumption)) ?_ | refine Reg.pur rfl rfl rfl rfl (Pur.add rfl rfl) ?_
        refine Reg.pur rfl rfl rfl rfl (Pur.asg rfl) ?_
        refine Reg.nil ?_
        exact At.via (ihj (j + 1) _ ⟨by omega, hEj⟩ (by omega)) ⟨rfl, rfl, rfl, rfl, trivial⟩
      first | (simp only [decide_eq_true_eq, decide_eq_false_iff_not, Bool.not_eq_true', Bool.not_eq_false', ne_eq, Decidable.not_not, Bool.not_eq_true, Bool.not_eq_false] at q105) | (dsimp only at q105) | skip
      refine RegD.skip (i := 28) rfl rfl rfl rfl rfl rfl rfl (by kernel_rfl) ?_
      refine RegD.skip (i := 29) rfl rfl rfl rfl rfl rfl rfl (by kernel_rfl) ?_
      refine RegD.skip (i := 30) rfl rfl rfl rfl rfl rfl rfl (by kernel_rfl) ?_
      refine RegD.gtpur (i := 31) rfl rfl rfl rfl rfl rfl (by kernel_rfl) (Pur.pickF rfl rfl) ?_
      refine RegD.gtpur (i := 32) rfl rfl rfl rfl rfl rfl (by kernel_rfl) (Pur.mv rfl) ?_
      refine RegD.skip (i := 33) rfl rfl rfl rfl rfl rfl rfl (by kernel_rfl) ?_
      refine RegD.skip (i := 34) rfl rfl rfl rfl rfl rfl rfl (by kernel_rfl) ?_
      refine RegD.skip (i := 35) rfl rfl rfl rfl rfl rfl rfl (by kernel_rfl) ?_
      refine RegD.skip (i := 36) rfl rfl rfl rfl rfl rfl rfl (by kernel_rfl) ?_
      refine RegD.skip (i := 37) rfl rfl rfl rfl rfl rfl rfl (by kernel_rfl) ?_
      refine RegD.skip (i := 38) rfl rfl rfl rfl rfl rfl rfl (by kernel_rfl) ?_
      refine RegD.skip (i := 39) rfl rfl rfl rfl rfl rfl rfl (by kernel_rfl) ?_
      refine RegD.skip (i := 40) rfl rfl rfl rfl rfl rfl rfl (by kernel_rfl) ?_
      refine RegD.skip (i := 41) rfl rfl rfl rfl rfl rfl rfl (by kernel_rfl) ?_
      refine RegD.gtpur (i := 42) rfl rfl rfl rfl rfl rfl (by kernel_rfl) (Pur.pickF rfl rfl) ?_
      refine RegD.tpur (i := 43) rfl rfl rfl rfl (by kernel_rfl) (Pur.pickF rfl rfl) ?_
      refine RegD.done (by kernel_rfl) ?_
      refine At.condF rfl rfl rfl ?_
      refine At.region rfl rfl ?_
      refine Reg.pur rfl rfl rfl rfl (Pur.mv rfl) ?_
      first | refine Reg.pur rfl rfl rfl rfl (Pur.add64 rfl rfl (by omega)) ?_ | refine Reg.pur rfl rfl rfl rfl (Pur.add64 rfl rfl (by assumption)) ?_ | refine Reg.pur rfl rfl rfl rfl (Pur.add rfl rfl) ?_
      refine Reg.pur rfl rfl rfl rfl (Pur.asg rfl) ?_
      refine Reg.nil ?_
      exact At.via (ihj (j + 1) _ ⟨by omega, hEj⟩ (by omega)) ⟨rfl, rfl, rfl, rfl, trivial⟩
    first | (simp only [decide_eq_true_eq, decide_eq_false_iff_not, Bool.not_eq_true', Bool.not_eq_false', ne_eq, Decidable.not_not, Bool.not_eq_true, Bool.not_eq_false] at q70) | (dsimp only at q70) | skip
    refine At.region rfl rfl ?_
    refine Reg.pur rfl rfl rfl rfl (Pur.mv rfl) ?_
    first | refine Reg.pur rfl rfl rfl rfl (Pur.add64 rfl rfl (by omega)) ?_ | refine Reg.pur rfl rfl rfl rfl (Pur.add64 rfl rfl (by assumption)) ?_ | refine Reg.pur rfl rfl rfl rfl (Pur.add rfl rfl) ?_
    refine Reg.pur rfl rfl rfl rfl (Pur.asg rfl) ?_
    refine Reg.nil ?_
    exact At.via (ih (i + 1) _ ⟨by omega, hEj⟩ (by omega)) ⟨rfl, rfl, rfl, trivial⟩
  first | (simp only [decide_eq_true_eq, decide_eq_false_iff_not, Bool.not_eq_true', Bool.not_eq_false', ne_eq, Decidable.not_not, Bool.not_eq_true, Bool.not_eq_false] at q63) | (dsimp only at q63) | skip
  refine At.region rfl rfl ?_
  refine Reg.pur rfl rfl rfl rfl (Pur.asg rfl) ?_
  refine Reg.nil ?_
  refine At.ret rfl Try.func15 rfl ?_
  exact ⟨rfl, hE.ext hEi⟩
end Go.Proofs.Ytlfillhffpiffaa

namespace Go.Proofs.Ytlfillhffpiffaa
set_option linter.unusedSimpArgs false
set_option linter.unusedVariables false
set_option maxRecDepth 8000
open Go Go.Fx Go.Proofs

def PrT (θ θ' : Asg) (σ : Int → Int) (v : Int) : Prop := θ.T v = .var (σ v) ∧ θ'.T (σ v) = .var v
def PrR (θ θ' : Asg) (ρ : Int → Int) (v : Int) : Prop := θ.R v = [0, 0, 0, 0, ρ v] ∧ 0 ≤ ρ v ∧ θ'.R (ρ v) = [0, 0, 0, 0, v]
def nmV : Tm → Int
  | .var w => w
  | _ => 0
theorem ix_map {σ : Int → Int} {v : Int} : ∀ {T : List Int}, (∀ u ∈ T, σ u = σ v → u = v) → ixL (T.map σ) (σ v) = ixL T v
  | [], _ => rfl
  | x :: T, h => by
    simp only [List.map_cons, ixL]
    by_cases hx : x = v
    · rw [if_pos hx, if_pos (by rw [hx])]
    · rw [if_neg hx, if_neg (fun e => hx (h x List.mem_cons_self e)), ix_map (fun u hu => h u (List.mem_cons_of_mem _ hu))]
theorem add_map {σ : Int → Int} {v : Int} {T : List Int} (h : ∀ u ∈ T, σ u = σ v → u = v) : addL (T.map σ) (σ v) = (addL T v).map σ := by
  unfold addL inL
  rw [ix_map h, List.length_map]
  split <;> simp
theorem mem_add {T : List Int} {v u : Int} (h : u ∈ addL T v) : u ∈ T ∨ u = v := by
  unfold addL at h
  split at h
  · exact .inl h
  · simpa using h
theorem pr_inj {θ θ' : Asg} {σ : Int → Int} {u v : Int} (hu : PrT θ θ' σ u) (hv : PrT θ θ' σ v) (e : σ u = σ v) : u = v := by
  have h1 := hu.2
  rw [e, hv.2] at h1
  injection h1 with h1; exact h1.symm
theorem prR_inj {θ θ' : Asg} {ρ : Int → Int} {u v : Int} (hu : PrR θ θ' ρ u) (hv : PrR θ θ' ρ v) (e : ρ u = ρ v) : u = v := by
  have h1 := hu.2.2
  rw [e, hv.2.2] at h1
  injection h1 with _ h1; injection h1 with _ h1; injection h1 with _ h1; injection h1 with _ h1; injection h1 with h1; exact h1.symm
theorem rall_of {r s : List Int} (h : ∀ i, i < 4 → s.getD i 0 = r.getD i 0) : ∀ i, i ≤ 4 → rall s i = rall r i
  | 0, _ => rfl
  | i + 1, hi => by
    unfold rall
    rw [rall_of h i (by omega), h i (by omega)]
theorem row_back {θ θ' : Asg} (hθ : θ.Ok) (hθ' : θ'.Ok) {r : List Int} (h5 : r.length = 5) (ht : ¬ r.getD 4 0 < 0) (h : θ'.row (θ.row r) = r) :
    PrR θ θ' (fun v => (θ.R v).getD 4 0) (r.getD 4 0) ∧ θ.row r = adR r [0, 0, 0, 0, (θ.R (r.getD 4 0)).getD 4 0] := by
  have k1 := hθ.len (r.getD 4 0) (by omega)
  have k2 := hθ.pos (r.getD 4 0) (by omega)
  rw [Asg.row_yes ht] at h ⊢
  generalize hd : θ.R (r.getD 4 0) = d at k1 k2 h ⊢
  obtain ⟨d0, d1, d2, d3, d4, rfl⟩ := row_five k1
  obtain ⟨r0, r1, r2, r3, r4, rfl⟩ := row_five h5
  have e4 : (adR [r0, r1, r2, r3, r4] [d0, d1, d2, d3, d4]).getD 4 0 = d4 := rfl
  have hr4 : ¬ r4 < 0 := ht
  by_cases h0 : d4 < 0
  · rw [Asg.row_no (by rw [e4]; exact h0), adR_five] at h
    injection h with _ h; injection h with _ h; injection h with _ h; injection h with _ h; injection h with h; omega
  · rw [Asg.row_yes (by rw [e4]; exact h0), e4] at h
    have m1 := hθ'.len d4 (by omega)
    have m2 := hθ'.pos d4 (by omega)
    generalize he : θ'.R d4 = e at m1 m2 h
    obtain ⟨f0, f1, f2, f3, f4, rfl⟩ := row_five m1
    rw [adR_five, adR_five] at h
    injection h with g0 h; injection h with g1 h; injection h with g2 h; injection h with g3 h; injection h with g4 h
    have q0 : 0 ≤ d0 := k2 0 (by omega)
    have q1 : 0 ≤ d1 := k2 1 (by omega)
    have q2 : 0 ≤ d2 := k2 2 (by omega)
    have q3 : 0 ≤ d3 := k2 3 (by omega)
    have p0 : 0 ≤ f0 := m2 0 (by omega)
    have p1 : 0 ≤ f1 := m2 1 (by omega)
    have p2 : 0 ≤ f2 := m2 2 (by omega)
    have p3 : 0 ≤ f3 := m2 3 (by omega)
    obtain rfl : d0 = 0 := by omega
    obtain rfl : d1 = 0 := by omega
    obtain rfl : d2 = 0 := by omega
    obtain rfl : d3 = 0 := by omega
    obtain rfl : f0 = 0 := by omega
    obtain rfl : f1 = 0 := by omega
    obtain rfl : f2 = 0 := by omega
    obtain rfl : f3 = 0 := by omega
    subst g4
    have hd' : θ.R f4 = [0, 0, 0, 0, d4] := hd
    have hw : (fun v => (θ.R v).getD 4 0) f4 = d4 := by show (θ.R f4).getD 4 0 = d4; rw [hd']; rfl
    exact ⟨⟨by rw [show ([r0, r1, r2, r3, f4] : List Int).getD 4 0 = f4 from rfl, hw]; exact hd', by rw [show ([r0, r1, r2, r3, f4] : List Int).getD 4 0 = f4 from rfl, hw]; omega, by rw [show ([r0, r1, r2, r3, f4] : List Int).getD 4 0 = f4 from rfl, hw]; exact he⟩, rfl⟩
def AllP (θ θ' : Asg) (N : Nms) : Prop := (∀ v ∈ N.1, PrT θ θ' (fun v => nmV (θ.T v)) v) ∧ ∀ v ∈ N.2, PrR θ θ' (fun v => (θ.R v).getD 4 0) v
def mpN (θ : Asg) (N : Nms) : Nms := (N.1.map (fun v => nmV (θ.T v)), N.2.map (fun v => (θ.R v).getD 4 0))
theorem tx_ren {θ θ' : Asg} (hθ : θ.Ok) (hθ' : θ'.Ok) : ∀ (p : Tm) (N : Nms), p.ok → θ'.tm (θ.tm p) = p → AllP θ θ' N → tx (mpN θ N) (θ.tm p) = ((tx N p).1, mpN θ (tx N p).2) ∧ AllP θ θ' (tx N p).2
  | .bas b, N, _, _, hN => ⟨rfl, hN⟩
  | .var v, N, _, h, hN => by
    simp only [Asg.tm] at h ⊢
    cases hv : θ.T v with
    | bas b => rw [hv] at h; cases h
    | fn a r b => rw [hv] at h; cases h
    | var w =>
      rw [hv] at h
      have hp : PrT θ θ' (fun v => nmV (θ.T v)) v := ⟨by (show θ.T v = Tm.var (nmV (θ.T v))); rw [hv]; rfl, by (show θ'.T (nmV (θ.T v)) = _); rw [hv]; exact h⟩
      have hinj : ∀ u ∈ N.1, (fun v => nmV (θ.T v)) u = (fun v => nmV (θ.T v)) v → u = v := fun u hu e => pr_inj (hN.1 u hu) hp e
      have hw : nmV (θ.T v) = w := by rw [hv]; rfl
      have i1 := ix_map hinj
      have i2 := add_map hinj
      rw [hw] at i1 i2
      refine ⟨?_, fun u hu => ?_, hN.2⟩
      · simp only [tx, mpN]; rw [i1, i2]
      · rcases mem_add hu with hu | rfl
        · exact hN.1 u hu
        · exact hp
  | .fn a r b, N, ho, h, hN => by
    simp only [Asg.tm] at h ⊢
    injection h with ha hr hb
    obtain ⟨A1, A2⟩ := tx_ren hθ hθ' a N ho.1 ha hN
    have hrow : rtx (mpN θ (tx N a).2).2 (θ.row r) = rtx (tx N a).2.2 r ∧ rnm (mpN θ (tx N a).2).2 (θ.row r) = (rnm (tx N a).2.2 r).map (fun v => (θ.R v).getD 4 0) ∧ ∀ v ∈ rnm (tx N a).2.2 r, PrR θ θ' (fun v => (θ.R v).getD 4 0) v := by
      by_cases ht : r.getD 4 0 < 0
      · rw [Asg.row_no ht]
        unfold rtx rnm
        rw [if_neg (by omega), if_neg (by omega), if_neg (by omega), if_neg (by omega)]
        exact ⟨rfl, rfl, A2.2⟩
      · obtain ⟨hp, he⟩ := row_back hθ hθ' ho.2.1 ht hr
        have hinj : ∀ u ∈ (tx N a).2.2, (fun v => (θ.R v).getD 4 0) u = (fun v => (θ.R v).getD 4 0) (r.getD 4 0) → u = r.getD 4 0 := fun u hu e => prR_inj (A2.2 u hu) hp e
        have i1 := ix_map hinj
        have i2 := add_map hinj
        have hpos : 0 ≤ (θ.R (r.getD 4 0)).getD 4 0 := hp.2.1
        rw [he]
        have e4 : (adR r [0, 0, 0, 0, (θ.R (r.getD 4 0)).getD 4 0]).getD 4 0 = (θ.R (r.getD 4 0)).getD 4 0 := rfl
        have hal : rall (adR r [0, 0, 0, 0, (θ.R (r.getD 4 0)).getD 4 0]) 4 = rall r 4 := rall_of (fun i hi => by
          rw [adR_at r _ i hi]
          match i, hi with
          | 0, _ => exact Int.add_zero _
          | 1, _ => exact Int.add_zero _
          | 2, _ => exact Int.add_zero _
          | 3, _ => exact Int.add_zero _) 4 (Nat.le_refl _)
        unfold rtx rnm mpN
        rw [e4, hal, if_pos hpos, if_pos hpos, if_pos (by omega), if_pos (by omega)]
        dsimp only
        rw [i1, i2]
        refine ⟨rfl, rfl, fun v hv => ?_⟩
        rcases mem_add hv with hv | rfl
        · exact A2.2 v hv
        · exact hp
    obtain ⟨R1, R2, R3⟩ := hrow
    obtain ⟨B1, B2⟩ := tx_ren hθ hθ' b ((tx N a).2.1, rnm (tx N a).2.2 r) ho.2.2.2 hb ⟨A2.1, R3⟩
    refine ⟨?_, B2⟩
    have hm : ((mpN θ (tx N a).2).1, rnm (mpN θ (tx N a).2).2 (θ.row r)) = mpN θ ((tx N a).2.1, rnm (tx N a).2.2 r) := by rw [R2]; rfl
    simp only [tx]
    rw [A1]
    dsimp only
    rw [R1, hm, B1]
theorem tx_one {θ θ' : Asg} (hθ : θ.Ok) (hθ' : θ'.Ok) {p q : Tm} (hp : p.ok) (h1 : θ.tm p = q) (h2 : θ'.tm q = p) : (tx ([], []) p).1 = (tx ([], []) q).1 := by
  subst h1
  have := (tx_ren hθ hθ' p ([], []) hp h2 ⟨(fun v hv => nomatch hv), (fun v hv => nomatch hv)⟩).1
  rw [show mpN θ ([], []) = ([], []) from rfl] at this
  rw [this]
theorem swp {n : Nat} {f : Int} {s : Us} {θ : Asg} {a b t p : Tm} (h0 : 0 ≤ f) (h1 : f ≤ 4096) (ha : a.ok) (hb : b.ok) (hla : Lw f a) (hlb : Lw f b) (hx : uniU n ([], f) a b = some (.ok s)) (hθ : θ.Ok) (he : θ.tm a = θ.tm b)
    (ht : t.ok) (hlt : Lw f t) (hp : tys s.1 t = some p) : ∃ θ' : Asg, θ'.Ok ∧ θ'.tm p = θ.tm t := by
  obtain ⟨G, _, _⟩ := uniU_good n (good_nil h0 h1) ha hb hla hlb hx
  rcases uniU_mgu n (good_nil h0 h1) ha hb hla hlb hθ (resp_nil θ) he hx with h2 | ⟨s2, θ', e, k1, k2, k3⟩
  · cases h2
  · cases e
    exact ⟨θ', k1, by rw [tys_resp G.inv.ok k2 ht hp, k3.tm hlt]⟩
theorem uni_eq {n : Nat} {f : Int} {s : Us} {a b : Tm} (h0 : 0 ≤ f) (h1 : f ≤ 4096) (ha : a.ok) (hb : b.ok) (hla : Lw f a) (hlb : Lw f b) (hx : uniU n ([], f) a b = some (.ok s)) : (asg s.1).tm a = (asg s.1).tm b ∧ Good s := by
  obtain ⟨G, _, _⟩ := uniU_good n (good_nil h0 h1) ha hb hla hlb hx
  exact ⟨((uniU_snd n (θ := asg s.1) inv_nil ha hb hx).2 (resp_self G.inv G.invR)).2, G⟩
theorem unf_swap {L M : List (List Int)} {r r' : Except Int (List Bt)} (hu : Unf L M 40 r) (hv : Unf M L 40 r') (hc : codU r = 0) : codU r' = 0 ∨ codU r' = 1003 := by
  cases hu with
  | no _ => cases hc
  | @yes t u n x h0 h1 ht htz hL hu huz hM hlt hlu hx =>
    subst hL hM
    cases x with
    | error c => have h2 := uniU_err n hx; change c = 0 at hc; unfold errC at h2; omega
    | ok s =>
      generalize hL' : t.enc 0 = L at hv
      generalize hM' : u.enc 0 = M at hv
      cases hv with
      | no h =>
        subst hL' hM'
        have h5 : unfOk (u.enc 0) (t.enc 0) 40 = true := by
          unfold unfOk
          rw [enc_typ hu huz, enc_typ ht htz, (any_low 40 u 0 hu).2 hlu, (any_low 40 t 0 ht).2 hlt]; rfl
        rw [h5] at h; cases h
      | @yes u' t' n' y _ _ hu' huz' hMq ht' htz' hLq hlu' hlt' hy =>
        obtain rfl := enc_inj hu hu' huz (hM'.trans hMq)
        obtain rfl := enc_inj ht ht' htz (hL'.trans hLq)
        obtain ⟨e, G⟩ := uni_eq h0 (by decide) ht hu hlt hlu hx
        rcases uniU_mgu n' (good_nil h0 (by decide)) hu ht hlu hlt (asg_ok G.inv.ok) (resp_nil _) e.symm hy with rfl | ⟨s2, θ', rfl, _⟩
        · exact .inr rfl
        · exact .inl rfl
theorem unf_texts {L M X Y : List (List Int)} {Ts Us : List Bt} {Ps Qs : List Bd} (hu : Unf L M 40 (.ok Ts)) (hv : Unf M L 40 (.ok Us)) (hP : Ps.map pl = Ts.map Bt.pl) (hQ : Qs.map pl = Us.map Bt.pl) (hX : subT Ps L = some X) (hY : subT Qs L = some Y) :
    ∃ p q : Tm, X = p.enc 0 ∧ Y = q.enc 0 ∧ p.ok ∧ q.ok ∧ p.sz ≤ 256 ∧ q.sz ≤ 256 ∧ (tx ([], []) p).1 = (tx ([], []) q).1 := by
  generalize hr : (Except.ok Ts : Except Int (List Bt)) = r at hu
  cases hu with
  | no _ => cases hr
  | @yes t u n x h0 h1 ht htz hL hu huz hM hlt hlu hx =>
    cases x with
    | error c => cases hr
    | ok s =>
      cases hr
      generalize hr' : (Except.ok Us : Except Int (List Bt)) = r' at hv
      cases hv with
      | no _ => cases hr'
      | @yes u' t' n' y _ _ hu' huz' hMq ht' htz' hLq hlu' hlt' hy =>
        cases y with
        | error c => cases hr'
        | ok s' =>
          cases hr'
          obtain rfl := enc_inj hu hu' huz (hM.symm.trans hMq)
          obtain rfl := enc_inj ht ht' htz (hL.symm.trans hLq)
          subst hL
          obtain ⟨e, G⟩ := uni_eq h0 (by decide) ht hu hlt hlu hx
          obtain ⟨e', G'⟩ := uni_eq h0 (by decide) hu ht hlu hlt hy
          obtain ⟨p, hp, rfl⟩ := subT_tys hP G.inv.ok hX
          obtain ⟨q, hq, rfl⟩ := subT_tys hQ G'.inv.ok hY
          obtain ⟨θ, o1, k1⟩ := swp h0 (by decide) ht hu hlt hlu hx (asg_ok G'.inv.ok) e'.symm ht hlt hp
          obtain ⟨θ', o2, k2⟩ := swp h0 (by decide) hu ht hlu hlt hy (asg_ok G.inv.ok) e.symm ht hlt hq
          rw [sub_asg G'.inv.ok ht (tys_sub hq).1] at k1
          rw [sub_asg G.inv.ok ht (tys_sub hp).1] at k2
          have po := sub_ok G.inv.ok ht (tys_sub hp).1
          exact ⟨p, q, rfl, rfl, po, sub_ok G'.inv.ok ht (tys_sub hq).1, (tys_sub hp).2, (tys_sub hq).2, tx_one o1 o2 po k1 k2⟩
end Go.Proofs.Ytlfillhffpiffaa

namespace Go.Proofs.Ytlfillhffpiffaa
set_option linter.unusedSimpArgs false
set_option linter.unusedVariables false
set_option maxRecDepth 8000
set_option maxHeartbeats 1000000
open Go Go.Fx Go.Proofs
namespace FactsUniSE
theorem ag25 : ag Try.prog 25 = some 1 := by kernel_rfl
theorem isl22 : isSl Try.prog 22 = true := by kernel_rfl
theorem zc25 : zc Try.prog 25 = some [.slice none 0 0] := by kernel_rfl
end FactsUniSE
open FactsUniSE

theorem unifySwap_law {A B : Option Addr} {ca cb : Nat} {L M : List (List Int)} (hL : Nine L) (hM : Nine M) {H : Heap} (hS : SlT H Is 9 (.slice A L.length ca) L) (hT : SlT H Is 9 (.slice B M.length cb) M) (hl : L.length * 72 ≤ 140737488351232) (hm : M.length * 72 ≤ 140737488351232) :
    Ret Try.prog 17 [Ty A L.length ca, Ty B M.length cb] H (fun v H' => v = .bool true ∧ Ext H H') := by
  obtain ⟨r, hr⟩ := unf_ex 40 hL hM
  obtain ⟨r', hr'⟩ := unf_ex 40 hM hL
  have w1 := unf_swap hr hr'
  have w2 := unf_swap hr' hr
  refine Ret.of_at (N := 88) Try.call17 Try.func17 rfl rfl rfl ?_
  have hE := Ext.refl H
  refine At.region rfl rfl ?_
  refine Reg.op rfl rfl rfl rfl (Does.box rfl rfl) ?_
  rintro _ H0_0 ⟨rfl, hn0_0⟩
  have z0_0 := hn0_0.size
  replace hE := hE.ext hn0_0.ext
  have o0_0 := hn0_0.own
  refine Reg.op rfl rfl rfl rfl (Does.box rfl rfl) ?_
  rintro _ H0_1 ⟨rfl, hn0_1⟩
  have z0_1 := hn0_1.size
  replace hE := hE.ext hn0_1.ext
  replace o0_0 := o0_0.ext hn0_1.ext
  have o0_1 := hn0_1.own
  refine Reg.pur rfl rfl rfl rfl (Pur.asg rfl) ?_
  refine Reg.nil ?_
  refine At.region rfl rfl ?_
  refine Reg.op rfl rfl rfl rfl (Does.call rfl (awake10_ok _)) ?_
  rintro _ H1_0 ⟨rfl, hE1_0⟩
  have z1_0 := hE1_0.lt
  replace hE := hE.ext hE1_0
  replace o0_0 := o0_0.ext hE1_0
  replace o0_1 := o0_1.ext hE1_0
  refine Reg.pur rfl rfl rfl rfl (Pur.not rfl) ?_
  refine Reg.nil ?_
  refine At.condF rfl rfl rfl ?_
  refine At.region rfl rfl ?_
  refine Reg.lod rfl rfl rfl rfl (Lod.ldn ag25 rfl o0_0.blk (whole rfl) rfl) ?_
  refine Reg.lod rfl rfl rfl rfl (Lod.ldn ag25 rfl o0_1.blk (whole rfl) rfl) ?_
  refine Reg.op rfl rfl rfl rfl (Does.call rfl (unify_ok hL hM (hS.ext hE) (hT.ext hE) (by omega) (by omega) hr)) ?_
  rintro v3_2 H3_2 ⟨hU, hE3_2⟩
  have z3_2 := hE3_2.lt
  replace hE := hE.ext hE3_2
  replace o0_0 := o0_0.ext hE3_2
  replace o0_1 := o0_1.ext hE3_2
  obtain ⟨A2, k2, Bs, sb2, rfl, hSl⟩ := hU.un
  have hE3 := Ext.refl H3_2
  have z_hE3 := hE3.lt
  refine Reg.pur rfl rfl rfl rfl (Pur.mv rfl) ?_
  refine Reg.pur rfl rfl rfl rfl (Pur.ext rfl rfl) ?_
  refine Reg.pur rfl rfl rfl rfl (Pur.ext rfl rfl) ?_
  refine Reg.pur rfl rfl rfl rfl (Pur.asg rfl) ?_
  refine Reg.pur rfl rfl rfl rfl (Pur.asg rfl) ?_
  refine Reg.nil ?_
  refine At.region rfl rfl ?_
  refine Reg.lod rfl rfl rfl rfl (Lod.ldn ag25 rfl o0_1.blk (whole rfl) rfl) ?_
  refine Reg.lod rfl rfl rfl rfl (Lod.ldn ag25 rfl o0_0.blk (whole rfl) rfl) ?_
  refine Reg.op rfl rfl rfl rfl (Does.call rfl (unify_ok hM hL (hT.ext hE) (hS.ext hE) (by omega) (by omega) hr')) ?_
  rintro v4_2 H4_2 ⟨hU', hE4_2⟩
  have z4_2 := hE4_2.lt
  replace hE := hE.ext hE4_2
  replace o0_0 := o0_0.ext hE4_2
  replace o0_1 := o0_1.ext hE4_2
  replace hE3 := hE3.ext hE4_2
  obtain ⟨A3, k3, Cs, sb3, rfl, hSm⟩ := hU'.un
  have hE4 := Ext.refl H4_2
  have z_hE4 := hE4.lt
  refine Reg.pur rfl rfl rfl rfl (Pur.mv rfl) ?_
  refine Reg.pur rfl rfl rfl rfl (Pur.ext rfl rfl) ?_
  refine Reg.pur rfl rfl rfl rfl (Pur.ext rfl rfl) ?_
  refine Reg.pur rfl rfl rfl rfl (Pur.asg rfl) ?_
  refine Reg.pur rfl rfl rfl rfl (Pur.asg rfl) ?_
  refine Reg.nil ?_
  refine At.region rfl rfl ?_
  refine Reg.pur rfl rfl rfl rfl (Pur.mv rfl) ?_
  refine Reg.op rfl rfl rfl rfl (Does.call rfl (numE_ok _ _)) ?_
  rintro _ H4_2 ⟨rfl, rfl⟩
  refine Reg.pur rfl rfl rfl rfl (Pur.eql rfl rfl) ?_
  refine Reg.pur rfl rfl rfl rfl (Pur.mv rfl) ?_
  refine Reg.op rfl rfl rfl rfl (Does.call rfl (numE_ok _ _)) ?_
  rintro _ H4_2 ⟨rfl, rfl⟩
  refine Reg.pur rfl rfl rfl rfl (Pur.eql rfl rfl) ?_
  refine Reg.pur rfl rfl rfl rfl (Pur.neB Try.underlying4 rfl rfl) ?_
  refine Reg.nil ?_
  refine At.cond rfl rfl (fun q37 => ?_) (fun q37 => ?_)
  · first | (simp only [decide_eq_true_eq, decide_eq_false_iff_not, Bool.not_eq_true', Bool.not_eq_false', ne_eq, Decidable.not_not, Bool.not_eq_true, Bool.not_eq_false] at q37) | (dsimp only at q37) | skip
    refine At.region rfl rfl ?_
    refine Reg.pur rfl rfl rfl rfl (Pur.mv rfl) ?_
    refine Reg.op rfl rfl rfl rfl (Does.call rfl (numE_ok _ _)) ?_
    rintro _ H4_2 ⟨rfl, rfl⟩
    refine Reg.pur rfl rfl rfl rfl (Pur.eql rfl rfl) ?_
    refine Reg.pur rfl rfl rfl rfl (Pur.mv rfl) ?_
    refine Reg.case 41 rfl (fun q41 => ?_) (fun q41 => ?_)
    · first | (simp only [decide_eq_true_eq, decide_eq_false_iff_not, Bool.not_eq_true', Bool.not_eq_false', ne_eq, Decidable.not_not, Bool.not_eq_true, Bool.not_eq_false] at q41) | (dsimp only at q41) | skip
      refine Reg.skip rfl rfl rfl rfl rfl rfl rfl ?_
      refine Reg.skip rfl rfl rfl rfl rfl rfl rfl ?_
      refine Reg.skip rfl rfl rfl rfl rfl rfl rfl ?_
      refine Reg.pur rfl rfl rfl rfl (Pur.pickT rfl rfl) ?_
      refine Reg.pur rfl rfl rfl rfl (Pur.asg rfl) ?_
      refine Reg.nil ?_
      refine At.ret rfl Try.func17 rfl ?_
      have h6 : codU r = 1003 ∨ codU r' = 1003 := by { by_cases a : codU r = 0 <;> by_cases b : codU r' = 0 <;> first | (rw [decide_eq_true a, decide_eq_true b] at q37; cases q37) | (rw [decide_eq_false a, decide_eq_false b] at q37; cases q37) | omega }
      first | exact ⟨rfl, hE⟩ | exact ⟨congrArg Value.bool (decide_eq_true (by omega)), hE⟩
    first | (simp only [decide_eq_true_eq, decide_eq_false_iff_not, Bool.not_eq_true', Bool.not_eq_false', ne_eq, Decidable.not_not, Bool.not_eq_true, Bool.not_eq_false] at q41) | (dsimp only at q41) | skip
    refine Reg.gpur rfl rfl rfl rfl rfl rfl (Pur.mv rfl) ?_
    refine Reg.gop rfl rfl rfl rfl rfl rfl (Does.call rfl (numE_ok _ _)) ?_
    rintro _ H4_2 ⟨rfl, rfl⟩
    refine Reg.gpur rfl rfl rfl rfl rfl rfl (Pur.eql rfl rfl) ?_
    refine Reg.pur rfl rfl rfl rfl (Pur.pickF rfl rfl) ?_
    refine Reg.pur rfl rfl rfl rfl (Pur.asg rfl) ?_
    refine Reg.nil ?_
    refine At.ret rfl Try.func17 rfl ?_
    have h6 : codU r = 1003 ∨ codU r' = 1003 := by { by_cases a : codU r = 0 <;> by_cases b : codU r' = 0 <;> first | (rw [decide_eq_true a, decide_eq_true b] at q37; cases q37) | (rw [decide_eq_false a, decide_eq_false b] at q37; cases q37) | omega }
    first | exact ⟨rfl, hE⟩ | exact ⟨congrArg Value.bool (decide_eq_true (by omega)), hE⟩
  first | (simp only [decide_eq_true_eq, decide_eq_false_iff_not, Bool.not_eq_true', Bool.not_eq_false', ne_eq, Decidable.not_not, Bool.not_eq_true, Bool.not_eq_false] at q37) | (dsimp only at q37) | skip
  refine At.region rfl rfl ?_
  refine Reg.pur rfl rfl rfl rfl (Pur.mv rfl) ?_
  refine Reg.op rfl rfl rfl rfl (Does.call rfl (numE_ok _ _)) ?_
  rintro _ H4_2 ⟨rfl, rfl⟩
  refine Reg.pur rfl rfl rfl rfl (Pur.neq rfl rfl) ?_
  refine Reg.nil ?_
  refine At.cond rfl rfl (fun q48 => ?_) (fun q48 => ?_)
  · first | (simp only [decide_eq_true_eq, decide_eq_false_iff_not, Bool.not_eq_true', Bool.not_eq_false', ne_eq, Decidable.not_not, Bool.not_eq_true, Bool.not_eq_false] at q48) | (dsimp only at q48) | skip
    have h8 : codU r' ≠ 0 := fun b => by (rw [decide_eq_false q48, decide_eq_true b] at q37; cases q37)
    obtain ⟨c, rfl⟩ : ∃ c, r = .error c := by { cases r with | ok Ts => exact absurd rfl q48 | error c => exact ⟨c, rfl⟩ }
    obtain ⟨c', rfl⟩ : ∃ c', r' = .error c' := by { cases r' with | ok Ts => exact absurd rfl h8 | error c => exact ⟨c, rfl⟩ }
    obtain rfl : Bs = [] := by simpa [bndU] using hSl.pl
    obtain rfl : Cs = [] := by simpa [bndU] using hSm.pl
    refine At.region rfl rfl ?_
    refine Reg.pur rfl rfl rfl rfl (Pur.mv rfl) ?_
    refine Reg.pur rfl rfl rfl rfl (Pur.lenS isl22 rfl) ?_
    refine Reg.pur rfl rfl rfl rfl (Pur.mv rfl) ?_
    refine Reg.pur rfl rfl rfl rfl (Pur.lenS isl22 rfl) ?_
    first | refine Reg.pur rfl rfl rfl rfl (Pur.add64 rfl rfl (by omega)) ?_ | refine Reg.pur rfl rfl rfl rfl (Pur.add64 rfl rfl (by assumption)) ?_ | refine Reg.pur rfl rfl rfl rfl (Pur.add rfl rfl) ?_
    refine Reg.pur rfl rfl rfl rfl (Pur.eql rfl rfl) ?_
    refine Reg.pur rfl rfl rfl rfl (Pur.asg rfl) ?_
    refine Reg.nil ?_
    refine At.ret rfl Try.func17 rfl ?_
    exact ⟨rfl, hE⟩
  first | (simp only [decide_eq_true_eq, decide_eq_false_iff_not, Bool.not_eq_true', Bool.not_eq_false', ne_eq, Decidable.not_not, Bool.not_eq_true, Bool.not_eq_false] at q48) | (dsimp only at q48) | skip
  have h9 : codU r' = 0 := Classical.byContradiction (fun b => by (rw [decide_eq_true q48, decide_eq_false b] at q37; cases q37))
  obtain ⟨Ts, rfl⟩ := unf_ok hr q48
  obtain ⟨Us, rfl⟩ := unf_ok hr' h9
  refine At.region rfl rfl ?_
  refine Reg.pur rfl rfl rfl rfl (Pur.mv rfl) ?_
  refine Reg.lod rfl rfl rfl rfl (Lod.ldn ag25 rfl o0_0.blk (whole rfl) rfl) ?_
  refine Reg.op rfl rfl rfl rfl (Does.call rfl (type_ok (hSl.ext hE3).bds (hS.ext hE) hL hl)) ?_
  rintro v9_2 H9_2 ⟨hE9_2, hT9_2⟩
  have z9_2 := hE9_2.lt
  replace hE := hE.ext hE9_2
  replace o0_0 := o0_0.ext hE9_2
  replace o0_1 := o0_1.ext hE9_2
  replace hE3 := hE3.ext hE9_2
  replace hE4 := hE4.ext hE9_2
  generalize hX : subT Bs L = X at hT9_2
  obtain ⟨A7, k7, rfl, hg7, hN7, hl7⟩ := hT9_2
  have hgl7 := hg7.lt
  have hs7 := own_sl (wide9 hN7) (by decide) hg7
  have z_hs7 := hs7.lt
  refine Reg.pur rfl rfl rfl rfl (Pur.mv rfl) ?_
  refine Reg.pur rfl rfl rfl rfl (Pur.ext rfl rfl) ?_
  refine Reg.pur rfl rfl rfl rfl (Pur.ext rfl rfl) ?_
  refine Reg.op rfl rfl rfl rfl (Does.alloc zc25) ?_
  rintro _ H9_6 ⟨rfl, hn9_6⟩
  have z9_6 := hn9_6.size
  replace hE := hE.ext hn9_6.ext
  replace o0_0 := o0_0.ext hn9_6.ext
  replace o0_1 := o0_1.ext hn9_6.ext
  replace hE3 := hE3.ext hn9_6.ext
  replace hE4 := hE4.ext hn9_6.ext
  replace hs7 := hs7.ext hn9_6.ext
  have o9_6 := hn9_6.own
  refine Reg.op0 rfl rfl rfl (Does.stn ag25 rfl rfl (by first | rfl | exact ones_Is _) (by first | rfl | (simp [*]; done)) o9_6 (by first | decide | (simp; done) | (simp; omega) | omega)) ?_
  rintro _ H9_7 hu9_7
  have z9_7 := hu9_7.size
  replace hE := hE.upw hu9_7 (by omega)
  replace o0_0 := o0_0.upw hu9_7 (by omega)
  replace o0_1 := o0_1.upw hu9_7 (by omega)
  replace hE3 := hE3.upw hu9_7 (by omega)
  replace hE4 := hE4.upw hu9_7 (by omega)
  replace hs7 := hs7.upw hu9_7 (by omega)
  replace o9_6 := hu9_7.own
  first | rw [over (by first | rfl | (simp; done))] at o9_6 | skip
  refine Reg.pur rfl rfl rfl rfl (Pur.asg rfl) ?_
  refine Reg.nil ?_
  refine At.region rfl rfl ?_
  refine Reg.pur rfl rfl rfl rfl (Pur.mv rfl) ?_
  refine Reg.lod rfl rfl rfl rfl (Lod.ldn ag25 rfl o0_0.blk (whole rfl) rfl) ?_
  refine Reg.op rfl rfl rfl rfl (Does.call rfl (type_ok (hSm.ext hE4).bds (hS.ext hE) hL hl)) ?_
  rintro v10_2 H10_2 ⟨hE10_2, hT10_2⟩
  have z10_2 := hE10_2.lt
  replace hE := hE.ext hE10_2
  replace o0_0 := o0_0.ext hE10_2
  replace o0_1 := o0_1.ext hE10_2
  replace hE3 := hE3.ext hE10_2
  replace hE4 := hE4.ext hE10_2
  replace hs7 := hs7.ext hE10_2
  replace o9_6 := o9_6.ext hE10_2
  generalize hY : subT Cs L = Y at hT10_2
  obtain ⟨A9, k9, rfl, hg9, hN9, hl9⟩ := hT10_2
  have hgl9 := hg9.lt
  have hs9 := own_sl (wide9 hN9) (by decide) hg9
  have z_hs9 := hs9.lt
  refine Reg.pur rfl rfl rfl rfl (Pur.mv rfl) ?_
  refine Reg.pur rfl rfl rfl rfl (Pur.ext rfl rfl) ?_
  refine Reg.pur rfl rfl rfl rfl (Pur.ext rfl rfl) ?_
  refine Reg.op rfl rfl rfl rfl (Does.alloc zc25) ?_
  rintro _ H10_6 ⟨rfl, hn10_6⟩
  have z10_6 := hn10_6.size
  replace hE := hE.ext hn10_6.ext
  replace o0_0 := o0_0.ext hn10_6.ext
  replace o0_1 := o0_1.ext hn10_6.ext
  replace hE3 := hE3.ext hn10_6.ext
  replace hE4 := hE4.ext hn10_6.ext
  replace hs7 := hs7.ext hn10_6.ext
  replace o9_6 := o9_6.ext hn10_6.ext
  replace hs9 := hs9.ext hn10_6.ext
  have o10_6 := hn10_6.own
  refine Reg.op0 rfl rfl rfl (Does.stn ag25 rfl rfl (by first | rfl | exact ones_Is _) (by first | rfl | (simp [*]; done)) o10_6 (by first | decide | (simp; done) | (simp; omega) | omega)) ?_
  rintro _ H10_7 hu10_7
  have z10_7 := hu10_7.size
  replace hE := hE.upw hu10_7 (by omega)
  replace o0_0 := o0_0.upw hu10_7 (by omega)
  replace o0_1 := o0_1.upw hu10_7 (by omega)
  replace hE3 := hE3.upw hu10_7 (by omega)
  replace hE4 := hE4.upw hu10_7 (by omega)
  replace hs7 := hs7.upw hu10_7 (by omega)
  replace o9_6 := o9_6.upw hu10_7 (by omega)
  replace hs9 := hs9.upw hu10_7 (by omega)
  replace o10_6 := hu10_7.own
  first | rw [over (by first | rfl | (simp; done))] at o10_6 | skip
  refine Reg.pur rfl rfl rfl rfl (Pur.asg rfl) ?_
  refine Reg.nil ?_
  refine At.region rfl rfl ?_
  refine Reg.pur rfl rfl rfl rfl (Pur.mv rfl) ?_
  refine Reg.op rfl rfl rfl rfl (Does.call rfl (numE_ok _ _)) ?_
  rintro _ H10_7 ⟨rfl, rfl⟩
  refine Reg.pur rfl rfl rfl rfl (Pur.neq rfl rfl) ?_
  refine Reg.pur rfl rfl rfl rfl (Pur.mv rfl) ?_
  refine Reg.case 70 rfl (fun q70 => ?_) (fun q70 => ?_)
  · first | (simp only [decide_eq_true_eq, decide_eq_false_iff_not, Bool.not_eq_true', Bool.not_eq_false', ne_eq, Decidable.not_not, Bool.not_eq_true, Bool.not_eq_false] at q70) | (dsimp only at q70) | skip
    refine Reg.skip rfl rfl rfl rfl rfl rfl rfl ?_
    refine Reg.skip rfl rfl rfl rfl rfl rfl rfl ?_
    refine Reg.skip rfl rfl rfl rfl rfl rfl rfl ?_
    refine Reg.pur rfl rfl rfl rfl (Pur.pickT rfl rfl) ?_
    refine Reg.nil ?_
    refine At.condT rfl rfl rfl ?_
    refine At.region rfl rfl ?_
    refine Reg.pur rfl rfl rfl rfl (Pur.asg rfl) ?_
    refine Reg.nil ?_
    refine At.ret rfl Try.func17 rfl ?_
    exact ⟨rfl, hE⟩
  first | (simp only [decide_eq_true_eq, decide_eq_false_iff_not, Bool.not_eq_true', Bool.not_eq_false', ne_eq, Decidable.not_not, Bool.not_eq_true, Bool.not_eq_false] at q70) | (dsimp only at q70) | skip
  refine Reg.gpur rfl rfl rfl rfl rfl rfl (Pur.mv rfl) ?_
  refine Reg.gop rfl rfl rfl rfl rfl rfl (Does.call rfl (numE_ok _ _)) ?_
  rintro _ H10_7 ⟨rfl, rfl⟩
  refine Reg.gpur rfl rfl rfl rfl rfl rfl (Pur.neq rfl rfl) ?_
  refine Reg.pur rfl rfl rfl rfl (Pur.pickF rfl rfl) ?_
  refine Reg.nil ?_
  refine At.cond rfl rfl (fun q74 => ?_) (fun q74 => ?_)
  · first | (simp only [decide_eq_true_eq, decide_eq_false_iff_not, Bool.not_eq_true', Bool.not_eq_false', ne_eq, Decidable.not_not, Bool.not_eq_true, Bool.not_eq_false] at q74) | (dsimp only at q74) | skip
    refine At.region rfl rfl ?_
    refine Reg.pur rfl rfl rfl rfl (Pur.asg rfl) ?_
    refine Reg.nil ?_
    refine At.ret rfl Try.func17 rfl ?_
    exact ⟨rfl, hE⟩
  first | (simp only [decide_eq_true_eq, decide_eq_false_iff_not, Bool.not_eq_true', Bool.not_eq_false', ne_eq, Decidable.not_not, Bool.not_eq_true, Bool.not_eq_false] at q74) | (dsimp only at q74) | skip
  obtain ⟨X1, rfl⟩ : ∃ X1, X = some X1 := by { cases X with | none => cases q70 | some X1 => exact ⟨X1, rfl⟩ }
  obtain ⟨Y1, rfl⟩ : ∃ Y1, Y = some Y1 := by { cases Y with | none => cases q74 | some Y1 => exact ⟨Y1, rfl⟩ }
  obtain ⟨p, q, rfl, rfl, po, qo, hpz, hqz, htx⟩ := unf_texts hr hr' hSl.pl hSm.pl hX hY
  refine At.region rfl rfl ?_
  refine Reg.lod rfl rfl rfl rfl (Lod.ldn ag25 rfl o9_6.blk (whole rfl) rfl) ?_
  refine Reg.op rfl rfl rfl rfl (Does.call rfl (typeText_ok po hpz hs7)) ?_
  rintro _ H13_1 ⟨rfl, hE13_1⟩
  have z13_1 := hE13_1.lt
  replace hE := hE.ext hE13_1
  replace o0_0 := o0_0.ext hE13_1
  replace o0_1 := o0_1.ext hE13_1
  replace hE3 := hE3.ext hE13_1
  replace hE4 := hE4.ext hE13_1
  replace hs7 := hs7.ext hE13_1
  replace o9_6 := o9_6.ext hE13_1
  replace hs9 := hs9.ext hE13_1
  replace o10_6 := o10_6.ext hE13_1
  refine Reg.pur rfl rfl rfl rfl (Pur.mv rfl) ?_
  refine Reg.pur rfl rfl rfl rfl (Pur.ext rfl rfl) ?_
  refine Reg.pur rfl rfl rfl rfl (Pur.ext rfl rfl) ?_
  refine Reg.pur rfl rfl rfl rfl (Pur.asg rfl) ?_
  refine Reg.pur rfl rfl rfl rfl (Pur.asg rfl) ?_
  refine Reg.nil ?_
  refine At.region rfl rfl ?_
  refine Reg.lod rfl rfl rfl rfl (Lod.ldn ag25 rfl o10_6.blk (whole rfl) rfl) ?_
  refine Reg.op rfl rfl rfl rfl (Does.call rfl (typeText_ok qo hqz hs9)) ?_
  rintro _ H14_1 ⟨rfl, hE14_1⟩
  have z14_1 := hE14_1.lt
  replace hE := hE.ext hE14_1
  replace o0_0 := o0_0.ext hE14_1
  replace o0_1 := o0_1.ext hE14_1
  replace hE3 := hE3.ext hE14_1
  replace hE4 := hE4.ext hE14_1
  replace hs7 := hs7.ext hE14_1
  replace o9_6 := o9_6.ext hE14_1
  replace hs9 := hs9.ext hE14_1
  replace o10_6 := o10_6.ext hE14_1
  refine Reg.pur rfl rfl rfl rfl (Pur.mv rfl) ?_
  refine Reg.pur rfl rfl rfl rfl (Pur.ext rfl rfl) ?_
  refine Reg.pur rfl rfl rfl rfl (Pur.ext rfl rfl) ?_
  refine Reg.pur rfl rfl rfl rfl (Pur.asg rfl) ?_
  refine Reg.pur rfl rfl rfl rfl (Pur.asg rfl) ?_
  refine Reg.nil ?_
  refine At.region rfl rfl ?_
  refine Reg.pur rfl rfl rfl rfl (Pur.mv rfl) ?_
  refine Reg.pur rfl rfl rfl rfl (Pur.mv rfl) ?_
  refine Reg.pur rfl rfl rfl rfl (Pur.eqS rfl rfl) ?_
  refine Reg.pur rfl rfl rfl rfl (Pur.asg rfl) ?_
  refine Reg.nil ?_
  refine At.ret rfl Try.func17 rfl ?_
  exact ⟨by rw [htx]; simp, hE⟩
end Go.Proofs.Ytlfillhffpiffaa

