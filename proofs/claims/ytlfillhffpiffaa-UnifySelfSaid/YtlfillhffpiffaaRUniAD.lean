/-
  Chapter 10: a type and itself; a variable that is not there.
-/
import Derived.Test.YtlfillhffpiffaaR6
namespace Go.Proofs.Ytlfillhffpiffaa
set_option linter.unusedSimpArgs false
set_option linter.unusedVariables false
set_option maxRecDepth 8000
set_option maxHeartbeats 1000000
open Go Go.Fx Go.Proofs
namespace FactsUniAD
theorem ag25 : ag Try.prog 25 = some 1 := by kernel_rfl
theorem es22 : esz Try.prog 22 = some 8 := by kernel_rfl
theorem es23 : esz Try.prog 23 = some 9 := by kernel_rfl
theorem fo25_0 : foff Try.prog 25 0 = some 0 := by kernel_rfl
theorem fo47_0 : foff Try.prog 47 0 = some 0 := by kernel_rfl
theorem fo47_1 : foff Try.prog 47 1 = some 1 := by kernel_rfl
theorem fo49_0 : foff Try.prog 49 0 = some 0 := by kernel_rfl
theorem fo49_2 : foff Try.prog 49 2 = some 2 := by kernel_rfl
theorem isl22 : isSl Try.prog 22 = true := by kernel_rfl
theorem isl23 : isSl Try.prog 23 = true := by kernel_rfl
theorem mixed : Try.prog.follows .mixedOrders = true := by kernel_rfl
theorem sc23 : sc Try.prog 23 = true := by kernel_rfl
theorem sc3 : sc Try.prog 3 = true := by kernel_rfl
end FactsUniAD
open FactsUniAD

theorem varOk {v : Int} (h0 : 0 ≤ v) (h1 : v < 4096) : (Tm.var v).ok := ⟨h0, h1⟩
theorem lw_var (f v : Int) : Lw f (.var v) := fun _ _ => rfl
/-- what a type and itself come to -/
theorem unf_self {t : Tm} (ht : t.ok) (hz : t.sz ≤ 256) (hl : Lw 40 t) : Unf (t.enc 0) (t.enc 0) 40 (.ok []) := .yes (by decide) (by decide) ht hz rfl ht hz rfl hl hl (uniU_self t.sz t 40 ht hz hl (by decide) (by decide) (Nat.le_refl _))
theorem unf_new {x : Int} {t : Tm} (hx : 0 ≤ x ∧ x < 4096) (ht : t.ok) (hz : t.sz ≤ 256) (hl : Lw 40 t) (ho : occ x t = false) : Unf ((Tm.var x).enc 0) (t.enc 0) 40 (.ok [.t x t]) := .yes (by decide) (by decide) (varOk hx.1 hx.2) (show (1 : Nat) ≤ 256 by decide) rfl ht hz rfl (lw_var _ _) hl (uniU_new ho hz)
theorem unf_new' {x : Int} {t : Tm} (hx : 0 ≤ x ∧ x < 4096) (ht : t.ok) (hz : t.sz ≤ 256) (hl : Lw 40 t) (ho : occ x t = false) : Unf (t.enc 0) ((Tm.var x).enc 0) 40 (.ok [.t x t]) ∨ ∃ w, t = .var w ∧ Unf (t.enc 0) ((Tm.var x).enc 0) 40 (.ok [.t w (.var x)]) := by
  rcases uniU_new' (f := 40) ho hz with h | ⟨w, hw, h⟩
  · exact .inl (.yes (by decide) (by decide) ht hz rfl (varOk hx.1 hx.2) (show (1 : Nat) ≤ 256 by decide) rfl hl (lw_var _ _) h)
  · exact .inr ⟨w, hw, .yes (by decide) (by decide) ht hz rfl (varOk hx.1 hx.2) (show (1 : Nat) ≤ 256 by decide) rfl hl (lw_var _ _) h⟩
/-- the four results -/
structure SelfR (L : List (List Int)) (x : Int) (r1 r2 r3 : Except Int (List Bt)) : Prop where
  a : Unf L L 40 r1
  b : Unf [vNode x] L 40 r2
  c : Unf L [vNode x] 40 r3
  d : (r1 = .error 1000 ∧ r2 = .error 1000 ∧ r3 = .error 1000) ∨ ∃ t w y, L = t.enc 0 ∧ r1 = .ok [] ∧ r2 = .ok [.t x t] ∧ r3 = .ok [.t w y] ∧ (y = t ∨ y = .var x)
theorem self_ex {L : List (List Int)} (hL : Nine L) {x : Int} (hx : 0 ≤ x ∧ x < 4096) (hn : L.any (pVar x) = false) : ∃ r1 r2 r3, SelfR L x r1 r2 r3 := by
  have h9 : Nine [vNode x] := nine_lit rfl
  cases hok : typM L && !L.any (pLow 40) with
  | false =>
    refine ⟨_, _, _, .no ?_, .no ?_, .no ?_, .inl ⟨rfl, rfl, rfl⟩⟩ <;> unfold unfOk <;> generalize typM L = a at * <;> generalize L.any (pLow 40) = b at * <;> cases a <;> cases b <;> simp at *
  | true =>
    simp only [Bool.and_eq_true, Bool.not_eq_true'] at hok
    obtain ⟨t, ht, rfl, hz⟩ := typ_dec hL hok.1
    have hl := (any_low 40 t 0 ht).1 hok.2
    have ho : occ x t = false := by rw [← any_var x t 0]; exact hn
    rcases unf_new' hx ht hz hl ho with h | ⟨w, hw, h⟩
    · exact ⟨_, _, _, unf_self ht hz hl, unf_new hx ht hz hl ho, h, .inr ⟨t, x, t, rfl, rfl, rfl, rfl, .inl rfl⟩⟩
    · exact ⟨_, _, _, unf_self ht hz hl, unf_new hx ht hz hl ho, h, .inr ⟨t, w, .var x, rfl, rfl, rfl, rfl, .inr rfl⟩⟩
theorem one_pl {Bs : List Bd} {x : Int × Bool × List (List Int) × List Int} (h : Bs.map pl = [x]) : ∃ a, Bs = [a] ∧ pl a = x := by
  match Bs, h with
  | [a], h => exact ⟨a, rfl, by simpa using h⟩
  | [], h => simp at h
  | _ :: _ :: _, h => simp at h
theorem and_rng (k : Int) : 0 ≤ 1000 + bits .and .i64 k 1023 ∧ 1000 + bits .and .i64 k 1023 < 4096 := by
  have h := and_le k 1023 (by decide)
  change 0 ≤ bits .and .i64 k (1023 : Int) ∧ bits .and .i64 k (1023 : Int) ≤ (1023 : Int) at h
  omega
theorem unifySelf_law {A : Option Addr} {ca : Nat} {L : List (List Int)} (hL : Nine L) {H : Heap} (hS : SlT H Is 9 (.slice A L.length ca) L) (hl : L.length * 72 ≤ 140737488351232) (k : Int) :
    Ret Try.prog 12 [Ty A L.length ca, I k] H (fun v H' => v = .bool true ∧ Ext H H') := by
  obtain ⟨r, hr⟩ := unf_ex 40 hL hL
  have hrg := and_rng k
  refine Ret.of_at (N := 165) Try.call12 Try.func12 rfl rfl rfl ?_
  have hE := Ext.refl H
  refine At.region rfl rfl ?_
  refine Reg.op rfl rfl rfl rfl (Does.box rfl rfl) ?_
  rintro _ H0_0 ⟨rfl, hn0_0⟩
  have z0_0 := hn0_0.size
  replace hE := hE.ext hn0_0.ext
  have o0_0 := hn0_0.own
  refine Reg.pur rfl rfl rfl rfl (Pur.asg rfl) ?_
  refine Reg.nil ?_
  refine At.region rfl rfl ?_
  refine Reg.op rfl rfl rfl rfl (Does.call rfl (awake10_ok _)) ?_
  rintro _ H1_0 ⟨rfl, hE1_0⟩
  have z1_0 := hE1_0.lt
  replace hE := hE.ext hE1_0
  replace o0_0 := o0_0.ext hE1_0
  refine Reg.pur rfl rfl rfl rfl (Pur.not rfl) ?_
  refine Reg.nil ?_
  refine At.condF rfl rfl rfl ?_
  refine At.region rfl rfl ?_
  refine Reg.lod rfl rfl rfl rfl (Lod.ldn ag25 rfl o0_0.blk (whole rfl) rfl) ?_
  refine Reg.lod rfl rfl rfl rfl (Lod.ldn ag25 rfl o0_0.blk (whole rfl) rfl) ?_
  refine Reg.op rfl rfl rfl rfl (Does.call rfl (unify_ok hL hL (hS.ext hE) (hS.ext hE) (by omega) (by omega) hr)) ?_
  rintro v3_2 H3_2 ⟨hU, hE3_2⟩
  have z3_2 := hE3_2.lt
  replace hE := hE.ext hE3_2
  replace o0_0 := o0_0.ext hE3_2
  obtain ⟨A2, k2, Bs, sb2, rfl, hSl⟩ := hU.un
  have z_hSl := hSl.lt
  refine Reg.pur rfl rfl rfl rfl (Pur.mv rfl) ?_
  refine Reg.pur rfl rfl rfl rfl (Pur.ext rfl rfl) ?_
  refine Reg.pur rfl rfl rfl rfl (Pur.ext rfl rfl) ?_
  refine Reg.pur rfl rfl rfl rfl (Pur.asg rfl) ?_
  refine Reg.pur rfl rfl rfl rfl (Pur.asg rfl) ?_
  refine Reg.nil ?_
  refine At.region rfl rfl ?_
  refine Reg.pur rfl rfl rfl rfl (Pur.mv rfl) ?_
  refine Reg.pur rfl rfl rfl rfl (Pur.and rfl rfl) ?_
  first | refine Reg.pur rfl rfl rfl rfl (Pur.add64 rfl rfl (by omega)) ?_ | refine Reg.pur rfl rfl rfl rfl (Pur.add64 rfl rfl (by assumption)) ?_ | refine Reg.pur rfl rfl rfl rfl (Pur.add rfl rfl) ?_
  refine Reg.pur rfl rfl rfl rfl (Pur.asg rfl) ?_
  refine Reg.nil ?_
  refine At.region rfl rfl ?_
  refine Reg.pur rfl rfl rfl rfl (Pur.asg rfl) ?_
  refine Reg.nil ?_
  generalize hx : 1000 + bits .and .i64 k 1023 = x at *
  refine At.loop (σ := Nat) (fun i => [(8, I i), (7, I x), (2, ptr H.size 0), (5, .slice A2 Bs.length k2), (6, I (codU r))]) (fun i H' => i ≤ L.length ∧ H' = H3_2 ∧ (L.take i).any (pVar x) = false) (fun i => L.length - i) 0 rfl ⟨rfl, rfl, rfl, rfl, rfl, trivial⟩ ⟨by omega, rfl, rfl⟩ ?_
  rintro i H3 ⟨hi, rfl, hgo⟩ ih
  refine At.region rfl rfl ?_
  refine Reg.pur rfl rfl rfl rfl (Pur.mv rfl) ?_
  refine Reg.pur rfl rfl rfl rfl (Pur.fld _ fo25_0 rfl) ?_
  refine Reg.lod rfl rfl rfl rfl (Lod.ld sc23 rfl o0_0.blk rfl) ?_
  refine Reg.pur rfl rfl rfl rfl (Pur.lenS isl23 rfl) ?_
  refine Reg.pur rfl rfl rfl rfl (Pur.lss rfl rfl) ?_
  refine Reg.nil ?_
  refine At.cond rfl rfl (fun q28 => ?_) (fun q28 => ?_)
  · first | (simp only [decide_eq_true_eq, decide_eq_false_iff_not, Bool.not_eq_true', Bool.not_eq_false', ne_eq, Decidable.not_not, Bool.not_eq_true, Bool.not_eq_false] at q28) | (dsimp only at q28) | skip
    have hlt : i < L.length := by omega
    obtain ⟨b, o, c, rfl, hB, hd, hx9, hat⟩ := el_cells hL (hS.ext hE) (z := (i : Int)) (by omega) (by omega)
    rw [el_nat hlt] at hd hx9 hat
    have hany := any_take1 (p := pVar x) hlt
    rw [hgo] at hany
    refine At.region rfl rfl ?_
    refine Reg.pur rfl rfl rfl rfl (Pur.fld _ fo25_0 rfl) ?_
    refine Reg.lod rfl rfl rfl rfl (Lod.ld sc23 rfl o0_0.blk rfl) ?_
    refine Reg.pur rfl rfl rfl rfl (Pur.mv rfl) ?_
    refine Reg.pur rfl rfl rfl rfl (Pur.idx _ es23 rfl rfl (by omega) (by omega)) ?_
    refine Reg.pur rfl rfl rfl rfl (Pur.fld _ fo47_0 rfl) ?_
    refine Reg.lod rfl rfl rfl rfl (Lod.ld sc3 rfl hB (hat 0 (by decide))) ?_
    refine Reg.pur rfl rfl rfl rfl (Pur.eql rfl rfl) ?_
    refine Reg.pur rfl rfl rfl rfl (Pur.mv rfl) ?_
    refine Reg.case 38 rfl (fun q38 => ?_) (fun q38 => ?_)
    · first | (simp only [decide_eq_true_eq, decide_eq_false_iff_not, Bool.not_eq_true', Bool.not_eq_false', ne_eq, Decidable.not_not, Bool.not_eq_true, Bool.not_eq_false] at q38) | (dsimp only at q38) | skip
      refine Reg.gpur rfl rfl rfl rfl rfl rfl (Pur.fld _ fo25_0 rfl) ?_
      refine Reg.glod rfl rfl rfl rfl rfl rfl (Lod.ld sc23 rfl o0_0.blk rfl) ?_
      refine Reg.gpur rfl rfl rfl rfl rfl rfl (Pur.mv rfl) ?_
      refine Reg.gpur rfl rfl rfl rfl rfl rfl (Pur.idx _ es23 rfl rfl (by omega) (by omega)) ?_
      refine Reg.gpur rfl rfl rfl rfl rfl rfl (Pur.fld _ fo47_1 rfl) ?_
      refine Reg.glod rfl rfl rfl rfl rfl rfl (Lod.ld sc3 rfl hB (hat 1 (by decide))) ?_
      refine Reg.gpur rfl rfl rfl rfl rfl rfl (Pur.mv rfl) ?_
      refine Reg.gpur rfl rfl rfl rfl rfl rfl (Pur.eql rfl rfl) ?_
      refine Reg.pur rfl rfl rfl rfl (Pur.pickT rfl rfl) ?_
      refine Reg.nil ?_
      refine At.cond rfl rfl (fun q47 => ?_) (fun q47 => ?_)
      · first | (simp only [decide_eq_true_eq, decide_eq_false_iff_not, Bool.not_eq_true', Bool.not_eq_false', ne_eq, Decidable.not_not, Bool.not_eq_true, Bool.not_eq_false] at q47) | (dsimp only at q47) | skip
        refine At.region rfl rfl ?_
        refine Reg.pur rfl rfl rfl rfl (Pur.asg rfl) ?_
        refine Reg.nil ?_
        refine At.ret rfl Try.func12 rfl ?_
        exact ⟨rfl, hE⟩
      first | (simp only [decide_eq_true_eq, decide_eq_false_iff_not, Bool.not_eq_true', Bool.not_eq_false', ne_eq, Decidable.not_not, Bool.not_eq_true, Bool.not_eq_false] at q47) | (dsimp only at q47) | skip
      refine At.region rfl rfl ?_
      refine Reg.pur rfl rfl rfl rfl (Pur.mv rfl) ?_
      first | refine Reg.pur rfl rfl rfl rfl (Pur.add64 rfl rfl (by omega)) ?_ | refine Reg.pur rfl rfl rfl rfl (Pur.add64 rfl rfl (by assumption)) ?_ | refine Reg.pur rfl rfl rfl rfl (Pur.add rfl rfl) ?_
      refine Reg.pur rfl rfl rfl rfl (Pur.asg rfl) ?_
      refine Reg.nil ?_
      have hp : pVar x L[i] = false := by unfold pVar; first | (rw [decide_eq_false q38]; rfl) | (rw [decide_eq_false q47]; exact Bool.and_false _)
      exact At.via (ih (i + 1) _ ⟨by omega, rfl, by rw [hany, hp]; rfl⟩ (by omega)) ⟨rfl, rfl, rfl, rfl, rfl, trivial⟩
    first | (simp only [decide_eq_true_eq, decide_eq_false_iff_not, Bool.not_eq_true', Bool.not_eq_false', ne_eq, Decidable.not_not, Bool.not_eq_true, Bool.not_eq_false] at q38) | (dsimp only at q38) | skip
    refine Reg.skip rfl rfl rfl rfl rfl rfl rfl ?_
    refine Reg.skip rfl rfl rfl rfl rfl rfl rfl ?_
    refine Reg.skip rfl rfl rfl rfl rfl rfl rfl ?_
    refine Reg.skip rfl rfl rfl rfl rfl rfl rfl ?_
    refine Reg.skip rfl rfl rfl rfl rfl rfl rfl ?_
    refine Reg.skip rfl rfl rfl rfl rfl rfl rfl ?_
    refine Reg.skip rfl rfl rfl rfl rfl rfl rfl ?_
    refine Reg.skip rfl rfl rfl rfl rfl rfl rfl ?_
    refine Reg.pur rfl rfl rfl rfl (Pur.pickF rfl rfl) ?_
    refine Reg.nil ?_
    refine At.condF rfl rfl rfl ?_
    refine At.region rfl rfl ?_
    refine Reg.pur rfl rfl rfl rfl (Pur.mv rfl) ?_
    first | refine Reg.pur rfl rfl rfl rfl (Pur.add64 rfl rfl (by omega)) ?_ | refine Reg.pur rfl rfl rfl rfl (Pur.add64 rfl rfl (by assumption)) ?_ | refine Reg.pur rfl rfl rfl rfl (Pur.add rfl rfl) ?_
    refine Reg.pur rfl rfl rfl rfl (Pur.asg rfl) ?_
    refine Reg.nil ?_
    have hp : pVar x L[i] = false := by unfold pVar; first | (rw [decide_eq_false q38]; rfl) | (rw [decide_eq_false q47]; exact Bool.and_false _)
    exact At.via (ih (i + 1) _ ⟨by omega, rfl, by rw [hany, hp]; rfl⟩ (by omega)) ⟨rfl, rfl, rfl, rfl, rfl, trivial⟩
  first | (simp only [decide_eq_true_eq, decide_eq_false_iff_not, Bool.not_eq_true', Bool.not_eq_false', ne_eq, Decidable.not_not, Bool.not_eq_true, Bool.not_eq_false] at q28) | (dsimp only at q28) | skip
  rw [List.take_of_length_le (by omega)] at hgo
  obtain ⟨r1, r2, r3, hsr⟩ := self_ex hL hrg hgo
  obtain rfl := unf_fun hr hsr.a
  refine At.drawE ((Bks.cons o0_0.blk Bks.nil)) [3] mixed rfl rfl ?_
  refine RegD.tpur (i := 0) rfl rfl rfl rfl (by kernel_rfl) (Pur.mv rfl) ?_
  refine RegD.take (i := 2) rfl rfl rfl rfl (by kernel_rfl) (Bks.cons o0_0.blk Bks.nil) (fun H hS => Lod.ldn ag25 rfl hS.hd (whole rfl) rfl) ?_
  refine RegD.one (i := 1) (by kernel_rfl) rfl rfl rfl rfl (Does.call rfl (v10_ok x _)) ?_
  rintro v10_1 H10_1 ⟨⟨Aa, ca2, rfl, hSa, hfa⟩, hE10_1⟩
  have z10_1 := hE10_1.lt
  replace hE := hE.ext hE10_1
  replace o0_0 := o0_0.ext hE10_1
  replace hSl := hSl.ext hE10_1
  have z_hSa := hSa.lt
  refine ⟨fun _ _ => (Bks.cons o0_0.blk Bks.nil), ?_⟩
  refine RegD.one (i := 3) (by kernel_rfl) rfl rfl rfl rfl (Does.call rfl (unify_ok (nine_lit rfl) hL hSa (hS.ext hE) (show (1 : Nat) ≤ 9223372036854775807 by decide) (by omega) hsr.b)) ?_
  rintro v10_3 H10_3 ⟨hU2, hE10_3⟩
  have z10_3 := hE10_3.lt
  replace hE := hE.ext hE10_3
  replace o0_0 := o0_0.ext hE10_3
  replace hSl := hSl.ext hE10_3
  replace hSa := hSa.ext hE10_3
  obtain ⟨A3, k3, Cs, sb3, rfl, hSl2⟩ := hU2.un
  have z_hSl2 := hSl2.lt
  refine ⟨fun h => (by cases h), ?_⟩
  refine RegD.tpur (i := 4) rfl rfl rfl rfl (by kernel_rfl) (Pur.mv rfl) ?_
  refine RegD.tpur (i := 5) rfl rfl rfl rfl (by kernel_rfl) (Pur.ext rfl rfl) ?_
  refine RegD.tpur (i := 6) rfl rfl rfl rfl (by kernel_rfl) (Pur.ext rfl rfl) ?_
  refine RegD.tpur (i := 7) rfl rfl rfl rfl (by kernel_rfl) (Pur.asg rfl) ?_
  refine RegD.tpur (i := 8) rfl rfl rfl rfl (by kernel_rfl) (Pur.asg rfl) ?_
  refine RegD.done (by kernel_rfl) ?_
  refine At.drawE ((Bks.cons o0_0.blk Bks.nil)) [3] mixed rfl rfl ?_
  refine RegD.take (i := 0) rfl rfl rfl rfl (by kernel_rfl) (Bks.cons o0_0.blk Bks.nil) (fun H hS => Lod.ldn ag25 rfl hS.hd (whole rfl) rfl) ?_
  refine RegD.tpur (i := 1) rfl rfl rfl rfl (by kernel_rfl) (Pur.mv rfl) ?_
  refine RegD.one (i := 2) (by kernel_rfl) rfl rfl rfl rfl (Does.call rfl (v10_ok x _)) ?_
  rintro v11_2 H11_2 ⟨⟨Ab, cb2, rfl, hSb, hfb⟩, hE11_2⟩
  have z11_2 := hE11_2.lt
  replace hE := hE.ext hE11_2
  replace o0_0 := o0_0.ext hE11_2
  replace hSl := hSl.ext hE11_2
  replace hSa := hSa.ext hE11_2
  replace hSl2 := hSl2.ext hE11_2
  have z_hSb := hSb.lt
  refine ⟨fun _ _ => (Bks.cons o0_0.blk Bks.nil), ?_⟩
  refine RegD.one (i := 3) (by kernel_rfl) rfl rfl rfl rfl (Does.call rfl (unify_ok hL (nine_lit rfl) (hS.ext hE) hSb (by omega) (show (1 : Nat) ≤ 9223372036854775807 by decide) hsr.c)) ?_
  rintro v11_3 H11_3 ⟨hU3, hE11_3⟩
  have z11_3 := hE11_3.lt
  replace hE := hE.ext hE11_3
  replace o0_0 := o0_0.ext hE11_3
  replace hSl := hSl.ext hE11_3
  replace hSa := hSa.ext hE11_3
  replace hSl2 := hSl2.ext hE11_3
  replace hSb := hSb.ext hE11_3
  obtain ⟨A4, k4, Ds, sb4, rfl, hSl3⟩ := hU3.un
  have z_hSl3 := hSl3.lt
  refine ⟨fun h => (by cases h), ?_⟩
  refine RegD.tpur (i := 4) rfl rfl rfl rfl (by kernel_rfl) (Pur.mv rfl) ?_
  refine RegD.tpur (i := 5) rfl rfl rfl rfl (by kernel_rfl) (Pur.ext rfl rfl) ?_
  refine RegD.tpur (i := 6) rfl rfl rfl rfl (by kernel_rfl) (Pur.ext rfl rfl) ?_
  refine RegD.tpur (i := 7) rfl rfl rfl rfl (by kernel_rfl) (Pur.asg rfl) ?_
  refine RegD.tpur (i := 8) rfl rfl rfl rfl (by kernel_rfl) (Pur.asg rfl) ?_
  refine RegD.done (by kernel_rfl) ?_
  refine At.region rfl rfl ?_
  refine Reg.pur rfl rfl rfl rfl (Pur.mv rfl) ?_
  refine Reg.op rfl rfl rfl rfl (Does.call rfl (numE_ok _ _)) ?_
  rintro _ H11_3 ⟨rfl, rfl⟩
  refine Reg.pur rfl rfl rfl rfl (Pur.neq rfl rfl) ?_
  refine Reg.nil ?_
  refine At.cond rfl rfl (fun q64 => ?_) (fun q64 => ?_)
  · first | (simp only [decide_eq_true_eq, decide_eq_false_iff_not, Bool.not_eq_true', Bool.not_eq_false', ne_eq, Decidable.not_not, Bool.not_eq_true, Bool.not_eq_false] at q64) | (dsimp only at q64) | skip
    have hd := hsr.d
    clear hsr hr hU hU2 hU3
    obtain ⟨rfl, rfl, rfl⟩ := hd.resolve_right (by rintro ⟨t, w, y, _, rfl, _⟩; exact q64 rfl)
    refine At.region rfl rfl ?_
    refine Reg.pur rfl rfl rfl rfl (Pur.mv rfl) ?_
    refine Reg.op rfl rfl rfl rfl (Does.call rfl (numE_ok _ _)) ?_
    rintro _ H11_3 ⟨rfl, rfl⟩
    refine Reg.pur rfl rfl rfl rfl (Pur.eql rfl rfl) ?_
    refine Reg.pur rfl rfl rfl rfl (Pur.mv rfl) ?_
    refine Reg.known (b' := true) 68 rfl rfl ?_
    refine Reg.gpur rfl rfl rfl rfl rfl rfl (Pur.mv rfl) ?_
    refine Reg.gop rfl rfl rfl rfl rfl rfl (Does.call rfl (numE_ok _ _)) ?_
    rintro _ H11_3 ⟨rfl, rfl⟩
    refine Reg.gpur rfl rfl rfl rfl rfl rfl (Pur.eql rfl rfl) ?_
    refine Reg.pur rfl rfl rfl rfl (Pur.pickT rfl rfl) ?_
    refine Reg.pur rfl rfl rfl rfl (Pur.mv rfl) ?_
    refine Reg.known (b' := true) 73 rfl rfl ?_
    refine Reg.gpur rfl rfl rfl rfl rfl rfl (Pur.mv rfl) ?_
    refine Reg.gop rfl rfl rfl rfl rfl rfl (Does.call rfl (numE_ok _ _)) ?_
    rintro _ H11_3 ⟨rfl, rfl⟩
    refine Reg.gpur rfl rfl rfl rfl rfl rfl (Pur.eql rfl rfl) ?_
    refine Reg.pur rfl rfl rfl rfl (Pur.pickT rfl rfl) ?_
    refine Reg.pur rfl rfl rfl rfl (Pur.asg rfl) ?_
    refine Reg.nil ?_
    refine At.ret rfl Try.func12 rfl ?_
    exact ⟨rfl, hE⟩
  first | (simp only [decide_eq_true_eq, decide_eq_false_iff_not, Bool.not_eq_true', Bool.not_eq_false', ne_eq, Decidable.not_not, Bool.not_eq_true, Bool.not_eq_false] at q64) | (dsimp only at q64) | skip
  have hd := hsr.d
  clear hsr hr hU hU2 hU3
  obtain ⟨t, w, y, rfl, rfl, rfl, rfl, hy⟩ := hd.resolve_left (by rintro ⟨rfl, _⟩; exact absurd q64 (by decide))
  obtain rfl : Bs = [] := by simpa [bndU] using hSl.pl
  obtain ⟨b0, rfl, p0⟩ := one_pl hSl2.pl
  obtain ⟨A5, k5, rfl⟩ := bd_of (v := x) (r := false) (L := t.enc 0) (row := noRow) p0
  obtain ⟨d0, rfl, p1⟩ := one_pl hSl3.pl
  obtain ⟨A6, k6, rfl⟩ := bd_of (v := w) (r := false) (L := y.enc 0) (row := noRow) p1
  obtain ⟨g8, c8, rfl, hT8, hc8, _⟩ := hSl2.blk (by simp)
  obtain ⟨g9, c9, rfl, hT9, hc9, _⟩ := hSl3.blk (by simp)
  have hok2 := hSl2.ok ⟨x, false, A5, k5, t.enc 0, noRow⟩ (by simp)
  have hok3 := hSl3.ok ⟨w, false, A6, k6, y.enc 0, noRow⟩ (by simp)
  have hs2 : SlT H11_3 Is 9 (.slice A5 (t.enc 0).length k5) (t.enc 0) := hok2.sl
  have hs3 : SlT H11_3 Is 9 (.slice A6 (y.enc 0).length k6) (y.enc 0) := hok3.sl
  have hg8 := hT8.blk
  have hg9 := hT9.blk
  have z_hg8 := hg8.lt
  have z_hg9 := hg9.lt
  have z_hs2 := hs2.lt
  have z_hs3 := hs3.lt
  refine At.region rfl rfl ?_
  refine Reg.pur rfl rfl rfl rfl (Pur.mv rfl) ?_
  refine Reg.pur rfl rfl rfl rfl (Pur.lenS isl22 rfl) ?_
  refine Reg.pur rfl rfl rfl rfl (Pur.neq rfl rfl) ?_
  refine Reg.pur rfl rfl rfl rfl (Pur.mv rfl) ?_
  refine Reg.known (b' := false) 81 rfl rfl ?_
  refine Reg.gpur rfl rfl rfl rfl rfl rfl (Pur.mv rfl) ?_
  refine Reg.gop rfl rfl rfl rfl rfl rfl (Does.call rfl (numE_ok _ _)) ?_
  rintro _ H11_3 ⟨rfl, rfl⟩
  refine Reg.gpur rfl rfl rfl rfl rfl rfl (Pur.neq rfl rfl) ?_
  refine Reg.pur rfl rfl rfl rfl (Pur.pickF rfl rfl) ?_
  refine Reg.pur rfl rfl rfl rfl (Pur.mv rfl) ?_
  refine Reg.known (b' := false) 86 rfl rfl ?_
  refine Reg.gpur rfl rfl rfl rfl rfl rfl (Pur.mv rfl) ?_
  refine Reg.gop rfl rfl rfl rfl rfl rfl (Does.call rfl (numE_ok _ _)) ?_
  rintro _ H11_3 ⟨rfl, rfl⟩
  refine Reg.gpur rfl rfl rfl rfl rfl rfl (Pur.neq rfl rfl) ?_
  refine Reg.pur rfl rfl rfl rfl (Pur.pickF rfl rfl) ?_
  refine Reg.pur rfl rfl rfl rfl (Pur.mv rfl) ?_
  refine Reg.known (b' := false) 91 rfl rfl ?_
  refine Reg.gpur rfl rfl rfl rfl rfl rfl (Pur.mv rfl) ?_
  refine Reg.gpur rfl rfl rfl rfl rfl rfl (Pur.lenS isl22 rfl) ?_
  refine Reg.gpur rfl rfl rfl rfl rfl rfl (Pur.neq rfl rfl) ?_
  refine Reg.pur rfl rfl rfl rfl (Pur.pickF rfl rfl) ?_
  refine Reg.pur rfl rfl rfl rfl (Pur.mv rfl) ?_
  refine Reg.known (b' := false) 96 rfl rfl ?_
  refine Reg.gpur rfl rfl rfl rfl rfl rfl (Pur.mv rfl) ?_
  refine Reg.gpur rfl rfl rfl rfl rfl rfl (Pur.lenS isl22 rfl) ?_
  refine Reg.gpur rfl rfl rfl rfl rfl rfl (Pur.neq rfl rfl) ?_
  refine Reg.pur rfl rfl rfl rfl (Pur.pickF rfl rfl) ?_
  refine Reg.pur rfl rfl rfl rfl (Pur.mv rfl) ?_
  refine Reg.known (b' := false) 101 rfl rfl ?_
  refine Reg.gpur rfl rfl rfl rfl rfl rfl (Pur.mv rfl) ?_
  refine Reg.gpur rfl rfl rfl rfl rfl rfl (Pur.idx _ es22 rfl rfl (by decide) (by simp)) ?_
  refine Reg.gpur rfl rfl rfl rfl rfl rfl (Pur.fld _ fo49_0 rfl) ?_
  refine Reg.glod rfl rfl rfl rfl rfl rfl (Lod.ld sc3 rfl hg8 (tk_at hc8 rfl)) ?_
  refine Reg.gpur rfl rfl rfl rfl rfl rfl (Pur.mv rfl) ?_
  refine Reg.gpur rfl rfl rfl rfl rfl rfl (Pur.neq rfl rfl) ?_
  refine Reg.gpur rfl rfl rfl rfl rfl rfl (Pur.mv rfl) ?_
  refine Reg.known (b' := false) 108 rfl (by simp) ?_
  refine Reg.skip rfl rfl rfl rfl rfl rfl rfl ?_
  refine Reg.skip rfl rfl rfl rfl rfl rfl rfl ?_
  refine Reg.skip rfl rfl rfl rfl rfl rfl rfl ?_
  refine Reg.skip rfl rfl rfl rfl rfl rfl rfl ?_
  refine Reg.skip rfl rfl rfl rfl rfl rfl rfl ?_
  refine Reg.skipU rfl rfl rfl rfl rfl rfl ?_
  refine Reg.skipU rfl rfl rfl rfl rfl rfl ?_
  refine Reg.skipU rfl rfl rfl rfl rfl rfl ?_
  refine Reg.skipU rfl rfl rfl rfl rfl rfl ?_
  refine Reg.skipU rfl rfl rfl rfl rfl rfl ?_
  refine Reg.skipU rfl rfl rfl rfl rfl rfl ?_
  refine Reg.skip rfl rfl rfl rfl rfl rfl rfl ?_
  refine Reg.gpur rfl rfl rfl rfl rfl rfl (Pur.pickF rfl rfl) ?_
  refine Reg.pur rfl rfl rfl rfl (Pur.pickF rfl rfl) ?_
  refine Reg.nil ?_
  refine At.condF rfl rfl rfl ?_
  refine At.drawE ((Bks.cons hg8.blk (Bks.cons hg9.blk (Bks.cons o0_0.blk Bks.nil)))) [] mixed rfl rfl ?_
  refine RegD.tpur (i := 0) rfl rfl rfl rfl (by kernel_rfl) (Pur.mv rfl) ?_
  refine RegD.tpur (i := 1) rfl rfl rfl rfl (by kernel_rfl) (Pur.idx _ es22 rfl rfl (by decide) (by simp)) ?_
  refine RegD.tpur (i := 2) rfl rfl rfl rfl (by kernel_rfl) (Pur.fld _ fo49_2 rfl) ?_
  refine RegD.take (i := 3) rfl rfl rfl rfl (by kernel_rfl) (Bks.cons hg8.blk (Bks.cons hg9.blk (Bks.cons o0_0.blk Bks.nil))) (fun H hS => Lod.ldn ag25 rfl hS.hd ((take_mid hc8 (Nat.le_of_ble_eq_true rfl)).trans rfl) rfl) ?_
  refine RegD.take (i := 4) rfl rfl rfl rfl (by kernel_rfl) (Bks.cons hg8.blk (Bks.cons hg9.blk (Bks.cons o0_0.blk Bks.nil))) (fun H hS => Lod.ldn ag25 rfl hS.tl.tl.hd (whole rfl) rfl) ?_
  refine RegD.one (i := 5) (by kernel_rfl) rfl rfl rfl rfl (Does.call rfl (sameType_ok hL hL hs2 (hS.ext hE) (by omega))) ?_
  rintro _ H16_5 ⟨rfl, hE16_5⟩
  have z16_5 := hE16_5.lt
  replace hE := hE.ext hE16_5
  replace o0_0 := o0_0.ext hE16_5
  replace hSl := hSl.ext hE16_5
  replace hSa := hSa.ext hE16_5
  replace hSl2 := hSl2.ext hE16_5
  replace hSb := hSb.ext hE16_5
  replace hSl3 := hSl3.ext hE16_5
  replace hg8 := hg8.ext hE16_5
  replace hg9 := hg9.ext hE16_5
  replace hs2 := hs2.ext hE16_5
  replace hs3 := hs3.ext hE16_5
  refine ⟨fun _ _ => (Bks.cons hg8.blk (Bks.cons hg9.blk (Bks.cons o0_0.blk Bks.nil))), ?_⟩
  refine RegD.tpur (i := 6) rfl rfl rfl rfl (by kernel_rfl) (Pur.mv rfl) ?_
  refine RegD.known (b' := true) 148 rfl (by simp) ?_
  refine RegD.gtpur (i := 7) rfl rfl rfl rfl rfl rfl (by kernel_rfl) (Pur.mv rfl) ?_
  refine RegD.gtpur (i := 8) rfl rfl rfl rfl rfl rfl (by kernel_rfl) (Pur.idx _ es22 rfl rfl (by decide) (by simp)) ?_
  refine RegD.gtpur (i := 9) rfl rfl rfl rfl rfl rfl (by kernel_rfl) (Pur.fld _ fo49_2 rfl) ?_
  refine RegD.gtake (i := 10) rfl rfl rfl rfl rfl rfl (by kernel_rfl) (Bks.cons hg8.blk (Bks.cons hg9.blk (Bks.cons o0_0.blk Bks.nil))) (fun H hS => Lod.ldn ag25 rfl hS.tl.hd ((take_mid hc9 (Nat.le_of_ble_eq_true rfl)).trans rfl) rfl) ?_
  refine RegD.gtake (i := 11) rfl rfl rfl rfl rfl rfl (by kernel_rfl) (Bks.cons hg8.blk (Bks.cons hg9.blk (Bks.cons o0_0.blk Bks.nil))) (fun H hS => Lod.ldn ag25 rfl hS.tl.tl.hd (whole rfl) rfl) ?_
  refine RegD.gone (i := 12) (by kernel_rfl) rfl rfl rfl rfl rfl rfl (Does.call rfl (sameType_ok hok3.nine hL hs3 (hS.ext hE) hok3.max)) ?_
  rintro _ H16_12 ⟨rfl, hE16_12⟩
  have z16_12 := hE16_12.lt
  replace hE := hE.ext hE16_12
  replace o0_0 := o0_0.ext hE16_12
  replace hSl := hSl.ext hE16_12
  replace hSa := hSa.ext hE16_12
  replace hSl2 := hSl2.ext hE16_12
  replace hSb := hSb.ext hE16_12
  replace hSl3 := hSl3.ext hE16_12
  replace hg8 := hg8.ext hE16_12
  replace hg9 := hg9.ext hE16_12
  replace hs2 := hs2.ext hE16_12
  replace hs3 := hs3.ext hE16_12
  refine ⟨fun _ _ => (Bks.cons hg8.blk (Bks.cons hg9.blk (Bks.cons o0_0.blk Bks.nil))), ?_⟩
  refine RegD.gtpur (i := 13) rfl rfl rfl rfl rfl rfl (by kernel_rfl) (Pur.mv rfl) ?_
  refine RegD.case 155 rfl (fun q155 => ?_) (fun q155 => ?_)
  · first | (simp only [decide_eq_true_eq, decide_eq_false_iff_not, Bool.not_eq_true', Bool.not_eq_false', ne_eq, Decidable.not_not, Bool.not_eq_true, Bool.not_eq_false] at q155) | (dsimp only at q155) | skip
    refine RegD.skip (i := 14) rfl rfl rfl rfl rfl rfl rfl (by kernel_rfl) ?_
    refine RegD.skip (i := 15) rfl rfl rfl rfl rfl rfl rfl (by kernel_rfl) ?_
    refine RegD.skip (i := 16) rfl rfl rfl rfl rfl rfl rfl (by kernel_rfl) ?_
    refine RegD.skip (i := 17) rfl rfl rfl rfl rfl rfl rfl (by kernel_rfl) ?_
    refine RegD.skip (i := 18) rfl rfl rfl rfl rfl rfl rfl (by kernel_rfl) ?_
    refine RegD.skip (i := 19) rfl rfl rfl rfl rfl rfl rfl (by kernel_rfl) ?_
    refine RegD.skip (i := 20) rfl rfl rfl rfl rfl rfl rfl (by kernel_rfl) ?_
    refine RegD.gtpur (i := 21) rfl rfl rfl rfl rfl rfl (by kernel_rfl) (Pur.pickT rfl rfl) ?_
    refine RegD.tpur (i := 22) rfl rfl rfl rfl (by kernel_rfl) (Pur.pickT rfl rfl) ?_
    refine RegD.tpur (i := 23) rfl rfl rfl rfl (by kernel_rfl) (Pur.asg rfl) ?_
    refine RegD.done (by kernel_rfl) ?_
    refine At.ret rfl Try.func12 rfl ?_
    refine ⟨?_, hE⟩
    first | rfl | (rcases hy with rfl | rfl; exact absurd rfl q155; exact congrArg Value.bool (decide_eq_true rfl))
  first | (simp only [decide_eq_true_eq, decide_eq_false_iff_not, Bool.not_eq_true', Bool.not_eq_false', ne_eq, Decidable.not_not, Bool.not_eq_true, Bool.not_eq_false] at q155) | (dsimp only at q155) | skip
  refine RegD.gtpur (i := 14) rfl rfl rfl rfl rfl rfl (by kernel_rfl) (Pur.mv rfl) ?_
  refine RegD.gtpur (i := 15) rfl rfl rfl rfl rfl rfl (by kernel_rfl) (Pur.idx _ es22 rfl rfl (by decide) (by simp)) ?_
  refine RegD.gtpur (i := 16) rfl rfl rfl rfl rfl rfl (by kernel_rfl) (Pur.fld _ fo49_2 rfl) ?_
  refine RegD.gtake (i := 17) rfl rfl rfl rfl rfl rfl (by kernel_rfl) (Bks.cons hg8.blk (Bks.cons hg9.blk (Bks.cons o0_0.blk Bks.nil))) (fun H hS => Lod.ldn ag25 rfl hS.tl.hd ((take_mid hc9 (Nat.le_of_ble_eq_true rfl)).trans rfl) rfl) ?_
  refine RegD.gtpur (i := 18) rfl rfl rfl rfl rfl rfl (by kernel_rfl) (Pur.mv rfl) ?_
  refine RegD.gone (i := 19) (by kernel_rfl) rfl rfl rfl rfl rfl rfl (Does.call rfl (v10_ok x _)) ?_
  rintro v16_19 H16_19 ⟨⟨Ac, cc2, rfl, hSc, hfc⟩, hE16_19⟩
  have z16_19 := hE16_19.lt
  replace hE := hE.ext hE16_19
  replace o0_0 := o0_0.ext hE16_19
  replace hSl := hSl.ext hE16_19
  replace hSa := hSa.ext hE16_19
  replace hSl2 := hSl2.ext hE16_19
  replace hSb := hSb.ext hE16_19
  replace hSl3 := hSl3.ext hE16_19
  replace hg8 := hg8.ext hE16_19
  replace hg9 := hg9.ext hE16_19
  replace hs2 := hs2.ext hE16_19
  replace hs3 := hs3.ext hE16_19
  have z_hSc := hSc.lt
  refine ⟨fun _ _ => (Bks.cons hg8.blk (Bks.cons hg9.blk (Bks.cons o0_0.blk Bks.nil))), ?_⟩
  refine RegD.gone (i := 20) (by kernel_rfl) rfl rfl rfl rfl rfl rfl (Does.call rfl (sameType_ok hok3.nine (nine_lit rfl) hs3 hSc hok3.max)) ?_
  rintro _ H16_20 ⟨rfl, hE16_20⟩
  have z16_20 := hE16_20.lt
  replace hE := hE.ext hE16_20
  replace o0_0 := o0_0.ext hE16_20
  replace hSl := hSl.ext hE16_20
  replace hSa := hSa.ext hE16_20
  replace hSl2 := hSl2.ext hE16_20
  replace hSb := hSb.ext hE16_20
  replace hSl3 := hSl3.ext hE16_20
  replace hg8 := hg8.ext hE16_20
  replace hg9 := hg9.ext hE16_20
  replace hs2 := hs2.ext hE16_20
  replace hs3 := hs3.ext hE16_20
  replace hSc := hSc.ext hE16_20
  refine ⟨fun _ _ => (Bks.cons hg8.blk (Bks.cons hg9.blk (Bks.cons o0_0.blk Bks.nil))), ?_⟩
  refine RegD.gtpur (i := 21) rfl rfl rfl rfl rfl rfl (by kernel_rfl) (Pur.pickF rfl rfl) ?_
  refine RegD.tpur (i := 22) rfl rfl rfl rfl (by kernel_rfl) (Pur.pickT rfl rfl) ?_
  refine RegD.tpur (i := 23) rfl rfl rfl rfl (by kernel_rfl) (Pur.asg rfl) ?_
  refine RegD.done (by kernel_rfl) ?_
  refine At.ret rfl Try.func12 rfl ?_
  refine ⟨?_, hE⟩
  first | rfl | (rcases hy with rfl | rfl; exact absurd rfl q155; exact congrArg Value.bool (decide_eq_true rfl))
end Go.Proofs.Ytlfillhffpiffaa
