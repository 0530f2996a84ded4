/-
  Nodes: what is direct of a node's parts.
-/
import Derived.Test.YtjhkmebmbopfoaaDoorNodM
namespace Go.Proofs.YtjhkmebmbopfoaaDoor
set_option linter.unusedSimpArgs false
set_option linter.unusedVariables false
set_option maxRecDepth 8000
set_option maxHeartbeats 1000000
open Go Go.Fx Go.Proofs
namespace FactsNodN
theorem ag35 : ag Tryd.prog 35 = some 10 := by kernel_rfl
theorem es23 : esz Tryd.prog 23 = some 10 := by kernel_rfl
theorem fo25_1 : foff Tryd.prog 25 1 = some 1 := by kernel_rfl
theorem fo35_0 : foff Tryd.prog 35 0 = some 0 := by kernel_rfl
theorem fo35_1 : foff Tryd.prog 35 1 = some 1 := by kernel_rfl
theorem fo35_2 : foff Tryd.prog 35 2 = some 2 := by kernel_rfl
theorem fo35_3 : foff Tryd.prog 35 3 = some 3 := by kernel_rfl
theorem isl23 : isSl Tryd.prog 23 = true := by kernel_rfl
theorem sc23 : sc Tryd.prog 23 = true := by kernel_rfl
theorem sc3 : sc Tryd.prog 3 = true := by kernel_rfl
theorem zc35 : zc Tryd.prog 35 = some [.int .i64 0, .int .i64 0, .int .i64 0, .int .i64 0, .int .i64 0, .string ⟨#[]⟩, .string ⟨#[]⟩, .string ⟨#[]⟩, .string ⟨#[]⟩, .int .i64 0] := by kernel_rfl
end FactsNodN
open FactsNodN

theorem directParts_law {vo : Value} {A : Option Addr} {cap : Nat} (L : List Nd) (hL : Shs L) (z : Int) {H : Heap} (hS : SlT H eN 10 (.slice A L.length cap) L) (hm : L.length ≤ 9223372036854775807) :
    Ret Tryd.prog 4 [.agg #[vo, .slice A L.length cap], I z] H (fun v H' => v = .bool true ∧ Ext H H') := by
  cases hth : thrN L z with
  | false =>
    refine Ret.of_at (N := 107) Tryd.call4 Tryd.func4 rfl rfl rfl ?_
    have hE := Ext.refl H
    refine At.region rfl rfl ?_
    refine Reg.op rfl rfl rfl rfl (Does.box rfl rfl) ?_
    rintro _ H0_0 ⟨rfl, hn0_0⟩
    have z0_0 := hn0_0.size
    replace hE := hE.ext hn0_0.ext
    have o0_0 := hn0_0.own
    refine Reg.pur rfl rfl rfl rfl (Pur.asg rfl) ?_
    refine Reg.nil ?_
    refine At.region rfl rfl ?_
    refine Reg.op rfl rfl rfl rfl (Does.call rfl (awake18_ok _)) ?_
    rintro _ H1_0 ⟨rfl, hE1_0⟩
    have z1_0 := hE1_0.lt
    replace hE := hE.ext hE1_0
    replace o0_0 := o0_0.ext hE1_0
    refine Reg.pur rfl rfl rfl rfl (Pur.not rfl) ?_
    refine Reg.nil ?_
    refine At.condF rfl rfl rfl ?_
    refine At.region rfl rfl ?_
    refine Reg.pur rfl rfl rfl rfl (Pur.fld _ fo25_1 rfl) ?_
    refine Reg.lod rfl rfl rfl rfl (Lod.ld sc23 rfl o0_0.blk (by first | rfl | (simp; done))) ?_
    refine Reg.pur rfl rfl rfl rfl (Pur.mv rfl) ?_
    refine Reg.op rfl rfl rfl rfl (Does.call rfl (direct_ok L hL z (hS.ext hE) hm)) ?_
    rintro _ H3_3 ⟨rfl, hE3_3⟩
    have z3_3 := hE3_3.lt
    replace hE := hE.ext hE3_3
    replace o0_0 := o0_0.ext hE3_3
    simp only [drV, hth]
    refine Reg.pur rfl rfl rfl rfl (Pur.mv rfl) ?_
    refine Reg.pur rfl rfl rfl rfl (Pur.ext rfl rfl) ?_
    refine Reg.pur rfl rfl rfl rfl (Pur.ext rfl rfl) ?_
    refine Reg.pur rfl rfl rfl rfl (Pur.asg rfl) ?_
    refine Reg.pur rfl rfl rfl rfl (Pur.asg rfl) ?_
    refine Reg.nil ?_
    refine At.region rfl rfl ?_
    refine Reg.pur rfl rfl rfl rfl (Pur.mv rfl) ?_
    refine Reg.op rfl rfl rfl rfl (Does.call rfl (lnum_ok _ _ (by decide))) ?_
    rintro _ H3_3 ⟨rfl, rfl⟩
    refine Reg.pur rfl rfl rfl rfl (Pur.neq rfl rfl) ?_
    refine Reg.pur rfl rfl rfl rfl (Pur.mv rfl) ?_
    refine Reg.known (b' := true) 29 rfl rfl ?_
    refine Reg.skip rfl rfl rfl rfl rfl rfl rfl ?_
    refine Reg.skip rfl rfl rfl rfl rfl rfl rfl ?_
    refine Reg.pur rfl rfl rfl rfl (Pur.pickT rfl rfl) ?_
    refine Reg.pur rfl rfl rfl rfl (Pur.mv rfl) ?_
    refine Reg.skip rfl rfl rfl rfl rfl rfl rfl ?_
    refine Reg.skip rfl rfl rfl rfl rfl rfl rfl ?_
    refine Reg.skip rfl rfl rfl rfl rfl rfl rfl ?_
    refine Reg.skip rfl rfl rfl rfl rfl rfl rfl ?_
    refine Reg.skip rfl rfl rfl rfl rfl rfl rfl ?_
    refine Reg.pur rfl rfl rfl rfl (Pur.pickT rfl rfl) ?_
    refine Reg.nil ?_
    refine At.condT rfl rfl rfl ?_
    refine At.region rfl rfl ?_
    refine Reg.pur rfl rfl rfl rfl (Pur.mv rfl) ?_
    refine Reg.pur rfl rfl rfl rfl (Pur.not rfl) ?_
    refine Reg.pur rfl rfl rfl rfl (Pur.mv rfl) ?_
    refine Reg.known (b' := true) 42 rfl (by first | rfl | simp) ?_
    refine Reg.gpur rfl rfl rfl rfl rfl rfl (Pur.mv rfl) ?_
    refine Reg.gop rfl rfl rfl rfl rfl rfl (Does.call rfl (lnum_ok _ _ (by decide))) ?_
    rintro _ H3_3 ⟨rfl, rfl⟩
    refine Reg.gpur rfl rfl rfl rfl rfl rfl (Pur.eql rfl rfl) ?_
    refine Reg.pur rfl rfl rfl rfl (Pur.pickT rfl rfl) ?_
    refine Reg.pur rfl rfl rfl rfl (Pur.asg rfl) ?_
    refine Reg.nil ?_
    refine At.ret rfl Tryd.func4 rfl ?_
    exact ⟨rfl, hE⟩
  | true =>
    obtain ⟨hT, hz0, hz1⟩ := tn_of hth
    have hn2 := hT.n2
    have hzn : z.toNat < L.length := by omega
    have hkid := hT.kid z hz0 hz1
    have hknd := hT.knd z hz0 hz1
    have hfin : drN L 1000 z = if (L[z.toNat]).k = 4 ∨ (L[z.toNat]).k = 9 ∨ (L[z.toNat]).k = 10 then false else (dkOffs (L[z.toNat]).k).all fun o => drN L 999 (iget L[z.toNat] o) := by
      rw [show drN L 1000 z = if (eln L z).k = 4 ∨ (eln L z).k = 9 ∨ (eln L z).k = 10 then false else (dkOffs (eln L z).k).all fun o => drN L 999 (iget (eln L z) o) from rfl, eln_get hzn]
    have hch : ∀ c, 0 ≤ c → c < z → drV L c = .tuple #[.bool (drN L 999 c), I 0] := fun c h0 h1 => by
      unfold drV
      rw [thr_kid hth h0 h1, drN_fuel hT 1000 999 c h0 (by omega) (by omega) (by omega)]; rfl
    obtain ⟨b0, o0, c0, rfl, hb0, hbl, hbd⟩ := hS.at hzn
    rw [eln_get hzn] at hkid hknd
    generalize L[z.toNat] = x at hbd hfin hkid hknd
    obtain ⟨hkA, hkB, hkC⟩ := kid_abc hkid
    have kn1 : ∀ {k : Int}, k = 5 ∨ k = 6 ∨ k = 8 → 2 ≤ kidN k := fun {k} h => by rcases h with rfl | rfl | rfl <;> decide
    have kn2 : ∀ {k : Int}, k = 7 → kidN k = 3 := fun {k} h => by rcases h with rfl; decide
    have drv : drV L z = .tuple #[.bool (drN L 1000 z), I 0] := by unfold drV; rw [hth]; rfl
    refine Ret.of_at (N := 107) Tryd.call4 Tryd.func4 rfl rfl rfl ?_
    have hE := Ext.refl H
    refine At.region rfl rfl ?_
    refine Reg.op rfl rfl rfl rfl (Does.box rfl rfl) ?_
    rintro _ H0_0 ⟨rfl, hn0_0⟩
    have z0_0 := hn0_0.size
    replace hE := hE.ext hn0_0.ext
    have o0_0 := hn0_0.own
    refine Reg.pur rfl rfl rfl rfl (Pur.asg rfl) ?_
    refine Reg.nil ?_
    refine At.region rfl rfl ?_
    refine Reg.op rfl rfl rfl rfl (Does.call rfl (awake18_ok _)) ?_
    rintro _ H1_0 ⟨rfl, hE1_0⟩
    have z1_0 := hE1_0.lt
    replace hE := hE.ext hE1_0
    replace o0_0 := o0_0.ext hE1_0
    refine Reg.pur rfl rfl rfl rfl (Pur.not rfl) ?_
    refine Reg.nil ?_
    refine At.condF rfl rfl rfl ?_
    refine At.region rfl rfl ?_
    refine Reg.pur rfl rfl rfl rfl (Pur.fld _ fo25_1 rfl) ?_
    refine Reg.lod rfl rfl rfl rfl (Lod.ld sc23 rfl o0_0.blk (by first | rfl | (simp; done))) ?_
    refine Reg.pur rfl rfl rfl rfl (Pur.mv rfl) ?_
    refine Reg.op rfl rfl rfl rfl (Does.call rfl (direct_ok L hL z (hS.ext hE) hm)) ?_
    rintro _ H3_3 ⟨rfl, hE3_3⟩
    have z3_3 := hE3_3.lt
    replace hE := hE.ext hE3_3
    replace o0_0 := o0_0.ext hE3_3
    rw [drv]
    refine Reg.pur rfl rfl rfl rfl (Pur.mv rfl) ?_
    refine Reg.pur rfl rfl rfl rfl (Pur.ext rfl rfl) ?_
    refine Reg.pur rfl rfl rfl rfl (Pur.ext rfl rfl) ?_
    refine Reg.pur rfl rfl rfl rfl (Pur.asg rfl) ?_
    refine Reg.pur rfl rfl rfl rfl (Pur.asg rfl) ?_
    refine Reg.nil ?_
    refine At.region rfl rfl ?_
    refine Reg.pur rfl rfl rfl rfl (Pur.mv rfl) ?_
    refine Reg.op rfl rfl rfl rfl (Does.call rfl (lnum_ok _ _ (by decide))) ?_
    rintro _ H3_3 ⟨rfl, rfl⟩
    refine Reg.pur rfl rfl rfl rfl (Pur.neq rfl rfl) ?_
    refine Reg.pur rfl rfl rfl rfl (Pur.mv rfl) ?_
    refine Reg.known (b' := false) 29 rfl rfl ?_
    refine Reg.gpur rfl rfl rfl rfl rfl rfl (Pur.mv rfl) ?_
    refine Reg.gpur rfl rfl rfl rfl rfl rfl (Pur.lss rfl rfl) ?_
    refine Reg.pur rfl rfl rfl rfl (Pur.pickF rfl rfl) ?_
    refine Reg.pur rfl rfl rfl rfl (Pur.mv rfl) ?_
    refine Reg.known (b' := false) 33 rfl (decide_eq_false (by omega)) ?_
    refine Reg.gpur rfl rfl rfl rfl rfl rfl (Pur.mv rfl) ?_
    refine Reg.gpur rfl rfl rfl rfl rfl rfl (Pur.fld _ fo25_1 rfl) ?_
    refine Reg.glod rfl rfl rfl rfl rfl rfl (Lod.ld sc23 rfl o0_0.blk (by first | rfl | (simp; done))) ?_
    refine Reg.gpur rfl rfl rfl rfl rfl rfl (Pur.lenS isl23 rfl) ?_
    refine Reg.gpur rfl rfl rfl rfl rfl rfl (Pur.geq rfl rfl) ?_
    refine Reg.pur rfl rfl rfl rfl (Pur.pickF rfl rfl) ?_
    refine Reg.nil ?_
    refine At.condF rfl rfl (decide_eq_false (by omega)) ?_
    have hb6 := hb0.ext hE
    refine At.region rfl rfl ?_
    refine Reg.pur rfl rfl rfl rfl (Pur.fld _ fo25_1 rfl) ?_
    refine Reg.lod rfl rfl rfl rfl (Lod.ld sc23 rfl o0_0.blk (by first | rfl | (simp; done))) ?_
    refine Reg.pur rfl rfl rfl rfl (Pur.mv rfl) ?_
    refine Reg.pur rfl rfl rfl rfl (Pur.idx _ es23 rfl rfl (by omega) (by omega)) ?_
    refine Reg.lod rfl rfl rfl rfl (Lod.ldn ag35 rfl hb6 hbd rfl) ?_
    refine Reg.op rfl rfl rfl rfl (Does.alloc zc35) ?_
    rintro _ H6_5 ⟨rfl, hn6_5⟩
    have z6_5 := hn6_5.size
    replace hE := hE.ext hn6_5.ext
    replace o0_0 := o0_0.ext hn6_5.ext
    have o6_5 := hn6_5.own
    refine Reg.op0 rfl rfl rfl (Does.stn ag35 rfl rfl (by first | rfl | exact ones_Is _) (by first | rfl | (simp [*]; done)) o6_5 (by first | decide | (simp; done) | (simp; omega) | omega)) ?_
    rintro _ H6_6 hu6_6
    have z6_6 := hu6_6.size
    replace hE := hE.upw hu6_6 (by omega)
    replace o0_0 := o0_0.upw hu6_6 (by omega)
    replace o6_5 := hu6_6.own
    first | rw [over (by first | rfl | (simp; done))] at o6_5 | skip
    refine Reg.nil ?_
    refine At.region rfl rfl ?_
    refine Reg.pur rfl rfl rfl rfl (Pur.asg rfl) ?_
    refine Reg.pur rfl rfl rfl rfl (Pur.asg rfl) ?_
    refine Reg.pur rfl rfl rfl rfl (Pur.asg rfl) ?_
    refine Reg.nil ?_
    refine At.region rfl rfl ?_
    refine Reg.pur rfl rfl rfl rfl (Pur.fld _ fo35_0 rfl) ?_
    refine Reg.lod rfl rfl rfl rfl (Lod.ld sc3 rfl o6_5.blk (by first | rfl | (simp; done))) ?_
    refine Reg.nil ?_
    refine At.region rfl rfl ?_
    refine Reg.pur rfl rfl rfl rfl (Pur.eql rfl rfl) ?_
    refine Reg.pur rfl rfl rfl rfl (Pur.asg rfl) ?_
    refine Reg.nil ?_
    refine At.cond rfl rfl (fun q54 => ?_) (fun q54 => ?_)
    · first | (simp only [decide_eq_true_eq, decide_eq_false_iff_not, Bool.not_eq_true', Bool.not_eq_false', ne_eq, Decidable.not_not, Bool.not_eq_true, Bool.not_eq_false] at q54) | (dsimp only at q54) | skip
      refine At.condT rfl rfl (by first | exact q54 | exact decide_eq_true q54 | exact decide_eq_false q54 | simpa using q54) ?_
      refine At.region rfl rfl ?_
      refine Reg.pur rfl rfl rfl rfl (Pur.mv rfl) ?_
      refine Reg.pur rfl rfl rfl rfl (Pur.asg rfl) ?_
      refine Reg.nil ?_
      refine At.ret rfl Tryd.func4 rfl ?_
      exact ⟨congrArg Value.bool (by first | (rw [hfin, ‹x.k = 0›]; rfl) | (rw [hfin, ‹x.k = 1›]; rfl) | (rw [hfin, ‹x.k = 2›]; rfl) | (rw [hfin, ‹x.k = 3›]; rfl)), hE⟩
    first | (simp only [decide_eq_true_eq, decide_eq_false_iff_not, Bool.not_eq_true', Bool.not_eq_false', ne_eq, Decidable.not_not, Bool.not_eq_true, Bool.not_eq_false] at q54) | (dsimp only at q54) | skip
    refine At.region rfl rfl ?_
    refine Reg.pur rfl rfl rfl rfl (Pur.eql rfl rfl) ?_
    refine Reg.pur rfl rfl rfl rfl (Pur.asg rfl) ?_
    refine Reg.nil ?_
    refine At.cond rfl rfl (fun q54 => ?_) (fun q54 => ?_)
    · first | (simp only [decide_eq_true_eq, decide_eq_false_iff_not, Bool.not_eq_true', Bool.not_eq_false', ne_eq, Decidable.not_not, Bool.not_eq_true, Bool.not_eq_false] at q54) | (dsimp only at q54) | skip
      refine At.condT rfl rfl (by first | exact q54 | exact decide_eq_true q54 | exact decide_eq_false q54 | simpa using q54) ?_
      refine At.region rfl rfl ?_
      refine Reg.pur rfl rfl rfl rfl (Pur.mv rfl) ?_
      refine Reg.pur rfl rfl rfl rfl (Pur.asg rfl) ?_
      refine Reg.nil ?_
      refine At.ret rfl Tryd.func4 rfl ?_
      exact ⟨congrArg Value.bool (by first | (rw [hfin, ‹x.k = 0›]; rfl) | (rw [hfin, ‹x.k = 1›]; rfl) | (rw [hfin, ‹x.k = 2›]; rfl) | (rw [hfin, ‹x.k = 3›]; rfl)), hE⟩
    first | (simp only [decide_eq_true_eq, decide_eq_false_iff_not, Bool.not_eq_true', Bool.not_eq_false', ne_eq, Decidable.not_not, Bool.not_eq_true, Bool.not_eq_false] at q54) | (dsimp only at q54) | skip
    refine At.region rfl rfl ?_
    refine Reg.pur rfl rfl rfl rfl (Pur.eql rfl rfl) ?_
    refine Reg.pur rfl rfl rfl rfl (Pur.asg rfl) ?_
    refine Reg.nil ?_
    refine At.cond rfl rfl (fun q54 => ?_) (fun q54 => ?_)
    · first | (simp only [decide_eq_true_eq, decide_eq_false_iff_not, Bool.not_eq_true', Bool.not_eq_false', ne_eq, Decidable.not_not, Bool.not_eq_true, Bool.not_eq_false] at q54) | (dsimp only at q54) | skip
      refine At.condT rfl rfl (by first | exact q54 | exact decide_eq_true q54 | exact decide_eq_false q54 | simpa using q54) ?_
      refine At.region rfl rfl ?_
      refine Reg.pur rfl rfl rfl rfl (Pur.mv rfl) ?_
      refine Reg.pur rfl rfl rfl rfl (Pur.asg rfl) ?_
      refine Reg.nil ?_
      refine At.ret rfl Tryd.func4 rfl ?_
      exact ⟨congrArg Value.bool (by first | (rw [hfin, ‹x.k = 0›]; rfl) | (rw [hfin, ‹x.k = 1›]; rfl) | (rw [hfin, ‹x.k = 2›]; rfl) | (rw [hfin, ‹x.k = 3›]; rfl)), hE⟩
    first | (simp only [decide_eq_true_eq, decide_eq_false_iff_not, Bool.not_eq_true', Bool.not_eq_false', ne_eq, Decidable.not_not, Bool.not_eq_true, Bool.not_eq_false] at q54) | (dsimp only at q54) | skip
    refine At.region rfl rfl ?_
    refine Reg.pur rfl rfl rfl rfl (Pur.eql rfl rfl) ?_
    refine Reg.pur rfl rfl rfl rfl (Pur.asg rfl) ?_
    refine Reg.nil ?_
    refine At.cond rfl rfl (fun q54 => ?_) (fun q54 => ?_)
    · first | (simp only [decide_eq_true_eq, decide_eq_false_iff_not, Bool.not_eq_true', Bool.not_eq_false', ne_eq, Decidable.not_not, Bool.not_eq_true, Bool.not_eq_false] at q54) | (dsimp only at q54) | skip
      refine At.region rfl rfl ?_
      refine Reg.pur rfl rfl rfl rfl (Pur.mv rfl) ?_
      refine Reg.pur rfl rfl rfl rfl (Pur.asg rfl) ?_
      refine Reg.nil ?_
      refine At.ret rfl Tryd.func4 rfl ?_
      exact ⟨congrArg Value.bool (by first | (rw [hfin, ‹x.k = 0›]; rfl) | (rw [hfin, ‹x.k = 1›]; rfl) | (rw [hfin, ‹x.k = 2›]; rfl) | (rw [hfin, ‹x.k = 3›]; rfl)), hE⟩
    first | (simp only [decide_eq_true_eq, decide_eq_false_iff_not, Bool.not_eq_true', Bool.not_eq_false', ne_eq, Decidable.not_not, Bool.not_eq_true, Bool.not_eq_false] at q54) | (dsimp only at q54) | skip
    refine At.region rfl rfl ?_
    refine Reg.pur rfl rfl rfl rfl (Pur.eql rfl rfl) ?_
    refine Reg.pur rfl rfl rfl rfl (Pur.asg rfl) ?_
    refine Reg.nil ?_
    refine At.cond rfl rfl (fun q60 => ?_) (fun q60 => ?_)
    · first | (simp only [decide_eq_true_eq, decide_eq_false_iff_not, Bool.not_eq_true', Bool.not_eq_false', ne_eq, Decidable.not_not, Bool.not_eq_true, Bool.not_eq_false] at q60) | (dsimp only at q60) | skip
      refine At.condT rfl rfl (by first | exact q60 | exact decide_eq_true q60 | exact decide_eq_false q60 | simpa using q60) ?_
      refine At.region rfl rfl ?_
      refine Reg.pur rfl rfl rfl rfl (Pur.mv rfl) ?_
      refine Reg.pur rfl rfl rfl rfl (Pur.not rfl) ?_
      refine Reg.pur rfl rfl rfl rfl (Pur.asg rfl) ?_
      refine Reg.nil ?_
      refine At.ret rfl Tryd.func4 rfl ?_
      exact ⟨congrArg Value.bool (by rw [hfin, if_pos (by omega)]; rfl), hE⟩
    first | (simp only [decide_eq_true_eq, decide_eq_false_iff_not, Bool.not_eq_true', Bool.not_eq_false', ne_eq, Decidable.not_not, Bool.not_eq_true, Bool.not_eq_false] at q60) | (dsimp only at q60) | skip
    refine At.region rfl rfl ?_
    refine Reg.pur rfl rfl rfl rfl (Pur.eql rfl rfl) ?_
    refine Reg.pur rfl rfl rfl rfl (Pur.asg rfl) ?_
    refine Reg.nil ?_
    refine At.cond rfl rfl (fun q60 => ?_) (fun q60 => ?_)
    · first | (simp only [decide_eq_true_eq, decide_eq_false_iff_not, Bool.not_eq_true', Bool.not_eq_false', ne_eq, Decidable.not_not, Bool.not_eq_true, Bool.not_eq_false] at q60) | (dsimp only at q60) | skip
      refine At.condT rfl rfl (by first | exact q60 | exact decide_eq_true q60 | exact decide_eq_false q60 | simpa using q60) ?_
      refine At.region rfl rfl ?_
      refine Reg.pur rfl rfl rfl rfl (Pur.mv rfl) ?_
      refine Reg.pur rfl rfl rfl rfl (Pur.not rfl) ?_
      refine Reg.pur rfl rfl rfl rfl (Pur.asg rfl) ?_
      refine Reg.nil ?_
      refine At.ret rfl Tryd.func4 rfl ?_
      exact ⟨congrArg Value.bool (by rw [hfin, if_pos (by omega)]; rfl), hE⟩
    first | (simp only [decide_eq_true_eq, decide_eq_false_iff_not, Bool.not_eq_true', Bool.not_eq_false', ne_eq, Decidable.not_not, Bool.not_eq_true, Bool.not_eq_false] at q60) | (dsimp only at q60) | skip
    refine At.region rfl rfl ?_
    refine Reg.pur rfl rfl rfl rfl (Pur.eql rfl rfl) ?_
    refine Reg.pur rfl rfl rfl rfl (Pur.asg rfl) ?_
    refine Reg.nil ?_
    refine At.cond rfl rfl (fun q60 => ?_) (fun q60 => ?_)
    · first | (simp only [decide_eq_true_eq, decide_eq_false_iff_not, Bool.not_eq_true', Bool.not_eq_false', ne_eq, Decidable.not_not, Bool.not_eq_true, Bool.not_eq_false] at q60) | (dsimp only at q60) | skip
      refine At.region rfl rfl ?_
      refine Reg.pur rfl rfl rfl rfl (Pur.mv rfl) ?_
      refine Reg.pur rfl rfl rfl rfl (Pur.not rfl) ?_
      refine Reg.pur rfl rfl rfl rfl (Pur.asg rfl) ?_
      refine Reg.nil ?_
      refine At.ret rfl Tryd.func4 rfl ?_
      exact ⟨congrArg Value.bool (by rw [hfin, if_pos (by omega)]; rfl), hE⟩
    first | (simp only [decide_eq_true_eq, decide_eq_false_iff_not, Bool.not_eq_true', Bool.not_eq_false', ne_eq, Decidable.not_not, Bool.not_eq_true, Bool.not_eq_false] at q60) | (dsimp only at q60) | skip
    refine At.region rfl rfl ?_
    refine Reg.pur rfl rfl rfl rfl (Pur.eql rfl rfl) ?_
    refine Reg.pur rfl rfl rfl rfl (Pur.asg rfl) ?_
    refine Reg.nil ?_
    refine At.cond rfl rfl (fun q66 => ?_) (fun q66 => ?_)
    · first | (simp only [decide_eq_true_eq, decide_eq_false_iff_not, Bool.not_eq_true', Bool.not_eq_false', ne_eq, Decidable.not_not, Bool.not_eq_true, Bool.not_eq_false] at q66) | (dsimp only at q66) | skip
      have hqc := hkC (by have := kn2 (k := x.k) (by omega); omega)
      refine At.region rfl rfl ?_
      refine Reg.pur rfl rfl rfl rfl (Pur.fld _ fo25_1 rfl) ?_
      refine Reg.lod rfl rfl rfl rfl (Lod.ld sc23 rfl o0_0.blk (by first | rfl | (simp; done))) ?_
      refine Reg.pur rfl rfl rfl rfl (Pur.fld _ fo35_3 rfl) ?_
      refine Reg.lod rfl rfl rfl rfl (Lod.ld sc3 rfl o6_5.blk (by first | rfl | (simp; done))) ?_
      refine Reg.op rfl rfl rfl rfl (Does.call rfl (direct_ok L hL x.c (hS.ext hE) hm)) ?_
      rintro _ H19_4 ⟨rfl, hE19_4⟩
      have z19_4 := hE19_4.lt
      replace hE := hE.ext hE19_4
      replace o0_0 := o0_0.ext hE19_4
      replace o6_5 := o6_5.ext hE19_4
      rw [hch x.c (by omega) (by omega)]
      refine Reg.pur rfl rfl rfl rfl (Pur.mv rfl) ?_
      refine Reg.pur rfl rfl rfl rfl (Pur.ext rfl rfl) ?_
      refine Reg.pur rfl rfl rfl rfl (Pur.ext rfl rfl) ?_
      refine Reg.pur rfl rfl rfl rfl (Pur.asg rfl) ?_
      refine Reg.pur rfl rfl rfl rfl (Pur.asg rfl) ?_
      refine Reg.nil ?_
      refine At.region rfl rfl ?_
      refine Reg.pur rfl rfl rfl rfl (Pur.mv rfl) ?_
      refine Reg.pur rfl rfl rfl rfl (Pur.asg rfl) ?_
      refine Reg.nil ?_
      refine At.region rfl rfl ?_
      refine Reg.pur rfl rfl rfl rfl (Pur.fld _ fo35_0 rfl) ?_
      refine Reg.lod rfl rfl rfl rfl (Lod.ld sc3 rfl o6_5.blk (by first | rfl | (simp; done))) ?_
      refine Reg.pur rfl rfl rfl rfl (Pur.neq rfl rfl) ?_
      refine Reg.nil ?_
      refine At.cond rfl rfl (fun q79 => ?_) (fun q79 => ?_)
      · first | (simp only [decide_eq_true_eq, decide_eq_false_iff_not, Bool.not_eq_true', Bool.not_eq_false', ne_eq, Decidable.not_not, Bool.not_eq_true, Bool.not_eq_false] at q79) | (dsimp only at q79) | skip
        have hqa := hkA (by first | (have := kn2 (k := x.k) (by omega); omega) | (have := kn1 (k := x.k) (by omega); omega))
        refine At.region rfl rfl ?_
        refine Reg.pur rfl rfl rfl rfl (Pur.fld _ fo25_1 rfl) ?_
        refine Reg.lod rfl rfl rfl rfl (Lod.ld sc23 rfl o0_0.blk (by first | rfl | (simp; done))) ?_
        refine Reg.pur rfl rfl rfl rfl (Pur.fld _ fo35_1 rfl) ?_
        refine Reg.lod rfl rfl rfl rfl (Lod.ld sc3 rfl o6_5.blk (by first | rfl | (simp; done))) ?_
        refine Reg.op rfl rfl rfl rfl (Does.call rfl (direct_ok L hL x.a (hS.ext hE) hm)) ?_
        rintro _ H22_4 ⟨rfl, hE22_4⟩
        have z22_4 := hE22_4.lt
        replace hE := hE.ext hE22_4
        replace o0_0 := o0_0.ext hE22_4
        replace o6_5 := o6_5.ext hE22_4
        rw [hch x.a (by omega) (by omega)]
        refine Reg.pur rfl rfl rfl rfl (Pur.mv rfl) ?_
        refine Reg.pur rfl rfl rfl rfl (Pur.ext rfl rfl) ?_
        refine Reg.pur rfl rfl rfl rfl (Pur.ext rfl rfl) ?_
        refine Reg.pur rfl rfl rfl rfl (Pur.asg rfl) ?_
        refine Reg.pur rfl rfl rfl rfl (Pur.asg rfl) ?_
        refine Reg.nil ?_
        refine At.region rfl rfl ?_
        refine Reg.pur rfl rfl rfl rfl (Pur.mv rfl) ?_
        refine Reg.pur rfl rfl rfl rfl (Pur.asg rfl) ?_
        refine Reg.nil ?_
        have hqb := hkB (by first | (have := kn2 (k := x.k) (by omega); omega) | (have := kn1 (k := x.k) (by omega); omega))
        refine At.region rfl rfl ?_
        refine Reg.pur rfl rfl rfl rfl (Pur.fld _ fo25_1 rfl) ?_
        refine Reg.lod rfl rfl rfl rfl (Lod.ld sc23 rfl o0_0.blk (by first | rfl | (simp; done))) ?_
        refine Reg.pur rfl rfl rfl rfl (Pur.fld _ fo35_2 rfl) ?_
        refine Reg.lod rfl rfl rfl rfl (Lod.ld sc3 rfl o6_5.blk (by first | rfl | (simp; done))) ?_
        refine Reg.op rfl rfl rfl rfl (Does.call rfl (direct_ok L hL x.b (hS.ext hE) hm)) ?_
        rintro _ H24_4 ⟨rfl, hE24_4⟩
        have z24_4 := hE24_4.lt
        replace hE := hE.ext hE24_4
        replace o0_0 := o0_0.ext hE24_4
        replace o6_5 := o6_5.ext hE24_4
        rw [hch x.b (by omega) (by omega)]
        refine Reg.pur rfl rfl rfl rfl (Pur.mv rfl) ?_
        refine Reg.pur rfl rfl rfl rfl (Pur.ext rfl rfl) ?_
        refine Reg.pur rfl rfl rfl rfl (Pur.ext rfl rfl) ?_
        refine Reg.pur rfl rfl rfl rfl (Pur.asg rfl) ?_
        refine Reg.pur rfl rfl rfl rfl (Pur.asg rfl) ?_
        refine Reg.nil ?_
        refine At.region rfl rfl ?_
        refine Reg.pur rfl rfl rfl rfl (Pur.mv rfl) ?_
        refine Reg.pur rfl rfl rfl rfl (Pur.asg rfl) ?_
        refine Reg.nil ?_
        refine At.region rfl rfl ?_
        refine Reg.pur rfl rfl rfl rfl (Pur.mv rfl) ?_
        refine Reg.pur rfl rfl rfl rfl (Pur.mv rfl) ?_
        refine Reg.pur rfl rfl rfl rfl (Pur.mv rfl) ?_
        refine Reg.case 100 rfl (fun q100 => ?_) (fun q100 => ?_)
        · first | (simp only [decide_eq_true_eq, decide_eq_false_iff_not, Bool.not_eq_true', Bool.not_eq_false', ne_eq, Decidable.not_not, Bool.not_eq_true, Bool.not_eq_false] at q100) | (dsimp only at q100) | skip
          refine Reg.gpur rfl rfl rfl rfl rfl rfl (Pur.mv rfl) ?_
          refine Reg.pur rfl rfl rfl rfl (Pur.pickT rfl rfl) ?_
          refine Reg.pur rfl rfl rfl rfl (Pur.mv rfl) ?_
          refine Reg.case 103 rfl (fun q103 => ?_) (fun q103 => ?_)
          · first | (simp only [decide_eq_true_eq, decide_eq_false_iff_not, Bool.not_eq_true', Bool.not_eq_false', ne_eq, Decidable.not_not, Bool.not_eq_true, Bool.not_eq_false] at q103) | (dsimp only at q103) | skip
            refine Reg.gpur rfl rfl rfl rfl rfl rfl (Pur.mv rfl) ?_
            refine Reg.pur rfl rfl rfl rfl (Pur.pickT rfl rfl) ?_
            refine Reg.pur rfl rfl rfl rfl (Pur.eqB Tryd.underlying4 rfl rfl) ?_
            refine Reg.pur rfl rfl rfl rfl (Pur.asg rfl) ?_
            refine Reg.nil ?_
            refine At.ret rfl Tryd.func4 rfl ?_
            refine ⟨congrArg Value.bool ?_, hE⟩
            rw [hfin, if_neg (by omega)]
            have h58 : x.k = 5 ∨ x.k = 6 ∨ x.k = 7 ∨ x.k = 8 := by omega
            rcases h58 with h | h | h | h
            all_goals first | (exfalso; omega) | (rw [h]; (first | (simp [dkOffs, nkOffs, iget, q100, q103]; done) | (simp [dkOffs, nkOffs, iget, q100]; done) | (simp [dkOffs, nkOffs, iget, q103]; done) | (simp [dkOffs, nkOffs, iget]; done)))
          first | (simp only [decide_eq_true_eq, decide_eq_false_iff_not, Bool.not_eq_true', Bool.not_eq_false', ne_eq, Decidable.not_not, Bool.not_eq_true, Bool.not_eq_false] at q103) | (dsimp only at q103) | skip
          refine Reg.skip rfl rfl rfl rfl rfl rfl rfl ?_
          refine Reg.pur rfl rfl rfl rfl (Pur.pickF rfl rfl) ?_
          refine Reg.pur rfl rfl rfl rfl (Pur.eqB Tryd.underlying4 rfl rfl) ?_
          refine Reg.pur rfl rfl rfl rfl (Pur.asg rfl) ?_
          refine Reg.nil ?_
          refine At.ret rfl Tryd.func4 rfl ?_
          refine ⟨congrArg Value.bool ?_, hE⟩
          rw [hfin, if_neg (by omega)]
          have h58 : x.k = 5 ∨ x.k = 6 ∨ x.k = 7 ∨ x.k = 8 := by omega
          rcases h58 with h | h | h | h
          all_goals first | (exfalso; omega) | (rw [h]; (first | (simp [dkOffs, nkOffs, iget, q100, q103]; done) | (simp [dkOffs, nkOffs, iget, q100]; done) | (simp [dkOffs, nkOffs, iget, q103]; done) | (simp [dkOffs, nkOffs, iget]; done)))
        first | (simp only [decide_eq_true_eq, decide_eq_false_iff_not, Bool.not_eq_true', Bool.not_eq_false', ne_eq, Decidable.not_not, Bool.not_eq_true, Bool.not_eq_false] at q100) | (dsimp only at q100) | skip
        refine Reg.skip rfl rfl rfl rfl rfl rfl rfl ?_
        refine Reg.pur rfl rfl rfl rfl (Pur.pickF rfl rfl) ?_
        refine Reg.pur rfl rfl rfl rfl (Pur.mv rfl) ?_
        refine Reg.skip rfl rfl rfl rfl rfl rfl rfl ?_
        refine Reg.pur rfl rfl rfl rfl (Pur.pickF rfl rfl) ?_
        refine Reg.pur rfl rfl rfl rfl (Pur.eqB Tryd.underlying4 rfl rfl) ?_
        refine Reg.pur rfl rfl rfl rfl (Pur.asg rfl) ?_
        refine Reg.nil ?_
        refine At.ret rfl Tryd.func4 rfl ?_
        refine ⟨congrArg Value.bool ?_, hE⟩
        rw [hfin, if_neg (by omega)]
        have h58 : x.k = 5 ∨ x.k = 6 ∨ x.k = 7 ∨ x.k = 8 := by omega
        rcases h58 with h | h | h | h
        all_goals first | (exfalso; omega) | (rw [h]; (first | (simp [dkOffs, nkOffs, iget, q100, q103]; done) | (simp [dkOffs, nkOffs, iget, q100]; done) | (simp [dkOffs, nkOffs, iget, q103]; done) | (simp [dkOffs, nkOffs, iget]; done)))
      first | (simp only [decide_eq_true_eq, decide_eq_false_iff_not, Bool.not_eq_true', Bool.not_eq_false', ne_eq, Decidable.not_not, Bool.not_eq_true, Bool.not_eq_false] at q79) | (dsimp only at q79) | skip
      have hqb := hkB (by first | (have := kn2 (k := x.k) (by omega); omega) | (have := kn1 (k := x.k) (by omega); omega))
      refine At.region rfl rfl ?_
      refine Reg.pur rfl rfl rfl rfl (Pur.fld _ fo25_1 rfl) ?_
      refine Reg.lod rfl rfl rfl rfl (Lod.ld sc23 rfl o0_0.blk (by first | rfl | (simp; done))) ?_
      refine Reg.pur rfl rfl rfl rfl (Pur.fld _ fo35_2 rfl) ?_
      refine Reg.lod rfl rfl rfl rfl (Lod.ld sc3 rfl o6_5.blk (by first | rfl | (simp; done))) ?_
      refine Reg.op rfl rfl rfl rfl (Does.call rfl (direct_ok L hL x.b (hS.ext hE) hm)) ?_
      rintro _ H24_4 ⟨rfl, hE24_4⟩
      have z24_4 := hE24_4.lt
      replace hE := hE.ext hE24_4
      replace o0_0 := o0_0.ext hE24_4
      replace o6_5 := o6_5.ext hE24_4
      rw [hch x.b (by omega) (by omega)]
      refine Reg.pur rfl rfl rfl rfl (Pur.mv rfl) ?_
      refine Reg.pur rfl rfl rfl rfl (Pur.ext rfl rfl) ?_
      refine Reg.pur rfl rfl rfl rfl (Pur.ext rfl rfl) ?_
      refine Reg.pur rfl rfl rfl rfl (Pur.asg rfl) ?_
      refine Reg.pur rfl rfl rfl rfl (Pur.asg rfl) ?_
      refine Reg.nil ?_
      refine At.region rfl rfl ?_
      refine Reg.pur rfl rfl rfl rfl (Pur.mv rfl) ?_
      refine Reg.pur rfl rfl rfl rfl (Pur.asg rfl) ?_
      refine Reg.nil ?_
      refine At.region rfl rfl ?_
      refine Reg.pur rfl rfl rfl rfl (Pur.mv rfl) ?_
      refine Reg.pur rfl rfl rfl rfl (Pur.mv rfl) ?_
      refine Reg.pur rfl rfl rfl rfl (Pur.mv rfl) ?_
      refine Reg.gpur rfl rfl rfl rfl rfl rfl (Pur.mv rfl) ?_
      refine Reg.pur rfl rfl rfl rfl (Pur.pickT rfl rfl) ?_
      refine Reg.pur rfl rfl rfl rfl (Pur.mv rfl) ?_
      refine Reg.case 103 rfl (fun q103 => ?_) (fun q103 => ?_)
      · first | (simp only [decide_eq_true_eq, decide_eq_false_iff_not, Bool.not_eq_true', Bool.not_eq_false', ne_eq, Decidable.not_not, Bool.not_eq_true, Bool.not_eq_false] at q103) | (dsimp only at q103) | skip
        refine Reg.gpur rfl rfl rfl rfl rfl rfl (Pur.mv rfl) ?_
        refine Reg.pur rfl rfl rfl rfl (Pur.pickT rfl rfl) ?_
        refine Reg.pur rfl rfl rfl rfl (Pur.eqB Tryd.underlying4 rfl rfl) ?_
        refine Reg.pur rfl rfl rfl rfl (Pur.asg rfl) ?_
        refine Reg.nil ?_
        refine At.ret rfl Tryd.func4 rfl ?_
        refine ⟨congrArg Value.bool ?_, hE⟩
        rw [hfin, if_neg (by omega)]
        have h58 : x.k = 5 ∨ x.k = 6 ∨ x.k = 7 ∨ x.k = 8 := by omega
        rcases h58 with h | h | h | h
        all_goals first | (exfalso; omega) | (rw [h]; (first | (simp [dkOffs, nkOffs, iget, q100, q103]; done) | (simp [dkOffs, nkOffs, iget, q100]; done) | (simp [dkOffs, nkOffs, iget, q103]; done) | (simp [dkOffs, nkOffs, iget]; done)))
      first | (simp only [decide_eq_true_eq, decide_eq_false_iff_not, Bool.not_eq_true', Bool.not_eq_false', ne_eq, Decidable.not_not, Bool.not_eq_true, Bool.not_eq_false] at q103) | (dsimp only at q103) | skip
      refine Reg.skip rfl rfl rfl rfl rfl rfl rfl ?_
      refine Reg.pur rfl rfl rfl rfl (Pur.pickF rfl rfl) ?_
      refine Reg.pur rfl rfl rfl rfl (Pur.eqB Tryd.underlying4 rfl rfl) ?_
      refine Reg.pur rfl rfl rfl rfl (Pur.asg rfl) ?_
      refine Reg.nil ?_
      refine At.ret rfl Tryd.func4 rfl ?_
      refine ⟨congrArg Value.bool ?_, hE⟩
      rw [hfin, if_neg (by omega)]
      have h58 : x.k = 5 ∨ x.k = 6 ∨ x.k = 7 ∨ x.k = 8 := by omega
      rcases h58 with h | h | h | h
      all_goals first | (exfalso; omega) | (rw [h]; (first | (simp [dkOffs, nkOffs, iget, q100, q103]; done) | (simp [dkOffs, nkOffs, iget, q100]; done) | (simp [dkOffs, nkOffs, iget, q103]; done) | (simp [dkOffs, nkOffs, iget]; done)))
    first | (simp only [decide_eq_true_eq, decide_eq_false_iff_not, Bool.not_eq_true', Bool.not_eq_false', ne_eq, Decidable.not_not, Bool.not_eq_true, Bool.not_eq_false] at q66) | (dsimp only at q66) | skip
    refine At.region rfl rfl ?_
    refine Reg.pur rfl rfl rfl rfl (Pur.fld _ fo35_0 rfl) ?_
    refine Reg.lod rfl rfl rfl rfl (Lod.ld sc3 rfl o6_5.blk (by first | rfl | (simp; done))) ?_
    refine Reg.pur rfl rfl rfl rfl (Pur.neq rfl rfl) ?_
    refine Reg.nil ?_
    refine At.cond rfl rfl (fun q79 => ?_) (fun q79 => ?_)
    · first | (simp only [decide_eq_true_eq, decide_eq_false_iff_not, Bool.not_eq_true', Bool.not_eq_false', ne_eq, Decidable.not_not, Bool.not_eq_true, Bool.not_eq_false] at q79) | (dsimp only at q79) | skip
      have hqa := hkA (by first | (have := kn2 (k := x.k) (by omega); omega) | (have := kn1 (k := x.k) (by omega); omega))
      refine At.region rfl rfl ?_
      refine Reg.pur rfl rfl rfl rfl (Pur.fld _ fo25_1 rfl) ?_
      refine Reg.lod rfl rfl rfl rfl (Lod.ld sc23 rfl o0_0.blk (by first | rfl | (simp; done))) ?_
      refine Reg.pur rfl rfl rfl rfl (Pur.fld _ fo35_1 rfl) ?_
      refine Reg.lod rfl rfl rfl rfl (Lod.ld sc3 rfl o6_5.blk (by first | rfl | (simp; done))) ?_
      refine Reg.op rfl rfl rfl rfl (Does.call rfl (direct_ok L hL x.a (hS.ext hE) hm)) ?_
      rintro _ H22_4 ⟨rfl, hE22_4⟩
      have z22_4 := hE22_4.lt
      replace hE := hE.ext hE22_4
      replace o0_0 := o0_0.ext hE22_4
      replace o6_5 := o6_5.ext hE22_4
      rw [hch x.a (by omega) (by omega)]
      refine Reg.pur rfl rfl rfl rfl (Pur.mv rfl) ?_
      refine Reg.pur rfl rfl rfl rfl (Pur.ext rfl rfl) ?_
      refine Reg.pur rfl rfl rfl rfl (Pur.ext rfl rfl) ?_
      refine Reg.pur rfl rfl rfl rfl (Pur.asg rfl) ?_
      refine Reg.pur rfl rfl rfl rfl (Pur.asg rfl) ?_
      refine Reg.nil ?_
      refine At.region rfl rfl ?_
      refine Reg.pur rfl rfl rfl rfl (Pur.mv rfl) ?_
      refine Reg.pur rfl rfl rfl rfl (Pur.asg rfl) ?_
      refine Reg.nil ?_
      have hqb := hkB (by first | (have := kn2 (k := x.k) (by omega); omega) | (have := kn1 (k := x.k) (by omega); omega))
      refine At.region rfl rfl ?_
      refine Reg.pur rfl rfl rfl rfl (Pur.fld _ fo25_1 rfl) ?_
      refine Reg.lod rfl rfl rfl rfl (Lod.ld sc23 rfl o0_0.blk (by first | rfl | (simp; done))) ?_
      refine Reg.pur rfl rfl rfl rfl (Pur.fld _ fo35_2 rfl) ?_
      refine Reg.lod rfl rfl rfl rfl (Lod.ld sc3 rfl o6_5.blk (by first | rfl | (simp; done))) ?_
      refine Reg.op rfl rfl rfl rfl (Does.call rfl (direct_ok L hL x.b (hS.ext hE) hm)) ?_
      rintro _ H24_4 ⟨rfl, hE24_4⟩
      have z24_4 := hE24_4.lt
      replace hE := hE.ext hE24_4
      replace o0_0 := o0_0.ext hE24_4
      replace o6_5 := o6_5.ext hE24_4
      rw [hch x.b (by omega) (by omega)]
      refine Reg.pur rfl rfl rfl rfl (Pur.mv rfl) ?_
      refine Reg.pur rfl rfl rfl rfl (Pur.ext rfl rfl) ?_
      refine Reg.pur rfl rfl rfl rfl (Pur.ext rfl rfl) ?_
      refine Reg.pur rfl rfl rfl rfl (Pur.asg rfl) ?_
      refine Reg.pur rfl rfl rfl rfl (Pur.asg rfl) ?_
      refine Reg.nil ?_
      refine At.region rfl rfl ?_
      refine Reg.pur rfl rfl rfl rfl (Pur.mv rfl) ?_
      refine Reg.pur rfl rfl rfl rfl (Pur.asg rfl) ?_
      refine Reg.nil ?_
      refine At.region rfl rfl ?_
      refine Reg.pur rfl rfl rfl rfl (Pur.mv rfl) ?_
      refine Reg.pur rfl rfl rfl rfl (Pur.mv rfl) ?_
      refine Reg.pur rfl rfl rfl rfl (Pur.mv rfl) ?_
      refine Reg.case 100 rfl (fun q100 => ?_) (fun q100 => ?_)
      · first | (simp only [decide_eq_true_eq, decide_eq_false_iff_not, Bool.not_eq_true', Bool.not_eq_false', ne_eq, Decidable.not_not, Bool.not_eq_true, Bool.not_eq_false] at q100) | (dsimp only at q100) | skip
        refine Reg.gpur rfl rfl rfl rfl rfl rfl (Pur.mv rfl) ?_
        refine Reg.pur rfl rfl rfl rfl (Pur.pickT rfl rfl) ?_
        refine Reg.pur rfl rfl rfl rfl (Pur.mv rfl) ?_
        refine Reg.case 103 rfl (fun q103 => ?_) (fun q103 => ?_)
        · first | (simp only [decide_eq_true_eq, decide_eq_false_iff_not, Bool.not_eq_true', Bool.not_eq_false', ne_eq, Decidable.not_not, Bool.not_eq_true, Bool.not_eq_false] at q103) | (dsimp only at q103) | skip
          refine Reg.gpur rfl rfl rfl rfl rfl rfl (Pur.mv rfl) ?_
          refine Reg.pur rfl rfl rfl rfl (Pur.pickT rfl rfl) ?_
          refine Reg.pur rfl rfl rfl rfl (Pur.eqB Tryd.underlying4 rfl rfl) ?_
          refine Reg.pur rfl rfl rfl rfl (Pur.asg rfl) ?_
          refine Reg.nil ?_
          refine At.ret rfl Tryd.func4 rfl ?_
          refine ⟨congrArg Value.bool ?_, hE⟩
          rw [hfin, if_neg (by omega)]
          have h58 : x.k = 5 ∨ x.k = 6 ∨ x.k = 7 ∨ x.k = 8 := by omega
          rcases h58 with h | h | h | h
          all_goals first | (exfalso; omega) | (rw [h]; (first | (simp [dkOffs, nkOffs, iget, q100, q103]; done) | (simp [dkOffs, nkOffs, iget, q100]; done) | (simp [dkOffs, nkOffs, iget, q103]; done) | (simp [dkOffs, nkOffs, iget]; done)))
        first | (simp only [decide_eq_true_eq, decide_eq_false_iff_not, Bool.not_eq_true', Bool.not_eq_false', ne_eq, Decidable.not_not, Bool.not_eq_true, Bool.not_eq_false] at q103) | (dsimp only at q103) | skip
        refine Reg.skip rfl rfl rfl rfl rfl rfl rfl ?_
        refine Reg.pur rfl rfl rfl rfl (Pur.pickF rfl rfl) ?_
        refine Reg.pur rfl rfl rfl rfl (Pur.eqB Tryd.underlying4 rfl rfl) ?_
        refine Reg.pur rfl rfl rfl rfl (Pur.asg rfl) ?_
        refine Reg.nil ?_
        refine At.ret rfl Tryd.func4 rfl ?_
        refine ⟨congrArg Value.bool ?_, hE⟩
        rw [hfin, if_neg (by omega)]
        have h58 : x.k = 5 ∨ x.k = 6 ∨ x.k = 7 ∨ x.k = 8 := by omega
        rcases h58 with h | h | h | h
        all_goals first | (exfalso; omega) | (rw [h]; (first | (simp [dkOffs, nkOffs, iget, q100, q103]; done) | (simp [dkOffs, nkOffs, iget, q100]; done) | (simp [dkOffs, nkOffs, iget, q103]; done) | (simp [dkOffs, nkOffs, iget]; done)))
      first | (simp only [decide_eq_true_eq, decide_eq_false_iff_not, Bool.not_eq_true', Bool.not_eq_false', ne_eq, Decidable.not_not, Bool.not_eq_true, Bool.not_eq_false] at q100) | (dsimp only at q100) | skip
      refine Reg.skip rfl rfl rfl rfl rfl rfl rfl ?_
      refine Reg.pur rfl rfl rfl rfl (Pur.pickF rfl rfl) ?_
      refine Reg.pur rfl rfl rfl rfl (Pur.mv rfl) ?_
      refine Reg.skip rfl rfl rfl rfl rfl rfl rfl ?_
      refine Reg.pur rfl rfl rfl rfl (Pur.pickF rfl rfl) ?_
      refine Reg.pur rfl rfl rfl rfl (Pur.eqB Tryd.underlying4 rfl rfl) ?_
      refine Reg.pur rfl rfl rfl rfl (Pur.asg rfl) ?_
      refine Reg.nil ?_
      refine At.ret rfl Tryd.func4 rfl ?_
      refine ⟨congrArg Value.bool ?_, hE⟩
      rw [hfin, if_neg (by omega)]
      have h58 : x.k = 5 ∨ x.k = 6 ∨ x.k = 7 ∨ x.k = 8 := by omega
      rcases h58 with h | h | h | h
      all_goals first | (exfalso; omega) | (rw [h]; (first | (simp [dkOffs, nkOffs, iget, q100, q103]; done) | (simp [dkOffs, nkOffs, iget, q100]; done) | (simp [dkOffs, nkOffs, iget, q103]; done) | (simp [dkOffs, nkOffs, iget]; done)))
    first | (simp only [decide_eq_true_eq, decide_eq_false_iff_not, Bool.not_eq_true', Bool.not_eq_false', ne_eq, Decidable.not_not, Bool.not_eq_true, Bool.not_eq_false] at q79) | (dsimp only at q79) | skip
    have hqb := hkB (by first | (have := kn2 (k := x.k) (by omega); omega) | (have := kn1 (k := x.k) (by omega); omega))
    refine At.region rfl rfl ?_
    refine Reg.pur rfl rfl rfl rfl (Pur.fld _ fo25_1 rfl) ?_
    refine Reg.lod rfl rfl rfl rfl (Lod.ld sc23 rfl o0_0.blk (by first | rfl | (simp; done))) ?_
    refine Reg.pur rfl rfl rfl rfl (Pur.fld _ fo35_2 rfl) ?_
    refine Reg.lod rfl rfl rfl rfl (Lod.ld sc3 rfl o6_5.blk (by first | rfl | (simp; done))) ?_
    refine Reg.op rfl rfl rfl rfl (Does.call rfl (direct_ok L hL x.b (hS.ext hE) hm)) ?_
    rintro _ H24_4 ⟨rfl, hE24_4⟩
    have z24_4 := hE24_4.lt
    replace hE := hE.ext hE24_4
    replace o0_0 := o0_0.ext hE24_4
    replace o6_5 := o6_5.ext hE24_4
    rw [hch x.b (by omega) (by omega)]
    refine Reg.pur rfl rfl rfl rfl (Pur.mv rfl) ?_
    refine Reg.pur rfl rfl rfl rfl (Pur.ext rfl rfl) ?_
    refine Reg.pur rfl rfl rfl rfl (Pur.ext rfl rfl) ?_
    refine Reg.pur rfl rfl rfl rfl (Pur.asg rfl) ?_
    refine Reg.pur rfl rfl rfl rfl (Pur.asg rfl) ?_
    refine Reg.nil ?_
    refine At.region rfl rfl ?_
    refine Reg.pur rfl rfl rfl rfl (Pur.mv rfl) ?_
    refine Reg.pur rfl rfl rfl rfl (Pur.asg rfl) ?_
    refine Reg.nil ?_
    refine At.region rfl rfl ?_
    refine Reg.pur rfl rfl rfl rfl (Pur.mv rfl) ?_
    refine Reg.pur rfl rfl rfl rfl (Pur.mv rfl) ?_
    refine Reg.pur rfl rfl rfl rfl (Pur.mv rfl) ?_
    refine Reg.gpur rfl rfl rfl rfl rfl rfl (Pur.mv rfl) ?_
    refine Reg.pur rfl rfl rfl rfl (Pur.pickT rfl rfl) ?_
    refine Reg.pur rfl rfl rfl rfl (Pur.mv rfl) ?_
    refine Reg.case 103 rfl (fun q103 => ?_) (fun q103 => ?_)
    · first | (simp only [decide_eq_true_eq, decide_eq_false_iff_not, Bool.not_eq_true', Bool.not_eq_false', ne_eq, Decidable.not_not, Bool.not_eq_true, Bool.not_eq_false] at q103) | (dsimp only at q103) | skip
      refine Reg.gpur rfl rfl rfl rfl rfl rfl (Pur.mv rfl) ?_
      refine Reg.pur rfl rfl rfl rfl (Pur.pickT rfl rfl) ?_
      refine Reg.pur rfl rfl rfl rfl (Pur.eqB Tryd.underlying4 rfl rfl) ?_
      refine Reg.pur rfl rfl rfl rfl (Pur.asg rfl) ?_
      refine Reg.nil ?_
      refine At.ret rfl Tryd.func4 rfl ?_
      refine ⟨congrArg Value.bool ?_, hE⟩
      rw [hfin, if_neg (by omega)]
      have h58 : x.k = 5 ∨ x.k = 6 ∨ x.k = 7 ∨ x.k = 8 := by omega
      rcases h58 with h | h | h | h
      all_goals first | (exfalso; omega) | (rw [h]; (first | (simp [dkOffs, nkOffs, iget, q100, q103]; done) | (simp [dkOffs, nkOffs, iget, q100]; done) | (simp [dkOffs, nkOffs, iget, q103]; done) | (simp [dkOffs, nkOffs, iget]; done)))
    first | (simp only [decide_eq_true_eq, decide_eq_false_iff_not, Bool.not_eq_true', Bool.not_eq_false', ne_eq, Decidable.not_not, Bool.not_eq_true, Bool.not_eq_false] at q103) | (dsimp only at q103) | skip
    refine Reg.skip rfl rfl rfl rfl rfl rfl rfl ?_
    refine Reg.pur rfl rfl rfl rfl (Pur.pickF rfl rfl) ?_
    refine Reg.pur rfl rfl rfl rfl (Pur.eqB Tryd.underlying4 rfl rfl) ?_
    refine Reg.pur rfl rfl rfl rfl (Pur.asg rfl) ?_
    refine Reg.nil ?_
    refine At.ret rfl Tryd.func4 rfl ?_
    refine ⟨congrArg Value.bool ?_, hE⟩
    rw [hfin, if_neg (by omega)]
    have h58 : x.k = 5 ∨ x.k = 6 ∨ x.k = 7 ∨ x.k = 8 := by omega
    rcases h58 with h | h | h | h
    all_goals first | (exfalso; omega) | (rw [h]; (first | (simp [dkOffs, nkOffs, iget, q100, q103]; done) | (simp [dkOffs, nkOffs, iget, q100]; done) | (simp [dkOffs, nkOffs, iget, q103]; done) | (simp [dkOffs, nkOffs, iget]; done)))
end Go.Proofs.YtjhkmebmbopfoaaDoor
