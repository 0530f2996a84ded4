/-
  Nodes: direct.
-/
import Derived.Test.YtjhkmebmbopfoaaDoorNodD
import Derived.Test.YtjhkmebmbopfoaaDoorFxG
namespace Go.Proofs.YtjhkmebmbopfoaaDoor
set_option linter.unusedSimpArgs false
set_option linter.unusedVariables false
set_option maxRecDepth 8000
set_option maxHeartbeats 1000000
open Go Go.Fx Go.Proofs
namespace FactsNodE
theorem ag35 : ag Tryd.prog 35 = some 10 := by kernel_rfl
theorem es23 : esz Tryd.prog 23 = some 10 := by kernel_rfl
theorem es79 : esz Tryd.prog 79 = some 1 := by kernel_rfl
theorem fo35_0 : foff Tryd.prog 35 0 = some 0 := by kernel_rfl
theorem isl79 : isSl Tryd.prog 79 = true := by kernel_rfl
theorem sc3 : sc Tryd.prog 3 = true := by kernel_rfl
theorem sc82 : sc Tryd.prog 82 = true := by kernel_rfl
theorem zc35 : zc Tryd.prog 35 = some [.int .i64 0, .int .i64 0, .int .i64 0, .int .i64 0, .int .i64 0, .string ⟨#[]⟩, .string ⟨#[]⟩, .string ⟨#[]⟩, .string ⟨#[]⟩, .int .i64 0] := by kernel_rfl
end FactsNodE
open FactsNodE

def dkOffs (k : Int) : List Nat := if k = 3 then [] else if k = 6 then [2] else nkOffs k
/-- needs a node no computation? -/
def drN (L : List Nd) : Nat → Int → Bool
  | 0, _ => false
  | f + 1, z => if (eln L z).k = 4 ∨ (eln L z).k = 9 ∨ (eln L z).k = 10 then false else (dkOffs (eln L z).k).all fun o => drN L f (iget (eln L z) o)
theorem dis_ok {A : Option Addr} {cap : Nat} (L : List Nd) (hT : Tn L) : ∀ (f : Nat) (z : Int) (H : Heap), SlT H eN 10 (.slice A L.length cap) L → 0 ≤ z → z < L.length → z.toNat < f →
    Ret Tryd.prog 23 [.slice A L.length cap, I z] H (fun v H' => v = .bool (drN L f z) ∧ Ext H H') := by
  intro f
  induction f with
  | zero => intro z H _ _ _ h; omega
  | succ f ihf =>
  intro z H hS hz0 hzl hzf
  have hzn : z.toNat < L.length := by omega
  have hm := hT.n2
  have hkid := hT.kid z hz0 hzl
  obtain ⟨b0, o0, c0, rfl, hb0, hbl, hbd⟩ := hS.at hzn
  have hfin : drN L (f + 1) z = if (L[z.toNat]).k = 4 ∨ (L[z.toNat]).k = 9 ∨ (L[z.toNat]).k = 10 then false else (dkOffs (L[z.toNat]).k).all fun o => drN L f (iget L[z.toNat] o) := by simp only [drN]; rw [eln_get hzn]
  rw [eln_get hzn] at hkid
  generalize L[z.toNat] = x at hbd hfin hkid
  have hk4 := nk_len x.k
  refine Ret.of_at (N := 39) Tryd.call23 Tryd.func23 rfl rfl rfl ?_
  have hE := Ext.refl H
  refine At.region rfl rfl ?_
  refine Reg.pur rfl rfl rfl rfl (Pur.asg rfl) ?_
  refine Reg.nil ?_
  refine At.region rfl rfl ?_
  refine Reg.pur rfl rfl rfl rfl (Pur.mv rfl) ?_
  refine Reg.pur rfl rfl rfl rfl (Pur.mv rfl) ?_
  refine Reg.pur rfl rfl rfl rfl (Pur.idx _ es23 rfl rfl (by omega) (by omega)) ?_
  refine Reg.lod rfl rfl rfl rfl (Lod.ldn ag35 rfl hb0 hbd rfl) ?_
  refine Reg.op rfl rfl rfl rfl (Does.alloc zc35) ?_
  rintro _ H1_4 ⟨rfl, hn1_4⟩
  have z1_4 := hn1_4.size
  replace hE := hE.ext hn1_4.ext
  have o1_4 := hn1_4.own
  refine Reg.op0 rfl rfl rfl (Does.stn ag35 rfl rfl (by first | rfl | exact ones_Is _) (by first | rfl | (simp [*]; done)) o1_4 (by first | decide | (simp; done) | (simp; omega) | omega)) ?_
  rintro _ H1_5 hu1_5
  have z1_5 := hu1_5.size
  replace hE := hE.upw hu1_5 (by omega)
  replace o1_4 := hu1_5.own
  first | rw [over (by first | rfl | (simp; done))] at o1_4 | skip
  refine Reg.nil ?_
  refine At.region rfl rfl ?_
  refine Reg.op rfl rfl rfl rfl (Does.call rfl (nkids_ok0 (k := x.k) o1_4.blk rfl)) ?_
  rintro _ H2_0 ⟨A2, rfl, hA, hE2_0⟩
  have z2_0 := hE2_0.lt
  replace hE := hE.ext hE2_0
  replace o1_4 := o1_4.ext hE2_0
  have z_hA := hA.lt
  refine Reg.pur rfl rfl rfl rfl (Pur.asg rfl) ?_
  refine Reg.nil ?_
  refine At.region rfl rfl ?_
  refine Reg.pur rfl rfl rfl rfl (Pur.fld _ fo35_0 rfl) ?_
  refine Reg.lod rfl rfl rfl rfl (Lod.ld sc3 rfl o1_4.blk (by first | rfl | (simp; done))) ?_
  refine Reg.nil ?_
  refine At.region rfl rfl ?_
  refine Reg.pur rfl rfl rfl rfl (Pur.eql rfl rfl) ?_
  refine Reg.pur rfl rfl rfl rfl (Pur.asg rfl) ?_
  refine Reg.nil ?_
  refine At.cond rfl rfl (fun q16 => ?_) (fun q16 => ?_)
  · first | (simp only [decide_eq_true_eq, decide_eq_false_iff_not, Bool.not_eq_true', Bool.not_eq_false', ne_eq, Decidable.not_not, Bool.not_eq_true, Bool.not_eq_false] at q16) | (dsimp only at q16) | skip
    refine At.condT rfl rfl (by first | exact q16 | exact decide_eq_true q16 | exact decide_eq_false q16 | simpa using q16) ?_
    refine At.region rfl rfl ?_
    refine Reg.pur rfl rfl rfl rfl (Pur.asg rfl) ?_
    refine Reg.nil ?_
    refine At.ret rfl Tryd.func23 rfl ?_
    exact ⟨by rw [hfin, if_pos (by omega)], hE⟩
  first | (simp only [decide_eq_true_eq, decide_eq_false_iff_not, Bool.not_eq_true', Bool.not_eq_false', ne_eq, Decidable.not_not, Bool.not_eq_true, Bool.not_eq_false] at q16) | (dsimp only at q16) | skip
  refine At.region rfl rfl ?_
  refine Reg.pur rfl rfl rfl rfl (Pur.eql rfl rfl) ?_
  refine Reg.pur rfl rfl rfl rfl (Pur.asg rfl) ?_
  refine Reg.nil ?_
  refine At.cond rfl rfl (fun q16 => ?_) (fun q16 => ?_)
  · first | (simp only [decide_eq_true_eq, decide_eq_false_iff_not, Bool.not_eq_true', Bool.not_eq_false', ne_eq, Decidable.not_not, Bool.not_eq_true, Bool.not_eq_false] at q16) | (dsimp only at q16) | skip
    refine At.condT rfl rfl (by first | exact q16 | exact decide_eq_true q16 | exact decide_eq_false q16 | simpa using q16) ?_
    refine At.region rfl rfl ?_
    refine Reg.pur rfl rfl rfl rfl (Pur.asg rfl) ?_
    refine Reg.nil ?_
    refine At.ret rfl Tryd.func23 rfl ?_
    exact ⟨by rw [hfin, if_pos (by omega)], hE⟩
  first | (simp only [decide_eq_true_eq, decide_eq_false_iff_not, Bool.not_eq_true', Bool.not_eq_false', ne_eq, Decidable.not_not, Bool.not_eq_true, Bool.not_eq_false] at q16) | (dsimp only at q16) | skip
  refine At.region rfl rfl ?_
  refine Reg.pur rfl rfl rfl rfl (Pur.eql rfl rfl) ?_
  refine Reg.pur rfl rfl rfl rfl (Pur.asg rfl) ?_
  refine Reg.nil ?_
  refine At.cond rfl rfl (fun q16 => ?_) (fun q16 => ?_)
  · first | (simp only [decide_eq_true_eq, decide_eq_false_iff_not, Bool.not_eq_true', Bool.not_eq_false', ne_eq, Decidable.not_not, Bool.not_eq_true, Bool.not_eq_false] at q16) | (dsimp only at q16) | skip
    refine At.region rfl rfl ?_
    refine Reg.pur rfl rfl rfl rfl (Pur.asg rfl) ?_
    refine Reg.nil ?_
    refine At.ret rfl Tryd.func23 rfl ?_
    exact ⟨by rw [hfin, if_pos (by omega)], hE⟩
  first | (simp only [decide_eq_true_eq, decide_eq_false_iff_not, Bool.not_eq_true', Bool.not_eq_false', ne_eq, Decidable.not_not, Bool.not_eq_true, Bool.not_eq_false] at q16) | (dsimp only at q16) | skip
  refine At.region rfl rfl ?_
  refine Reg.pur rfl rfl rfl rfl (Pur.eql rfl rfl) ?_
  refine Reg.pur rfl rfl rfl rfl (Pur.asg rfl) ?_
  refine Reg.nil ?_
  refine At.cond rfl rfl (fun q20 => ?_) (fun q20 => ?_)
  · first | (simp only [decide_eq_true_eq, decide_eq_false_iff_not, Bool.not_eq_true', Bool.not_eq_false', ne_eq, Decidable.not_not, Bool.not_eq_true, Bool.not_eq_false] at q20) | (dsimp only at q20) | skip
    refine At.region rfl rfl ?_
    refine Reg.pur rfl rfl rfl rfl (Pur.asg rfl) ?_
    refine Reg.nil ?_
    refine At.region rfl rfl ?_
    refine Reg.pur rfl rfl rfl rfl (Pur.asg rfl) ?_
    refine Reg.nil ?_
    refine At.ret rfl Tryd.func23 rfl ?_
    refine ⟨congrArg Value.bool ?_, hE⟩
    first | (rw [hfin, if_neg (by omega), ‹x.k = 3›]; rfl) | (rw [hfin, if_neg (by omega), ‹x.k = 6›]; simp [dkOffs, iget, hgo (by omega)]; done) | (rw [← hgo, List.drop_of_length_le (by omega)]; rfl)
  first | (simp only [decide_eq_true_eq, decide_eq_false_iff_not, Bool.not_eq_true', Bool.not_eq_false', ne_eq, Decidable.not_not, Bool.not_eq_true, Bool.not_eq_false] at q20) | (dsimp only at q20) | skip
  refine At.region rfl rfl ?_
  refine Reg.pur rfl rfl rfl rfl (Pur.eql rfl rfl) ?_
  refine Reg.pur rfl rfl rfl rfl (Pur.asg rfl) ?_
  refine Reg.nil ?_
  refine At.cond rfl rfl (fun q22 => ?_) (fun q22 => ?_)
  · first | (simp only [decide_eq_true_eq, decide_eq_false_iff_not, Bool.not_eq_true', Bool.not_eq_false', ne_eq, Decidable.not_not, Bool.not_eq_true, Bool.not_eq_false] at q22) | (dsimp only at q22) | skip
    have e6 : nkOffs x.k = [1, 2] := by rw [q22]; rfl
    have hkd := hkid _ (kv_mem (x := x) (i := 1) (by rw [e6]; decide))
    generalize nkOffs x.k = os at *
    subst e6
    have hkd : 0 ≤ x.b ∧ x.b < z := hkd
    obtain ⟨B, hlo, rfl, hO, hg⟩ := hA.get (i := 1) (by decide)
    refine At.region rfl rfl ?_
    refine Reg.pur rfl rfl rfl rfl (Pur.mv rfl) ?_
    refine Reg.pur rfl rfl rfl rfl (Pur.cutL es79 rfl rfl (by decide) (by decide) (by decide)) ?_
    refine Reg.pur rfl rfl rfl rfl (Pur.asg rfl) ?_
    refine Reg.nil ?_
    refine At.region rfl rfl ?_
    refine Reg.pur rfl rfl rfl rfl (Pur.mv rfl) ?_
    refine Reg.pur rfl rfl rfl rfl (Pur.lenS isl79 rfl) ?_
    refine Reg.pur rfl rfl rfl rfl (Pur.mv rfl) ?_
    refine Reg.nil ?_
    refine At.loop (σ := Nat) (fun i => [(28, I i), (26, .slice (some ⟨B, 1, none⟩) 1 1), (27, I 1), (0, .slice (some ⟨b0, o0, none⟩) L.length cap)]) (fun i H' => i ≤ 1 ∧ Own H' H.size (eN x) ∧ Own H' B ([1, 2].map (ptr H.size)) ∧ Ext H H' ∧ (i = 1 → drN L f x.b = true)) (fun i => 1 - i) 0 rfl ⟨rfl, rfl, rfl, rfl, trivial⟩ ⟨by omega, o1_4, hO, hE, fun h => by cases h⟩ ?_
    clear hA o1_4 hO hE hg
    rintro i H6 ⟨hi, o1_4, hA, hE, hgo⟩ ih
    refine At.region rfl rfl ?_
    refine Reg.pur rfl rfl rfl rfl (Pur.lss rfl rfl) ?_
    refine Reg.nil ?_
    refine At.cond rfl rfl (fun q29 => ?_) (fun q29 => ?_)
    · first | (simp only [decide_eq_true_eq, decide_eq_false_iff_not, Bool.not_eq_true', Bool.not_eq_false', ne_eq, Decidable.not_not, Bool.not_eq_true, Bool.not_eq_false] at q29) | (dsimp only at q29) | skip
      have hO := hA
      obtain rfl : i = 0 := by omega
      have hg : ([1, 2].map (ptr H.size))[1 + ((0 : Nat) : Int).toNat * 1]? = some (ptr H.size 2) := rfl
      refine At.region rfl rfl ?_
      refine Reg.pur rfl rfl rfl rfl (Pur.idx _ es79 rfl rfl (by omega) (by omega)) ?_
      refine Reg.lod rfl rfl rfl rfl (Lod.ld sc82 rfl hO.blk hg) ?_
      refine Reg.pur rfl rfl rfl rfl (Pur.asg rfl) ?_
      refine Reg.nil ?_
      have hi4 : (eN x)[2]? = some (I x.b) := rfl
      have hih := fun H h => ihf x.b H h (by omega) (by omega) (by omega)
      refine At.region rfl rfl ?_
      refine Reg.pur rfl rfl rfl rfl (Pur.mv rfl) ?_
      refine Reg.pur rfl rfl rfl rfl (Pur.mv rfl) ?_
      refine Reg.pur rfl rfl rfl rfl (Pur.nilc rfl) ?_
      refine Reg.lod rfl rfl rfl rfl (Lod.ld sc3 rfl o1_4.blk hi4) ?_
      refine Reg.op rfl rfl rfl rfl (Does.call rfl (hih _ (hS.ext hE))) ?_
      rintro _ H15_4 ⟨rfl, hE15_4⟩
      have z15_4 := hE15_4.lt
      replace hE := hE.ext hE15_4
      replace o1_4 := o1_4.ext hE15_4
      replace hA := hA.ext hE15_4
      refine Reg.pur rfl rfl rfl rfl (Pur.not rfl) ?_
      refine Reg.nil ?_
      refine At.cond rfl rfl (fun q37 => ?_) (fun q37 => ?_)
      · first | (simp only [decide_eq_true_eq, decide_eq_false_iff_not, Bool.not_eq_true', Bool.not_eq_false', ne_eq, Decidable.not_not, Bool.not_eq_true, Bool.not_eq_false] at q37) | (dsimp only at q37) | skip
        refine At.region rfl rfl ?_
        refine Reg.pur rfl rfl rfl rfl (Pur.asg rfl) ?_
        refine Reg.nil ?_
        refine At.ret rfl Tryd.func23 rfl ?_
        first | exact ⟨by rw [← hgo, ‹drN L f _ = false›]; rfl, hE⟩ | exact ⟨congrArg Value.bool (by rw [hfin, if_neg (by omega), q22]; simp [dkOffs, iget, ‹drN L f x.b = false›]), hE⟩
      first | (simp only [decide_eq_true_eq, decide_eq_false_iff_not, Bool.not_eq_true', Bool.not_eq_false', ne_eq, Decidable.not_not, Bool.not_eq_true, Bool.not_eq_false] at q37) | (dsimp only at q37) | skip
      refine At.region rfl rfl ?_
      refine Reg.pur rfl rfl rfl rfl (Pur.add64 rfl rfl (by omega)) ?_
      refine Reg.pur rfl rfl rfl rfl (Pur.mv rfl) ?_
      refine Reg.nil ?_
      exact At.meets rfl (ih 1 _ ⟨by omega, o1_4, hA, hE, fun _ => ‹_›⟩ (by omega)) ⟨rfl, rfl, rfl, rfl, trivial⟩
    first | (simp only [decide_eq_true_eq, decide_eq_false_iff_not, Bool.not_eq_true', Bool.not_eq_false', ne_eq, Decidable.not_not, Bool.not_eq_true, Bool.not_eq_false] at q29) | (dsimp only at q29) | skip
    refine At.region rfl rfl ?_
    refine Reg.pur rfl rfl rfl rfl (Pur.asg rfl) ?_
    refine Reg.nil ?_
    refine At.ret rfl Tryd.func23 rfl ?_
    refine ⟨congrArg Value.bool ?_, hE⟩
    first | (rw [hfin, if_neg (by omega), ‹x.k = 3›]; rfl) | (rw [hfin, if_neg (by omega), ‹x.k = 6›]; simp [dkOffs, iget, hgo (by omega)]; done) | (rw [← hgo, List.drop_of_length_le (by omega)]; rfl)
  first | (simp only [decide_eq_true_eq, decide_eq_false_iff_not, Bool.not_eq_true', Bool.not_eq_false', ne_eq, Decidable.not_not, Bool.not_eq_true, Bool.not_eq_false] at q22) | (dsimp only at q22) | skip
  refine At.region rfl rfl ?_
  refine Reg.pur rfl rfl rfl rfl (Pur.mv rfl) ?_
  refine Reg.pur rfl rfl rfl rfl (Pur.lenS isl79 rfl) ?_
  refine Reg.pur rfl rfl rfl rfl (Pur.mv rfl) ?_
  refine Reg.nil ?_
  have hdk : dkOffs x.k = nkOffs x.k := by unfold dkOffs; rw [if_neg (by omega), if_neg (by omega)]
  rw [hdk, if_neg (by omega)] at hfin
  refine At.loop (σ := Nat) (fun i => [(28, I i), (26, .slice A2 (nkOffs x.k).length (nkOffs x.k).length), (27, I (nkOffs x.k).length), (0, .slice (some ⟨b0, o0, none⟩) L.length cap)]) (fun i H' => i ≤ (nkOffs x.k).length ∧ Own H' H.size (eN x) ∧ PtrO H' H1_5.size A2 ((nkOffs x.k).map (ptr H.size)) ∧ Ext H H' ∧ ((nkOffs x.k).drop i).all (fun o => drN L f (iget x o)) = drN L (f + 1) z) (fun i => (nkOffs x.k).length - i) 0 rfl ⟨rfl, rfl, rfl, rfl, trivial⟩ ⟨by omega, o1_4, hA, hE, by rw [hfin]; rfl⟩ ?_
  clear hA o1_4 hE
  rintro i H6 ⟨hi, o1_4, hA, hE, hgo⟩ ih
  refine At.region rfl rfl ?_
  refine Reg.pur rfl rfl rfl rfl (Pur.lss rfl rfl) ?_
  refine Reg.nil ?_
  refine At.cond rfl rfl (fun q29 => ?_) (fun q29 => ?_)
  · first | (simp only [decide_eq_true_eq, decide_eq_false_iff_not, Bool.not_eq_true', Bool.not_eq_false', ne_eq, Decidable.not_not, Bool.not_eq_true, Bool.not_eq_false] at q29) | (dsimp only at q29) | skip
    have hlt : i < (nkOffs x.k).length := by omega
    have ho := nk_in x.k i hlt
    have hkd := hkid _ (kv_mem hlt)
    rw [drop_getD hlt, List.all_cons] at hgo
    obtain ⟨B, hlo, rfl, hO, hg⟩ := hA.get hlt
    refine At.region rfl rfl ?_
    refine Reg.pur rfl rfl rfl rfl (Pur.idx _ es79 rfl rfl (by omega) (by omega)) ?_
    refine Reg.lod rfl rfl rfl rfl (Lod.ld sc82 rfl hO.blk hg) ?_
    refine Reg.pur rfl rfl rfl rfl (Pur.asg rfl) ?_
    refine Reg.nil ?_
    have hi4 := eN_int (n := x) ho
    have hih := fun H h => ihf (iget x ((nkOffs x.k).getD i 0)) H h (by omega) (by omega) (by omega)
    refine At.region rfl rfl ?_
    refine Reg.pur rfl rfl rfl rfl (Pur.mv rfl) ?_
    refine Reg.pur rfl rfl rfl rfl (Pur.mv rfl) ?_
    refine Reg.pur rfl rfl rfl rfl (Pur.nilc rfl) ?_
    refine Reg.lod rfl rfl rfl rfl (Lod.ld sc3 rfl o1_4.blk hi4) ?_
    refine Reg.op rfl rfl rfl rfl (Does.call rfl (hih _ (hS.ext hE))) ?_
    rintro _ H15_4 ⟨rfl, hE15_4⟩
    have z15_4 := hE15_4.lt
    replace hE := hE.ext hE15_4
    replace o1_4 := o1_4.ext hE15_4
    replace hA := hA.ext hE15_4
    refine Reg.pur rfl rfl rfl rfl (Pur.not rfl) ?_
    refine Reg.nil ?_
    refine At.cond rfl rfl (fun q37 => ?_) (fun q37 => ?_)
    · first | (simp only [decide_eq_true_eq, decide_eq_false_iff_not, Bool.not_eq_true', Bool.not_eq_false', ne_eq, Decidable.not_not, Bool.not_eq_true, Bool.not_eq_false] at q37) | (dsimp only at q37) | skip
      refine At.region rfl rfl ?_
      refine Reg.pur rfl rfl rfl rfl (Pur.asg rfl) ?_
      refine Reg.nil ?_
      refine At.ret rfl Tryd.func23 rfl ?_
      first | exact ⟨by rw [← hgo, ‹drN L f _ = false›]; rfl, hE⟩ | exact ⟨congrArg Value.bool (by rw [hfin, if_neg (by omega), q22]; simp [dkOffs, iget, ‹drN L f x.b = false›]), hE⟩
    first | (simp only [decide_eq_true_eq, decide_eq_false_iff_not, Bool.not_eq_true', Bool.not_eq_false', ne_eq, Decidable.not_not, Bool.not_eq_true, Bool.not_eq_false] at q37) | (dsimp only at q37) | skip
    refine At.region rfl rfl ?_
    refine Reg.pur rfl rfl rfl rfl (Pur.add64 rfl rfl (by omega)) ?_
    refine Reg.pur rfl rfl rfl rfl (Pur.mv rfl) ?_
    refine Reg.nil ?_
    rw [‹drN L f _ = true›, Bool.true_and] at hgo
    exact At.meets rfl (ih (i + 1) _ ⟨by omega, o1_4, hA, hE, hgo⟩ (by omega)) ⟨rfl, rfl, rfl, rfl, trivial⟩
  first | (simp only [decide_eq_true_eq, decide_eq_false_iff_not, Bool.not_eq_true', Bool.not_eq_false', ne_eq, Decidable.not_not, Bool.not_eq_true, Bool.not_eq_false] at q29) | (dsimp only at q29) | skip
  refine At.region rfl rfl ?_
  refine Reg.pur rfl rfl rfl rfl (Pur.asg rfl) ?_
  refine Reg.nil ?_
  refine At.ret rfl Tryd.func23 rfl ?_
  refine ⟨congrArg Value.bool ?_, hE⟩
  first | (rw [hfin, if_neg (by omega), ‹x.k = 3›]; rfl) | (rw [hfin, if_neg (by omega), ‹x.k = 6›]; simp [dkOffs, iget, hgo (by omega)]; done) | (rw [← hgo, List.drop_of_length_le (by omega)]; rfl)
end Go.Proofs.YtjhkmebmbopfoaaDoor
