/-
  Nodes: the reference's Begin, depth, direct.
-/
import Derived.Test.YtjhkmebmbopfoaaDoorNodF
namespace Go.Proofs.YtjhkmebmbopfoaaDoor
set_option linter.unusedSimpArgs false
set_option linter.unusedVariables false
set_option maxRecDepth 8000
set_option maxHeartbeats 1000000
open Go Go.Fx Go.Proofs
namespace FactsNodG
theorem ag35 : ag Tryd.prog 35 = some 10 := by kernel_rfl
theorem es23 : esz Tryd.prog 23 = some 10 := by kernel_rfl
theorem fo35_0 : foff Tryd.prog 35 0 = some 0 := by kernel_rfl
theorem fo35_1 : foff Tryd.prog 35 1 = some 1 := by kernel_rfl
theorem fo35_2 : foff Tryd.prog 35 2 = some 2 := by kernel_rfl
theorem fo35_3 : foff Tryd.prog 35 3 = some 3 := by kernel_rfl
theorem sc3 : sc Tryd.prog 3 = true := by kernel_rfl
theorem zc35 : zc Tryd.prog 35 = some [.int .i64 0, .int .i64 0, .int .i64 0, .int .i64 0, .int .i64 0, .string ⟨#[]⟩, .string ⟨#[]⟩, .string ⟨#[]⟩, .string ⟨#[]⟩, .int .i64 0] := by kernel_rfl
end FactsNodG
open FactsNodG

theorem begR_ok {A : Option Addr} {cap : Nat} (L : List Nd) {H : Heap} (hS : SlT H eN 10 (.slice A L.length cap) L) (hm : L.length ≤ 9223372036854775807) : ∀ (f : Nat) (z : Int), 0 ≤ z → z < L.length → z.toNat < f →
    Ret Tryd.prog 79 [.slice A L.length cap, I z] H (fun v H' => v = I (beN L f z) ∧ H' = H) := by
  intro f
  induction f with
  | zero => intro z _ _ h; omega
  | succ f ihf =>
  intro z hz0 hzl hzf
  have hzn : z.toNat < L.length := by omega
  obtain ⟨b0, o0, c0, rfl, hb0, hbl, hbd⟩ := hS.at hzn
  have hfin : beN L (f + 1) z = beK (beN L f) (kvn L[z.toNat]) z := by simp only [beN]; rw [eln_get hzn]
  generalize L[z.toNat] = x at hbd hfin
  have hat : ∀ j, 1 ≤ j ∧ j ≤ 3 → c0[o0 + z.toNat * 10 + j]? = some (I (iget x j)) := fun j hj => at_tk hbd (by omega) (eN_int hj)
  have hat0 : c0[o0 + z.toNat * 10 + 0]? = some (I x.k) := at_tk hbd (by omega) rfl
  have hkv : kvn x = (dnN (kidN x.k).toNat).map (iget x) := by rw [kvn, kid_dn]
  rw [hkv] at hfin
  obtain ⟨k1, k2⟩ := kid_in x.k
  clear hkv
  refine Ret.of_at (N := 53) Tryd.call79 Tryd.func79 rfl rfl rfl ?_
  refine At.region rfl rfl ?_
  refine Reg.pur rfl rfl rfl rfl (Pur.asg rfl) ?_
  refine Reg.nil ?_
  refine At.region rfl rfl ?_
  refine Reg.pur rfl rfl rfl rfl (Pur.mv rfl) ?_
  refine Reg.pur rfl rfl rfl rfl (Pur.asg rfl) ?_
  refine Reg.nil ?_
  refine At.region rfl rfl ?_
  refine Reg.pur rfl rfl rfl rfl (Pur.mv rfl) ?_
  refine Reg.pur rfl rfl rfl rfl (Pur.mv rfl) ?_
  refine Reg.pur rfl rfl rfl rfl (Pur.idx _ es23 rfl rfl (by omega) (by omega)) ?_
  refine Reg.pur rfl rfl rfl rfl (Pur.fld _ fo35_0 rfl) ?_
  refine Reg.lod rfl rfl rfl rfl (Lod.ld sc3 rfl hb0 hat0) ?_
  refine Reg.op rfl rfl rfl rfl (Does.call rfl (kidsR_ok _ _)) ?_
  rintro _ H ⟨rfl, rfl⟩
  refine Reg.pur rfl rfl rfl rfl (Pur.asg rfl) ?_
  refine Reg.nil ?_
  generalize kidN x.k = n at *
  refine At.loop (σ := Int × Int) (fun s => [(6, I s.1), (5, I s.2), (0, .slice (some ⟨b0, o0, none⟩) L.length cap), (1, I z)]) (fun s H' => -1 ≤ s.1 ∧ s.1 ≤ 3 ∧ 0 ≤ s.2 ∧ s.2 ≤ z ∧ H' = H ∧ beK (beN L f) ((dnN s.1.toNat).map (iget x)) s.2 = beN L (f + 1) z) (fun s => (s.1 + 1).toNat) (n, z) rfl ⟨rfl, rfl, rfl, rfl, trivial⟩ ⟨k1, k2, hz0, by simp, rfl, hfin.symm⟩ ?_
  clear hfin k1 k2 n
  rintro ⟨i, y⟩ H6 ⟨hi, hi3, hy0, hyz, rfl, hgo⟩ ih
  dsimp only at hi hi3 hy0 hyz hgo ⊢
  refine At.region rfl rfl ?_
  refine Reg.pur rfl rfl rfl rfl (Pur.mv rfl) ?_
  refine Reg.pur rfl rfl rfl rfl (Pur.gtr rfl rfl) ?_
  refine Reg.nil ?_
  refine At.cond rfl rfl (fun hb1 => ?_) (fun hb1 => ?_)
  · simp only [decide_eq_true_eq] at hb1
    obtain ⟨m, rfl⟩ : ∃ m : Nat, i = m + 1 := ⟨(i - 1).toNat, by omega⟩
    have him : ((m : Int) + 1).toNat = m + 1 := by omega
    rw [him, dnN, List.map_cons, beK] at hgo
    refine At.region rfl rfl ?_
    refine Reg.pur rfl rfl rfl rfl (Pur.mv rfl) ?_
    refine Reg.pur rfl rfl rfl rfl (Pur.mv rfl) ?_
    refine Reg.pur rfl rfl rfl rfl (Pur.idx _ es23 rfl rfl (by omega) (by omega)) ?_
    refine Reg.pur rfl rfl rfl rfl (Pur.fld _ fo35_1 rfl) ?_
    refine Reg.lod rfl rfl rfl rfl (Lod.ld sc3 rfl hb0 (hat 1 (by omega))) ?_
    refine Reg.pur rfl rfl rfl rfl (Pur.asg rfl) ?_
    refine Reg.nil ?_
    refine At.region rfl rfl ?_
    refine Reg.pur rfl rfl rfl rfl (Pur.mv rfl) ?_
    refine Reg.nil ?_
    refine At.region rfl rfl ?_
    refine Reg.pur rfl rfl rfl rfl (Pur.eql rfl rfl) ?_
    refine Reg.pur rfl rfl rfl rfl (Pur.asg rfl) ?_
    refine Reg.nil ?_
    refine At.joinc (σ := Unit) (fun _ => [(7, I (iget x (m + 1))), (6, I ((m : Int) + 1)), (5, I y), (0, .slice (some ⟨b0, o0, none⟩) L.length cap), (1, I z)]) (fun _ H' => H' = H6) rfl (fun hJ => ?_) (fun _ H3 hI => ?_)
    · refine At.cond rfl rfl (fun hb2 => ?_) (fun hb2 => ?_)
      · refine At.region rfl rfl ?_
        refine Reg.pur rfl rfl rfl rfl (Pur.mv rfl) ?_
        refine Reg.pur rfl rfl rfl rfl (Pur.mv rfl) ?_
        refine Reg.pur rfl rfl rfl rfl (Pur.idx _ es23 rfl rfl (by omega) (by omega)) ?_
        refine Reg.pur rfl rfl rfl rfl (Pur.fld _ fo35_2 rfl) ?_
        refine Reg.lod rfl rfl rfl rfl (Lod.ld sc3 rfl hb0 (hat 2 (by omega))) ?_
        refine Reg.pur rfl rfl rfl rfl (Pur.asg rfl) ?_
        refine Reg.nil ?_
        simp only [decide_eq_true_eq, decide_eq_false_iff_not] at *
        first | (have hm1 : m = 0 := by omega) | (have hm1 : m = 1 := by omega) | (have hm1 : m = 2 := by omega)
        subst hm1
        exact At.meets rfl (hJ () _ rfl) ⟨rfl, rfl, rfl, rfl, rfl, trivial⟩
      refine At.region rfl rfl ?_
      refine Reg.pur rfl rfl rfl rfl (Pur.eql rfl rfl) ?_
      refine Reg.pur rfl rfl rfl rfl (Pur.asg rfl) ?_
      refine Reg.nil ?_
      refine At.cond rfl rfl (fun hb3 => ?_) (fun hb3 => ?_)
      · refine At.region rfl rfl ?_
        refine Reg.pur rfl rfl rfl rfl (Pur.mv rfl) ?_
        refine Reg.pur rfl rfl rfl rfl (Pur.mv rfl) ?_
        refine Reg.pur rfl rfl rfl rfl (Pur.idx _ es23 rfl rfl (by omega) (by omega)) ?_
        refine Reg.pur rfl rfl rfl rfl (Pur.fld _ fo35_3 rfl) ?_
        refine Reg.lod rfl rfl rfl rfl (Lod.ld sc3 rfl hb0 (hat 3 (by omega))) ?_
        refine Reg.pur rfl rfl rfl rfl (Pur.asg rfl) ?_
        refine Reg.nil ?_
        simp only [decide_eq_true_eq, decide_eq_false_iff_not] at *
        first | (have hm1 : m = 0 := by omega) | (have hm1 : m = 1 := by omega) | (have hm1 : m = 2 := by omega)
        subst hm1
        exact At.meets rfl (hJ () _ rfl) ⟨rfl, rfl, rfl, rfl, rfl, trivial⟩
      simp only [decide_eq_true_eq, decide_eq_false_iff_not] at *
      first | (have hm1 : m = 0 := by omega) | (have hm1 : m = 1 := by omega) | (have hm1 : m = 2 := by omega)
      subst hm1
      exact At.meets rfl (hJ () _ rfl) ⟨rfl, rfl, rfl, rfl, rfl, trivial⟩
    obtain rfl := hI
    refine At.region rfl rfl ?_
    refine Reg.pur rfl rfl rfl rfl (Pur.mv rfl) ?_
    refine Reg.pur rfl rfl rfl rfl (Pur.mv rfl) ?_
    first | refine Reg.pur rfl rfl rfl rfl (Pur.sub64 rfl rfl (by omega)) ?_ | refine Reg.pur rfl rfl rfl rfl (Pur.sub64 rfl rfl (by assumption)) ?_ | refine Reg.pur rfl rfl rfl rfl (Pur.sub rfl rfl) ?_
    refine Reg.pur rfl rfl rfl rfl (Pur.neq rfl rfl) ?_
    refine Reg.pur rfl rfl rfl rfl (Pur.mv rfl) ?_
    refine Reg.case 43 rfl (fun hc4 => ?_) (fun hc4 => ?_)
    · refine Reg.skip rfl rfl rfl rfl rfl rfl rfl ?_
      refine Reg.skip rfl rfl rfl rfl rfl rfl rfl ?_
      refine Reg.pur rfl rfl rfl rfl (Pur.pickT rfl rfl) ?_
      refine Reg.nil ?_
      refine At.condT rfl rfl rfl ?_
      refine At.region rfl rfl ?_
      refine Reg.pur rfl rfl rfl rfl (Pur.asg rfl) ?_
      refine Reg.nil ?_
      refine At.ret rfl Tryd.func79 rfl ?_
      simp only [decide_eq_true_eq, decide_eq_false_iff_not] at *
      first | exact ⟨by rw [← hgo, show i.toNat = 0 from by omega]; rfl, by trivial⟩ | exact ⟨by rw [← hgo, if_pos (by omega)], by trivial⟩
    refine Reg.gpur rfl rfl rfl rfl rfl rfl (Pur.mv rfl) ?_
    refine Reg.gpur rfl rfl rfl rfl rfl rfl (Pur.lss rfl rfl) ?_
    refine Reg.pur rfl rfl rfl rfl (Pur.pickF rfl rfl) ?_
    refine Reg.nil ?_
    refine At.cond rfl rfl (fun hb5 => ?_) (fun hb5 => ?_)
    · refine At.region rfl rfl ?_
      refine Reg.pur rfl rfl rfl rfl (Pur.asg rfl) ?_
      refine Reg.nil ?_
      refine At.ret rfl Tryd.func79 rfl ?_
      simp only [decide_eq_true_eq, decide_eq_false_iff_not] at *
      first | exact ⟨by rw [← hgo, show i.toNat = 0 from by omega]; rfl, by trivial⟩ | exact ⟨by rw [← hgo, if_pos (by omega)], by trivial⟩
    simp only [decide_eq_true_eq, decide_eq_false_iff_not] at *
    rw [if_neg (by omega)] at hgo
    have hp : iget x (m + 1) = y - 1 := by omega
    have ihp := ihf (y - 1) (by omega) (by omega) (by omega)
    rw [← hp] at ihp
    refine At.region rfl rfl ?_
    refine Reg.pur rfl rfl rfl rfl (Pur.mv rfl) ?_
    refine Reg.pur rfl rfl rfl rfl (Pur.mv rfl) ?_
    refine Reg.op rfl rfl rfl rfl (Does.call rfl (ihp)) ?_
    rintro _ H6 ⟨rfl, rfl⟩
    refine Reg.pur rfl rfl rfl rfl (Pur.asg rfl) ?_
    refine Reg.nil ?_
    rw [hp] at *
    refine At.region rfl rfl ?_
    refine Reg.pur rfl rfl rfl rfl (Pur.mv rfl) ?_
    refine Reg.pur rfl rfl rfl rfl (Pur.lss rfl rfl) ?_
    refine Reg.nil ?_
    refine At.cond rfl rfl (fun hb6 => ?_) (fun hb6 => ?_)
    · refine At.region rfl rfl ?_
      refine Reg.pur rfl rfl rfl rfl (Pur.asg rfl) ?_
      refine Reg.nil ?_
      refine At.ret rfl Tryd.func79 rfl ?_
      simp only [decide_eq_true_eq, decide_eq_false_iff_not] at *
      first | exact ⟨by rw [← hgo, show i.toNat = 0 from by omega]; rfl, by trivial⟩ | exact ⟨by rw [← hgo, if_pos (by omega)], by trivial⟩
    refine At.region rfl rfl ?_
    refine Reg.pur rfl rfl rfl rfl (Pur.mv rfl) ?_
    first | refine Reg.pur rfl rfl rfl rfl (Pur.sub64 rfl rfl (by omega)) ?_ | refine Reg.pur rfl rfl rfl rfl (Pur.sub64 rfl rfl (by assumption)) ?_ | refine Reg.pur rfl rfl rfl rfl (Pur.sub rfl rfl) ?_
    refine Reg.pur rfl rfl rfl rfl (Pur.asg rfl) ?_
    refine Reg.nil ?_
    simp only [decide_eq_true_eq, decide_eq_false_iff_not] at *
    have hle := beN_le L f (y - 1) (by omega)
    rw [if_neg (by omega)] at hgo
    refine At.via (ih (m, beN L f (y - 1)) _ ⟨by omega, by omega, by omega, by omega, rfl, hgo⟩ (by simp only; omega)) ⟨lkI rfl (by omega), rfl, rfl, rfl, trivial⟩
  refine At.region rfl rfl ?_
  refine Reg.pur rfl rfl rfl rfl (Pur.mv rfl) ?_
  refine Reg.pur rfl rfl rfl rfl (Pur.asg rfl) ?_
  refine Reg.nil ?_
  refine At.ret rfl Tryd.func79 rfl ?_
  simp only [decide_eq_true_eq, decide_eq_false_iff_not] at *
  first | exact ⟨by rw [← hgo, show i.toNat = 0 from by omega]; rfl, by trivial⟩ | exact ⟨by rw [← hgo, if_pos (by omega)], by trivial⟩

theorem kid_cases (k : Int) : (nkOffs k = [] ∧ kidN k ≤ 0) ∨ (nkOffs k = [1] ∧ kidN k = 1) ∨ (nkOffs k = [1, 2] ∧ kidN k = 2) ∨ (nkOffs k = [1, 2, 3] ∧ kidN k = 3) := by
  unfold nkOffs kidN
  by_cases h1 : k = 3 ∨ k = 9
  · rw [if_pos h1, if_neg (by omega), if_pos h1]; exact .inr (.inl ⟨rfl, rfl⟩)
  · rw [if_neg h1]
    by_cases h2 : k = 4 ∨ k = 5 ∨ k = 6 ∨ k = 8
    · rw [if_pos h2, if_neg (by omega), if_neg h1, if_pos h2]; exact .inr (.inr (.inl ⟨rfl, rfl⟩))
    · rw [if_neg h2]
      by_cases h3 : k = 7 ∨ k = 10
      · rw [if_pos h3, if_neg (by omega), if_neg h1, if_neg h2, if_pos h3]; exact .inr (.inr (.inr ⟨rfl, rfl⟩))
      · rw [if_neg h3]
        by_cases h4 : k = 0 ∨ k = 1 ∨ k = 2
        · rw [if_pos h4]; exact .inl ⟨rfl, by omega⟩
        · rw [if_neg h4, if_neg h1, if_neg h2, if_neg h3]; exact .inl ⟨rfl, by omega⟩
theorem kid_abc {x : Nd} {z : Int} (h : ∀ c ∈ kvn x, 0 ≤ c ∧ c < z) : (1 ≤ kidN x.k → 0 ≤ x.a ∧ x.a < z) ∧ (2 ≤ kidN x.k → 0 ≤ x.b ∧ x.b < z) ∧ (kidN x.k = 3 → 0 ≤ x.c ∧ x.c < z) := by
  unfold kvn at h
  rcases kid_cases x.k with ⟨e, hk⟩ | ⟨e, hk⟩ | ⟨e, hk⟩ | ⟨e, hk⟩ <;> rw [e] at h
  · exact ⟨fun _ => by omega, fun _ => by omega, fun _ => by omega⟩
  · exact ⟨fun _ => h x.a (by simp [iget]), fun _ => by omega, fun _ => by omega⟩
  · exact ⟨fun _ => h x.a (by simp [iget]), fun _ => h x.b (by simp [iget]), fun _ => by omega⟩
  · exact ⟨fun _ => h x.a (by simp [iget]), fun _ => h x.b (by simp [iget]), fun _ => h x.c (by simp [iget])⟩
theorem depR_ok {A : Option Addr} {cap : Nat} (L : List Nd) (hT : Tn L) : ∀ (f : Nat) (z : Int) (H : Heap), SlT H eN 10 (.slice A L.length cap) L → 0 ≤ z → z < L.length → z.toNat < f → f ≤ 100000 →
    Ret Tryd.prog 40 [.slice A L.length cap, I z] H (fun v H' => v = I (dpN L f z) ∧ Ext H H') := by
  intro f
  induction f with
  | zero => intro z H _ _ _ h; omega
  | succ f ihf =>
  intro z H hS hz0 hzl hzf hf5
  have hzn : z.toNat < L.length := by omega
  have hm := hT.n2
  have hkid := hT.kid z hz0 hzl
  obtain ⟨b0, o0, c0, rfl, hb0, hbl, hbd⟩ := hS.at hzn
  have hfin : dpN L (f + 1) z = ((nkOffs (L[z.toNat]).k).map fun o => dpN L f (iget L[z.toNat] o)).foldl max 0 + 1 := by simp only [dpN]; rw [eln_get hzn]
  rw [eln_get hzn] at hkid
  generalize L[z.toNat] = x at hbd hfin hkid
  obtain ⟨hkA, hkB, hkC⟩ := kid_abc hkid
  have hdl := dpN_le L f
  refine Ret.of_at (N := 41) Tryd.call40 Tryd.func40 rfl rfl rfl ?_
  have hE := Ext.refl H
  refine At.region rfl rfl ?_
  refine Reg.pur rfl rfl rfl rfl (Pur.asg rfl) ?_
  refine Reg.nil ?_
  refine At.region rfl rfl ?_
  refine Reg.pur rfl rfl rfl rfl (Pur.asg rfl) ?_
  refine Reg.nil ?_
  refine At.region rfl rfl ?_
  refine Reg.pur rfl rfl rfl rfl (Pur.mv rfl) ?_
  refine Reg.pur rfl rfl rfl rfl (Pur.mv rfl) ?_
  refine Reg.pur rfl rfl rfl rfl (Pur.idx _ es23 rfl rfl (by omega) (by omega)) ?_
  refine Reg.lod rfl rfl rfl rfl (Lod.ldn ag35 rfl hb0 hbd rfl) ?_
  refine Reg.op rfl rfl rfl rfl (Does.alloc zc35) ?_
  rintro _ H2_4 ⟨rfl, hn2_4⟩
  have z2_4 := hn2_4.size
  replace hE := hE.ext hn2_4.ext
  have o2_4 := hn2_4.own
  refine Reg.op0 rfl rfl rfl (Does.stn ag35 rfl rfl (by first | rfl | exact ones_Is _) (by first | rfl | (simp [*]; done)) o2_4 (by first | decide | (simp; done) | (simp; omega) | omega)) ?_
  rintro _ H2_5 hu2_5
  have z2_5 := hu2_5.size
  replace hE := hE.upw hu2_5 (by omega)
  replace o2_4 := hu2_5.own
  first | rw [over (by first | rfl | (simp; done))] at o2_4 | skip
  refine Reg.nil ?_
  refine At.region rfl rfl ?_
  refine Reg.pur rfl rfl rfl rfl (Pur.fld _ fo35_0 rfl) ?_
  refine Reg.lod rfl rfl rfl rfl (Lod.ld sc3 rfl o2_4.blk (by first | rfl | (simp; done))) ?_
  refine Reg.op rfl rfl rfl rfl (Does.call rfl (kidsR_ok _ _)) ?_
  rintro _ H2_5 ⟨rfl, rfl⟩
  refine Reg.pur rfl rfl rfl rfl (Pur.asg rfl) ?_
  refine Reg.nil ?_
  refine At.region rfl rfl ?_
  refine Reg.pur rfl rfl rfl rfl (Pur.mv rfl) ?_
  refine Reg.pur rfl rfl rfl rfl (Pur.geq rfl rfl) ?_
  refine Reg.nil ?_
  refine At.cond rfl rfl (fun q16 => ?_) (fun q16 => ?_)
  · first | (simp only [decide_eq_true_eq, decide_eq_false_iff_not, Bool.not_eq_true', Bool.not_eq_false', ne_eq, Decidable.not_not, Bool.not_eq_true, Bool.not_eq_false] at q16) | (dsimp only at q16) | skip
    have hq := hkA (by omega)
    have hq2 := hdl x.a
    refine At.region rfl rfl ?_
    refine Reg.pur rfl rfl rfl rfl (Pur.mv rfl) ?_
    refine Reg.pur rfl rfl rfl rfl (Pur.mv rfl) ?_
    refine Reg.pur rfl rfl rfl rfl (Pur.fld _ fo35_1 rfl) ?_
    refine Reg.lod rfl rfl rfl rfl (Lod.ld sc3 rfl o2_4.blk (by first | rfl | (simp; done))) ?_
    refine Reg.op rfl rfl rfl rfl (Does.call rfl (ihf x.a _ (hS.ext hE) (by omega) (by omega) (by omega) (by omega))) ?_
    rintro _ H5_4 ⟨rfl, hE5_4⟩
    have z5_4 := hE5_4.lt
    replace hE := hE.ext hE5_4
    replace o2_4 := o2_4.ext hE5_4
    refine Reg.pur rfl rfl rfl rfl (Pur.max2 rfl rfl) ?_
    refine Reg.pur rfl rfl rfl rfl (Pur.asg rfl) ?_
    refine Reg.nil ?_
    refine At.region rfl rfl ?_
    refine Reg.pur rfl rfl rfl rfl (Pur.mv rfl) ?_
    refine Reg.pur rfl rfl rfl rfl (Pur.geq rfl rfl) ?_
    refine Reg.nil ?_
    refine At.cond rfl rfl (fun q24 => ?_) (fun q24 => ?_)
    · first | (simp only [decide_eq_true_eq, decide_eq_false_iff_not, Bool.not_eq_true', Bool.not_eq_false', ne_eq, Decidable.not_not, Bool.not_eq_true, Bool.not_eq_false] at q24) | (dsimp only at q24) | skip
      have hq := hkB (by omega)
      have hq2 := hdl x.b
      refine At.region rfl rfl ?_
      refine Reg.pur rfl rfl rfl rfl (Pur.mv rfl) ?_
      refine Reg.pur rfl rfl rfl rfl (Pur.mv rfl) ?_
      refine Reg.pur rfl rfl rfl rfl (Pur.fld _ fo35_2 rfl) ?_
      refine Reg.lod rfl rfl rfl rfl (Lod.ld sc3 rfl o2_4.blk (by first | rfl | (simp; done))) ?_
      refine Reg.op rfl rfl rfl rfl (Does.call rfl (ihf x.b _ (hS.ext hE) (by omega) (by omega) (by omega) (by omega))) ?_
      rintro _ H7_4 ⟨rfl, hE7_4⟩
      have z7_4 := hE7_4.lt
      replace hE := hE.ext hE7_4
      replace o2_4 := o2_4.ext hE7_4
      refine Reg.pur rfl rfl rfl rfl (Pur.max2 rfl rfl) ?_
      refine Reg.pur rfl rfl rfl rfl (Pur.asg rfl) ?_
      refine Reg.nil ?_
      refine At.region rfl rfl ?_
      refine Reg.pur rfl rfl rfl rfl (Pur.mv rfl) ?_
      refine Reg.pur rfl rfl rfl rfl (Pur.eql rfl rfl) ?_
      refine Reg.nil ?_
      refine At.cond rfl rfl (fun q32 => ?_) (fun q32 => ?_)
      · first | (simp only [decide_eq_true_eq, decide_eq_false_iff_not, Bool.not_eq_true', Bool.not_eq_false', ne_eq, Decidable.not_not, Bool.not_eq_true, Bool.not_eq_false] at q32) | (dsimp only at q32) | skip
        have hq := hkC (by omega)
        have hq2 := hdl x.c
        refine At.region rfl rfl ?_
        refine Reg.pur rfl rfl rfl rfl (Pur.mv rfl) ?_
        refine Reg.pur rfl rfl rfl rfl (Pur.mv rfl) ?_
        refine Reg.pur rfl rfl rfl rfl (Pur.fld _ fo35_3 rfl) ?_
        refine Reg.lod rfl rfl rfl rfl (Lod.ld sc3 rfl o2_4.blk (by first | rfl | (simp; done))) ?_
        refine Reg.op rfl rfl rfl rfl (Does.call rfl (ihf x.c _ (hS.ext hE) (by omega) (by omega) (by omega) (by omega))) ?_
        rintro _ H9_4 ⟨rfl, hE9_4⟩
        have z9_4 := hE9_4.lt
        replace hE := hE.ext hE9_4
        replace o2_4 := o2_4.ext hE9_4
        refine Reg.pur rfl rfl rfl rfl (Pur.max2 rfl rfl) ?_
        refine Reg.pur rfl rfl rfl rfl (Pur.asg rfl) ?_
        refine Reg.nil ?_
        refine At.region rfl rfl ?_
        refine Reg.pur rfl rfl rfl rfl (Pur.mv rfl) ?_
        refine Reg.pur rfl rfl rfl rfl (Pur.add64 rfl rfl (by have := hdl x.a; have := hdl x.b; have := hdl x.c; first | omega | (simp only [List.foldl]; omega))) ?_
        refine Reg.pur rfl rfl rfl rfl (Pur.asg rfl) ?_
        refine Reg.nil ?_
        refine At.ret rfl Tryd.func40 rfl ?_
        rcases kid_cases x.k with ⟨e, h⟩ | ⟨e, h⟩ | ⟨e, h⟩ | ⟨e, h⟩
        all_goals first | (exfalso; omega) | exact ⟨by rw [hfin, e]; rfl, hE⟩
      first | (simp only [decide_eq_true_eq, decide_eq_false_iff_not, Bool.not_eq_true', Bool.not_eq_false', ne_eq, Decidable.not_not, Bool.not_eq_true, Bool.not_eq_false] at q32) | (dsimp only at q32) | skip
      refine At.region rfl rfl ?_
      refine Reg.pur rfl rfl rfl rfl (Pur.mv rfl) ?_
      refine Reg.pur rfl rfl rfl rfl (Pur.add64 rfl rfl (by have := hdl x.a; have := hdl x.b; have := hdl x.c; first | omega | (simp only [List.foldl]; omega))) ?_
      refine Reg.pur rfl rfl rfl rfl (Pur.asg rfl) ?_
      refine Reg.nil ?_
      refine At.ret rfl Tryd.func40 rfl ?_
      rcases kid_cases x.k with ⟨e, h⟩ | ⟨e, h⟩ | ⟨e, h⟩ | ⟨e, h⟩
      all_goals first | (exfalso; omega) | exact ⟨by rw [hfin, e]; rfl, hE⟩
    first | (simp only [decide_eq_true_eq, decide_eq_false_iff_not, Bool.not_eq_true', Bool.not_eq_false', ne_eq, Decidable.not_not, Bool.not_eq_true, Bool.not_eq_false] at q24) | (dsimp only at q24) | skip
    refine At.region rfl rfl ?_
    refine Reg.pur rfl rfl rfl rfl (Pur.mv rfl) ?_
    refine Reg.pur rfl rfl rfl rfl (Pur.eql rfl rfl) ?_
    refine Reg.nil ?_
    refine At.cond rfl rfl (fun q32 => ?_) (fun q32 => ?_)
    · first | (simp only [decide_eq_true_eq, decide_eq_false_iff_not, Bool.not_eq_true', Bool.not_eq_false', ne_eq, Decidable.not_not, Bool.not_eq_true, Bool.not_eq_false] at q32) | (dsimp only at q32) | skip
      have hq := hkC (by omega)
      have hq2 := hdl x.c
      refine At.region rfl rfl ?_
      refine Reg.pur rfl rfl rfl rfl (Pur.mv rfl) ?_
      refine Reg.pur rfl rfl rfl rfl (Pur.mv rfl) ?_
      refine Reg.pur rfl rfl rfl rfl (Pur.fld _ fo35_3 rfl) ?_
      refine Reg.lod rfl rfl rfl rfl (Lod.ld sc3 rfl o2_4.blk (by first | rfl | (simp; done))) ?_
      refine Reg.op rfl rfl rfl rfl (Does.call rfl (ihf x.c _ (hS.ext hE) (by omega) (by omega) (by omega) (by omega))) ?_
      rintro _ H9_4 ⟨rfl, hE9_4⟩
      have z9_4 := hE9_4.lt
      replace hE := hE.ext hE9_4
      replace o2_4 := o2_4.ext hE9_4
      refine Reg.pur rfl rfl rfl rfl (Pur.max2 rfl rfl) ?_
      refine Reg.pur rfl rfl rfl rfl (Pur.asg rfl) ?_
      refine Reg.nil ?_
      refine At.region rfl rfl ?_
      refine Reg.pur rfl rfl rfl rfl (Pur.mv rfl) ?_
      refine Reg.pur rfl rfl rfl rfl (Pur.add64 rfl rfl (by have := hdl x.a; have := hdl x.b; have := hdl x.c; first | omega | (simp only [List.foldl]; omega))) ?_
      refine Reg.pur rfl rfl rfl rfl (Pur.asg rfl) ?_
      refine Reg.nil ?_
      refine At.ret rfl Tryd.func40 rfl ?_
      rcases kid_cases x.k with ⟨e, h⟩ | ⟨e, h⟩ | ⟨e, h⟩ | ⟨e, h⟩
      all_goals first | (exfalso; omega) | exact ⟨by rw [hfin, e]; rfl, hE⟩
    first | (simp only [decide_eq_true_eq, decide_eq_false_iff_not, Bool.not_eq_true', Bool.not_eq_false', ne_eq, Decidable.not_not, Bool.not_eq_true, Bool.not_eq_false] at q32) | (dsimp only at q32) | skip
    refine At.region rfl rfl ?_
    refine Reg.pur rfl rfl rfl rfl (Pur.mv rfl) ?_
    refine Reg.pur rfl rfl rfl rfl (Pur.add64 rfl rfl (by have := hdl x.a; have := hdl x.b; have := hdl x.c; first | omega | (simp only [List.foldl]; omega))) ?_
    refine Reg.pur rfl rfl rfl rfl (Pur.asg rfl) ?_
    refine Reg.nil ?_
    refine At.ret rfl Tryd.func40 rfl ?_
    rcases kid_cases x.k with ⟨e, h⟩ | ⟨e, h⟩ | ⟨e, h⟩ | ⟨e, h⟩
    all_goals first | (exfalso; omega) | exact ⟨by rw [hfin, e]; rfl, hE⟩
  first | (simp only [decide_eq_true_eq, decide_eq_false_iff_not, Bool.not_eq_true', Bool.not_eq_false', ne_eq, Decidable.not_not, Bool.not_eq_true, Bool.not_eq_false] at q16) | (dsimp only at q16) | skip
  refine At.region rfl rfl ?_
  refine Reg.pur rfl rfl rfl rfl (Pur.mv rfl) ?_
  refine Reg.pur rfl rfl rfl rfl (Pur.geq rfl rfl) ?_
  refine Reg.nil ?_
  refine At.cond rfl rfl (fun q24 => ?_) (fun q24 => ?_)
  · first | (simp only [decide_eq_true_eq, decide_eq_false_iff_not, Bool.not_eq_true', Bool.not_eq_false', ne_eq, Decidable.not_not, Bool.not_eq_true, Bool.not_eq_false] at q24) | (dsimp only at q24) | skip
    have hq := hkB (by omega)
    have hq2 := hdl x.b
    refine At.region rfl rfl ?_
    refine Reg.pur rfl rfl rfl rfl (Pur.mv rfl) ?_
    refine Reg.pur rfl rfl rfl rfl (Pur.mv rfl) ?_
    refine Reg.pur rfl rfl rfl rfl (Pur.fld _ fo35_2 rfl) ?_
    refine Reg.lod rfl rfl rfl rfl (Lod.ld sc3 rfl o2_4.blk (by first | rfl | (simp; done))) ?_
    refine Reg.op rfl rfl rfl rfl (Does.call rfl (ihf x.b _ (hS.ext hE) (by omega) (by omega) (by omega) (by omega))) ?_
    rintro _ H7_4 ⟨rfl, hE7_4⟩
    have z7_4 := hE7_4.lt
    replace hE := hE.ext hE7_4
    replace o2_4 := o2_4.ext hE7_4
    refine Reg.pur rfl rfl rfl rfl (Pur.max2 rfl rfl) ?_
    refine Reg.pur rfl rfl rfl rfl (Pur.asg rfl) ?_
    refine Reg.nil ?_
    refine At.region rfl rfl ?_
    refine Reg.pur rfl rfl rfl rfl (Pur.mv rfl) ?_
    refine Reg.pur rfl rfl rfl rfl (Pur.eql rfl rfl) ?_
    refine Reg.nil ?_
    refine At.cond rfl rfl (fun q32 => ?_) (fun q32 => ?_)
    · first | (simp only [decide_eq_true_eq, decide_eq_false_iff_not, Bool.not_eq_true', Bool.not_eq_false', ne_eq, Decidable.not_not, Bool.not_eq_true, Bool.not_eq_false] at q32) | (dsimp only at q32) | skip
      have hq := hkC (by omega)
      have hq2 := hdl x.c
      refine At.region rfl rfl ?_
      refine Reg.pur rfl rfl rfl rfl (Pur.mv rfl) ?_
      refine Reg.pur rfl rfl rfl rfl (Pur.mv rfl) ?_
      refine Reg.pur rfl rfl rfl rfl (Pur.fld _ fo35_3 rfl) ?_
      refine Reg.lod rfl rfl rfl rfl (Lod.ld sc3 rfl o2_4.blk (by first | rfl | (simp; done))) ?_
      refine Reg.op rfl rfl rfl rfl (Does.call rfl (ihf x.c _ (hS.ext hE) (by omega) (by omega) (by omega) (by omega))) ?_
      rintro _ H9_4 ⟨rfl, hE9_4⟩
      have z9_4 := hE9_4.lt
      replace hE := hE.ext hE9_4
      replace o2_4 := o2_4.ext hE9_4
      refine Reg.pur rfl rfl rfl rfl (Pur.max2 rfl rfl) ?_
      refine Reg.pur rfl rfl rfl rfl (Pur.asg rfl) ?_
      refine Reg.nil ?_
      refine At.region rfl rfl ?_
      refine Reg.pur rfl rfl rfl rfl (Pur.mv rfl) ?_
      refine Reg.pur rfl rfl rfl rfl (Pur.add64 rfl rfl (by have := hdl x.a; have := hdl x.b; have := hdl x.c; first | omega | (simp only [List.foldl]; omega))) ?_
      refine Reg.pur rfl rfl rfl rfl (Pur.asg rfl) ?_
      refine Reg.nil ?_
      refine At.ret rfl Tryd.func40 rfl ?_
      rcases kid_cases x.k with ⟨e, h⟩ | ⟨e, h⟩ | ⟨e, h⟩ | ⟨e, h⟩
      all_goals first | (exfalso; omega) | exact ⟨by rw [hfin, e]; rfl, hE⟩
    first | (simp only [decide_eq_true_eq, decide_eq_false_iff_not, Bool.not_eq_true', Bool.not_eq_false', ne_eq, Decidable.not_not, Bool.not_eq_true, Bool.not_eq_false] at q32) | (dsimp only at q32) | skip
    refine At.region rfl rfl ?_
    refine Reg.pur rfl rfl rfl rfl (Pur.mv rfl) ?_
    refine Reg.pur rfl rfl rfl rfl (Pur.add64 rfl rfl (by have := hdl x.a; have := hdl x.b; have := hdl x.c; first | omega | (simp only [List.foldl]; omega))) ?_
    refine Reg.pur rfl rfl rfl rfl (Pur.asg rfl) ?_
    refine Reg.nil ?_
    refine At.ret rfl Tryd.func40 rfl ?_
    rcases kid_cases x.k with ⟨e, h⟩ | ⟨e, h⟩ | ⟨e, h⟩ | ⟨e, h⟩
    all_goals first | (exfalso; omega) | exact ⟨by rw [hfin, e]; rfl, hE⟩
  first | (simp only [decide_eq_true_eq, decide_eq_false_iff_not, Bool.not_eq_true', Bool.not_eq_false', ne_eq, Decidable.not_not, Bool.not_eq_true, Bool.not_eq_false] at q24) | (dsimp only at q24) | skip
  refine At.region rfl rfl ?_
  refine Reg.pur rfl rfl rfl rfl (Pur.mv rfl) ?_
  refine Reg.pur rfl rfl rfl rfl (Pur.eql rfl rfl) ?_
  refine Reg.nil ?_
  refine At.cond rfl rfl (fun q32 => ?_) (fun q32 => ?_)
  · first | (simp only [decide_eq_true_eq, decide_eq_false_iff_not, Bool.not_eq_true', Bool.not_eq_false', ne_eq, Decidable.not_not, Bool.not_eq_true, Bool.not_eq_false] at q32) | (dsimp only at q32) | skip
    have hq := hkC (by omega)
    have hq2 := hdl x.c
    refine At.region rfl rfl ?_
    refine Reg.pur rfl rfl rfl rfl (Pur.mv rfl) ?_
    refine Reg.pur rfl rfl rfl rfl (Pur.mv rfl) ?_
    refine Reg.pur rfl rfl rfl rfl (Pur.fld _ fo35_3 rfl) ?_
    refine Reg.lod rfl rfl rfl rfl (Lod.ld sc3 rfl o2_4.blk (by first | rfl | (simp; done))) ?_
    refine Reg.op rfl rfl rfl rfl (Does.call rfl (ihf x.c _ (hS.ext hE) (by omega) (by omega) (by omega) (by omega))) ?_
    rintro _ H9_4 ⟨rfl, hE9_4⟩
    have z9_4 := hE9_4.lt
    replace hE := hE.ext hE9_4
    replace o2_4 := o2_4.ext hE9_4
    refine Reg.pur rfl rfl rfl rfl (Pur.max2 rfl rfl) ?_
    refine Reg.pur rfl rfl rfl rfl (Pur.asg rfl) ?_
    refine Reg.nil ?_
    refine At.region rfl rfl ?_
    refine Reg.pur rfl rfl rfl rfl (Pur.mv rfl) ?_
    refine Reg.pur rfl rfl rfl rfl (Pur.add64 rfl rfl (by have := hdl x.a; have := hdl x.b; have := hdl x.c; first | omega | (simp only [List.foldl]; omega))) ?_
    refine Reg.pur rfl rfl rfl rfl (Pur.asg rfl) ?_
    refine Reg.nil ?_
    refine At.ret rfl Tryd.func40 rfl ?_
    rcases kid_cases x.k with ⟨e, h⟩ | ⟨e, h⟩ | ⟨e, h⟩ | ⟨e, h⟩
    all_goals first | (exfalso; omega) | exact ⟨by rw [hfin, e]; rfl, hE⟩
  first | (simp only [decide_eq_true_eq, decide_eq_false_iff_not, Bool.not_eq_true', Bool.not_eq_false', ne_eq, Decidable.not_not, Bool.not_eq_true, Bool.not_eq_false] at q32) | (dsimp only at q32) | skip
  refine At.region rfl rfl ?_
  refine Reg.pur rfl rfl rfl rfl (Pur.mv rfl) ?_
  refine Reg.pur rfl rfl rfl rfl (Pur.add64 rfl rfl (by have := hdl x.a; have := hdl x.b; have := hdl x.c; first | omega | (simp only [List.foldl]; omega))) ?_
  refine Reg.pur rfl rfl rfl rfl (Pur.asg rfl) ?_
  refine Reg.nil ?_
  refine At.ret rfl Tryd.func40 rfl ?_
  rcases kid_cases x.k with ⟨e, h⟩ | ⟨e, h⟩ | ⟨e, h⟩ | ⟨e, h⟩
  all_goals first | (exfalso; omega) | exact ⟨by rw [hfin, e]; rfl, hE⟩
theorem dirR_ok {A : Option Addr} {cap : Nat} (L : List Nd) (hT : Tn L) : ∀ (f : Nat) (z : Int) (H : Heap), SlT H eN 10 (.slice A L.length cap) L → 0 ≤ z → z < L.length → z.toNat < f →
    Ret Tryd.prog 25 [.slice A L.length cap, I z] H (fun v H' => v = .bool (drN L f z) ∧ Ext H H') := by
  intro f
  induction f with
  | zero => intro z H _ _ _ h; omega
  | succ f ihf =>
  intro z H hS hz0 hzl hzf
  have hzn : z.toNat < L.length := by omega
  have hm := hT.n2
  have hkid := hT.kid z hz0 hzl
  have hknd := hT.knd z hz0 hzl
  obtain ⟨b0, o0, c0, rfl, hb0, hbl, hbd⟩ := hS.at hzn
  have hfin : drN L (f + 1) z = if (L[z.toNat]).k = 4 ∨ (L[z.toNat]).k = 9 ∨ (L[z.toNat]).k = 10 then false else (dkOffs (L[z.toNat]).k).all fun o => drN L f (iget L[z.toNat] o) := by simp only [drN]; rw [eln_get hzn]
  rw [eln_get hzn] at hkid hknd
  generalize L[z.toNat] = x at hbd hfin hkid hknd
  obtain ⟨hkA, hkB, hkC⟩ := kid_abc hkid
  have kn1 : ∀ {k : Int}, k = 5 ∨ k = 6 ∨ k = 8 → 2 ≤ kidN k := fun {k} h => by rcases h with rfl | rfl | rfl <;> decide
  have kn2 : ∀ {k : Int}, k = 7 → kidN k = 3 := fun {k} h => by rcases h with rfl; decide
  refine Ret.of_at (N := 54) Tryd.call25 Tryd.func25 rfl rfl rfl ?_
  have hE := Ext.refl H
  refine At.region rfl rfl ?_
  refine Reg.pur rfl rfl rfl rfl (Pur.asg rfl) ?_
  refine Reg.nil ?_
  refine At.region rfl rfl ?_
  refine Reg.pur rfl rfl rfl rfl (Pur.mv rfl) ?_
  refine Reg.pur rfl rfl rfl rfl (Pur.mv rfl) ?_
  refine Reg.pur rfl rfl rfl rfl (Pur.idx _ es23 rfl rfl (by omega) (by omega)) ?_
  refine Reg.lod rfl rfl rfl rfl (Lod.ldn ag35 rfl hb0 hbd rfl) ?_
  refine Reg.op rfl rfl rfl rfl (Does.alloc zc35) ?_
  rintro _ H1_4 ⟨rfl, hn1_4⟩
  have z1_4 := hn1_4.size
  replace hE := hE.ext hn1_4.ext
  have o1_4 := hn1_4.own
  refine Reg.op0 rfl rfl rfl (Does.stn ag35 rfl rfl (by first | rfl | exact ones_Is _) (by first | rfl | (simp [*]; done)) o1_4 (by first | decide | (simp; done) | (simp; omega) | omega)) ?_
  rintro _ H1_5 hu1_5
  have z1_5 := hu1_5.size
  replace hE := hE.upw hu1_5 (by omega)
  replace o1_4 := hu1_5.own
  first | rw [over (by first | rfl | (simp; done))] at o1_4 | skip
  refine Reg.nil ?_
  refine At.region rfl rfl ?_
  refine Reg.pur rfl rfl rfl rfl (Pur.fld _ fo35_0 rfl) ?_
  refine Reg.lod rfl rfl rfl rfl (Lod.ld sc3 rfl o1_4.blk (by first | rfl | (simp; done))) ?_
  refine Reg.nil ?_
  refine At.region rfl rfl ?_
  refine Reg.pur rfl rfl rfl rfl (Pur.eql rfl rfl) ?_
  refine Reg.pur rfl rfl rfl rfl (Pur.asg rfl) ?_
  refine Reg.nil ?_
  refine At.cond rfl rfl (fun q12 => ?_) (fun q12 => ?_)
  · first | (simp only [decide_eq_true_eq, decide_eq_false_iff_not, Bool.not_eq_true', Bool.not_eq_false', ne_eq, Decidable.not_not, Bool.not_eq_true, Bool.not_eq_false] at q12) | (dsimp only at q12) | skip
    refine At.condT rfl rfl (by first | exact q12 | exact decide_eq_true q12 | exact decide_eq_false q12 | simpa using q12) ?_
    refine At.region rfl rfl ?_
    refine Reg.pur rfl rfl rfl rfl (Pur.asg rfl) ?_
    refine Reg.nil ?_
    refine At.ret rfl Tryd.func25 rfl ?_
    refine ⟨congrArg Value.bool ?_, hE⟩
    first | (rw [hfin, ‹x.k = 0›]; rfl) | (rw [hfin, ‹x.k = 1›]; rfl) | (rw [hfin, ‹x.k = 2›]; rfl) | (rw [hfin, ‹x.k = 3›]; rfl)
  first | (simp only [decide_eq_true_eq, decide_eq_false_iff_not, Bool.not_eq_true', Bool.not_eq_false', ne_eq, Decidable.not_not, Bool.not_eq_true, Bool.not_eq_false] at q12) | (dsimp only at q12) | skip
  refine At.region rfl rfl ?_
  refine Reg.pur rfl rfl rfl rfl (Pur.eql rfl rfl) ?_
  refine Reg.pur rfl rfl rfl rfl (Pur.asg rfl) ?_
  refine Reg.nil ?_
  refine At.cond rfl rfl (fun q12 => ?_) (fun q12 => ?_)
  · first | (simp only [decide_eq_true_eq, decide_eq_false_iff_not, Bool.not_eq_true', Bool.not_eq_false', ne_eq, Decidable.not_not, Bool.not_eq_true, Bool.not_eq_false] at q12) | (dsimp only at q12) | skip
    refine At.condT rfl rfl (by first | exact q12 | exact decide_eq_true q12 | exact decide_eq_false q12 | simpa using q12) ?_
    refine At.region rfl rfl ?_
    refine Reg.pur rfl rfl rfl rfl (Pur.asg rfl) ?_
    refine Reg.nil ?_
    refine At.ret rfl Tryd.func25 rfl ?_
    refine ⟨congrArg Value.bool ?_, hE⟩
    first | (rw [hfin, ‹x.k = 0›]; rfl) | (rw [hfin, ‹x.k = 1›]; rfl) | (rw [hfin, ‹x.k = 2›]; rfl) | (rw [hfin, ‹x.k = 3›]; rfl)
  first | (simp only [decide_eq_true_eq, decide_eq_false_iff_not, Bool.not_eq_true', Bool.not_eq_false', ne_eq, Decidable.not_not, Bool.not_eq_true, Bool.not_eq_false] at q12) | (dsimp only at q12) | skip
  refine At.region rfl rfl ?_
  refine Reg.pur rfl rfl rfl rfl (Pur.eql rfl rfl) ?_
  refine Reg.pur rfl rfl rfl rfl (Pur.asg rfl) ?_
  refine Reg.nil ?_
  refine At.cond rfl rfl (fun q12 => ?_) (fun q12 => ?_)
  · first | (simp only [decide_eq_true_eq, decide_eq_false_iff_not, Bool.not_eq_true', Bool.not_eq_false', ne_eq, Decidable.not_not, Bool.not_eq_true, Bool.not_eq_false] at q12) | (dsimp only at q12) | skip
    refine At.condT rfl rfl (by first | exact q12 | exact decide_eq_true q12 | exact decide_eq_false q12 | simpa using q12) ?_
    refine At.region rfl rfl ?_
    refine Reg.pur rfl rfl rfl rfl (Pur.asg rfl) ?_
    refine Reg.nil ?_
    refine At.ret rfl Tryd.func25 rfl ?_
    refine ⟨congrArg Value.bool ?_, hE⟩
    first | (rw [hfin, ‹x.k = 0›]; rfl) | (rw [hfin, ‹x.k = 1›]; rfl) | (rw [hfin, ‹x.k = 2›]; rfl) | (rw [hfin, ‹x.k = 3›]; rfl)
  first | (simp only [decide_eq_true_eq, decide_eq_false_iff_not, Bool.not_eq_true', Bool.not_eq_false', ne_eq, Decidable.not_not, Bool.not_eq_true, Bool.not_eq_false] at q12) | (dsimp only at q12) | skip
  refine At.region rfl rfl ?_
  refine Reg.pur rfl rfl rfl rfl (Pur.eql rfl rfl) ?_
  refine Reg.pur rfl rfl rfl rfl (Pur.asg rfl) ?_
  refine Reg.nil ?_
  refine At.cond rfl rfl (fun q12 => ?_) (fun q12 => ?_)
  · first | (simp only [decide_eq_true_eq, decide_eq_false_iff_not, Bool.not_eq_true', Bool.not_eq_false', ne_eq, Decidable.not_not, Bool.not_eq_true, Bool.not_eq_false] at q12) | (dsimp only at q12) | skip
    refine At.region rfl rfl ?_
    refine Reg.pur rfl rfl rfl rfl (Pur.asg rfl) ?_
    refine Reg.nil ?_
    refine At.ret rfl Tryd.func25 rfl ?_
    refine ⟨congrArg Value.bool ?_, hE⟩
    first | (rw [hfin, ‹x.k = 0›]; rfl) | (rw [hfin, ‹x.k = 1›]; rfl) | (rw [hfin, ‹x.k = 2›]; rfl) | (rw [hfin, ‹x.k = 3›]; rfl)
  first | (simp only [decide_eq_true_eq, decide_eq_false_iff_not, Bool.not_eq_true', Bool.not_eq_false', ne_eq, Decidable.not_not, Bool.not_eq_true, Bool.not_eq_false] at q12) | (dsimp only at q12) | skip
  refine At.region rfl rfl ?_
  refine Reg.pur rfl rfl rfl rfl (Pur.eql rfl rfl) ?_
  refine Reg.pur rfl rfl rfl rfl (Pur.asg rfl) ?_
  refine Reg.nil ?_
  refine At.cond rfl rfl (fun q17 => ?_) (fun q17 => ?_)
  · first | (simp only [decide_eq_true_eq, decide_eq_false_iff_not, Bool.not_eq_true', Bool.not_eq_false', ne_eq, Decidable.not_not, Bool.not_eq_true, Bool.not_eq_false] at q17) | (dsimp only at q17) | skip
    refine At.condT rfl rfl (by first | exact q17 | exact decide_eq_true q17 | exact decide_eq_false q17 | simpa using q17) ?_
    have hk2 := kn1 (k := x.k) (by omega)
    have hqa := hkA (by omega)
    have hqb := hkB (by omega)
    refine At.region rfl rfl ?_
    refine Reg.pur rfl rfl rfl rfl (Pur.mv rfl) ?_
    refine Reg.pur rfl rfl rfl rfl (Pur.fld _ fo35_1 rfl) ?_
    refine Reg.lod rfl rfl rfl rfl (Lod.ld sc3 rfl o1_4.blk (by first | rfl | (simp; done))) ?_
    refine Reg.op rfl rfl rfl rfl (Does.call rfl (ihf x.a _ (hS.ext hE) (by omega) (by omega) (by omega))) ?_
    rintro _ H10_3 ⟨rfl, hE10_3⟩
    have z10_3 := hE10_3.lt
    replace hE := hE.ext hE10_3
    replace o1_4 := o1_4.ext hE10_3
    refine Reg.pur rfl rfl rfl rfl (Pur.mv rfl) ?_
    refine Reg.case 24 rfl (fun q24 => ?_) (fun q24 => ?_)
    · first | (simp only [decide_eq_true_eq, decide_eq_false_iff_not, Bool.not_eq_true', Bool.not_eq_false', ne_eq, Decidable.not_not, Bool.not_eq_true, Bool.not_eq_false] at q24) | (dsimp only at q24) | skip
      refine Reg.gpur rfl rfl rfl rfl rfl rfl (Pur.mv rfl) ?_
      refine Reg.gpur rfl rfl rfl rfl rfl rfl (Pur.fld _ fo35_2 rfl) ?_
      refine Reg.glod rfl rfl rfl rfl rfl rfl (Lod.ld sc3 rfl o1_4.blk (by first | rfl | (simp; done))) ?_
      refine Reg.gop rfl rfl rfl rfl rfl rfl (Does.call rfl (ihf x.b _ (hS.ext hE) (by omega) (by omega) (by omega))) ?_
      rintro _ H10_8 ⟨rfl, hE10_8⟩
      have z10_8 := hE10_8.lt
      replace hE := hE.ext hE10_8
      replace o1_4 := o1_4.ext hE10_8
      refine Reg.pur rfl rfl rfl rfl (Pur.pickT rfl rfl) ?_
      refine Reg.pur rfl rfl rfl rfl (Pur.asg rfl) ?_
      refine Reg.nil ?_
      refine At.ret rfl Tryd.func25 rfl ?_
      refine ⟨congrArg Value.bool ?_, hE⟩
      rw [hfin, if_neg (by omega)]
      first | rw [‹x.k = 8›] | rw [‹x.k = 5›]
      all_goals simp [dkOffs, nkOffs, iget, *]
    first | (simp only [decide_eq_true_eq, decide_eq_false_iff_not, Bool.not_eq_true', Bool.not_eq_false', ne_eq, Decidable.not_not, Bool.not_eq_true, Bool.not_eq_false] at q24) | (dsimp only at q24) | skip
    refine Reg.skip rfl rfl rfl rfl rfl rfl rfl ?_
    refine Reg.skip rfl rfl rfl rfl rfl rfl rfl ?_
    refine Reg.skip rfl rfl rfl rfl rfl rfl rfl ?_
    refine Reg.skip rfl rfl rfl rfl rfl rfl rfl ?_
    refine Reg.pur rfl rfl rfl rfl (Pur.pickF rfl rfl) ?_
    refine Reg.pur rfl rfl rfl rfl (Pur.asg rfl) ?_
    refine Reg.nil ?_
    refine At.ret rfl Tryd.func25 rfl ?_
    refine ⟨congrArg Value.bool ?_, hE⟩
    rw [hfin, if_neg (by omega)]
    first | rw [‹x.k = 8›] | rw [‹x.k = 5›]
    all_goals simp [dkOffs, nkOffs, iget, *]
  first | (simp only [decide_eq_true_eq, decide_eq_false_iff_not, Bool.not_eq_true', Bool.not_eq_false', ne_eq, Decidable.not_not, Bool.not_eq_true, Bool.not_eq_false] at q17) | (dsimp only at q17) | skip
  refine At.region rfl rfl ?_
  refine Reg.pur rfl rfl rfl rfl (Pur.eql rfl rfl) ?_
  refine Reg.pur rfl rfl rfl rfl (Pur.asg rfl) ?_
  refine Reg.nil ?_
  refine At.cond rfl rfl (fun q17 => ?_) (fun q17 => ?_)
  · first | (simp only [decide_eq_true_eq, decide_eq_false_iff_not, Bool.not_eq_true', Bool.not_eq_false', ne_eq, Decidable.not_not, Bool.not_eq_true, Bool.not_eq_false] at q17) | (dsimp only at q17) | skip
    have hk2 := kn1 (k := x.k) (by omega)
    have hqa := hkA (by omega)
    have hqb := hkB (by omega)
    refine At.region rfl rfl ?_
    refine Reg.pur rfl rfl rfl rfl (Pur.mv rfl) ?_
    refine Reg.pur rfl rfl rfl rfl (Pur.fld _ fo35_1 rfl) ?_
    refine Reg.lod rfl rfl rfl rfl (Lod.ld sc3 rfl o1_4.blk (by first | rfl | (simp; done))) ?_
    refine Reg.op rfl rfl rfl rfl (Does.call rfl (ihf x.a _ (hS.ext hE) (by omega) (by omega) (by omega))) ?_
    rintro _ H10_3 ⟨rfl, hE10_3⟩
    have z10_3 := hE10_3.lt
    replace hE := hE.ext hE10_3
    replace o1_4 := o1_4.ext hE10_3
    refine Reg.pur rfl rfl rfl rfl (Pur.mv rfl) ?_
    refine Reg.case 24 rfl (fun q24 => ?_) (fun q24 => ?_)
    · first | (simp only [decide_eq_true_eq, decide_eq_false_iff_not, Bool.not_eq_true', Bool.not_eq_false', ne_eq, Decidable.not_not, Bool.not_eq_true, Bool.not_eq_false] at q24) | (dsimp only at q24) | skip
      refine Reg.gpur rfl rfl rfl rfl rfl rfl (Pur.mv rfl) ?_
      refine Reg.gpur rfl rfl rfl rfl rfl rfl (Pur.fld _ fo35_2 rfl) ?_
      refine Reg.glod rfl rfl rfl rfl rfl rfl (Lod.ld sc3 rfl o1_4.blk (by first | rfl | (simp; done))) ?_
      refine Reg.gop rfl rfl rfl rfl rfl rfl (Does.call rfl (ihf x.b _ (hS.ext hE) (by omega) (by omega) (by omega))) ?_
      rintro _ H10_8 ⟨rfl, hE10_8⟩
      have z10_8 := hE10_8.lt
      replace hE := hE.ext hE10_8
      replace o1_4 := o1_4.ext hE10_8
      refine Reg.pur rfl rfl rfl rfl (Pur.pickT rfl rfl) ?_
      refine Reg.pur rfl rfl rfl rfl (Pur.asg rfl) ?_
      refine Reg.nil ?_
      refine At.ret rfl Tryd.func25 rfl ?_
      refine ⟨congrArg Value.bool ?_, hE⟩
      rw [hfin, if_neg (by omega)]
      first | rw [‹x.k = 8›] | rw [‹x.k = 5›]
      all_goals simp [dkOffs, nkOffs, iget, *]
    first | (simp only [decide_eq_true_eq, decide_eq_false_iff_not, Bool.not_eq_true', Bool.not_eq_false', ne_eq, Decidable.not_not, Bool.not_eq_true, Bool.not_eq_false] at q24) | (dsimp only at q24) | skip
    refine Reg.skip rfl rfl rfl rfl rfl rfl rfl ?_
    refine Reg.skip rfl rfl rfl rfl rfl rfl rfl ?_
    refine Reg.skip rfl rfl rfl rfl rfl rfl rfl ?_
    refine Reg.skip rfl rfl rfl rfl rfl rfl rfl ?_
    refine Reg.pur rfl rfl rfl rfl (Pur.pickF rfl rfl) ?_
    refine Reg.pur rfl rfl rfl rfl (Pur.asg rfl) ?_
    refine Reg.nil ?_
    refine At.ret rfl Tryd.func25 rfl ?_
    refine ⟨congrArg Value.bool ?_, hE⟩
    rw [hfin, if_neg (by omega)]
    first | rw [‹x.k = 8›] | rw [‹x.k = 5›]
    all_goals simp [dkOffs, nkOffs, iget, *]
  first | (simp only [decide_eq_true_eq, decide_eq_false_iff_not, Bool.not_eq_true', Bool.not_eq_false', ne_eq, Decidable.not_not, Bool.not_eq_true, Bool.not_eq_false] at q17) | (dsimp only at q17) | skip
  refine At.region rfl rfl ?_
  refine Reg.pur rfl rfl rfl rfl (Pur.eql rfl rfl) ?_
  refine Reg.pur rfl rfl rfl rfl (Pur.asg rfl) ?_
  refine Reg.nil ?_
  refine At.cond rfl rfl (fun q30 => ?_) (fun q30 => ?_)
  · first | (simp only [decide_eq_true_eq, decide_eq_false_iff_not, Bool.not_eq_true', Bool.not_eq_false', ne_eq, Decidable.not_not, Bool.not_eq_true, Bool.not_eq_false] at q30) | (dsimp only at q30) | skip
    have hk3 := kn2 (k := x.k) (by omega)
    have hqa := hkA (by omega)
    have hqb := hkB (by omega)
    have hqc := hkC (by omega)
    refine At.region rfl rfl ?_
    refine Reg.pur rfl rfl rfl rfl (Pur.mv rfl) ?_
    refine Reg.pur rfl rfl rfl rfl (Pur.fld _ fo35_1 rfl) ?_
    refine Reg.lod rfl rfl rfl rfl (Lod.ld sc3 rfl o1_4.blk (by first | rfl | (simp; done))) ?_
    refine Reg.op rfl rfl rfl rfl (Does.call rfl (ihf x.a _ (hS.ext hE) (by omega) (by omega) (by omega))) ?_
    rintro _ H12_3 ⟨rfl, hE12_3⟩
    have z12_3 := hE12_3.lt
    replace hE := hE.ext hE12_3
    replace o1_4 := o1_4.ext hE12_3
    refine Reg.pur rfl rfl rfl rfl (Pur.mv rfl) ?_
    refine Reg.case 36 rfl (fun q36 => ?_) (fun q36 => ?_)
    · first | (simp only [decide_eq_true_eq, decide_eq_false_iff_not, Bool.not_eq_true', Bool.not_eq_false', ne_eq, Decidable.not_not, Bool.not_eq_true, Bool.not_eq_false] at q36) | (dsimp only at q36) | skip
      refine Reg.gpur rfl rfl rfl rfl rfl rfl (Pur.mv rfl) ?_
      refine Reg.gpur rfl rfl rfl rfl rfl rfl (Pur.fld _ fo35_2 rfl) ?_
      refine Reg.glod rfl rfl rfl rfl rfl rfl (Lod.ld sc3 rfl o1_4.blk (by first | rfl | (simp; done))) ?_
      refine Reg.gop rfl rfl rfl rfl rfl rfl (Does.call rfl (ihf x.b _ (hS.ext hE) (by omega) (by omega) (by omega))) ?_
      rintro _ H12_8 ⟨rfl, hE12_8⟩
      have z12_8 := hE12_8.lt
      replace hE := hE.ext hE12_8
      replace o1_4 := o1_4.ext hE12_8
      refine Reg.pur rfl rfl rfl rfl (Pur.pickT rfl rfl) ?_
      refine Reg.pur rfl rfl rfl rfl (Pur.mv rfl) ?_
      refine Reg.case 42 rfl (fun q42 => ?_) (fun q42 => ?_)
      · first | (simp only [decide_eq_true_eq, decide_eq_false_iff_not, Bool.not_eq_true', Bool.not_eq_false', ne_eq, Decidable.not_not, Bool.not_eq_true, Bool.not_eq_false] at q42) | (dsimp only at q42) | skip
        refine Reg.gpur rfl rfl rfl rfl rfl rfl (Pur.mv rfl) ?_
        refine Reg.gpur rfl rfl rfl rfl rfl rfl (Pur.fld _ fo35_3 rfl) ?_
        refine Reg.glod rfl rfl rfl rfl rfl rfl (Lod.ld sc3 rfl o1_4.blk (by first | rfl | (simp; done))) ?_
        refine Reg.gop rfl rfl rfl rfl rfl rfl (Does.call rfl (ihf x.c _ (hS.ext hE) (by omega) (by omega) (by omega))) ?_
        rintro _ H12_14 ⟨rfl, hE12_14⟩
        have z12_14 := hE12_14.lt
        replace hE := hE.ext hE12_14
        replace o1_4 := o1_4.ext hE12_14
        refine Reg.pur rfl rfl rfl rfl (Pur.pickT rfl rfl) ?_
        refine Reg.pur rfl rfl rfl rfl (Pur.asg rfl) ?_
        refine Reg.nil ?_
        refine At.ret rfl Tryd.func25 rfl ?_
        refine ⟨congrArg Value.bool ?_, hE⟩
        rw [hfin, if_neg (by omega), ‹x.k = 7›]; simp [dkOffs, nkOffs, iget, *]
      first | (simp only [decide_eq_true_eq, decide_eq_false_iff_not, Bool.not_eq_true', Bool.not_eq_false', ne_eq, Decidable.not_not, Bool.not_eq_true, Bool.not_eq_false] at q42) | (dsimp only at q42) | skip
      refine Reg.skip rfl rfl rfl rfl rfl rfl rfl ?_
      refine Reg.skip rfl rfl rfl rfl rfl rfl rfl ?_
      refine Reg.skip rfl rfl rfl rfl rfl rfl rfl ?_
      refine Reg.skip rfl rfl rfl rfl rfl rfl rfl ?_
      refine Reg.pur rfl rfl rfl rfl (Pur.pickF rfl rfl) ?_
      refine Reg.pur rfl rfl rfl rfl (Pur.asg rfl) ?_
      refine Reg.nil ?_
      refine At.ret rfl Tryd.func25 rfl ?_
      refine ⟨congrArg Value.bool ?_, hE⟩
      rw [hfin, if_neg (by omega), ‹x.k = 7›]; simp [dkOffs, nkOffs, iget, *]
    first | (simp only [decide_eq_true_eq, decide_eq_false_iff_not, Bool.not_eq_true', Bool.not_eq_false', ne_eq, Decidable.not_not, Bool.not_eq_true, Bool.not_eq_false] at q36) | (dsimp only at q36) | skip
    refine Reg.skip rfl rfl rfl rfl rfl rfl rfl ?_
    refine Reg.skip rfl rfl rfl rfl rfl rfl rfl ?_
    refine Reg.skip rfl rfl rfl rfl rfl rfl rfl ?_
    refine Reg.skip rfl rfl rfl rfl rfl rfl rfl ?_
    refine Reg.pur rfl rfl rfl rfl (Pur.pickF rfl rfl) ?_
    refine Reg.pur rfl rfl rfl rfl (Pur.mv rfl) ?_
    refine Reg.skip rfl rfl rfl rfl rfl rfl rfl ?_
    refine Reg.skip rfl rfl rfl rfl rfl rfl rfl ?_
    refine Reg.skip rfl rfl rfl rfl rfl rfl rfl ?_
    refine Reg.skip rfl rfl rfl rfl rfl rfl rfl ?_
    refine Reg.pur rfl rfl rfl rfl (Pur.pickF rfl rfl) ?_
    refine Reg.pur rfl rfl rfl rfl (Pur.asg rfl) ?_
    refine Reg.nil ?_
    refine At.ret rfl Tryd.func25 rfl ?_
    refine ⟨congrArg Value.bool ?_, hE⟩
    rw [hfin, if_neg (by omega), ‹x.k = 7›]; simp [dkOffs, nkOffs, iget, *]
  first | (simp only [decide_eq_true_eq, decide_eq_false_iff_not, Bool.not_eq_true', Bool.not_eq_false', ne_eq, Decidable.not_not, Bool.not_eq_true, Bool.not_eq_false] at q30) | (dsimp only at q30) | skip
  refine At.region rfl rfl ?_
  refine Reg.pur rfl rfl rfl rfl (Pur.eql rfl rfl) ?_
  refine Reg.pur rfl rfl rfl rfl (Pur.asg rfl) ?_
  refine Reg.nil ?_
  refine At.cond rfl rfl (fun q48 => ?_) (fun q48 => ?_)
  · first | (simp only [decide_eq_true_eq, decide_eq_false_iff_not, Bool.not_eq_true', Bool.not_eq_false', ne_eq, Decidable.not_not, Bool.not_eq_true, Bool.not_eq_false] at q48) | (dsimp only at q48) | skip
    have hk2 := kn1 (k := x.k) (by omega)
    have hqb := hkB (by omega)
    refine At.region rfl rfl ?_
    refine Reg.pur rfl rfl rfl rfl (Pur.mv rfl) ?_
    refine Reg.pur rfl rfl rfl rfl (Pur.fld _ fo35_2 rfl) ?_
    refine Reg.lod rfl rfl rfl rfl (Lod.ld sc3 rfl o1_4.blk (by first | rfl | (simp; done))) ?_
    refine Reg.op rfl rfl rfl rfl (Does.call rfl (ihf x.b _ (hS.ext hE) (by omega) (by omega) (by omega))) ?_
    rintro _ H14_3 ⟨rfl, hE14_3⟩
    have z14_3 := hE14_3.lt
    replace hE := hE.ext hE14_3
    replace o1_4 := o1_4.ext hE14_3
    refine Reg.pur rfl rfl rfl rfl (Pur.asg rfl) ?_
    refine Reg.nil ?_
    refine At.ret rfl Tryd.func25 rfl ?_
    refine ⟨congrArg Value.bool ?_, hE⟩
    rw [hfin, if_neg (by omega), ‹x.k = 6›]; simp [dkOffs, nkOffs, iget]
  first | (simp only [decide_eq_true_eq, decide_eq_false_iff_not, Bool.not_eq_true', Bool.not_eq_false', ne_eq, Decidable.not_not, Bool.not_eq_true, Bool.not_eq_false] at q48) | (dsimp only at q48) | skip
  refine At.region rfl rfl ?_
  refine Reg.pur rfl rfl rfl rfl (Pur.asg rfl) ?_
  refine Reg.nil ?_
  refine At.ret rfl Tryd.func25 rfl ?_
  exact ⟨congrArg Value.bool (by rw [hfin, if_pos (by omega)]), hE⟩
end Go.Proofs.YtjhkmebmbopfoaaDoor
