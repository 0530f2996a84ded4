/-
  Parts of the proof, 3.
-/
import Derived.Test.YtlfillhffpiffaaDoorRows
import Derived.Test.YtlfillhffpiffaaDoorCards
import Derived.Test.YtlfillhffpiffaaDoorTie
import Derived.ProofKit
import Derived.ChangeSame
import Derived.ChangeVars
import Derived.JoinedOf
import Derived.LaidLaws
import Derived.Handed
import Derived.SevenTiedAt
import Derived.SizedLaws
import Derived.Test.YtlfillhffpiffaaDoorY2
namespace Go.Proofs.YtlfillhffpiffaaDoor
set_option linter.unusedSimpArgs false
set_option linter.unusedVariables false
set_option maxRecDepth 8000
open Go Go.Fx Go.Proofs
namespace FactsDShB
theorem ag22 : ag Tryd.prog 22 = some 4 := by kernel_rfl
theorem apt123 : appT Tryd.prog 123 = some (9, 1, 16) := by kernel_rfl
theorem fo24_0 : foff Tryd.prog 24 0 = some 0 := by kernel_rfl
theorem fo24_1 : foff Tryd.prog 24 1 = some 4 := by kernel_rfl
theorem sc3 : sc Tryd.prog 3 = true := by kernel_rfl
theorem sl1_123 : Go.Fx.sl1 Tryd.prog 123 = true := by kernel_rfl
end FactsDShB
open FactsDShB

theorem dap (a b : ByteArray) : (a ++ b).data.toList = a.data.toList ++ b.data.toList := by simp
abbrev opn (i : Nat) : ByteArray := ⟨#[111]⟩ ++ dec i
def opsTo (r : List Int) : Nat → List ByteArray
  | 0 => []
  | i + 1 => opsTo r i ++ List.replicate (r.getD i 0).toNat (opn i)
theorem opn_pos (i : Nat) : 0 < (opn i).size := by rw [ByteArray.size_append, sz1]; omega
theorem ops_pos (r : List Int) : ∀ i, ∀ x ∈ opsTo r i, 0 < x.size
  | 0, x, h => by cases h
  | i + 1, x, h => by
    simp only [opsTo, List.mem_append, List.mem_replicate] at h
    rcases h with h | ⟨_, rfl⟩
    · exact ops_pos r i x h
    · exact opn_pos i
theorem jn_data (xs : List ByteArray) : (jn xs).data.toList = Lib.join (xs.map (·.data.toList)) [44] := rfl
theorem join_snoc (y sep : List UInt8) : ∀ (x : List UInt8) (xs : List (List UInt8)), Lib.join ((x :: xs) ++ [y]) sep = Lib.join (x :: xs) sep ++ sep ++ y := by
  intro x xs
  rw [List.cons_append, Lib.join_cons, Lib.join_cons]
  simp [Lib.joinTail]
theorem jn_ne {xs : List ByteArray} (h : ∀ x ∈ xs, 0 < x.size) (hx : xs ≠ []) : (jn xs).data.toList ≠ [] := by
  cases xs with
  | nil => exact absurd rfl hx
  | cons x xs =>
    rw [jn_data, List.map_cons, Lib.join_cons]
    have := h x List.mem_cons_self
    intro h0
    have h1 := (List.append_eq_nil_iff.1 h0).1
    have h2 := congrArg List.length h1
    simp only [Array.length_toList, List.length_nil] at h2
    simp only [ByteArray.size] at this
    omega
theorem rone_jn (i : Nat) {xs : List ByteArray} (h : ∀ x ∈ xs, 0 < x.size) : rone i (jn xs) = jn (xs ++ [opn i]) := by
  apply WideShapes.bytes_inj
  unfold rone
  rw [ByteArray.toList_eq, ByteArray.toList_eq]
  cases xs with
  | nil =>
    have h0 : (jn []).data.toList = [] := rfl
    rw [if_neg (by rw [h0]; decide)]
    simp [jn_data, Lib.join_one, Lib.join_nil, dap]
  | cons x xs =>
    rw [if_pos (by
      have := jn_ne h (by simp)
      cases hc : (jn (x :: xs)).data.toList with
      | nil => exact absurd hc this
      | cons a l => rfl)]
    rw [jn_data, List.map_append, List.map_cons, List.map_cons, List.map_nil, join_snoc, dap, dap, dap, jn_data, List.map_cons]
    simp [opn, dap]
theorem rrep_jn (i : Nat) {xs : List ByteArray} (h : ∀ x ∈ xs, 0 < x.size) : ∀ k, rrep i k (jn xs) = jn (xs ++ List.replicate k (opn i))
  | 0 => by simp [rrep]
  | k + 1 => by
    unfold rrep
    rw [rrep_jn i h k, rone_jn i (by
      intro x hx
      rcases List.mem_append.1 hx with hx | hx
      · exact h x hx
      · rw [(List.mem_replicate.1 hx).2]; exact opn_pos i), List.replicate_succ', List.append_assoc]
theorem rall_jn (r : List Int) : ∀ i, rall r i = jn (opsTo r i)
  | 0 => rfl
  | i + 1 => by
    unfold rall opsTo
    rw [rall_jn r i, rrep_jn i (ops_pos r i)]
theorem ops_len {r : List Int} (h5 : r.length = 5) (h : rowM r = true) : ∀ i, i ≤ 4 → (opsTo r i).length ≤ 32 * i
  | 0, _ => Nat.le_refl 0
  | i + 1, hi => by
    have h2 := ops_len h5 h i (by omega)
    have h3 := row_cnt h5 h i (by omega)
    simp only [opsTo, List.length_append, List.length_replicate]; omega

def wtx (r : List Int) (s : ByteArray) : ByteArray := ⟨#[60]⟩ ++ (if 0 ≤ r.getD 4 0 then rall r 4 ++ (⟨#[124]⟩ ++ s) else rall r 4) ++ ⟨#[62]⟩
theorem wtx_rtx (R r : List Int) : wtx r (⟨#[101]⟩ ++ dec (ixL R (r.getD 4 0))) = rtx R r := by
  apply WideShapes.bytes_inj
  unfold wtx rtx
  split
  · simp only [dap, List.append_assoc]; rfl
  · rfl

theorem write_ok {g : FuncId} {us : List Value} {rb ro : Nat} {cg : List Value} {r : List Int} (h5 : r.length = 5) (hr : rowM r = true) {Q : ByteArray → Heap → Heap → Prop} {H : Heap} (hT : Tens H) (hB : Blk H rb cg) (hc : (cg.drop ro).take 5 = Is r)
    (hf : ∀ H1, Ext H H1 → 0 ≤ r.getD 4 0 → Ret Tryd.prog g (I (r.getD 4 0) :: us) H1 (fun v H2 => ∃ s, v = .string s ∧ s.size ≤ 100 ∧ Q s H1 H2)) :
    Ret Tryd.prog 55 [ptr rb ro, .func (.func g) #[] us.toArray] H (fun v H' => ∃ s, v = .string (wtx r s) ∧ ∃ H1, Ext H H1 ∧ ((0 ≤ r.getD 4 0 ∧ Q s H1 H') ∨ (r.getD 4 0 < 0 ∧ H' = H1))) := by
  have zB := hB.lt
  have hat : ∀ {j : Nat}, j < 5 → cg[ro + j]? = some (I (r.getD j 0)) := fun hj => at_tk hc hj (at_Is (by omega))
  have hcnt := row_cnt h5 hr
  have hsz := rall_size h5 hr
  have hln := ops_len h5 hr
  have ht4 := rowM_t hr
  refine Ret.of_at (N := 47) Tryd.call55 Tryd.func55 rfl rfl rfl ?_
  have hE := Ext.refl H
  have z_hE := hE.lt
  have z_hT := hT.lt
  have z_hB := hB.lt
  refine At.region rfl rfl ?_
  refine Reg.pur rfl rfl rfl rfl (Pur.asg rfl) ?_
  refine Reg.nil ?_
  refine At.region rfl rfl ?_
  refine Reg.pur rfl rfl rfl rfl (Pur.asg rfl) ?_
  refine Reg.nil ?_
  refine At.region rfl rfl ?_
  refine Reg.pur rfl rfl rfl rfl (Pur.mv rfl) ?_
  refine Reg.pur rfl rfl rfl rfl (Pur.nilc rfl) ?_
  refine Reg.pur rfl rfl rfl rfl (Pur.fld _ fo24_0 rfl) ?_
  refine Reg.lod rfl rfl rfl rfl (Lod.ldn ag22 rfl hB (show _ = Is (r.take 4) by rw [Nat.add_zero]; have h9 := congrArg (List.take 4) hc; rw [List.take_take] at h9; rw [show min 4 5 = 4 from rfl] at h9; rw [h9]; simp [Is, List.map_take]) (by simp [h5])) ?_
  refine Reg.pur rfl rfl rfl rfl (Pur.mv rfl) ?_
  refine Reg.nil ?_
  refine At.loop (σ := Nat × Option Addr × Nat) (fun (i, A', cap') => [(13, I i), (5, .slice A' (opsTo r i).length cap'), (12, .agg (Is (r.take 4)).toArray), (0, ptr rb ro), (1, .func (.func g) #[] us.toArray)]) (fun (i, A', cap') H' => i ≤ 4 ∧ Ext H H' ∧ Tens H' ∧ Blk H' rb cg ∧ Gs H' H.size 9 1 A' cap' (opsTo r i).length ((opsTo r i).flatMap Ss)) (fun s => 4 - s.1) (0, none, 0) rfl ⟨rfl, rfl, rfl, rfl, rfl, trivial⟩ ⟨by omega, hE, hT, hB, OwnS.nilG⟩ ?_
  clear hE hT hB
  rintro ⟨i, A', cap'⟩ H1 ⟨hi, hE, hT, hB, hg⟩ ih
  dsimp only at hi hg ⊢
  have z_hE := hE.lt
  have z_hT := hT.lt
  have z_hB := hB.lt
  have z_hg := hg.lt
  refine At.region rfl rfl ?_
  refine Reg.pur rfl rfl rfl rfl (Pur.lss rfl rfl) ?_
  refine Reg.nil ?_
  refine At.cond rfl rfl (fun q14 => ?_) (fun q14 => ?_)
  · first | (simp only [decide_eq_true_eq, decide_eq_false_iff_not, Bool.not_eq_true', Bool.not_eq_false', ne_eq, Decidable.not_not, Bool.not_eq_true, Bool.not_eq_false] at q14) | (dsimp only at q14) | skip
    have hlt : i < (r.take 4).length := by simp [h5]; omega
    have hat4 := take4_at h5 (i := i) (by omega)
    have hai : (Is (r.take 4))[(i : Int).toNat]? = some (I (r.getD i 0)) := by
      have : (Is (r.take 4))[i]? = some (I (r.take 4)[i]) := by simp only [Is, List.getElem?_map, List.getElem?_eq_getElem hlt, Option.map_some]
      rw [hat4] at this
      exact this
    have hi4 : i < 4 := by omega
    have hci := hcnt i hi4
    have hli := hln i (by omega)
    refine At.region rfl rfl ?_
    refine Reg.pur rfl rfl rfl rfl (Pur.mv rfl) ?_
    refine Reg.pur rfl rfl rfl rfl (Pur.ixA (n := 4) (by kernel_rfl) rfl rfl (by omega) (by omega) hai) ?_
    refine Reg.pur rfl rfl rfl rfl (Pur.asg rfl) ?_
    refine Reg.pur rfl rfl rfl rfl (Pur.asg rfl) ?_
    refine Reg.nil ?_
    refine At.region rfl rfl ?_
    refine Reg.pur rfl rfl rfl rfl (Pur.mv rfl) ?_
    refine Reg.pur rfl rfl rfl rfl (Pur.mv rfl) ?_
    refine Reg.nil ?_
    refine At.loop (σ := Nat × Option Addr × Nat) (fun (k, A', cap') => [(18, I k), (17, I (r.getD i 0)), (6, I i), (13, I i), (5, .slice A' (opsTo r i ++ List.replicate k (opn i)).length cap'), (12, .agg (Is (r.take 4)).toArray), (0, ptr rb ro), (1, .func (.func g) #[] us.toArray)]) (fun (k, A', cap') H' => (k : Int) ≤ r.getD i 0 ∧ Ext H H' ∧ Tens H' ∧ Blk H' rb cg ∧ Gs H' H.size 9 1 A' cap' (opsTo r i ++ List.replicate k (opn i)).length ((opsTo r i ++ List.replicate k (opn i)).flatMap Ss)) (fun s => (r.getD i 0).toNat - s.1) (0, A', cap') rfl ⟨rfl, rfl, rfl, rfl, by simp [lk], rfl, rfl, rfl, trivial⟩ ⟨by omega, hE, hT, hB, by simpa using hg⟩ ?_
    clear hE hT hB hg
    rintro ⟨k, A2', cap2'⟩ H2 ⟨hk, hE, hT, hB, hg⟩ ih2
    dsimp only at hk hg ⊢
    have z_hE := hE.lt
    have z_hT := hT.lt
    have z_hB := hB.lt
    have z_hg := hg.lt
    refine At.region rfl rfl ?_
    refine Reg.pur rfl rfl rfl rfl (Pur.lss rfl rfl) ?_
    refine Reg.nil ?_
    refine At.cond rfl rfl (fun q19 => ?_) (fun q19 => ?_)
    · first | (simp only [decide_eq_true_eq, decide_eq_false_iff_not, Bool.not_eq_true', Bool.not_eq_false', ne_eq, Decidable.not_not, Bool.not_eq_true, Bool.not_eq_false] at q19) | (dsimp only at q19) | skip
      refine At.region rfl rfl ?_
      refine Reg.pur rfl rfl rfl rfl (Pur.mv rfl) ?_
      refine Reg.pur rfl rfl rfl rfl (Pur.mv rfl) ?_
      refine Reg.op rfl rfl rfl rfl (Does.call rfl (itoa_ok i (by omega) hT)) ?_
      rintro _ H7_2 ⟨rfl, hE7_2⟩
      have z7_2 := hE7_2.lt
      replace hE := hE.ext hE7_2
      replace hT := hT.ext hE7_2
      replace hB := hB.ext hE7_2
      replace hg := hg.ext hE7_2
      refine Reg.pur rfl rfl rfl rfl (Pur.addS rfl rfl (szs (sl1 _) (dec_size _) (by decide))) ?_
      refine Reg.op rfl rfl rfl rfl (Does.bsl1 sl1_123 rfl rfl rfl rfl rfl) ?_
      rintro _ H7_4 ⟨rfl, hn7_4⟩
      have z7_4 := hn7_4.size
      replace hE := hE.ext hn7_4.ext
      replace hT := hT.ext hn7_4.ext
      replace hB := hB.ext hn7_4.ext
      replace hg := hg.ext hn7_4.ext
      have o7_4 := hn7_4.own
      refine Reg.op rfl rfl rfl rfl (Does.appL apt123 rfl rfl (by decide) hg (wideS _) (sl_new (L := [opn i]) (wideS _) (by decide) hn7_4 (by simp)) (ones_Ss _) (by simp; omega) (by omega)) ?_
      rintro _ H7_5 ⟨A7_5, cap7_5, rfl, g7_5, hbut7_5, ha7_5⟩
      have z7_5 := hbut7_5.lt
      replace hE := hE.via hbut7_5 (by first | omega | (intro g; omega) | (intro g hg; omega) | (intro g hg h; omega))
      replace hT := hT.via hbut7_5 (by first | omega | (intro g; omega) | (intro g hg; omega) | (intro g hg h; omega))
      replace hB := hB.via hbut7_5 (by first | omega | (intro g; omega) | (intro g hg; omega) | (intro g hg h; omega))
      replace o7_4 := o7_4.via hbut7_5 (by first | omega | (intro g; omega) | (intro g hg; omega) | (intro g hg h; omega))
      replace hg := g7_5
      have zg7_5 := g7_5.lt
      refine Reg.pur rfl rfl rfl rfl (Pur.asg rfl) ?_
      refine Reg.nil ?_
      refine At.region rfl rfl ?_
      first | refine Reg.pur rfl rfl rfl rfl (Pur.add64 rfl rfl (by omega)) ?_ | refine Reg.pur rfl rfl rfl rfl (Pur.add64 rfl rfl (by assumption)) ?_ | refine Reg.pur rfl rfl rfl rfl (Pur.add rfl rfl) ?_
      refine Reg.pur rfl rfl rfl rfl (Pur.mv rfl) ?_
      refine Reg.nil ?_
      have hs : opsTo r i ++ List.replicate k (opn i) ++ [opn i] = opsTo r i ++ List.replicate (k + 1) (opn i) := by rw [List.replicate_succ', List.append_assoc]
      rw [hs] at hg
      exact At.via (ih2 (k + 1, A7_5, cap7_5) _ ⟨by (show ((k + 1 : Nat) : Int) ≤ _); omega, hE, hT, hB, hg⟩ (by (show _ - (k + 1) < _ - k); omega)) ⟨rfl, rfl, rfl, rfl, by (show some (Value.slice _ _ _) = _); rw [hs], rfl, rfl, rfl, trivial⟩
    first | (simp only [decide_eq_true_eq, decide_eq_false_iff_not, Bool.not_eq_true', Bool.not_eq_false', ne_eq, Decidable.not_not, Bool.not_eq_true, Bool.not_eq_false] at q19) | (dsimp only at q19) | skip
    refine At.region rfl rfl ?_
    first | refine Reg.pur rfl rfl rfl rfl (Pur.add64 rfl rfl (by omega)) ?_ | refine Reg.pur rfl rfl rfl rfl (Pur.add64 rfl rfl (by assumption)) ?_ | refine Reg.pur rfl rfl rfl rfl (Pur.add rfl rfl) ?_
    refine Reg.pur rfl rfl rfl rfl (Pur.mv rfl) ?_
    refine Reg.nil ?_
    have hkr : (k : Nat) = (r.getD i 0).toNat := by omega
    subst hkr
    exact At.via (ih (i + 1, A2', cap2') _ ⟨by (show i + 1 ≤ 4); omega, hE, hT, hB, hg⟩ (by (show 4 - (i + 1) < 4 - i); omega)) ⟨rfl, rfl, rfl, rfl, rfl, trivial⟩
  first | (simp only [decide_eq_true_eq, decide_eq_false_iff_not, Bool.not_eq_true', Bool.not_eq_false', ne_eq, Decidable.not_not, Bool.not_eq_true, Bool.not_eq_false] at q14) | (dsimp only at q14) | skip
  obtain rfl : i = 4 := by omega
  have hs4 := hsz 4 (by omega)
  have hl4 := hln 4 (by omega)
  rw [rall_jn] at hs4
  refine At.region rfl rfl ?_
  refine Reg.pur rfl rfl rfl rfl (Pur.mv rfl) ?_
  refine Reg.op rfl rfl rfl rfl (Does.call rfl (join_ok (own_sl (wideS _) (by decide) hg) (by omega) (by omega))) ?_
  rintro _ H10_1 ⟨rfl, hE10_1⟩
  have z10_1 := hE10_1.lt
  replace hE := hE.ext hE10_1
  replace hT := hT.ext hE10_1
  replace hB := hB.ext hE10_1
  replace hg := hg.ext hE10_1
  refine Reg.pur rfl rfl rfl rfl (Pur.addS rfl rfl (szs (n := 1280) (sl1 _) (by omega) (by decide))) ?_
  refine Reg.pur rfl rfl rfl rfl (Pur.asg rfl) ?_
  refine Reg.nil ?_
  refine At.region rfl rfl ?_
  refine Reg.pur rfl rfl rfl rfl (Pur.mv rfl) ?_
  refine Reg.pur rfl rfl rfl rfl (Pur.nilc rfl) ?_
  refine Reg.pur rfl rfl rfl rfl (Pur.fld _ fo24_1 rfl) ?_
  refine Reg.lod rfl rfl rfl rfl (Lod.ld sc3 rfl hB (hat (j := 4) (by omega))) ?_
  refine Reg.pur rfl rfl rfl rfl (Pur.neq rfl rfl) ?_
  refine Reg.nil ?_
  refine At.cond rfl rfl (fun q35 => ?_) (fun q35 => ?_)
  · first | (simp only [decide_eq_true_eq, decide_eq_false_iff_not, Bool.not_eq_true', Bool.not_eq_false', ne_eq, Decidable.not_not, Bool.not_eq_true, Bool.not_eq_false] at q35) | (dsimp only at q35) | skip
    refine At.region rfl rfl ?_
    refine Reg.pur rfl rfl rfl rfl (Pur.mv rfl) ?_
    refine Reg.pur rfl rfl rfl rfl (Pur.mv rfl) ?_
    refine Reg.pur rfl rfl rfl rfl (Pur.mv rfl) ?_
    refine Reg.pur rfl rfl rfl rfl (Pur.nilc rfl) ?_
    refine Reg.pur rfl rfl rfl rfl (Pur.fld _ fo24_1 rfl) ?_
    refine Reg.lod rfl rfl rfl rfl (Lod.ld sc3 rfl hB (hat (j := 4) (by omega))) ?_
    refine Reg.op rfl rfl rfl rfl (Does.callv rfl rfl (hf _ hE (by omega))) ?_
    rintro _ H12_6 ⟨s, rfl, hss, hQ12_6⟩
    refine Reg.pur rfl rfl rfl rfl (Pur.addS rfl rfl (szs (n := 100) (sl1 _) (by omega) (by decide))) ?_
    refine Reg.pur rfl rfl rfl rfl (Pur.addS rfl rfl (szs (m := 1281) (n := 101) (sza (m := 1) (n := 1280) (sl1 _) (by omega)) (sza (m := 1) (n := 100) (sl1 _) (by omega)) (by decide))) ?_
    refine Reg.pur rfl rfl rfl rfl (Pur.asg rfl) ?_
    refine Reg.nil ?_
    refine At.region rfl rfl ?_
    refine Reg.pur rfl rfl rfl rfl (Pur.mv rfl) ?_
    refine Reg.pur rfl rfl rfl rfl (Pur.addS rfl rfl (szs (m := 1382) (n := 1) (by first | exact sza (m := 1281) (n := 101) (sza (m := 1) (n := 1280) (sl1 _) (by omega)) (sza (m := 1) (n := 100) (sl1 _) (by omega)) | exact Nat.le_trans (sza (m := 1) (n := 1280) (sl1 _) (by omega)) (by decide)) (sl1 _) (by decide))) ?_
    refine Reg.pur rfl rfl rfl rfl (Pur.asg rfl) ?_
    refine Reg.nil ?_
    refine At.ret rfl Tryd.func55 rfl ?_
    refine ⟨s, ?_, _, hE, .inl ⟨by omega, hQ12_6⟩⟩
    unfold wtx
    rw [if_pos (by omega), rall_jn]
    exact congrArg Value.string (WideShapes.bytes_inj (by simp only [dap, List.append_assoc]))
  first | (simp only [decide_eq_true_eq, decide_eq_false_iff_not, Bool.not_eq_true', Bool.not_eq_false', ne_eq, Decidable.not_not, Bool.not_eq_true, Bool.not_eq_false] at q35) | (dsimp only at q35) | skip
  refine At.region rfl rfl ?_
  refine Reg.pur rfl rfl rfl rfl (Pur.mv rfl) ?_
  refine Reg.pur rfl rfl rfl rfl (Pur.addS rfl rfl (szs (m := 1382) (n := 1) (by first | exact sza (m := 1281) (n := 101) (sza (m := 1) (n := 1280) (sl1 _) (by omega)) (sza (m := 1) (n := 100) (sl1 _) (by omega)) | exact Nat.le_trans (sza (m := 1) (n := 1280) (sl1 _) (by omega)) (by decide)) (sl1 _) (by decide))) ?_
  refine Reg.pur rfl rfl rfl rfl (Pur.asg rfl) ?_
  refine Reg.nil ?_
  refine At.ret rfl Tryd.func55 rfl ?_
  refine ⟨⟨#[]⟩, ?_, _, hE, .inr ⟨by omega, rfl⟩⟩
  unfold wtx
  rw [if_neg (by omega), rall_jn]
end Go.Proofs.YtlfillhffpiffaaDoor

namespace Go.Proofs.YtlfillhffpiffaaDoor
set_option linter.unusedSimpArgs false
set_option linter.unusedVariables false
set_option maxRecDepth 8000
open Go Go.Fx Go.Proofs
namespace FactsDShC
theorem es53 : esz Tryd.prog 53 = some 9 := by kernel_rfl
theorem fo55_0 : foff Tryd.prog 55 0 = some 0 := by kernel_rfl
theorem fo65_0 : foff Tryd.prog 65 0 = some 0 := by kernel_rfl
theorem fo65_1 : foff Tryd.prog 65 1 = some 1 := by kernel_rfl
theorem fo65_2 : foff Tryd.prog 65 2 = some 2 := by kernel_rfl
theorem fo65_3 : foff Tryd.prog 65 3 = some 3 := by kernel_rfl
theorem fo65_4 : foff Tryd.prog 65 4 = some 4 := by kernel_rfl
theorem mixed : Tryd.prog.follows .mixedOrders = true := by kernel_rfl
theorem sc108 : sc Tryd.prog 108 = true := by kernel_rfl
theorem sc3 : sc Tryd.prog 3 = true := by kernel_rfl
theorem sc53 : sc Tryd.prog 53 = true := by kernel_rfl
end FactsDShC
open FactsDShC

abbrev gT : Nat := 0
theorem rtx_neg {R r : List Int} (s : ByteArray) (h : r.getD 4 0 < 0) : wtx r s = rtx R r ∧ rnm R r = R := by
  unfold wtx rtx rnm
  rw [if_neg (by omega), if_neg (by omega), if_neg (by omega)]
  exact ⟨rfl, rfl⟩
theorem rtx_pos {R r : List Int} (h : 0 ≤ r.getD 4 0) : rnm R r = addL R (r.getD 4 0) := if_pos h

theorem textTail_ok {xb nb B c1 c2 : Nat} {A1 A2 : Option Addr} {T R : List Int} (v : Int) {H : Heap} (hX : Blk H xb [ptr nb 0]) (hT : Tens H) (hoT : Off nb A1 A2 (gT : Nat)) (hN : Nm H nb B A1 c1 T A2 c2 R) (hm : R.length ≤ 100000) :
    Ret Tryd.prog 85 [I v, ptr xb 0] H (fun w H' => w = .string (⟨#[101]⟩ ++ dec (ixL R v)) ∧ ∃ A2' c2', Nm H' nb B A1 c1 T A2' c2' (addL R v) ∧ Mod nb A1 A2 A1 A2' H H') := by
  have hix := ixL_le R v
  refine Ret.of_at (N := 9) Tryd.call85 Tryd.func85 rfl rfl rfl ?_
  have hE := Ext.refl H

  refine At.region rfl rfl ?_
  refine Reg.pur rfl rfl rfl rfl (Pur.asg rfl) ?_
  refine Reg.nil ?_
  refine At.region rfl rfl ?_
  refine Reg.lod rfl rfl rfl rfl (Lod.ld sc108 rfl hX rfl) ?_
  refine Reg.pur rfl rfl rfl rfl (Pur.mv rfl) ?_
  refine Reg.op rfl rfl rfl rfl (Does.call rfl (nm_Row v hN (by omega))) ?_
  rintro _ H1_2 ⟨rfl, A2a, c2a, hN1_2, hM1_2⟩
  refine Reg.op rfl rfl rfl rfl (Does.call rfl (itoa_ok (ixL R v) (by omega) (hT.via hM1_2.1 hoT.not))) ?_
  rintro _ H1_3 ⟨rfl, hE1_3⟩
  have z1_3 := hE1_3.lt
  refine Reg.pur rfl rfl rfl rfl (Pur.addS rfl rfl (szs (sl1 _) (dec_size _) (by decide))) ?_
  refine Reg.pur rfl rfl rfl rfl (Pur.asg rfl) ?_
  refine Reg.nil ?_
  refine At.ret rfl Tryd.func85 rfl ?_
  exact ⟨rfl, A2a, c2a, hN1_2.ext hE1_3, hM1_2.ext hE1_3⟩
theorem rowW_ok {xb rb ro nb B c1 c2 : Nat} {cg : List Value} {r : List Int} {A1 A2 : Option Addr} {T R : List Int} (h5 : r.length = 5) (hr : rowM r = true) {H : Heap} (hX : Blk H xb [ptr nb 0]) (hT : Tens H) (hoT : Off nb A1 A2 (gT : Nat)) (hB : Blk H rb cg) (hc : (cg.drop ro).take 5 = Is r) (hN : Nm H nb B A1 c1 T A2 c2 R) (hm : R.length ≤ 100000) :
    Ret Tryd.prog 55 [ptr rb ro, .func (.func 85) #[] #[ptr xb 0]] H (fun v H' => v = .string (rtx R r) ∧ ∃ A2' c2', Nm H' nb B A1 c1 T A2' c2' (rnm R r) ∧ Mod nb A1 A2 A1 A2' H H') := by
  refine (write_ok (us := [ptr xb 0]) (Q := fun s H1 H2 => s = ⟨#[101]⟩ ++ dec (ixL R (r.getD 4 0)) ∧ ∃ A2' c2', Nm H2 nb B A1 c1 T A2' c2' (addL R (r.getD 4 0)) ∧ Mod nb A1 A2 A1 A2' H1 H2) h5 hr hT hB hc (fun H1 hE h0 => (textTail_ok (r.getD 4 0) (hX.ext hE) (hT.ext hE) hoT (hN.ext hE) hm).mono ?_)).mono ?_
  · rintro v H2 ⟨rfl, h⟩
    exact ⟨_, rfl, by have := dec_size (ixL R (r.getD 4 0)); rw [ByteArray.size_append, sz1]; omega, rfl, h⟩
  · rintro v H' ⟨s, rfl, H1, hE, ⟨h0, rfl, A2', c2', hN', hM⟩ | ⟨h0, rfl⟩⟩
    · exact ⟨by rw [wtx_rtx], A2', c2', by rw [rtx_pos h0]; exact hN', ((Mod.refl nb A1 A2 H).ext hE).trans hM⟩
    · exact ⟨by rw [(rtx_neg (R := R) s h0).1], A2, c2, by rw [(rtx_neg (R := R) s h0).2]; exact hN.ext hE, (Mod.refl nb A1 A2 H).ext hE⟩

theorem textP_ok {L : List (List Int)} (hL : Nine L) {A : Option Addr} {cap nb B yb yo : Nat} {cy : List Value} (hm : L.length ≤ 256) (hcy : cy[yo]? = some (.slice A L.length cap)) : ∀ (f : Nat) (t : Tm) (pre post : List (List Int)), t.sz ≤ f → t.ok → L = pre ++ t.enc pre.length ++ post →
    ∀ {H : Heap} {A1 A2 : Option Addr} {c1 c2 : Nat} {T R : List Int}, Blk H yb cy → Tens H → SlT H Is 9 (.slice A L.length cap) L → Nm H nb B A1 c1 T A2 c2 R → T.length + R.length + t.sz ≤ 90000 → Off nb A1 A2 (ob A) → Off nb A1 A2 yb → Off nb A1 A2 (gT : Nat) → ∀ z : Int, z = (pre.length : Int) + t.sz - 1 →
    Ret Tryd.prog 62 [ptr nb 0, ptr yb yo, I z] H (fun v H' => v = .string (tx (T, R) t).1 ∧ ∃ A1' c1' A2' c2', Nm H' nb B A1' c1' (tx (T, R) t).2.1 A2' c2' (tx (T, R) t).2.2 ∧ Mod nb A1 A2 A1' A2' H H') := by
  intro f
  induction f with
  | zero => intro t _ _ h; have := t.sz_pos; omega
  | succ f ihf =>
  intro t pre post hf hok hLe H A1 A2 c1 c2 T R hY hT hS hN hlen hoA hoY hoT z hz
  have hlL : L.length = pre.length + t.sz + post.length := by rw [hLe, List.length_append, List.length_append, Tm.enc_len]
  have hpos := t.sz_pos
  obtain ⟨b, o, c, rfl, hB, hd, hx9, hat⟩ := el_cells hL hS (z := z) (by omega) (by omega)
  obtain ⟨n0, n1, n2, n3⟩ := nd_at t pre post (el L z) (by rw [← hLe, hz])
  generalize el L z = x at hd hx9 hat n0 n1 n2 n3
  have hob : ob (some ⟨b, o, none⟩) = b := ob_some b o
  have zB := Int.ofNat_lt.2 hB.lt
  have zY := Int.ofNat_lt.2 hY.lt
  have zT := Int.ofNat_lt.2 hT.lt
  have zN := hN.own.lt
  rw [hob] at hoA
  refine Ret.of_at (N := 61) Tryd.call62 Tryd.func62 rfl rfl rfl ?_
  have hE := Ext.refl H

  refine At.region rfl rfl ?_
  refine Reg.op rfl rfl rfl rfl (Does.box rfl rfl) ?_
  rintro _ H0_0 ⟨rfl, hn0_0⟩
  have z0_0 := hn0_0.size
  have o0_0 := hn0_0.own
  refine Reg.pur rfl rfl rfl rfl (Pur.asg rfl) ?_
  refine Reg.nil ?_

  have hX : Blk H0_0 H.size [ptr nb 0] := o0_0.blk
  have hE0 : Ext H H0_0 := hn0_0.ext
  have hN0 := hN.ext hE0
  have hS0 := hS.ext hE0
  have hY0 := hY.ext hE0
  have hT0 := hT.ext hE0
  have hB0 := hB.ext hE0
  have hoX : Off nb A1 A2 H.size := ⟨by omega, by have := hN.g1.lt; omega, by have := hN.g2.lt; omega⟩
  have zX := Int.ofNat_lt.2 hX.lt
  have hM0 : Mod nb A1 A2 A1 A2 H H0_0 := (Mod.refl nb A1 A2 H).ext hE0
  have zB0 := Int.ofNat_lt.2 hB0.lt
  have zY0 := Int.ofNat_lt.2 hY0.lt
  have zT0 := Int.ofNat_lt.2 hT0.lt
  refine At.region rfl rfl ?_
  refine Reg.pur rfl rfl rfl rfl (Pur.mv rfl) ?_
  refine Reg.pur rfl rfl rfl rfl (Pur.nilc rfl) ?_
  refine Reg.pur rfl rfl rfl rfl (Pur.fld _ fo55_0 rfl) ?_
  refine Reg.lod rfl rfl rfl rfl (Lod.ld sc53 rfl hY0 hcy) ?_
  refine Reg.pur rfl rfl rfl rfl (Pur.mv rfl) ?_
  refine Reg.pur rfl rfl rfl rfl (Pur.idx _ es53 rfl rfl (by omega) (by omega)) ?_
  refine Reg.pur rfl rfl rfl rfl (Pur.asg rfl) ?_
  refine Reg.nil ?_
  refine At.region rfl rfl ?_
  refine Reg.pur rfl rfl rfl rfl (Pur.mv rfl) ?_
  refine Reg.pur rfl rfl rfl rfl (Pur.nilc rfl) ?_
  refine Reg.pur rfl rfl rfl rfl (Pur.fld _ fo65_0 rfl) ?_
  refine Reg.lod rfl rfl rfl rfl (Lod.ld sc3 rfl hB0 (hat 0 (by omega))) ?_
  refine Reg.nil ?_
  refine At.region rfl rfl ?_
  refine Reg.pur rfl rfl rfl rfl (Pur.eql rfl rfl) ?_
  refine Reg.pur rfl rfl rfl rfl (Pur.asg rfl) ?_
  refine Reg.nil ?_
  refine At.cond rfl rfl (fun q20 => ?_) (fun q20 => ?_)
  · first | (simp only [decide_eq_true_eq, decide_eq_false_iff_not, Bool.not_eq_true', Bool.not_eq_false', ne_eq, Decidable.not_not, Bool.not_eq_true, Bool.not_eq_false] at q20) | (dsimp only at q20) | skip
    refine At.region rfl rfl ?_
    refine Reg.pur rfl rfl rfl rfl (Pur.asg rfl) ?_
    refine Reg.nil ?_
    refine At.ret rfl Tryd.func62 rfl ?_
    obtain rfl := n0 q20
    exact ⟨rfl, A1, c1, A2, c2, hN0, hM0⟩
  first | (simp only [decide_eq_true_eq, decide_eq_false_iff_not, Bool.not_eq_true', Bool.not_eq_false', ne_eq, Decidable.not_not, Bool.not_eq_true, Bool.not_eq_false] at q20) | (dsimp only at q20) | skip
  refine At.region rfl rfl ?_
  refine Reg.pur rfl rfl rfl rfl (Pur.eql rfl rfl) ?_
  refine Reg.pur rfl rfl rfl rfl (Pur.asg rfl) ?_
  refine Reg.nil ?_
  refine At.cond rfl rfl (fun q22 => ?_) (fun q22 => ?_)
  · first | (simp only [decide_eq_true_eq, decide_eq_false_iff_not, Bool.not_eq_true', Bool.not_eq_false', ne_eq, Decidable.not_not, Bool.not_eq_true, Bool.not_eq_false] at q22) | (dsimp only at q22) | skip
    refine At.region rfl rfl ?_
    refine Reg.pur rfl rfl rfl rfl (Pur.asg rfl) ?_
    refine Reg.nil ?_
    refine At.ret rfl Tryd.func62 rfl ?_
    obtain rfl := n1 q22
    exact ⟨rfl, A1, c1, A2, c2, hN0, hM0⟩
  first | (simp only [decide_eq_true_eq, decide_eq_false_iff_not, Bool.not_eq_true', Bool.not_eq_false', ne_eq, Decidable.not_not, Bool.not_eq_true, Bool.not_eq_false] at q22) | (dsimp only at q22) | skip
  refine At.region rfl rfl ?_
  refine Reg.pur rfl rfl rfl rfl (Pur.eql rfl rfl) ?_
  refine Reg.pur rfl rfl rfl rfl (Pur.asg rfl) ?_
  refine Reg.nil ?_
  refine At.cond rfl rfl (fun q24 => ?_) (fun q24 => ?_)
  · first | (simp only [decide_eq_true_eq, decide_eq_false_iff_not, Bool.not_eq_true', Bool.not_eq_false', ne_eq, Decidable.not_not, Bool.not_eq_true, Bool.not_eq_false] at q24) | (dsimp only at q24) | skip
    refine At.drawE ((Bks.cons hX.blk (Bks.cons hB0.blk Bks.nil))) [5] mixed rfl rfl ?_
    refine RegD.take (i := 0) rfl rfl rfl rfl (by kernel_rfl) (Bks.cons hX.blk (Bks.cons hB0.blk Bks.nil)) (fun H hS => Lod.ld sc108 rfl hS.hd rfl) ?_
    refine RegD.tpur (i := 1) rfl rfl rfl rfl (by kernel_rfl) (Pur.mv rfl) ?_
    refine RegD.tpur (i := 2) rfl rfl rfl rfl (by kernel_rfl) (Pur.nilc rfl) ?_
    refine RegD.tpur (i := 3) rfl rfl rfl rfl (by kernel_rfl) (Pur.fld _ fo65_1 rfl) ?_
    refine RegD.take (i := 4) rfl rfl rfl rfl (by kernel_rfl) (Bks.cons hX.blk (Bks.cons hB0.blk Bks.nil)) (fun H hS => Lod.ld sc3 rfl hS.tl.hd (hat 1 (by omega))) ?_
    have hix := ixL_le T (x.getD 1 0)
    refine RegD.one (i := 5) (by kernel_rfl) rfl rfl rfl rfl (Does.call rfl (nm_Type _ hN0 (by omega))) ?_
    rintro _ H8_5 ⟨rfl, A1a, c1a, hN8_5, hM8_5⟩
    replace hX := hX.via hM8_5.1 hoX.not
    replace hB0 := hB0.via hM8_5.1 hoA.not
    refine ⟨fun h => (by cases h), ?_⟩
    refine RegD.one (i := 6) (by kernel_rfl) rfl rfl rfl rfl (Does.call rfl (itoa_ok (ixL T (x.getD 1 0)) (by omega) (hT0.via hM8_5.1 hoT.not))) ?_
    rintro _ H8_6 ⟨rfl, hD8_6⟩
    replace hX := hX.ext hD8_6
    replace hB0 := hB0.ext hD8_6
    refine ⟨fun _ _ => (Bks.cons hX.blk (Bks.cons hB0.blk Bks.nil)), ?_⟩
    refine RegD.tpur (i := 7) rfl rfl rfl rfl (by kernel_rfl) (Pur.addS rfl rfl (szs (sl1 _) (dec_size _) (by decide))) ?_
    refine RegD.tpur (i := 8) rfl rfl rfl rfl (by kernel_rfl) (Pur.asg rfl) ?_
    refine RegD.done (by kernel_rfl) ?_
    refine At.ret rfl Tryd.func62 rfl ?_
    have ht := n2 q24
    rw [ht]
    exact ⟨rfl, A1a, c1a, A2, c2, hN8_5.ext hD8_6, (hM0.trans hM8_5).ext hD8_6⟩
  first | (simp only [decide_eq_true_eq, decide_eq_false_iff_not, Bool.not_eq_true', Bool.not_eq_false', ne_eq, Decidable.not_not, Bool.not_eq_true, Bool.not_eq_false] at q24) | (dsimp only at q24) | skip
  obtain ⟨ta, r, tb, rfl, rfl⟩ := n3 q20 q22 q24
  obtain ⟨hoa, hr5, hrow, hob2⟩ := hok
  have hpa := ta.sz_pos
  have hpb := tb.sz_pos
  have e0 : (Tm.fn ta r tb).sz = ta.sz + tb.sz + 1 := rfl
  have sA : (tx (T, R) ta).1.size ≤ 358400 := Nat.le_trans (tx_size ta _ hoa) (by omega)
  have lA := tx_len ta (T, R)
  have lR := rnm_len (tx (T, R) ta).2.2 r
  have sR := rtx_size (R := (tx (T, R) ta).2.2) hr5 hrow
  have sB : (tx ((tx (T, R) ta).2.1, rnm (tx (T, R) ta).2.2 r) tb).1.size ≤ 358400 := Nat.le_trans (tx_size tb _ hob2) (by omega)
  dsimp only at lA
  have hrp := nod_row hd hr5
  refine At.drawE ((Bks.cons hX.blk (Bks.cons hB0.blk Bks.nil))) [6] mixed rfl rfl ?_
  refine RegD.take (i := 0) rfl rfl rfl rfl (by kernel_rfl) (Bks.cons hX.blk (Bks.cons hB0.blk Bks.nil)) (fun H hS => Lod.ld sc108 rfl hS.hd rfl) ?_
  refine RegD.tpur (i := 1) rfl rfl rfl rfl (by kernel_rfl) (Pur.mv rfl) ?_
  refine RegD.tpur (i := 2) rfl rfl rfl rfl (by kernel_rfl) (Pur.mv rfl) ?_
  refine RegD.tpur (i := 3) rfl rfl rfl rfl (by kernel_rfl) (Pur.nilc rfl) ?_
  refine RegD.tpur (i := 4) rfl rfl rfl rfl (by kernel_rfl) (Pur.fld _ fo65_2 rfl) ?_
  refine RegD.take (i := 5) rfl rfl rfl rfl (by kernel_rfl) (Bks.cons hX.blk (Bks.cons hB0.blk Bks.nil)) (fun H hS => Lod.ld sc3 rfl hS.tl.hd (show _ = some (I ((pre.length : Int) + ta.sz - 1)) from hat 2 (by omega))) ?_
  refine RegD.one (i := 6) (by kernel_rfl) rfl rfl rfl rfl (Does.call rfl (ihf ta pre _ (by omega) hoa (hLe.trans (spl_a ta r tb pre post)) hY0 hT0 hS0 hN0 (by omega) (by rw [hob]; exact hoA) hoY hoT _ rfl)) ?_
  rintro _ H9_6 ⟨rfl, A1a, c1a, A2a, c2a, hN9_6, hM9_6⟩
  have hX1 := hX.via hM9_6.1 hoX.not
  have hY1 := hY0.via hM9_6.1 hoY.not
  have hT1 := hT0.via hM9_6.1 hoT.not
  have hB1 := hB0.via hM9_6.1 hoA.not
  have hS1 := hS0.via hM9_6.1 (fun _ g hg => by rw [hob] at hg; obtain rfl : g = b := (by omega); exact hoA.not)
  have hoX1 := hoX.mod zX hM9_6
  have hoA1 := hoA.mod zB0 hM9_6
  have hoY1 := hoY.mod zY0 hM9_6
  have hoT1 := hoT.mod zT0 hM9_6
  have zX1 := Int.ofNat_lt.2 hX1.lt
  have zB1 := Int.ofNat_lt.2 hB1.lt
  have zY1 := Int.ofNat_lt.2 hY1.lt
  have zT1 := Int.ofNat_lt.2 hT1.lt
  refine ⟨fun h => (by cases h), ?_⟩
  refine RegD.tpur (i := 7) rfl rfl rfl rfl (by kernel_rfl) (Pur.asg rfl) ?_
  refine RegD.done (by kernel_rfl) ?_
  refine At.region rfl rfl ?_
  refine Reg.pur rfl rfl rfl rfl (Pur.mv rfl) ?_
  refine Reg.pur rfl rfl rfl rfl (Pur.nilc rfl) ?_
  refine Reg.pur rfl rfl rfl rfl (Pur.fld _ fo65_4 rfl) ?_
  refine Reg.pur rfl rfl rfl rfl (Pur.mkf rfl rfl) ?_
  refine Reg.op rfl rfl rfl rfl (Does.call rfl (rowW_ok hr5 hrow hX1 hT1 hoT1 hB1 hrp hN9_6 (by omega))) ?_
  rintro _ H10_4 ⟨rfl, A2b, c2b, hN10_4, hM10_4⟩
  have hX2 := hX1.via hM10_4.1 hoX1.not
  have hY2 := hY1.via hM10_4.1 hoY1.not
  have hT2 := hT1.via hM10_4.1 hoT1.not
  have hB2 := hB1.via hM10_4.1 hoA1.not
  have hS2 := hS1.via hM10_4.1 (fun _ g hg => by rw [hob] at hg; obtain rfl : g = b := (by omega); exact hoA1.not)
  have hoA2 := hoA1.mod zB1 hM10_4
  have hoY2 := hoY1.mod zY1 hM10_4
  have hoT2 := hoT1.mod zT1 hM10_4
  refine Reg.pur rfl rfl rfl rfl (Pur.asg rfl) ?_
  refine Reg.nil ?_
  refine At.drawE ((Bks.cons hX2.blk (Bks.cons hB2.blk Bks.nil))) [12] mixed rfl rfl ?_
  refine RegD.tpur (i := 0) rfl rfl rfl rfl (by kernel_rfl) (Pur.mv rfl) ?_
  refine RegD.tpur (i := 1) rfl rfl rfl rfl (by kernel_rfl) (Pur.addS rfl rfl (szs (sl1 _) sA (by decide))) ?_
  refine RegD.tpur (i := 2) rfl rfl rfl rfl (by kernel_rfl) (Pur.addS rfl rfl (szs (sza (sl1 _) sA) (sl2 _ _) (by decide))) ?_
  refine RegD.tpur (i := 3) rfl rfl rfl rfl (by kernel_rfl) (Pur.mv rfl) ?_
  refine RegD.tpur (i := 4) rfl rfl rfl rfl (by kernel_rfl) (Pur.addS rfl rfl (szs (sza (sza (sl1 _) sA) (sl2 _ _)) sR (by decide))) ?_
  refine RegD.tpur (i := 5) rfl rfl rfl rfl (by kernel_rfl) (Pur.addS rfl rfl (szs (sza (sza (sza (sl1 _) sA) (sl2 _ _)) sR) (sl1 _) (by decide))) ?_
  refine RegD.take (i := 6) rfl rfl rfl rfl (by kernel_rfl) (Bks.cons hX2.blk (Bks.cons hB2.blk Bks.nil)) (fun H hS => Lod.ld sc108 rfl hS.hd rfl) ?_
  refine RegD.tpur (i := 7) rfl rfl rfl rfl (by kernel_rfl) (Pur.mv rfl) ?_
  refine RegD.tpur (i := 8) rfl rfl rfl rfl (by kernel_rfl) (Pur.mv rfl) ?_
  refine RegD.tpur (i := 9) rfl rfl rfl rfl (by kernel_rfl) (Pur.nilc rfl) ?_
  refine RegD.tpur (i := 10) rfl rfl rfl rfl (by kernel_rfl) (Pur.fld _ fo65_3 rfl) ?_
  refine RegD.take (i := 11) rfl rfl rfl rfl (by kernel_rfl) (Bks.cons hX2.blk (Bks.cons hB2.blk Bks.nil)) (fun H hS => Lod.ld sc3 rfl hS.tl.hd (show _ = some (I ((pre.length : Int) + ta.sz + tb.sz - 1)) from hat 3 (by omega))) ?_
  refine RegD.one (i := 12) (by kernel_rfl) rfl rfl rfl rfl (Does.call rfl (ihf tb (pre ++ ta.enc pre.length) _ (by omega) hob2 (hLe.trans (spl_b ta r tb pre post)) hY2 hT2 hS2 hN10_4 (by first | omega | (dsimp only; omega)) (by rw [hob]; exact hoA2) hoY2 hoT2 _ (by rw [spl_l]; omega))) ?_
  rintro _ H11_12 ⟨rfl, A1d, c1d, A2d, c2d, hN11_12, hM11_12⟩
  refine ⟨fun h => (by cases h), ?_⟩
  refine RegD.tpur (i := 13) rfl rfl rfl rfl (by kernel_rfl) (Pur.addS rfl rfl (szs (sza (sza (sza (sza (sl1 _) sA) (sl2 _ _)) sR) (sl1 _)) sB (by decide))) ?_
  refine RegD.tpur (i := 14) rfl rfl rfl rfl (by kernel_rfl) (Pur.addS rfl rfl (szs (sza (sza (sza (sza (sza (sl1 _) sA) (sl2 _ _)) sR) (sl1 _)) sB) (sl1 _) (by decide))) ?_
  refine RegD.tpur (i := 15) rfl rfl rfl rfl (by kernel_rfl) (Pur.asg rfl) ?_
  refine RegD.done (by kernel_rfl) ?_
  refine At.ret rfl Tryd.func62 rfl ?_
  exact ⟨rfl, A1d, c1d, A2d, c2d, hN11_12, ((hM0.trans hM9_6).trans hM10_4).trans hM11_12⟩
end Go.Proofs.YtlfillhffpiffaaDoor

namespace Go.Proofs.YtlfillhffpiffaaDoor
set_option linter.unusedSimpArgs false
set_option linter.unusedVariables false
set_option maxRecDepth 8000
set_option maxHeartbeats 1000000
open Go Go.Fx Go.Proofs
namespace FactsDShD
theorem ag55 : ag Tryd.prog 55 = some 1 := by kernel_rfl
theorem fo55_0 : foff Tryd.prog 55 0 = some 0 := by kernel_rfl
theorem isl53 : isSl Tryd.prog 53 = true := by kernel_rfl
theorem pl100 : places Tryd.prog 100 = some [(0, 1), (1, 1)] := by kernel_rfl
theorem pl109 : places Tryd.prog 109 = some [(0, 1), (1, 1)] := by kernel_rfl
theorem sc53 : sc Tryd.prog 53 = true := by kernel_rfl
theorem zc100 : zc Tryd.prog 100 = some [.map none, .map none] := by kernel_rfl
theorem zc109 : zc Tryd.prog 109 = some [.slice none 0 0, .slice none 0 0] := by kernel_rfl
end FactsDShD
open FactsDShD

open Classical in
noncomputable def dcd (L : List (List Int)) : Tm := if h : ∃ t : Tm, t.ok ∧ t.sz ≤ 256 ∧ L = t.enc 0 then h.choose else .bas false
theorem dcd_enc {t : Tm} (h : t.ok) (hz : t.sz ≤ 256) : dcd (t.enc 0) = t := by
  unfold dcd
  have hx : ∃ u : Tm, u.ok ∧ u.sz ≤ 256 ∧ t.enc 0 = u.enc 0 := ⟨t, h, hz, rfl⟩
  rw [dif_pos hx]
  have h3 := hx.choose_spec
  exact enc_inj h3.1 h h3.2.1 h3.2.2.symm
noncomputable def txV (L : List (List Int)) : ByteArray × Int := if typM L then ((tx ([], []) (dcd L)).1, 0) else (⟨#[]⟩, 700)
noncomputable def insV (L K : List (List Int)) : Bool × Int := if typM L && typM K then ((inst [] (dcd L) (dcd K)).isSome, 0) else (false, 1100)
noncomputable def eqV (L K : List (List Int)) : Bool × Int := if typM L && typM K then ((txV L).1.toList == (txV K).1.toList, 0) else (false, 1100)
theorem txV_enc {t : Tm} (h : t.ok) (hz : t.sz ≤ 256) : txV (t.enc 0) = ((tx ([], []) t).1, 0) := by
  unfold txV; rw [enc_typ h hz, dcd_enc h hz]; rfl
theorem txV_no {L : List (List Int)} (h : typM L = false) : txV L = (⟨#[]⟩, 700) := by unfold txV; rw [h]; rfl
theorem insV_enc {t u : Tm} (h : t.ok) (hz : t.sz ≤ 256) (k : u.ok) (kz : u.sz ≤ 256) : insV (t.enc 0) (u.enc 0) = ((inst [] t u).isSome, 0) := by
  unfold insV; rw [enc_typ h hz, dcd_enc h hz, enc_typ k kz, dcd_enc k kz]; rfl
theorem insV_no1 {L K : List (List Int)} (h : typM L = false) : insV L K = (false, 1100) := by unfold insV; rw [h]; rfl
theorem insV_no2 {L K : List (List Int)} (h : typM K = false) : insV L K = (false, 1100) := by unfold insV; rw [h, Bool.and_false]; rfl
theorem txV_snd (L : List (List Int)) : (txV L).2 = 0 ↔ typM L = true := by
  unfold txV; cases typM L <;> simp
theorem eqV_yes {L K : List (List Int)} (h : typM L = true) (k : typM K = true) : eqV L K = ((txV L).1.toList == (txV K).1.toList, 0) := by
  unfold eqV; rw [h, k]; rfl
theorem eqV_no1 {L K : List (List Int)} (h : ¬ typM L = true) : eqV L K = (false, 1100) := by unfold eqV; rw [show typM L = false by simpa using h]; rfl
theorem eqV_no2 {L K : List (List Int)} (h : ¬ typM K = true) : eqV L K = (false, 1100) := by unfold eqV; rw [show typM K = false by simpa using h, Bool.and_false]; rfl

theorem instG_ok {A1 A2 : Option Addr} {c1 c2 : Nat} {L K : List (List Int)} (hL : Nine L) (hK : Nine K) {H : Heap} (hS1 : SlT H Is 9 (.slice A1 L.length c1) L) (hS2 : SlT H Is 9 (.slice A2 K.length c2) K) (hl : L.length ≤ 9223372036854775807) (hk : K.length ≤ 9223372036854775807) :
    Ret Tryd.prog 33 [Ty A1 L.length c1, Ty A2 K.length c2] H (fun v H' => v = .tuple #[.bool (insV L K).1, I (insV L K).2] ∧ Ext H H') := by
  refine Ret.of_at (N := 21) Tryd.call33 Tryd.func33 rfl rfl rfl ?_
  have hE := Ext.refl H
  refine At.region rfl rfl ?_
  refine Reg.op rfl rfl rfl rfl (Does.box rfl rfl) ?_
  rintro _ H0_0 ⟨rfl, hn0_0⟩
  have z0_0 := hn0_0.size
  replace hE := hE.ext hn0_0.ext
  have o0_0 := hn0_0.own
  refine Reg.op rfl rfl rfl rfl (Does.box rfl rfl) ?_
  rintro _ H0_1 ⟨rfl, hn0_1⟩
  have z0_1 := hn0_1.size
  replace hE := hE.ext hn0_1.ext
  replace o0_0 := o0_0.ext hn0_1.ext
  have o0_1 := hn0_1.own
  refine Reg.pur rfl rfl rfl rfl (Pur.asg rfl) ?_
  refine Reg.pur rfl rfl rfl rfl (Pur.asg rfl) ?_
  refine Reg.nil ?_
  refine At.region rfl rfl ?_
  refine Reg.lod rfl rfl rfl rfl (Lod.ldn ag55 rfl o0_0.blk (whole rfl) rfl) ?_
  refine Reg.op rfl rfl rfl rfl (Does.call rfl (typMay_ok L hL (hS1.ext hE) hl)) ?_
  rintro _ H1_1 ⟨rfl, hE1_1⟩
  have z1_1 := hE1_1.lt
  replace hE := hE.ext hE1_1
  replace o0_0 := o0_0.ext hE1_1
  replace o0_1 := o0_1.ext hE1_1
  refine Reg.pur rfl rfl rfl rfl (Pur.not rfl) ?_
  refine Reg.pur rfl rfl rfl rfl (Pur.mv rfl) ?_
  refine Reg.case 10 rfl (fun q10 => ?_) (fun q10 => ?_)
  · first | (simp only [decide_eq_true_eq, decide_eq_false_iff_not, Bool.not_eq_true', Bool.not_eq_false', ne_eq, Decidable.not_not, Bool.not_eq_true, Bool.not_eq_false] at q10) | (dsimp only at q10) | skip
    refine Reg.skip rfl rfl rfl rfl rfl rfl rfl ?_
    refine Reg.skip rfl rfl rfl rfl rfl rfl rfl ?_
    refine Reg.skip rfl rfl rfl rfl rfl rfl rfl ?_
    refine Reg.pur rfl rfl rfl rfl (Pur.pickT rfl rfl) ?_
    refine Reg.nil ?_
    refine At.condT rfl rfl rfl ?_
    refine At.region rfl rfl ?_
    refine Reg.pur rfl rfl rfl rfl (Pur.asg rfl) ?_
    refine Reg.pur rfl rfl rfl rfl (Pur.asg rfl) ?_
    refine Reg.nil ?_
    refine At.ret rfl Tryd.func33 rfl ?_
    rw [insV_no1 q10]; exact ⟨rfl, hE⟩
  first | (simp only [decide_eq_true_eq, decide_eq_false_iff_not, Bool.not_eq_true', Bool.not_eq_false', ne_eq, Decidable.not_not, Bool.not_eq_true, Bool.not_eq_false] at q10) | (dsimp only at q10) | skip
  refine Reg.glod rfl rfl rfl rfl rfl rfl (Lod.ldn ag55 rfl o0_1.blk (whole rfl) rfl) ?_
  refine Reg.gop rfl rfl rfl rfl rfl rfl (Does.call rfl (typMay_ok K hK (hS2.ext hE) hk)) ?_
  rintro _ H1_5 ⟨rfl, hE1_5⟩
  have z1_5 := hE1_5.lt
  replace hE := hE.ext hE1_5
  replace o0_0 := o0_0.ext hE1_5
  replace o0_1 := o0_1.ext hE1_5
  refine Reg.gpur rfl rfl rfl rfl rfl rfl (Pur.not rfl) ?_
  refine Reg.pur rfl rfl rfl rfl (Pur.pickF rfl rfl) ?_
  refine Reg.nil ?_
  refine At.cond rfl rfl (fun q14 => ?_) (fun q14 => ?_)
  · first | (simp only [decide_eq_true_eq, decide_eq_false_iff_not, Bool.not_eq_true', Bool.not_eq_false', ne_eq, Decidable.not_not, Bool.not_eq_true, Bool.not_eq_false] at q14) | (dsimp only at q14) | skip
    refine At.region rfl rfl ?_
    refine Reg.pur rfl rfl rfl rfl (Pur.asg rfl) ?_
    refine Reg.pur rfl rfl rfl rfl (Pur.asg rfl) ?_
    refine Reg.nil ?_
    refine At.ret rfl Tryd.func33 rfl ?_
    rw [insV_no2 q14]; exact ⟨rfl, hE⟩
  first | (simp only [decide_eq_true_eq, decide_eq_false_iff_not, Bool.not_eq_true', Bool.not_eq_false', ne_eq, Decidable.not_not, Bool.not_eq_true, Bool.not_eq_false] at q14) | (dsimp only at q14) | skip
  obtain ⟨g, hg, rfl, hgz⟩ := typ_dec hL q10
  obtain ⟨s, hs, rfl, hsz⟩ := typ_dec hK q14
  have hgn := g.enc_len 0
  have hsn := s.enc_len 0
  refine At.region rfl rfl ?_
  refine Reg.op rfl rfl rfl rfl (Does.mkm) ?_
  rintro _ H3_0 ⟨rfl, hm3_0, hE3_0, hsz3_0⟩
  have z3_0 := hE3_0.lt
  replace hE := hE.ext hE3_0
  replace o0_0 := o0_0.ext hE3_0
  replace o0_1 := o0_1.ext hE3_0
  have z_hm3_0 := hm3_0.lt
  refine Reg.op rfl rfl rfl rfl (Does.mkm) ?_
  rintro _ H3_1 ⟨rfl, hm3_1, hE3_1, hsz3_1⟩
  have z3_1 := hE3_1.lt
  replace hE := hE.ext hE3_1
  replace o0_0 := o0_0.ext hE3_1
  replace o0_1 := o0_1.ext hE3_1
  replace hm3_0 := hm3_0.ext hE3_1
  have z_hm3_1 := hm3_1.lt
  refine Reg.pur rfl rfl rfl rfl (Pur.bld (cs := [_, _]) pl100 zc100 rfl rfl ⟨rfl, rfl, rfl⟩) ?_
  refine Reg.op rfl rfl rfl rfl (Does.box rfl rfl) ?_
  rintro _ H3_3 ⟨rfl, hn3_3⟩
  have z3_3 := hn3_3.size
  replace hE := hE.ext hn3_3.ext
  replace o0_0 := o0_0.ext hn3_3.ext
  replace o0_1 := o0_1.ext hn3_3.ext
  replace hm3_0 := hm3_0.ext hn3_3.ext
  replace hm3_1 := hm3_1.ext hn3_3.ext
  have o3_3 := hn3_3.own
  refine Reg.pur rfl rfl rfl rfl (Pur.asg rfl) ?_
  refine Reg.nil ?_
  refine At.region rfl rfl ?_
  refine Reg.pur rfl rfl rfl rfl (Pur.mv rfl) ?_
  refine Reg.op rfl rfl rfl rfl (Does.call rfl (typedG_ok (by omega) g.sz g s (Nat.le_refl _) hg hgz hs hsz o3_3 hm3_0 hm3_1 (tyM_nil _) rwM_nil o0_0.blk (at0 _) (hS1.ext hE) o0_1.blk (at0 _) (hS2.ext hE))) ?_
  rintro v4_1 H4_1 hP
  obtain ⟨rfl, f1, f2, _, _, _, hC⟩ := hP
  refine Reg.pur rfl rfl rfl rfl (Pur.asg rfl) ?_
  refine Reg.pur rfl rfl rfl rfl (Pur.asg rfl) ?_
  refine Reg.nil ?_
  refine At.ret rfl Tryd.func33 rfl ?_
  rw [insV_enc hg hgz hs hsz]; exact ⟨rfl, hE.via hC (fun x hx h => by omega)⟩
theorem typText_ok {A : Option Addr} {cap : Nat} {L : List (List Int)} (hL : Nine L) {H : Heap} (hT : Tens H) (hS : SlT H Is 9 (.slice A L.length cap) L) (hl : L.length ≤ 9223372036854775807) :
    Ret Tryd.prog 39 [Ty A L.length cap] H (fun v H' => v = .tuple #[.string (txV L).1, I (txV L).2] ∧ Ext H H') := by
  have zT : gT < H.size := hT.lt
  refine Ret.of_at (N := 14) Tryd.call39 Tryd.func39 rfl rfl rfl ?_
  have hE := Ext.refl H
  refine At.region rfl rfl ?_
  refine Reg.op rfl rfl rfl rfl (Does.box rfl rfl) ?_
  rintro _ H0_0 ⟨rfl, hn0_0⟩
  have z0_0 := hn0_0.size
  replace hE := hE.ext hn0_0.ext
  have o0_0 := hn0_0.own
  refine Reg.pur rfl rfl rfl rfl (Pur.asg rfl) ?_
  refine Reg.pur rfl rfl rfl rfl (Pur.asg rfl) ?_
  refine Reg.nil ?_
  refine At.region rfl rfl ?_
  refine Reg.lod rfl rfl rfl rfl (Lod.ldn ag55 rfl o0_0.blk (whole rfl) rfl) ?_
  refine Reg.op rfl rfl rfl rfl (Does.call rfl (typMay_ok L hL (hS.ext hE) hl)) ?_
  rintro _ H1_1 ⟨rfl, hE1_1⟩
  have z1_1 := hE1_1.lt
  replace hE := hE.ext hE1_1
  replace o0_0 := o0_0.ext hE1_1
  refine Reg.pur rfl rfl rfl rfl (Pur.not rfl) ?_
  refine Reg.nil ?_
  refine At.cond rfl rfl (fun q6 => ?_) (fun q6 => ?_)
  · first | (simp only [decide_eq_true_eq, decide_eq_false_iff_not, Bool.not_eq_true', Bool.not_eq_false', ne_eq, Decidable.not_not, Bool.not_eq_true, Bool.not_eq_false] at q6) | (dsimp only at q6) | skip
    refine At.region rfl rfl ?_
    refine Reg.pur rfl rfl rfl rfl (Pur.asg rfl) ?_
    refine Reg.pur rfl rfl rfl rfl (Pur.asg rfl) ?_
    refine Reg.nil ?_
    refine At.ret rfl Tryd.func39 rfl ?_
    rw [txV_no q6]; exact ⟨rfl, hE⟩
  first | (simp only [decide_eq_true_eq, decide_eq_false_iff_not, Bool.not_eq_true', Bool.not_eq_false', ne_eq, Decidable.not_not, Bool.not_eq_true, Bool.not_eq_false] at q6) | (dsimp only at q6) | skip
  obtain ⟨t, hok, rfl, hsz⟩ := typ_dec hL q6
  have hl' : (t.enc 0).length = t.sz := Tm.enc_len t 0
  have hpos := t.sz_pos
  refine At.region rfl rfl ?_
  refine Reg.pur rfl rfl rfl rfl (Pur.bld (cs := [_, _]) pl109 zc109 rfl rfl ⟨rfl, rfl, rfl⟩) ?_
  refine Reg.op rfl rfl rfl rfl (Does.box rfl rfl) ?_
  rintro _ H3_1 ⟨rfl, hn3_1⟩
  have z3_1 := hn3_1.size
  replace hE := hE.ext hn3_1.ext
  replace o0_0 := o0_0.ext hn3_1.ext
  have o3_1 := hn3_1.own
  refine Reg.pur rfl rfl rfl rfl (Pur.fld _ fo55_0 rfl) ?_
  refine Reg.lod rfl rfl rfl rfl (Lod.ld sc53 rfl o0_0.blk rfl) ?_
  refine Reg.pur rfl rfl rfl rfl (Pur.lenS isl53 rfl) ?_
  refine Reg.pur rfl rfl rfl rfl (Pur.sub64 rfl rfl (by omega)) ?_
  refine Reg.op rfl rfl rfl rfl (Does.call rfl (textP_ok hL (by omega) (at0 _) t.sz t [] [] (Nat.le_refl _) hok (by simp) o0_0.blk (hT.ext hE) (hS.ext hE) (nm_new (B := H.size) o3_1 (by omega)) (by simp; omega) (off_none (by have := hS.lt; omega) (by have := hS.lt; omega)) (off_none (by omega) (by omega)) (off_none (by omega) (by omega)) _ (by rw [hl']; simp))) ?_
  rintro _ H3_6 ⟨rfl, A1, c1, A2, c2, hN3_6, hM3_6⟩
  refine Reg.pur rfl rfl rfl rfl (Pur.asg rfl) ?_
  refine Reg.pur rfl rfl rfl rfl (Pur.asg rfl) ?_
  refine Reg.nil ?_
  refine At.ret rfl Tryd.func39 rfl ?_
  rw [txV_enc hok hsz]; exact ⟨rfl, mod_ext hM3_6 hE (by omega)⟩
theorem equal_ok {A1 A2 : Option Addr} {c1 c2 : Nat} {L K : List (List Int)} (hL : Nine L) (hK : Nine K) {H : Heap} (hT : Tens H) (hS1 : SlT H Is 9 (.slice A1 L.length c1) L) (hS2 : SlT H Is 9 (.slice A2 K.length c2) K) (hl : L.length ≤ 9223372036854775807) (hk : K.length ≤ 9223372036854775807) :
    Ret Tryd.prog 35 [Ty A1 L.length c1, Ty A2 K.length c2] H (fun v H' => v = .tuple #[.bool (eqV L K).1, I (eqV L K).2] ∧ Ext H H') := by
  refine Ret.of_at (N := 29) Tryd.call35 Tryd.func35 rfl rfl rfl ?_
  have hE := Ext.refl H
  refine At.region rfl rfl ?_
  refine Reg.op rfl rfl rfl rfl (Does.box rfl rfl) ?_
  rintro _ H0_0 ⟨rfl, hn0_0⟩
  have z0_0 := hn0_0.size
  replace hE := hE.ext hn0_0.ext
  have o0_0 := hn0_0.own
  refine Reg.op rfl rfl rfl rfl (Does.box rfl rfl) ?_
  rintro _ H0_1 ⟨rfl, hn0_1⟩
  have z0_1 := hn0_1.size
  replace hE := hE.ext hn0_1.ext
  replace o0_0 := o0_0.ext hn0_1.ext
  have o0_1 := hn0_1.own
  refine Reg.pur rfl rfl rfl rfl (Pur.asg rfl) ?_
  refine Reg.pur rfl rfl rfl rfl (Pur.asg rfl) ?_
  refine Reg.nil ?_
  refine At.region rfl rfl ?_
  refine Reg.lod rfl rfl rfl rfl (Lod.ldn ag55 rfl o0_0.blk (whole rfl) rfl) ?_
  refine Reg.op rfl rfl rfl rfl (Does.call rfl (typText_ok hL (hT.ext hE) (hS1.ext hE) hl)) ?_
  rintro _ H1_1 ⟨rfl, hE1_1⟩
  have z1_1 := hE1_1.lt
  replace hE := hE.ext hE1_1
  replace o0_0 := o0_0.ext hE1_1
  replace o0_1 := o0_1.ext hE1_1
  refine Reg.pur rfl rfl rfl rfl (Pur.mv rfl) ?_
  refine Reg.pur rfl rfl rfl rfl (Pur.ext rfl rfl) ?_
  refine Reg.pur rfl rfl rfl rfl (Pur.ext rfl rfl) ?_
  refine Reg.pur rfl rfl rfl rfl (Pur.asg rfl) ?_
  refine Reg.pur rfl rfl rfl rfl (Pur.asg rfl) ?_
  refine Reg.nil ?_
  refine At.region rfl rfl ?_
  refine Reg.lod rfl rfl rfl rfl (Lod.ldn ag55 rfl o0_1.blk (whole rfl) rfl) ?_
  refine Reg.op rfl rfl rfl rfl (Does.call rfl (typText_ok hK (hT.ext hE) (hS2.ext hE) hk)) ?_
  rintro _ H2_1 ⟨rfl, hE2_1⟩
  have z2_1 := hE2_1.lt
  replace hE := hE.ext hE2_1
  replace o0_0 := o0_0.ext hE2_1
  replace o0_1 := o0_1.ext hE2_1
  refine Reg.pur rfl rfl rfl rfl (Pur.mv rfl) ?_
  refine Reg.pur rfl rfl rfl rfl (Pur.ext rfl rfl) ?_
  refine Reg.pur rfl rfl rfl rfl (Pur.ext rfl rfl) ?_
  refine Reg.pur rfl rfl rfl rfl (Pur.asg rfl) ?_
  refine Reg.pur rfl rfl rfl rfl (Pur.asg rfl) ?_
  refine Reg.nil ?_
  refine At.region rfl rfl ?_
  refine Reg.pur rfl rfl rfl rfl (Pur.mv rfl) ?_
  refine Reg.pur rfl rfl rfl rfl (Pur.neq rfl rfl) ?_
  refine Reg.pur rfl rfl rfl rfl (Pur.mv rfl) ?_
  refine Reg.case 22 rfl (fun q22 => ?_) (fun q22 => ?_)
  · first | (simp only [decide_eq_true_eq, decide_eq_false_iff_not, Bool.not_eq_true', Bool.not_eq_false', ne_eq, Decidable.not_not, Bool.not_eq_true, Bool.not_eq_false] at q22) | (dsimp only at q22) | skip
    refine Reg.skip rfl rfl rfl rfl rfl rfl rfl ?_
    refine Reg.skip rfl rfl rfl rfl rfl rfl rfl ?_
    refine Reg.pur rfl rfl rfl rfl (Pur.pickT rfl rfl) ?_
    refine Reg.nil ?_
    refine At.condT rfl rfl rfl ?_
    refine At.region rfl rfl ?_
    refine Reg.pur rfl rfl rfl rfl (Pur.asg rfl) ?_
    refine Reg.pur rfl rfl rfl rfl (Pur.asg rfl) ?_
    refine Reg.nil ?_
    refine At.ret rfl Tryd.func35 rfl ?_
    rw [txV_snd] at q22; rw [eqV_no1 q22]; exact ⟨rfl, hE⟩
  first | (simp only [decide_eq_true_eq, decide_eq_false_iff_not, Bool.not_eq_true', Bool.not_eq_false', ne_eq, Decidable.not_not, Bool.not_eq_true, Bool.not_eq_false] at q22) | (dsimp only at q22) | skip
  refine Reg.gpur rfl rfl rfl rfl rfl rfl (Pur.mv rfl) ?_
  refine Reg.gpur rfl rfl rfl rfl rfl rfl (Pur.neq rfl rfl) ?_
  refine Reg.pur rfl rfl rfl rfl (Pur.pickF rfl rfl) ?_
  refine Reg.nil ?_
  refine At.cond rfl rfl (fun q25 => ?_) (fun q25 => ?_)
  · first | (simp only [decide_eq_true_eq, decide_eq_false_iff_not, Bool.not_eq_true', Bool.not_eq_false', ne_eq, Decidable.not_not, Bool.not_eq_true, Bool.not_eq_false] at q25) | (dsimp only at q25) | skip
    refine At.region rfl rfl ?_
    refine Reg.pur rfl rfl rfl rfl (Pur.asg rfl) ?_
    refine Reg.pur rfl rfl rfl rfl (Pur.asg rfl) ?_
    refine Reg.nil ?_
    refine At.ret rfl Tryd.func35 rfl ?_
    rw [txV_snd] at q25; rw [eqV_no2 q25]; exact ⟨rfl, hE⟩
  first | (simp only [decide_eq_true_eq, decide_eq_false_iff_not, Bool.not_eq_true', Bool.not_eq_false', ne_eq, Decidable.not_not, Bool.not_eq_true, Bool.not_eq_false] at q25) | (dsimp only at q25) | skip
  refine At.region rfl rfl ?_
  refine Reg.pur rfl rfl rfl rfl (Pur.mv rfl) ?_
  refine Reg.pur rfl rfl rfl rfl (Pur.mv rfl) ?_
  refine Reg.pur rfl rfl rfl rfl (Pur.eqS rfl rfl) ?_
  refine Reg.pur rfl rfl rfl rfl (Pur.asg rfl) ?_
  refine Reg.pur rfl rfl rfl rfl (Pur.asg rfl) ?_
  refine Reg.nil ?_
  refine At.ret rfl Tryd.func35 rfl ?_
  rw [txV_snd] at q22 q25
  rw [eqV_yes q22 q25]; exact ⟨rfl, hE⟩
end Go.Proofs.YtlfillhffpiffaaDoor

namespace Go.Proofs.YtlfillhffpiffaaDoor
set_option linter.unusedSimpArgs false
set_option linter.unusedVariables false
set_option maxRecDepth 8000
set_option maxHeartbeats 1000000
open Go Go.Fx Go.Proofs
namespace FactsDMaA
theorem ag24 : ag Tryd.prog 24 = some 5 := by kernel_rfl
theorem ag55 : ag Tryd.prog 55 = some 1 := by kernel_rfl
theorem arr22 : arr Tryd.prog 22 = some (4, 1) := by kernel_rfl
theorem fo24_0 : foff Tryd.prog 24 0 = some 0 := by kernel_rfl
theorem pl24 : places Tryd.prog 24 = some [(0, 4), (4, 1)] := by kernel_rfl
theorem pl55 : places Tryd.prog 55 = some [(0, 1)] := by kernel_rfl
theorem pl65 : places Tryd.prog 65 = some [(0, 1), (1, 1), (2, 1), (3, 1), (4, 5)] := by kernel_rfl
theorem sc3 : sc Tryd.prog 3 = true := by kernel_rfl
theorem slA53 : slA Tryd.prog 53 = some (65, 9) := by kernel_rfl
theorem zc24 : zc Tryd.prog 24 = some [.int .i64 0, .int .i64 0, .int .i64 0, .int .i64 0, .int .i64 0] := by kernel_rfl
theorem zc55 : zc Tryd.prog 55 = some [.slice none 0 0] := by kernel_rfl
theorem zc65 : zc Tryd.prog 65 = some [.int .i64 0, .int .i64 0, .int .i64 0, .int .i64 0, .int .i64 0, .int .i64 0, .int .i64 0, .int .i64 0, .int .i64 0] := by kernel_rfl
end FactsDMaA
open FactsDMaA

abbrev maG : Tm := .fn (.var 5) [0, 0, 0, 0, 2] (.var 5)
abbrev maS : Tm := .fn (.bas false) [0, 0, 0, 1, -1] (.bas false)
theorem maGok : maG.ok := ⟨⟨by decide, by decide⟩, rfl, rfl, ⟨by decide, by decide⟩⟩
theorem maSok : maS.ok := ⟨trivial, rfl, rfl, trivial⟩
theorem maI1 : insV (maG.enc 0) (maS.enc 0) = (true, 0) := by rw [insV_enc maGok (by decide) maSok (by decide)]; exact congrArg (fun b => (b, (0 : Int))) (by kernel_rfl)
theorem maI2 : insV (maS.enc 0) (maG.enc 0) = (false, 0) := by rw [insV_enc maSok (by decide) maGok (by decide)]; exact congrArg (fun b => (b, (0 : Int))) (by kernel_rfl)
theorem maE1 : eqV (maG.enc 0) (maS.enc 0) = (false, 0) := by
  rw [eqV_yes (enc_typ maGok (by decide)) (enc_typ maSok (by decide)), txV_enc maGok (by decide), txV_enc maSok (by decide)]
  dsimp only
  rw [ByteArray.toList_eq, ByteArray.toList_eq]
  exact congrArg (fun b => (b, (0 : Int))) (by kernel_rfl)
theorem maE2 : eqV (maG.enc 0) [] = (false, 1100) := eqV_no2 (by decide)
theorem awake11_ok {H : Heap} (hT : Tens H) : Ret Tryd.prog 38 [] H (fun v H' => v = .bool true ∧ Ext H H') := by
  have hg9 := maG.enc_nine 0 maGok
  have hs9 := maS.enc_nine 0 maSok
  refine Ret.of_at (N := 80) Tryd.call38 Tryd.func38 rfl rfl rfl ?_
  have hE := Ext.refl H
  refine At.region rfl rfl ?_
  refine Reg.pur rfl rfl rfl rfl (Pur.asg rfl) ?_
  refine Reg.nil ?_
  refine At.region rfl rfl ?_
  refine Reg.pur rfl rfl rfl rfl (Pur.bld (cs := [_, _, _, _, _, _, _, _, _]) pl65 zc65 rfl rfl ⟨rfl, rfl, rfl, rfl, rfl, rfl, rfl, rfl, rfl, rfl⟩) ?_
  refine Reg.pur rfl rfl rfl rfl (Pur.bld (cs := [_, _, _, _, _, _, _, _, _]) pl65 zc65 rfl rfl ⟨rfl, rfl, rfl, rfl, rfl, rfl, rfl, rfl, rfl, rfl⟩) ?_
  refine Reg.pur rfl rfl rfl rfl (Pur.bld (cs := [_, _, _, _, _]) pl24 zc24 rfl rfl ⟨rfl, rfl, rfl, rfl, rfl, rfl⟩) ?_
  refine Reg.pur rfl rfl rfl rfl (Pur.bld (cs := [_, _, _, _, _, _, _, _, _]) pl65 zc65 rfl rfl ⟨rfl, rfl, rfl, rfl, rfl, rfl, rfl, rfl, rfl, rfl⟩) ?_
  refine Reg.op rfl rfl rfl rfl (Does.bslA ([Is (vNode 5), Is (vNode 5), Is (fNode 0 1 [0, 0, 0, 0, 2])]) slA53 rfl rfl rfl rfl rfl rfl) ?_
  rintro _ H1_4 ⟨rfl, hp1_4⟩
  have hn1_4 := New.of_eq hp1_4
  have z1_4 := hn1_4.size
  replace hE := hE.ext hn1_4.ext
  have o1_4 := hn1_4.own
  have hSg : SlT H1_4 Is 9 (.slice (some ⟨H.size, 0, none⟩) (maG.enc 0).length 3) (maG.enc 0) := sl_own (L := maG.enc 0) (wide9 hg9) (by decide) o1_4 (by decide)
  have z_hSg := hSg.lt
  refine Reg.pur rfl rfl rfl rfl (Pur.bld (cs := [_]) pl55 zc55 rfl rfl ⟨rfl, rfl⟩) ?_
  refine Reg.op rfl rfl rfl rfl (Does.alloc zc55) ?_
  rintro _ H1_6 ⟨rfl, hn1_6⟩
  have z1_6 := hn1_6.size
  replace hE := hE.ext hn1_6.ext
  replace o1_4 := o1_4.ext hn1_6.ext
  replace hSg := hSg.ext hn1_6.ext
  have o1_6 := hn1_6.own
  refine Reg.op0 rfl rfl rfl (Does.stn ag55 rfl rfl (by first | rfl | exact ones_Is _) (by first | rfl | (simp [*]; done)) o1_6 (by first | decide | (simp; done) | (simp; omega) | omega)) ?_
  rintro _ H1_7 hu1_7
  have z1_7 := hu1_7.size
  replace hE := hE.upw hu1_7 (by omega)
  replace o1_4 := o1_4.upw hu1_7 (by omega)
  replace hSg := hSg.upw hu1_7 (by omega)
  replace o1_6 := hu1_7.own
  first | rw [over (by first | rfl | (simp; done))] at o1_6 | skip
  refine Reg.nil ?_
  refine At.region rfl rfl ?_
  refine Reg.pur rfl rfl rfl rfl (Pur.bld (cs := [_, _, _, _, _]) pl24 zc24 rfl rfl ⟨rfl, rfl, rfl, rfl, rfl, rfl⟩) ?_
  refine Reg.op rfl rfl rfl rfl (Does.alloc zc24) ?_
  rintro _ H2_1 ⟨rfl, hn2_1⟩
  have z2_1 := hn2_1.size
  replace hE := hE.ext hn2_1.ext
  replace o1_4 := o1_4.ext hn2_1.ext
  replace hSg := hSg.ext hn2_1.ext
  replace o1_6 := o1_6.ext hn2_1.ext
  have o2_1 := hn2_1.own
  refine Reg.op0 rfl rfl rfl (Does.stn ag24 rfl rfl (by first | rfl | exact ones_Is _) (by first | rfl | (simp [*]; done)) o2_1 (by first | decide | (simp; done) | (simp; omega) | omega)) ?_
  rintro _ H2_2 hu2_2
  have z2_2 := hu2_2.size
  replace hE := hE.upw hu2_2 (by omega)
  replace o1_4 := o1_4.upw hu2_2 (by omega)
  replace hSg := hSg.upw hu2_2 (by omega)
  replace o1_6 := o1_6.upw hu2_2 (by omega)
  replace o2_1 := hu2_2.own
  first | rw [over (by first | rfl | (simp; done))] at o2_1 | skip
  refine Reg.nil ?_
  refine At.region rfl rfl ?_
  refine Reg.pur rfl rfl rfl rfl (Pur.fld _ fo24_0 rfl) ?_
  refine Reg.pur rfl rfl rfl rfl (Pur.idxP arr22 rfl rfl (by omega) (by omega)) ?_
  refine Reg.op0 rfl rfl rfl (Does.st sc3 rfl rfl rfl o2_1 (by first | decide | (simp; done) | (simp; omega) | omega)) ?_
  rintro _ H3_2 hu3_2
  have z3_2 := hu3_2.size
  replace hE := hE.upw hu3_2 (by omega)
  replace o1_4 := o1_4.upw hu3_2 (by omega)
  replace hSg := hSg.upw hu3_2 (by omega)
  replace o1_6 := o1_6.upw hu3_2 (by omega)
  replace o2_1 := hu3_2.own
  refine Reg.nil ?_
  refine At.region rfl rfl ?_
  refine Reg.pur rfl rfl rfl rfl (Pur.bld (cs := [_, _, _, _, _, _, _, _, _]) pl65 zc65 rfl rfl ⟨rfl, rfl, rfl, rfl, rfl, rfl, rfl, rfl, rfl, rfl⟩) ?_
  refine Reg.pur rfl rfl rfl rfl (Pur.bld (cs := [_, _, _, _, _, _, _, _, _]) pl65 zc65 rfl rfl ⟨rfl, rfl, rfl, rfl, rfl, rfl, rfl, rfl, rfl, rfl⟩) ?_
  refine Reg.lod rfl rfl rfl rfl (Lod.ldn ag24 rfl o2_1.blk rfl rfl) ?_
  refine Reg.pur rfl rfl rfl rfl (Pur.bld (cs := [_, _, _, _, _, _, _, _, _]) pl65 zc65 rfl rfl ⟨rfl, rfl, rfl, rfl, rfl, rfl, rfl, rfl, rfl, rfl⟩) ?_
  refine Reg.op rfl rfl rfl rfl (Does.bslA ([Is (bNode false), Is (bNode false), Is (fNode 0 1 [0, 0, 0, 1, -1])]) slA53 rfl rfl rfl rfl rfl rfl) ?_
  rintro _ H4_4 ⟨rfl, hp4_4⟩
  have hn4_4 := New.of_eq hp4_4
  have z4_4 := hn4_4.size
  replace hE := hE.ext hn4_4.ext
  replace o1_4 := o1_4.ext hn4_4.ext
  replace hSg := hSg.ext hn4_4.ext
  replace o1_6 := o1_6.ext hn4_4.ext
  replace o2_1 := o2_1.ext hn4_4.ext
  have o4_4 := hn4_4.own
  have hSs : SlT H4_4 Is 9 _ (maS.enc 0) := sl_own (L := maS.enc 0) (wide9 hs9) (by decide) o4_4 (by decide)
  have z_hSs := hSs.lt
  refine Reg.pur rfl rfl rfl rfl (Pur.bld (cs := [_]) pl55 zc55 rfl rfl ⟨rfl, rfl⟩) ?_
  refine Reg.op rfl rfl rfl rfl (Does.alloc zc55) ?_
  rintro _ H4_6 ⟨rfl, hn4_6⟩
  have z4_6 := hn4_6.size
  replace hE := hE.ext hn4_6.ext
  replace o1_4 := o1_4.ext hn4_6.ext
  replace hSg := hSg.ext hn4_6.ext
  replace o1_6 := o1_6.ext hn4_6.ext
  replace o2_1 := o2_1.ext hn4_6.ext
  replace o4_4 := o4_4.ext hn4_6.ext
  replace hSs := hSs.ext hn4_6.ext
  have o4_6 := hn4_6.own
  refine Reg.op0 rfl rfl rfl (Does.stn ag55 rfl rfl (by first | rfl | exact ones_Is _) (by first | rfl | (simp [*]; done)) o4_6 (by first | decide | (simp; done) | (simp; omega) | omega)) ?_
  rintro _ H4_7 hu4_7
  have z4_7 := hu4_7.size
  replace hE := hE.upw hu4_7 (by omega)
  replace o1_4 := o1_4.upw hu4_7 (by omega)
  replace hSg := hSg.upw hu4_7 (by omega)
  replace o1_6 := o1_6.upw hu4_7 (by omega)
  replace o2_1 := o2_1.upw hu4_7 (by omega)
  replace o4_4 := o4_4.upw hu4_7 (by omega)
  replace hSs := hSs.upw hu4_7 (by omega)
  replace o4_6 := hu4_7.own
  first | rw [over (by first | rfl | (simp; done))] at o4_6 | skip
  refine Reg.nil ?_
  refine At.region rfl rfl ?_
  refine Reg.lod rfl rfl rfl rfl (Lod.ldn ag55 rfl o1_6.blk (whole rfl) rfl) ?_
  refine Reg.lod rfl rfl rfl rfl (Lod.ldn ag55 rfl o4_6.blk (whole rfl) rfl) ?_
  refine Reg.op rfl rfl rfl rfl (Does.call rfl (instG_ok hg9 hs9 hSg hSs (by decide) (by decide))) ?_
  rintro _ H5_2 ⟨rfl, hE5_2⟩
  have z5_2 := hE5_2.lt
  replace hE := hE.ext hE5_2
  replace o1_4 := o1_4.ext hE5_2
  replace hSg := hSg.ext hE5_2
  replace o1_6 := o1_6.ext hE5_2
  replace o2_1 := o2_1.ext hE5_2
  replace o4_4 := o4_4.ext hE5_2
  replace hSs := hSs.ext hE5_2
  replace o4_6 := o4_6.ext hE5_2
  refine Reg.pur rfl rfl rfl rfl (Pur.mv rfl) ?_
  refine Reg.pur rfl rfl rfl rfl (Pur.ext rfl rfl) ?_
  refine Reg.pur rfl rfl rfl rfl (Pur.ext rfl rfl) ?_
  refine Reg.pur rfl rfl rfl rfl (Pur.asg rfl) ?_
  refine Reg.pur rfl rfl rfl rfl (Pur.asg rfl) ?_
  refine Reg.nil ?_
  refine At.region rfl rfl ?_
  refine Reg.lod rfl rfl rfl rfl (Lod.ldn ag55 rfl o4_6.blk (whole rfl) rfl) ?_
  refine Reg.lod rfl rfl rfl rfl (Lod.ldn ag55 rfl o1_6.blk (whole rfl) rfl) ?_
  refine Reg.op rfl rfl rfl rfl (Does.call rfl (instG_ok hs9 hg9 hSs hSg (by decide) (by decide))) ?_
  rintro _ H6_2 ⟨rfl, hE6_2⟩
  have z6_2 := hE6_2.lt
  replace hE := hE.ext hE6_2
  replace o1_4 := o1_4.ext hE6_2
  replace hSg := hSg.ext hE6_2
  replace o1_6 := o1_6.ext hE6_2
  replace o2_1 := o2_1.ext hE6_2
  replace o4_4 := o4_4.ext hE6_2
  replace hSs := hSs.ext hE6_2
  replace o4_6 := o4_6.ext hE6_2
  refine Reg.pur rfl rfl rfl rfl (Pur.mv rfl) ?_
  refine Reg.pur rfl rfl rfl rfl (Pur.ext rfl rfl) ?_
  refine Reg.pur rfl rfl rfl rfl (Pur.ext rfl rfl) ?_
  refine Reg.pur rfl rfl rfl rfl (Pur.asg rfl) ?_
  refine Reg.pur rfl rfl rfl rfl (Pur.asg rfl) ?_
  refine Reg.nil ?_
  refine At.region rfl rfl ?_
  refine Reg.lod rfl rfl rfl rfl (Lod.ldn ag55 rfl o1_6.blk (whole rfl) rfl) ?_
  refine Reg.lod rfl rfl rfl rfl (Lod.ldn ag55 rfl o4_6.blk (whole rfl) rfl) ?_
  refine Reg.op rfl rfl rfl rfl (Does.call rfl (equal_ok hg9 hs9 (hT.ext hE) hSg hSs (by decide) (by decide))) ?_
  rintro _ H7_2 ⟨rfl, hE7_2⟩
  have z7_2 := hE7_2.lt
  replace hE := hE.ext hE7_2
  replace o1_4 := o1_4.ext hE7_2
  replace hSg := hSg.ext hE7_2
  replace o1_6 := o1_6.ext hE7_2
  replace o2_1 := o2_1.ext hE7_2
  replace o4_4 := o4_4.ext hE7_2
  replace hSs := hSs.ext hE7_2
  replace o4_6 := o4_6.ext hE7_2
  refine Reg.pur rfl rfl rfl rfl (Pur.mv rfl) ?_
  refine Reg.pur rfl rfl rfl rfl (Pur.ext rfl rfl) ?_
  refine Reg.pur rfl rfl rfl rfl (Pur.ext rfl rfl) ?_
  refine Reg.pur rfl rfl rfl rfl (Pur.asg rfl) ?_
  refine Reg.pur rfl rfl rfl rfl (Pur.asg rfl) ?_
  refine Reg.nil ?_
  refine At.region rfl rfl ?_
  refine Reg.lod rfl rfl rfl rfl (Lod.ldn ag55 rfl o1_6.blk (whole rfl) rfl) ?_
  refine Reg.pur rfl rfl rfl rfl (Pur.bld (cs := [_]) pl55 zc55 rfl rfl ⟨rfl, rfl⟩) ?_
  refine Reg.op rfl rfl rfl rfl (Does.call rfl (equal_ok (A2 := none) (c2 := 0) (K := []) hg9 (nine_lit rfl) (hT.ext hE) hSg (sl_nil _) (by decide) (by decide))) ?_
  rintro _ H8_2 ⟨rfl, hE8_2⟩
  have z8_2 := hE8_2.lt
  replace hE := hE.ext hE8_2
  replace o1_4 := o1_4.ext hE8_2
  replace hSg := hSg.ext hE8_2
  replace o1_6 := o1_6.ext hE8_2
  replace o2_1 := o2_1.ext hE8_2
  replace o4_4 := o4_4.ext hE8_2
  replace hSs := hSs.ext hE8_2
  replace o4_6 := o4_6.ext hE8_2
  rw [maI1, maI2, maE1, maE2]
  refine Reg.pur rfl rfl rfl rfl (Pur.mv rfl) ?_
  refine Reg.pur rfl rfl rfl rfl (Pur.ext rfl rfl) ?_
  refine Reg.pur rfl rfl rfl rfl (Pur.ext rfl rfl) ?_
  refine Reg.pur rfl rfl rfl rfl (Pur.asg rfl) ?_
  refine Reg.pur rfl rfl rfl rfl (Pur.asg rfl) ?_
  refine Reg.nil ?_
  refine At.region rfl rfl ?_
  refine Reg.pur rfl rfl rfl rfl (Pur.mv rfl) ?_
  refine Reg.pur rfl rfl rfl rfl (Pur.mv rfl) ?_
  refine Reg.known (b' := true) 52 rfl (by rfl) ?_
  refine Reg.gpur rfl rfl rfl rfl rfl rfl (Pur.mv rfl) ?_
  refine Reg.gop rfl rfl rfl rfl rfl rfl (Does.call rfl (numE_ok _ _)) ?_
  rintro _ H8_2 ⟨rfl, rfl⟩
  refine Reg.gpur rfl rfl rfl rfl rfl rfl (Pur.eql rfl rfl) ?_
  refine Reg.pur rfl rfl rfl rfl (Pur.pickT rfl rfl) ?_
  refine Reg.pur rfl rfl rfl rfl (Pur.mv rfl) ?_
  refine Reg.known (b' := true) 57 rfl (by rfl) ?_
  refine Reg.gpur rfl rfl rfl rfl rfl rfl (Pur.mv rfl) ?_
  refine Reg.gpur rfl rfl rfl rfl rfl rfl (Pur.not rfl) ?_
  refine Reg.pur rfl rfl rfl rfl (Pur.pickT rfl rfl) ?_
  refine Reg.pur rfl rfl rfl rfl (Pur.mv rfl) ?_
  refine Reg.known (b' := true) 61 rfl (by rfl) ?_
  refine Reg.gpur rfl rfl rfl rfl rfl rfl (Pur.mv rfl) ?_
  refine Reg.gop rfl rfl rfl rfl rfl rfl (Does.call rfl (numE_ok _ _)) ?_
  rintro _ H8_2 ⟨rfl, rfl⟩
  refine Reg.gpur rfl rfl rfl rfl rfl rfl (Pur.eql rfl rfl) ?_
  refine Reg.pur rfl rfl rfl rfl (Pur.pickT rfl rfl) ?_
  refine Reg.pur rfl rfl rfl rfl (Pur.mv rfl) ?_
  refine Reg.known (b' := true) 66 rfl (by rfl) ?_
  refine Reg.gpur rfl rfl rfl rfl rfl rfl (Pur.mv rfl) ?_
  refine Reg.gpur rfl rfl rfl rfl rfl rfl (Pur.not rfl) ?_
  refine Reg.pur rfl rfl rfl rfl (Pur.pickT rfl rfl) ?_
  refine Reg.pur rfl rfl rfl rfl (Pur.mv rfl) ?_
  refine Reg.known (b' := true) 70 rfl (by rfl) ?_
  refine Reg.gpur rfl rfl rfl rfl rfl rfl (Pur.mv rfl) ?_
  refine Reg.gop rfl rfl rfl rfl rfl rfl (Does.call rfl (numE_ok _ _)) ?_
  rintro _ H8_2 ⟨rfl, rfl⟩
  refine Reg.gpur rfl rfl rfl rfl rfl rfl (Pur.eql rfl rfl) ?_
  refine Reg.pur rfl rfl rfl rfl (Pur.pickT rfl rfl) ?_
  refine Reg.pur rfl rfl rfl rfl (Pur.mv rfl) ?_
  refine Reg.known (b' := true) 75 rfl (by rfl) ?_
  refine Reg.gpur rfl rfl rfl rfl rfl rfl (Pur.mv rfl) ?_
  refine Reg.gop rfl rfl rfl rfl rfl rfl (Does.call rfl (numE_ok _ _)) ?_
  rintro _ H8_2 ⟨rfl, rfl⟩
  refine Reg.gpur rfl rfl rfl rfl rfl rfl (Pur.eql rfl rfl) ?_
  refine Reg.pur rfl rfl rfl rfl (Pur.pickT rfl rfl) ?_
  refine Reg.pur rfl rfl rfl rfl (Pur.asg rfl) ?_
  refine Reg.nil ?_
  refine At.ret rfl Tryd.func38 rfl ?_
  exact ⟨rfl, hE⟩
end Go.Proofs.YtlfillhffpiffaaDoor

namespace Go.Proofs.YtlfillhffpiffaaDoor
set_option linter.unusedSimpArgs false
set_option linter.unusedVariables false
set_option maxRecDepth 8000
set_option maxHeartbeats 1000000
open Go Go.Fx Go.Proofs
namespace FactsDMaD
theorem ag55 : ag Tryd.prog 55 = some 1 := by kernel_rfl
theorem es53 : esz Tryd.prog 53 = some 9 := by kernel_rfl
theorem fo55_0 : foff Tryd.prog 55 0 = some 0 := by kernel_rfl
theorem fo65_0 : foff Tryd.prog 65 0 = some 0 := by kernel_rfl
theorem isl53 : isSl Tryd.prog 53 = true := by kernel_rfl
theorem pl55 : places Tryd.prog 55 = some [(0, 1)] := by kernel_rfl
theorem pl65 : places Tryd.prog 65 = some [(0, 1), (1, 1), (2, 1), (3, 1), (4, 5)] := by kernel_rfl
theorem sc3 : sc Tryd.prog 3 = true := by kernel_rfl
theorem sc53 : sc Tryd.prog 53 = true := by kernel_rfl
theorem slA53 : slA Tryd.prog 53 = some (65, 9) := by kernel_rfl
theorem zc55 : zc Tryd.prog 55 = some [.slice none 0 0] := by kernel_rfl
theorem zc65 : zc Tryd.prog 65 = some [.int .i64 0, .int .i64 0, .int .i64 0, .int .i64 0, .int .i64 0, .int .i64 0, .int .i64 0, .int .i64 0, .int .i64 0] := by kernel_rfl
end FactsDMaD
open FactsDMaD

def Asg.comp (φ θ : Asg) : Asg := ⟨fun v => φ.tm (θ.T v), fun v => φ.row (θ.R v)⟩
theorem row_comp (φ θ : Asg) (r : List Int) : (φ.comp θ).row r = φ.row (θ.row r) := by
  by_cases h : r.getD 4 0 < 0
  · rw [Asg.row_no (θ := θ) h, Asg.row_no h, Asg.row_no h]
  · rw [Asg.row_yes (θ := θ) h, Asg.row_yes h, Asg.row_ad]; rfl
theorem tm_comp (φ θ : Asg) : ∀ t : Tm, (φ.comp θ).tm t = φ.tm (θ.tm t)
  | .bas k => rfl
  | .var v => rfl
  | .fn a r b => by
    simp only [Asg.tm]
    rw [tm_comp φ θ a, row_comp, tm_comp φ θ b]
theorem comp_ok {φ θ : Asg} (h : φ.Ok) (k : θ.Ok) : (φ.comp θ).Ok := by
  have key : ∀ v, 0 ≤ v → ((φ.comp θ).R v).length = 5 ∧ (∀ i, i < 4 → 0 ≤ ((φ.comp θ).R v).getD i 0) ∧ -1 ≤ ((φ.comp θ).R v).getD 4 0 := by
    intro v hv
    show (φ.row (θ.R v)).length = 5 ∧ (∀ i, i < 4 → 0 ≤ (φ.row (θ.R v)).getD i 0) ∧ -1 ≤ (φ.row (θ.R v)).getD 4 0
    have h1 := k.len v hv
    have h2 := k.pos v hv
    have h3 := k.tl v hv
    by_cases hn : (θ.R v).getD 4 0 < 0
    · rw [Asg.row_no hn]; exact ⟨h1, h2, h3⟩
    · rw [Asg.row_yes hn]
      have g2 := h.pos ((θ.R v).getD 4 0) (by omega)
      have g3 := h.tl ((θ.R v).getD 4 0) (by omega)
      refine ⟨rfl, fun i hi => ?_, by rw [adR_tail]; exact g3⟩
      match i, hi with
      | 0, _ => have := h2 0 (by decide); have := g2 0 (by decide); show 0 ≤ _ + _; omega
      | 1, _ => have := h2 1 (by decide); have := g2 1 (by decide); show 0 ≤ _ + _; omega
      | 2, _ => have := h2 2 (by decide); have := g2 2 (by decide); show 0 ≤ _ + _; omega
      | 3, _ => have := h2 3 (by decide); have := g2 3 (by decide); show 0 ≤ _ + _; omega
  exact ⟨fun v hv => (key v hv).1, fun v hv => (key v hv).2.1, fun v hv => (key v hv).2.2⟩
end Go.Proofs.YtlfillhffpiffaaDoor

namespace Go.Proofs.YtlfillhffpiffaaDoor
set_option linter.unusedSimpArgs false
set_option linter.unusedVariables false
set_option maxRecDepth 8000
set_option maxHeartbeats 1000000
open Go Go.Fx Go.Proofs
namespace FactsDMaE

end FactsDMaE
open FactsDMaE

theorem ad_dfP {g s : List Int} (hs : s.length = 5) : adR g (dfR g s) = s := by
  obtain ⟨a, b, c, d, e, rfl⟩ := row_five hs
  unfold dfR adR
  simp only [List.getD_cons_zero, List.getD_cons_succ]
  simp only [List.cons.injEq, and_true]
  omega
theorem instR_snd {θ : Asg} {M M' : List Bt} {g s : List Int} (hs : s.length = 5) (h : instR M g s = some M') (hH : Has θ M') : θ.row g = s ∧ Has θ M := by
  unfold instR at h
  split at h
  · cases h
  · split at h
    · rename_i h0
      split at h
      · rename_i he
        cases h; subst he
        exact ⟨Asg.row_no h0, hH⟩
      · cases h
    · rename_i h0
      split at h
      · rename_i hf
        cases h
        have h2 := (has_R hf).1 hH
        exact ⟨by rw [Asg.row_yes h0, h2.2, ad_dfP hs], h2.1⟩
      · rename_i d hf
        split at h
        · rename_i he
          cases h
          exact ⟨by rw [Asg.row_yes h0, hH.2 _ _ hf, he, ad_dfP hs], hH⟩
        · cases h
theorem inst_snd {θ : Asg} : ∀ {g s : Tm} {M M' : List Bt}, g.ok → s.ok → inst M g s = some M' → Has θ M' → θ.tm g = s ∧ Has θ M
  | .bas k, .bas l, M, M', _, _, h, hH => by
    simp only [inst] at h
    split at h
    · rename_i he; cases h; subst he; exact ⟨rfl, hH⟩
    · cases h
  | .bas k, .var v, M, M', _, _, h, hH => by simp only [inst] at h; cases h
  | .bas k, .fn _ _ _, M, M', _, _, h, hH => by simp only [inst] at h; cases h
  | .var v, s, M, M', _, _, h, hH => by
    simp only [inst] at h
    split at h
    · rename_i hf
      cases h
      have h2 := (has_T hf).1 hH
      exact ⟨h2.2, h2.1⟩
    · rename_i t hf
      split at h
      · rename_i he
        cases h; subst he
        exact ⟨hH.1 _ _ hf, hH⟩
      · cases h
  | .fn a r b, .fn a' r' b', M, M', hg, hs, h, hH => by
    simp only [inst] at h
    split at h
    · cases h
    · rename_i M1 e1
      split at h
      · cases h
      · rename_i M2 e2
        obtain ⟨b1, b2⟩ := inst_snd hg.2.2.2 hs.2.2.2 h hH
        obtain ⟨r1, r2⟩ := instR_snd hs.2.1 e2 b2
        obtain ⟨a1, a2⟩ := inst_snd hg.1 hs.1 e1 r2
        exact ⟨by simp only [Asg.tm]; rw [a1, r1, b1], a2⟩
  | .fn _ _ _, .bas _, M, M', _, _, h, hH => by simp only [inst] at h; cases h
  | .fn _ _ _, .var _, M, M', _, _, h, hH => by simp only [inst] at h; cases h
theorem instR_okM {M M' : List Bt} {g s : List Int} (hg : g.length = 5) (hgm : rowM g = true) (hs : s.length = 5) (hsm : rowM s = true) (hM : ∀ b ∈ M, b.ok) (h : instR M g s = some M') : ∀ b ∈ M', b.ok := by
  have hd : (dfR g s).length = 5 := rfl
  unfold instR at h
  split at h
  · cases h
  · rename_i hp
    have hp' : posR (dfR g s) = true := by simpa using hp
    split at h
    · split at h
      · cases h; exact hM
      · cases h
    · split at h
      · cases h
        intro b hb
        rcases List.mem_append.1 hb with hb | hb
        · exact hM b hb
        · simp only [List.mem_singleton] at hb
          subst hb
          refine ⟨hd, ?_⟩
          obtain ⟨g0, g1, g2, g3, g4, rfl⟩ := row_five hg
          obtain ⟨s0, s1, s2, s3, s4, rfl⟩ := row_five hs
          have q := row_cnt hg hgm
          have p := row_cnt hs hsm
          have t := rowM_t hsm
          have q0 := q 0 (by decide)
          have q1 := q 1 (by decide)
          have q2 := q 2 (by decide)
          have q3 := q 3 (by decide)
          have p0 := p 0 (by decide)
          have p1 := p 1 (by decide)
          have p2 := p 2 (by decide)
          have p3 := p 3 (by decide)
          unfold posR at hp'
          have hp2 : 0 ≤ s0 - g0 ∧ 0 ≤ s1 - g1 ∧ 0 ≤ s2 - g2 ∧ 0 ≤ s3 - g3 := of_decide_eq_true hp'
          change 0 ≤ g0 ∧ g0 ≤ 32 at q0
          change 0 ≤ g1 ∧ g1 ≤ 32 at q1
          change 0 ≤ g2 ∧ g2 ≤ 32 at q2
          change 0 ≤ g3 ∧ g3 ≤ 32 at q3
          change 0 ≤ s0 ∧ s0 ≤ 32 at p0
          change 0 ≤ s1 ∧ s1 ≤ 32 at p1
          change 0 ≤ s2 ∧ s2 ≤ 32 at p2
          change 0 ≤ s3 ∧ s3 ≤ 32 at p3
          change -1 ≤ s4 ∧ s4 < 4096 at t
          show (okc (s0 - g0) && (okc (s1 - g1) && (okc (s2 - g2) && (okc (s3 - g3) && true))) && decide (-1 ≤ s4 ∧ s4 < 4096)) = true
          unfold okc
          rw [decide_eq_true t, decide_eq_true (by omega : 0 ≤ s0 - g0 ∧ s0 - g0 ≤ 32), decide_eq_true (by omega : 0 ≤ s1 - g1 ∧ s1 - g1 ≤ 32), decide_eq_true (by omega : 0 ≤ s2 - g2 ∧ s2 - g2 ≤ 32), decide_eq_true (by omega : 0 ≤ s3 - g3 ∧ s3 - g3 ≤ 32)]; rfl
      · split at h
        · cases h; exact hM
        · cases h
theorem inst_okM : ∀ {g s : Tm} {M M' : List Bt}, g.ok → s.ok → s.sz ≤ 256 → (∀ b ∈ M, b.ok) → inst M g s = some M' → ∀ b ∈ M', b.ok
  | .bas k, .bas l, M, M', _, _, _, hM, h => by
    simp only [inst] at h
    split at h
    · cases h; exact hM
    · cases h
  | .bas k, .var v, M, M', _, _, _, _, h => by simp only [inst] at h; cases h
  | .bas k, .fn _ _ _, M, M', _, _, _, _, h => by simp only [inst] at h; cases h
  | .var v, s, M, M', _, hs, hz, hM, h => by
    simp only [inst] at h
    split at h
    · cases h
      intro b hb
      rcases List.mem_append.1 hb with hb | hb
      · exact hM b hb
      · simp only [List.mem_singleton] at hb
        subst hb
        exact ⟨hs, hz⟩
    · split at h
      · cases h; exact hM
      · cases h
  | .fn a r b, .fn a' r' b', M, M', hg, hs, hz, hM, h => by
    simp only [Tm.sz] at hz
    simp only [inst] at h
    split at h
    · cases h
    · rename_i M1 e1
      split at h
      · cases h
      · rename_i M2 e2
        exact inst_okM hg.2.2.2 hs.2.2.2 (by omega) (instR_okM hg.2.1 hg.2.2.1 hs.2.1 hs.2.2.1 (inst_okM hg.1 hs.1 (by omega) hM e1) e2) h
  | .fn _ _ _, .bas _, M, M', _, _, _, _, h => by simp only [inst] at h; cases h
  | .fn _ _ _, .var _, M, M', _, _, _, _, h => by simp only [inst] at h; cases h
theorem has_asg (M : List Bt) : Has (asg M) M := by
  constructor
  · intro v u h; unfold asg; dsimp only; rw [h]
  · intro v u h; unfold asg; dsimp only; rw [h]
theorem inst_asg {g s : Tm} (hg : g.ok) (hs : s.ok) (hz : s.sz ≤ 256) (h : (inst [] g s).isSome = true) : ∃ θ : Asg, θ.Ok ∧ θ.tm g = s := by
  obtain ⟨M, hM⟩ := Option.isSome_iff_exists.1 h
  exact ⟨asg M, asg_ok (inst_okM hg hs hz (fun b hb => by cases hb) hM), (inst_snd hg hs hM (has_asg M)).1⟩
theorem asg_inst {g s : Tm} (hg : g.ok) (hs : s.ok) {θ : Asg} (hθ : θ.Ok) (h : θ.tm g = s) : (inst [] g s).isSome = true := by
  obtain ⟨M, hM, _⟩ := inst_of hθ hg hs (has_nil _) h
  rw [hM]; rfl
end Go.Proofs.YtlfillhffpiffaaDoor

namespace Go.Proofs.YtlfillhffpiffaaDoor
set_option linter.unusedSimpArgs false
set_option linter.unusedVariables false
set_option maxRecDepth 8000
set_option maxHeartbeats 1000000
open Go Go.Fx Go.Proofs
namespace FactsDMaF

end FactsDMaF
open FactsDMaF

theorem push_bytes : ∀ (l : List Int) (s : ByteArray), (l.foldl (fun r n => r.push (UInt8.ofNat n.toNat)) s).data.toList = s.data.toList ++ l.map (fun n => UInt8.ofNat n.toNat)
  | [], s => by simp
  | x :: l, s => by
    rw [List.foldl_cons, push_bytes l, ByteArray.data_push]; simp
theorem dec_bytes (n : Nat) : (dec n).data.toList = (decI n).map (fun n => UInt8.ofNat n.toNat) := by
  unfold dec bstr; rw [push_bytes]; rfl
theorem decG_dgt : ∀ (f n : Nat) (l : List Int), (∀ x ∈ l, 48 ≤ x ∧ x ≤ 57) → ∀ x ∈ decG f n l, 48 ≤ x ∧ x ≤ 57
  | 0, n, l, h => h
  | f + 1, n, l, h => by
    unfold decG; split
    · exact h
    · refine decG_dgt f _ _ (fun x hx => ?_)
      rcases List.mem_cons.1 hx with rfl | hx
      · omega
      · exact h x hx
theorem decG_val : ∀ (f n : Nat) (l : List Int), n < 10 ^ f → (decG f n l).foldl (fun a x => a * 10 + (x.toNat - 48)) 0 = l.foldl (fun a x => a * 10 + (x.toNat - 48)) n
  | 0, n, l, h => by obtain rfl : n = 0 := by simpa using h
                     rfl
  | f + 1, n, l, h => by
    unfold decG; split
    · rename_i h0; rw [h0.1]
    · rw [decG_val f _ _ (by rw [Nat.pow_succ] at h; omega), List.foldl_cons]
      congr 1
      omega
theorem map_dig : ∀ {l l' : List Int}, (∀ x ∈ l, 48 ≤ x ∧ x ≤ 57) → (∀ x ∈ l', 48 ≤ x ∧ x ≤ 57) → l.map (fun n => UInt8.ofNat n.toNat) = l'.map (fun n => UInt8.ofNat n.toNat) → l = l'
  | [], [], _, _, _ => rfl
  | [], _ :: _, _, _, h => by cases h
  | _ :: _, [], _, _, h => by cases h
  | x :: l, y :: l', hx, hy, h => by
    simp only [List.map_cons, List.cons.injEq] at h
    have h1 := hx x List.mem_cons_self
    have h2 := hy y List.mem_cons_self
    have h3 := congrArg UInt8.toNat h.1
    rw [UInt8.toNat_ofNat', UInt8.toNat_ofNat'] at h3
    have h4 : x = y := by omega
    rw [h4, map_dig (fun z hz => hx z (List.mem_cons_of_mem _ hz)) (fun z hz => hy z (List.mem_cons_of_mem _ hz)) h.2]
theorem dec_inj {n m : Nat} (hn : n < 100000000) (hm : m < 100000000) (h : (dec n).data.toList = (dec m).data.toList) : n = m := by
  rw [dec_bytes, dec_bytes] at h
  have h1 := map_dig (decG_dgt 8 n [] (fun x hx => by cases hx)) (decG_dgt 8 m [] (fun x hx => by cases hx)) h
  have h2 := decG_val 8 n [] (by omega)
  have h3 := decG_val 8 m [] (by omega)
  unfold decI at h1
  rw [h1, h3] at h2
  exact h2.symm
def dg (b : UInt8) : Bool := decide (48 ≤ b.toNat ∧ b.toNat ≤ 57)
theorem dec_dg (n : Nat) : ∀ b ∈ (dec n).data.toList, dg b = true := by
  intro b hb
  rw [dec_bytes] at hb
  obtain ⟨x, hx, rfl⟩ := List.mem_map.1 hb
  have := decG_dgt 8 n [] (fun x hx => by cases hx) x hx
  unfold dg
  rw [UInt8.toNat_ofNat']
  exact decide_eq_true (by omega)
def hd (P : UInt8 → Bool) (Y : List UInt8) : Prop := ∀ b l, Y = b :: l → P b = false
theorem hd_cons {P : UInt8 → Bool} {b : UInt8} {l : List UInt8} (h : P b = false) : hd P (b :: l) := by
  intro c m he; cases he; exact h
theorem span_inj {P : UInt8 → Bool} : ∀ {X X' Y Y' : List UInt8}, (∀ b ∈ X, P b = true) → (∀ b ∈ X', P b = true) → hd P Y → hd P Y' → X ++ Y = X' ++ Y' → X = X' ∧ Y = Y'
  | [], [], Y, Y', _, _, _, _, h => ⟨rfl, h⟩
  | [], b :: X', Y, Y', _, h2, h3, _, h => by
    have := h3 b (X' ++ Y') h
    rw [h2 b List.mem_cons_self] at this; cases this
  | b :: X, [], Y, Y', h1, _, _, h4, h => by
    have := h4 b (X ++ Y) h.symm
    rw [h1 b List.mem_cons_self] at this; cases this
  | b :: X, c :: X', Y, Y', h1, h2, h3, h4, h => by
    simp only [List.cons_append, List.cons.injEq] at h
    obtain ⟨e1, e2⟩ := span_inj (fun z hz => h1 z (List.mem_cons_of_mem _ hz)) (fun z hz => h2 z (List.mem_cons_of_mem _ hz)) h3 h4 h.2
    exact ⟨by rw [h.1, e1], e2⟩
def rpb (b : UInt8) : Bool := decide (b.toNat = 44 ∨ b.toNat = 111) || dg b
theorem rone_rpb {i : Nat} {s : ByteArray} (h : ∀ b ∈ s.data.toList, rpb b = true) : ∀ b ∈ (rone i s).data.toList, rpb b = true := by
  intro b hb
  unfold rone at hb
  rw [dap, dap] at hb
  rcases List.mem_append.1 hb with hb | hb
  · rcases List.mem_append.1 hb with hb | hb
    · split at hb
      · rw [dap] at hb
        rcases List.mem_append.1 hb with hb | hb
        · exact h b hb
        · rw [List.mem_singleton.1 hb]; rfl
      · exact h b hb
    · rw [List.mem_singleton.1 hb]; rfl
  · unfold rpb; rw [dec_dg i b hb, Bool.or_true]
theorem rrep_rpb {i : Nat} : ∀ (k : Nat) {s : ByteArray}, (∀ b ∈ s.data.toList, rpb b = true) → ∀ b ∈ (rrep i k s).data.toList, rpb b = true
  | 0, s, h => h
  | k + 1, s, h => rone_rpb (rrep_rpb k h)
theorem rall_rpb (r : List Int) : ∀ (i : Nat), ∀ b ∈ (rall r i).data.toList, rpb b = true
  | 0 => fun b hb => by cases hb
  | i + 1 => rrep_rpb _ (rall_rpb r i)
theorem dec_cnt {i j : Nat} (hi : i < 4) (hj : j < 4) : (dec j).data.toList.count (UInt8.ofNat (48 + i)) = if i = j then 1 else 0 := by
  match i, j, hi, hj with
  | 0, 0, _, _ => rfl
  | 0, 1, _, _ => rfl
  | 0, 2, _, _ => rfl
  | 0, 3, _, _ => rfl
  | 1, 0, _, _ => rfl
  | 1, 1, _, _ => rfl
  | 1, 2, _, _ => rfl
  | 1, 3, _, _ => rfl
  | 2, 0, _, _ => rfl
  | 2, 1, _, _ => rfl
  | 2, 2, _, _ => rfl
  | 2, 3, _, _ => rfl
  | 3, 0, _, _ => rfl
  | 3, 1, _, _ => rfl
  | 3, 2, _, _ => rfl
  | 3, 3, _, _ => rfl
theorem one_cnt {i : Nat} (hi : i < 4) {x : UInt8} (hx : x = 44 ∨ x = 111) : ([x] : List UInt8).count (UInt8.ofNat (48 + i)) = 0 := by
  rcases hx with rfl | rfl
  · match i, hi with
    | 0, _ => rfl
    | 1, _ => rfl
    | 2, _ => rfl
    | 3, _ => rfl
  · match i, hi with
    | 0, _ => rfl
    | 1, _ => rfl
    | 2, _ => rfl
    | 3, _ => rfl
theorem rone_cnt {i j : Nat} (hi : i < 4) (hj : j < 4) (s : ByteArray) : (rone j s).data.toList.count (UInt8.ofNat (48 + i)) = s.data.toList.count (UInt8.ofNat (48 + i)) + if i = j then 1 else 0 := by
  unfold rone
  rw [dap, dap, List.count_append, List.count_append, dec_cnt hi hj, one_cnt hi (.inr rfl)]
  split
  · rw [dap, List.count_append, one_cnt hi (.inl rfl)]; rfl
  · rfl
theorem rrep_cnt {i j : Nat} (hi : i < 4) (hj : j < 4) : ∀ (k : Nat) (s : ByteArray), (rrep j k s).data.toList.count (UInt8.ofNat (48 + i)) = s.data.toList.count (UInt8.ofNat (48 + i)) + if i = j then k else 0
  | 0, s => by simp [rrep]
  | k + 1, s => by
    show (rone j (rrep j k s)).data.toList.count _ = _
    rw [rone_cnt hi hj, rrep_cnt hi hj k]
    split <;> omega
theorem rall_cnt (r : List Int) {i : Nat} (hi : i < 4) : (rall r 4).data.toList.count (UInt8.ofNat (48 + i)) = (r.getD i 0).toNat := by
  show (rrep 3 _ (rrep 2 _ (rrep 1 _ (rrep 0 _ ⟨#[]⟩)))).data.toList.count _ = _
  rw [rrep_cnt hi (by decide), rrep_cnt hi (by decide), rrep_cnt hi (by decide), rrep_cnt hi (by decide)]
  match i, hi with
  | 0, _ => simp
  | 1, _ => simp
  | 2, _ => simp
  | 3, _ => simp
def RwC (r : List Int) : Prop := r.length = 5 ∧ (∀ i, i < 4 → 0 ≤ r.getD i 0) ∧ -1 ≤ r.getD 4 0 ∧ r.getD 4 0 < 100000
def pRt (t : Int) : List UInt8 := if 0 ≤ t then 124 :: 101 :: (dec t.toNat).data.toList else []
def pR (r : List Int) : List UInt8 := 60 :: ((rall r 4).data.toList ++ (pRt (r.getD 4 0) ++ [62]))
theorem pRt_hd (t : Int) (x : List UInt8) : hd rpb (pRt t ++ 62 :: x) := by
  unfold pRt; split
  · exact hd_cons rfl
  · exact hd_cons rfl
theorem pR_inj {r s : List Int} (hr : RwC r) (hs : RwC s) {x y : List UInt8} (h : pR r ++ x = pR s ++ y) : r = s ∧ x = y := by
  unfold pR at h
  simp only [List.cons_append, List.append_assoc, List.cons.injEq, true_and, List.singleton_append] at h
  obtain ⟨h1, h2⟩ := span_inj (rall_rpb r 4) (rall_rpb s 4) (pRt_hd _ _) (pRt_hd _ _) h
  have hc : ∀ i, i < 4 → r.getD i 0 = s.getD i 0 := fun i hi => by
    have e1 := rall_cnt r hi
    have e2 := rall_cnt s hi
    rw [h1, e2] at e1
    have := hr.2.1 i hi
    have := hs.2.1 i hi
    omega
  have ht : r.getD 4 0 = s.getD 4 0 ∧ x = y := by
    have a1 := hr.2.2
    have a2 := hs.2.2
    unfold pRt at h2
    by_cases t1 : 0 ≤ r.getD 4 0
    · by_cases t2 : 0 ≤ s.getD 4 0
      · rw [if_pos t1, if_pos t2] at h2
        simp only [List.cons_append, List.cons.injEq, true_and] at h2
        obtain ⟨e1, e2⟩ := span_inj (dec_dg _) (dec_dg _) (hd_cons rfl) (hd_cons rfl) h2
        have := dec_inj (by omega) (by omega) e1
        simp only [List.cons.injEq, true_and] at e2
        exact ⟨by omega, e2⟩
      · rw [if_pos t1, if_neg t2] at h2
        simp only [List.cons_append, List.nil_append, List.cons.injEq] at h2
        exact absurd h2.1 (by decide)
    · by_cases t2 : 0 ≤ s.getD 4 0
      · rw [if_neg t1, if_pos t2] at h2
        simp only [List.cons_append, List.nil_append, List.cons.injEq] at h2
        exact absurd h2.1 (by decide)
      · rw [if_neg t1, if_neg t2] at h2
        simp only [List.nil_append, List.cons.injEq, true_and] at h2
        exact ⟨by omega, h2⟩
  refine ⟨?_, ht.2⟩
  have k0 := hc 0 (by decide)
  have k1 := hc 1 (by decide)
  have k2 := hc 2 (by decide)
  have k3 := hc 3 (by decide)
  have k4 := ht.1
  obtain ⟨a0, a1, a2, a3, a4, rfl⟩ := row_five hr.1
  obtain ⟨b0, b1, b2, b3, b4, rfl⟩ := row_five hs.1
  change a0 = b0 at k0
  change a1 = b1 at k1
  change a2 = b2 at k2
  change a3 = b3 at k3
  change a4 = b4 at k4
  rw [k0, k1, k2, k3, k4]
def ptx : Tm → List UInt8
  | .bas b => if b then [98, 111, 111, 108] else [105, 110, 116]
  | .var v => 116 :: (dec v.toNat).data.toList
  | .fn a r b => 40 :: (ptx a ++ (32 :: 45 :: (pR r ++ (32 :: (ptx b ++ [41])))))
def Cok : Tm → Prop
  | .bas _ => True
  | .var v => 0 ≤ v ∧ v < 100000
  | .fn a r b => Cok a ∧ RwC r ∧ Cok b
theorem ptx_inj : ∀ {a b : Tm} {x y : List UInt8}, Cok a → Cok b → hd dg x → hd dg y → ptx a ++ x = ptx b ++ y → a = b ∧ x = y
  | .var v, .var w, x, y, ha, hb, hx, hy, h => by
    simp only [ptx, List.cons_append, List.cons.injEq, true_and] at h
    obtain ⟨e1, e2⟩ := span_inj (dec_dg _) (dec_dg _) hx hy h
    have h1 : 0 ≤ v ∧ v < 100000 := ha
    have h2 : 0 ≤ w ∧ w < 100000 := hb
    have := dec_inj (by omega) (by omega) e1
    have h3 : v = w := by omega
    exact ⟨by rw [h3], e2⟩
  | .fn a r b, .fn a' r' b', x, y, ha, hb, hx, hy, h => by
    simp only [ptx, List.cons_append, List.append_assoc, List.cons.injEq, true_and, List.singleton_append] at h
    obtain ⟨e1, h⟩ := ptx_inj ha.1 hb.1 (hd_cons rfl) (hd_cons rfl) h
    simp only [List.cons.injEq, true_and] at h
    obtain ⟨e2, h⟩ := pR_inj ha.2.1 hb.2.1 h
    simp only [List.cons.injEq, true_and] at h
    obtain ⟨e3, h⟩ := ptx_inj ha.2.2 hb.2.2 (hd_cons rfl) (hd_cons rfl) h
    simp only [List.cons.injEq, true_and] at h
    exact ⟨by rw [e1, e2, e3], h⟩
  | .bas true, .bas true, x, y, _, _, _, _, h => ⟨rfl, List.append_cancel_left h⟩
  | .bas false, .bas false, x, y, _, _, _, _, h => ⟨rfl, List.append_cancel_left h⟩
  | .bas true, .bas false, x, y, _, _, _, _, h => by simp [ptx] at h
  | .bas false, .bas true, x, y, _, _, _, _, h => by simp [ptx] at h
  | .bas true, .var _, x, y, _, _, _, _, h => by simp [ptx] at h
  | .bas false, .var _, x, y, _, _, _, _, h => by simp [ptx] at h
  | .bas true, .fn _ _ _, x, y, _, _, _, _, h => by simp [ptx] at h
  | .bas false, .fn _ _ _, x, y, _, _, _, _, h => by simp [ptx] at h
  | .var _, .bas true, x, y, _, _, _, _, h => by simp [ptx] at h
  | .var _, .bas false, x, y, _, _, _, _, h => by simp [ptx] at h
  | .var _, .fn _ _ _, x, y, _, _, _, _, h => by simp [ptx] at h
  | .fn _ _ _, .bas true, x, y, _, _, _, _, h => by simp [ptx] at h
  | .fn _ _ _, .bas false, x, y, _, _, _, _, h => by simp [ptx] at h
  | .fn _ _ _, .var _, x, y, _, _, _, _, h => by simp [ptx] at h
end Go.Proofs.YtlfillhffpiffaaDoor

namespace Go.Proofs.YtlfillhffpiffaaDoor
set_option linter.unusedSimpArgs false
set_option linter.unusedVariables false
set_option maxRecDepth 8000
set_option maxHeartbeats 1000000
open Go Go.Fx Go.Proofs
namespace FactsDMaG

end FactsDMaG
open FactsDMaG

def cnR (R r : List Int) : List Int := if 0 ≤ r.getD 4 0 then [r.getD 0 0, r.getD 1 0, r.getD 2 0, r.getD 3 0, (ixL R (r.getD 4 0) : Int)] else r
def can : Nms → Tm → Tm
  | _, .bas b => .bas b
  | N, .var v => .var (ixL N.1 v)
  | N, .fn a r b => .fn (can N a) (cnR (tx N a).2.2 r) (can ((tx N a).2.1, rnm (tx N a).2.2 r) b)
theorem pR_of (R r : List Int) : (rtx R r).data.toList = pR (cnR R r) := by
  unfold rtx cnR pR pRt
  by_cases h : 0 ≤ r.getD 4 0
  · rw [if_pos h, if_pos h, dap, dap, dap, dap, if_pos (show 0 ≤ ([r.getD 0 0, r.getD 1 0, r.getD 2 0, r.getD 3 0, (ixL R (r.getD 4 0) : Int)] : List Int).getD 4 0 from by show (0 : Int) ≤ (ixL R (r.getD 4 0) : Int); omega)]
    rw [rall_of (r := r) (s := [r.getD 0 0, r.getD 1 0, r.getD 2 0, r.getD 3 0, (ixL R (r.getD 4 0) : Int)]) (fun i hi => by
      match i, hi with
      | 0, _ => rfl
      | 1, _ => rfl
      | 2, _ => rfl
      | 3, _ => rfl) 4 (Nat.le_refl _)]
    show [60] ++ ((rall r 4).data.toList ++ [124, 101] ++ (dec (ixL R (r.getD 4 0))).data.toList) ++ [62] = _
    simp
  · rw [if_neg h, if_neg h, dap, dap, if_neg h]
    show [60] ++ (rall r 4).data.toList ++ [62] = _
    simp
theorem ptx_of : ∀ (t : Tm) (N : Nms), (tx N t).1.data.toList = ptx (can N t)
  | .bas true, N => rfl
  | .bas false, N => rfl
  | .var v, N => by
    simp only [tx, can, ptx]
    rw [dap]; rfl
  | .fn a r b, N => by
    simp only [tx, can, ptx]
    rw [dap, dap, dap, dap, dap, dap, ptx_of a, ptx_of b, pR_of]
    simp
theorem cnR_ok {R r : List Int} (h5 : r.length = 5) (hr : rowM r = true) (hl : R.length ≤ 90000) : RwC (cnR R r) := by
  have hc := row_cnt h5 hr
  have ht := rowM_t hr
  have hi := ixL_le R (r.getD 4 0)
  unfold cnR
  split
  · refine ⟨rfl, fun i hi => ?_, by show (-1 : Int) ≤ (ixL R (r.getD 4 0) : Int); omega, by show (ixL R (r.getD 4 0) : Int) < 100000; omega⟩
    match i, hi with
    | 0, _ => exact (hc 0 (by decide)).1
    | 1, _ => exact (hc 1 (by decide)).1
    | 2, _ => exact (hc 2 (by decide)).1
    | 3, _ => exact (hc 3 (by decide)).1
  · exact ⟨h5, fun i hi => (hc i hi).1, ht.1, by omega⟩
theorem can_ok : ∀ (t : Tm) (N : Nms), t.ok → N.1.length + N.2.length + t.sz ≤ 90000 → Cok (can N t)
  | .bas b, N, _, _ => trivial
  | .var v, N, _, h => by
    have := ixL_le N.1 v
    show (0 : Int) ≤ (ixL N.1 v : Int) ∧ (ixL N.1 v : Int) < 100000
    omega
  | .fn a r b, N, ho, h => by
    simp only [Tm.sz] at h
    have h1 := tx_len a N
    have h2 := rnm_len (tx N a).2.2 r
    exact ⟨can_ok a N ho.1 (by omega), cnR_ok ho.2.1 ho.2.2.1 (by omega), can_ok b _ ho.2.2.2 (by dsimp only; omega)⟩
theorem add_pre (T : List Int) (v : Int) : ∃ x, addL T v = T ++ x := by
  unfold addL; split
  · exact ⟨[], by simp⟩
  · exact ⟨[v], rfl⟩
def Pf (N F : Nms) : Prop := (∃ x, F.1 = N.1 ++ x) ∧ ∃ x, F.2 = N.2 ++ x
theorem Pf.refl (N : Nms) : Pf N N := ⟨⟨[], by simp⟩, ⟨[], by simp⟩⟩
theorem Pf.trans {N M F : Nms} (h : Pf N M) (k : Pf M F) : Pf N F := by
  obtain ⟨⟨x, e1⟩, y, e2⟩ := h
  obtain ⟨⟨z, e3⟩, w, e4⟩ := k
  exact ⟨⟨x ++ z, by rw [e3, e1, List.append_assoc]⟩, y ++ w, by rw [e4, e2, List.append_assoc]⟩
theorem rnm_pre (R r : List Int) : ∃ x, rnm R r = R ++ x := by
  unfold rnm; split
  · exact add_pre _ _
  · exact ⟨[], by simp⟩
theorem tx_pf : ∀ (t : Tm) (N : Nms), Pf N (tx N t).2
  | .bas b, N => Pf.refl N
  | .var v, N => ⟨add_pre _ _, [], by simp [tx]⟩
  | .fn a r b, N => by
    have h1 := tx_pf a N
    have h2 : Pf (tx N a).2 ((tx N a).2.1, rnm (tx N a).2.2 r) := ⟨⟨[], by simp⟩, rnm_pre _ _⟩
    have h3 := tx_pf b ((tx N a).2.1, rnm (tx N a).2.2 r)
    exact (h1.trans h2).trans h3
theorem ix_in : ∀ {T : List Int} {v : Int} (x : List Int), v ∈ T → ixL (T ++ x) v = ixL T v ∧ (T ++ x).getD (ixL T v) 0 = v
  | [], v, x, h => by cases h
  | u :: T, v, x, h => by
    simp only [List.cons_append, ixL]
    by_cases e : u = v
    · rw [if_pos e, if_pos e]; exact ⟨rfl, by simpa using e⟩
    · rw [if_neg e, if_neg e]
      obtain ⟨h1, h2⟩ := ix_in x ((List.mem_cons.1 h).resolve_left (fun k => e k.symm))
      exact ⟨by rw [h1], by simpa using h2⟩
theorem ix_out : ∀ {T : List Int} {v : Int} (x : List Int), v ∉ T → ixL (T ++ v :: x) v = ixL T v ∧ (T ++ v :: x).getD (ixL T v) 0 = v
  | [], v, x, h => by simp [ixL]
  | u :: T, v, x, h => by
    simp only [List.mem_cons, not_or] at h
    simp only [List.cons_append, ixL]
    rw [if_neg (fun k => h.1 k.symm), if_neg (fun k => h.1 k.symm)]
    obtain ⟨h1, h2⟩ := ix_out x h.2
    exact ⟨by rw [h1], by simpa using h2⟩
theorem inL_memP : ∀ {l : List Int} {v : Int}, inL l v = true ↔ v ∈ l
  | [], v => by simp [inL, ixL]
  | x :: l, v => by
    have ih := inL_memP (l := l) (v := v)
    simp only [inL, decide_eq_true_eq] at ih ⊢
    simp only [ixL, List.mem_cons, List.length_cons]
    split
    · rename_i h; simp [h]
    · rename_i h
      rw [← ih]
      constructor
      · intro h'; right; omega
      · rintro (h' | h')
        · exact (h h'.symm).elim
        · omega
theorem ix_addP {T F : List Int} {v : Int} (h : ∃ x, F = addL T v ++ x) : ixL F v = ixL T v ∧ F.getD (ixL T v) 0 = v := by
  obtain ⟨x, rfl⟩ := h
  unfold addL
  by_cases hi : inL T v = true
  · rw [if_pos hi]; exact ix_in x (inL_memP.1 hi)
  · rw [if_neg hi, List.append_assoc]
    exact ix_out x (fun k => hi (inL_memP.2 k))
def toNm (F : Nms) : Asg := ⟨fun i => .var (F.1.getD i.toNat 0), fun i => [0, 0, 0, 0, F.2.getD i.toNat 0]⟩
def ofNm (F : Nms) : Asg := ⟨fun v => .var (ixL F.1 v), fun v => [0, 0, 0, 0, (ixL F.2 v : Int)]⟩
theorem cn_back {R F r : List Int} (X : List Int) (h5 : r.length = 5) (h : ∃ x, F = rnm R r ++ x) : (toNm (X, F)).row (cnR R r) = r ∧ (ofNm (X, F)).row r = cnR R r := by
  obtain ⟨a, b, c, d, t, rfl⟩ := row_five h5
  by_cases ht : 0 ≤ t
  · have h2 := ix_addP (T := R) (F := F) (v := t) (by obtain ⟨x, rfl⟩ := h; exact ⟨x, by unfold rnm; rw [if_pos (show 0 ≤ ([a, b, c, d, t] : List Int).getD 4 0 from ht)]; rfl⟩)
    have e1 : cnR R [a, b, c, d, t] = [a, b, c, d, (ixL R t : Int)] := by unfold cnR; rw [if_pos (show 0 ≤ ([a, b, c, d, t] : List Int).getD 4 0 from ht)]; rfl
    rw [e1]
    refine ⟨?_, ?_⟩
    · rw [Asg.row_yes (r := [a, b, c, d, (ixL R t : Int)]) (show ¬ (ixL R t : Int) < 0 by omega)]
      show adR [a, b, c, d, (ixL R t : Int)] [0, 0, 0, 0, F.getD (ixL R t : Int).toNat 0] = _
      rw [Int.toNat_natCast, h2.2, adR_five]; simp
    · rw [Asg.row_yes (r := [a, b, c, d, t]) (show ¬ t < 0 by omega)]
      show adR [a, b, c, d, t] [0, 0, 0, 0, (ixL F t : Int)] = _
      rw [h2.1, adR_five]; simp
  · have e1 : cnR R [a, b, c, d, t] = [a, b, c, d, t] := by unfold cnR; rw [if_neg (show ¬ 0 ≤ ([a, b, c, d, t] : List Int).getD 4 0 from ht)]
    rw [e1, Asg.row_no (r := [a, b, c, d, t]) (show t < 0 by omega), Asg.row_no (r := [a, b, c, d, t]) (show t < 0 by omega)]
    exact ⟨rfl, rfl⟩
theorem can_back : ∀ (t : Tm) (N F : Nms), t.ok → Pf (tx N t).2 F → (toNm F).tm (can N t) = t ∧ (ofNm F).tm t = can N t
  | .bas b, N, F, _, _ => ⟨rfl, rfl⟩
  | .var v, N, F, _, h => by
    have h2 := ix_addP (T := N.1) (F := F.1) (v := v) h.1
    constructor
    · show Tm.var (F.1.getD (ixL N.1 v : Int).toNat 0) = _
      rw [Int.toNat_natCast, h2.2]
    · show Tm.var (ixL F.1 v : Int) = Tm.var (ixL N.1 v : Int)
      rw [h2.1]
  | .fn a r b, N, F, ho, h => by
    have h3 : Pf (tx ((tx N a).2.1, rnm (tx N a).2.2 r) b).2 F := h
    have h2 : Pf ((tx N a).2.1, rnm (tx N a).2.2 r) F := (tx_pf b _).trans h3
    have h1 : Pf (tx N a).2 F := Pf.trans ⟨⟨[], by simp⟩, rnm_pre _ _⟩ h2
    obtain ⟨a1, a2⟩ := can_back a N F ho.1 h1
    obtain ⟨b1, b2⟩ := can_back b _ F ho.2.2.2 h3
    obtain ⟨r1, r2⟩ := cn_back F.1 ho.2.1 h2.2
    constructor
    · show Tm.fn ((toNm F).tm (can N a)) ((toNm F).row (cnR (tx N a).2.2 r)) ((toNm F).tm (can _ b)) = _
      rw [a1, b1, show (toNm F).row (cnR (tx N a).2.2 r) = r from r1]
    · show Tm.fn ((ofNm F).tm a) ((ofNm F).row r) ((ofNm F).tm b) = Tm.fn _ _ _
      rw [a2, b2, show (ofNm F).row r = cnR (tx N a).2.2 r from r2]
theorem ofNm_ok (F : Nms) : (ofNm F).Ok :=
  ⟨fun v _ => rfl, fun v _ i hi => by
    match i, hi with
    | 0, _ => exact Int.le_refl 0
    | 1, _ => exact Int.le_refl 0
    | 2, _ => exact Int.le_refl 0
    | 3, _ => exact Int.le_refl 0, fun v hv => by show (-1 : Int) ≤ (ixL F.2 v : Int); omega⟩
theorem getD_nn {l : List Int} (h : ∀ x ∈ l, 0 ≤ x) (i : Nat) : 0 ≤ l.getD i 0 := by
  rw [List.getD_eq_getElem?_getD]
  cases hx : l[i]? with
  | none => exact Int.le_refl 0
  | some x => exact h x (List.mem_of_getElem? hx)
theorem toNm_ok {F : Nms} (h : ∀ x ∈ F.2, 0 ≤ x) : (toNm F).Ok :=
  ⟨fun v _ => rfl, fun v _ i hi => by
    match i, hi with
    | 0, _ => exact Int.le_refl 0
    | 1, _ => exact Int.le_refl 0
    | 2, _ => exact Int.le_refl 0
    | 3, _ => exact Int.le_refl 0, fun v hv => by have := getD_nn h v.toNat; show (-1 : Int) ≤ F.2.getD v.toNat 0; omega⟩
theorem tx_nn : ∀ (t : Tm) (N : Nms), (∀ x ∈ N.2, 0 ≤ x) → ∀ x ∈ (tx N t).2.2, 0 ≤ x
  | .bas b, N, h => h
  | .var v, N, h => h
  | .fn a r b, N, h => by
    refine tx_nn b ((tx N a).2.1, rnm (tx N a).2.2 r) (fun x hx => ?_)
    have h1 := tx_nn a N h
    change x ∈ rnm (tx N a).2.2 r at hx
    unfold rnm at hx
    split at hx
    · rcases mem_add hx with hx | rfl
      · exact h1 x hx
      · assumption
    · exact h1 x hx
theorem text_asg {g s : Tm} (hg : g.ok) (hs : s.ok) (hgz : g.sz ≤ 256) (hsz : s.sz ≤ 256) (h : (tx ([], []) g).1 = (tx ([], []) s).1) : ∃ θ : Asg, θ.Ok ∧ θ.tm g = s := by
  have h1 : ptx (can ([], []) g) ++ [] = ptx (can ([], []) s) ++ [] := by rw [List.append_nil, List.append_nil, ← ptx_of, ← ptx_of, h]
  have h2 := (ptx_inj (can_ok g _ hg (by simp only [List.length_nil]; omega)) (can_ok s _ hs (by simp only [List.length_nil]; omega)) (fun _ _ k => by cases k) (fun _ _ k => by cases k) h1).1
  obtain ⟨_, e1⟩ := can_back g ([], []) _ hg (Pf.refl _)
  obtain ⟨e2, _⟩ := can_back s ([], []) _ hs (Pf.refl _)
  refine ⟨(toNm (tx ([], []) s).2).comp (ofNm (tx ([], []) g).2), comp_ok (toNm_ok (tx_nn s _ (fun x hx => by cases hx))) (ofNm_ok _), ?_⟩
  rw [tm_comp, e1, h2, e2]
theorem mb_all {L K : List (List Int)} (hL : Nine L) (hK : Nine K) :
    ∃ (a b e : Bool) (c : Int), insV L K = (a, c) ∧ insV K L = (b, c) ∧ eqV L K = (e, c) ∧ (c ≠ 0 → c = 1100 ∧ a = false ∧ b = false ∧ e = false) ∧ (c = 0 → (a && b) = e ∧ insV L L = (true, 0)) := by
  cases hm : typM L with
  | false =>
    refine ⟨false, false, false, 1100, by unfold insV; rw [hm]; rfl, by unfold insV; rw [hm, Bool.and_false]; rfl, by unfold eqV; rw [hm]; rfl, fun _ => ⟨rfl, rfl, rfl, rfl⟩, fun h => by cases h⟩
  | true =>
    cases hk : typM K with
    | false =>
      refine ⟨false, false, false, 1100, by unfold insV; rw [hk, Bool.and_false]; rfl, by unfold insV; rw [hk]; rfl, by unfold eqV; rw [hk, Bool.and_false]; rfl, fun _ => ⟨rfl, rfl, rfl, rfl⟩, fun h => by cases h⟩
    | true =>
      obtain ⟨g, hg, rfl, hgz⟩ := typ_dec hL hm
      obtain ⟨s, hs, rfl, hsz⟩ := typ_dec hK hk
      refine ⟨_, _, _, 0, insV_enc hg hgz hs hsz, insV_enc hs hsz hg hgz, eqV_yes hm hk, fun h => absurd rfl h, fun _ => ⟨?_, ?_⟩⟩
      · rw [txV_enc hg hgz, txV_enc hs hsz]
        dsimp only
        cases h1 : (inst [] g s).isSome && (inst [] s g).isSome with
        | true =>
          rw [Bool.and_eq_true] at h1
          obtain ⟨θ, k1, k2⟩ := inst_asg hg hs hsz h1.1
          obtain ⟨θ', k3, k4⟩ := inst_asg hs hg hgz h1.2
          rw [tx_one k1 k3 hg k2 k4]
          exact (beq_self_eq_true _).symm
        | false =>
          symm
          rw [beq_eq_false_iff_ne]
          intro he
          rw [ByteArray.toList_eq, ByteArray.toList_eq] at he
          have he2 : (tx ([], []) g).1 = (tx ([], []) s).1 := ByteArray.ext (Array.toList_inj.1 he)
          obtain ⟨θ, k1, k2⟩ := text_asg hg hs hgz hsz he2
          obtain ⟨θ', k3, k4⟩ := text_asg hs hg hsz hgz he2.symm
          rw [asg_inst hg hs k1 k2, asg_inst hs hg k3 k4] at h1
          cases h1
      · rw [insV_enc hg hgz hg hgz]
        obtain ⟨θ, k1, k2⟩ := text_asg hg hg hgz hgz rfl
        rw [asg_inst hg hg k1 k2]
end Go.Proofs.YtlfillhffpiffaaDoor

namespace Go.Proofs.YtlfillhffpiffaaDoor
set_option linter.unusedSimpArgs false
set_option linter.unusedVariables false
set_option maxRecDepth 8000
set_option maxHeartbeats 1000000
open Go Go.Fx Go.Proofs
namespace FactsDMaH
theorem ag55 : ag Tryd.prog 55 = some 1 := by kernel_rfl
end FactsDMaH
open FactsDMaH

theorem matchBoth_law {A1 A2 : Option Addr} {c1 c2 : Nat} {L K : List (List Int)} (hL : Nine L) (hK : Nine K) {H : Heap} (hT : Tens H) (hS1 : SlT H Is 9 (.slice A1 L.length c1) L) (hS2 : SlT H Is 9 (.slice A2 K.length c2) K) (hl : L.length ≤ 9223372036854775807) (hk : K.length ≤ 9223372036854775807) :
    Ret Tryd.prog 10 [Ty A1 L.length c1, Ty A2 K.length c2] H (fun v H' => v = .bool true ∧ Ext H H') := by
  obtain ⟨a, b, e, c, h1, h2, h3, h4, h5⟩ := mb_all hL hK
  refine Ret.of_at (N := 91) Tryd.call10 Tryd.func10 rfl rfl rfl ?_
  have hE := Ext.refl H
  refine At.region rfl rfl ?_
  refine Reg.op rfl rfl rfl rfl (Does.box rfl rfl) ?_
  rintro _ H0_0 ⟨rfl, hn0_0⟩
  have z0_0 := hn0_0.size
  replace hE := hE.ext hn0_0.ext
  have o0_0 := hn0_0.own
  refine Reg.op rfl rfl rfl rfl (Does.box rfl rfl) ?_
  rintro _ H0_1 ⟨rfl, hn0_1⟩
  have z0_1 := hn0_1.size
  replace hE := hE.ext hn0_1.ext
  replace o0_0 := o0_0.ext hn0_1.ext
  have o0_1 := hn0_1.own
  refine Reg.pur rfl rfl rfl rfl (Pur.asg rfl) ?_
  refine Reg.nil ?_
  refine At.region rfl rfl ?_
  refine Reg.op rfl rfl rfl rfl (Does.call rfl (awake11_ok (hT.ext hE))) ?_
  rintro _ H1_0 ⟨rfl, hE1_0⟩
  have z1_0 := hE1_0.lt
  replace hE := hE.ext hE1_0
  replace o0_0 := o0_0.ext hE1_0
  replace o0_1 := o0_1.ext hE1_0
  refine Reg.pur rfl rfl rfl rfl (Pur.not rfl) ?_
  refine Reg.nil ?_
  refine At.condF rfl rfl rfl ?_
  refine At.region rfl rfl ?_
  refine Reg.lod rfl rfl rfl rfl (Lod.ldn ag55 rfl o0_0.blk (whole rfl) rfl) ?_
  refine Reg.lod rfl rfl rfl rfl (Lod.ldn ag55 rfl o0_1.blk (whole rfl) rfl) ?_
  refine Reg.op rfl rfl rfl rfl (Does.call rfl (instG_ok hL hK (hS1.ext hE) (hS2.ext hE) hl hk)) ?_
  rintro _ H3_2 ⟨rfl, hE3_2⟩
  have z3_2 := hE3_2.lt
  replace hE := hE.ext hE3_2
  replace o0_0 := o0_0.ext hE3_2
  replace o0_1 := o0_1.ext hE3_2
  rw [h1]
  refine Reg.pur rfl rfl rfl rfl (Pur.mv rfl) ?_
  refine Reg.pur rfl rfl rfl rfl (Pur.ext rfl rfl) ?_
  refine Reg.pur rfl rfl rfl rfl (Pur.ext rfl rfl) ?_
  refine Reg.pur rfl rfl rfl rfl (Pur.asg rfl) ?_
  refine Reg.pur rfl rfl rfl rfl (Pur.asg rfl) ?_
  refine Reg.nil ?_
  refine At.region rfl rfl ?_
  refine Reg.lod rfl rfl rfl rfl (Lod.ldn ag55 rfl o0_1.blk (whole rfl) rfl) ?_
  refine Reg.lod rfl rfl rfl rfl (Lod.ldn ag55 rfl o0_0.blk (whole rfl) rfl) ?_
  refine Reg.op rfl rfl rfl rfl (Does.call rfl (instG_ok hK hL (hS2.ext hE) (hS1.ext hE) hk hl)) ?_
  rintro _ H4_2 ⟨rfl, hE4_2⟩
  have z4_2 := hE4_2.lt
  replace hE := hE.ext hE4_2
  replace o0_0 := o0_0.ext hE4_2
  replace o0_1 := o0_1.ext hE4_2
  rw [h2]
  refine Reg.pur rfl rfl rfl rfl (Pur.mv rfl) ?_
  refine Reg.pur rfl rfl rfl rfl (Pur.ext rfl rfl) ?_
  refine Reg.pur rfl rfl rfl rfl (Pur.ext rfl rfl) ?_
  refine Reg.pur rfl rfl rfl rfl (Pur.asg rfl) ?_
  refine Reg.pur rfl rfl rfl rfl (Pur.asg rfl) ?_
  refine Reg.nil ?_
  refine At.region rfl rfl ?_
  refine Reg.lod rfl rfl rfl rfl (Lod.ldn ag55 rfl o0_0.blk (whole rfl) rfl) ?_
  refine Reg.lod rfl rfl rfl rfl (Lod.ldn ag55 rfl o0_1.blk (whole rfl) rfl) ?_
  refine Reg.op rfl rfl rfl rfl (Does.call rfl (equal_ok hL hK (hT.ext hE) (hS1.ext hE) (hS2.ext hE) hl hk)) ?_
  rintro _ H5_2 ⟨rfl, hE5_2⟩
  have z5_2 := hE5_2.lt
  replace hE := hE.ext hE5_2
  replace o0_0 := o0_0.ext hE5_2
  replace o0_1 := o0_1.ext hE5_2
  rw [h3]
  refine Reg.pur rfl rfl rfl rfl (Pur.mv rfl) ?_
  refine Reg.pur rfl rfl rfl rfl (Pur.ext rfl rfl) ?_
  refine Reg.pur rfl rfl rfl rfl (Pur.ext rfl rfl) ?_
  refine Reg.pur rfl rfl rfl rfl (Pur.asg rfl) ?_
  refine Reg.pur rfl rfl rfl rfl (Pur.asg rfl) ?_
  refine Reg.nil ?_
  refine At.region rfl rfl ?_
  refine Reg.lod rfl rfl rfl rfl (Lod.ldn ag55 rfl o0_0.blk (whole rfl) rfl) ?_
  refine Reg.lod rfl rfl rfl rfl (Lod.ldn ag55 rfl o0_0.blk (whole rfl) rfl) ?_
  refine Reg.op rfl rfl rfl rfl (Does.call rfl (instG_ok hL hL (hS1.ext hE) (hS1.ext hE) hl hl)) ?_
  rintro _ H6_2 ⟨rfl, hE6_2⟩
  have z6_2 := hE6_2.lt
  replace hE := hE.ext hE6_2
  replace o0_0 := o0_0.ext hE6_2
  replace o0_1 := o0_1.ext hE6_2
  refine Reg.pur rfl rfl rfl rfl (Pur.mv rfl) ?_
  refine Reg.pur rfl rfl rfl rfl (Pur.ext rfl rfl) ?_
  refine Reg.pur rfl rfl rfl rfl (Pur.ext rfl rfl) ?_
  refine Reg.pur rfl rfl rfl rfl (Pur.asg rfl) ?_
  refine Reg.pur rfl rfl rfl rfl (Pur.asg rfl) ?_
  refine Reg.nil ?_
  refine At.region rfl rfl ?_
  refine Reg.pur rfl rfl rfl rfl (Pur.mv rfl) ?_
  refine Reg.op rfl rfl rfl rfl (Does.call rfl (numE_ok _ _)) ?_
  rintro _ H6_2 ⟨rfl, rfl⟩
  refine Reg.pur rfl rfl rfl rfl (Pur.neq rfl rfl) ?_
  refine Reg.nil ?_
  refine At.cond rfl rfl (fun q41 => ?_) (fun q41 => ?_)
  · first | (simp only [decide_eq_true_eq, decide_eq_false_iff_not, Bool.not_eq_true', Bool.not_eq_false', ne_eq, Decidable.not_not, Bool.not_eq_true, Bool.not_eq_false] at q41) | (dsimp only at q41) | skip
    obtain ⟨rfl, rfl, rfl, rfl⟩ := h4 q41
    refine At.region rfl rfl ?_
    refine Reg.pur rfl rfl rfl rfl (Pur.mv rfl) ?_
    refine Reg.op rfl rfl rfl rfl (Does.call rfl (numE_ok _ _)) ?_
    rintro _ H6_2 ⟨rfl, rfl⟩
    refine Reg.pur rfl rfl rfl rfl (Pur.eql rfl rfl) ?_
    refine Reg.pur rfl rfl rfl rfl (Pur.mv rfl) ?_
    refine Reg.known (b' := true) 45 rfl rfl ?_
    refine Reg.gpur rfl rfl rfl rfl rfl rfl (Pur.mv rfl) ?_
    refine Reg.gop rfl rfl rfl rfl rfl rfl (Does.call rfl (numE_ok _ _)) ?_
    rintro _ H6_2 ⟨rfl, rfl⟩
    refine Reg.gpur rfl rfl rfl rfl rfl rfl (Pur.eql rfl rfl) ?_
    refine Reg.pur rfl rfl rfl rfl (Pur.pickT rfl rfl) ?_
    refine Reg.pur rfl rfl rfl rfl (Pur.mv rfl) ?_
    refine Reg.known (b' := true) 50 rfl rfl ?_
    refine Reg.gpur rfl rfl rfl rfl rfl rfl (Pur.mv rfl) ?_
    refine Reg.gop rfl rfl rfl rfl rfl rfl (Does.call rfl (numE_ok _ _)) ?_
    rintro _ H6_2 ⟨rfl, rfl⟩
    refine Reg.gpur rfl rfl rfl rfl rfl rfl (Pur.eql rfl rfl) ?_
    refine Reg.pur rfl rfl rfl rfl (Pur.pickT rfl rfl) ?_
    refine Reg.pur rfl rfl rfl rfl (Pur.mv rfl) ?_
    refine Reg.known (b' := true) 55 rfl rfl ?_
    refine Reg.gpur rfl rfl rfl rfl rfl rfl (Pur.mv rfl) ?_
    refine Reg.gpur rfl rfl rfl rfl rfl rfl (Pur.not rfl) ?_
    refine Reg.pur rfl rfl rfl rfl (Pur.pickT rfl rfl) ?_
    refine Reg.pur rfl rfl rfl rfl (Pur.mv rfl) ?_
    refine Reg.known (b' := true) 59 rfl rfl ?_
    refine Reg.gpur rfl rfl rfl rfl rfl rfl (Pur.mv rfl) ?_
    refine Reg.gpur rfl rfl rfl rfl rfl rfl (Pur.not rfl) ?_
    refine Reg.pur rfl rfl rfl rfl (Pur.pickT rfl rfl) ?_
    refine Reg.pur rfl rfl rfl rfl (Pur.mv rfl) ?_
    refine Reg.known (b' := true) 63 rfl rfl ?_
    refine Reg.gpur rfl rfl rfl rfl rfl rfl (Pur.mv rfl) ?_
    refine Reg.gpur rfl rfl rfl rfl rfl rfl (Pur.not rfl) ?_
    refine Reg.pur rfl rfl rfl rfl (Pur.pickT rfl rfl) ?_
    refine Reg.pur rfl rfl rfl rfl (Pur.asg rfl) ?_
    refine Reg.nil ?_
    refine At.ret rfl Tryd.func10 rfl ?_
    exact ⟨(by first | rfl | simp), hE⟩
  first | (simp only [decide_eq_true_eq, decide_eq_false_iff_not, Bool.not_eq_true', Bool.not_eq_false', ne_eq, Decidable.not_not, Bool.not_eq_true, Bool.not_eq_false] at q41) | (dsimp only at q41) | skip
  obtain rfl : c = 0 := by omega
  obtain ⟨h6, h7⟩ := h5 rfl
  rw [h7]
  subst h6
  refine At.region rfl rfl ?_
  refine Reg.pur rfl rfl rfl rfl (Pur.mv rfl) ?_
  refine Reg.op rfl rfl rfl rfl (Does.call rfl (numE_ok _ _)) ?_
  rintro _ H6_2 ⟨rfl, rfl⟩
  refine Reg.pur rfl rfl rfl rfl (Pur.eql rfl rfl) ?_
  refine Reg.pur rfl rfl rfl rfl (Pur.mv rfl) ?_
  refine Reg.known (b' := true) 70 rfl rfl ?_
  refine Reg.gpur rfl rfl rfl rfl rfl rfl (Pur.mv rfl) ?_
  refine Reg.gop rfl rfl rfl rfl rfl rfl (Does.call rfl (numE_ok _ _)) ?_
  rintro _ H6_2 ⟨rfl, rfl⟩
  refine Reg.gpur rfl rfl rfl rfl rfl rfl (Pur.eql rfl rfl) ?_
  refine Reg.pur rfl rfl rfl rfl (Pur.pickT rfl rfl) ?_
  refine Reg.pur rfl rfl rfl rfl (Pur.mv rfl) ?_
  refine Reg.known (b' := true) 75 rfl rfl ?_
  refine Reg.gpur rfl rfl rfl rfl rfl rfl (Pur.mv rfl) ?_
  refine Reg.gpur rfl rfl rfl rfl rfl rfl (Pur.mv rfl) ?_
  refine Reg.case 77 rfl (fun q77 => ?_) (fun q77 => ?_)
  · first | (simp only [decide_eq_true_eq, decide_eq_false_iff_not, Bool.not_eq_true', Bool.not_eq_false', ne_eq, Decidable.not_not, Bool.not_eq_true, Bool.not_eq_false] at q77) | (dsimp only at q77) | skip
    refine Reg.gpur rfl rfl rfl rfl rfl rfl (Pur.mv rfl) ?_
    refine Reg.gpur rfl rfl rfl rfl rfl rfl (Pur.pickT rfl rfl) ?_
    refine Reg.gpur rfl rfl rfl rfl rfl rfl (Pur.mv rfl) ?_
    refine Reg.gpur rfl rfl rfl rfl rfl rfl (Pur.eqB Tryd.underlying4 rfl rfl) ?_
    refine Reg.pur rfl rfl rfl rfl (Pur.pickT rfl rfl) ?_
    refine Reg.pur rfl rfl rfl rfl (Pur.mv rfl) ?_
    refine Reg.known (b' := true) 83 rfl (by cases a <;> cases b <;> first | rfl | (cases q77; done) | (simp at q77; done)) ?_
    refine Reg.gpur rfl rfl rfl rfl rfl rfl (Pur.mv rfl) ?_
    refine Reg.pur rfl rfl rfl rfl (Pur.pickT rfl rfl) ?_
    refine Reg.pur rfl rfl rfl rfl (Pur.mv rfl) ?_
    refine Reg.known (b' := true) 86 rfl rfl ?_
    refine Reg.gpur rfl rfl rfl rfl rfl rfl (Pur.mv rfl) ?_
    refine Reg.gop rfl rfl rfl rfl rfl rfl (Does.call rfl (numE_ok _ _)) ?_
    rintro _ H6_2 ⟨rfl, rfl⟩
    refine Reg.gpur rfl rfl rfl rfl rfl rfl (Pur.eql rfl rfl) ?_
    refine Reg.pur rfl rfl rfl rfl (Pur.pickT rfl rfl) ?_
    refine Reg.pur rfl rfl rfl rfl (Pur.asg rfl) ?_
    refine Reg.nil ?_
    refine At.ret rfl Tryd.func10 rfl ?_
    exact ⟨(by first | rfl | simp), hE⟩
  first | (simp only [decide_eq_true_eq, decide_eq_false_iff_not, Bool.not_eq_true', Bool.not_eq_false', ne_eq, Decidable.not_not, Bool.not_eq_true, Bool.not_eq_false] at q77) | (dsimp only at q77) | skip
  refine Reg.skip rfl rfl rfl rfl rfl rfl rfl ?_
  refine Reg.gpur rfl rfl rfl rfl rfl rfl (Pur.pickF rfl rfl) ?_
  refine Reg.gpur rfl rfl rfl rfl rfl rfl (Pur.mv rfl) ?_
  refine Reg.gpur rfl rfl rfl rfl rfl rfl (Pur.eqB Tryd.underlying4 rfl rfl) ?_
  refine Reg.pur rfl rfl rfl rfl (Pur.pickT rfl rfl) ?_
  refine Reg.pur rfl rfl rfl rfl (Pur.mv rfl) ?_
  refine Reg.known (b' := true) 83 rfl (by cases a <;> cases b <;> first | rfl | (cases q77; done) | (simp at q77; done)) ?_
  refine Reg.gpur rfl rfl rfl rfl rfl rfl (Pur.mv rfl) ?_
  refine Reg.pur rfl rfl rfl rfl (Pur.pickT rfl rfl) ?_
  refine Reg.pur rfl rfl rfl rfl (Pur.mv rfl) ?_
  refine Reg.known (b' := true) 86 rfl rfl ?_
  refine Reg.gpur rfl rfl rfl rfl rfl rfl (Pur.mv rfl) ?_
  refine Reg.gop rfl rfl rfl rfl rfl rfl (Does.call rfl (numE_ok _ _)) ?_
  rintro _ H6_2 ⟨rfl, rfl⟩
  refine Reg.gpur rfl rfl rfl rfl rfl rfl (Pur.eql rfl rfl) ?_
  refine Reg.pur rfl rfl rfl rfl (Pur.pickT rfl rfl) ?_
  refine Reg.pur rfl rfl rfl rfl (Pur.asg rfl) ?_
  refine Reg.nil ?_
  refine At.ret rfl Tryd.func10 rfl ?_
  exact ⟨(by first | rfl | simp), hE⟩
end Go.Proofs.YtlfillhffpiffaaDoor

namespace Go.Proofs.YtlfillhffpiffaaDoor
set_option linter.unusedSimpArgs false
set_option linter.unusedVariables false
set_option maxRecDepth 100000
open Go Go.Fx Go.Proofs

theorem own : ownKnob Tryd.prog.godebug = none := by kernel_rfl
theorem laidOut : laidOutB Tryd.prog = true := by kernel_rfl
def litsOf : DataW Unit → Array Value
  | .agg l => (l.map fun | .lit (.int k n) => Value.int k n | _ => undef).toArray
  | _ => #[]
def put (a : Array Value) : Obj → Obj
  | .cells _ t fr => .cells a t fr
  | o => o
noncomputable def laidWorld (os : Os) : World :=
  let w0 := World.holding Tryd.prog os ⟨#[], #[], []⟩
  { w0 with heap := ((w0.heap.modify 0 (put (litsOf Rows.laid_internal_strconv_uint64pow10))).modify 2 (put (litsOf Rows.laid_math_bits_deBruijn32tab))).modify 3 (put (litsOf Rows.laid_math_bits_deBruijn64tab)) }
theorem laid_met (os : Os) (args : Array Value) : laidMet Tryd.prog Rows.rowsRow.laid ((laidWorld os).forCall (fun _ _ => 0) ⟨#[], args, []⟩).memory :=
  laidMet_of_run' 8 (by kernel_rfl) (by kernel_rfl)
theorem tab_eq : (Rows.laid_internal_strconv_uint64pow10 : DataW Unit) = Lib.tabData .u64 Lib.pow10Tab := by kernel_rfl
theorem tens_of {W : World} (h : laidMet Tryd.prog Rows.rowsRow.laid W) : Tens W.heap := by
  obtain ⟨g, t, cs, fuel, p, hg, hty, hvar, hd⟩ := Lib.laidMet.reads h (.tail _ (.tail _ (.head _)))
  obtain rfl := Option.some.inj ((show Tryd.prog.globalNamed _ = some 0 by kernel_rfl).symm.trans hg)
  obtain rfl := Option.some.inj ((show (Tryd.prog.globals[0]?).map (·.type) = some 172 by kernel_rfl).symm.trans hty)
  rw [tab_eq] at hd
  have hcs := Lib.cells_of_tab Tryd.underlying172 Tryd.underlying93 (by kernel_rfl) (by kernel_rfl) hd
  unfold World.var? at hvar
  rw [hg] at hvar
  simp only [Option.bind_some] at hvar
  cases hx : W.heap[0]? with
  | none => rw [hx] at hvar; cases hvar
  | some ob =>
    rw [hx] at hvar
    cases ob with
    | cells c T fr =>
      simp only [Option.some.injEq] at hvar
      subst hvar
      exact ⟨T, fr, by rw [hx, tens, ← hcs]⟩
    | _ => cases hvar
end Go.Proofs.YtlfillhffpiffaaDoor

