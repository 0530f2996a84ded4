/-
  Package target: may.
-/
import Derived.Test.YtjhkmebmbopfoaaTgtA
import Derived.Test.YtjhkmebmbopfoaaFxF
namespace Go.Proofs.Ytjhkmebmbopfoaa
set_option linter.unusedSimpArgs false
set_option linter.unusedVariables false
set_option maxRecDepth 8000
open Go Go.Fx Go.Proofs
namespace FactsTgtB
theorem ag37 : ag Try.prog 37 = some 9 := by kernel_rfl
theorem eqt37 : eqT Try.prog 37 = some [.int .i64, .int .i64, .int .i64, .int .i64, .int .i64, .int .i64, .int .i64, .int .i64, .int .i64] := by kernel_rfl
theorem es80 : esz Try.prog 80 = some 1 := by kernel_rfl
theorem fo37_0 : foff Try.prog 37 0 = some 0 := by kernel_rfl
theorem fo37_4 : foff Try.prog 37 4 = some 4 := by kernel_rfl
theorem isl80 : isSl Try.prog 80 = true := by kernel_rfl
theorem pl37 : places Try.prog 37 = some [(0, 1), (1, 1), (2, 1), (3, 1), (4, 1), (5, 1), (6, 1), (7, 1), (8, 1)] := by kernel_rfl
theorem sc3 : sc Try.prog 3 = true := by kernel_rfl
theorem sc83 : sc Try.prog 83 = true := by kernel_rfl
theorem zc37 : zc Try.prog 37 = some [.int .i64 0, .int .i64 0, .int .i64 0, .int .i64 0, .int .i64 0, .int .i64 0, .int .i64 0, .int .i64 0, .int .i64 0] := by kernel_rfl
end FactsTgtB
open FactsTgtB

abbrev Is (xs : List Int) : List Value := xs.map (Value.int .i64)
def zeroT (os : List Nat) (xs : List Int) : List Int := os.foldl (fun xs o => xs.set o 0) xs
def namesGo : List Nat → List Int → Option (List Int)
  | [], xs => some xs
  | o :: os, xs => if xs.getD o 0 < 0 ∨ 8192 ≤ xs.getD o 0 then none else namesGo os (xs.set o 0)
def mayT (xs : List Int) : Bool :=
  let k := xs.getD 0 0
  if k < 0 ∨ 12 < k then false else
  let m := mostT k
  if 0 ≤ m ∧ (xs.getD 4 0 < 0 ∨ m < xs.getD 4 0) then false else
  match namesGo (nameOffs k) (if 0 ≤ m then xs.set 4 0 else xs) with
  | none => false
  | some xs2 => decide (zeroT (kidOffs k) xs2 = k :: List.replicate 8 0)

theorem at_Is {xs : List Int} {o : Nat} (h : o < xs.length) : (Is xs)[o]? = some (I (xs.getD o 0)) := by
  simp [Is, List.getElem?_eq_getElem h]

theorem names_ok0 {b : Nat} {k : Int} {c : List Value} {H : Heap} (hb : Blk H b c) (hk : c[0]? = some (I k)) :
    Ret Try.prog 38 [ptr b 0] H (fun v H' => PtrS H H' v b (nameOffs k)) := by
  simpa using names_ok (o := 0) hb hk
theorem kids_ok0 {b : Nat} {k : Int} {c : List Value} {H : Heap} (hb : Blk H b c) (hk : c[0]? = some (I k)) :
    Ret Try.prog 39 [ptr b 0] H (fun v H' => PtrS H H' v b (kidOffs k)) := by
  simpa using kids_ok (o := 0) hb hk
theorem nameOffs_lt (k : Int) : (nameOffs k).length ≤ 4 ∧ ∀ i, i < (nameOffs k).length → (nameOffs k).getD i 0 < 9 ∧ 0 < (nameOffs k).getD i 0 := by
  unfold nameOffs
  split
  · decide
  · split
    · decide
    · split
      · decide
      · split
        · decide
        · exact ⟨by simp, fun i h => by simp at h⟩
theorem kidOffs_lt (k : Int) : (kidOffs k).length ≤ 3 ∧ ∀ i, i < (kidOffs k).length → (kidOffs k).getD i 0 < 9 ∧ 0 < (kidOffs k).getD i 0 := by
  unfold kidOffs
  split
  · decide
  · split
    · decide
    · split
      · decide
      · exact ⟨by simp, fun i h => by simp at h⟩
theorem drop_getD {os : List Nat} {i : Nat} (h : i < os.length) : os.drop i = os.getD i 0 :: os.drop (i + 1) := by
  rw [List.drop_eq_getElem_cons h]; simp [List.getElem?_eq_getElem h]
theorem ptr_at {os : List Nat} {i b : Nat} (h : i < os.length) : (os.map (ptr b))[0 + (i : Int).toNat * 1]? = some (ptr b (os.getD i 0)) := by
  simp [List.getElem?_eq_getElem h]
theorem Is_set {xs : List Int} {o : Nat} {n : Int} : (Is xs).set o (I n) = Is (xs.set o n) := by simp [Is, List.map_set]

theorem getD_set0 {zs : List Int} {o : Nat} {v : Int} (h : o ≠ 0) : (zs.set o v).getD 0 0 = zs.getD 0 0 := by
  simp [List.getD_eq_getElem?_getD, List.getElem?_set, h]

theorem mayT_f1 {xs : List Int} (h : xs.getD 0 0 < 0 ∨ 12 < xs.getD 0 0) : mayT xs = false := by unfold mayT; simp only; rw [if_pos h]
theorem mayT_f2 {xs : List Int} (h : 0 ≤ mostT (xs.getD 0 0) ∧ (xs.getD 4 0 < 0 ∨ mostT (xs.getD 0 0) < xs.getD 4 0)) : mayT xs = false := by
  unfold mayT; simp only
  split
  · rfl
  · first | rfl | rw [if_pos h]

theorem may_ok (xs : List Int) (hl : xs.length = 9) (H : Heap) :
    Ret Try.prog 25 [.agg (Is xs).toArray] H (fun v H' => v = .bool (mayT xs) ∧ Ext H H') := by
  have a0 := at_Is (xs := xs) (o := 0) (by omega)
  have a4 := at_Is (xs := xs) (o := 4) (by omega)
  refine Ret.of_at (N := 64) Try.call25 Try.func25 rfl rfl rfl ?_
  refine At.region rfl rfl ?_
  refine Reg.op rfl rfl rfl rfl (Does.box rfl rfl) ?_
  rintro _ H1 ⟨rfl, hn1⟩
  refine Reg.pur rfl rfl rfl rfl (Pur.asg rfl) ?_
  refine Reg.nil ?_
  have hB := hn1.own
  refine At.region rfl rfl ?_
  refine Reg.pur rfl rfl rfl rfl (Pur.fld _ fo37_0 rfl) ?_
  refine Reg.lod rfl rfl rfl rfl (Lod.ld sc3 rfl hB.blk a0) ?_
  refine Reg.pur rfl rfl rfl rfl (Pur.lss rfl rfl) ?_
  refine Reg.pur rfl rfl rfl rfl (Pur.mv rfl) ?_
  refine Reg.case 11 rfl (fun hc1 => ?_) (fun hc1 => ?_)
  · refine Reg.skip rfl rfl rfl rfl rfl rfl rfl ?_
    refine Reg.skip rfl rfl rfl rfl rfl rfl rfl ?_
    refine Reg.skip rfl rfl rfl rfl rfl rfl rfl ?_
    refine Reg.pur rfl rfl rfl rfl (Pur.pickT rfl rfl) ?_
    refine Reg.nil ?_
    refine At.condT rfl rfl rfl ?_
    refine At.region rfl rfl ?_
    refine Reg.pur rfl rfl rfl rfl (Pur.asg rfl) ?_
    refine Reg.nil ?_
    refine At.ret rfl Try.func25 rfl ?_
    first | exact ⟨by rw [mayT_f1 (by simp only [decide_eq_true_eq] at *; omega)], hn1.ext⟩ | exact ⟨by rw [mayT_f2 (by simp only [decide_eq_true_eq, decide_eq_false_iff_not] at *; omega)], hn1.ext⟩ | exact ⟨by rw [hfin, ← hgo, drop_getD hlt]; simp only [namesGo]; rw [if_pos (by simp only [decide_eq_true_eq] at *; omega)], hE⟩ | exact ⟨by rw [hfin, ← hgo]; exact congrArg Value.bool (eqs_ints .i64 ws [k, 0, 0, 0, 0, 0, 0, 0, 0]), hE'⟩
  refine Reg.gpur rfl rfl rfl rfl rfl rfl (Pur.fld _ fo37_0 rfl) ?_
  refine Reg.glod rfl rfl rfl rfl rfl rfl (Lod.ld sc3 rfl hB.blk a0) ?_
  refine Reg.gpur rfl rfl rfl rfl rfl rfl (Pur.gtr rfl rfl) ?_
  refine Reg.pur rfl rfl rfl rfl (Pur.pickF rfl rfl) ?_
  refine Reg.nil ?_
  refine At.cond rfl rfl (fun hb2 => ?_) (fun hb2 => ?_)
  · refine At.region rfl rfl ?_
    refine Reg.pur rfl rfl rfl rfl (Pur.asg rfl) ?_
    refine Reg.nil ?_
    refine At.ret rfl Try.func25 rfl ?_
    first | exact ⟨by rw [mayT_f1 (by simp only [decide_eq_true_eq] at *; omega)], hn1.ext⟩ | exact ⟨by rw [mayT_f2 (by simp only [decide_eq_true_eq, decide_eq_false_iff_not] at *; omega)], hn1.ext⟩ | exact ⟨by rw [hfin, ← hgo, drop_getD hlt]; simp only [namesGo]; rw [if_pos (by simp only [decide_eq_true_eq] at *; omega)], hE⟩ | exact ⟨by rw [hfin, ← hgo]; exact congrArg Value.bool (eqs_ints .i64 ws [k, 0, 0, 0, 0, 0, 0, 0, 0]), hE'⟩
  refine At.region rfl rfl ?_
  refine Reg.pur rfl rfl rfl rfl (Pur.fld _ fo37_0 rfl) ?_
  refine Reg.lod rfl rfl rfl rfl (Lod.ld sc3 rfl hB.blk a0) ?_
  refine Reg.op rfl rfl rfl rfl (Does.call rfl (most_ok (xs.getD 0 0) _)) ?_
  rintro _ _ ⟨rfl, rfl⟩
  refine Reg.pur rfl rfl rfl rfl (Pur.asg rfl) ?_
  refine Reg.nil ?_
  refine At.region rfl rfl ?_
  refine Reg.pur rfl rfl rfl rfl (Pur.mv rfl) ?_
  refine Reg.pur rfl rfl rfl rfl (Pur.geq rfl rfl) ?_
  refine Reg.nil ?_
  refine At.joinc (σ := List Int) (fun ys => [(1, ptr H.size 0)]) (fun ys H' => ys.length = 9 ∧ Own H' H.size (Is ys) ∧ Ext H H' ∧ ys = (if 0 ≤ mostT (xs.getD 0 0) then xs.set 4 0 else xs) ∧ ¬ (xs.getD 0 0 < 0 ∨ 12 < xs.getD 0 0) ∧ ¬ (0 ≤ mostT (xs.getD 0 0) ∧ (xs.getD 4 0 < 0 ∨ mostT (xs.getD 0 0) < xs.getD 4 0))) rfl (fun hJ => ?_) (fun ys H3 hI => ?_)
  · refine At.cond rfl rfl (fun hb3 => ?_) (fun hb3 => ?_)
    · refine At.region rfl rfl ?_
      refine Reg.pur rfl rfl rfl rfl (Pur.fld _ fo37_4 rfl) ?_
      refine Reg.lod rfl rfl rfl rfl (Lod.ld sc3 rfl hB.blk a4) ?_
      refine Reg.pur rfl rfl rfl rfl (Pur.lss rfl rfl) ?_
      refine Reg.pur rfl rfl rfl rfl (Pur.mv rfl) ?_
      refine Reg.case 24 rfl (fun hc4 => ?_) (fun hc4 => ?_)
      · refine Reg.skip rfl rfl rfl rfl rfl rfl rfl ?_
        refine Reg.skip rfl rfl rfl rfl rfl rfl rfl ?_
        refine Reg.skip rfl rfl rfl rfl rfl rfl rfl ?_
        refine Reg.skip rfl rfl rfl rfl rfl rfl rfl ?_
        refine Reg.pur rfl rfl rfl rfl (Pur.pickT rfl rfl) ?_
        refine Reg.nil ?_
        refine At.condT rfl rfl rfl ?_
        refine At.region rfl rfl ?_
        refine Reg.pur rfl rfl rfl rfl (Pur.asg rfl) ?_
        refine Reg.nil ?_
        refine At.ret rfl Try.func25 rfl ?_
        first | exact ⟨by rw [mayT_f1 (by simp only [decide_eq_true_eq] at *; omega)], hn1.ext⟩ | exact ⟨by rw [mayT_f2 (by simp only [decide_eq_true_eq, decide_eq_false_iff_not] at *; omega)], hn1.ext⟩ | exact ⟨by rw [hfin, ← hgo, drop_getD hlt]; simp only [namesGo]; rw [if_pos (by simp only [decide_eq_true_eq] at *; omega)], hE⟩ | exact ⟨by rw [hfin, ← hgo]; exact congrArg Value.bool (eqs_ints .i64 ws [k, 0, 0, 0, 0, 0, 0, 0, 0]), hE'⟩
      refine Reg.gpur rfl rfl rfl rfl rfl rfl (Pur.fld _ fo37_4 rfl) ?_
      refine Reg.glod rfl rfl rfl rfl rfl rfl (Lod.ld sc3 rfl hB.blk a4) ?_
      refine Reg.gpur rfl rfl rfl rfl rfl rfl (Pur.mv rfl) ?_
      refine Reg.gpur rfl rfl rfl rfl rfl rfl (Pur.gtr rfl rfl) ?_
      refine Reg.pur rfl rfl rfl rfl (Pur.pickF rfl rfl) ?_
      refine Reg.nil ?_
      refine At.cond rfl rfl (fun hb5 => ?_) (fun hb5 => ?_)
      · refine At.region rfl rfl ?_
        refine Reg.pur rfl rfl rfl rfl (Pur.asg rfl) ?_
        refine Reg.nil ?_
        refine At.ret rfl Try.func25 rfl ?_
        first | exact ⟨by rw [mayT_f1 (by simp only [decide_eq_true_eq] at *; omega)], hn1.ext⟩ | exact ⟨by rw [mayT_f2 (by simp only [decide_eq_true_eq, decide_eq_false_iff_not] at *; omega)], hn1.ext⟩ | exact ⟨by rw [hfin, ← hgo, drop_getD hlt]; simp only [namesGo]; rw [if_pos (by simp only [decide_eq_true_eq] at *; omega)], hE⟩ | exact ⟨by rw [hfin, ← hgo]; exact congrArg Value.bool (eqs_ints .i64 ws [k, 0, 0, 0, 0, 0, 0, 0, 0]), hE'⟩
      refine At.region rfl rfl ?_
      refine Reg.pur rfl rfl rfl rfl (Pur.fld _ fo37_4 rfl) ?_
      refine Reg.op0 rfl rfl rfl (Does.st sc3 rfl rfl rfl hB (by simp; omega)) ?_
      rintro _ H2 hu2
      refine Reg.nil ?_
      first | refine At.meets rfl (hJ (xs.set 4 0) _ ⟨by simp; omega, by have := hu2.own; rwa [Is_set] at this, hn1.ext.upd hu2 (Nat.le_refl _), ?_, ?_, ?_⟩) ⟨rfl, trivial⟩ | refine At.meets rfl (hJ xs _ ⟨hl, hB, hn1.ext, ?_, ?_, ?_⟩) ⟨rfl, trivial⟩
      all_goals simp only [decide_eq_true_eq, decide_eq_false_iff_not] at *
      · first | rw [if_pos hb3] | rw [if_neg hb3]
      · omega
      · omega
    first | refine At.meets rfl (hJ (xs.set 4 0) _ ⟨by simp; omega, by have := hu2.own; rwa [Is_set] at this, hn1.ext.upd hu2 (Nat.le_refl _), ?_, ?_, ?_⟩) ⟨rfl, trivial⟩ | refine At.meets rfl (hJ xs _ ⟨hl, hB, hn1.ext, ?_, ?_, ?_⟩) ⟨rfl, trivial⟩
    all_goals simp only [decide_eq_true_eq, decide_eq_false_iff_not] at *
    · first | rw [if_pos hb3] | rw [if_neg hb3]
    · omega
    · omega
  obtain ⟨hyl, hB, hE, hys, hk1, hk2⟩ := hI
  have hlt3 := hB.lt
  have y0 : (Is ys)[0]? = some (I (xs.getD 0 0)) := by rw [at_Is (by omega)]; subst hys; split <;> simp [List.getElem?_set]
  have hfin : mayT xs = match namesGo (nameOffs (xs.getD 0 0)) ys with | none => false | some xs2 => decide (zeroT (kidOffs (xs.getD 0 0)) xs2 = (xs.getD 0 0) :: List.replicate 8 0) := by unfold mayT; simp only; rw [if_neg hk1, if_neg hk2, hys]
  clear hys hk1 hk2
  generalize xs.getD 0 0 = k at *
  obtain ⟨hn4, hlt9⟩ := nameOffs_lt k
  obtain ⟨hk4, hkt9⟩ := kidOffs_lt k
  refine At.region rfl rfl ?_
  refine Reg.op rfl rfl rfl rfl (Does.call rfl (names_ok0 hB.blk y0)) ?_
  rintro _ H4 ⟨hE4, A, rfl, hA⟩
  refine Reg.pur rfl rfl rfl rfl (Pur.lenS isl80 rfl) ?_
  refine Reg.pur rfl rfl rfl rfl (Pur.mv rfl) ?_
  refine Reg.nil ?_
  have hB := hB.ext hE4
  refine At.loop (σ := Nat × List Int) (fun s => [(33, I s.1), (31, .slice A (nameOffs k).length (nameOffs k).length), (32, I (nameOffs k).length), (1, ptr H.size 0)]) (fun s H' => s.1 ≤ (nameOffs k).length ∧ s.2.length = 9 ∧ Own H' H.size (Is s.2) ∧ ((nameOffs k).length = 0 ∨ ∃ B, H3.size ≤ B ∧ A = some ⟨B, 0, none⟩ ∧ Own H' B ((nameOffs k).map (ptr H.size))) ∧ Ext H H' ∧ namesGo ((nameOffs k).drop s.1) s.2 = namesGo (nameOffs k) ys ∧ s.2.getD 0 0 = k) (fun s => (nameOffs k).length - s.1) (0, ys) rfl ⟨rfl, rfl, rfl, rfl, trivial⟩ ⟨Nat.zero_le _, hyl, hB, hA, hE.trans hE4, rfl, ?_⟩ ?_
  · have := at_Is (xs := ys) (o := 0) (by omega); rw [this] at y0; simpa using y0
  rintro ⟨i, zs⟩ H5 ⟨hi, hzl, hB, hA, hE, hgo, hz0⟩ ih
  dsimp only at hi hzl hB hA hE hgo hz0 ⊢
  refine At.region rfl rfl ?_
  refine Reg.pur rfl rfl rfl rfl (Pur.lss rfl rfl) ?_
  refine Reg.nil ?_
  refine At.cond rfl rfl (fun hb6 => ?_) (fun hb6 => ?_)
  · simp only [decide_eq_true_eq] at hb6
    have hlt : i < (nameOffs k).length := by omega
    obtain ⟨B, hBs, rfl, hO⟩ := hA.resolve_left (by omega)
    obtain ⟨ho9, ho1⟩ := hlt9 i hlt
    refine At.region rfl rfl ?_
    refine Reg.pur rfl rfl rfl rfl (Pur.idx _ es80 rfl rfl (by omega) hb6) ?_
    refine Reg.lod rfl rfl rfl rfl (Lod.ld sc83 rfl hO.blk (ptr_at hlt)) ?_
    refine Reg.pur rfl rfl rfl rfl (Pur.asg rfl) ?_
    refine Reg.nil ?_
    refine At.region rfl rfl ?_
    refine Reg.pur rfl rfl rfl rfl (Pur.mv rfl) ?_
    refine Reg.pur rfl rfl rfl rfl (Pur.nilc rfl) ?_
    refine Reg.lod rfl rfl rfl rfl (Lod.ld sc3 rfl hB.blk (at_Is (by omega))) ?_
    refine Reg.pur rfl rfl rfl rfl (Pur.lss rfl rfl) ?_
    refine Reg.pur rfl rfl rfl rfl (Pur.mv rfl) ?_
    refine Reg.case 41 rfl (fun hc7 => ?_) (fun hc7 => ?_)
    · refine Reg.skip rfl rfl rfl rfl rfl rfl rfl ?_
      refine Reg.skip rfl rfl rfl rfl rfl rfl rfl ?_
      refine Reg.skip rfl rfl rfl rfl rfl rfl rfl ?_
      refine Reg.skip rfl rfl rfl rfl rfl rfl rfl ?_
      refine Reg.pur rfl rfl rfl rfl (Pur.pickT rfl rfl) ?_
      refine Reg.nil ?_
      refine At.condT rfl rfl rfl ?_
      refine At.region rfl rfl ?_
      refine Reg.pur rfl rfl rfl rfl (Pur.asg rfl) ?_
      refine Reg.nil ?_
      refine At.ret rfl Try.func25 rfl ?_
      first | exact ⟨by rw [mayT_f1 (by simp only [decide_eq_true_eq] at *; omega)], hn1.ext⟩ | exact ⟨by rw [mayT_f2 (by simp only [decide_eq_true_eq, decide_eq_false_iff_not] at *; omega)], hn1.ext⟩ | exact ⟨by rw [hfin, ← hgo, drop_getD hlt]; simp only [namesGo]; rw [if_pos (by simp only [decide_eq_true_eq] at *; omega)], hE⟩ | exact ⟨by rw [hfin, ← hgo]; exact congrArg Value.bool (eqs_ints .i64 ws [k, 0, 0, 0, 0, 0, 0, 0, 0]), hE'⟩
    refine Reg.gpur rfl rfl rfl rfl rfl rfl (Pur.mv rfl) ?_
    refine Reg.gpur rfl rfl rfl rfl rfl rfl (Pur.nilc rfl) ?_
    refine Reg.glod rfl rfl rfl rfl rfl rfl (Lod.ld sc3 rfl hB.blk (at_Is (by omega))) ?_
    refine Reg.gpur rfl rfl rfl rfl rfl rfl (Pur.geq rfl rfl) ?_
    refine Reg.pur rfl rfl rfl rfl (Pur.pickF rfl rfl) ?_
    refine Reg.nil ?_
    refine At.cond rfl rfl (fun hb8 => ?_) (fun hb8 => ?_)
    · refine At.region rfl rfl ?_
      refine Reg.pur rfl rfl rfl rfl (Pur.asg rfl) ?_
      refine Reg.nil ?_
      refine At.ret rfl Try.func25 rfl ?_
      first | exact ⟨by rw [mayT_f1 (by simp only [decide_eq_true_eq] at *; omega)], hn1.ext⟩ | exact ⟨by rw [mayT_f2 (by simp only [decide_eq_true_eq, decide_eq_false_iff_not] at *; omega)], hn1.ext⟩ | exact ⟨by rw [hfin, ← hgo, drop_getD hlt]; simp only [namesGo]; rw [if_pos (by simp only [decide_eq_true_eq] at *; omega)], hE⟩ | exact ⟨by rw [hfin, ← hgo]; exact congrArg Value.bool (eqs_ints .i64 ws [k, 0, 0, 0, 0, 0, 0, 0, 0]), hE'⟩
    refine At.region rfl rfl ?_
    refine Reg.pur rfl rfl rfl rfl (Pur.mv rfl) ?_
    refine Reg.pur rfl rfl rfl rfl (Pur.nilc rfl) ?_
    refine Reg.op0 rfl rfl rfl (Does.st sc3 rfl rfl rfl hB (by simp only [List.length_map]; omega)) ?_
    rintro _ H6 hu6
    refine Reg.nil ?_
    refine At.region rfl rfl ?_
    first | refine Reg.pur rfl rfl rfl rfl (Pur.add64 rfl rfl (by omega)) ?_ | refine Reg.pur rfl rfl rfl rfl (Pur.add64 rfl rfl (by assumption)) ?_ | refine Reg.pur rfl rfl rfl rfl (Pur.add rfl rfl) ?_
    refine Reg.pur rfl rfl rfl rfl (Pur.mv rfl) ?_
    refine Reg.nil ?_
    have hne : B ≠ H.size := by omega
    refine At.via (ih (i + 1, zs.set ((nameOffs k).getD i 0) 0) H6 ⟨by omega, by simp; omega, ?_, .inr ⟨B, hBs, rfl, hO.upd hu6 hne⟩, hE.upd hu6 (Nat.le_refl _), ?_, ?_⟩ (by simp only; omega)) ⟨rfl, rfl, rfl, rfl, trivial⟩
    · have := hu6.own; rwa [Is_set] at this
    · rw [← hgo, drop_getD hlt]; simp only [namesGo]; rw [if_neg]; simp only [decide_eq_false_iff_not] at hc7 hb8; omega
    · rw [getD_set0 (by omega)]; exact hz0
  simp only [decide_eq_false_iff_not] at hb6
  have hgo' : namesGo (nameOffs k) ys = some zs := by rw [← hgo, List.drop_of_length_le (by omega)]; rfl
  rw [hgo'] at hfin
  dsimp only at hfin
  clear hA hgo hgo'
  have hlt5 := hB.lt
  refine At.region rfl rfl ?_
  refine Reg.op rfl rfl rfl rfl (Does.call rfl (kids_ok0 hB.blk (by rw [at_Is (by omega), hz0]))) ?_
  rintro _ H7 ⟨hE7, A2, rfl, hA2⟩
  refine Reg.pur rfl rfl rfl rfl (Pur.lenS isl80 rfl) ?_
  refine Reg.pur rfl rfl rfl rfl (Pur.mv rfl) ?_
  refine Reg.nil ?_
  have hB := hB.ext hE7
  refine At.loop (σ := Nat × List Int) (fun s => [(52, I s.1), (50, .slice A2 (kidOffs k).length (kidOffs k).length), (51, I (kidOffs k).length), (1, ptr H.size 0)]) (fun s H' => s.1 ≤ (kidOffs k).length ∧ s.2.length = 9 ∧ Own H' H.size (Is s.2) ∧ ((kidOffs k).length = 0 ∨ ∃ B, H5.size ≤ B ∧ A2 = some ⟨B, 0, none⟩ ∧ Own H' B ((kidOffs k).map (ptr H.size))) ∧ Ext H H' ∧ zeroT ((kidOffs k).drop s.1) s.2 = zeroT (kidOffs k) zs ∧ s.2.getD 0 0 = k) (fun s => (kidOffs k).length - s.1) (0, zs) rfl ⟨rfl, rfl, rfl, rfl, trivial⟩ ⟨Nat.zero_le _, hzl, hB, hA2, hE.trans hE7, rfl, hz0⟩ ?_
  clear hA2 hB
  rintro ⟨j, ws⟩ H8 ⟨hj, hwl, hB, hA, hE', hgo, hw0⟩ ih'
  dsimp only at hj hwl hB hA hE' hgo hw0 ⊢
  refine At.region rfl rfl ?_
  refine Reg.pur rfl rfl rfl rfl (Pur.lss rfl rfl) ?_
  refine Reg.nil ?_
  refine At.cond rfl rfl (fun hb9 => ?_) (fun hb9 => ?_)
  · simp only [decide_eq_true_eq] at hb9
    have hlt : j < (kidOffs k).length := by omega
    obtain ⟨B, hBs, rfl, hO⟩ := hA.resolve_left (by omega)
    obtain ⟨ho9, ho1⟩ := hkt9 j hlt
    refine At.region rfl rfl ?_
    refine Reg.pur rfl rfl rfl rfl (Pur.idx _ es80 rfl rfl (by omega) hb9) ?_
    refine Reg.lod rfl rfl rfl rfl (Lod.ld sc83 rfl hO.blk (ptr_at hlt)) ?_
    refine Reg.pur rfl rfl rfl rfl (Pur.asg rfl) ?_
    refine Reg.nil ?_
    refine At.region rfl rfl ?_
    refine Reg.pur rfl rfl rfl rfl (Pur.mv rfl) ?_
    refine Reg.pur rfl rfl rfl rfl (Pur.nilc rfl) ?_
    refine Reg.op0 rfl rfl rfl (Does.st sc3 rfl rfl rfl hB (by simp only [List.length_map]; omega)) ?_
    rintro _ H9 hu9
    refine Reg.nil ?_
    refine At.region rfl rfl ?_
    first | refine Reg.pur rfl rfl rfl rfl (Pur.add64 rfl rfl (by omega)) ?_ | refine Reg.pur rfl rfl rfl rfl (Pur.add64 rfl rfl (by assumption)) ?_ | refine Reg.pur rfl rfl rfl rfl (Pur.add rfl rfl) ?_
    refine Reg.pur rfl rfl rfl rfl (Pur.mv rfl) ?_
    refine Reg.nil ?_
    refine At.via (ih' (j + 1, ws.set ((kidOffs k).getD j 0) 0) H9 ⟨by omega, by simp; omega, ?_, .inr ⟨B, hBs, rfl, hO.upd hu9 (by omega)⟩, hE'.upd hu9 (Nat.le_refl _), ?_, ?_⟩ (by simp only; omega)) ⟨rfl, rfl, rfl, rfl, trivial⟩
    · have := hu9.own; rwa [Is_set] at this
    · rw [← hgo, drop_getD hlt]; rfl
    · rw [getD_set0 (by omega)]; exact hw0
  simp only [decide_eq_false_iff_not] at hb9
  rw [List.drop_of_length_le (by omega)] at hgo
  have hd : ((Is ws).drop 0).take 9 = Is ws := by rw [List.drop_zero, List.take_of_length_le (by simp only [List.length_map]; omega)]
  have hf := fks_ints .i64 ws
  rw [hwl] at hf
  refine At.region rfl rfl ?_
  refine Reg.lod rfl rfl rfl rfl (Lod.ldn ag37 rfl hB.blk hd (by simp only [List.length_map]; omega)) ?_
  refine Reg.pur rfl rfl rfl rfl (Pur.fld _ fo37_0 rfl) ?_
  refine Reg.lod rfl rfl rfl rfl (Lod.ld sc3 rfl hB.blk (by rw [at_Is (by omega), hw0])) ?_
  refine Reg.pur rfl rfl rfl rfl (Pur.bld (cs := [_, _, _, _, _, _, _, _, _]) pl37 zc37 rfl rfl ⟨rfl, rfl, rfl, rfl, rfl, rfl, rfl, rfl, rfl, rfl⟩) ?_
  refine Reg.pur rfl rfl rfl rfl (Pur.eqA eqt37 rfl rfl hf (fks_ints .i64 [k, 0, 0, 0, 0, 0, 0, 0, 0])) ?_
  refine Reg.pur rfl rfl rfl rfl (Pur.asg rfl) ?_
  refine Reg.nil ?_
  refine At.ret rfl Try.func25 rfl ?_
  first | exact ⟨by rw [mayT_f1 (by simp only [decide_eq_true_eq] at *; omega)], hn1.ext⟩ | exact ⟨by rw [mayT_f2 (by simp only [decide_eq_true_eq, decide_eq_false_iff_not] at *; omega)], hn1.ext⟩ | exact ⟨by rw [hfin, ← hgo, drop_getD hlt]; simp only [namesGo]; rw [if_pos (by simp only [decide_eq_true_eq] at *; omega)], hE⟩ | exact ⟨by rw [hfin, ← hgo]; exact congrArg Value.bool (eqs_ints .i64 ws [k, 0, 0, 0, 0, 0, 0, 0, 0]), hE'⟩
end Go.Proofs.Ytjhkmebmbopfoaa
