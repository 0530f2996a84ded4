/-
  target.Names, the reference's Names.
-/
import Derived.Test.YtkniihjfcagdbaaTgtG
namespace Go.Proofs.Ytkniihjfcagdbaa
set_option linter.unusedSimpArgs false
set_option linter.unusedVariables false
open Go Go.Fx Go.Proofs
namespace FactsTgtH
theorem ag47 : ag Try.prog 47 = some 9 := by kernel_rfl
theorem es40 : esz Try.prog 40 = some 9 := by kernel_rfl
theorem es51 : esz Try.prog 51 = some 1 := by kernel_rfl
theorem fo47_0 : foff Try.prog 47 0 = some 0 := by kernel_rfl
theorem fo47_4 : foff Try.prog 47 4 = some 4 := by kernel_rfl
theorem fo47_5 : foff Try.prog 47 5 = some 5 := by kernel_rfl
theorem fo47_6 : foff Try.prog 47 6 = some 6 := by kernel_rfl
theorem fo47_7 : foff Try.prog 47 7 = some 7 := by kernel_rfl
theorem fo47_8 : foff Try.prog 47 8 = some 8 := by kernel_rfl
theorem isl40 : isSl Try.prog 40 = true := by kernel_rfl
theorem isl51 : isSl Try.prog 51 = true := by kernel_rfl
theorem sc3 : sc Try.prog 3 = true := by kernel_rfl
theorem sc54 : sc Try.prog 54 = true := by kernel_rfl
theorem zc47 : zc Try.prog 47 = some [.int .i64 0, .int .i64 0, .int .i64 0, .int .i64 0, .int .i64 0, .int .i64 0, .int .i64 0, .int .i64 0, .int .i64 0] := by kernel_rfl
end FactsTgtH
open FactsTgtH

def nmO (x : List Int) (os : List Nat) (m : Int) : Int := os.foldl (fun m o => max m (IntKind.i64.wrap (x.getD o 0 + 1))) m
def nm (x : List Int) (m : Int) : Int := nmO x (nameOffs (x.getD 0 0)) m
def nms (L : List (List Int)) (m : Int) : Int := L.foldl (fun m x => nm x m) m
def namesS (L : List (List Int)) : Int × Int := if mayS L then (nms L 0, 0) else (0, 1900)
theorem namesS_t {L : List (List Int)} (h : mayS L = true) : namesS L = (nms L 0, 0) := by simp [namesS, h]
theorem namesS_f {L : List (List Int)} (h : mayS L = false) : namesS L = (0, 1900) := by simp [namesS, h]
theorem dropL {L : List (List Int)} {i : Nat} (h : i < L.length) : L.drop i = L[i] :: L.drop (i + 1) := List.drop_eq_getElem_cons h

theorem num_ok (n : Int) (H : Heap) : Ret Try.prog 22 [I n] H (fun v H' => v = I n ∧ H' = H) := by
  refine Ret.of_at (N := 4) Try.call22 Try.func22 rfl rfl rfl ?_
  refine At.region rfl rfl ?_
  refine Reg.pur rfl rfl rfl rfl (Pur.asg rfl) ?_
  refine Reg.nil ?_
  refine At.region rfl rfl ?_
  refine Reg.pur rfl rfl rfl rfl (Pur.mv rfl) ?_
  refine Reg.pur rfl rfl rfl rfl (Pur.asg rfl) ?_
  refine Reg.nil ?_
  refine At.ret rfl Try.func22 rfl ?_
  exact ⟨rfl, rfl⟩

theorem namesP_ok {A : Option Addr} {cap : Nat} (L : List (List Int)) (hL : ∀ x ∈ L, x.length = 9) {H : Heap} (hS : SlT H Is 9 (.slice A L.length cap) L) (hm : L.length ≤ 9223372036854775807) :
    Ret Try.prog 25 [.slice A L.length cap] H (fun v H' => v = .tuple #[I (namesS L).1, I (namesS L).2] ∧ Ext H H') := by
  refine Ret.of_at (N := 33) Try.call25 Try.func25 rfl rfl rfl ?_
  refine At.region rfl rfl ?_
  refine Reg.pur rfl rfl rfl rfl (Pur.asg rfl) ?_
  refine Reg.pur rfl rfl rfl rfl (Pur.asg rfl) ?_
  refine Reg.nil ?_
  refine At.region rfl rfl ?_
  refine Reg.pur rfl rfl rfl rfl (Pur.mv rfl) ?_
  refine Reg.op rfl rfl rfl rfl (Does.call rfl (mayP_ok L hL hS hm)) ?_
  rintro _ H1 ⟨rfl, hE1⟩
  refine Reg.pur rfl rfl rfl rfl (Pur.not rfl) ?_
  refine Reg.nil ?_
  refine At.cond rfl rfl (fun hb1 => ?_) (fun hb1 => ?_)
  · refine At.region rfl rfl ?_
    refine Reg.pur rfl rfl rfl rfl (Pur.asg rfl) ?_
    refine Reg.pur rfl rfl rfl rfl (Pur.asg rfl) ?_
    refine Reg.nil ?_
    refine At.ret rfl Try.func25 rfl ?_
    first | exact ⟨by rw [namesS_f (by simpa using hb1)], hE1⟩ | exact ⟨by simp only [decide_eq_false_iff_not] at hb2; rw [List.drop_of_length_le (by omega)] at hgo; rw [namesS_t (by simpa using hb1), ← hgo]; rfl, hE⟩
  · refine At.region rfl rfl ?_
    refine Reg.pur rfl rfl rfl rfl (Pur.asg rfl) ?_
    refine Reg.nil ?_
    refine At.region rfl rfl ?_
    refine Reg.pur rfl rfl rfl rfl (Pur.mv rfl) ?_
    refine Reg.pur rfl rfl rfl rfl (Pur.lenS isl40 rfl) ?_
    refine Reg.pur rfl rfl rfl rfl (Pur.mv rfl) ?_
    refine Reg.nil ?_
    refine At.loop (σ := Nat × Int) (fun s => [(14, I s.1), (13, I L.length), (12, .slice A L.length cap), (4, I s.2)]) (fun s H' => s.1 ≤ L.length ∧ Ext H H' ∧ nms (L.drop s.1) s.2 = nms L 0) (fun s => L.length - s.1) (0, 0) rfl ⟨rfl, rfl, rfl, rfl, trivial⟩ ⟨by omega, hE1, rfl⟩ ?_
    rintro ⟨i, m⟩ H2 ⟨hi, hE, hgo⟩ ih
    dsimp only at hi hE hgo ⊢
    refine At.region rfl rfl ?_
    refine Reg.pur rfl rfl rfl rfl (Pur.lss rfl rfl) ?_
    refine Reg.nil ?_
    refine At.cond rfl rfl (fun hb2 => ?_) (fun hb2 => ?_)
    · simp only [decide_eq_true_eq] at hb2
      have hlt : i < L.length := by omega
      obtain ⟨b, o, c, rfl, hB, hd, h9⟩ := sl_at hL (hS.ext hE) hlt
      rw [dropL hlt, nms, List.foldl_cons] at hgo
      generalize L[i] = x at hgo hd h9
      refine At.region rfl rfl ?_
      refine Reg.pur rfl rfl rfl rfl (Pur.idx _ es40 rfl rfl (by omega) hb2) ?_
      refine Reg.lod rfl rfl rfl rfl (Lod.ldn ag47 rfl hB hd (by simp [Is, h9])) ?_
      refine Reg.op rfl rfl rfl rfl (Does.alloc zc47) ?_
      rintro _ H3 ⟨rfl, hn3⟩
      refine Reg.op0 rfl rfl rfl (Does.stn ag47 rfl rfl (ones_Is x) (by simp [Is, h9]) hn3.own (by decide)) ?_
      rintro _ H4 hu4
      refine Reg.nil ?_
      have hX : Own H4 H2.size (Is x) := by have := hu4.own; rwa [List.take_zero, List.nil_append, List.drop_of_length_le (by decide), List.append_nil] at this
      have hE4 : Ext H2 H4 := hn3.ext.upd hu4 (Nat.le_refl _)
      refine At.region rfl rfl ?_
      refine Reg.op rfl rfl rfl rfl (Does.call rfl (names_ok0 hX.blk (at_Is (by omega)))) ?_
      rintro _ H5 ⟨hE5, A2, rfl, hA⟩
      refine Reg.pur rfl rfl rfl rfl (Pur.lenS isl51 rfl) ?_
      refine Reg.pur rfl rfl rfl rfl (Pur.mv rfl) ?_
      refine Reg.nil ?_
      have hX := hX.ext hE5
      refine At.loop (σ := Nat × Int) (fun s => [(20, I s.1), (18, .slice A2 (nameOffs (x.getD 0 0)).length (nameOffs (x.getD 0 0)).length), (19, I (nameOffs (x.getD 0 0)).length), (4, I s.2), (14, I i), (13, I L.length), (12, .slice (some ⟨b, o, none⟩) L.length cap)]) (fun s H' => s.1 ≤ (nameOffs (x.getD 0 0)).length ∧ H' = H5 ∧ nmO x ((nameOffs (x.getD 0 0)).drop s.1) s.2 = nm x m) (fun s => (nameOffs (x.getD 0 0)).length - s.1) (0, m) rfl ⟨rfl, rfl, rfl, rfl, rfl, rfl, rfl, trivial⟩ ⟨Nat.zero_le _, rfl, rfl⟩ ?_
      rintro ⟨j, m'⟩ H6 ⟨hj, rfl, hgo'⟩ ih'
      dsimp only at hj hgo' ⊢
      refine At.region rfl rfl ?_
      refine Reg.pur rfl rfl rfl rfl (Pur.lss rfl rfl) ?_
      refine Reg.nil ?_
      refine At.cond rfl rfl (fun hb3 => ?_) (fun hb3 => ?_)
      · simp only [decide_eq_true_eq] at hb3
        have hltj : j < (nameOffs (x.getD 0 0)).length := by omega
        obtain ⟨B, hBs, rfl, hO⟩ := hA.resolve_left (by omega)
        have hle4 := (nameOffs_lt (x.getD 0 0)).1
        have ho9 := ((nameOffs_lt (x.getD 0 0)).2 j hltj).1
        refine At.region rfl rfl ?_
        refine Reg.pur rfl rfl rfl rfl (Pur.idx _ es51 rfl rfl (by omega) hb3) ?_
        refine Reg.lod rfl rfl rfl rfl (Lod.ld sc54 rfl hO.blk (ptr_at hltj)) ?_
        refine Reg.pur rfl rfl rfl rfl (Pur.asg rfl) ?_
        refine Reg.nil ?_
        refine At.region rfl rfl ?_
        refine Reg.pur rfl rfl rfl rfl (Pur.mv rfl) ?_
        refine Reg.pur rfl rfl rfl rfl (Pur.mv rfl) ?_
        refine Reg.pur rfl rfl rfl rfl (Pur.nilc rfl) ?_
        refine Reg.lod rfl rfl rfl rfl (Lod.ld sc3 rfl hX.blk (at_Is (by omega))) ?_
        first | refine Reg.pur rfl rfl rfl rfl (Pur.add64 rfl rfl (by omega)) ?_ | refine Reg.pur rfl rfl rfl rfl (Pur.add64 rfl rfl (by assumption)) ?_ | refine Reg.pur rfl rfl rfl rfl (Pur.add rfl rfl) ?_
        refine Reg.pur rfl rfl rfl rfl (Pur.max2 rfl rfl) ?_
        refine Reg.pur rfl rfl rfl rfl (Pur.asg rfl) ?_
        refine Reg.nil ?_
        refine At.region rfl rfl ?_
        first | refine Reg.pur rfl rfl rfl rfl (Pur.add64 rfl rfl (by omega)) ?_ | refine Reg.pur rfl rfl rfl rfl (Pur.add64 rfl rfl (by assumption)) ?_ | refine Reg.pur rfl rfl rfl rfl (Pur.add rfl rfl) ?_
        refine Reg.pur rfl rfl rfl rfl (Pur.mv rfl) ?_
        refine Reg.nil ?_
        refine At.via (ih' (j + 1, _) _ ⟨by omega, rfl, ?_⟩ (by simp only; omega)) ⟨rfl, rfl, rfl, rfl, rfl, rfl, rfl, trivial⟩
        rw [← hgo', drop_getD hltj]; rfl
      · refine At.region rfl rfl ?_
        first | refine Reg.pur rfl rfl rfl rfl (Pur.add64 rfl rfl (by omega)) ?_ | refine Reg.pur rfl rfl rfl rfl (Pur.add64 rfl rfl (by assumption)) ?_ | refine Reg.pur rfl rfl rfl rfl (Pur.add rfl rfl) ?_
        refine Reg.pur rfl rfl rfl rfl (Pur.mv rfl) ?_
        refine Reg.nil ?_
        simp only [decide_eq_false_iff_not] at hb3
        rw [List.drop_of_length_le (by omega)] at hgo'
        have hgm : m' = nm x m := hgo'
        refine At.via (ih (i + 1, m') _ ⟨by omega, hE.trans (hE4.trans hE5), by rw [← hgo, hgm]; rfl⟩ (by simp only; omega)) ⟨rfl, rfl, rfl, rfl, trivial⟩
    · refine At.region rfl rfl ?_
      refine Reg.pur rfl rfl rfl rfl (Pur.mv rfl) ?_
      refine Reg.pur rfl rfl rfl rfl (Pur.asg rfl) ?_
      refine Reg.pur rfl rfl rfl rfl (Pur.asg rfl) ?_
      refine Reg.nil ?_
      refine At.ret rfl Try.func25 rfl ?_
      first | exact ⟨by rw [namesS_f (by simpa using hb1)], hE1⟩ | exact ⟨by simp only [decide_eq_false_iff_not] at hb2; rw [List.drop_of_length_le (by omega)] at hgo; rw [namesS_t (by simpa using hb1), ← hgo]; rfl, hE⟩

theorem namesR_ok {A : Option Addr} {cap : Nat} (L : List (List Int)) (hL : ∀ x ∈ L, x.length = 9) {H : Heap} (hS : SlT H Is 9 (.slice A L.length cap) L) (hm : L.length ≤ 9223372036854775807) :
    Ret Try.prog 26 [.slice A L.length cap] H (fun v H' => v = .tuple #[I (namesS L).1, I (namesS L).2] ∧ Ext H H') := by
  refine Ret.of_at (N := 65) Try.call26 Try.func26 rfl rfl rfl ?_
  refine At.region rfl rfl ?_
  refine Reg.pur rfl rfl rfl rfl (Pur.asg rfl) ?_
  refine Reg.pur rfl rfl rfl rfl (Pur.asg rfl) ?_
  refine Reg.nil ?_
  refine At.region rfl rfl ?_
  refine Reg.pur rfl rfl rfl rfl (Pur.mv rfl) ?_
  refine Reg.op rfl rfl rfl rfl (Does.call rfl (targetMay_ok L hL hS hm)) ?_
  rintro _ H1 ⟨rfl, hE1⟩
  refine Reg.pur rfl rfl rfl rfl (Pur.not rfl) ?_
  refine Reg.nil ?_
  refine At.cond rfl rfl (fun hb1 => ?_) (fun hb1 => ?_)
  · refine At.region rfl rfl ?_
    refine Reg.pur rfl rfl rfl rfl (Pur.asg rfl) ?_
    refine Reg.pur rfl rfl rfl rfl (Pur.asg rfl) ?_
    refine Reg.nil ?_
    refine At.ret rfl Try.func26 rfl ?_
    first | exact ⟨by rw [namesS_f (by simpa using hb1)], hE1⟩ | exact ⟨by simp only [decide_eq_false_iff_not] at hb2; rw [List.drop_of_length_le (by omega)] at hgo; rw [namesS_t (by simpa using hb1), ← hgo]; rfl, hE⟩
  · refine At.region rfl rfl ?_
    refine Reg.pur rfl rfl rfl rfl (Pur.asg rfl) ?_
    refine Reg.nil ?_
    refine At.region rfl rfl ?_
    refine Reg.pur rfl rfl rfl rfl (Pur.asg rfl) ?_
    refine Reg.nil ?_
    refine At.loop (σ := Nat × Int) (fun s => [(5, I s.1), (0, .slice A L.length cap), (4, I s.2)]) (fun s H' => s.1 ≤ L.length ∧ Ext H H' ∧ nms (L.drop s.1) s.2 = nms L 0) (fun s => L.length - s.1) (0, 0) rfl ⟨rfl, rfl, rfl, trivial⟩ ⟨by omega, hE1, rfl⟩ ?_
    rintro ⟨i, m⟩ H2 ⟨hi, hE, hgo⟩ ih
    dsimp only at hi hE hgo ⊢
    refine At.region rfl rfl ?_
    refine Reg.pur rfl rfl rfl rfl (Pur.mv rfl) ?_
    refine Reg.pur rfl rfl rfl rfl (Pur.mv rfl) ?_
    refine Reg.pur rfl rfl rfl rfl (Pur.lenS isl40 rfl) ?_
    refine Reg.pur rfl rfl rfl rfl (Pur.lss rfl rfl) ?_
    refine Reg.nil ?_
    refine At.cond rfl rfl (fun hb2 => ?_) (fun hb2 => ?_)
    · simp only [decide_eq_true_eq] at hb2
      have hlt : i < L.length := by omega
      obtain ⟨b, o, c, rfl, hB, hd, h9⟩ := sl_at hL (hS.ext hE) hlt
      rw [dropL hlt, nms, List.foldl_cons] at hgo
      generalize L[i] = x at hgo hd h9
      refine At.region rfl rfl ?_
      refine Reg.pur rfl rfl rfl rfl (Pur.mv rfl) ?_
      refine Reg.pur rfl rfl rfl rfl (Pur.mv rfl) ?_
      refine Reg.pur rfl rfl rfl rfl (Pur.idx _ es40 rfl rfl (by omega) hb2) ?_
      refine Reg.lod rfl rfl rfl rfl (Lod.ldn ag47 rfl hB hd (by simp [Is, h9])) ?_
      refine Reg.op rfl rfl rfl rfl (Does.alloc zc47) ?_
      rintro _ H3 ⟨rfl, hn3⟩
      refine Reg.op0 rfl rfl rfl (Does.stn ag47 rfl rfl (ones_Is x) (by simp [Is, h9]) hn3.own (by decide)) ?_
      rintro _ H4 hu4
      refine Reg.nil ?_
      have hX : Own H4 H2.size (Is x) := by have := hu4.own; rwa [List.take_zero, List.nil_append, List.drop_of_length_le (by decide), List.append_nil] at this
      have hE4 : Ext H2 H4 := hn3.ext.upd hu4 (Nat.le_refl _)
      have hat : ∀ j, j < 9 → (Is x)[0 + j]? = some (I (x.getD j 0)) := fun j hj => by rw [Nat.zero_add]; exact at_Is (by omega)
      refine At.region rfl rfl ?_
      refine Reg.pur rfl rfl rfl rfl (Pur.fld _ fo47_0 rfl) ?_
      refine Reg.lod rfl rfl rfl rfl (Lod.ld sc3 rfl hX.blk (hat 0 (by omega))) ?_
      refine Reg.nil ?_
      refine At.region rfl rfl ?_
      refine Reg.pur rfl rfl rfl rfl (Pur.eql rfl rfl) ?_
      refine Reg.pur rfl rfl rfl rfl (Pur.asg rfl) ?_
      refine Reg.nil ?_
      refine At.joinc (σ := Int) (fun m' => [(4, I m'), (5, I i), (0, .slice (some ⟨b, o, none⟩) L.length cap)]) (fun m' H' => H' = H4 ∧ m' = nm x m) rfl (fun hJ => ?_) (fun m' H' ⟨h1, h2⟩ => ?_)
      · refine At.cond rfl rfl (fun hb3 => ?_) (fun hb3 => ?_)
        · refine At.region rfl rfl ?_
          refine Reg.pur rfl rfl rfl rfl (Pur.mv rfl) ?_
          refine Reg.pur rfl rfl rfl rfl (Pur.fld _ fo47_4 rfl) ?_
          refine Reg.lod rfl rfl rfl rfl (Lod.ld sc3 rfl hX.blk (hat 4 (by omega))) ?_
          first | refine Reg.pur rfl rfl rfl rfl (Pur.add64 rfl rfl (by omega)) ?_ | refine Reg.pur rfl rfl rfl rfl (Pur.add64 rfl rfl (by assumption)) ?_ | refine Reg.pur rfl rfl rfl rfl (Pur.add rfl rfl) ?_
          refine Reg.pur rfl rfl rfl rfl (Pur.max2 rfl rfl) ?_
          refine Reg.pur rfl rfl rfl rfl (Pur.asg rfl) ?_
          refine Reg.nil ?_
          refine At.meets rfl (hJ _ _ ⟨rfl, ?_⟩) ⟨rfl, rfl, rfl, trivial⟩
          clear hJ
          simp only [decide_eq_true_eq, decide_eq_false_iff_not] at *
          unfold nm nmO nameOffs
          simp only [*]
          simp
        · refine At.region rfl rfl ?_
          refine Reg.pur rfl rfl rfl rfl (Pur.eql rfl rfl) ?_
          refine Reg.pur rfl rfl rfl rfl (Pur.asg rfl) ?_
          refine Reg.nil ?_
          refine At.cond rfl rfl (fun hb4 => ?_) (fun hb4 => ?_)
          · refine At.condT rfl rfl hb4 ?_
            refine At.region rfl rfl ?_
            refine Reg.pur rfl rfl rfl rfl (Pur.mv rfl) ?_
            refine Reg.pur rfl rfl rfl rfl (Pur.fld _ fo47_5 rfl) ?_
            refine Reg.lod rfl rfl rfl rfl (Lod.ld sc3 rfl hX.blk (hat 5 (by omega))) ?_
            first | refine Reg.pur rfl rfl rfl rfl (Pur.add64 rfl rfl (by omega)) ?_ | refine Reg.pur rfl rfl rfl rfl (Pur.add64 rfl rfl (by assumption)) ?_ | refine Reg.pur rfl rfl rfl rfl (Pur.add rfl rfl) ?_
            refine Reg.pur rfl rfl rfl rfl (Pur.max2 rfl rfl) ?_
            refine Reg.pur rfl rfl rfl rfl (Pur.asg rfl) ?_
            refine Reg.nil ?_
            refine At.meets rfl (hJ _ _ ⟨rfl, ?_⟩) ⟨rfl, rfl, rfl, trivial⟩
            clear hJ
            simp only [decide_eq_true_eq, decide_eq_false_iff_not] at *
            unfold nm nmO nameOffs
            simp only [*]
            simp
          · refine At.region rfl rfl ?_
            refine Reg.pur rfl rfl rfl rfl (Pur.eql rfl rfl) ?_
            refine Reg.pur rfl rfl rfl rfl (Pur.asg rfl) ?_
            refine Reg.nil ?_
            refine At.cond rfl rfl (fun hb5 => ?_) (fun hb5 => ?_)
            · refine At.condT rfl rfl hb5 ?_
              refine At.region rfl rfl ?_
              refine Reg.pur rfl rfl rfl rfl (Pur.mv rfl) ?_
              refine Reg.pur rfl rfl rfl rfl (Pur.fld _ fo47_5 rfl) ?_
              refine Reg.lod rfl rfl rfl rfl (Lod.ld sc3 rfl hX.blk (hat 5 (by omega))) ?_
              first | refine Reg.pur rfl rfl rfl rfl (Pur.add64 rfl rfl (by omega)) ?_ | refine Reg.pur rfl rfl rfl rfl (Pur.add64 rfl rfl (by assumption)) ?_ | refine Reg.pur rfl rfl rfl rfl (Pur.add rfl rfl) ?_
              refine Reg.pur rfl rfl rfl rfl (Pur.max2 rfl rfl) ?_
              refine Reg.pur rfl rfl rfl rfl (Pur.asg rfl) ?_
              refine Reg.nil ?_
              refine At.meets rfl (hJ _ _ ⟨rfl, ?_⟩) ⟨rfl, rfl, rfl, trivial⟩
              clear hJ
              simp only [decide_eq_true_eq, decide_eq_false_iff_not] at *
              unfold nm nmO nameOffs
              simp only [*]
              simp
            · refine At.region rfl rfl ?_
              refine Reg.pur rfl rfl rfl rfl (Pur.eql rfl rfl) ?_
              refine Reg.pur rfl rfl rfl rfl (Pur.asg rfl) ?_
              refine Reg.nil ?_
              refine At.cond rfl rfl (fun hb6 => ?_) (fun hb6 => ?_)
              · refine At.region rfl rfl ?_
                refine Reg.pur rfl rfl rfl rfl (Pur.mv rfl) ?_
                refine Reg.pur rfl rfl rfl rfl (Pur.fld _ fo47_5 rfl) ?_
                refine Reg.lod rfl rfl rfl rfl (Lod.ld sc3 rfl hX.blk (hat 5 (by omega))) ?_
                first | refine Reg.pur rfl rfl rfl rfl (Pur.add64 rfl rfl (by omega)) ?_ | refine Reg.pur rfl rfl rfl rfl (Pur.add64 rfl rfl (by assumption)) ?_ | refine Reg.pur rfl rfl rfl rfl (Pur.add rfl rfl) ?_
                refine Reg.pur rfl rfl rfl rfl (Pur.max2 rfl rfl) ?_
                refine Reg.pur rfl rfl rfl rfl (Pur.asg rfl) ?_
                refine Reg.nil ?_
                refine At.meets rfl (hJ _ _ ⟨rfl, ?_⟩) ⟨rfl, rfl, rfl, trivial⟩
                clear hJ
                simp only [decide_eq_true_eq, decide_eq_false_iff_not] at *
                unfold nm nmO nameOffs
                simp only [*]
                simp
              · refine At.region rfl rfl ?_
                refine Reg.pur rfl rfl rfl rfl (Pur.eql rfl rfl) ?_
                refine Reg.pur rfl rfl rfl rfl (Pur.asg rfl) ?_
                refine Reg.nil ?_
                refine At.cond rfl rfl (fun hb7 => ?_) (fun hb7 => ?_)
                · refine At.region rfl rfl ?_
                  refine Reg.pur rfl rfl rfl rfl (Pur.mv rfl) ?_
                  refine Reg.pur rfl rfl rfl rfl (Pur.fld _ fo47_5 rfl) ?_
                  refine Reg.lod rfl rfl rfl rfl (Lod.ld sc3 rfl hX.blk (hat 5 (by omega))) ?_
                  first | refine Reg.pur rfl rfl rfl rfl (Pur.add64 rfl rfl (by omega)) ?_ | refine Reg.pur rfl rfl rfl rfl (Pur.add64 rfl rfl (by assumption)) ?_ | refine Reg.pur rfl rfl rfl rfl (Pur.add rfl rfl) ?_
                  refine Reg.pur rfl rfl rfl rfl (Pur.fld _ fo47_6 rfl) ?_
                  refine Reg.lod rfl rfl rfl rfl (Lod.ld sc3 rfl hX.blk (hat 6 (by omega))) ?_
                  first | refine Reg.pur rfl rfl rfl rfl (Pur.add64 rfl rfl (by omega)) ?_ | refine Reg.pur rfl rfl rfl rfl (Pur.add64 rfl rfl (by assumption)) ?_ | refine Reg.pur rfl rfl rfl rfl (Pur.add rfl rfl) ?_
                  refine Reg.pur rfl rfl rfl rfl (Pur.maxs [_, _] (xs := [_, _, _]) rfl) ?_
                  refine Reg.pur rfl rfl rfl rfl (Pur.asg rfl) ?_
                  refine Reg.nil ?_
                  refine At.meets rfl (hJ _ _ ⟨rfl, ?_⟩) ⟨rfl, rfl, rfl, trivial⟩
                  clear hJ
                  simp only [decide_eq_true_eq, decide_eq_false_iff_not] at *
                  unfold nm nmO nameOffs
                  simp only [*]
                  simp
                · refine At.region rfl rfl ?_
                  refine Reg.pur rfl rfl rfl rfl (Pur.eql rfl rfl) ?_
                  refine Reg.pur rfl rfl rfl rfl (Pur.asg rfl) ?_
                  refine Reg.nil ?_
                  refine At.cond rfl rfl (fun hb8 => ?_) (fun hb8 => ?_)
                  · refine At.region rfl rfl ?_
                    refine Reg.pur rfl rfl rfl rfl (Pur.mv rfl) ?_
                    refine Reg.pur rfl rfl rfl rfl (Pur.fld _ fo47_5 rfl) ?_
                    refine Reg.lod rfl rfl rfl rfl (Lod.ld sc3 rfl hX.blk (hat 5 (by omega))) ?_
                    first | refine Reg.pur rfl rfl rfl rfl (Pur.add64 rfl rfl (by omega)) ?_ | refine Reg.pur rfl rfl rfl rfl (Pur.add64 rfl rfl (by assumption)) ?_ | refine Reg.pur rfl rfl rfl rfl (Pur.add rfl rfl) ?_
                    refine Reg.pur rfl rfl rfl rfl (Pur.fld _ fo47_6 rfl) ?_
                    refine Reg.lod rfl rfl rfl rfl (Lod.ld sc3 rfl hX.blk (hat 6 (by omega))) ?_
                    first | refine Reg.pur rfl rfl rfl rfl (Pur.add64 rfl rfl (by omega)) ?_ | refine Reg.pur rfl rfl rfl rfl (Pur.add64 rfl rfl (by assumption)) ?_ | refine Reg.pur rfl rfl rfl rfl (Pur.add rfl rfl) ?_
                    refine Reg.pur rfl rfl rfl rfl (Pur.fld _ fo47_7 rfl) ?_
                    refine Reg.lod rfl rfl rfl rfl (Lod.ld sc3 rfl hX.blk (hat 7 (by omega))) ?_
                    first | refine Reg.pur rfl rfl rfl rfl (Pur.add64 rfl rfl (by omega)) ?_ | refine Reg.pur rfl rfl rfl rfl (Pur.add64 rfl rfl (by assumption)) ?_ | refine Reg.pur rfl rfl rfl rfl (Pur.add rfl rfl) ?_
                    refine Reg.pur rfl rfl rfl rfl (Pur.fld _ fo47_8 rfl) ?_
                    refine Reg.lod rfl rfl rfl rfl (Lod.ld sc3 rfl hX.blk (hat 8 (by omega))) ?_
                    first | refine Reg.pur rfl rfl rfl rfl (Pur.add64 rfl rfl (by omega)) ?_ | refine Reg.pur rfl rfl rfl rfl (Pur.add64 rfl rfl (by assumption)) ?_ | refine Reg.pur rfl rfl rfl rfl (Pur.add rfl rfl) ?_
                    refine Reg.pur rfl rfl rfl rfl (Pur.maxs [_, _, _, _] (xs := [_, _, _, _, _]) rfl) ?_
                    refine Reg.pur rfl rfl rfl rfl (Pur.asg rfl) ?_
                    refine Reg.nil ?_
                    refine At.meets rfl (hJ _ _ ⟨rfl, ?_⟩) ⟨rfl, rfl, rfl, trivial⟩
                    clear hJ
                    simp only [decide_eq_true_eq, decide_eq_false_iff_not] at *
                    unfold nm nmO nameOffs
                    simp only [*]
                    simp
                  · refine At.meets rfl (hJ _ _ ⟨rfl, ?_⟩) ⟨rfl, rfl, rfl, trivial⟩
                    clear hJ
                    simp only [decide_eq_true_eq, decide_eq_false_iff_not] at *
                    unfold nm nmO nameOffs
                    simp only [*]
                    simp
      · subst h1
        subst h2
        refine At.region rfl rfl ?_
        refine Reg.pur rfl rfl rfl rfl (Pur.mv rfl) ?_
        first | refine Reg.pur rfl rfl rfl rfl (Pur.add64 rfl rfl (by omega)) ?_ | refine Reg.pur rfl rfl rfl rfl (Pur.add64 rfl rfl (by assumption)) ?_ | refine Reg.pur rfl rfl rfl rfl (Pur.add rfl rfl) ?_
        refine Reg.pur rfl rfl rfl rfl (Pur.asg rfl) ?_
        refine Reg.nil ?_
        refine At.via (ih (i + 1, nm x m) _ ⟨by omega, hE.trans hE4, hgo⟩ (by simp only; omega)) ⟨rfl, rfl, rfl, trivial⟩
    · refine At.region rfl rfl ?_
      refine Reg.pur rfl rfl rfl rfl (Pur.mv rfl) ?_
      refine Reg.pur rfl rfl rfl rfl (Pur.asg rfl) ?_
      refine Reg.pur rfl rfl rfl rfl (Pur.asg rfl) ?_
      refine Reg.nil ?_
      refine At.ret rfl Try.func26 rfl ?_
      first | exact ⟨by rw [namesS_f (by simpa using hb1)], hE1⟩ | exact ⟨by simp only [decide_eq_false_iff_not] at hb2; rw [List.drop_of_length_le (by omega)] at hgo; rw [namesS_t (by simpa using hb1), ← hgo]; rfl, hE⟩
end Go.Proofs.Ytkniihjfcagdbaa
