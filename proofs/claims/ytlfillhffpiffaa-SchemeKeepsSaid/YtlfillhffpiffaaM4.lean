/-
  SchA SchB SchC SchD SchE SchF SchG SchH SchI SchJ SchK SchL SchM SchU: joined texts.
-/
import Derived.Test.YtlfillhffpiffaaM1
import Derived.Test.YtlfillhffpiffaaProg
import Derived.Test.YtlfillhffpiffaaM2
import Derived.Test.YtlfillhffpiffaaM3
/-
  Slices of ints: where a number stands, what is not among others.
-/
namespace Go.Proofs.Ytlfillhffpiffaa
set_option linter.unusedSimpArgs false
set_option linter.unusedVariables false
set_option maxRecDepth 8000
open Go Go.Fx Go.Proofs
namespace FactsSchA
theorem apt54 : appT Try.prog 54 = some (3, 1, 8) := by kernel_rfl
theorem es54 : esz Try.prog 54 = some 1 := by kernel_rfl
theorem isl54 : isSl Try.prog 54 = true := by kernel_rfl
theorem sc3 : sc Try.prog 3 = true := by kernel_rfl
theorem sl1_54 : sl1 Try.prog 54 = true := by kernel_rfl
end FactsSchA
open FactsSchA

/-- where a number stands; the length, if it is not there -/
def ixL : List Int → Int → Nat
  | [], _ => 0
  | x :: l, v => if x = v then 0 else ixL l v + 1
def inL (l : List Int) (v : Int) : Bool := decide (ixL l v < l.length)
theorem ixL_le : ∀ (l : List Int) (v : Int), ixL l v ≤ l.length
  | [], _ => Nat.le_refl _
  | x :: l, v => by
    simp only [ixL]; split
    · simp
    · simp only [List.length_cons]; have := ixL_le l v; omega
theorem inL_mem : ∀ {l : List Int} {v : Int}, inL l v = true ↔ v ∈ l
  | [], v => by simp [inL, ixL]
  | x :: l, v => by
    have ih := inL_mem (l := l) (v := v)
    simp only [inL, decide_eq_true_eq] at ih ⊢
    simp only [ixL, List.mem_cons, List.length_cons]
    split
    · rename_i h; simp [h]
    · rename_i h
      rw [← ih]
      constructor
      · intro h'; right; omega
      · rintro (h' | h')
        · exact (h h'.symm).elim
        · omega
theorem ix_drop {l : List Int} {i : Nat} {v : Int} (hi : i < l.length) : ixL (l.drop i) v = if l[i] = v then 0 else ixL (l.drop (i + 1)) v + 1 := by
  rw [dropL hi, ixL]
theorem ix_end {l : List Int} {i : Nat} {v : Int} (hi : l.length ≤ i) : ixL (l.drop i) v = 0 := by rw [List.drop_of_length_le hi]; rfl
theorem int_at {l : List Int} {H : Heap} {A : Option Addr} {cap : Nat} (hS : SlT H e1 1 (.slice A l.length cap) l) {i : Nat} (hi : i < l.length) :
    ∃ b o c, A = some ⟨b, o, none⟩ ∧ Blk H b c ∧ c[o + i * 1]? = some (I l[i]) := by
  obtain ⟨b, o, c, h1, h2, h3, _⟩ := sl_at (wide1 l) hS hi
  exact ⟨b, o, c, h1, h2, by have := at_tk (j := 0) h3 (by omega) (v := I l[i]) rfl; simpa using this⟩

theorem index_ok {A : Option Addr} {cap : Nat} (l : List Int) {H : Heap} (hS : SlT H e1 1 (.slice A l.length cap) l) (hm : l.length ≤ 9223372036854775807) (v : Int) :
    Ret Try.prog 125 [.slice A l.length cap, I v] H (fun r H' => r = I (if inL l v then ixL l v else -1) ∧ H' = H) := by
  refine Ret.of_at (N := 19) Try.call125 Try.func125 rfl rfl rfl ?_
  have hE := Ext.refl H
  refine At.region rfl rfl ?_
  refine Reg.pur rfl rfl rfl rfl (Pur.asg rfl) ?_
  refine Reg.nil ?_
  refine At.region rfl rfl ?_
  refine Reg.pur rfl rfl rfl rfl (Pur.mv rfl) ?_
  refine Reg.pur rfl rfl rfl rfl (Pur.lenS isl54 rfl) ?_
  refine Reg.pur rfl rfl rfl rfl (Pur.mv rfl) ?_
  refine Reg.nil ?_
  refine At.loop (σ := Nat) (fun i => [(8, I i), (7, I l.length), (0, .slice A l.length cap), (1, I v)]) (fun i H' => i ≤ l.length ∧ H' = H ∧ ixL l v = i + ixL (l.drop i) v) (fun i => l.length - i) 0 rfl ⟨rfl, rfl, rfl, rfl, trivial⟩ ⟨by omega, rfl, by simp⟩ ?_
  rintro i H ⟨hi, rfl, hgo⟩ ih
  refine At.region rfl rfl ?_
  refine Reg.pur rfl rfl rfl rfl (Pur.lss rfl rfl) ?_
  refine Reg.nil ?_
  refine At.cond rfl rfl (fun q9 => ?_) (fun q9 => ?_)
  · first | (simp only [decide_eq_true_eq, decide_eq_false_iff_not, Bool.not_eq_true', Bool.not_eq_false', ne_eq, Decidable.not_not, Bool.not_eq_true, Bool.not_eq_false] at q9) | (dsimp only at q9) | skip
    have hlt : i < l.length := by omega
    obtain ⟨b, o, c, rfl, hB, hc⟩ := int_at hS hlt
    rw [ix_drop hlt] at hgo
    refine At.region rfl rfl ?_
    refine Reg.pur rfl rfl rfl rfl (Pur.mv rfl) ?_
    refine Reg.pur rfl rfl rfl rfl (Pur.asg rfl) ?_
    refine Reg.nil ?_
    refine At.region rfl rfl ?_
    refine Reg.pur rfl rfl rfl rfl (Pur.mv rfl) ?_
    refine Reg.pur rfl rfl rfl rfl (Pur.mv rfl) ?_
    refine Reg.pur rfl rfl rfl rfl (Pur.mv rfl) ?_
    refine Reg.pur rfl rfl rfl rfl (Pur.idx _ es54 rfl rfl (by omega) (by omega)) ?_
    refine Reg.lod rfl rfl rfl rfl (Lod.ld sc3 rfl hB hc) ?_
    refine Reg.pur rfl rfl rfl rfl (Pur.eql rfl rfl) ?_
    refine Reg.nil ?_
    refine At.cond rfl rfl (fun q16 => ?_) (fun q16 => ?_)
    · first | (simp only [decide_eq_true_eq, decide_eq_false_iff_not, Bool.not_eq_true', Bool.not_eq_false', ne_eq, Decidable.not_not, Bool.not_eq_true, Bool.not_eq_false] at q16) | (dsimp only at q16) | skip
      refine At.region rfl rfl ?_
      refine Reg.pur rfl rfl rfl rfl (Pur.mv rfl) ?_
      refine Reg.pur rfl rfl rfl rfl (Pur.asg rfl) ?_
      refine Reg.nil ?_
      refine At.ret rfl Try.func125 rfl ?_
      rw [if_pos q16.symm] at hgo
      exact ⟨by rw [if_pos (by simp [inL]; omega)]; congr 1; omega, rfl⟩
    · first | (simp only [decide_eq_true_eq, decide_eq_false_iff_not, Bool.not_eq_true', Bool.not_eq_false', ne_eq, Decidable.not_not, Bool.not_eq_true, Bool.not_eq_false] at q16) | (dsimp only at q16) | skip
      refine At.region rfl rfl ?_
      first | refine Reg.pur rfl rfl rfl rfl (Pur.add64 rfl rfl (by omega)) ?_ | refine Reg.pur rfl rfl rfl rfl (Pur.add64 rfl rfl (by assumption)) ?_ | refine Reg.pur rfl rfl rfl rfl (Pur.add rfl rfl) ?_
      refine Reg.pur rfl rfl rfl rfl (Pur.mv rfl) ?_
      refine Reg.nil ?_
      rw [if_neg (fun h => q16 h.symm)] at hgo
      exact At.via (ih (i + 1) _ ⟨by omega, rfl, by omega⟩ (by omega)) ⟨rfl, rfl, rfl, rfl, trivial⟩
  · first | (simp only [decide_eq_true_eq, decide_eq_false_iff_not, Bool.not_eq_true', Bool.not_eq_false', ne_eq, Decidable.not_not, Bool.not_eq_true, Bool.not_eq_false] at q9) | (dsimp only at q9) | skip
    refine At.region rfl rfl ?_
    refine Reg.pur rfl rfl rfl rfl (Pur.asg rfl) ?_
    refine Reg.nil ?_
    refine At.ret rfl Try.func125 rfl ?_
    rw [ix_end (by omega)] at hgo
    exact ⟨by rw [if_neg (by simp [inL]; omega)], rfl⟩

theorem contains_ok {A : Option Addr} {cap : Nat} (l : List Int) {H : Heap} (hS : SlT H e1 1 (.slice A l.length cap) l) (hm : l.length ≤ 9223372036854775807) (v : Int) :
    Ret Try.prog 93 [.slice A l.length cap, I v] H (fun r H' => r = .bool (inL l v) ∧ H' = H) := by
  refine Ret.of_at (N := 9) Try.call93 Try.func93 rfl rfl rfl ?_
  have hE := Ext.refl H
  refine At.region rfl rfl ?_
  refine Reg.pur rfl rfl rfl rfl (Pur.asg rfl) ?_
  refine Reg.nil ?_
  refine At.region rfl rfl ?_
  refine Reg.pur rfl rfl rfl rfl (Pur.mv rfl) ?_
  refine Reg.pur rfl rfl rfl rfl (Pur.mv rfl) ?_
  refine Reg.op rfl rfl rfl rfl (Does.call rfl (index_ok l hS hm v)) ?_
  rintro _ H ⟨rfl, rfl⟩
  refine Reg.pur rfl rfl rfl rfl (Pur.geq rfl rfl) ?_
  refine Reg.pur rfl rfl rfl rfl (Pur.asg rfl) ?_
  refine Reg.nil ?_
  refine At.ret rfl Try.func93 rfl ?_
  refine ⟨congrArg Value.bool ?_, rfl⟩
  split
  · rename_i h; rw [h]; simp
  · rename_i h; simp at h; rw [h]; simp

theorem has_ok {A : Option Addr} {cap : Nat} (l : List Int) {H : Heap} (hS : SlT H e1 1 (.slice A l.length cap) l) (hm : l.length ≤ 9223372036854775807) (v : Int) :
    Ret Try.prog 94 [.slice A l.length cap, I v] H (fun r H' => r = .bool (inL l v) ∧ H' = H) := by
  refine Ret.of_at (N := 18) Try.call94 Try.func94 rfl rfl rfl ?_
  have hE := Ext.refl H
  refine At.region rfl rfl ?_
  refine Reg.pur rfl rfl rfl rfl (Pur.asg rfl) ?_
  refine Reg.nil ?_
  refine At.region rfl rfl ?_
  refine Reg.pur rfl rfl rfl rfl (Pur.asg rfl) ?_
  refine Reg.nil ?_
  refine At.loop (σ := Nat) (fun i => [(5, I i), (0, .slice A l.length cap), (1, I v)]) (fun i H' => i ≤ l.length ∧ H' = H ∧ ixL l v = i + ixL (l.drop i) v) (fun i => l.length - i) 0 rfl ⟨rfl, rfl, rfl, trivial⟩ ⟨by omega, rfl, by simp⟩ ?_
  rintro i H ⟨hi, rfl, hgo⟩ ih
  refine At.region rfl rfl ?_
  refine Reg.pur rfl rfl rfl rfl (Pur.mv rfl) ?_
  refine Reg.pur rfl rfl rfl rfl (Pur.mv rfl) ?_
  refine Reg.pur rfl rfl rfl rfl (Pur.lenS isl54 rfl) ?_
  refine Reg.pur rfl rfl rfl rfl (Pur.lss rfl rfl) ?_
  refine Reg.nil ?_
  refine At.cond rfl rfl (fun q9 => ?_) (fun q9 => ?_)
  · first | (simp only [decide_eq_true_eq, decide_eq_false_iff_not, Bool.not_eq_true', Bool.not_eq_false', ne_eq, Decidable.not_not, Bool.not_eq_true, Bool.not_eq_false] at q9) | (dsimp only at q9) | skip
    have hlt : i < l.length := by omega
    obtain ⟨b, o, c, rfl, hB, hc⟩ := int_at hS hlt
    rw [ix_drop hlt] at hgo
    refine At.region rfl rfl ?_
    refine Reg.pur rfl rfl rfl rfl (Pur.mv rfl) ?_
    refine Reg.pur rfl rfl rfl rfl (Pur.mv rfl) ?_
    refine Reg.pur rfl rfl rfl rfl (Pur.idx _ es54 rfl rfl (by omega) (by omega)) ?_
    refine Reg.lod rfl rfl rfl rfl (Lod.ld sc3 rfl hB hc) ?_
    refine Reg.pur rfl rfl rfl rfl (Pur.mv rfl) ?_
    refine Reg.pur rfl rfl rfl rfl (Pur.eql rfl rfl) ?_
    refine Reg.nil ?_
    refine At.cond rfl rfl (fun q17 => ?_) (fun q17 => ?_)
    · first | (simp only [decide_eq_true_eq, decide_eq_false_iff_not, Bool.not_eq_true', Bool.not_eq_false', ne_eq, Decidable.not_not, Bool.not_eq_true, Bool.not_eq_false] at q17) | (dsimp only at q17) | skip
      refine At.region rfl rfl ?_
      refine Reg.pur rfl rfl rfl rfl (Pur.asg rfl) ?_
      refine Reg.nil ?_
      refine At.ret rfl Try.func94 rfl ?_
      rw [if_pos q17] at hgo
      exact ⟨congrArg Value.bool (by simp [inL]; omega), rfl⟩
    · first | (simp only [decide_eq_true_eq, decide_eq_false_iff_not, Bool.not_eq_true', Bool.not_eq_false', ne_eq, Decidable.not_not, Bool.not_eq_true, Bool.not_eq_false] at q17) | (dsimp only at q17) | skip
      refine At.region rfl rfl ?_
      refine Reg.pur rfl rfl rfl rfl (Pur.mv rfl) ?_
      first | refine Reg.pur rfl rfl rfl rfl (Pur.add64 rfl rfl (by omega)) ?_ | refine Reg.pur rfl rfl rfl rfl (Pur.add64 rfl rfl (by assumption)) ?_ | refine Reg.pur rfl rfl rfl rfl (Pur.add rfl rfl) ?_
      refine Reg.pur rfl rfl rfl rfl (Pur.asg rfl) ?_
      refine Reg.nil ?_
      rw [if_neg q17] at hgo
      exact At.via (ih (i + 1) _ ⟨by omega, rfl, by omega⟩ (by omega)) ⟨rfl, rfl, rfl, trivial⟩
  · first | (simp only [decide_eq_true_eq, decide_eq_false_iff_not, Bool.not_eq_true', Bool.not_eq_false', ne_eq, Decidable.not_not, Bool.not_eq_true, Bool.not_eq_false] at q9) | (dsimp only at q9) | skip
    refine At.region rfl rfl ?_
    refine Reg.pur rfl rfl rfl rfl (Pur.asg rfl) ?_
    refine Reg.nil ?_
    refine At.ret rfl Try.func94 rfl ?_
    rw [ix_end (by omega)] at hgo
    exact ⟨congrArg Value.bool (by simp [inL]; omega), rfl⟩

/-- what is not among others -/
def wo (l k : List Int) : List Int := l.filter fun v => !inL k v
theorem wo_take {l k : List Int} {i : Nat} (hi : i < l.length) : wo (l.take (i + 1)) k = wo (l.take i) k ++ (if inL k l[i] then [] else [l[i]]) := by
  unfold wo; rw [List.take_succ_eq_append_getElem hi, List.filter_append]
  cases h : inL k l[i] <;> simp [h]
theorem wo_len {l k : List Int} {i : Nat} (hi : i ≤ l.length) : (wo (l.take i) k).length ≤ i := Nat.le_trans (List.length_filter_le _ _) (by simp; omega)
theorem wo_all {l k : List Int} (h : ∀ v ∈ l, inL k v = false) : wo l k = l := by
  unfold wo; rw [List.filter_eq_self]; intro v hv; simp [h v hv]

/-- The reference's. -/
theorem withoutR_ok {A A2 : Option Addr} {cap cap2 : Nat} (l k : List Int) {H : Heap} (hS : SlT H e1 1 (.slice A l.length cap) l) (hk : SlT H e1 1 (.slice A2 k.length cap2) k) (hm : l.length * 8 ≤ 140737488351232) (hmk : k.length ≤ 9223372036854775807) :
    Ret Try.prog 67 [.slice A l.length cap, .slice A2 k.length cap2] H (fun r H' => (∃ A' cap', r = .slice A' (wo l k).length cap' ∧ Gs H' H.size 3 1 A' cap' (wo l k).length ((wo l k).flatMap e1)) ∧ Ext H H') := by
  refine Ret.of_at (N := 28) Try.call67 Try.func67 rfl rfl rfl ?_
  have hE := Ext.refl H
  refine At.region rfl rfl ?_
  refine Reg.pur rfl rfl rfl rfl (Pur.asg rfl) ?_
  refine Reg.nil ?_
  refine At.region rfl rfl ?_
  refine Reg.pur rfl rfl rfl rfl (Pur.asg rfl) ?_
  refine Reg.nil ?_
  refine At.region rfl rfl ?_
  refine Reg.pur rfl rfl rfl rfl (Pur.asg rfl) ?_
  refine Reg.nil ?_
  refine At.loop (σ := Nat × List Int × Option Addr × Nat) (fun (i, out, A', cap') => [(6, I i), (5, .slice A' out.length cap'), (0, .slice A l.length cap), (1, .slice A2 k.length cap2)]) (fun (i, out, A', cap') H' => i ≤ l.length ∧ out = wo (l.take i) k ∧ Gs H' H.size 3 1 A' cap' out.length (out.flatMap e1) ∧ Ext H H') (fun s => l.length - s.1) (0, [], none, 0) rfl ⟨rfl, rfl, rfl, rfl, trivial⟩ ⟨by omega, rfl, OwnS.nilG, hE⟩ ?_
  rintro ⟨i, out, A', cap'⟩ H3 ⟨hi, hout, hg, hE⟩ ih
  dsimp only at hi hout hg ⊢
  have z_hE := hE.lt
  have z_hg := hg.lt
  have hol : out.length ≤ i := by rw [hout]; exact wo_len hi
  refine At.region rfl rfl ?_
  refine Reg.pur rfl rfl rfl rfl (Pur.mv rfl) ?_
  refine Reg.pur rfl rfl rfl rfl (Pur.mv rfl) ?_
  refine Reg.pur rfl rfl rfl rfl (Pur.lenS isl54 rfl) ?_
  refine Reg.pur rfl rfl rfl rfl (Pur.lss rfl rfl) ?_
  refine Reg.nil ?_
  refine At.cond rfl rfl (fun q10 => ?_) (fun q10 => ?_)
  · first | (simp only [decide_eq_true_eq, decide_eq_false_iff_not, Bool.not_eq_true', Bool.not_eq_false', ne_eq, Decidable.not_not, Bool.not_eq_true, Bool.not_eq_false] at q10) | (dsimp only at q10) | skip
    have hlt : i < l.length := by omega
    obtain ⟨b, o, c, rfl, hB, hc⟩ := int_at (hS.ext hE) hlt
    have hnx := wo_take (k := k) hlt
    rw [← hout] at hnx
    refine At.region rfl rfl ?_
    refine Reg.pur rfl rfl rfl rfl (Pur.mv rfl) ?_
    refine Reg.pur rfl rfl rfl rfl (Pur.mv rfl) ?_
    refine Reg.pur rfl rfl rfl rfl (Pur.mv rfl) ?_
    refine Reg.pur rfl rfl rfl rfl (Pur.idx _ es54 rfl rfl (by omega) (by omega)) ?_
    refine Reg.lod rfl rfl rfl rfl (Lod.ld sc3 rfl hB hc) ?_
    refine Reg.op rfl rfl rfl rfl (Does.call rfl (has_ok k (hk.ext hE) hmk _)) ?_
    rintro _ H3 ⟨rfl, rfl⟩
    refine Reg.pur rfl rfl rfl rfl (Pur.not rfl) ?_
    refine Reg.nil ?_
    refine At.cond rfl rfl (fun q19 => ?_) (fun q19 => ?_)
    · first | (simp only [decide_eq_true_eq, decide_eq_false_iff_not, Bool.not_eq_true', Bool.not_eq_false', ne_eq, Decidable.not_not, Bool.not_eq_true, Bool.not_eq_false] at q19) | (dsimp only at q19) | skip
      refine At.region rfl rfl ?_
      refine Reg.pur rfl rfl rfl rfl (Pur.mv rfl) ?_
      refine Reg.pur rfl rfl rfl rfl (Pur.mv rfl) ?_
      refine Reg.pur rfl rfl rfl rfl (Pur.mv rfl) ?_
      refine Reg.pur rfl rfl rfl rfl (Pur.idx _ es54 rfl rfl (by omega) (by omega)) ?_
      refine Reg.lod rfl rfl rfl rfl (Lod.ld sc3 rfl hB hc) ?_
      refine Reg.op rfl rfl rfl rfl (Does.bsl1 sl1_54 rfl rfl rfl rfl rfl) ?_
      rintro _ H6_5 ⟨rfl, hn6_5⟩
      have z6_5 := hn6_5.size
      replace hE := hE.ext hn6_5.ext
      replace hg := hg.ext hn6_5.ext
      have o6_5 := hn6_5.own
      refine Reg.op rfl rfl rfl rfl (Does.appL apt54 rfl rfl (by decide) hg (wide1 _) (sl_new (L := [l[i]]) (wide1 _) (by decide) hn6_5 (by simp)) (ones_e1 _) (by simp; omega) (by omega)) ?_
      rintro _ H6_6 ⟨A6_6, cap6_6, rfl, g6_6, hbut6_6, ha6_6⟩
      have z6_6 := hbut6_6.lt
      replace hE := hE.via hbut6_6 (by first | omega | (intro g; omega) | (intro g hg; omega) | (intro g hg h; omega))
      replace o6_5 := o6_5.via hbut6_6 (by first | omega | (intro g; omega) | (intro g hg; omega) | (intro g hg h; omega))
      replace hg := g6_6
      have zg6_6 := g6_6.lt
      refine Reg.pur rfl rfl rfl rfl (Pur.asg rfl) ?_
      refine Reg.nil ?_
      refine At.region rfl rfl ?_
      refine Reg.pur rfl rfl rfl rfl (Pur.mv rfl) ?_
      first | refine Reg.pur rfl rfl rfl rfl (Pur.add64 rfl rfl (by omega)) ?_ | refine Reg.pur rfl rfl rfl rfl (Pur.add64 rfl rfl (by assumption)) ?_ | refine Reg.pur rfl rfl rfl rfl (Pur.add rfl rfl) ?_
      refine Reg.pur rfl rfl rfl rfl (Pur.asg rfl) ?_
      refine Reg.nil ?_
      first | (rw [q19, if_neg (by decide)] at hnx; exact At.via (ih (i + 1, out ++ [l[i]], A6_6, cap6_6) _ ⟨by omega, hnx.symm, hg, hE⟩ (by simp only; omega)) ⟨rfl, rfl, rfl, rfl, trivial⟩) | (rw [q19, if_pos rfl, List.append_nil] at hnx; exact At.via (ih (i + 1, out, A', cap') _ ⟨by omega, hnx.symm, hg, hE⟩ (by simp only; omega)) ⟨rfl, rfl, rfl, rfl, trivial⟩)
    · first | (simp only [decide_eq_true_eq, decide_eq_false_iff_not, Bool.not_eq_true', Bool.not_eq_false', ne_eq, Decidable.not_not, Bool.not_eq_true, Bool.not_eq_false] at q19) | (dsimp only at q19) | skip
      refine At.region rfl rfl ?_
      refine Reg.pur rfl rfl rfl rfl (Pur.mv rfl) ?_
      first | refine Reg.pur rfl rfl rfl rfl (Pur.add64 rfl rfl (by omega)) ?_ | refine Reg.pur rfl rfl rfl rfl (Pur.add64 rfl rfl (by assumption)) ?_ | refine Reg.pur rfl rfl rfl rfl (Pur.add rfl rfl) ?_
      refine Reg.pur rfl rfl rfl rfl (Pur.asg rfl) ?_
      refine Reg.nil ?_
      first | (rw [q19, if_neg (by decide)] at hnx; exact At.via (ih (i + 1, out ++ [l[i]], A6_6, cap6_6) _ ⟨by omega, hnx.symm, hg, hE⟩ (by simp only; omega)) ⟨rfl, rfl, rfl, rfl, trivial⟩) | (rw [q19, if_pos rfl, List.append_nil] at hnx; exact At.via (ih (i + 1, out, A', cap') _ ⟨by omega, hnx.symm, hg, hE⟩ (by simp only; omega)) ⟨rfl, rfl, rfl, rfl, trivial⟩)
  · first | (simp only [decide_eq_true_eq, decide_eq_false_iff_not, Bool.not_eq_true', Bool.not_eq_false', ne_eq, Decidable.not_not, Bool.not_eq_true, Bool.not_eq_false] at q10) | (dsimp only at q10) | skip
    refine At.region rfl rfl ?_
    refine Reg.pur rfl rfl rfl rfl (Pur.mv rfl) ?_
    refine Reg.pur rfl rfl rfl rfl (Pur.asg rfl) ?_
    refine Reg.nil ?_
    refine At.ret rfl Try.func67 rfl ?_
    rw [List.take_of_length_le (by omega)] at hout
    subst hout
    exact ⟨⟨A', cap', rfl, hg⟩, hE⟩
end Go.Proofs.Ytlfillhffpiffaa

/-
  scheme.without: numbers that are not among others.
-/
namespace Go.Proofs.Ytlfillhffpiffaa
set_option linter.unusedSimpArgs false
set_option linter.unusedVariables false
set_option maxRecDepth 8000
open Go Go.Fx Go.Proofs
namespace FactsSchB
theorem apt54 : appT Try.prog 54 = some (3, 1, 8) := by kernel_rfl
theorem es54 : esz Try.prog 54 = some 1 := by kernel_rfl
theorem isSlN54 : isSl' Try.prog 54 = true := by kernel_rfl
theorem isl54 : isSl Try.prog 54 = true := by kernel_rfl
theorem mkT54 : mkT Try.prog 54 = some (3, .int .i64 0, 8) := by kernel_rfl
theorem sc3 : sc Try.prog 3 = true := by kernel_rfl
theorem sc54 : sc Try.prog 54 = true := by kernel_rfl
theorem sl1_54 : sl1 Try.prog 54 = true := by kernel_rfl
end FactsSchB
open FactsSchB

theorem without1_ok {A2 : Option Addr} {cap2 kb : Nat} (k : List Int) (v : Int) {H : Heap} (hb : Blk H kb [.slice A2 k.length cap2]) (hk : SlT H e1 1 (.slice A2 k.length cap2) k) (hmk : k.length ≤ 9223372036854775807) :
    Ret Try.prog 92 [I v, ptr kb 0] H (fun r H' => r = .bool (inL k v) ∧ H' = H) := by
  refine Ret.of_at (N := 7) Try.call92 Try.func92 rfl rfl rfl ?_
  have hE := Ext.refl H
  refine At.region rfl rfl ?_
  refine Reg.pur rfl rfl rfl rfl (Pur.asg rfl) ?_
  refine Reg.nil ?_
  refine At.region rfl rfl ?_
  refine Reg.lod rfl rfl rfl rfl (Lod.ld sc54 rfl hb rfl) ?_
  refine Reg.pur rfl rfl rfl rfl (Pur.mv rfl) ?_
  refine Reg.op rfl rfl rfl rfl (Does.call rfl (contains_ok k hk hmk v)) ?_
  rintro _ H ⟨rfl, rfl⟩
  refine Reg.pur rfl rfl rfl rfl (Pur.asg rfl) ?_
  refine Reg.nil ?_
  refine At.ret rfl Try.func92 rfl ?_
  exact ⟨rfl, rfl⟩

abbrev woF (kb : Nat) : Value := .func (.func 92) #[] #[ptr kb 0]
theorem indexF_ok {A A2 : Option Addr} {cap cap2 kb : Nat} (l k : List Int) {H : Heap} (hS : SlT H e1 1 (.slice A l.length cap) l) (hm : l.length ≤ 9223372036854775807) (hb : Blk H kb [.slice A2 k.length cap2]) (hk : SlT H e1 1 (.slice A2 k.length cap2) k) (hmk : k.length ≤ 9223372036854775807) :
    Ret Try.prog 124 [.slice A l.length cap, woF kb] H (fun r H' => ((r = I (-1) ∧ wo l k = l) ∨ ∃ i, ∃ h : i < l.length, r = I i ∧ wo (l.take i) k = l.take i ∧ inL k l[i] = true) ∧ H' = H) := by
  refine Ret.of_at (N := 19) Try.call124 Try.func124 rfl rfl rfl ?_
  have hE := Ext.refl H
  refine At.region rfl rfl ?_
  refine Reg.pur rfl rfl rfl rfl (Pur.asg rfl) ?_
  refine Reg.nil ?_
  refine At.region rfl rfl ?_
  refine Reg.pur rfl rfl rfl rfl (Pur.mv rfl) ?_
  refine Reg.pur rfl rfl rfl rfl (Pur.lenS isl54 rfl) ?_
  refine Reg.pur rfl rfl rfl rfl (Pur.mv rfl) ?_
  refine Reg.nil ?_
  refine At.loop (σ := Nat) (fun i => [(8, I i), (7, I l.length), (0, .slice A l.length cap), (1, woF kb)]) (fun i H' => i ≤ l.length ∧ H' = H ∧ wo (l.take i) k = l.take i) (fun i => l.length - i) 0 rfl ⟨rfl, rfl, rfl, rfl, trivial⟩ ⟨by omega, rfl, rfl⟩ ?_
  rintro i H ⟨hi, rfl, hgo⟩ ih
  refine At.region rfl rfl ?_
  refine Reg.pur rfl rfl rfl rfl (Pur.lss rfl rfl) ?_
  refine Reg.nil ?_
  refine At.cond rfl rfl (fun q9 => ?_) (fun q9 => ?_)
  · first | (simp only [decide_eq_true_eq, decide_eq_false_iff_not, Bool.not_eq_true', Bool.not_eq_false', ne_eq, Decidable.not_not, Bool.not_eq_true, Bool.not_eq_false] at q9) | (dsimp only at q9) | skip
    have hlt : i < l.length := by omega
    obtain ⟨b, o, c, rfl, hB, hc⟩ := int_at hS hlt
    refine At.region rfl rfl ?_
    refine Reg.pur rfl rfl rfl rfl (Pur.mv rfl) ?_
    refine Reg.pur rfl rfl rfl rfl (Pur.asg rfl) ?_
    refine Reg.nil ?_
    refine At.region rfl rfl ?_
    refine Reg.pur rfl rfl rfl rfl (Pur.mv rfl) ?_
    refine Reg.pur rfl rfl rfl rfl (Pur.mv rfl) ?_
    refine Reg.pur rfl rfl rfl rfl (Pur.mv rfl) ?_
    refine Reg.pur rfl rfl rfl rfl (Pur.idx _ es54 rfl rfl (by omega) (by omega)) ?_
    refine Reg.lod rfl rfl rfl rfl (Lod.ld sc3 rfl hB hc) ?_
    refine Reg.op rfl rfl rfl rfl (Does.callv rfl rfl (without1_ok k _ hb hk hmk)) ?_
    rintro _ H ⟨rfl, rfl⟩
    refine Reg.nil ?_
    refine At.cond rfl rfl (fun q16 => ?_) (fun q16 => ?_)
    · first | (simp only [decide_eq_true_eq, decide_eq_false_iff_not, Bool.not_eq_true', Bool.not_eq_false', ne_eq, Decidable.not_not, Bool.not_eq_true, Bool.not_eq_false] at q16) | (dsimp only at q16) | skip
      refine At.region rfl rfl ?_
      refine Reg.pur rfl rfl rfl rfl (Pur.mv rfl) ?_
      refine Reg.pur rfl rfl rfl rfl (Pur.asg rfl) ?_
      refine Reg.nil ?_
      refine At.ret rfl Try.func124 rfl ?_
      exact ⟨.inr ⟨i, hlt, rfl, hgo, q16⟩, rfl⟩
    · first | (simp only [decide_eq_true_eq, decide_eq_false_iff_not, Bool.not_eq_true', Bool.not_eq_false', ne_eq, Decidable.not_not, Bool.not_eq_true, Bool.not_eq_false] at q16) | (dsimp only at q16) | skip
      refine At.region rfl rfl ?_
      first | refine Reg.pur rfl rfl rfl rfl (Pur.add64 rfl rfl (by omega)) ?_ | refine Reg.pur rfl rfl rfl rfl (Pur.add64 rfl rfl (by assumption)) ?_ | refine Reg.pur rfl rfl rfl rfl (Pur.add rfl rfl) ?_
      refine Reg.pur rfl rfl rfl rfl (Pur.mv rfl) ?_
      refine Reg.nil ?_
      exact At.via (ih (i + 1) _ ⟨by omega, rfl, by rw [wo_take hlt, hgo, q16, if_neg (by decide), List.take_succ_eq_append_getElem hlt]⟩ (by omega)) ⟨rfl, rfl, rfl, rfl, trivial⟩
  · first | (simp only [decide_eq_true_eq, decide_eq_false_iff_not, Bool.not_eq_true', Bool.not_eq_false', ne_eq, Decidable.not_not, Bool.not_eq_true, Bool.not_eq_false] at q9) | (dsimp only at q9) | skip
    refine At.region rfl rfl ?_
    refine Reg.pur rfl rfl rfl rfl (Pur.asg rfl) ?_
    refine Reg.nil ?_
    refine At.ret rfl Try.func124 rfl ?_
    rw [List.take_of_length_le (by omega)] at hgo
    exact ⟨.inl ⟨rfl, hgo⟩, rfl⟩

theorem cloneI_ok {A : Option Addr} {cap : Nat} {l : List Int} {H : Heap} (hS : SlT H e1 1 (.slice A l.length cap) l) (hb : l.length * 8 ≤ 140737488351232) :
    Ret Try.prog 91 [.slice A l.length cap] H (fun v H' => (∃ A' cap', v = .slice A' l.length cap' ∧ Gs H' H.size 3 1 A' cap' l.length (l.flatMap e1)) ∧ Ext H H') := by
  refine Ret.of_at (N := 8) Try.call91 Try.func91 rfl rfl rfl ?_
  have hE := Ext.refl H
  refine At.region rfl rfl ?_
  refine Reg.pur rfl rfl rfl rfl (Pur.asg rfl) ?_
  refine Reg.nil ?_
  refine At.region rfl rfl ?_
  refine Reg.pur rfl rfl rfl rfl (Pur.mv rfl) ?_
  refine Reg.pur rfl rfl rfl rfl (Pur.eqSN isSlN54 rfl rfl) ?_
  refine Reg.nil ?_
  refine At.cond rfl rfl (fun q4 => ?_) (fun q4 => ?_)
  · first | (simp only [decide_eq_true_eq, decide_eq_false_iff_not, Bool.not_eq_true', Bool.not_eq_false', ne_eq, Decidable.not_not, Bool.not_eq_true, Bool.not_eq_false] at q4) | (dsimp only at q4) | skip
    refine At.region rfl rfl ?_
    refine Reg.pur rfl rfl rfl rfl (Pur.asg rfl) ?_
    refine Reg.nil ?_
    refine At.ret rfl Try.func91 rfl ?_
    obtain ⟨A', cap', e, h1, _, h0, _⟩ := hS
    cases e
    have hA : A = none := by { cases A with | none => rfl | some _ => cases q4 }
    have hc := h0 hA
    have hl : l = [] := List.length_eq_zero_iff.1 (by omega)
    subst hl; exact ⟨⟨none, 0, rfl, OwnS.nil _ _ _ _⟩, hE⟩
  · first | (simp only [decide_eq_true_eq, decide_eq_false_iff_not, Bool.not_eq_true', Bool.not_eq_false', ne_eq, Decidable.not_not, Bool.not_eq_true, Bool.not_eq_false] at q4) | (dsimp only at q4) | skip
    refine At.region rfl rfl ?_
    refine Reg.op rfl rfl rfl rfl (Does.bsl1T sl1_54 Try.underlying54 rfl rfl rfl rfl rfl) ?_
    rintro _ H3_0 ⟨rfl, hp3_0⟩
    have hn3_0 := New.of_eq hp3_0
    have z3_0 := hn3_0.size
    replace hE := hE.ext hn3_0.ext
    have o3_0 := hn3_0.own
    have hg : Gs H3_0 H.size 3 1 (some ⟨H.size, 0, none⟩) 0 ([] : List Int).length (([] : List Int).flatMap e1) := by rw [hp3_0]; exact OwnS.new (xs := []) (n := 0) rfl (by decide) (Nat.le_refl _)
    refine Reg.pur rfl rfl rfl rfl (Pur.mv rfl) ?_

    have z_hg := hg.lt
    refine Reg.op rfl rfl rfl rfl (Does.appL apt54 rfl rfl (by decide) hg (wide1 _) (hS.ext hE) (ones_e1 _) (by simp; omega) (by omega)) ?_
    rintro _ H3_2 ⟨A3_2, cap3_2, rfl, g3_2, hbut3_2, ha3_2⟩
    have z3_2 := hbut3_2.lt
    replace hE := hE.via hbut3_2 (by first | omega | (intro g; omega) | (intro g hg; omega) | (intro g hg h; omega))
    replace hg := g3_2
    have zg3_2 := g3_2.lt
    refine Reg.pur rfl rfl rfl rfl (Pur.asg rfl) ?_
    refine Reg.nil ?_
    refine At.ret rfl Try.func91 rfl ?_
    exact ⟨⟨A3_2, cap3_2, rfl, hg⟩, hE⟩

theorem wo_del {l k : List Int} {i : Nat} (hi : i < l.length) (hp : wo (l.take i) k = l.take i) (hin : inL k l[i] = true) : wo (l.take (i + 1)) k = l.take i := by
  rw [wo_take hi, hp, hin]; simp
theorem set_keep {M l : List Int} {i j : Nat} {v : Int} (hij : i < j) (h : M.drop j = l.drop j) : (M.set i v).drop (j + 1) = l.drop (j + 1) := by
  rw [List.drop_set_of_lt (by omega), ← List.drop_drop, h, List.drop_drop]
theorem take_set1 {M : List Int} {i : Nat} {v : Int} (h : i < M.length) : (M.set i v).take (i + 1) = M.take i ++ [v] := by
  rw [List.take_set, List.take_succ_eq_append_getElem h, List.set_append_right _ _ (by simp; omega)]
  simp [Nat.min_eq_left (Nat.le_of_lt h)]
theorem clr_take {c : List Value} {M : List Int} {n i : Nat} {r : List Value} (h : c.take n = Is M) (hi : i ≤ n) (hl : M.length = n) : ((c.take (0 + (i : Int).toNat * 1) ++ r ++ c.drop (0 + (i : Int).toNat * 1 + (n - i))).take i) = Is (M.take i) := by
  have hn := tk_len h hl
  rw [show 0 + (i : Int).toNat * 1 = i by omega, List.append_assoc, List.take_append_of_le_length (by rw [List.length_take]; omega), List.take_take, Nat.min_self]
  have := congrArg (List.take i) h
  rw [List.take_take, Nat.min_eq_left hi] at this
  rw [this]; simp [Is, List.map_take]

theorem deleteF_ok {A A2 : Option Addr} {cap cap2 kb B : Nat} (l k : List Int) {H : Heap} (hg : Gw H B 1 A cap l.length (l.flatMap e1)) (hm : l.length ≤ 9223372036854775807) (hb : Blk H kb [.slice A2 k.length cap2]) (hk : SlT H e1 1 (.slice A2 k.length cap2) k) (hmk : k.length ≤ 9223372036854775807) (hne : (kb : Int) ≠ ob A) (hne2 : k.length = 0 ∨ ob A2 ≠ ob A) :
    Ret Try.prog 90 [.slice A l.length cap, woF kb] H (fun r H' => (∃ cap', r = .slice A (wo l k).length cap' ∧ Gw H' B 1 A cap' (wo l k).length ((wo l k).flatMap e1)) ∧ But (fun g => (g : Int) = ob A) H H') := by
  have hS := hg.sl (wide1 l) (by decide)
  refine Ret.of_at (N := 42) Try.call90 Try.func90 rfl rfl rfl ?_
  have hE := Ext.refl H
  refine At.region rfl rfl ?_
  refine Reg.pur rfl rfl rfl rfl (Pur.asg rfl) ?_
  refine Reg.nil ?_
  refine At.region rfl rfl ?_
  refine Reg.pur rfl rfl rfl rfl (Pur.mv rfl) ?_
  refine Reg.pur rfl rfl rfl rfl (Pur.mv rfl) ?_
  refine Reg.op rfl rfl rfl rfl (Does.call rfl (indexF_ok l k hS hm hb hk hmk)) ?_
  rintro v1_2 H ⟨hix, rfl⟩
  obtain ⟨idx, rfl, hix2⟩ : ∃ idx : Int, v1_2 = I idx ∧ ((idx = -1 ∧ wo l k = l) ∨ ∃ i, ∃ h : i < l.length, idx = i ∧ wo (l.take i) k = l.take i ∧ inL k l[i] = true) := by { rcases hix with ⟨rfl, h⟩ | ⟨i, h, rfl, h2⟩; exact ⟨-1, rfl, .inl ⟨rfl, h⟩⟩; exact ⟨i, rfl, .inr ⟨i, h, rfl, h2⟩⟩ }
  refine Reg.pur rfl rfl rfl rfl (Pur.asg rfl) ?_
  refine Reg.nil ?_
  refine At.region rfl rfl ?_
  refine Reg.pur rfl rfl rfl rfl (Pur.mv rfl) ?_
  refine Reg.pur rfl rfl rfl rfl (Pur.eql rfl rfl) ?_
  refine Reg.nil ?_
  refine At.cond rfl rfl (fun q12 => ?_) (fun q12 => ?_)
  · first | (simp only [decide_eq_true_eq, decide_eq_false_iff_not, Bool.not_eq_true', Bool.not_eq_false', ne_eq, Decidable.not_not, Bool.not_eq_true, Bool.not_eq_false] at q12) | (dsimp only at q12) | skip
    refine At.region rfl rfl ?_
    refine Reg.pur rfl rfl rfl rfl (Pur.mv rfl) ?_
    refine Reg.pur rfl rfl rfl rfl (Pur.asg rfl) ?_
    refine Reg.nil ?_
    refine At.ret rfl Try.func90 rfl ?_
    have hw : wo l k = l := by { rcases hix2 with h | ⟨i, h, h2, _⟩; exact h.2; omega }
    rw [hw]; exact ⟨⟨cap, rfl, hg⟩, But.refl _ _⟩
  · first | (simp only [decide_eq_true_eq, decide_eq_false_iff_not, Bool.not_eq_true', Bool.not_eq_false', ne_eq, Decidable.not_not, Bool.not_eq_true, Bool.not_eq_false] at q12) | (dsimp only at q12) | skip
    obtain ⟨i0, hi0, rfl, hp0, hin0⟩ := hix2.resolve_left (fun h => q12 h.1)
    refine At.region rfl rfl ?_
    refine Reg.pur rfl rfl rfl rfl (Pur.mv rfl) ?_
    first | refine Reg.pur rfl rfl rfl rfl (Pur.add64 rfl rfl (by omega)) ?_ | refine Reg.pur rfl rfl rfl rfl (Pur.add64 rfl rfl (by assumption)) ?_ | refine Reg.pur rfl rfl rfl rfl (Pur.add rfl rfl) ?_
    refine Reg.pur rfl rfl rfl rfl (Pur.asg rfl) ?_
    refine Reg.nil ?_
    obtain ⟨h0, h1, h2, h3, g, c0, rfl, hgB, ho, hc0⟩ : l.length = l.length ∧ l.length ≤ cap ∧ cap ≤ maxLen ∧ (A = none → cap = 0) ∧ ∃ g c, A = some ⟨g, 0, none⟩ ∧ B ≤ g ∧ Own H g c ∧ c.take (l.length * 1) = l.flatMap e1 := by { obtain ⟨_, h1, h2, h3, h4⟩ := hg; exact ⟨rfl, h1, h2, h3, h4.resolve_left (by omega)⟩ }
    rw [Nat.mul_one, flat_e1] at hc0
    refine At.loop (σ := Nat × Nat × List Int × List Value) (fun (j, i, M, c) => [(6, I j), (5, I i), (0, .slice (some ⟨g, 0, none⟩) l.length cap), (1, woF kb)]) (fun (j, i, M, c) H' => j ≤ l.length ∧ i < j ∧ M.length = l.length ∧ M.take i = wo (l.take j) k ∧ M.drop j = l.drop j ∧ Own H' g c ∧ c.take l.length = Is M ∧ But (fun x => (x : Int) = ob (some ⟨g, 0, none⟩)) H H') (fun s => l.length - s.1) (i0 + 1, i0, l, c0) rfl ⟨rfl, rfl, rfl, rfl, trivial⟩ ⟨by omega, by omega, rfl, (wo_del hi0 hp0 hin0).symm, rfl, ho, hc0, But.refl _ _⟩ ?_
    clear ho hc0 hS hg
    rintro ⟨j, i, M, c⟩ H3 ⟨hj, hij, hMl, hMt, hMd, ho, hc, hbt⟩ ih
    dsimp only at hj hij hMl hMt hMd hc ⊢
    rw [ob_some] at hne hne2
    have z_ho := ho.lt
    have hcl := tk_len hc hMl
    refine At.region rfl rfl ?_
    refine Reg.pur rfl rfl rfl rfl (Pur.mv rfl) ?_
    refine Reg.pur rfl rfl rfl rfl (Pur.mv rfl) ?_
    refine Reg.pur rfl rfl rfl rfl (Pur.lenS isl54 rfl) ?_
    refine Reg.pur rfl rfl rfl rfl (Pur.lss rfl rfl) ?_
    refine Reg.nil ?_
    refine At.cond rfl rfl (fun q19 => ?_) (fun q19 => ?_)
    · first | (simp only [decide_eq_true_eq, decide_eq_false_iff_not, Bool.not_eq_true', Bool.not_eq_false', ne_eq, Decidable.not_not, Bool.not_eq_true, Bool.not_eq_false] at q19) | (dsimp only at q19) | skip
      have hlt : j < l.length := by omega
      have hjv : M.getD j 0 = l[j] := by { have := congrArg (fun x => x[0]?) hMd; simp [hlt, hMl] at this; simp [List.getD_eq_getElem?_getD, hMl, hlt, this] }
      have hrd := rd1 hc (i := j) (by omega)
      rw [hjv] at hrd
      have hnx := wo_take (k := k) hlt
      refine At.region rfl rfl ?_
      refine Reg.pur rfl rfl rfl rfl (Pur.mv rfl) ?_
      refine Reg.pur rfl rfl rfl rfl (Pur.mv rfl) ?_
      refine Reg.pur rfl rfl rfl rfl (Pur.idx _ es54 rfl rfl (by omega) (by omega)) ?_
      refine Reg.lod rfl rfl rfl rfl (Lod.ld sc3 rfl ho.blk hrd) ?_
      refine Reg.pur rfl rfl rfl rfl (Pur.asg rfl) ?_
      refine Reg.nil ?_
      refine At.region rfl rfl ?_
      refine Reg.pur rfl rfl rfl rfl (Pur.mv rfl) ?_
      refine Reg.pur rfl rfl rfl rfl (Pur.mv rfl) ?_
      refine Reg.op rfl rfl rfl rfl (Does.callv rfl rfl (without1_ok k _ (hb.but hbt (by rw [ob_some]; omega)) (hk.via hbt (fun h0 g hg h ↦ by rw [ob_some] at h; omega)) hmk)) ?_
      rintro _ H3 ⟨rfl, rfl⟩
      refine Reg.pur rfl rfl rfl rfl (Pur.not rfl) ?_
      refine Reg.nil ?_
      refine At.cond rfl rfl (fun q29 => ?_) (fun q29 => ?_)
      · first | (simp only [decide_eq_true_eq, decide_eq_false_iff_not, Bool.not_eq_true', Bool.not_eq_false', ne_eq, Decidable.not_not, Bool.not_eq_true, Bool.not_eq_false] at q29) | (dsimp only at q29) | skip
        refine At.region rfl rfl ?_
        refine Reg.pur rfl rfl rfl rfl (Pur.mv rfl) ?_
        refine Reg.pur rfl rfl rfl rfl (Pur.mv rfl) ?_
        refine Reg.pur rfl rfl rfl rfl (Pur.mv rfl) ?_
        refine Reg.pur rfl rfl rfl rfl (Pur.idx _ es54 rfl rfl (by omega) (by omega)) ?_
        refine Reg.op0 rfl rfl rfl (Does.st sc3 rfl rfl rfl ho (by first | decide | (simp; done) | (simp; omega) | omega)) ?_
        rintro _ H9_4 hu9_4
        have z9_4 := hu9_4.size
        replace ho := hu9_4.own
        refine Reg.nil ?_
        refine At.region rfl rfl ?_
        refine Reg.pur rfl rfl rfl rfl (Pur.mv rfl) ?_
        first | refine Reg.pur rfl rfl rfl rfl (Pur.add64 rfl rfl (by omega)) ?_ | refine Reg.pur rfl rfl rfl rfl (Pur.add64 rfl rfl (by assumption)) ?_ | refine Reg.pur rfl rfl rfl rfl (Pur.add rfl rfl) ?_
        refine Reg.pur rfl rfl rfl rfl (Pur.asg rfl) ?_
        refine Reg.nil ?_
        refine At.region rfl rfl ?_
        refine Reg.pur rfl rfl rfl rfl (Pur.mv rfl) ?_
        first | refine Reg.pur rfl rfl rfl rfl (Pur.add64 rfl rfl (by omega)) ?_ | refine Reg.pur rfl rfl rfl rfl (Pur.add64 rfl rfl (by assumption)) ?_ | refine Reg.pur rfl rfl rfl rfl (Pur.add rfl rfl) ?_
        refine Reg.pur rfl rfl rfl rfl (Pur.asg rfl) ?_
        refine Reg.nil ?_
        first | (rw [q29, if_neg (by decide)] at hnx; exact At.via (ih (j + 1, i + 1, M.set i l[j], _) _ ⟨by omega, by omega, by simp [hMl], by rw [take_set1 (by omega), hMt, hnx], set_keep hij hMd, ho, wr1 hc _, hbt.trans (hu9_4.but.mono (fun b hb e => by subst e; rw [ob_some]))⟩ (by simp only; omega)) ⟨rfl, by rw [show ((i + 1 : Nat) : Int) = (i : Int) + 1 by omega]; rfl, rfl, rfl, trivial⟩) | (rw [q29, if_pos rfl, List.append_nil] at hnx; exact At.via (ih (j + 1, i, M, c) _ ⟨by omega, by omega, hMl, by rw [hMt, hnx], by rw [← List.drop_drop, hMd, List.drop_drop], ho, hc, hbt⟩ (by simp only; omega)) ⟨rfl, rfl, rfl, rfl, trivial⟩)
      · first | (simp only [decide_eq_true_eq, decide_eq_false_iff_not, Bool.not_eq_true', Bool.not_eq_false', ne_eq, Decidable.not_not, Bool.not_eq_true, Bool.not_eq_false] at q29) | (dsimp only at q29) | skip
        refine At.region rfl rfl ?_
        refine Reg.pur rfl rfl rfl rfl (Pur.mv rfl) ?_
        first | refine Reg.pur rfl rfl rfl rfl (Pur.add64 rfl rfl (by omega)) ?_ | refine Reg.pur rfl rfl rfl rfl (Pur.add64 rfl rfl (by assumption)) ?_ | refine Reg.pur rfl rfl rfl rfl (Pur.add rfl rfl) ?_
        refine Reg.pur rfl rfl rfl rfl (Pur.asg rfl) ?_
        refine Reg.nil ?_
        first | (rw [q29, if_neg (by decide)] at hnx; exact At.via (ih (j + 1, i + 1, M.set i l[j], _) _ ⟨by omega, by omega, by simp [hMl], by rw [take_set1 (by omega), hMt, hnx], set_keep hij hMd, ho, wr1 hc _, hbt.trans (hu9_4.but.mono (fun b hb e => by subst e; rw [ob_some]))⟩ (by simp only; omega)) ⟨rfl, by rw [show ((i + 1 : Nat) : Int) = (i : Int) + 1 by omega]; rfl, rfl, rfl, trivial⟩) | (rw [q29, if_pos rfl, List.append_nil] at hnx; exact At.via (ih (j + 1, i, M, c) _ ⟨by omega, by omega, hMl, by rw [hMt, hnx], by rw [← List.drop_drop, hMd, List.drop_drop], ho, hc, hbt⟩ (by simp only; omega)) ⟨rfl, rfl, rfl, rfl, trivial⟩)
    · first | (simp only [decide_eq_true_eq, decide_eq_false_iff_not, Bool.not_eq_true', Bool.not_eq_false', ne_eq, Decidable.not_not, Bool.not_eq_true, Bool.not_eq_false] at q19) | (dsimp only at q19) | skip
      obtain rfl : j = l.length := by omega
      rw [List.take_of_length_le (Nat.le_refl _)] at hMt
      have hwl : (wo l k).length = i := by rw [← hMt, List.length_take]; omega
      refine At.region rfl rfl ?_
      refine Reg.pur rfl rfl rfl rfl (Pur.mv rfl) ?_
      refine Reg.pur rfl rfl rfl rfl (Pur.mv rfl) ?_
      refine Reg.pur rfl rfl rfl rfl (Pur.cutL es54 rfl rfl (by omega) (by omega) (by omega)) ?_
      refine Reg.op0 rfl rfl rfl (Does.clr mkT54 rfl rfl (by omega) ho (by omega)) ?_
      rintro _ H11_3 hu11_3
      have z11_3 := hu11_3.size
      replace ho := hu11_3.own
      have hcl2 := clr_take (r := List.replicate (l.length - i) (I 0)) hc (show i ≤ l.length by omega) hMl
      refine Reg.nil ?_
      refine At.region rfl rfl ?_
      refine Reg.pur rfl rfl rfl rfl (Pur.mv rfl) ?_
      refine Reg.pur rfl rfl rfl rfl (Pur.mv rfl) ?_
      refine Reg.pur rfl rfl rfl rfl (Pur.cutH es54 rfl rfl (by omega) (by omega)) ?_
      refine Reg.pur rfl rfl rfl rfl (Pur.asg rfl) ?_
      refine Reg.nil ?_
      refine At.ret rfl Try.func90 rfl ?_
      refine ⟨⟨cap, by rw [hwl]; rfl, ?_⟩, hbt.trans (hu11_3.but.mono (fun b hb e => by subst e; rw [ob_some]))⟩
      refine ⟨by rw [flat_e1]; simp, by rw [hwl]; omega, h2, h3, .inr ⟨g, _, rfl, hgB, ho, ?_⟩⟩
      rw [Nat.mul_one, hwl, flat_e1, ← hMt]; exact hcl2

/-- numbers that are not among others, in new memory -/
theorem without_ok {A A2 : Option Addr} {cap cap2 : Nat} (l k : List Int) {H : Heap} (hS : SlT H e1 1 (.slice A l.length cap) l) (hk : SlT H e1 1 (.slice A2 k.length cap2) k) (hm : l.length * 8 ≤ 140737488351232) (hmk : k.length ≤ 9223372036854775807) :
    Ret Try.prog 65 [.slice A l.length cap, .slice A2 k.length cap2] H (fun r H' => (∃ A' cap', r = .slice A' (wo l k).length cap' ∧ Gw H' H.size 1 A' cap' (wo l k).length ((wo l k).flatMap e1)) ∧ Ext H H') := by
  refine Ret.of_at (N := 9) Try.call65 Try.func65 rfl rfl rfl ?_
  have hE := Ext.refl H
  refine At.region rfl rfl ?_
  refine Reg.op rfl rfl rfl rfl (Does.box rfl rfl) ?_
  rintro _ H0_0 ⟨rfl, hn0_0⟩
  have z0_0 := hn0_0.size
  replace hE := hE.ext hn0_0.ext
  have o0_0 := hn0_0.own
  refine Reg.pur rfl rfl rfl rfl (Pur.asg rfl) ?_
  refine Reg.nil ?_
  refine At.region rfl rfl ?_
  refine Reg.pur rfl rfl rfl rfl (Pur.mv rfl) ?_
  refine Reg.op rfl rfl rfl rfl (Does.call rfl (cloneI_ok (hS.ext hE) hm)) ?_
  rintro _ H1_1 ⟨⟨A3, cap3, rfl, hg⟩, hE1_1⟩
  have z1_1 := hE1_1.lt
  replace hE := hE.ext hE1_1
  replace o0_0 := o0_0.ext hE1_1
  have z_hg := hg.lt
  refine Reg.pur rfl rfl rfl rfl (Pur.mkf rfl rfl) ?_

  refine Reg.op rfl rfl rfl rfl (Does.call rfl (deleteF_ok l k hg.gw (by omega) o0_0.blk (hk.ext hE) hmk (by have := hg.lt; omega) (by have := hg.lt; have := hk.lt; omega))) ?_
  rintro _ H1_3 ⟨⟨cap4, rfl, hgw⟩, hbut1_3⟩
  have z1_3 := hbut1_3.lt
  replace hE := hE.via hbut1_3 (by first | omega | (intro g; omega) | (intro g hg; omega) | (intro g hg h; omega))
  refine Reg.pur rfl rfl rfl rfl (Pur.asg rfl) ?_
  refine Reg.nil ?_
  refine At.ret rfl Try.func65 rfl ?_
  exact ⟨⟨A3, cap4, rfl, hgw.mono (by omega)⟩, hE⟩
end Go.Proofs.Ytlfillhffpiffaa

/-
  Names: variables by first appearance.
-/
namespace Go.Proofs.Ytlfillhffpiffaa
set_option linter.unusedSimpArgs false
set_option linter.unusedVariables false
set_option maxRecDepth 8000
open Go Go.Fx Go.Proofs
namespace FactsSchC
theorem apt54 : appT Try.prog 54 = some (3, 1, 8) := by kernel_rfl
theorem es54 : esz Try.prog 54 = some 1 := by kernel_rfl
theorem fo116_0 : foff Try.prog 116 0 = some 0 := by kernel_rfl
theorem fo116_1 : foff Try.prog 116 1 = some 1 := by kernel_rfl
theorem fo147_0 : foff Try.prog 147 0 = some 0 := by kernel_rfl
theorem fo147_1 : foff Try.prog 147 1 = some 1 := by kernel_rfl
theorem isl54 : isSl Try.prog 54 = true := by kernel_rfl
theorem sc3 : sc Try.prog 3 = true := by kernel_rfl
theorem sc54 : sc Try.prog 54 = true := by kernel_rfl
theorem sl1_54 : sl1 Try.prog 54 = true := by kernel_rfl
end FactsSchC
open FactsSchC

def addL (T : List Int) (v : Int) : List Int := if inL T v then T else T ++ [v]
theorem addL_len (T : List Int) (v : Int) : (addL T v).length ≤ T.length + 1 := by unfold addL; split <;> simp
/-- names: two rows of numbers at block nb -/
structure Nm (H : Heap) (nb B : Nat) (A1 : Option Addr) (c1 : Nat) (T : List Int) (A2 : Option Addr) (c2 : Nat) (R : List Int) : Prop where
  own : Own H nb [.slice A1 T.length c1, .slice A2 R.length c2]
  g1 : Gs H B 3 1 A1 c1 T.length (T.flatMap e1)
  g2 : Gs H B 3 1 A2 c2 R.length (R.flatMap e1)
  d1 : ob A1 = -1 ∨ ob A1 ≠ ob A2
  d2 : ob A1 ≠ nb
  d3 : ob A2 ≠ nb
  lo : B ≤ H.size
/-- what may have been written -/
def Mod (nb : Nat) (A1 A2 A1' A2' : Option Addr) (H H' : Heap) : Prop :=
  But (fun g => g = nb ∨ (g : Int) = ob A1 ∨ (g : Int) = ob A2) H H' ∧ (ob A1' = ob A1 ∨ (H.size : Int) ≤ ob A1') ∧ (ob A2' = ob A2 ∨ (H.size : Int) ≤ ob A2')
theorem Mod.refl (nb : Nat) (A1 A2 : Option Addr) (H : Heap) : Mod nb A1 A2 A1 A2 H H := ⟨But.refl _ _, .inl rfl, .inl rfl⟩
theorem Mod.trans {nb : Nat} {A1 A2 B1 B2 C1 C2 : Option Addr} {H H' H'' : Heap} (h : Mod nb A1 A2 B1 B2 H H') (k : Mod nb B1 B2 C1 C2 H' H'') : Mod nb A1 A2 C1 C2 H H'' := by
  obtain ⟨h1, h2, h3⟩ := h
  obtain ⟨k1, k2, k3⟩ := k
  have hs := h1.1
  refine ⟨⟨Nat.le_trans h1.1 k1.1, fun b hb hS => ?_⟩, by omega, by omega⟩
  rw [k1.2 b (by omega) (fun hk => hS (by dsimp only at hk ⊢; omega)), h1.2 b hb hS]
theorem Mod.ext {nb : Nat} {A1 A2 B1 B2 : Option Addr} {H H' H'' : Heap} (h : Mod nb A1 A2 B1 B2 H H') (k : Ext H' H'') : Mod nb A1 A2 B1 B2 H H'' :=
  ⟨h.1.trans k.but, h.2⟩
theorem Nm.ext {H H' : Heap} {nb B : Nat} {A1 A2 : Option Addr} {c1 c2 : Nat} {T R : List Int} (h : Nm H nb B A1 c1 T A2 c2 R) (he : Ext H H') : Nm H' nb B A1 c1 T A2 c2 R :=
  ⟨h.own.ext he, h.g1.ext he, h.g2.ext he, h.d1, h.d2, h.d3, Nat.le_trans h.lo he.1⟩

theorem ix_add {T : List Int} {v : Int} : (if inL T v then ((ixL T v : Nat) : Int) else T.length) = ixL T v := by
  have := ixL_le T v
  split
  · rfl
  · rename_i h; simp [inL] at h; omega

theorem set_same {α : Type} {cs : List α} {o : Nat} {v : α} (hc : cs[o]? = some v) : cs.set o v = cs := by
  apply List.ext_getElem?
  intro j
  by_cases h : o = j
  · subst h
    have : o < cs.length := by
      rcases Nat.lt_or_ge o cs.length with h | h
      · exact h
      · rw [List.getElem?_eq_none h] at hc; cases hc
    rw [List.getElem?_set_self this, hc]
  · rw [List.getElem?_set_ne h]
theorem name_ok {nb o B cap : Nat} {A : Option Addr} {cs : List Value} (T : List Int) (v : Int) {H : Heap} (ho : Own H nb cs) (hc : cs[o]? = some (.slice A T.length cap)) (hg : Gs H B 3 1 A cap T.length (T.flatMap e1)) (hd : ob A ≠ nb) (hB : B ≤ H.size) (hm : T.length ≤ 1000000) :
    Ret Try.prog 138 [ptr nb o, I v] H (fun r H' => ∃ A' cap', r = I (ixL T v) ∧ Own H' nb (cs.set o (.slice A' (addL T v).length cap')) ∧ Gs H' B 3 1 A' cap' (addL T v).length ((addL T v).flatMap e1) ∧ But (fun g => g = nb ∨ (g : Int) = ob A) H H' ∧ (ob A' = ob A ∨ (H.size : Int) ≤ ob A')) := by
  have hol : o < cs.length := by
    rcases Nat.lt_or_ge o cs.length with h | h
    · exact h
    · rw [List.getElem?_eq_none h] at hc; cases hc
  refine Ret.of_at (N := 26) Try.call138 Try.func138 rfl rfl rfl ?_
  have hE := Ext.refl H
  have z_ho := ho.lt
  have z_hg := hg.lt
  refine At.region rfl rfl ?_
  refine Reg.pur rfl rfl rfl rfl (Pur.asg rfl) ?_
  refine Reg.nil ?_
  refine At.region rfl rfl ?_
  refine Reg.pur rfl rfl rfl rfl (Pur.mv rfl) ?_
  refine Reg.pur rfl rfl rfl rfl (Pur.nilc rfl) ?_
  refine Reg.lod rfl rfl rfl rfl (Lod.ld sc54 rfl ho.blk hc) ?_
  refine Reg.pur rfl rfl rfl rfl (Pur.mv rfl) ?_
  refine Reg.op rfl rfl rfl rfl (Does.call rfl (index_ok T (own_sl (wide1 T) (by decide) hg) (by omega) v)) ?_
  rintro _ H ⟨rfl, rfl⟩
  refine Reg.pur rfl rfl rfl rfl (Pur.asg rfl) ?_
  refine Reg.nil ?_
  refine At.region rfl rfl ?_
  refine Reg.pur rfl rfl rfl rfl (Pur.mv rfl) ?_
  refine Reg.pur rfl rfl rfl rfl (Pur.lss rfl rfl) ?_
  refine Reg.nil ?_
  refine At.cond rfl rfl (fun q12 => ?_) (fun q12 => ?_)
  · first | (simp only [decide_eq_true_eq, decide_eq_false_iff_not, Bool.not_eq_true', Bool.not_eq_false', ne_eq, Decidable.not_not, Bool.not_eq_true, Bool.not_eq_false] at q12) | (dsimp only at q12) | skip
    have hni : inL T v = false := by { cases h : inL T v with | false => rfl | true => rw [h] at q12; simp at q12; omega }
    have hix : ixL T v = T.length := by { have := ixL_le T v; simp [inL] at hni; omega }
    have had : addL T v = T ++ [v] := by unfold addL; rw [hni]; rfl
    refine At.region rfl rfl ?_
    refine Reg.pur rfl rfl rfl rfl (Pur.mv rfl) ?_
    refine Reg.pur rfl rfl rfl rfl (Pur.nilc rfl) ?_
    refine Reg.lod rfl rfl rfl rfl (Lod.ld sc54 rfl ho.blk hc) ?_
    refine Reg.pur rfl rfl rfl rfl (Pur.lenS isl54 rfl) ?_
    refine Reg.pur rfl rfl rfl rfl (Pur.asg rfl) ?_
    refine Reg.nil ?_
    refine At.region rfl rfl ?_
    refine Reg.pur rfl rfl rfl rfl (Pur.mv rfl) ?_
    refine Reg.pur rfl rfl rfl rfl (Pur.mv rfl) ?_
    refine Reg.pur rfl rfl rfl rfl (Pur.nilc rfl) ?_
    refine Reg.lod rfl rfl rfl rfl (Lod.ld sc54 rfl ho.blk hc) ?_
    refine Reg.pur rfl rfl rfl rfl (Pur.mv rfl) ?_
    refine Reg.op rfl rfl rfl rfl (Does.bsl1T sl1_54 Try.underlying54 rfl rfl rfl rfl rfl) ?_
    rintro _ H4_5 ⟨rfl, hp4_5⟩
    have hn4_5 := New.of_eq hp4_5
    have z4_5 := hn4_5.size
    replace ho := ho.ext hn4_5.ext
    replace hg := hg.ext hn4_5.ext
    have o4_5 := hn4_5.own
    refine Reg.op rfl rfl rfl rfl (Does.appL apt54 rfl rfl (by decide) hg (wide1 _) (sl_new (L := [v]) (wide1 _) (by decide) hn4_5 (by simp)) (ones_e1 _) (by simp; omega) (by omega)) ?_
    rintro _ H4_6 ⟨A4_6, cap4_6, rfl, g4_6, hbut4_6, ha4_6⟩
    have z4_6 := hbut4_6.lt
    replace ho := ho.via hbut4_6 (by first | omega | (intro g; omega) | (intro g hg; omega) | (intro g hg h; omega))
    replace o4_5 := o4_5.via hbut4_6 (by first | omega | (intro g; omega) | (intro g hg; omega) | (intro g hg h; omega))
    replace hg := g4_6
    have zg4_6 := g4_6.lt
    refine Reg.pur rfl rfl rfl rfl (Pur.nilc rfl) ?_
    refine Reg.op0 rfl rfl rfl (Does.st sc54 rfl rfl rfl ho hol) ?_
    rintro _ H4_8 hu4_8
    have z4_8 := hu4_8.size
    replace hg := hg.upw hu4_8 (by omega)
    replace o4_5 := o4_5.upw hu4_8 (by omega)
    replace ho := hu4_8.own
    refine Reg.nil ?_
    refine At.region rfl rfl ?_
    refine Reg.pur rfl rfl rfl rfl (Pur.mv rfl) ?_
    refine Reg.pur rfl rfl rfl rfl (Pur.asg rfl) ?_
    refine Reg.nil ?_
    refine At.ret rfl Try.func138 rfl ?_
    rw [← had] at hg ho
    refine ⟨A4_6, cap4_6, ?_, ho, hg, (hn4_5.ext.but (S := fun g => g = nb ∨ (g : Int) = ob A)).trans ((hbut4_6.mono (fun b hb h => Or.inr h)).trans (hu4_8.but.mono (fun b hb h => Or.inl h))), by omega⟩
    rw [hix]
  · first | (simp only [decide_eq_true_eq, decide_eq_false_iff_not, Bool.not_eq_true', Bool.not_eq_false', ne_eq, Decidable.not_not, Bool.not_eq_true, Bool.not_eq_false] at q12) | (dsimp only at q12) | skip
    refine At.region rfl rfl ?_
    refine Reg.pur rfl rfl rfl rfl (Pur.mv rfl) ?_
    refine Reg.pur rfl rfl rfl rfl (Pur.asg rfl) ?_
    refine Reg.nil ?_
    refine At.ret rfl Try.func138 rfl ?_
    have hin : inL T v = true := by { cases h : inL T v with | true => rfl | false => exact absurd (by rw [h]; simp) q12 }
    have had : addL T v = T := by unfold addL; rw [hin]; rfl
    rw [had]
    exact ⟨A, cap, by rw [hin]; rfl, ho.of (set_same hc).symm, hg, But.refl _ _, .inl rfl⟩

theorem nm_Type {nb B c1 c2 : Nat} {A1 A2 : Option Addr} {T R : List Int} (v : Int) {H : Heap} (h : Nm H nb B A1 c1 T A2 c2 R) (hm : T.length ≤ 1000000) :
    Ret Try.prog 122 [ptr nb 0, I v] H (fun r H' => r = I (ixL T v) ∧ ∃ A1' c1', Nm H' nb B A1' c1' (addL T v) A2 c2 R ∧ Mod nb A1 A2 A1' A2 H H') := by
  obtain ⟨ho, hg1, hg2, hd1, hd2, hd3, hlo⟩ := h
  have z1 := hg1.lt
  have z2 := hg2.lt
  have hnb := ho.lt
  refine Ret.of_at (N := 10) Try.call122 Try.func122 rfl rfl rfl ?_
  have hE := Ext.refl H

  refine At.region rfl rfl ?_
  refine Reg.pur rfl rfl rfl rfl (Pur.asg rfl) ?_
  refine Reg.nil ?_
  refine At.region rfl rfl ?_
  refine Reg.pur rfl rfl rfl rfl (Pur.mv rfl) ?_
  refine Reg.pur rfl rfl rfl rfl (Pur.nilc rfl) ?_
  refine Reg.pur rfl rfl rfl rfl (Pur.fld _ fo147_0 rfl) ?_
  refine Reg.pur rfl rfl rfl rfl (Pur.mv rfl) ?_
  refine Reg.op rfl rfl rfl rfl (Does.call rfl (name_ok T v ho rfl hg1 hd2 hlo hm)) ?_
  rintro _ H1_4 ⟨A', cap', rfl, ho1_4, hg1_4, hbut1_4, ha1_4⟩
  have z1_4 := hbut1_4.lt
  refine Reg.pur rfl rfl rfl rfl (Pur.asg rfl) ?_
  refine Reg.nil ?_
  refine At.ret rfl Try.func122 rfl ?_
  refine ⟨rfl, A', cap', ⟨ho1_4, hg1_4, hg2.via hbut1_4 (fun g hg h => by omega), by omega, by omega, hd3, by have := hbut1_4.lt; omega⟩, ⟨hbut1_4.mono (fun b hb h => by omega), ha1_4, .inl rfl⟩⟩
theorem nm_Row {nb B c1 c2 : Nat} {A1 A2 : Option Addr} {T R : List Int} (v : Int) {H : Heap} (h : Nm H nb B A1 c1 T A2 c2 R) (hm : R.length ≤ 1000000) :
    Ret Try.prog 123 [ptr nb 0, I v] H (fun r H' => r = I (ixL R v) ∧ ∃ A2' c2', Nm H' nb B A1 c1 T A2' c2' (addL R v) ∧ Mod nb A1 A2 A1 A2' H H') := by
  obtain ⟨ho, hg1, hg2, hd1, hd2, hd3, hlo⟩ := h
  have z1 := hg1.lt
  have z2 := hg2.lt
  have hnb := ho.lt
  refine Ret.of_at (N := 10) Try.call123 Try.func123 rfl rfl rfl ?_
  have hE := Ext.refl H

  refine At.region rfl rfl ?_
  refine Reg.pur rfl rfl rfl rfl (Pur.asg rfl) ?_
  refine Reg.nil ?_
  refine At.region rfl rfl ?_
  refine Reg.pur rfl rfl rfl rfl (Pur.mv rfl) ?_
  refine Reg.pur rfl rfl rfl rfl (Pur.nilc rfl) ?_
  refine Reg.pur rfl rfl rfl rfl (Pur.fld _ fo147_1 rfl) ?_
  refine Reg.pur rfl rfl rfl rfl (Pur.mv rfl) ?_
  refine Reg.op rfl rfl rfl rfl (Does.call rfl (name_ok R v ho rfl hg2 hd3 hlo hm)) ?_
  rintro _ H1_4 ⟨A', cap', rfl, ho1_4, hg1_4, hbut1_4, ha1_4⟩
  have z1_4 := hbut1_4.lt
  refine Reg.pur rfl rfl rfl rfl (Pur.asg rfl) ?_
  refine Reg.nil ?_
  refine At.ret rfl Try.func123 rfl ?_
  refine ⟨rfl, A', cap', ⟨ho1_4, hg1.via hbut1_4 (fun g hg h => by omega), hg1_4, by omega, hd2, by omega, by have := hbut1_4.lt; omega⟩, ⟨hbut1_4.mono (fun b hb h => by omega), .inl rfl, ha1_4⟩⟩

/-- The reference's. -/
theorem at_ok {B cap : Nat} {A : Option Addr} (T : List Int) (v : Int) {H : Heap} (hg : Gs H B 3 1 A cap T.length (T.flatMap e1)) (hB : B ≤ H.size) (hm : T.length ≤ 1000000) :
    Ret Try.prog 126 [.slice A T.length cap, I v] H (fun r H' => ∃ A' cap', r = .tuple #[.slice A' (addL T v).length cap', I (ixL T v)] ∧ Gs H' B 3 1 A' cap' (addL T v).length ((addL T v).flatMap e1) ∧ But (fun g => (g : Int) = ob A) H H' ∧ (ob A' = ob A ∨ (H.size : Int) ≤ ob A')) := by
  have hS := own_sl (wide1 T) (by decide) hg
  have z1 := hg.lt
  refine Ret.of_at (N := 29) Try.call126 Try.func126 rfl rfl rfl ?_
  have hE := Ext.refl H
  have z_hg := hg.lt
  refine At.region rfl rfl ?_
  refine Reg.pur rfl rfl rfl rfl (Pur.asg rfl) ?_
  refine Reg.pur rfl rfl rfl rfl (Pur.asg rfl) ?_
  refine Reg.nil ?_
  refine At.region rfl rfl ?_
  refine Reg.pur rfl rfl rfl rfl (Pur.asg rfl) ?_
  refine Reg.nil ?_
  refine At.loop (σ := Nat) (fun i => [(6, I i), (0, .slice A T.length cap), (1, I v)]) (fun i H' => i ≤ T.length ∧ H' = H ∧ ixL T v = i + ixL (T.drop i) v) (fun i => T.length - i) 0 rfl ⟨rfl, rfl, rfl, trivial⟩ ⟨by omega, rfl, by simp⟩ ?_
  rintro i H ⟨hi, rfl, hgo⟩ ih
  refine At.region rfl rfl ?_
  refine Reg.pur rfl rfl rfl rfl (Pur.mv rfl) ?_
  refine Reg.pur rfl rfl rfl rfl (Pur.mv rfl) ?_
  refine Reg.pur rfl rfl rfl rfl (Pur.lenS isl54 rfl) ?_
  refine Reg.pur rfl rfl rfl rfl (Pur.lss rfl rfl) ?_
  refine Reg.nil ?_
  refine At.cond rfl rfl (fun q10 => ?_) (fun q10 => ?_)
  · first | (simp only [decide_eq_true_eq, decide_eq_false_iff_not, Bool.not_eq_true', Bool.not_eq_false', ne_eq, Decidable.not_not, Bool.not_eq_true, Bool.not_eq_false] at q10) | (dsimp only at q10) | skip
    have hlt : i < T.length := by omega
    obtain ⟨b, o, c, rfl, hB, hc⟩ := int_at hS hlt
    rw [ix_drop hlt] at hgo
    refine At.region rfl rfl ?_
    refine Reg.pur rfl rfl rfl rfl (Pur.mv rfl) ?_
    refine Reg.pur rfl rfl rfl rfl (Pur.mv rfl) ?_
    refine Reg.pur rfl rfl rfl rfl (Pur.idx _ es54 rfl rfl (by omega) (by omega)) ?_
    refine Reg.lod rfl rfl rfl rfl (Lod.ld sc3 rfl hB hc) ?_
    refine Reg.pur rfl rfl rfl rfl (Pur.mv rfl) ?_
    refine Reg.pur rfl rfl rfl rfl (Pur.eql rfl rfl) ?_
    refine Reg.nil ?_
    refine At.cond rfl rfl (fun q18 => ?_) (fun q18 => ?_)
    · first | (simp only [decide_eq_true_eq, decide_eq_false_iff_not, Bool.not_eq_true', Bool.not_eq_false', ne_eq, Decidable.not_not, Bool.not_eq_true, Bool.not_eq_false] at q18) | (dsimp only at q18) | skip
      refine At.region rfl rfl ?_
      refine Reg.pur rfl rfl rfl rfl (Pur.mv rfl) ?_
      refine Reg.pur rfl rfl rfl rfl (Pur.mv rfl) ?_
      refine Reg.pur rfl rfl rfl rfl (Pur.asg rfl) ?_
      refine Reg.pur rfl rfl rfl rfl (Pur.asg rfl) ?_
      refine Reg.nil ?_
      refine At.ret rfl Try.func126 rfl ?_
      rw [if_pos q18] at hgo
      have hin : inL T v = true := by simp [inL]; omega
      have had : addL T v = T := by unfold addL; rw [hin]; rfl
      rw [had]
      exact ⟨_, cap, by rw [show ixL T v = i by omega], hg, But.refl _ _, .inl rfl⟩
    · first | (simp only [decide_eq_true_eq, decide_eq_false_iff_not, Bool.not_eq_true', Bool.not_eq_false', ne_eq, Decidable.not_not, Bool.not_eq_true, Bool.not_eq_false] at q18) | (dsimp only at q18) | skip
      refine At.region rfl rfl ?_
      refine Reg.pur rfl rfl rfl rfl (Pur.mv rfl) ?_
      first | refine Reg.pur rfl rfl rfl rfl (Pur.add64 rfl rfl (by omega)) ?_ | refine Reg.pur rfl rfl rfl rfl (Pur.add64 rfl rfl (by assumption)) ?_ | refine Reg.pur rfl rfl rfl rfl (Pur.add rfl rfl) ?_
      refine Reg.pur rfl rfl rfl rfl (Pur.asg rfl) ?_
      refine Reg.nil ?_
      rw [if_neg q18] at hgo
      exact At.via (ih (i + 1) _ ⟨by omega, rfl, by omega⟩ (by omega)) ⟨rfl, rfl, rfl, trivial⟩
  · first | (simp only [decide_eq_true_eq, decide_eq_false_iff_not, Bool.not_eq_true', Bool.not_eq_false', ne_eq, Decidable.not_not, Bool.not_eq_true, Bool.not_eq_false] at q10) | (dsimp only at q10) | skip
    rw [ix_end (by omega)] at hgo
    have hni : inL T v = false := by simp [inL]; omega
    have had : addL T v = T ++ [v] := by unfold addL; rw [hni]; rfl
    refine At.region rfl rfl ?_
    refine Reg.pur rfl rfl rfl rfl (Pur.mv rfl) ?_
    refine Reg.pur rfl rfl rfl rfl (Pur.mv rfl) ?_
    refine Reg.op rfl rfl rfl rfl (Does.bsl1T sl1_54 Try.underlying54 rfl rfl rfl rfl rfl) ?_
    rintro _ H6_2 ⟨rfl, hp6_2⟩
    have hn6_2 := New.of_eq hp6_2
    have z6_2 := hn6_2.size
    replace hg := hg.ext hn6_2.ext
    have o6_2 := hn6_2.own
    refine Reg.op rfl rfl rfl rfl (Does.appL apt54 rfl rfl (by decide) hg (wide1 _) (sl_new (L := [v]) (wide1 _) (by decide) hn6_2 (by simp)) (ones_e1 _) (by simp; omega) (by omega)) ?_
    rintro _ H6_3 ⟨A6_3, cap6_3, rfl, g6_3, hbut6_3, ha6_3⟩
    have z6_3 := hbut6_3.lt
    replace o6_2 := o6_2.via hbut6_3 (by first | omega | (intro g; omega) | (intro g hg; omega) | (intro g hg h; omega))
    replace hg := g6_3
    have zg6_3 := g6_3.lt
    refine Reg.pur rfl rfl rfl rfl (Pur.asg rfl) ?_
    refine Reg.nil ?_
    refine At.region rfl rfl ?_
    refine Reg.pur rfl rfl rfl rfl (Pur.mv rfl) ?_
    refine Reg.pur rfl rfl rfl rfl (Pur.mv rfl) ?_
    refine Reg.pur rfl rfl rfl rfl (Pur.lenS isl54 rfl) ?_
    refine Reg.pur rfl rfl rfl rfl (Pur.sub64 rfl rfl (by simp; omega)) ?_
    refine Reg.pur rfl rfl rfl rfl (Pur.asg rfl) ?_
    refine Reg.pur rfl rfl rfl rfl (Pur.asg rfl) ?_
    refine Reg.nil ?_
    refine At.ret rfl Try.func126 rfl ?_
    rw [had]
    exact ⟨A6_3, cap6_3, by rw [show ixL T v = T.length by omega]; simp [tupl], hg, (hn6_2.ext.but (S := fun g => (g : Int) = ob A)).trans hbut6_3, by omega⟩
theorem nm_kind {nb B c1 c2 : Nat} {A1 A2 : Option Addr} {T R : List Int} (v : Int) {H : Heap} (h : Nm H nb B A1 c1 T A2 c2 R) (hm : T.length ≤ 1000000) :
    Ret Try.prog 98 [ptr nb 0, I v] H (fun r H' => r = I (ixL T v) ∧ ∃ A1' c1', Nm H' nb B A1' c1' (addL T v) A2 c2 R ∧ Mod nb A1 A2 A1' A2 H H') := by
  obtain ⟨ho, hg1, hg2, hd1, hd2, hd3, hlo⟩ := h
  have z1 := hg1.lt
  have z2 := hg2.lt
  have hnb := ho.lt
  refine Ret.of_at (N := 21) Try.call98 Try.func98 rfl rfl rfl ?_
  have hE := Ext.refl H
  have z_ho := ho.lt
  have z_hg2 := hg2.lt
  refine At.region rfl rfl ?_
  refine Reg.pur rfl rfl rfl rfl (Pur.asg rfl) ?_
  refine Reg.nil ?_
  refine At.region rfl rfl ?_
  refine Reg.pur rfl rfl rfl rfl (Pur.mv rfl) ?_
  refine Reg.pur rfl rfl rfl rfl (Pur.nilc rfl) ?_
  refine Reg.pur rfl rfl rfl rfl (Pur.fld _ fo116_0 rfl) ?_
  refine Reg.lod rfl rfl rfl rfl (Lod.ld sc54 rfl ho.blk rfl) ?_
  refine Reg.pur rfl rfl rfl rfl (Pur.mv rfl) ?_
  refine Reg.op rfl rfl rfl rfl (Does.call rfl (at_ok T v hg1 hlo hm)) ?_
  rintro _ H1_5 ⟨A', cap', rfl, hg1_5, hbut1_5, ha1_5⟩
  have z1_5 := hbut1_5.lt
  replace ho := ho.via hbut1_5 (by first | omega | (intro g; omega) | (intro g hg; omega) | (intro g hg h; omega))
  replace hg2 := hg2.via hbut1_5 (by first | omega | (intro g; omega) | (intro g hg; omega) | (intro g hg h; omega))
  have z_hg1_5 := hg1_5.lt
  refine Reg.pur rfl rfl rfl rfl (Pur.mv rfl) ?_
  refine Reg.pur rfl rfl rfl rfl (Pur.ext rfl rfl) ?_
  refine Reg.pur rfl rfl rfl rfl (Pur.ext rfl rfl) ?_
  refine Reg.pur rfl rfl rfl rfl (Pur.asg rfl) ?_
  refine Reg.pur rfl rfl rfl rfl (Pur.asg rfl) ?_
  refine Reg.nil ?_
  refine At.region rfl rfl ?_
  refine Reg.pur rfl rfl rfl rfl (Pur.mv rfl) ?_
  refine Reg.pur rfl rfl rfl rfl (Pur.mv rfl) ?_
  refine Reg.pur rfl rfl rfl rfl (Pur.nilc rfl) ?_
  refine Reg.pur rfl rfl rfl rfl (Pur.fld _ fo116_0 rfl) ?_
  refine Reg.op0 rfl rfl rfl (Does.st sc54 rfl rfl rfl ho (by simp)) ?_
  rintro _ H2_4 hu2_4
  have z2_4 := hu2_4.size
  replace hg2 := hg2.upw hu2_4 (by omega)
  replace hg1_5 := hg1_5.upw hu2_4 (by omega)
  replace ho := hu2_4.own
  refine Reg.nil ?_
  refine At.region rfl rfl ?_
  refine Reg.pur rfl rfl rfl rfl (Pur.mv rfl) ?_
  refine Reg.pur rfl rfl rfl rfl (Pur.asg rfl) ?_
  refine Reg.nil ?_
  refine At.ret rfl Try.func98 rfl ?_
  refine ⟨rfl, A', cap', ⟨ho, hg1_5, hg2, by omega, by omega, hd3, by omega⟩, ⟨(hbut1_5.mono (fun b hb h => Or.inr (Or.inl h))).trans (hu2_4.but.mono (fun b hb h => Or.inl h)), by omega, .inl rfl⟩⟩
theorem nm_row {nb B c1 c2 : Nat} {A1 A2 : Option Addr} {T R : List Int} (v : Int) {H : Heap} (h : Nm H nb B A1 c1 T A2 c2 R) (hm : R.length ≤ 1000000) :
    Ret Try.prog 99 [ptr nb 0, I v] H (fun r H' => r = I (ixL R v) ∧ ∃ A2' c2', Nm H' nb B A1 c1 T A2' c2' (addL R v) ∧ Mod nb A1 A2 A1 A2' H H') := by
  obtain ⟨ho, hg1, hg2, hd1, hd2, hd3, hlo⟩ := h
  have z1 := hg1.lt
  have z2 := hg2.lt
  have hnb := ho.lt
  refine Ret.of_at (N := 21) Try.call99 Try.func99 rfl rfl rfl ?_
  have hE := Ext.refl H
  have z_ho := ho.lt
  have z_hg1 := hg1.lt
  refine At.region rfl rfl ?_
  refine Reg.pur rfl rfl rfl rfl (Pur.asg rfl) ?_
  refine Reg.nil ?_
  refine At.region rfl rfl ?_
  refine Reg.pur rfl rfl rfl rfl (Pur.mv rfl) ?_
  refine Reg.pur rfl rfl rfl rfl (Pur.nilc rfl) ?_
  refine Reg.pur rfl rfl rfl rfl (Pur.fld _ fo116_1 rfl) ?_
  refine Reg.lod rfl rfl rfl rfl (Lod.ld sc54 rfl ho.blk rfl) ?_
  refine Reg.pur rfl rfl rfl rfl (Pur.mv rfl) ?_
  refine Reg.op rfl rfl rfl rfl (Does.call rfl (at_ok R v hg2 hlo hm)) ?_
  rintro _ H1_5 ⟨A', cap', rfl, hg1_5, hbut1_5, ha1_5⟩
  have z1_5 := hbut1_5.lt
  replace ho := ho.via hbut1_5 (by first | omega | (intro g; omega) | (intro g hg; omega) | (intro g hg h; omega))
  replace hg1 := hg1.via hbut1_5 (by first | omega | (intro g; omega) | (intro g hg; omega) | (intro g hg h; omega))
  have z_hg1_5 := hg1_5.lt
  refine Reg.pur rfl rfl rfl rfl (Pur.mv rfl) ?_
  refine Reg.pur rfl rfl rfl rfl (Pur.ext rfl rfl) ?_
  refine Reg.pur rfl rfl rfl rfl (Pur.ext rfl rfl) ?_
  refine Reg.pur rfl rfl rfl rfl (Pur.asg rfl) ?_
  refine Reg.pur rfl rfl rfl rfl (Pur.asg rfl) ?_
  refine Reg.nil ?_
  refine At.region rfl rfl ?_
  refine Reg.pur rfl rfl rfl rfl (Pur.mv rfl) ?_
  refine Reg.pur rfl rfl rfl rfl (Pur.mv rfl) ?_
  refine Reg.pur rfl rfl rfl rfl (Pur.nilc rfl) ?_
  refine Reg.pur rfl rfl rfl rfl (Pur.fld _ fo116_1 rfl) ?_
  refine Reg.op0 rfl rfl rfl (Does.st sc54 rfl rfl rfl ho (by simp)) ?_
  rintro _ H2_4 hu2_4
  have z2_4 := hu2_4.size
  replace hg1 := hg1.upw hu2_4 (by omega)
  replace hg1_5 := hg1_5.upw hu2_4 (by omega)
  replace ho := hu2_4.own
  refine Reg.nil ?_
  refine At.region rfl rfl ?_
  refine Reg.pur rfl rfl rfl rfl (Pur.mv rfl) ?_
  refine Reg.pur rfl rfl rfl rfl (Pur.asg rfl) ?_
  refine Reg.nil ?_
  refine At.ret rfl Try.func99 rfl ?_
  refine ⟨rfl, A', cap', ⟨ho, hg1, hg1_5, by omega, hd2, by omega, by omega⟩, ⟨(hbut1_5.mono (fun b hb h => Or.inr (Or.inr h))).trans (hu2_4.but.mono (fun b hb h => Or.inl h)), .inl rfl, by omega⟩⟩
end Go.Proofs.Ytlfillhffpiffaa

/-
  Names of a type's variables.
-/
namespace Go.Proofs.Ytlfillhffpiffaa
set_option linter.unusedSimpArgs false
set_option linter.unusedVariables false
set_option maxRecDepth 8000
open Go Go.Fx Go.Proofs
namespace FactsSchD
theorem fo28_1 : foff Try.prog 28 1 = some 4 := by kernel_rfl
theorem fo47_0 : foff Try.prog 47 0 = some 0 := by kernel_rfl
theorem fo47_1 : foff Try.prog 47 1 = some 1 := by kernel_rfl
theorem fo47_4 : foff Try.prog 47 4 = some 4 := by kernel_rfl
theorem mixed : Try.prog.follows .mixedOrders = true := by kernel_rfl
theorem sc146 : sc Try.prog 146 = true := by kernel_rfl
theorem sc3 : sc Try.prog 3 = true := by kernel_rfl
end FactsSchD
open FactsSchD

abbrev Nms := List Int × List Int
def see (n : Nms) (x : List Int) : Nms := if x.getD 0 0 = 2 then (addL n.1 (x.getD 1 0), n.2) else if x.getD 0 0 = 3 ∧ x.getD 8 0 ≠ -1 then (n.1, addL n.2 (x.getD 8 0)) else n
/-- the nodes of a part, in the row in which they are read -/
def ord (L : List (List Int)) : Nat → Int → List (List Int)
  | 0, _ => []
  | f + 1, z => if (el L z).getD 0 0 ≠ 3 then [el L z] else ord L f ((el L z).getD 2 0) ++ el L z :: ord L f ((el L z).getD 3 0)
theorem ord_succ (L : List (List Int)) (f : Nat) (z : Int) : ord L (f + 1) z = if (el L z).getD 0 0 ≠ 3 then [el L z] else ord L f ((el L z).getD 2 0) ++ el L z :: ord L f ((el L z).getD 3 0) := rfl
def nms (n : Nms) (l : List (List Int)) : Nms := l.foldl see n
theorem see_len (n : Nms) (x : List Int) : (see n x).1.length + (see n x).2.length ≤ n.1.length + n.2.length + 1 := by
  have h1 := addL_len n.1 (x.getD 1 0)
  have h2 := addL_len n.2 (x.getD 8 0)
  unfold see; split
  · dsimp only; omega
  · split
    · dsimp only; omega
    · omega
theorem nms_len : ∀ (l : List (List Int)) (n : Nms), (nms n l).1.length + (nms n l).2.length ≤ n.1.length + n.2.length + l.length
  | [], n => by simp [nms]
  | x :: l, n => by
    have h1 := see_len n x
    have h2 := nms_len l (see n x)
    simp only [nms, List.foldl_cons, List.length_cons] at h2 ⊢
    omega
theorem nms_app (n : Nms) (l m : List (List Int)) : nms n (l ++ m) = nms (nms n l) m := List.foldl_append
theorem nms_cons (n : Nms) (x : List Int) (l : List (List Int)) : nms n (x :: l) = nms (see n x) l := rfl
theorem ord_len (L : List (List Int)) : ∀ (f : Nat) (z : Int), 0 ≤ z → 0 ≤ bgn L f z → ((ord L f z).length : Int) = z - bgn L f z + 1
  | 0, z, h0, h => by simp only [bgn] at h; omega
  | f + 1, z, h0, h => by
    rw [bgn_succ] at h ⊢
    rw [ord_succ]
    by_cases hk : (el L z).getD 0 0 ≠ 3
    · rw [if_pos hk, if_pos hk]; simp
    · rw [if_neg hk] at h
      rw [if_neg hk, if_neg hk]
      by_cases hb : z = 0 ∨ (el L z).getD 3 0 ≠ z - 1
      · rw [if_pos hb] at h; omega
      · rw [if_neg hb] at h ⊢
        by_cases hc : bgn L f ((el L z).getD 3 0) < 1 ∨ (el L z).getD 2 0 ≠ bgn L f ((el L z).getD 3 0) - 1
        · rw [if_pos hc] at h; omega
        · rw [if_neg hc] at h ⊢
          have e1 := ord_len L f ((el L z).getD 3 0) (by omega) (by omega)
          have e2 := ord_len L f ((el L z).getD 2 0) (by omega) h
          rw [List.length_append, List.length_cons]
          omega
theorem bgn_fun {L : List (List Int)} {f : Nat} {z : Int} (h : 0 ≤ bgn L (f + 1) z) (hk : (el L z).getD 0 0 = 3) :
    z ≠ 0 ∧ (el L z).getD 3 0 = z - 1 ∧ 1 ≤ bgn L f ((el L z).getD 3 0) ∧ (el L z).getD 2 0 = bgn L f ((el L z).getD 3 0) - 1 ∧ 0 ≤ bgn L f ((el L z).getD 2 0) := by
  rw [bgn_succ, if_neg (by omega)] at h
  by_cases hb : z = 0 ∨ (el L z).getD 3 0 ≠ z - 1
  · rw [if_pos hb] at h; omega
  · rw [if_neg hb] at h
    by_cases hc : bgn L f ((el L z).getD 3 0) < 1 ∨ (el L z).getD 2 0 ≠ bgn L f ((el L z).getD 3 0) - 1
    · rw [if_pos hc] at h; omega
    · rw [if_neg hc] at h; omega

theorem see1_ok {xb xo tb nb B c1 c2 : Nat} {A1 A2 : Option Addr} {T R : List Int} {c : List Value} (x : List Int) {H : Heap} (hX : Blk H xb c) (hx : ∀ j, j < 9 → c[xo + j]? = some (I (x.getD j 0))) (hT : Blk H tb [ptr nb 0]) (h : Nm H nb B A1 c1 T A2 c2 R) (hm : T.length + R.length ≤ 1000000) :
    Ret Try.prog 121 [ptr xb xo, ptr tb 0] H (fun _ H' => ∃ A1' c1' A2' c2', Nm H' nb B A1' c1' (see (T, R) x).1 A2' c2' (see (T, R) x).2 ∧ Mod nb A1 A2 A1' A2' H H') := by
  refine Ret.of_at (N := 36) Try.call121 Try.func121 rfl rfl rfl ?_
  have hE := Ext.refl H

  refine At.region rfl rfl ?_
  refine Reg.pur rfl rfl rfl rfl (Pur.mv rfl) ?_
  refine Reg.pur rfl rfl rfl rfl (Pur.nilc rfl) ?_
  refine Reg.pur rfl rfl rfl rfl (Pur.fld _ fo47_0 rfl) ?_
  refine Reg.lod rfl rfl rfl rfl (Lod.ld sc3 rfl hX (hx 0 (by omega))) ?_
  refine Reg.pur rfl rfl rfl rfl (Pur.eql rfl rfl) ?_
  refine Reg.pur rfl rfl rfl rfl (Pur.asg rfl) ?_
  refine Reg.nil ?_
  refine At.cond rfl rfl (fun q3 => ?_) (fun q3 => ?_)
  · first | (simp only [decide_eq_true_eq, decide_eq_false_iff_not, Bool.not_eq_true', Bool.not_eq_false', ne_eq, Decidable.not_not, Bool.not_eq_true, Bool.not_eq_false] at q3) | (dsimp only at q3) | skip
    refine At.drawE ((Bks.cons hT.blk (Bks.cons hX.blk Bks.nil))) [5] mixed rfl rfl ?_
    refine RegD.take (i := 0) rfl rfl rfl rfl (by kernel_rfl) (Bks.cons hT.blk (Bks.cons hX.blk Bks.nil)) (fun H hS => Lod.ld sc146 rfl hS.hd rfl) ?_
    refine RegD.tpur (i := 1) rfl rfl rfl rfl (by kernel_rfl) (Pur.mv rfl) ?_
    refine RegD.tpur (i := 2) rfl rfl rfl rfl (by kernel_rfl) (Pur.nilc rfl) ?_
    refine RegD.tpur (i := 3) rfl rfl rfl rfl (by kernel_rfl) (Pur.fld _ fo47_1 rfl) ?_
    refine RegD.take (i := 4) rfl rfl rfl rfl (by kernel_rfl) (Bks.cons hT.blk (Bks.cons hX.blk Bks.nil)) (fun H hS => Lod.ld sc3 rfl hS.tl.hd (hx 1 (by omega))) ?_
    skip
    refine RegD.one (i := 5) (by kernel_rfl) rfl rfl rfl rfl (Does.call rfl (nm_Type _ h (by omega))) ?_
    rintro _ H1_5 ⟨rfl, A1', c1', hN1_5, hM1_5⟩
    refine ⟨fun h => (by cases h), ?_⟩
    refine RegD.done (by kernel_rfl) ?_
    refine At.fall rfl Try.func121 rfl ?_
    have hs : see (T, R) x = (addL T (x.getD 1 0), R) := by unfold see; rw [if_pos q3]
    rw [hs]; exact ⟨A1', c1', A2, c2, hN1_5, hM1_5⟩
  · first | (simp only [decide_eq_true_eq, decide_eq_false_iff_not, Bool.not_eq_true', Bool.not_eq_false', ne_eq, Decidable.not_not, Bool.not_eq_true, Bool.not_eq_false] at q3) | (dsimp only at q3) | skip
    refine At.region rfl rfl ?_
    refine Reg.pur rfl rfl rfl rfl (Pur.mv rfl) ?_
    refine Reg.pur rfl rfl rfl rfl (Pur.nilc rfl) ?_
    refine Reg.pur rfl rfl rfl rfl (Pur.fld _ fo47_0 rfl) ?_
    refine Reg.lod rfl rfl rfl rfl (Lod.ld sc3 rfl hX (hx 0 (by omega))) ?_
    refine Reg.pur rfl rfl rfl rfl (Pur.eql rfl rfl) ?_
    refine Reg.pur rfl rfl rfl rfl (Pur.mv rfl) ?_
    refine Reg.case 21 rfl (fun q21 => ?_) (fun q21 => ?_)
    · first | (simp only [decide_eq_true_eq, decide_eq_false_iff_not, Bool.not_eq_true', Bool.not_eq_false', ne_eq, Decidable.not_not, Bool.not_eq_true, Bool.not_eq_false] at q21) | (dsimp only at q21) | skip
      refine Reg.gpur rfl rfl rfl rfl rfl rfl (Pur.mv rfl) ?_
      refine Reg.gpur rfl rfl rfl rfl rfl rfl (Pur.nilc rfl) ?_
      refine Reg.gpur rfl rfl rfl rfl rfl rfl (Pur.fld _ fo47_4 rfl) ?_
      refine Reg.gpur rfl rfl rfl rfl rfl rfl (Pur.fld _ fo28_1 rfl) ?_
      refine Reg.glod rfl rfl rfl rfl rfl rfl (Lod.ld sc3 rfl hX (by rw [show xo + 4 + 4 = xo + 8 by omega]; exact hx 8 (by omega))) ?_
      refine Reg.gpur rfl rfl rfl rfl rfl rfl (Pur.neq rfl rfl) ?_
      refine Reg.pur rfl rfl rfl rfl (Pur.pickT rfl rfl) ?_
      refine Reg.pur rfl rfl rfl rfl (Pur.asg rfl) ?_
      refine Reg.nil ?_
      refine At.cond rfl rfl (fun q15 => ?_) (fun q15 => ?_)
      · first | (simp only [decide_eq_true_eq, decide_eq_false_iff_not, Bool.not_eq_true', Bool.not_eq_false', ne_eq, Decidable.not_not, Bool.not_eq_true, Bool.not_eq_false] at q15) | (dsimp only at q15) | skip
        refine At.drawE ((Bks.cons hT.blk (Bks.cons hX.blk Bks.nil))) [6] mixed rfl rfl ?_
        refine RegD.take (i := 0) rfl rfl rfl rfl (by kernel_rfl) (Bks.cons hT.blk (Bks.cons hX.blk Bks.nil)) (fun H hS => Lod.ld sc146 rfl hS.hd rfl) ?_
        refine RegD.tpur (i := 1) rfl rfl rfl rfl (by kernel_rfl) (Pur.mv rfl) ?_
        refine RegD.tpur (i := 2) rfl rfl rfl rfl (by kernel_rfl) (Pur.nilc rfl) ?_
        refine RegD.tpur (i := 3) rfl rfl rfl rfl (by kernel_rfl) (Pur.fld _ fo47_4 rfl) ?_
        refine RegD.tpur (i := 4) rfl rfl rfl rfl (by kernel_rfl) (Pur.fld _ fo28_1 rfl) ?_
        refine RegD.take (i := 5) rfl rfl rfl rfl (by kernel_rfl) (Bks.cons hT.blk (Bks.cons hX.blk Bks.nil)) (fun H hS => Lod.ld sc3 rfl hS.tl.hd (by rw [show xo + 4 + 4 = xo + 8 by omega]; exact hx 8 (by omega))) ?_
        refine RegD.one (i := 6) (by kernel_rfl) rfl rfl rfl rfl (Does.call rfl (nm_Row _ h (by omega))) ?_
        rintro _ H3_6 ⟨rfl, A2', c2', hN3_6, hM3_6⟩
        refine ⟨fun h => (by cases h), ?_⟩
        refine RegD.done (by kernel_rfl) ?_
        refine At.fall rfl Try.func121 rfl ?_
        have hs : see (T, R) x = (T, addL R (x.getD 8 0)) := by unfold see; rw [if_neg q3, if_pos ⟨q21, q15⟩]
        rw [hs]; exact ⟨A1, c1, A2', c2', hN3_6, hM3_6⟩
      · first | (simp only [decide_eq_true_eq, decide_eq_false_iff_not, Bool.not_eq_true', Bool.not_eq_false', ne_eq, Decidable.not_not, Bool.not_eq_true, Bool.not_eq_false] at q15) | (dsimp only at q15) | skip
        refine At.fall rfl Try.func121 rfl ?_
        have hs : see (T, R) x = (T, R) := by unfold see; rw [if_neg q3, if_neg (by simp_all)]
        rw [hs]; exact ⟨A1, c1, A2, c2, h, Mod.refl _ _ _ _⟩
    · first | (simp only [decide_eq_true_eq, decide_eq_false_iff_not, Bool.not_eq_true', Bool.not_eq_false', ne_eq, Decidable.not_not, Bool.not_eq_true, Bool.not_eq_false] at q21) | (dsimp only at q21) | skip
      refine Reg.skip rfl rfl rfl rfl rfl rfl rfl ?_
      refine Reg.skip rfl rfl rfl rfl rfl rfl rfl ?_
      refine Reg.skip rfl rfl rfl rfl rfl rfl rfl ?_
      refine Reg.skip rfl rfl rfl rfl rfl rfl rfl ?_
      refine Reg.skip rfl rfl rfl rfl rfl rfl rfl ?_
      refine Reg.skip rfl rfl rfl rfl rfl rfl rfl ?_
      refine Reg.pur rfl rfl rfl rfl (Pur.pickF rfl rfl) ?_
      refine Reg.pur rfl rfl rfl rfl (Pur.asg rfl) ?_
      refine Reg.nil ?_
      refine At.condF rfl rfl rfl ?_
      refine At.fall rfl Try.func121 rfl ?_
      have hs : see (T, R) x = (T, R) := by unfold see; rw [if_neg q3, if_neg (by simp_all)]
      rw [hs]; exact ⟨A1, c1, A2, c2, h, Mod.refl _ _ _ _⟩
end Go.Proofs.Ytlfillhffpiffaa

/-
  typ.Vars, the reference's VarsOf.
-/
namespace Go.Proofs.Ytlfillhffpiffaa
set_option linter.unusedSimpArgs false
set_option linter.unusedVariables false
set_option maxRecDepth 8000
open Go Go.Fx Go.Proofs
namespace FactsSchE
theorem es23 : esz Try.prog 23 = some 9 := by kernel_rfl
theorem fo25_0 : foff Try.prog 25 0 = some 0 := by kernel_rfl
theorem fo47_0 : foff Try.prog 47 0 = some 0 := by kernel_rfl
theorem fo47_2 : foff Try.prog 47 2 = some 2 := by kernel_rfl
theorem fo47_3 : foff Try.prog 47 3 = some 3 := by kernel_rfl
theorem isl23 : isSl Try.prog 23 = true := by kernel_rfl
theorem sc23 : sc Try.prog 23 = true := by kernel_rfl
theorem sc3 : sc Try.prog 3 = true := by kernel_rfl
end FactsSchE
open FactsSchE

abbrev seeF (tb : Nat) : Value := .func (.func 121) #[] #[ptr tb 0]
/-- block b is none of those that names may write -/
structure Off (nb : Nat) (A1 A2 : Option Addr) (b : Int) : Prop where
  h1 : b ≠ nb
  h2 : b ≠ ob A1
  h3 : b ≠ ob A2
theorem Off.not {nb : Nat} {A1 A2 : Option Addr} {b : Nat} (h : Off nb A1 A2 b) : ¬ (b = nb ∨ (b : Int) = ob A1 ∨ (b : Int) = ob A2) := by
  rintro (e | e | e)
  · exact h.h1 (by rw [e])
  · exact h.h2 e
  · exact h.h3 e
theorem Off.mod {nb : Nat} {A1 A2 A1' A2' : Option Addr} {b : Int} {H H' : Heap} (h : Off nb A1 A2 b) (hb : b < H.size) (hM : Mod nb A1 A2 A1' A2' H H') : Off nb A1' A2' b := by
  obtain ⟨_, h1, h2⟩ := hM
  obtain ⟨k1, k2, k3⟩ := h
  exact ⟨k1, by omega, by omega⟩
theorem walk_ok {L : List (List Int)} (hL : Nine L) {A : Option Addr} {cap yb yo tb nb B : Nat} {cy : List Value} (hcy : cy[yo]? = some (.slice A L.length cap)) (hm : L.length ≤ 9223372036854775807) : ∀ (f : Nat) (z : Int), 0 ≤ z → z < L.length → z.toNat < f → 0 ≤ bgn L f z →
    ∀ {H : Heap} {A1 A2 : Option Addr} {c1 c2 : Nat} {T R : List Int}, SlT H Is 9 (.slice A L.length cap) L → Blk H yb cy → Blk H tb [ptr nb 0] → Nm H nb B A1 c1 T A2 c2 R → T.length + R.length + (ord L f z).length ≤ 1000000 →
    Off nb A1 A2 yb → Off nb A1 A2 tb → Off nb A1 A2 (ob A) →
    Ret Try.prog 120 [ptr yb yo, I z, seeF tb] H (fun _ H' => ∃ A1' c1' A2' c2', Nm H' nb B A1' c1' (nms (T, R) (ord L f z)).1 A2' c2' (nms (T, R) (ord L f z)).2 ∧ Mod nb A1 A2 A1' A2' H H') := by
  intro f
  induction f with
  | zero => intro z _ _ h; omega
  | succ f ihf =>
  intro z hz0 hzl hzf hbg H A1 A2 c1 c2 T R hS hY hT hN hlen hoY hoT hoA
  obtain ⟨b, o, c, rfl, hB, hd, hx9, hat⟩ := el_cells hL hS hz0 hzl
  have hfin := ord_succ L f z
  have hfun := bgn_fun hbg
  have hnl := nms_len (ord L f ((el L z).getD 2 0)) (T, R)
  have hsl := see_len ((nms (T, R) (ord L f ((el L z).getD 2 0))).1, (nms (T, R) (ord L f ((el L z).getD 2 0))).2) (el L z)
  generalize el L z = x at hfin hfun hd hx9 hat hnl hsl
  have hob : ob (some ⟨b, o, none⟩) = b := ob_some b o
  rw [hob] at hoA
  have zY := Int.ofNat_lt.2 hY.lt
  have zT := Int.ofNat_lt.2 hT.lt
  have zB := Int.ofNat_lt.2 hB.lt
  refine Ret.of_at (N := 38) Try.call120 Try.func120 rfl rfl rfl ?_
  have hE := Ext.refl H

  refine At.region rfl rfl ?_
  refine Reg.pur rfl rfl rfl rfl (Pur.mv rfl) ?_
  refine Reg.pur rfl rfl rfl rfl (Pur.nilc rfl) ?_
  refine Reg.pur rfl rfl rfl rfl (Pur.fld _ fo25_0 rfl) ?_
  refine Reg.lod rfl rfl rfl rfl (Lod.ld sc23 rfl hY hcy) ?_
  refine Reg.pur rfl rfl rfl rfl (Pur.mv rfl) ?_
  refine Reg.pur rfl rfl rfl rfl (Pur.idx _ es23 rfl rfl (by omega) (by omega)) ?_
  refine Reg.pur rfl rfl rfl rfl (Pur.asg rfl) ?_
  refine Reg.nil ?_
  refine At.region rfl rfl ?_
  refine Reg.pur rfl rfl rfl rfl (Pur.mv rfl) ?_
  refine Reg.pur rfl rfl rfl rfl (Pur.nilc rfl) ?_
  refine Reg.pur rfl rfl rfl rfl (Pur.fld _ fo47_0 rfl) ?_
  refine Reg.lod rfl rfl rfl rfl (Lod.ld sc3 rfl hB (hat 0 (by omega))) ?_
  refine Reg.pur rfl rfl rfl rfl (Pur.neq rfl rfl) ?_
  refine Reg.nil ?_
  refine At.cond rfl rfl (fun q17 => ?_) (fun q17 => ?_)
  · first | (simp only [decide_eq_true_eq, decide_eq_false_iff_not, Bool.not_eq_true', Bool.not_eq_false', ne_eq, Decidable.not_not, Bool.not_eq_true, Bool.not_eq_false] at q17) | (dsimp only at q17) | skip
    refine At.region rfl rfl ?_
    refine Reg.pur rfl rfl rfl rfl (Pur.mv rfl) ?_
    refine Reg.pur rfl rfl rfl rfl (Pur.mv rfl) ?_
    refine Reg.op rfl rfl rfl rfl (Does.callv rfl rfl (see1_ok x hB hat hT hN (by omega))) ?_
    rintro _ H2_2 ⟨A1a, c1a, A2a, c2a, hN2_2, hM2_2⟩
    refine Reg.nil ?_
    refine At.ret rfl Try.func120 rfl ?_
    rw [hfin, if_pos q17] at hlen ⊢
    exact ⟨A1a, c1a, A2a, c2a, hN2_2, hM2_2⟩
  · first | (simp only [decide_eq_true_eq, decide_eq_false_iff_not, Bool.not_eq_true', Bool.not_eq_false', ne_eq, Decidable.not_not, Bool.not_eq_true, Bool.not_eq_false] at q17) | (dsimp only at q17) | skip
    obtain ⟨hz, hB3, hb3, hA2, hbA⟩ := hfun q17
    have hle := bgn_le L f (x.getD 3 0) (by omega)
    rw [hfin, if_neg (fun h => h q17), List.length_append, List.length_cons] at hlen
    refine At.region rfl rfl ?_
    refine Reg.pur rfl rfl rfl rfl (Pur.mv rfl) ?_
    refine Reg.pur rfl rfl rfl rfl (Pur.mv rfl) ?_
    refine Reg.pur rfl rfl rfl rfl (Pur.nilc rfl) ?_
    refine Reg.pur rfl rfl rfl rfl (Pur.fld _ fo47_2 rfl) ?_
    refine Reg.lod rfl rfl rfl rfl (Lod.ld sc3 rfl hB (hat 2 (by omega))) ?_
    refine Reg.pur rfl rfl rfl rfl (Pur.mv rfl) ?_
    refine Reg.op rfl rfl rfl rfl (Does.call rfl (ihf (x.getD 2 0) (by omega) (by omega) (by omega) hbA hS hY hT hN (by omega) hoY hoT (by rw [hob]; exact hoA))) ?_
    rintro _ H3_6 ⟨A1a, c1a, A2a, c2a, hN3_6, hM3_6⟩
    replace hY := hY.via hM3_6.1 hoY.not
    replace hT := hT.via hM3_6.1 hoT.not
    replace hB := hB.via hM3_6.1 hoA.not
    replace hS := hS.via hM3_6.1 (fun _ g hg => by rw [hob] at hg; obtain rfl : g = b := (by omega); exact hoA.not)
    replace hoY := hoY.mod zY hM3_6
    replace hoT := hoT.mod zT hM3_6
    replace hoA := hoA.mod zB hM3_6
    replace zY := Int.ofNat_lt.2 hY.lt
    replace zT := Int.ofNat_lt.2 hT.lt
    replace zB := Int.ofNat_lt.2 hB.lt
    refine Reg.nil ?_
    refine At.region rfl rfl ?_
    refine Reg.pur rfl rfl rfl rfl (Pur.mv rfl) ?_
    refine Reg.pur rfl rfl rfl rfl (Pur.mv rfl) ?_
    refine Reg.op rfl rfl rfl rfl (Does.callv rfl rfl (see1_ok x hB hat hT hN3_6 (by dsimp only at hnl; omega))) ?_
    rintro _ H4_2 ⟨A1b, c1b, A2b, c2b, hN4_2, hM4_2⟩
    replace hY := hY.via hM4_2.1 hoY.not
    replace hT := hT.via hM4_2.1 hoT.not
    replace hB := hB.via hM4_2.1 hoA.not
    replace hS := hS.via hM4_2.1 (fun _ g hg => by rw [hob] at hg; obtain rfl : g = b := (by omega); exact hoA.not)
    replace hoY := hoY.mod zY hM4_2
    replace hoT := hoT.mod zT hM4_2
    replace hoA := hoA.mod zB hM4_2
    replace zY := Int.ofNat_lt.2 hY.lt
    replace zT := Int.ofNat_lt.2 hT.lt
    replace zB := Int.ofNat_lt.2 hB.lt
    refine Reg.nil ?_
    refine At.region rfl rfl ?_
    refine Reg.pur rfl rfl rfl rfl (Pur.mv rfl) ?_
    refine Reg.pur rfl rfl rfl rfl (Pur.mv rfl) ?_
    refine Reg.pur rfl rfl rfl rfl (Pur.nilc rfl) ?_
    refine Reg.pur rfl rfl rfl rfl (Pur.fld _ fo47_3 rfl) ?_
    refine Reg.lod rfl rfl rfl rfl (Lod.ld sc3 rfl hB (hat 3 (by omega))) ?_
    refine Reg.pur rfl rfl rfl rfl (Pur.mv rfl) ?_
    refine Reg.op rfl rfl rfl rfl (Does.call rfl (ihf (x.getD 3 0) (by omega) (by omega) (by omega) (by omega) hS hY hT hN4_2 (by dsimp only at hnl hsl ⊢; omega) hoY hoT (by rw [hob]; exact hoA))) ?_
    rintro _ H5_6 ⟨A1d, c1d, A2d, c2d, hN5_6, hM5_6⟩
    refine Reg.nil ?_
    refine At.fall rfl Try.func120 rfl ?_
    rw [hfin, if_neg (fun h => h q17), nms_app, nms_cons]
    exact ⟨A1d, c1d, A2d, c2d, hN5_6, (hM3_6.trans hM4_2).trans hM5_6⟩

theorem typM_bgn {L : List (List Int)} (h : typM L = true) : (1 ≤ L.length ∧ L.length ≤ 256) ∧ bgn L L.length ((L.length : Int) - 1) = 0 := by
  unfold typM at h
  simp only [Bool.and_eq_true, decide_eq_true_eq] at h
  exact ⟨h.1.1, h.2⟩
/-- a type's variables -/
def varsS (L : List (List Int)) (n : Nms) : Nms := nms n (ord L L.length ((L.length : Int) - 1))
theorem ord_256 {L : List (List Int)} (h : typM L = true) : (ord L L.length ((L.length : Int) - 1)).length = L.length := by
  obtain ⟨h1, h2⟩ := typM_bgn h
  have := ord_len L L.length ((L.length : Int) - 1) (by omega) (by omega)
  omega
theorem varsS_len {L : List (List Int)} (h : typM L = true) (n : Nms) : (varsS L n).1.length + (varsS L n).2.length ≤ n.1.length + n.2.length + L.length := by
  have := nms_len (ord L L.length ((L.length : Int) - 1)) n
  rw [ord_256 h] at this; exact this

theorem namesVars_ok {L : List (List Int)} (hL : Nine L) (hM : typM L = true) {A : Option Addr} {cap yb yo nb B : Nat} {cy : List Value} (hcy : cy[yo]? = some (.slice A L.length cap)) {H : Heap} {A1 A2 : Option Addr} {c1 c2 : Nat} {T R : List Int} (hS : SlT H Is 9 (.slice A L.length cap) L) (hY : Blk H yb cy) (hN : Nm H nb B A1 c1 T A2 c2 R)
    (hlen : T.length + R.length ≤ 900000) (hoY : Off nb A1 A2 yb) (hoA : Off nb A1 A2 (ob A)) :
    Ret Try.prog 89 [ptr nb 0, ptr yb yo] H (fun _ H' => ∃ A1' c1' A2' c2', Nm H' nb B A1' c1' (varsS L (T, R)).1 A2' c2' (varsS L (T, R)).2 ∧ Mod nb A1 A2 A1' A2' H H') := by
  obtain ⟨⟨hl1, hl2⟩, hb⟩ := typM_bgn hM
  have hol := ord_256 hM
  have zN := hN.own.lt
  have z1 := hN.g1.lt
  have z2 := hN.g2.lt
  refine Ret.of_at (N := 13) Try.call89 Try.func89 rfl rfl rfl ?_
  have hE := Ext.refl H
  have z_hE := hE.lt
  have z_hY := hY.lt
  have z_hS := hS.lt
  refine At.region rfl rfl ?_
  refine Reg.op rfl rfl rfl rfl (Does.box rfl rfl) ?_
  rintro _ H0_0 ⟨rfl, hn0_0⟩
  have z0_0 := hn0_0.size
  replace hE := hE.ext hn0_0.ext
  replace hY := hY.ext hn0_0.ext
  replace hS := hS.ext hn0_0.ext
  have o0_0 := hn0_0.own
  refine Reg.nil ?_
  refine At.region rfl rfl ?_
  refine Reg.pur rfl rfl rfl rfl (Pur.mv rfl) ?_
  refine Reg.pur rfl rfl rfl rfl (Pur.mv rfl) ?_
  refine Reg.pur rfl rfl rfl rfl (Pur.nilc rfl) ?_
  refine Reg.pur rfl rfl rfl rfl (Pur.fld _ fo25_0 rfl) ?_
  refine Reg.lod rfl rfl rfl rfl (Lod.ld sc23 rfl hY hcy) ?_
  refine Reg.pur rfl rfl rfl rfl (Pur.lenS isl23 rfl) ?_
  refine Reg.pur rfl rfl rfl rfl (Pur.sub64 rfl rfl (by omega)) ?_
  refine Reg.pur rfl rfl rfl rfl (Pur.mkf rfl rfl) ?_
  refine Reg.op rfl rfl rfl rfl (Does.call rfl (walk_ok hL hcy (by omega) L.length _ (by omega) (by omega) (by omega) (by omega) hS hY o0_0.blk (hN.ext hE) (by omega) hoY ⟨by omega, by omega, by omega⟩ hoA)) ?_
  rintro _ H1_8 ⟨A1a, c1a, A2a, c2a, hN1_8, hM1_8⟩
  refine Reg.nil ?_
  refine At.fall rfl Try.func89 rfl ?_
  exact ⟨A1a, c1a, A2a, c2a, hN1_8, ⟨(hn0_0.ext.but (S := fun g => g = nb ∨ (g : Int) = ob A1 ∨ (g : Int) = ob A2)).trans hM1_8.1, by have := hM1_8.2; omega⟩⟩
end Go.Proofs.Ytlfillhffpiffaa

/-
  typ.Vars, the reference's VarsOf.
-/
namespace Go.Proofs.Ytlfillhffpiffaa
set_option linter.unusedSimpArgs false
set_option linter.unusedVariables false
set_option maxRecDepth 8000
open Go Go.Fx Go.Proofs
namespace FactsSchF
theorem ag25 : ag Try.prog 25 = some 1 := by kernel_rfl
theorem ag47 : ag Try.prog 47 = some 9 := by kernel_rfl
theorem es23 : esz Try.prog 23 = some 9 := by kernel_rfl
theorem fo116_0 : foff Try.prog 116 0 = some 0 := by kernel_rfl
theorem fo116_1 : foff Try.prog 116 1 = some 1 := by kernel_rfl
theorem fo147_0 : foff Try.prog 147 0 = some 0 := by kernel_rfl
theorem fo147_1 : foff Try.prog 147 1 = some 1 := by kernel_rfl
theorem fo25_0 : foff Try.prog 25 0 = some 0 := by kernel_rfl
theorem fo28_1 : foff Try.prog 28 1 = some 4 := by kernel_rfl
theorem fo47_0 : foff Try.prog 47 0 = some 0 := by kernel_rfl
theorem fo47_1 : foff Try.prog 47 1 = some 1 := by kernel_rfl
theorem fo47_2 : foff Try.prog 47 2 = some 2 := by kernel_rfl
theorem fo47_3 : foff Try.prog 47 3 = some 3 := by kernel_rfl
theorem fo47_4 : foff Try.prog 47 4 = some 4 := by kernel_rfl
theorem isl23 : isSl Try.prog 23 = true := by kernel_rfl
theorem mixed : Try.prog.follows .mixedOrders = true := by kernel_rfl
theorem pl116 : places Try.prog 116 = some [(0, 1), (1, 1)] := by kernel_rfl
theorem pl147 : places Try.prog 147 = some [(0, 1), (1, 1)] := by kernel_rfl
theorem sc23 : sc Try.prog 23 = true := by kernel_rfl
theorem sc3 : sc Try.prog 3 = true := by kernel_rfl
theorem sc54 : sc Try.prog 54 = true := by kernel_rfl
theorem zc116 : zc Try.prog 116 = some [.slice none 0 0, .slice none 0 0] := by kernel_rfl
theorem zc147 : zc Try.prog 147 = some [.slice none 0 0, .slice none 0 0] := by kernel_rfl
theorem zc47 : zc Try.prog 47 = some [.int .i64 0, .int .i64 0, .int .i64 0, .int .i64 0, .int .i64 0, .int .i64 0, .int .i64 0, .int .i64 0, .int .i64 0] := by kernel_rfl
end FactsSchF
open FactsSchF

theorem nm_new {H H' : Heap} {B : Nat} (h : Own H' H.size [.slice none 0 0, .slice none 0 0]) (hB : B ≤ H'.size) : Nm H' H.size B none 0 [] none 0 [] :=
  ⟨h, OwnS.nilG, OwnS.nilG, .inl rfl, by rw [ob_none]; omega, by rw [ob_none]; omega, hB⟩
theorem off_none {nb : Nat} {b : Int} (h : b ≠ nb) (h0 : 0 ≤ b) : Off nb none none b := ⟨h, by rw [ob_none]; omega, by rw [ob_none]; omega⟩
theorem mod_ext {nb : Nat} {A1' A2' : Option Addr} {H0 H H' : Heap} (h : Mod nb none none A1' A2' H H') (hE : Ext H0 H) (hn : H0.size ≤ nb) : Ext H0 H' :=
  hE.via h.1 (fun g hg hS => by rw [ob_none] at hS; omega)
/-- what is told of a type's variables -/
def varsT (L : List (List Int)) : Nms := if typM L then varsS L ([], []) else ([], [])

theorem typVars_ok {A : Option Addr} {cap : Nat} {L : List (List Int)} (hL : Nine L) {H : Heap} (hS : SlT H Is 9 (.slice A L.length cap) L) (hm : L.length ≤ 9223372036854775807) :
    Ret Try.prog 64 [Ty A L.length cap] H (fun v H' => Ext H H' ∧ ∃ A1 c1 A2 c2, v = .tuple #[.slice A1 (varsT L).1.length c1, .slice A2 (varsT L).2.length c2, I (if typM L then 0 else 700)] ∧
      Gs H' H.size 3 1 A1 c1 (varsT L).1.length ((varsT L).1.flatMap e1) ∧ Gs H' H.size 3 1 A2 c2 (varsT L).2.length ((varsT L).2.flatMap e1)) := by
  refine Ret.of_at (N := 21) Try.call64 Try.func64 rfl rfl rfl ?_
  have hE := Ext.refl H
  refine At.region rfl rfl ?_
  refine Reg.op rfl rfl rfl rfl (Does.box rfl rfl) ?_
  rintro _ H0_0 ⟨rfl, hn0_0⟩
  have z0_0 := hn0_0.size
  replace hE := hE.ext hn0_0.ext
  have o0_0 := hn0_0.own
  refine Reg.pur rfl rfl rfl rfl (Pur.asg rfl) ?_
  refine Reg.pur rfl rfl rfl rfl (Pur.asg rfl) ?_
  refine Reg.pur rfl rfl rfl rfl (Pur.asg rfl) ?_
  refine Reg.nil ?_
  refine At.region rfl rfl ?_
  refine Reg.lod rfl rfl rfl rfl (Lod.ldn ag25 rfl o0_0.blk (by first | exact whole rfl | rfl | (simp only [List.drop_succ_cons, List.drop_zero, List.take_succ_cons, List.take_zero]; rfl)) (by first | rfl | (simp [*]; done))) ?_
  refine Reg.op rfl rfl rfl rfl (Does.call rfl (typMay_ok L hL (hS.ext hE) hm)) ?_
  rintro _ H1_1 ⟨rfl, hE1_1⟩
  have z1_1 := hE1_1.lt
  replace hE := hE.ext hE1_1
  replace o0_0 := o0_0.ext hE1_1
  refine Reg.pur rfl rfl rfl rfl (Pur.not rfl) ?_
  refine Reg.nil ?_
  refine At.cond rfl rfl (fun q8 => ?_) (fun q8 => ?_)
  · first | (simp only [decide_eq_true_eq, decide_eq_false_iff_not, Bool.not_eq_true', Bool.not_eq_false', ne_eq, Decidable.not_not, Bool.not_eq_true, Bool.not_eq_false] at q8) | (dsimp only at q8) | skip
    refine At.region rfl rfl ?_
    refine Reg.pur rfl rfl rfl rfl (Pur.asg rfl) ?_
    refine Reg.pur rfl rfl rfl rfl (Pur.asg rfl) ?_
    refine Reg.pur rfl rfl rfl rfl (Pur.asg rfl) ?_
    refine Reg.nil ?_
    refine At.ret rfl Try.func64 rfl ?_
    have hv : varsT L = ([], []) := by unfold varsT; rw [q8]; rfl
    rw [hv, q8]; exact ⟨hE, none, 0, none, 0, rfl, OwnS.nilG, OwnS.nilG⟩
  · first | (simp only [decide_eq_true_eq, decide_eq_false_iff_not, Bool.not_eq_true', Bool.not_eq_false', ne_eq, Decidable.not_not, Bool.not_eq_true, Bool.not_eq_false] at q8) | (dsimp only at q8) | skip
    obtain ⟨⟨hl1, hl2⟩, _⟩ := typM_bgn q8
    refine At.region rfl rfl ?_
    refine Reg.pur rfl rfl rfl rfl (Pur.bld (cs := [_, _]) pl147 zc147 rfl rfl ⟨rfl, rfl, rfl⟩) ?_
    refine Reg.op rfl rfl rfl rfl (Does.box rfl rfl) ?_
    rintro _ H3_1 ⟨rfl, hn3_1⟩
    have z3_1 := hn3_1.size
    replace hE := hE.ext hn3_1.ext
    replace o0_0 := o0_0.ext hn3_1.ext
    have o3_1 := hn3_1.own
    refine Reg.pur rfl rfl rfl rfl (Pur.asg rfl) ?_
    refine Reg.nil ?_
    refine At.region rfl rfl ?_
    refine Reg.pur rfl rfl rfl rfl (Pur.mv rfl) ?_
    refine Reg.op rfl rfl rfl rfl (Does.call rfl (namesVars_ok hL q8 rfl (hS.ext hE) o0_0.blk (nm_new (B := H.size) o3_1 (by omega)) (by simp) (off_none (by omega) (by omega)) (off_none (by have := hS.lt; omega) (by have := hS.lt; omega)))) ?_
    rintro _ H4_1 ⟨A1, c1, A2, c2, hN4_1, hM4_1⟩
    have hE4 := mod_ext hM4_1 hE (by omega)
    refine Reg.nil ?_
    refine At.drawE ((Bks.cons hN4_1.own.blk Bks.nil)) [] mixed rfl rfl ?_
    refine RegD.tpur (i := 0) rfl rfl rfl rfl (by kernel_rfl) (Pur.mv rfl) ?_
    refine RegD.tpur (i := 1) rfl rfl rfl rfl (by kernel_rfl) (Pur.nilc rfl) ?_
    refine RegD.tpur (i := 2) rfl rfl rfl rfl (by kernel_rfl) (Pur.fld _ fo147_0 rfl) ?_
    refine RegD.take (i := 3) rfl rfl rfl rfl (by kernel_rfl) (Bks.cons hN4_1.own.blk Bks.nil) (fun H hS => Lod.ld sc54 rfl hS.hd rfl) ?_
    refine RegD.tpur (i := 4) rfl rfl rfl rfl (by kernel_rfl) (Pur.mv rfl) ?_
    refine RegD.tpur (i := 5) rfl rfl rfl rfl (by kernel_rfl) (Pur.nilc rfl) ?_
    refine RegD.tpur (i := 6) rfl rfl rfl rfl (by kernel_rfl) (Pur.fld _ fo147_1 rfl) ?_
    refine RegD.take (i := 7) rfl rfl rfl rfl (by kernel_rfl) (Bks.cons hN4_1.own.blk Bks.nil) (fun H hS => Lod.ld sc54 rfl hS.hd rfl) ?_
    refine RegD.tpur (i := 8) rfl rfl rfl rfl (by kernel_rfl) (Pur.asg rfl) ?_
    refine RegD.tpur (i := 9) rfl rfl rfl rfl (by kernel_rfl) (Pur.asg rfl) ?_
    refine RegD.tpur (i := 10) rfl rfl rfl rfl (by kernel_rfl) (Pur.asg rfl) ?_
    refine RegD.done (by kernel_rfl) ?_
    refine At.ret rfl Try.func64 rfl ?_
    have hv : varsT L = varsS L ([], []) := by unfold varsT; rw [q8]; rfl
    rw [hv, q8]; exact ⟨hE4, A1, c1, A2, c2, rfl, hN4_1.g1, hN4_1.g2⟩

theorem walkVars_ok {L : List (List Int)} (hL : Nine L) (htl : ∀ x ∈ L, x.getD 0 0 = 3 → -1 ≤ x.getD 8 0) {A : Option Addr} {cap nb B : Nat} (hm : L.length ≤ 9223372036854775807) : ∀ (f : Nat) (z : Int), 0 ≤ z → z < L.length → z.toNat < f → 0 ≤ bgn L f z →
    ∀ {H : Heap} {A1 A2 : Option Addr} {c1 c2 : Nat} {T R : List Int}, SlT H Is 9 (.slice A L.length cap) L → Nm H nb B A1 c1 T A2 c2 R → T.length + R.length + (ord L f z).length ≤ 1000000 → Off nb A1 A2 (ob A) →
    Ret Try.prog 73 [ptr nb 0, .slice A L.length cap, I z] H (fun _ H' => ∃ A1' c1' A2' c2', Nm H' nb B A1' c1' (nms (T, R) (ord L f z)).1 A2' c2' (nms (T, R) (ord L f z)).2 ∧ Mod nb A1 A2 A1' A2' H H') := by
  intro f
  induction f with
  | zero => intro z _ _ h; omega
  | succ f ihf =>
  intro z hz0 hzl hzf hbg H A1 A2 c1 c2 T R hS hN hlen hoA
  have htx : (el L z).getD 0 0 = 3 → -1 ≤ (el L z).getD 8 0 := by
    have he : el L z = L[z.toNat]'(by omega) := by simp [el, List.getD_eq_getElem?_getD, List.getElem?_eq_getElem (show z.toNat < L.length by omega)]
    rw [he]; exact htl _ (List.getElem_mem _)
  obtain ⟨b, o, c, rfl, hB, hd, hx9, hat⟩ := el_cells hL hS hz0 hzl
  have hfin := ord_succ L f z
  have hfun := bgn_fun hbg
  have hnl := nms_len (ord L f ((el L z).getD 2 0)) (T, R)
  have hsl := see_len ((nms (T, R) (ord L f ((el L z).getD 2 0))).1, (nms (T, R) (ord L f ((el L z).getD 2 0))).2) (el L z)
  generalize el L z = x at hfin hfun hd hx9 hat hnl hsl htx
  have hob : ob (some ⟨b, o, none⟩) = b := ob_some b o
  have hat' : ∀ j, j < 9 → (Is x)[j]? = some (I (x.getD j 0)) := fun j hj => at_Is (by omega)
  have zB := Int.ofNat_lt.2 hB.lt
  have zN := hN.own.lt
  have hx9' : (Is x).length = 9 := by simp [hx9]
  rw [hob] at hoA
  refine Ret.of_at (N := 40) Try.call73 Try.func73 rfl rfl rfl ?_
  have hE := Ext.refl H

  refine At.region rfl rfl ?_
  refine Reg.pur rfl rfl rfl rfl (Pur.mv rfl) ?_
  refine Reg.pur rfl rfl rfl rfl (Pur.mv rfl) ?_
  refine Reg.pur rfl rfl rfl rfl (Pur.idx _ es23 rfl rfl (by omega) (by omega)) ?_
  refine Reg.lod rfl rfl rfl rfl (Lod.ldn ag47 rfl hB hd hx9') ?_
  refine Reg.op rfl rfl rfl rfl (Does.alloc zc47) ?_
  rintro _ H0_4 ⟨rfl, hn0_4⟩
  have z0_4 := hn0_4.size
  have o0_4 := hn0_4.own
  refine Reg.op0 rfl rfl rfl (Does.stn ag47 rfl rfl (by first | rfl | exact ones_Is _) (by first | rfl | (simp [*]; done)) o0_4 (by first | decide | (simp; done) | (simp; omega) | omega)) ?_
  rintro _ H0_5 hu0_5
  have z0_5 := hu0_5.size
  replace o0_4 := hu0_5.own
  first | rw [over (by first | rfl | (simp; done))] at o0_4 | skip
  refine Reg.nil ?_

  have hX : Own H0_5 H.size (Is x) := o0_4
  have hE0 : Ext H H0_5 := hn0_4.ext.upd hu0_5 (Nat.le_refl _)
  have hN0 := hN.ext hE0
  have hS0 := hS.ext hE0
  have hoX : Off nb A1 A2 H.size := ⟨by omega, by have := hN.g1.lt; omega, by have := hN.g2.lt; omega⟩
  have zX := Int.ofNat_lt.2 hX.lt
  have hM0 : Mod nb A1 A2 A1 A2 H H0_5 := (Mod.refl nb A1 A2 H).ext hE0
  have zB0 : (b : Int) < H0_5.size := by have := hE0.1; omega
  refine At.region rfl rfl ?_
  refine Reg.pur rfl rfl rfl rfl (Pur.fld _ fo47_0 rfl) ?_
  refine Reg.lod rfl rfl rfl rfl (Lod.ld sc3 rfl hX.blk (hat' 0 (by omega))) ?_
  refine Reg.nil ?_
  refine At.region rfl rfl ?_
  refine Reg.pur rfl rfl rfl rfl (Pur.eql rfl rfl) ?_
  refine Reg.pur rfl rfl rfl rfl (Pur.asg rfl) ?_
  refine Reg.nil ?_
  refine At.cond rfl rfl (fun q13 => ?_) (fun q13 => ?_)
  · first | (simp only [decide_eq_true_eq, decide_eq_false_iff_not, Bool.not_eq_true', Bool.not_eq_false', ne_eq, Decidable.not_not, Bool.not_eq_true, Bool.not_eq_false] at q13) | (dsimp only at q13) | skip
    refine At.region rfl rfl ?_
    refine Reg.pur rfl rfl rfl rfl (Pur.mv rfl) ?_
    refine Reg.pur rfl rfl rfl rfl (Pur.fld _ fo47_1 rfl) ?_
    refine Reg.lod rfl rfl rfl rfl (Lod.ld sc3 rfl hX.blk (hat' 1 (by omega))) ?_
    refine Reg.op rfl rfl rfl rfl (Does.call rfl (nm_kind _ hN0 (by omega))) ?_
    rintro _ H3_3 ⟨rfl, A1a, c1a, hN3_3, hM3_3⟩
    refine Reg.nil ?_
    refine At.fall rfl Try.func73 rfl ?_
    rw [hfin, if_pos (by omega), show nms (T, R) [x] = (addL T (x.getD 1 0), R) by unfold nms see; simp only [List.foldl_cons, List.foldl_nil]; rw [if_pos q13]]
    exact ⟨A1a, c1a, A2, c2, hN3_3, hM0.trans hM3_3⟩
  · first | (simp only [decide_eq_true_eq, decide_eq_false_iff_not, Bool.not_eq_true', Bool.not_eq_false', ne_eq, Decidable.not_not, Bool.not_eq_true, Bool.not_eq_false] at q13) | (dsimp only at q13) | skip
    refine At.region rfl rfl ?_
    refine Reg.pur rfl rfl rfl rfl (Pur.eql rfl rfl) ?_
    refine Reg.pur rfl rfl rfl rfl (Pur.asg rfl) ?_
    refine Reg.nil ?_
    refine At.cond rfl rfl (fun q19 => ?_) (fun q19 => ?_)
    · first | (simp only [decide_eq_true_eq, decide_eq_false_iff_not, Bool.not_eq_true', Bool.not_eq_false', ne_eq, Decidable.not_not, Bool.not_eq_true, Bool.not_eq_false] at q19) | (dsimp only at q19) | skip
      obtain ⟨hz, hB3, hb3, hA2, hbA⟩ := hfun q19
      have hle := bgn_le L f (x.getD 3 0) (by omega)
      rw [hfin, if_neg (fun h => h q19), List.length_append, List.length_cons] at hlen
      refine At.region rfl rfl ?_
      refine Reg.pur rfl rfl rfl rfl (Pur.mv rfl) ?_
      refine Reg.pur rfl rfl rfl rfl (Pur.mv rfl) ?_
      refine Reg.pur rfl rfl rfl rfl (Pur.fld _ fo47_2 rfl) ?_
      refine Reg.lod rfl rfl rfl rfl (Lod.ld sc3 rfl hX.blk (hat' 2 (by omega))) ?_
      refine Reg.op rfl rfl rfl rfl (Does.call rfl (ihf (x.getD 2 0) (by omega) (by omega) (by omega) hbA hS0 hN0 (by omega) (by rw [hob]; exact hoA))) ?_
      rintro _ H5_4 ⟨A1a, c1a, A2a, c2a, hN5_4, hM5_4⟩
      replace hX := hX.via hM5_4.1 hoX.not
      have hS1 := hS0.via hM5_4.1 (fun _ g hg => by rw [hob] at hg; obtain rfl : g = b := (by omega); exact hoA.not)
      replace hoX := hoX.mod zX hM5_4
      replace hoA := hoA.mod zB0 hM5_4
      replace zX := Int.ofNat_lt.2 hX.lt
      have zB1 : (b : Int) < H5_4.size := by have := hM5_4.1.1; omega
      refine Reg.nil ?_
      refine At.region rfl rfl ?_
      refine Reg.pur rfl rfl rfl rfl (Pur.fld _ fo47_4 rfl) ?_
      refine Reg.pur rfl rfl rfl rfl (Pur.fld _ fo28_1 rfl) ?_
      refine Reg.lod rfl rfl rfl rfl (Lod.ld sc3 rfl hX.blk (hat' 8 (by omega))) ?_
      refine Reg.pur rfl rfl rfl rfl (Pur.geq rfl rfl) ?_
      refine Reg.nil ?_
      refine At.joinc (σ := Option Addr × Nat × Option Addr × Nat) (fun _ => [(0, ptr nb 0), (1, .slice (some ⟨b, o, none⟩) L.length cap), (6, ptr H.size 0)]) (fun (A1b, c1b, A2b, c2b) H' => Nm H' nb B A1b c1b (see ((nms (T, R) (ord L f (x.getD 2 0))).1, (nms (T, R) (ord L f (x.getD 2 0))).2) x).1 A2b c2b (see ((nms (T, R) (ord L f (x.getD 2 0))).1, (nms (T, R) (ord L f (x.getD 2 0))).2) x).2 ∧ Mod nb A1a A2a A1b A2b H5_4 H') rfl (fun hJ => ?_) (fun s H7 hs => ?_)
      · refine At.cond rfl rfl (fun q29 => ?_) (fun q29 => ?_)
        · first | (simp only [decide_eq_true_eq, decide_eq_false_iff_not, Bool.not_eq_true', Bool.not_eq_false', ne_eq, Decidable.not_not, Bool.not_eq_true, Bool.not_eq_false] at q29) | (dsimp only at q29) | skip
          refine At.region rfl rfl ?_
          refine Reg.pur rfl rfl rfl rfl (Pur.mv rfl) ?_
          refine Reg.pur rfl rfl rfl rfl (Pur.fld _ fo47_4 rfl) ?_
          refine Reg.pur rfl rfl rfl rfl (Pur.fld _ fo28_1 rfl) ?_
          refine Reg.lod rfl rfl rfl rfl (Lod.ld sc3 rfl hX.blk (hat' 8 (by omega))) ?_
          refine Reg.op rfl rfl rfl rfl (Does.call rfl (nm_row _ hN5_4 (by dsimp only at hnl; omega))) ?_
          rintro _ H7_4 ⟨rfl, A2b, c2b, hN7_4, hM7_4⟩
          refine Reg.nil ?_
          first | exact At.meets rfl (hJ (A1a, c1a, A2b, c2b) _ ⟨by rw [show see ((nms (T, R) (ord L f (x.getD 2 0))).1, (nms (T, R) (ord L f (x.getD 2 0))).2) x = ((nms (T, R) (ord L f (x.getD 2 0))).1, addL (nms (T, R) (ord L f (x.getD 2 0))).2 (x.getD 8 0)) by unfold see; rw [if_neg (by omega), if_pos ⟨q19, by omega⟩]]; exact hN7_4, hM7_4⟩) ⟨rfl, rfl, rfl, trivial⟩ | exact At.meets rfl (hJ (A1a, c1a, A2a, c2a) _ ⟨by rw [show see ((nms (T, R) (ord L f (x.getD 2 0))).1, (nms (T, R) (ord L f (x.getD 2 0))).2) x = ((nms (T, R) (ord L f (x.getD 2 0))).1, (nms (T, R) (ord L f (x.getD 2 0))).2) by unfold see; rw [if_neg (by omega), if_neg (by have := htx q19; omega)]]; exact hN5_4, Mod.refl _ _ _ _⟩) ⟨rfl, rfl, rfl, trivial⟩
        · first | (simp only [decide_eq_true_eq, decide_eq_false_iff_not, Bool.not_eq_true', Bool.not_eq_false', ne_eq, Decidable.not_not, Bool.not_eq_true, Bool.not_eq_false] at q29) | (dsimp only at q29) | skip
          first | exact At.meets rfl (hJ (A1a, c1a, A2b, c2b) _ ⟨by rw [show see ((nms (T, R) (ord L f (x.getD 2 0))).1, (nms (T, R) (ord L f (x.getD 2 0))).2) x = ((nms (T, R) (ord L f (x.getD 2 0))).1, addL (nms (T, R) (ord L f (x.getD 2 0))).2 (x.getD 8 0)) by unfold see; rw [if_neg (by omega), if_pos ⟨q19, by omega⟩]]; exact hN7_4, hM7_4⟩) ⟨rfl, rfl, rfl, trivial⟩ | exact At.meets rfl (hJ (A1a, c1a, A2a, c2a) _ ⟨by rw [show see ((nms (T, R) (ord L f (x.getD 2 0))).1, (nms (T, R) (ord L f (x.getD 2 0))).2) x = ((nms (T, R) (ord L f (x.getD 2 0))).1, (nms (T, R) (ord L f (x.getD 2 0))).2) by unfold see; rw [if_neg (by omega), if_neg (by have := htx q19; omega)]]; exact hN5_4, Mod.refl _ _ _ _⟩) ⟨rfl, rfl, rfl, trivial⟩
      · obtain ⟨A1b, c1b, A2b, c2b⟩ := s
        obtain ⟨hN7, hM7⟩ := hs
        replace hX := hX.via hM7.1 hoX.not
        have hS2 := hS1.via hM7.1 (fun _ g hg => by rw [hob] at hg; obtain rfl : g = b := (by omega); exact hoA.not)
        replace hoA := hoA.mod zB1 hM7

        refine At.region rfl rfl ?_
        refine Reg.pur rfl rfl rfl rfl (Pur.mv rfl) ?_
        refine Reg.pur rfl rfl rfl rfl (Pur.mv rfl) ?_
        refine Reg.pur rfl rfl rfl rfl (Pur.fld _ fo47_3 rfl) ?_
        refine Reg.lod rfl rfl rfl rfl (Lod.ld sc3 rfl hX.blk (hat' 3 (by omega))) ?_
        refine Reg.op rfl rfl rfl rfl (Does.call rfl (ihf (x.getD 3 0) (by omega) (by omega) (by omega) (by omega) hS2 hN7 (by dsimp only at hnl hsl ⊢; omega) (by rw [hob]; exact hoA))) ?_
        rintro _ H8_4 ⟨A1d, c1d, A2d, c2d, hN8_4, hM8_4⟩
        refine Reg.nil ?_
        refine At.fall rfl Try.func73 rfl ?_
        rw [hfin, if_neg (fun h => h q19), nms_app, nms_cons]
        exact ⟨A1d, c1d, A2d, c2d, hN8_4, ((hM0.trans hM5_4).trans hM7).trans hM8_4⟩
    · first | (simp only [decide_eq_true_eq, decide_eq_false_iff_not, Bool.not_eq_true', Bool.not_eq_false', ne_eq, Decidable.not_not, Bool.not_eq_true, Bool.not_eq_false] at q19) | (dsimp only at q19) | skip
      refine At.fall rfl Try.func73 rfl ?_
      rw [hfin, if_pos q19, show nms (T, R) [x] = (T, R) by unfold nms see; simp only [List.foldl_cons, List.foldl_nil]; rw [if_neg q13, if_neg (fun h => q19 h.1)]]
      exact ⟨A1, c1, A2, c2, hN0, hM0⟩

theorem row_tail' {r : List Int} (h : rowM r = true) : -1 ≤ r.getD 4 0 := by
  unfold rowM at h; simp only [Bool.and_eq_true, decide_eq_true_eq] at h; exact h.2.1
theorem drop4_tail' {x : List Int} (hx : x.length = 9) : (x.drop 4).getD 4 0 = x.getD 8 0 := by
  match x, hx with
  | [k, v, a, b, c0, c1, c2, c3, t], _ => rfl
theorem typM_tails {L : List (List Int)} (hL : Nine L) (h : typM L = true) : ∀ x ∈ L, x.getD 0 0 = 3 → -1 ≤ x.getD 8 0 := by
  intro x hx h3
  have hn : nodM x = true := by
    unfold typM at h; simp only [Bool.and_eq_true, List.all_eq_true] at h; exact h.1.2 x hx
  unfold nodM at hn
  rw [if_pos h3] at hn
  simp only [Bool.and_eq_true] at hn
  have := row_tail' hn.1
  rwa [drop4_tail' (hL x hx)] at this
theorem varsOf_ok {A : Option Addr} {cap : Nat} {L : List (List Int)} (hL : Nine L) (hM : typM L = true) {H : Heap} (hS : SlT H Is 9 (.slice A L.length cap) L) :
    Ret Try.prog 37 [Ty A L.length cap] H (fun v H' => Ext H H' ∧ ∃ A1 c1 A2 c2, v = .tuple #[.slice A1 (varsT L).1.length c1, .slice A2 (varsT L).2.length c2] ∧
      Gs H' H.size 3 1 A1 c1 (varsT L).1.length ((varsT L).1.flatMap e1) ∧ Gs H' H.size 3 1 A2 c2 (varsT L).2.length ((varsT L).2.flatMap e1)) := by
  obtain ⟨⟨hl1, hl2⟩, hb⟩ := typM_bgn hM
  have hol := ord_256 hM
  refine Ret.of_at (N := 23) Try.call37 Try.func37 rfl rfl rfl ?_
  have hE := Ext.refl H
  refine At.region rfl rfl ?_
  refine Reg.op rfl rfl rfl rfl (Does.box rfl rfl) ?_
  rintro _ H0_0 ⟨rfl, hn0_0⟩
  have z0_0 := hn0_0.size
  replace hE := hE.ext hn0_0.ext
  have o0_0 := hn0_0.own
  refine Reg.pur rfl rfl rfl rfl (Pur.asg rfl) ?_
  refine Reg.pur rfl rfl rfl rfl (Pur.asg rfl) ?_
  refine Reg.nil ?_
  refine At.region rfl rfl ?_
  refine Reg.pur rfl rfl rfl rfl (Pur.bld (cs := [_, _]) pl116 zc116 rfl rfl ⟨rfl, rfl, rfl⟩) ?_
  refine Reg.op rfl rfl rfl rfl (Does.box rfl rfl) ?_
  rintro _ H1_1 ⟨rfl, hn1_1⟩
  have z1_1 := hn1_1.size
  replace hE := hE.ext hn1_1.ext
  replace o0_0 := o0_0.ext hn1_1.ext
  have o1_1 := hn1_1.own
  refine Reg.pur rfl rfl rfl rfl (Pur.asg rfl) ?_
  refine Reg.nil ?_
  refine At.region rfl rfl ?_
  refine Reg.pur rfl rfl rfl rfl (Pur.mv rfl) ?_
  refine Reg.pur rfl rfl rfl rfl (Pur.fld _ fo25_0 rfl) ?_
  refine Reg.lod rfl rfl rfl rfl (Lod.ld sc23 rfl o0_0.blk (by first | rfl | (simp; done))) ?_
  refine Reg.pur rfl rfl rfl rfl (Pur.fld _ fo25_0 rfl) ?_
  refine Reg.lod rfl rfl rfl rfl (Lod.ld sc23 rfl o0_0.blk (by first | rfl | (simp; done))) ?_
  refine Reg.pur rfl rfl rfl rfl (Pur.lenS isl23 rfl) ?_
  refine Reg.pur rfl rfl rfl rfl (Pur.sub64 rfl rfl (by omega)) ?_
  refine Reg.op rfl rfl rfl rfl (Does.call rfl (walkVars_ok hL (typM_tails hL hM) (by omega) L.length _ (by omega) (by omega) (by omega) (by omega) (hS.ext hE) (nm_new (B := H.size) o1_1 (by omega)) (by simp; omega) (off_none (by have := hS.lt; omega) (by have := hS.lt; omega)))) ?_
  rintro _ H2_7 ⟨A1, c1, A2, c2, hN2_7, hM2_7⟩
  have hE4 := mod_ext hM2_7 hE (by omega)
  refine Reg.nil ?_
  refine At.drawE ((Bks.cons hN2_7.own.blk Bks.nil)) [] mixed rfl rfl ?_
  refine RegD.tpur (i := 0) rfl rfl rfl rfl (by kernel_rfl) (Pur.mv rfl) ?_
  refine RegD.tpur (i := 1) rfl rfl rfl rfl (by kernel_rfl) (Pur.nilc rfl) ?_
  refine RegD.tpur (i := 2) rfl rfl rfl rfl (by kernel_rfl) (Pur.fld _ fo116_0 rfl) ?_
  refine RegD.take (i := 3) rfl rfl rfl rfl (by kernel_rfl) (Bks.cons hN2_7.own.blk Bks.nil) (fun H hS => Lod.ld sc54 rfl hS.hd rfl) ?_
  refine RegD.tpur (i := 4) rfl rfl rfl rfl (by kernel_rfl) (Pur.mv rfl) ?_
  refine RegD.tpur (i := 5) rfl rfl rfl rfl (by kernel_rfl) (Pur.nilc rfl) ?_
  refine RegD.tpur (i := 6) rfl rfl rfl rfl (by kernel_rfl) (Pur.fld _ fo116_1 rfl) ?_
  refine RegD.take (i := 7) rfl rfl rfl rfl (by kernel_rfl) (Bks.cons hN2_7.own.blk Bks.nil) (fun H hS => Lod.ld sc54 rfl hS.hd rfl) ?_
  refine RegD.tpur (i := 8) rfl rfl rfl rfl (by kernel_rfl) (Pur.asg rfl) ?_
  refine RegD.tpur (i := 9) rfl rfl rfl rfl (by kernel_rfl) (Pur.asg rfl) ?_
  refine RegD.done (by kernel_rfl) ?_
  refine At.ret rfl Try.func37 rfl ?_
  have hv : varsT L = varsS L ([], []) := by unfold varsT; rw [hM]; rfl
  rw [hv]; exact ⟨hE4, A1, c1, A2, c2, rfl, hN2_7.g1, hN2_7.g2⟩
end Go.Proofs.Ytlfillhffpiffaa

/-
  scheme.Close, the reference's.
-/
namespace Go.Proofs.Ytlfillhffpiffaa
set_option linter.unusedSimpArgs false
set_option linter.unusedVariables false
set_option maxRecDepth 8000
open Go Go.Fx Go.Proofs
namespace FactsSchG
theorem ag25 : ag Try.prog 25 = some 1 := by kernel_rfl
theorem ag56 : ag Try.prog 56 = some 3 := by kernel_rfl
theorem fo25_0 : foff Try.prog 25 0 = some 0 := by kernel_rfl
theorem mixed : Try.prog.follows .mixedOrders = true := by kernel_rfl
theorem pl25 : places Try.prog 25 = some [(0, 1)] := by kernel_rfl
theorem pl56 : places Try.prog 56 = some [(0, 1), (1, 1), (2, 1)] := by kernel_rfl
theorem sc23 : sc Try.prog 23 = true := by kernel_rfl
theorem zc25 : zc Try.prog 25 = some [.slice none 0 0] := by kernel_rfl
theorem zc56 : zc Try.prog 56 = some [.slice none 0 0, .slice none 0 0, .slice none 0 0] := by kernel_rfl
end FactsSchG
open FactsSchG

/-- a scheme in new memory -/
structure Sch (H : Heap) (B : Nat) (A1 : Option Addr) (c1 : Nat) (vs : List Int) (A2 : Option Addr) (c2 : Nat) (rs : List Int) (A3 : Option Addr) (c3 : Nat) (L : List (List Int)) : Prop where
  g1 : Gw H B 1 A1 c1 vs.length (vs.flatMap e1)
  g2 : Gw H B 1 A2 c2 rs.length (rs.flatMap e1)
  g3 : Gw H B 9 A3 c3 L.length (L.flatMap Is)
  d12 : vs.length = 0 ∨ rs.length = 0 ∨ ob A1 ≠ ob A2
  d13 : vs.length = 0 ∨ L.length = 0 ∨ ob A1 ≠ ob A3
  d23 : rs.length = 0 ∨ L.length = 0 ∨ ob A2 ≠ ob A3
  nine : Nine L
abbrev ScV (A1 : Option Addr) (n1 c1 : Nat) (A2 : Option Addr) (n2 c2 : Nat) (A3 : Option Addr) (n3 c3 : Nat) : Value := .agg #[.slice A1 n1 c1, .slice A2 n2 c2, .slice A3 n3 c3]
/-- what closing makes: variables, row variables, the type -/
def cloV (L : List (List Int)) (ks : List Int) : List Int := if typM L then wo (varsS L ([], [])).1 ks else []
def cloR (L : List (List Int)) (ms : List Int) : List Int := if typM L then wo (varsS L ([], [])).2 ms else []
def cloT (L : List (List Int)) : List (List Int) := if typM L then L else []
def cs (b : Bool) : Int := if b then 0 else 1200
def CloP (H : Heap) (L : List (List Int)) (ks ms : List Int) (v : Value) (H' : Heap) : Prop :=
  Ext H H' ∧ ∃ A1 c1 A2 c2 A3 c3, v = .tuple #[ScV A1 (cloV L ks).length c1 A2 (cloR L ms).length c2 A3 (cloT L).length c3, I (cs (typM L))] ∧ Sch H' H.size A1 c1 (cloV L ks) A2 c2 (cloR L ms) A3 c3 (cloT L)
theorem clo_no {H H' : Heap} {L : List (List Int)} {ks ms : List Int} {v : Value} (h : typM L = false) (hE : Ext H H') (hv : v = .tuple #[ScV none 0 0 none 0 0 none 0 0, I 1200]) : CloP H L ks ms v H' := by
  refine ⟨hE, none, 0, none, 0, none, 0, ?_, ?_⟩
  · simp only [cloV, cloR, cloT, h, cs]; exact hv
  · simp only [cloV, cloR, cloT, h]
    exact ⟨Gw.nil, Gw.nil, Gw.nil, .inl rfl, .inl rfl, .inl rfl, (fun x hx => by cases hx)⟩
theorem vars_256 {L : List (List Int)} (h : typM L = true) : (varsS L ([], [])).1.length ≤ 256 ∧ (varsS L ([], [])).2.length ≤ 256 := by
  have h1 := varsS_len h ([], [])
  have h2 := (typM_bgn h).1.2
  simp only [List.length_nil] at h1
  omega

theorem close_ok {A Ak Am : Option Addr} {cap ck cm : Nat} {L : List (List Int)} {ks ms : List Int} (hL : Nine L) {H : Heap} (hS : SlT H Is 9 (.slice A L.length cap) L) (hm : L.length * 72 ≤ 140737488351232) (hk : SlT H e1 1 (.slice Ak ks.length ck) ks) (hmk : ks.length ≤ 9223372036854775807) (hr : SlT H e1 1 (.slice Am ms.length cm) ms) (hmr : ms.length ≤ 9223372036854775807) :
    Ret Try.prog 30 [Ty A L.length cap, .slice Ak ks.length ck, .slice Am ms.length cm] H (CloP H L ks ms) := by
  refine Ret.of_at (N := 31) Try.call30 Try.func30 rfl rfl rfl ?_
  have hE := Ext.refl H
  refine At.region rfl rfl ?_
  refine Reg.op rfl rfl rfl rfl (Does.box rfl rfl) ?_
  rintro _ H0_0 ⟨rfl, hn0_0⟩
  have z0_0 := hn0_0.size
  replace hE := hE.ext hn0_0.ext
  have o0_0 := hn0_0.own
  refine Reg.op rfl rfl rfl rfl (Does.alloc zc56) ?_
  rintro _ H0_1 ⟨rfl, hn0_1⟩
  have z0_1 := hn0_1.size
  replace hE := hE.ext hn0_1.ext
  replace o0_0 := o0_0.ext hn0_1.ext
  have o0_1 := hn0_1.own
  refine Reg.pur rfl rfl rfl rfl (Pur.asg rfl) ?_
  refine Reg.nil ?_
  refine At.region rfl rfl ?_
  refine Reg.lod rfl rfl rfl rfl (Lod.ldn ag25 rfl o0_0.blk (by first | exact whole rfl | rfl | (simp only [List.drop_succ_cons, List.drop_zero, List.take_succ_cons, List.take_zero]; rfl)) (by first | rfl | (simp [*]; done))) ?_
  refine Reg.op rfl rfl rfl rfl (Does.call rfl (typVars_ok hL (hS.ext hE) (by omega))) ?_
  rintro v1_1 H1_1 ⟨hE1_1, A1, c1, A2, c2, rfl, hg1, hg2⟩
  have z1_1 := hE1_1.lt
  replace hE := hE.ext hE1_1
  replace o0_0 := o0_0.ext hE1_1
  replace o0_1 := o0_1.ext hE1_1
  have z_hg1 := hg1.lt
  have z_hg2 := hg2.lt
  refine Reg.pur rfl rfl rfl rfl (Pur.mv rfl) ?_
  refine Reg.pur rfl rfl rfl rfl (Pur.ext rfl rfl) ?_
  refine Reg.pur rfl rfl rfl rfl (Pur.ext rfl rfl) ?_
  refine Reg.pur rfl rfl rfl rfl (Pur.ext rfl rfl) ?_
  refine Reg.pur rfl rfl rfl rfl (Pur.asg rfl) ?_
  refine Reg.pur rfl rfl rfl rfl (Pur.asg rfl) ?_
  refine Reg.pur rfl rfl rfl rfl (Pur.asg rfl) ?_
  refine Reg.nil ?_
  refine At.region rfl rfl ?_
  refine Reg.pur rfl rfl rfl rfl (Pur.mv rfl) ?_
  refine Reg.pur rfl rfl rfl rfl (Pur.neq rfl rfl) ?_
  refine Reg.nil ?_
  refine At.cond rfl rfl (fun q18 => ?_) (fun q18 => ?_)
  · first | (simp only [decide_eq_true_eq, decide_eq_false_iff_not, Bool.not_eq_true', Bool.not_eq_false', ne_eq, Decidable.not_not, Bool.not_eq_true, Bool.not_eq_false] at q18) | (dsimp only at q18) | skip
    refine At.region rfl rfl ?_
    refine Reg.pur rfl rfl rfl rfl (Pur.bld (cs := [_, _, _]) pl56 zc56 rfl rfl ⟨rfl, rfl, rfl, rfl⟩) ?_
    refine Reg.op0 rfl rfl rfl (Does.stn ag56 rfl rfl (by first | rfl | exact ones_Is _) (by first | rfl | (simp [*]; done)) o0_1 (by first | decide | (simp; done) | (simp; omega) | omega)) ?_
    rintro _ H3_1 hu3_1
    have z3_1 := hu3_1.size
    replace hE := hE.upw hu3_1 (by omega)
    replace o0_0 := o0_0.upw hu3_1 (by omega)
    replace hg1 := hg1.upw hu3_1 (by omega)
    replace hg2 := hg2.upw hu3_1 (by omega)
    replace o0_1 := hu3_1.own
    first | rw [over (by first | rfl | (simp; done))] at o0_1 | skip
    refine Reg.pur rfl rfl rfl rfl (Pur.asg rfl) ?_
    refine Reg.nil ?_
    refine At.retC rfl Try.func30 ⟨_, _, _, _, rfl, rfl, ⟨_, o0_1.blk, .inr ⟨_, _, ag56, (by first | exact whole rfl | exact whole (by simp [*])), (by first | rfl | simp [*]), rfl⟩⟩, ⟨_, _, rfl, rfl, rfl⟩⟩ ?_
    exact clo_no (by cases h : typM L with | false => rfl | true => rw [h] at q18; exact (q18 rfl).elim) hE rfl
  · first | (simp only [decide_eq_true_eq, decide_eq_false_iff_not, Bool.not_eq_true', Bool.not_eq_false', ne_eq, Decidable.not_not, Bool.not_eq_true, Bool.not_eq_false] at q18) | (dsimp only at q18) | skip
    have hM : typM L = true := by cases h : typM L with | true => rfl | false => rw [h] at q18; cases q18
    have hv : varsT L = varsS L ([], []) := by unfold varsT; rw [hM]; rfl
    rw [hv] at hg1 hg2 ⊢
    have h256 := vars_256 hM
    refine At.drawE ((Bks.cons o0_0.blk Bks.nil)) [8, 11] mixed rfl rfl ?_
    refine RegD.tpur (i := 0) rfl rfl rfl rfl (by kernel_rfl) (Pur.mv rfl) ?_
    refine RegD.tpur (i := 1) rfl rfl rfl rfl (by kernel_rfl) (Pur.mv rfl) ?_
    refine RegD.tpur (i := 3) rfl rfl rfl rfl (by kernel_rfl) (Pur.mv rfl) ?_
    refine RegD.tpur (i := 4) rfl rfl rfl rfl (by kernel_rfl) (Pur.mv rfl) ?_
    refine RegD.tpur (i := 6) rfl rfl rfl rfl (by kernel_rfl) (Pur.fld _ fo25_0 rfl) ?_
    refine RegD.take (i := 7) rfl rfl rfl rfl (by kernel_rfl) (Bks.cons o0_0.blk Bks.nil) (fun H hS => Lod.ld sc23 rfl hS.hd (by first | rfl | (simp; done))) ?_
    refine RegD.one (i := 2) (by kernel_rfl) rfl rfl rfl rfl (Does.call rfl (without_ok _ ks (own_sl (wide1 _) (by decide) hg1) (hk.ext hE) (by omega) hmk)) ?_
    rintro _ H4_2 ⟨⟨A3, c3, rfl, hw1⟩, hE4_2⟩
    have z4_2 := hE4_2.lt
    replace hE := hE.ext hE4_2
    replace o0_0 := o0_0.ext hE4_2
    replace o0_1 := o0_1.ext hE4_2
    replace hg1 := hg1.ext hE4_2
    replace hg2 := hg2.ext hE4_2
    have z_hw1 := hw1.lt
    refine ⟨fun _ _ => (Bks.cons o0_0.blk Bks.nil), ?_⟩
    refine RegD.one (i := 5) (by kernel_rfl) rfl rfl rfl rfl (Does.call rfl (without_ok _ ms (own_sl (wide1 _) (by decide) hg2) (hr.ext hE) (by omega) hmr)) ?_
    rintro _ H4_5 ⟨⟨A4, c4, rfl, hw2⟩, hE4_5⟩
    have z4_5 := hE4_5.lt
    replace hE := hE.ext hE4_5
    replace o0_0 := o0_0.ext hE4_5
    replace o0_1 := o0_1.ext hE4_5
    replace hg1 := hg1.ext hE4_5
    replace hg2 := hg2.ext hE4_5
    replace hw1 := hw1.ext hE4_5
    have z_hw2 := hw2.lt
    refine ⟨fun _ _ => (Bks.cons o0_0.blk Bks.nil), ?_⟩
    refine RegD.one (i := 8) (by kernel_rfl) rfl rfl rfl rfl (Does.call rfl (cloneT_ok hL (hS.ext hE) (by omega))) ?_
    rintro v4_8 H4_8 ⟨hw3, hE4_8⟩
    have z4_8 := hE4_8.lt
    replace hE := hE.ext hE4_8
    replace o0_0 := o0_0.ext hE4_8
    replace o0_1 := o0_1.ext hE4_8
    replace hg1 := hg1.ext hE4_8
    replace hg2 := hg2.ext hE4_8
    replace hw1 := hw1.ext hE4_8
    replace hw2 := hw2.ext hE4_8
    obtain ⟨A5, c5, rfl, _⟩ := own_slice' hw3
    replace hw3 := hw3.gw
    have z_hw3 := hw3.lt
    refine ⟨fun h => (by cases h), ?_⟩
    refine RegD.tpur (i := 9) rfl rfl rfl rfl (by kernel_rfl) (Pur.bld (cs := [_]) pl25 zc25 rfl rfl ⟨rfl, rfl⟩) ?_
    refine RegD.tpur (i := 10) rfl rfl rfl rfl (by kernel_rfl) (Pur.bld (cs := [_, _, _]) pl56 zc56 rfl rfl ⟨rfl, rfl, rfl, rfl⟩) ?_
    refine RegD.one0 (i := 11) (by kernel_rfl) rfl rfl rfl (Does.stn ag56 rfl rfl (by first | rfl | exact ones_Is _) (by first | rfl | (simp [*]; done)) o0_1 (by first | decide | (simp; done) | (simp; omega) | omega)) ?_
    rintro _ H4_11 hu4_11
    have z4_11 := hu4_11.size
    replace hE := hE.upw hu4_11 (by omega)
    replace o0_0 := o0_0.upw hu4_11 (by omega)
    replace hg1 := hg1.upw hu4_11 (by omega)
    replace hg2 := hg2.upw hu4_11 (by omega)
    replace hw1 := hw1.upw hu4_11 (by omega)
    replace hw2 := hw2.upw hu4_11 (by omega)
    replace hw3 := hw3.upw hu4_11 (by omega)
    replace o0_1 := hu4_11.own
    first | rw [over (by first | rfl | (simp; done))] at o0_1 | skip
    refine ⟨fun h => (by cases h), ?_⟩
    refine RegD.tpur (i := 12) rfl rfl rfl rfl (by kernel_rfl) (Pur.asg rfl) ?_
    refine RegD.done (by kernel_rfl) ?_
    refine At.retC rfl Try.func30 ⟨_, _, _, _, rfl, rfl, ⟨_, o0_1.blk, .inr ⟨_, _, ag56, (by first | exact whole rfl | exact whole (by simp [*])), (by first | rfl | simp [*]), rfl⟩⟩, ⟨_, _, rfl, rfl, rfl⟩⟩ ?_
    refine ⟨hE, A3, c3, A4, c4, A5, c5, ?_, ?_⟩
    · simp only [cloV, cloR, cloT, hM, cs, if_true]; rfl
    · simp only [cloV, cloR, cloT, hM, if_true]
      exact ⟨hw1.mono (by omega), hw2.mono (by omega), hw3.mono (by omega), by omega, by omega, by omega, hL⟩
end Go.Proofs.Ytlfillhffpiffaa

/-
  The reference's Close; variables that may be.
-/
namespace Go.Proofs.Ytlfillhffpiffaa
set_option linter.unusedSimpArgs false
set_option linter.unusedVariables false
set_option maxRecDepth 8000
open Go Go.Fx Go.Proofs
namespace FactsSchH
theorem ag25 : ag Try.prog 25 = some 1 := by kernel_rfl
theorem ag56 : ag Try.prog 56 = some 3 := by kernel_rfl
theorem apt23 : appT Try.prog 23 = some (47, 9, 72) := by kernel_rfl
theorem es54 : esz Try.prog 54 = some 1 := by kernel_rfl
theorem fo25_0 : foff Try.prog 25 0 = some 0 := by kernel_rfl
theorem isl54 : isSl Try.prog 54 = true := by kernel_rfl
theorem mixed : Try.prog.follows .mixedOrders = true := by kernel_rfl
theorem pl25 : places Try.prog 25 = some [(0, 1)] := by kernel_rfl
theorem pl56 : places Try.prog 56 = some [(0, 1), (1, 1), (2, 1)] := by kernel_rfl
theorem sc23 : sc Try.prog 23 = true := by kernel_rfl
theorem sc3 : sc Try.prog 3 = true := by kernel_rfl
theorem slA23 : slA Try.prog 23 = some (47, 9) := by kernel_rfl
theorem zc25 : zc Try.prog 25 = some [.slice none 0 0] := by kernel_rfl
theorem zc56 : zc Try.prog 56 = some [.slice none 0 0, .slice none 0 0, .slice none 0 0] := by kernel_rfl
end FactsSchH
open FactsSchH

theorem copyR_ok {A : Option Addr} {cap : Nat} {L : List (List Int)} (hL : Nine L) {H : Heap} (hS : SlT H Is 9 (.slice A L.length cap) L) (hb : L.length * 72 ≤ 140737488351232) :
    Ret Try.prog 68 [Ty A L.length cap] H (fun v H' => (∃ A' cap', v = Ty A' L.length cap' ∧ Gs H' H.size 47 9 A' cap' L.length (L.flatMap Is)) ∧ Ext H H') := by
  refine Ret.of_at (N := 8) Try.call68 Try.func68 rfl rfl rfl ?_
  have hE := Ext.refl H
  refine At.region rfl rfl ?_
  refine Reg.op rfl rfl rfl rfl (Does.box rfl rfl) ?_
  rintro _ H0_0 ⟨rfl, hn0_0⟩
  have z0_0 := hn0_0.size
  replace hE := hE.ext hn0_0.ext
  have o0_0 := hn0_0.own
  refine Reg.op rfl rfl rfl rfl (Does.alloc zc25) ?_
  rintro _ H0_1 ⟨rfl, hn0_1⟩
  have z0_1 := hn0_1.size
  replace hE := hE.ext hn0_1.ext
  replace o0_0 := o0_0.ext hn0_1.ext
  have o0_1 := hn0_1.own
  refine Reg.nil ?_
  refine At.region rfl rfl ?_
  refine Reg.op rfl rfl rfl rfl (Does.bslA ([]) slA23 rfl rfl rfl rfl rfl rfl) ?_
  rintro _ H1_0 ⟨rfl, hp1_0⟩
  have hn1_0 := New.of_eq hp1_0
  have z1_0 := hn1_0.size
  replace hE := hE.ext hn1_0.ext
  replace o0_0 := o0_0.ext hn1_0.ext
  replace o0_1 := o0_1.ext hn1_0.ext
  have o1_0 := hn1_0.own
  have hg : Gs H1_0 H0_1.size 47 9 (some ⟨H0_1.size, 0, none⟩) 0 ([] : List (List Int)).length (([] : List (List Int)).flatMap Is) := by rw [hp1_0]; exact OwnS.new (xs := []) (n := 0) rfl (by decide) (Nat.le_refl _)
  refine Reg.pur rfl rfl rfl rfl (Pur.fld _ fo25_0 rfl) ?_
  refine Reg.lod rfl rfl rfl rfl (Lod.ld sc23 rfl o0_0.blk (by first | rfl | (simp; done))) ?_

  have z_hg := hg.lt
  refine Reg.op rfl rfl rfl rfl (Does.appL apt23 rfl rfl (by decide) hg (wide9 hL) (hS.ext hE) (ones_flat L) (by simp; omega) (by omega)) ?_
  rintro _ H1_3 ⟨A1_3, cap1_3, rfl, g1_3, hbut1_3, ha1_3⟩
  have z1_3 := hbut1_3.lt
  replace hE := hE.via hbut1_3 (by first | omega | (intro g; omega) | (intro g hg; omega) | (intro g hg h; omega))
  replace o0_0 := o0_0.via hbut1_3 (by first | omega | (intro g; omega) | (intro g hg; omega) | (intro g hg h; omega))
  replace o0_1 := o0_1.via hbut1_3 (by first | omega | (intro g; omega) | (intro g hg; omega) | (intro g hg h; omega))
  replace hg := g1_3
  have zg1_3 := g1_3.lt
  refine Reg.pur rfl rfl rfl rfl (Pur.bld (cs := [_]) pl25 zc25 rfl rfl ⟨rfl, rfl⟩) ?_
  refine Reg.op0 rfl rfl rfl (Does.stn ag25 rfl rfl (by first | rfl | exact ones_Is _) (by first | rfl | (simp [*]; done)) o0_1 (by first | decide | (simp; done) | (simp; omega) | omega)) ?_
  rintro _ H1_5 hu1_5
  have z1_5 := hu1_5.size
  replace hE := hE.upw hu1_5 (by omega)
  replace o0_0 := o0_0.upw hu1_5 (by omega)
  replace hg := hg.upw hu1_5 (by omega)
  replace o0_1 := hu1_5.own
  first | rw [over (by first | rfl | (simp; done))] at o0_1 | skip
  refine Reg.nil ?_
  refine At.retC rfl Try.func68 ⟨_, _, _, _, rfl, rfl, ⟨_, o0_1.blk, .inr ⟨_, _, ag25, (by first | exact whole rfl | exact whole (by simp [*])), (by first | rfl | simp [*]), rfl⟩⟩, rfl⟩ ?_
  exact ⟨⟨A1_3, cap1_3, rfl, hg.mono (by omega)⟩, hE⟩

theorem closeR_ok {A Ak Am : Option Addr} {cap ck cm : Nat} {L : List (List Int)} {ks ms : List Int} (hL : Nine L) {H : Heap} (hS : SlT H Is 9 (.slice A L.length cap) L) (hm : L.length * 72 ≤ 140737488351232) (hk : SlT H e1 1 (.slice Ak ks.length ck) ks) (hmk : ks.length ≤ 9223372036854775807) (hr : SlT H e1 1 (.slice Am ms.length cm) ms) (hmr : ms.length ≤ 9223372036854775807) :
    Ret Try.prog 31 [Ty A L.length cap, .slice Ak ks.length ck, .slice Am ms.length cm] H (CloP H L ks ms) := by
  refine Ret.of_at (N := 28) Try.call31 Try.func31 rfl rfl rfl ?_
  have hE := Ext.refl H
  refine At.region rfl rfl ?_
  refine Reg.op rfl rfl rfl rfl (Does.box rfl rfl) ?_
  rintro _ H0_0 ⟨rfl, hn0_0⟩
  have z0_0 := hn0_0.size
  replace hE := hE.ext hn0_0.ext
  have o0_0 := hn0_0.own
  refine Reg.op rfl rfl rfl rfl (Does.alloc zc56) ?_
  rintro _ H0_1 ⟨rfl, hn0_1⟩
  have z0_1 := hn0_1.size
  replace hE := hE.ext hn0_1.ext
  replace o0_0 := o0_0.ext hn0_1.ext
  have o0_1 := hn0_1.own
  refine Reg.pur rfl rfl rfl rfl (Pur.asg rfl) ?_
  refine Reg.nil ?_
  refine At.region rfl rfl ?_
  refine Reg.lod rfl rfl rfl rfl (Lod.ldn ag25 rfl o0_0.blk (by first | exact whole rfl | rfl | (simp only [List.drop_succ_cons, List.drop_zero, List.take_succ_cons, List.take_zero]; rfl)) (by first | rfl | (simp [*]; done))) ?_
  refine Reg.op rfl rfl rfl rfl (Does.call rfl (typMayR_ok L hL (hS.ext hE) (by omega))) ?_
  rintro _ H1_1 ⟨rfl, hE1_1⟩
  have z1_1 := hE1_1.lt
  replace hE := hE.ext hE1_1
  replace o0_0 := o0_0.ext hE1_1
  replace o0_1 := o0_1.ext hE1_1
  refine Reg.pur rfl rfl rfl rfl (Pur.not rfl) ?_
  refine Reg.nil ?_
  refine At.cond rfl rfl (fun q12 => ?_) (fun q12 => ?_)
  · first | (simp only [decide_eq_true_eq, decide_eq_false_iff_not, Bool.not_eq_true', Bool.not_eq_false', ne_eq, Decidable.not_not, Bool.not_eq_true, Bool.not_eq_false] at q12) | (dsimp only at q12) | skip
    refine At.region rfl rfl ?_
    refine Reg.pur rfl rfl rfl rfl (Pur.bld (cs := [_, _, _]) pl56 zc56 rfl rfl ⟨rfl, rfl, rfl, rfl⟩) ?_
    refine Reg.op0 rfl rfl rfl (Does.stn ag56 rfl rfl (by first | rfl | exact ones_Is _) (by first | rfl | (simp [*]; done)) o0_1 (by first | decide | (simp; done) | (simp; omega) | omega)) ?_
    rintro _ H2_1 hu2_1
    have z2_1 := hu2_1.size
    replace hE := hE.upw hu2_1 (by omega)
    replace o0_0 := o0_0.upw hu2_1 (by omega)
    replace o0_1 := hu2_1.own
    first | rw [over (by first | rfl | (simp; done))] at o0_1 | skip
    refine Reg.pur rfl rfl rfl rfl (Pur.asg rfl) ?_
    refine Reg.nil ?_
    refine At.retC rfl Try.func31 ⟨_, _, _, _, rfl, rfl, ⟨_, o0_1.blk, .inr ⟨_, _, ag56, (by first | exact whole rfl | exact whole (by simp [*])), (by first | rfl | simp [*]), rfl⟩⟩, ⟨_, _, rfl, rfl, rfl⟩⟩ ?_
    exact clo_no q12 hE rfl
  · first | (simp only [decide_eq_true_eq, decide_eq_false_iff_not, Bool.not_eq_true', Bool.not_eq_false', ne_eq, Decidable.not_not, Bool.not_eq_true, Bool.not_eq_false] at q12) | (dsimp only at q12) | skip
    refine At.region rfl rfl ?_
    refine Reg.lod rfl rfl rfl rfl (Lod.ldn ag25 rfl o0_0.blk (by first | exact whole rfl | rfl | (simp only [List.drop_succ_cons, List.drop_zero, List.take_succ_cons, List.take_zero]; rfl)) (by first | rfl | (simp [*]; done))) ?_
    refine Reg.op rfl rfl rfl rfl (Does.call rfl (varsOf_ok hL q12 (hS.ext hE))) ?_
    rintro v3_1 H3_1 ⟨hE3_1, A1, c1, A2, c2, rfl, hg1, hg2⟩
    have z3_1 := hE3_1.lt
    replace hE := hE.ext hE3_1
    replace o0_0 := o0_0.ext hE3_1
    replace o0_1 := o0_1.ext hE3_1
    have z_hg1 := hg1.lt
    have z_hg2 := hg2.lt
    refine Reg.pur rfl rfl rfl rfl (Pur.mv rfl) ?_
    refine Reg.pur rfl rfl rfl rfl (Pur.ext rfl rfl) ?_
    refine Reg.pur rfl rfl rfl rfl (Pur.ext rfl rfl) ?_
    refine Reg.pur rfl rfl rfl rfl (Pur.asg rfl) ?_
    refine Reg.pur rfl rfl rfl rfl (Pur.asg rfl) ?_
    refine Reg.nil ?_
    have hv : varsT L = varsS L ([], []) := by unfold varsT; rw [q12]; rfl
    rw [hv] at hg1 hg2 ⊢
    have h256 := vars_256 q12
    refine At.drawE ((Bks.cons o0_0.blk Bks.nil)) [7, 9] mixed rfl rfl ?_
    refine RegD.tpur (i := 0) rfl rfl rfl rfl (by kernel_rfl) (Pur.mv rfl) ?_
    refine RegD.tpur (i := 1) rfl rfl rfl rfl (by kernel_rfl) (Pur.mv rfl) ?_
    refine RegD.tpur (i := 3) rfl rfl rfl rfl (by kernel_rfl) (Pur.mv rfl) ?_
    refine RegD.tpur (i := 4) rfl rfl rfl rfl (by kernel_rfl) (Pur.mv rfl) ?_
    refine RegD.take (i := 6) rfl rfl rfl rfl (by kernel_rfl) (Bks.cons o0_0.blk Bks.nil) (fun H hS => Lod.ldn ag25 rfl hS.hd (by first | exact whole rfl | rfl | (simp only [List.drop_succ_cons, List.drop_zero, List.take_succ_cons, List.take_zero]; rfl)) (by first | rfl | (simp [*]; done))) ?_
    refine RegD.one (i := 2) (by kernel_rfl) rfl rfl rfl rfl (Does.call rfl (withoutR_ok _ ks (own_sl (wide1 _) (by decide) hg1) (hk.ext hE) (by omega) hmk)) ?_
    rintro _ H4_2 ⟨⟨A3, c3, rfl, hw1⟩, hE4_2⟩
    have z4_2 := hE4_2.lt
    replace hE := hE.ext hE4_2
    replace o0_0 := o0_0.ext hE4_2
    replace o0_1 := o0_1.ext hE4_2
    replace hg1 := hg1.ext hE4_2
    replace hg2 := hg2.ext hE4_2
    have z_hw1 := hw1.lt
    refine ⟨fun _ _ => (Bks.cons o0_0.blk Bks.nil), ?_⟩
    refine RegD.one (i := 5) (by kernel_rfl) rfl rfl rfl rfl (Does.call rfl (withoutR_ok _ ms (own_sl (wide1 _) (by decide) hg2) (hr.ext hE) (by omega) hmr)) ?_
    rintro _ H4_5 ⟨⟨A4, c4, rfl, hw2⟩, hE4_5⟩
    have z4_5 := hE4_5.lt
    replace hE := hE.ext hE4_5
    replace o0_0 := o0_0.ext hE4_5
    replace o0_1 := o0_1.ext hE4_5
    replace hg1 := hg1.ext hE4_5
    replace hg2 := hg2.ext hE4_5
    replace hw1 := hw1.ext hE4_5
    have z_hw2 := hw2.lt
    refine ⟨fun _ _ => (Bks.cons o0_0.blk Bks.nil), ?_⟩
    refine RegD.one (i := 7) (by kernel_rfl) rfl rfl rfl rfl (Does.call rfl (copyR_ok hL (hS.ext hE) hm)) ?_
    rintro v4_7 H4_7 ⟨⟨A5, c5, rfl, hw3⟩, hE4_7⟩
    have z4_7 := hE4_7.lt
    replace hE := hE.ext hE4_7
    replace o0_0 := o0_0.ext hE4_7
    replace o0_1 := o0_1.ext hE4_7
    replace hg1 := hg1.ext hE4_7
    replace hg2 := hg2.ext hE4_7
    replace hw1 := hw1.ext hE4_7
    replace hw2 := hw2.ext hE4_7
    have z_hw3 := hw3.lt
    refine ⟨fun h => (by cases h), ?_⟩
    refine RegD.tpur (i := 8) rfl rfl rfl rfl (by kernel_rfl) (Pur.bld (cs := [_, _, _]) pl56 zc56 rfl rfl ⟨rfl, rfl, rfl, rfl⟩) ?_
    refine RegD.one0 (i := 9) (by kernel_rfl) rfl rfl rfl (Does.stn ag56 rfl rfl (by first | rfl | exact ones_Is _) (by first | rfl | (simp [*]; done)) o0_1 (by first | decide | (simp; done) | (simp; omega) | omega)) ?_
    rintro _ H4_9 hu4_9
    have z4_9 := hu4_9.size
    replace hE := hE.upw hu4_9 (by omega)
    replace o0_0 := o0_0.upw hu4_9 (by omega)
    replace hg1 := hg1.upw hu4_9 (by omega)
    replace hg2 := hg2.upw hu4_9 (by omega)
    replace hw1 := hw1.upw hu4_9 (by omega)
    replace hw2 := hw2.upw hu4_9 (by omega)
    replace hw3 := hw3.upw hu4_9 (by omega)
    replace o0_1 := hu4_9.own
    first | rw [over (by first | rfl | (simp; done))] at o0_1 | skip
    refine ⟨fun h => (by cases h), ?_⟩
    refine RegD.tpur (i := 10) rfl rfl rfl rfl (by kernel_rfl) (Pur.asg rfl) ?_
    refine RegD.done (by kernel_rfl) ?_
    refine At.retC rfl Try.func31 ⟨_, _, _, _, rfl, rfl, ⟨_, o0_1.blk, .inr ⟨_, _, ag56, (by first | exact whole rfl | exact whole (by simp [*])), (by first | rfl | simp [*]), rfl⟩⟩, ⟨_, _, rfl, rfl, rfl⟩⟩ ?_
    refine ⟨hE, A3, c3, A4, c4, A5, c5, ?_, ?_⟩
    · simp only [cloV, cloR, cloT, q12, cs, if_true]; rfl
    · simp only [cloV, cloR, cloT, q12, if_true]
      have e1' := hw1.gw.lt
      have e2' := hw2.gw.lt
      have e3' := hw3.gw.lt
      exact ⟨hw1.gw.mono (by omega), hw2.gw.mono (by omega), hw3.gw.mono (by omega), by omega, by omega, by omega, hL⟩

theorem sl_take {l : List Int} {H : Heap} {A : Option Addr} {cap i : Nat} (hS : SlT H e1 1 (.slice A l.length cap) l) (hi : i ≤ l.length) : SlT H e1 1 (.slice A (l.take i).length cap) (l.take i) := by
  obtain ⟨A', cap', e, h1, h2, h3, h4⟩ := hS
  cases e
  refine ⟨A, cap, rfl, by rw [List.length_take]; omega, h2, h3, ?_⟩
  rcases h4 with h4 | ⟨b, o, c, rfl, hb, h5⟩
  · exact .inl (by rw [List.length_take]; omega)
  · refine .inr ⟨b, o, c, rfl, hb, fun j hj => ?_⟩
    rw [List.length_take] at hj
    rw [List.getElem_take]
    exact h5 j (by omega)
theorem containsT_ok {A : Option Addr} {cap i : Nat} (l : List Int) {H : Heap} (hS : SlT H e1 1 (.slice A l.length cap) l) (hm : l.length ≤ 9223372036854775807) (v : Int) (hi : i ≤ l.length) :
    Ret Try.prog 93 [.slice A i cap, I v] H (fun r H' => r = .bool (inL (l.take i) v) ∧ H' = H) := by
  have h := contains_ok (l.take i) (sl_take hS hi) (by rw [List.length_take]; omega) v
  rwa [show (l.take i).length = i by rw [List.length_take]; omega] at h
theorem hasT_ok {A : Option Addr} {cap i : Nat} (l : List Int) {H : Heap} (hS : SlT H e1 1 (.slice A l.length cap) l) (hm : l.length ≤ 9223372036854775807) (v : Int) (hi : i ≤ l.length) :
    Ret Try.prog 94 [.slice A i cap, I v] H (fun r H' => r = .bool (inL (l.take i) v) ∧ H' = H) := by
  have h := has_ok (l.take i) (sl_take hS hi) (by rw [List.length_take]; omega) v
  rwa [show (l.take i).length = i by rw [List.length_take]; omega] at h
/-- numbers that are variables, each once -/
def vm1 (l : List Int) (i : Nat) : Bool := decide (0 ≤ l.getD i 0 ∧ l.getD i 0 < 4096) && !inL (l.take i) (l.getD i 0)
def vmS (l : List Int) : Bool := (List.range l.length).all (vm1 l)
theorem getD_at {l : List Int} {i : Nat} (hi : i < l.length) : l.getD i 0 = l[i] := by simp [List.getD_eq_getElem?_getD, List.getElem?_eq_getElem hi]
theorem vm_no {l : List Int} {i : Nat} (hi : i < l.length) (h : vm1 l i = false) : vmS l = false := by
  cases hh : vmS l with
  | false => rfl
  | true => unfold vmS at hh; rw [List.all_eq_true] at hh; rw [hh i (List.mem_range.2 hi)] at h; cases h
theorem vm_step {l : List Int} {i : Nat} (h : (List.range i).all (vm1 l) = true) (h1 : vm1 l i = true) : (List.range (i + 1)).all (vm1 l) = true := by
  rw [List.range_succ, List.all_append, h]; simp [h1]

theorem varsMay_ok {A : Option Addr} {cap : Nat} (l : List Int) {H : Heap} (hS : SlT H e1 1 (.slice A l.length cap) l) (hm : l.length ≤ 9223372036854775807) :
    Ret Try.prog 95 [.slice A l.length cap] H (fun r H' => r = .bool (vmS l) ∧ H' = H) := by
  refine Ret.of_at (N := 26) Try.call95 Try.func95 rfl rfl rfl ?_
  have hE := Ext.refl H
  refine At.region rfl rfl ?_
  refine Reg.pur rfl rfl rfl rfl (Pur.asg rfl) ?_
  refine Reg.nil ?_
  refine At.region rfl rfl ?_
  refine Reg.pur rfl rfl rfl rfl (Pur.mv rfl) ?_
  refine Reg.pur rfl rfl rfl rfl (Pur.lenS isl54 rfl) ?_
  refine Reg.pur rfl rfl rfl rfl (Pur.mv rfl) ?_
  refine Reg.nil ?_
  refine At.loop (σ := Nat) (fun i => [(7, I i), (6, I l.length), (5, .slice A l.length cap), (0, .slice A l.length cap)]) (fun i H' => i ≤ l.length ∧ H' = H ∧ (List.range i).all (vm1 l) = true) (fun i => l.length - i) 0 rfl ⟨rfl, rfl, rfl, rfl, trivial⟩ ⟨by omega, rfl, rfl⟩ ?_
  rintro i H ⟨hi, rfl, hgo⟩ ih
  refine At.region rfl rfl ?_
  refine Reg.pur rfl rfl rfl rfl (Pur.lss rfl rfl) ?_
  refine Reg.nil ?_
  refine At.cond rfl rfl (fun q8 => ?_) (fun q8 => ?_)
  · first | (simp only [decide_eq_true_eq, decide_eq_false_iff_not, Bool.not_eq_true', Bool.not_eq_false', ne_eq, Decidable.not_not, Bool.not_eq_true, Bool.not_eq_false] at q8) | (dsimp only at q8) | skip
    have hlt : i < l.length := by omega
    obtain ⟨b, o, c, rfl, hB, hc⟩ := int_at hS hlt
    have hv1 : vm1 l i = (decide (0 ≤ l[i] ∧ l[i] < 4096) && !inL (l.take i) l[i]) := by unfold vm1; rw [getD_at hlt]
    obtain ⟨h1, h2, _⟩ : i ≤ cap ∧ True ∧ True := by { obtain ⟨_, _, e, h1, _⟩ := hS; cases e; exact ⟨by omega, trivial, trivial⟩ }
    refine At.region rfl rfl ?_
    refine Reg.pur rfl rfl rfl rfl (Pur.mv rfl) ?_
    refine Reg.pur rfl rfl rfl rfl (Pur.idx _ es54 rfl rfl (by omega) (by omega)) ?_
    refine Reg.lod rfl rfl rfl rfl (Lod.ld sc3 rfl hB hc) ?_
    refine Reg.pur rfl rfl rfl rfl (Pur.asg rfl) ?_
    refine Reg.pur rfl rfl rfl rfl (Pur.asg rfl) ?_
    refine Reg.nil ?_
    refine At.region rfl rfl ?_
    refine Reg.pur rfl rfl rfl rfl (Pur.mv rfl) ?_
    refine Reg.pur rfl rfl rfl rfl (Pur.lss rfl rfl) ?_
    refine Reg.pur rfl rfl rfl rfl (Pur.mv rfl) ?_
    refine Reg.case 14 rfl (fun q14 => ?_) (fun q14 => ?_)
    · first | (simp only [decide_eq_true_eq, decide_eq_false_iff_not, Bool.not_eq_true', Bool.not_eq_false', ne_eq, Decidable.not_not, Bool.not_eq_true, Bool.not_eq_false] at q14) | (dsimp only at q14) | skip
      refine Reg.skip rfl rfl rfl rfl rfl rfl rfl ?_
      refine Reg.skip rfl rfl rfl rfl rfl rfl rfl ?_
      refine Reg.pur rfl rfl rfl rfl (Pur.pickT rfl rfl) ?_
      refine Reg.pur rfl rfl rfl rfl (Pur.mv rfl) ?_
      refine Reg.skip rfl rfl rfl rfl rfl rfl rfl ?_
      refine Reg.skip rfl rfl rfl rfl rfl rfl rfl ?_
      refine Reg.skip rfl rfl rfl rfl rfl rfl rfl ?_
      refine Reg.skip rfl rfl rfl rfl rfl rfl rfl ?_
      refine Reg.skip rfl rfl rfl rfl rfl rfl rfl ?_
      refine Reg.pur rfl rfl rfl rfl (Pur.pickT rfl rfl) ?_
      refine Reg.nil ?_
      refine At.condT rfl rfl rfl ?_
      refine At.region rfl rfl ?_
      refine Reg.pur rfl rfl rfl rfl (Pur.asg rfl) ?_
      refine Reg.nil ?_
      refine At.ret rfl Try.func95 rfl ?_
      exact ⟨congrArg Value.bool (vm_no hlt (by rw [hv1]; revert q8 q14; intros; simp_all; try omega)).symm, rfl⟩
    · first | (simp only [decide_eq_true_eq, decide_eq_false_iff_not, Bool.not_eq_true', Bool.not_eq_false', ne_eq, Decidable.not_not, Bool.not_eq_true, Bool.not_eq_false] at q14) | (dsimp only at q14) | skip
      refine Reg.gpur rfl rfl rfl rfl rfl rfl (Pur.mv rfl) ?_
      refine Reg.gpur rfl rfl rfl rfl rfl rfl (Pur.geq rfl rfl) ?_
      refine Reg.pur rfl rfl rfl rfl (Pur.pickF rfl rfl) ?_
      refine Reg.pur rfl rfl rfl rfl (Pur.mv rfl) ?_
      refine Reg.case 18 rfl (fun q18 => ?_) (fun q18 => ?_)
      · first | (simp only [decide_eq_true_eq, decide_eq_false_iff_not, Bool.not_eq_true', Bool.not_eq_false', ne_eq, Decidable.not_not, Bool.not_eq_true, Bool.not_eq_false] at q18) | (dsimp only at q18) | skip
        refine Reg.skip rfl rfl rfl rfl rfl rfl rfl ?_
        refine Reg.skip rfl rfl rfl rfl rfl rfl rfl ?_
        refine Reg.skip rfl rfl rfl rfl rfl rfl rfl ?_
        refine Reg.skip rfl rfl rfl rfl rfl rfl rfl ?_
        refine Reg.skip rfl rfl rfl rfl rfl rfl rfl ?_
        refine Reg.pur rfl rfl rfl rfl (Pur.pickT rfl rfl) ?_
        refine Reg.nil ?_
        refine At.condT rfl rfl rfl ?_
        refine At.region rfl rfl ?_
        refine Reg.pur rfl rfl rfl rfl (Pur.asg rfl) ?_
        refine Reg.nil ?_
        refine At.ret rfl Try.func95 rfl ?_
        exact ⟨congrArg Value.bool (vm_no hlt (by rw [hv1]; revert q8 q14 q18; intros; simp_all; try omega)).symm, rfl⟩
      · first | (simp only [decide_eq_true_eq, decide_eq_false_iff_not, Bool.not_eq_true', Bool.not_eq_false', ne_eq, Decidable.not_not, Bool.not_eq_true, Bool.not_eq_false] at q18) | (dsimp only at q18) | skip
        refine Reg.gpur rfl rfl rfl rfl rfl rfl (Pur.mv rfl) ?_
        refine Reg.gpur rfl rfl rfl rfl rfl rfl (Pur.mv rfl) ?_
        refine Reg.gpur rfl rfl rfl rfl rfl rfl (Pur.cutH es54 rfl rfl (by omega) (by omega)) ?_
        refine Reg.gpur rfl rfl rfl rfl rfl rfl (Pur.mv rfl) ?_
        refine Reg.gop rfl rfl rfl rfl rfl rfl (Does.call rfl (containsT_ok l hS hm _ (by omega))) ?_
        rintro _ H ⟨rfl, rfl⟩
        refine Reg.pur rfl rfl rfl rfl (Pur.pickF rfl rfl) ?_
        refine Reg.nil ?_
        refine At.cond rfl rfl (fun q24 => ?_) (fun q24 => ?_)
        · first | (simp only [decide_eq_true_eq, decide_eq_false_iff_not, Bool.not_eq_true', Bool.not_eq_false', ne_eq, Decidable.not_not, Bool.not_eq_true, Bool.not_eq_false] at q24) | (dsimp only at q24) | skip
          refine At.region rfl rfl ?_
          refine Reg.pur rfl rfl rfl rfl (Pur.asg rfl) ?_
          refine Reg.nil ?_
          refine At.ret rfl Try.func95 rfl ?_
          exact ⟨congrArg Value.bool (vm_no hlt (by rw [hv1]; revert q8 q14 q18 q24; intros; simp_all; try omega)).symm, rfl⟩
        · first | (simp only [decide_eq_true_eq, decide_eq_false_iff_not, Bool.not_eq_true', Bool.not_eq_false', ne_eq, Decidable.not_not, Bool.not_eq_true, Bool.not_eq_false] at q24) | (dsimp only at q24) | skip
          refine At.region rfl rfl ?_
          first | refine Reg.pur rfl rfl rfl rfl (Pur.add64 rfl rfl (by omega)) ?_ | refine Reg.pur rfl rfl rfl rfl (Pur.add64 rfl rfl (by assumption)) ?_ | refine Reg.pur rfl rfl rfl rfl (Pur.add rfl rfl) ?_
          refine Reg.pur rfl rfl rfl rfl (Pur.mv rfl) ?_
          refine Reg.nil ?_
          refine At.via (ih (i + 1) _ ⟨by omega, rfl, vm_step hgo ?_⟩ (by omega)) ⟨rfl, rfl, rfl, rfl, trivial⟩
          have q24' : inL (l.take i) l[i] = false := by simpa using q24
          rw [hv1, decide_eq_true (by omega), q24']; rfl
  · first | (simp only [decide_eq_true_eq, decide_eq_false_iff_not, Bool.not_eq_true', Bool.not_eq_false', ne_eq, Decidable.not_not, Bool.not_eq_true, Bool.not_eq_false] at q8) | (dsimp only at q8) | skip
    refine At.region rfl rfl ?_
    refine Reg.pur rfl rfl rfl rfl (Pur.asg rfl) ?_
    refine Reg.nil ?_
    refine At.ret rfl Try.func95 rfl ?_
    exact ⟨congrArg Value.bool (by unfold vmS; rw [show l.length = i by omega]; exact hgo.symm), rfl⟩
end Go.Proofs.Ytlfillhffpiffaa

/-
  Schemes lent, compared, spoilt; the reference's varsMay.
-/
namespace Go.Proofs.Ytlfillhffpiffaa
set_option linter.unusedSimpArgs false
set_option linter.unusedVariables false
set_option maxRecDepth 8000
open Go Go.Fx Go.Proofs
namespace FactsSchI
theorem apt54 : appT Try.prog 54 = some (3, 1, 8) := by kernel_rfl
theorem es54 : esz Try.prog 54 = some 1 := by kernel_rfl
theorem isl54 : isSl Try.prog 54 = true := by kernel_rfl
theorem mixed : Try.prog.follows .mixedOrders = true := by kernel_rfl
theorem sc3 : sc Try.prog 3 = true := by kernel_rfl
theorem sl1_54 : sl1 Try.prog 54 = true := by kernel_rfl
end FactsSchI
open FactsSchI

theorem varsMayR_ok {A : Option Addr} {cap : Nat} (l : List Int) {H : Heap} (hS : SlT H e1 1 (.slice A l.length cap) l) (hm : l.length ≤ 9223372036854775807) :
    Ret Try.prog 71 [.slice A l.length cap] H (fun r H' => r = .bool (vmS l) ∧ H' = H) := by
  refine Ret.of_at (N := 32) Try.call71 Try.func71 rfl rfl rfl ?_
  have hE := Ext.refl H
  refine At.region rfl rfl ?_
  refine Reg.pur rfl rfl rfl rfl (Pur.asg rfl) ?_
  refine Reg.nil ?_
  refine At.region rfl rfl ?_
  refine Reg.pur rfl rfl rfl rfl (Pur.asg rfl) ?_
  refine Reg.nil ?_
  refine At.loop (σ := Nat) (fun i => [(3, I i), (0, .slice A l.length cap)]) (fun i H' => i ≤ l.length ∧ H' = H ∧ (List.range i).all (vm1 l) = true) (fun i => l.length - i) 0 rfl ⟨rfl, rfl, trivial⟩ ⟨by omega, rfl, rfl⟩ ?_
  rintro i H ⟨hi, rfl, hgo⟩ ih
  refine At.region rfl rfl ?_
  refine Reg.pur rfl rfl rfl rfl (Pur.mv rfl) ?_
  refine Reg.pur rfl rfl rfl rfl (Pur.mv rfl) ?_
  refine Reg.pur rfl rfl rfl rfl (Pur.lenS isl54 rfl) ?_
  refine Reg.pur rfl rfl rfl rfl (Pur.lss rfl rfl) ?_
  refine Reg.nil ?_
  refine At.cond rfl rfl (fun q7 => ?_) (fun q7 => ?_)
  · first | (simp only [decide_eq_true_eq, decide_eq_false_iff_not, Bool.not_eq_true', Bool.not_eq_false', ne_eq, Decidable.not_not, Bool.not_eq_true, Bool.not_eq_false] at q7) | (dsimp only at q7) | skip
    have hlt : i < l.length := by omega
    obtain ⟨b, o, c, rfl, hB, hc⟩ := int_at hS hlt
    have hv1 : vm1 l i = (decide (0 ≤ l[i] ∧ l[i] < 4096) && !inL (l.take i) l[i]) := by unfold vm1; rw [getD_at hlt]
    obtain ⟨h1, h2, _⟩ : i ≤ cap ∧ True ∧ True := by { obtain ⟨_, _, e, h1, _⟩ := hS; cases e; exact ⟨by omega, trivial, trivial⟩ }
    refine At.drawE ((Bks.cons hB.blk Bks.nil)) [] mixed rfl rfl ?_
    refine RegD.tpur (i := 0) rfl rfl rfl rfl (by kernel_rfl) (Pur.mv rfl) ?_
    refine RegD.tpur (i := 1) rfl rfl rfl rfl (by kernel_rfl) (Pur.mv rfl) ?_
    refine RegD.tpur (i := 2) rfl rfl rfl rfl (by kernel_rfl) (Pur.idx _ es54 rfl rfl (by omega) (by omega)) ?_
    refine RegD.take (i := 3) rfl rfl rfl rfl (by kernel_rfl) (Bks.cons hB.blk Bks.nil) (fun H hS => Lod.ld sc3 rfl hS.hd hc) ?_
    refine RegD.tpur (i := 4) rfl rfl rfl rfl (by kernel_rfl) (Pur.lss rfl rfl) ?_
    refine RegD.tpur (i := 5) rfl rfl rfl rfl (by kernel_rfl) (Pur.mv rfl) ?_
    refine RegD.case 15 rfl (fun q15 => ?_) (fun q15 => ?_)
    · first | (simp only [decide_eq_true_eq, decide_eq_false_iff_not, Bool.not_eq_true', Bool.not_eq_false', ne_eq, Decidable.not_not, Bool.not_eq_true, Bool.not_eq_false] at q15) | (dsimp only at q15) | skip
      refine RegD.skip (i := 6) rfl rfl rfl rfl rfl rfl rfl (by kernel_rfl) ?_
      refine RegD.skip (i := 7) rfl rfl rfl rfl rfl rfl rfl (by kernel_rfl) ?_
      refine RegD.skip (i := 8) rfl rfl rfl rfl rfl rfl rfl (by kernel_rfl) ?_
      refine RegD.skip (i := 9) rfl rfl rfl rfl rfl rfl rfl (by kernel_rfl) ?_
      refine RegD.skip (i := 10) rfl rfl rfl rfl rfl rfl rfl (by kernel_rfl) ?_
      refine RegD.tpur (i := 11) rfl rfl rfl rfl (by kernel_rfl) (Pur.pickT rfl rfl) ?_
      refine RegD.tpur (i := 12) rfl rfl rfl rfl (by kernel_rfl) (Pur.mv rfl) ?_
      refine RegD.skip (i := 13) rfl rfl rfl rfl rfl rfl rfl (by kernel_rfl) ?_
      refine RegD.skip (i := 14) rfl rfl rfl rfl rfl rfl rfl (by kernel_rfl) ?_
      refine RegD.skip (i := 15) rfl rfl rfl rfl rfl rfl rfl (by kernel_rfl) ?_
      refine RegD.skip (i := 16) rfl rfl rfl rfl rfl rfl rfl (by kernel_rfl) ?_
      refine RegD.skip (i := 17) rfl rfl rfl rfl rfl rfl rfl (by kernel_rfl) ?_
      refine RegD.skip (i := 18) rfl rfl rfl rfl rfl rfl rfl (by kernel_rfl) ?_
      refine RegD.skip (i := 19) rfl rfl rfl rfl rfl rfl rfl (by kernel_rfl) ?_
      refine RegD.skip (i := 20) rfl rfl rfl rfl rfl rfl rfl (by kernel_rfl) ?_
      refine RegD.tpur (i := 21) rfl rfl rfl rfl (by kernel_rfl) (Pur.pickT rfl rfl) ?_
      refine RegD.done (by kernel_rfl) ?_
      refine At.condT rfl rfl rfl ?_
      refine At.region rfl rfl ?_
      refine Reg.pur rfl rfl rfl rfl (Pur.asg rfl) ?_
      refine Reg.nil ?_
      refine At.ret rfl Try.func71 rfl ?_
      exact ⟨congrArg Value.bool (vm_no hlt (by rw [hv1]; revert q7 q15; intros; simp_all; try omega)).symm, rfl⟩
    · first | (simp only [decide_eq_true_eq, decide_eq_false_iff_not, Bool.not_eq_true', Bool.not_eq_false', ne_eq, Decidable.not_not, Bool.not_eq_true, Bool.not_eq_false] at q15) | (dsimp only at q15) | skip
      refine RegD.gtpur (i := 6) rfl rfl rfl rfl rfl rfl (by kernel_rfl) (Pur.mv rfl) ?_
      refine RegD.gtpur (i := 7) rfl rfl rfl rfl rfl rfl (by kernel_rfl) (Pur.mv rfl) ?_
      refine RegD.gtpur (i := 8) rfl rfl rfl rfl rfl rfl (by kernel_rfl) (Pur.idx _ es54 rfl rfl (by omega) (by omega)) ?_
      refine RegD.gtake (i := 9) rfl rfl rfl rfl rfl rfl (by kernel_rfl) (Bks.cons hB.blk Bks.nil) (fun H hS => Lod.ld sc3 rfl hS.hd hc) ?_
      refine RegD.gtpur (i := 10) rfl rfl rfl rfl rfl rfl (by kernel_rfl) (Pur.geq rfl rfl) ?_
      refine RegD.tpur (i := 11) rfl rfl rfl rfl (by kernel_rfl) (Pur.pickF rfl rfl) ?_
      refine RegD.tpur (i := 12) rfl rfl rfl rfl (by kernel_rfl) (Pur.mv rfl) ?_
      refine RegD.case 22 rfl (fun q22 => ?_) (fun q22 => ?_)
      · first | (simp only [decide_eq_true_eq, decide_eq_false_iff_not, Bool.not_eq_true', Bool.not_eq_false', ne_eq, Decidable.not_not, Bool.not_eq_true, Bool.not_eq_false] at q22) | (dsimp only at q22) | skip
        refine RegD.skip (i := 13) rfl rfl rfl rfl rfl rfl rfl (by kernel_rfl) ?_
        refine RegD.skip (i := 14) rfl rfl rfl rfl rfl rfl rfl (by kernel_rfl) ?_
        refine RegD.skip (i := 15) rfl rfl rfl rfl rfl rfl rfl (by kernel_rfl) ?_
        refine RegD.skip (i := 16) rfl rfl rfl rfl rfl rfl rfl (by kernel_rfl) ?_
        refine RegD.skip (i := 17) rfl rfl rfl rfl rfl rfl rfl (by kernel_rfl) ?_
        refine RegD.skip (i := 18) rfl rfl rfl rfl rfl rfl rfl (by kernel_rfl) ?_
        refine RegD.skip (i := 19) rfl rfl rfl rfl rfl rfl rfl (by kernel_rfl) ?_
        refine RegD.skip (i := 20) rfl rfl rfl rfl rfl rfl rfl (by kernel_rfl) ?_
        refine RegD.tpur (i := 21) rfl rfl rfl rfl (by kernel_rfl) (Pur.pickT rfl rfl) ?_
        refine RegD.done (by kernel_rfl) ?_
        refine At.condT rfl rfl rfl ?_
        refine At.region rfl rfl ?_
        refine Reg.pur rfl rfl rfl rfl (Pur.asg rfl) ?_
        refine Reg.nil ?_
        refine At.ret rfl Try.func71 rfl ?_
        exact ⟨congrArg Value.bool (vm_no hlt (by rw [hv1]; revert q7 q15 q22; intros; simp_all; try omega)).symm, rfl⟩
      · first | (simp only [decide_eq_true_eq, decide_eq_false_iff_not, Bool.not_eq_true', Bool.not_eq_false', ne_eq, Decidable.not_not, Bool.not_eq_true, Bool.not_eq_false] at q22) | (dsimp only at q22) | skip
        refine RegD.gtpur (i := 13) rfl rfl rfl rfl rfl rfl (by kernel_rfl) (Pur.mv rfl) ?_
        refine RegD.gtpur (i := 14) rfl rfl rfl rfl rfl rfl (by kernel_rfl) (Pur.mv rfl) ?_
        refine RegD.gtpur (i := 15) rfl rfl rfl rfl rfl rfl (by kernel_rfl) (Pur.cutH es54 rfl rfl (by omega) (by omega)) ?_
        refine RegD.gtpur (i := 16) rfl rfl rfl rfl rfl rfl (by kernel_rfl) (Pur.mv rfl) ?_
        refine RegD.gtpur (i := 17) rfl rfl rfl rfl rfl rfl (by kernel_rfl) (Pur.mv rfl) ?_
        refine RegD.gtpur (i := 18) rfl rfl rfl rfl rfl rfl (by kernel_rfl) (Pur.idx _ es54 rfl rfl (by omega) (by omega)) ?_
        refine RegD.gtake (i := 19) rfl rfl rfl rfl rfl rfl (by kernel_rfl) (Bks.cons hB.blk Bks.nil) (fun H hS => Lod.ld sc3 rfl hS.hd hc) ?_
        refine RegD.gone (i := 20) (by kernel_rfl) rfl rfl rfl rfl rfl rfl (Does.call rfl (hasT_ok l hS hm _ (by omega))) ?_
        rintro _ H ⟨rfl, rfl⟩
        refine ⟨fun _ _ => (Bks.cons hB.blk Bks.nil), ?_⟩
        refine RegD.tpur (i := 21) rfl rfl rfl rfl (by kernel_rfl) (Pur.pickF rfl rfl) ?_
        refine RegD.done (by kernel_rfl) ?_
        refine At.cond rfl rfl (fun q31 => ?_) (fun q31 => ?_)
        · first | (simp only [decide_eq_true_eq, decide_eq_false_iff_not, Bool.not_eq_true', Bool.not_eq_false', ne_eq, Decidable.not_not, Bool.not_eq_true, Bool.not_eq_false] at q31) | (dsimp only at q31) | skip
          refine At.region rfl rfl ?_
          refine Reg.pur rfl rfl rfl rfl (Pur.asg rfl) ?_
          refine Reg.nil ?_
          refine At.ret rfl Try.func71 rfl ?_
          exact ⟨congrArg Value.bool (vm_no hlt (by rw [hv1]; revert q7 q15 q22 q31; intros; simp_all; try omega)).symm, rfl⟩
        · first | (simp only [decide_eq_true_eq, decide_eq_false_iff_not, Bool.not_eq_true', Bool.not_eq_false', ne_eq, Decidable.not_not, Bool.not_eq_true, Bool.not_eq_false] at q31) | (dsimp only at q31) | skip
          refine At.region rfl rfl ?_
          refine Reg.pur rfl rfl rfl rfl (Pur.mv rfl) ?_
          first | refine Reg.pur rfl rfl rfl rfl (Pur.add64 rfl rfl (by omega)) ?_ | refine Reg.pur rfl rfl rfl rfl (Pur.add64 rfl rfl (by assumption)) ?_ | refine Reg.pur rfl rfl rfl rfl (Pur.add rfl rfl) ?_
          refine Reg.pur rfl rfl rfl rfl (Pur.asg rfl) ?_
          refine Reg.nil ?_
          refine At.via (ih (i + 1) _ ⟨by omega, rfl, vm_step hgo ?_⟩ (by omega)) ⟨rfl, rfl, trivial⟩
          have q31' : inL (l.take i) l[i] = false := by simpa using q31
          rw [hv1, decide_eq_true (by omega), q31']; rfl
  · first | (simp only [decide_eq_true_eq, decide_eq_false_iff_not, Bool.not_eq_true', Bool.not_eq_false', ne_eq, Decidable.not_not, Bool.not_eq_true, Bool.not_eq_false] at q7) | (dsimp only at q7) | skip
    refine At.region rfl rfl ?_
    refine Reg.pur rfl rfl rfl rfl (Pur.asg rfl) ?_
    refine Reg.nil ?_
    refine At.ret rfl Try.func71 rfl ?_
    exact ⟨congrArg Value.bool (by unfold vmS; rw [show l.length = i by omega]; exact hgo.symm), rfl⟩

theorem copyI_ok {A : Option Addr} {cap : Nat} {l : List Int} {H : Heap} (hS : SlT H e1 1 (.slice A l.length cap) l) (hb : l.length * 8 ≤ 140737488351232) :
    Ret Try.prog 63 [.slice A l.length cap] H (fun v H' => (∃ A' cap', v = .slice A' l.length cap' ∧ Gs H' H.size 3 1 A' cap' l.length (l.flatMap e1)) ∧ Ext H H') := by
  refine Ret.of_at (N := 6) Try.call63 Try.func63 rfl rfl rfl ?_
  have hE := Ext.refl H
  refine At.region rfl rfl ?_
  refine Reg.pur rfl rfl rfl rfl (Pur.asg rfl) ?_
  refine Reg.nil ?_
  refine At.region rfl rfl ?_
  refine Reg.op rfl rfl rfl rfl (Does.bsl1T sl1_54 Try.underlying54 rfl rfl rfl rfl rfl) ?_
  rintro _ H1_0 ⟨rfl, hp1_0⟩
  have hn1_0 := New.of_eq hp1_0
  have z1_0 := hn1_0.size
  replace hE := hE.ext hn1_0.ext
  have o1_0 := hn1_0.own
  have hg : Gs H1_0 H.size 3 1 (some ⟨H.size, 0, none⟩) 0 ([] : List Int).length (([] : List Int).flatMap e1) := by rw [hp1_0]; exact OwnS.new (xs := []) (n := 0) rfl (by decide) (Nat.le_refl _)
  refine Reg.pur rfl rfl rfl rfl (Pur.mv rfl) ?_

  have z_hg := hg.lt
  refine Reg.op rfl rfl rfl rfl (Does.appL apt54 rfl rfl (by decide) hg (wide1 _) (hS.ext hE) (ones_e1 _) (by simp; omega) (by omega)) ?_
  rintro _ H1_2 ⟨A1_2, cap1_2, rfl, g1_2, hbut1_2, ha1_2⟩
  have z1_2 := hbut1_2.lt
  replace hE := hE.via hbut1_2 (by first | omega | (intro g; omega) | (intro g hg; omega) | (intro g hg h; omega))
  replace hg := g1_2
  have zg1_2 := g1_2.lt
  refine Reg.pur rfl rfl rfl rfl (Pur.asg rfl) ?_
  refine Reg.nil ?_
  refine At.ret rfl Try.func63 rfl ?_
  exact ⟨⟨A1_2, cap1_2, rfl, hg⟩, hE⟩

theorem gw_cut {H : Heap} {B cap : Nat} {A : Option Addr} {l m : List Int} (h : Gw H B 1 A cap (l ++ m).length ((l ++ m).flatMap e1)) : Gw H B 1 A cap l.length (l.flatMap e1) := by
  obtain ⟨h0, h1, h2, h3, h4⟩ := h
  rw [List.length_append] at h1 h4
  refine ⟨by rw [flat_e1]; simp, by omega, h2, h3, ?_⟩
  rcases h4 with h4 | ⟨g, c, rfl, hb, ho, hc⟩
  · exact .inl (by omega)
  · refine .inr ⟨g, c, rfl, hb, ho, ?_⟩
    have := congrArg (List.take l.length) hc
    rw [List.take_take, Nat.mul_one, Nat.min_eq_left (by omega), flat_e1] at this
    rw [Nat.mul_one, this, flat_e1]
    simp [Is]
theorem lendI_ok {A : Option Addr} {cap : Nat} {l : List Int} {H : Heap} (hS : SlT H e1 1 (.slice A l.length cap) l) (hb : l.length * 8 ≤ 140737488351232) :
    Ret Try.prog 29 [.slice A l.length cap] H (fun v H' => (∃ A' cap', v = .slice A' l.length cap' ∧ Gw H' H.size 1 A' cap' l.length (l.flatMap e1)) ∧ Ext H H') := by
  refine Ret.of_at (N := 12) Try.call29 Try.func29 rfl rfl rfl ?_
  have hE := Ext.refl H
  refine At.region rfl rfl ?_
  refine Reg.pur rfl rfl rfl rfl (Pur.asg rfl) ?_
  refine Reg.nil ?_
  refine At.region rfl rfl ?_
  refine Reg.pur rfl rfl rfl rfl (Pur.mv rfl) ?_
  refine Reg.op rfl rfl rfl rfl (Does.call rfl (copyI_ok (hS.ext hE) hb)) ?_
  rintro _ H1_1 ⟨⟨A2, cap2, rfl, hg⟩, hE1_1⟩
  have z1_1 := hE1_1.lt
  replace hE := hE.ext hE1_1
  have z_hg := hg.lt
  refine Reg.op rfl rfl rfl rfl (Does.bsl1T sl1_54 Try.underlying54 rfl rfl rfl rfl rfl) ?_
  rintro _ H1_2 ⟨rfl, hp1_2⟩
  have hn1_2 := New.of_eq hp1_2
  have z1_2 := hn1_2.size
  replace hE := hE.ext hn1_2.ext
  replace hg := hg.ext hn1_2.ext
  have o1_2 := hn1_2.own

  refine Reg.op rfl rfl rfl rfl (Does.appL apt54 rfl rfl (by decide) hg (wide1 _) (sl_new (L := [-7777, -8888]) (wide1 _) (by decide) hn1_2 (by simp)) (ones_e1 _) (by simp; omega) (by omega)) ?_
  rintro _ H1_3 ⟨A1_3, cap1_3, rfl, g1_3, hbut1_3, ha1_3⟩
  have z1_3 := hbut1_3.lt
  replace hE := hE.via hbut1_3 (by first | omega | (intro g; omega) | (intro g hg; omega) | (intro g hg h; omega))
  replace hg := g1_3
  have zg1_3 := g1_3.lt
  refine Reg.pur rfl rfl rfl rfl (Pur.asg rfl) ?_
  refine Reg.nil ?_
  have hcap : l.length + 2 ≤ cap1_3 := by { have h1 := hg.gw.2.1; rw [List.length_append] at h1; exact h1 }
  refine At.region rfl rfl ?_
  refine Reg.pur rfl rfl rfl rfl (Pur.mv rfl) ?_
  refine Reg.pur rfl rfl rfl rfl (Pur.mv rfl) ?_
  refine Reg.pur rfl rfl rfl rfl (Pur.lenS isl54 rfl) ?_
  refine Reg.pur rfl rfl rfl rfl (Pur.cutH es54 rfl rfl (by omega) (by omega)) ?_
  refine Reg.pur rfl rfl rfl rfl (Pur.asg rfl) ?_
  refine Reg.nil ?_
  refine At.ret rfl Try.func29 rfl ?_
  exact ⟨⟨A1_3, cap1_3, rfl, gw_cut hg.gw⟩, hE⟩

theorem sameI_ok {A A' : Option Addr} {cap cap' : Nat} (l m : List Int) {H : Heap} (hS : SlT H e1 1 (.slice A l.length cap) l) (hS' : SlT H e1 1 (.slice A' m.length cap') m) (hm : l.length ≤ 9223372036854775807) :
    Ret Try.prog 38 [.slice A l.length cap, .slice A' m.length cap'] H (fun v H' => v = .bool (decide (l = m)) ∧ H' = H) := by
  refine Ret.of_at (N := 26) Try.call38 Try.func38 rfl rfl rfl ?_
  have hE := Ext.refl H
  refine At.region rfl rfl ?_
  refine Reg.pur rfl rfl rfl rfl (Pur.asg rfl) ?_
  refine Reg.nil ?_
  refine At.region rfl rfl ?_
  refine Reg.pur rfl rfl rfl rfl (Pur.mv rfl) ?_
  refine Reg.pur rfl rfl rfl rfl (Pur.lenS isl54 rfl) ?_
  refine Reg.pur rfl rfl rfl rfl (Pur.mv rfl) ?_
  refine Reg.pur rfl rfl rfl rfl (Pur.lenS isl54 rfl) ?_
  refine Reg.pur rfl rfl rfl rfl (Pur.neq rfl rfl) ?_
  refine Reg.nil ?_
  refine At.cond rfl rfl (fun q10 => ?_) (fun q10 => ?_)
  · first | (simp only [decide_eq_true_eq, decide_eq_false_iff_not, Bool.not_eq_true', Bool.not_eq_false', ne_eq, Decidable.not_not, Bool.not_eq_true, Bool.not_eq_false] at q10) | (dsimp only at q10) | skip
    refine At.region rfl rfl ?_
    refine Reg.pur rfl rfl rfl rfl (Pur.asg rfl) ?_
    refine Reg.nil ?_
    refine At.ret rfl Try.func38 rfl ?_
    exact ⟨congrArg Value.bool (decide_eq_false fun e => by subst e; exact q10 rfl).symm, rfl⟩
  · first | (simp only [decide_eq_true_eq, decide_eq_false_iff_not, Bool.not_eq_true', Bool.not_eq_false', ne_eq, Decidable.not_not, Bool.not_eq_true, Bool.not_eq_false] at q10) | (dsimp only at q10) | skip
    refine At.region rfl rfl ?_
    refine Reg.pur rfl rfl rfl rfl (Pur.asg rfl) ?_
    refine Reg.nil ?_
    have hll : l.length = m.length := by omega
    refine At.loop (σ := Nat) (fun i => [(5, I i), (0, .slice A l.length cap), (1, .slice A' m.length cap')]) (fun i H' => i ≤ l.length ∧ H' = H ∧ l.take i = m.take i) (fun i => l.length - i) 0 rfl ⟨rfl, rfl, rfl, trivial⟩ ⟨by omega, rfl, rfl⟩ ?_
    rintro i H ⟨hi, rfl, hgo⟩ ih
    refine At.region rfl rfl ?_
    refine Reg.pur rfl rfl rfl rfl (Pur.mv rfl) ?_
    refine Reg.pur rfl rfl rfl rfl (Pur.mv rfl) ?_
    refine Reg.pur rfl rfl rfl rfl (Pur.lenS isl54 rfl) ?_
    refine Reg.pur rfl rfl rfl rfl (Pur.lss rfl rfl) ?_
    refine Reg.nil ?_
    refine At.cond rfl rfl (fun q14 => ?_) (fun q14 => ?_)
    · first | (simp only [decide_eq_true_eq, decide_eq_false_iff_not, Bool.not_eq_true', Bool.not_eq_false', ne_eq, Decidable.not_not, Bool.not_eq_true, Bool.not_eq_false] at q14) | (dsimp only at q14) | skip
      have hlt : i < l.length := by omega
      have hlt' : i < m.length := by omega
      obtain ⟨b, o, c, rfl, hB, hc⟩ := int_at hS hlt
      obtain ⟨b', o', c', rfl, hB', hc'⟩ := int_at hS' hlt'
      refine At.drawE ((Bks.cons hB.blk (Bks.cons hB'.blk Bks.nil))) [] mixed rfl rfl ?_
      refine RegD.tpur (i := 0) rfl rfl rfl rfl (by kernel_rfl) (Pur.mv rfl) ?_
      refine RegD.tpur (i := 1) rfl rfl rfl rfl (by kernel_rfl) (Pur.mv rfl) ?_
      refine RegD.tpur (i := 2) rfl rfl rfl rfl (by kernel_rfl) (Pur.idx _ es54 rfl rfl (by omega) (by omega)) ?_
      refine RegD.take (i := 3) rfl rfl rfl rfl (by kernel_rfl) (Bks.cons hB.blk (Bks.cons hB'.blk Bks.nil)) (fun H hS => Lod.ld sc3 rfl hS.hd hc) ?_
      refine RegD.tpur (i := 4) rfl rfl rfl rfl (by kernel_rfl) (Pur.mv rfl) ?_
      refine RegD.tpur (i := 5) rfl rfl rfl rfl (by kernel_rfl) (Pur.mv rfl) ?_
      refine RegD.tpur (i := 6) rfl rfl rfl rfl (by kernel_rfl) (Pur.idx _ es54 rfl rfl (by omega) (by omega)) ?_
      refine RegD.take (i := 7) rfl rfl rfl rfl (by kernel_rfl) (Bks.cons hB.blk (Bks.cons hB'.blk Bks.nil)) (fun H hS => Lod.ld sc3 rfl hS.tl.hd hc') ?_
      refine RegD.tpur (i := 8) rfl rfl rfl rfl (by kernel_rfl) (Pur.neq rfl rfl) ?_
      refine RegD.done (by kernel_rfl) ?_
      refine At.cond rfl rfl (fun q25 => ?_) (fun q25 => ?_)
      · first | (simp only [decide_eq_true_eq, decide_eq_false_iff_not, Bool.not_eq_true', Bool.not_eq_false', ne_eq, Decidable.not_not, Bool.not_eq_true, Bool.not_eq_false] at q25) | (dsimp only at q25) | skip
        refine At.region rfl rfl ?_
        refine Reg.pur rfl rfl rfl rfl (Pur.asg rfl) ?_
        refine Reg.nil ?_
        refine At.ret rfl Try.func38 rfl ?_
        exact ⟨congrArg Value.bool (decide_eq_false fun e => by subst e; exact q25 rfl).symm, rfl⟩
      · first | (simp only [decide_eq_true_eq, decide_eq_false_iff_not, Bool.not_eq_true', Bool.not_eq_false', ne_eq, Decidable.not_not, Bool.not_eq_true, Bool.not_eq_false] at q25) | (dsimp only at q25) | skip
        refine At.region rfl rfl ?_
        refine Reg.pur rfl rfl rfl rfl (Pur.mv rfl) ?_
        first | refine Reg.pur rfl rfl rfl rfl (Pur.add64 rfl rfl (by omega)) ?_ | refine Reg.pur rfl rfl rfl rfl (Pur.add64 rfl rfl (by assumption)) ?_ | refine Reg.pur rfl rfl rfl rfl (Pur.add rfl rfl) ?_
        refine Reg.pur rfl rfl rfl rfl (Pur.asg rfl) ?_
        refine Reg.nil ?_
        exact At.via (ih (i + 1) _ ⟨by omega, rfl, by rw [List.take_succ_eq_append_getElem hlt, List.take_succ_eq_append_getElem hlt', hgo, q25]⟩ (by omega)) ⟨rfl, rfl, rfl, trivial⟩
    · first | (simp only [decide_eq_true_eq, decide_eq_false_iff_not, Bool.not_eq_true', Bool.not_eq_false', ne_eq, Decidable.not_not, Bool.not_eq_true, Bool.not_eq_false] at q14) | (dsimp only at q14) | skip
      refine At.region rfl rfl ?_
      refine Reg.pur rfl rfl rfl rfl (Pur.asg rfl) ?_
      refine Reg.nil ?_
      refine At.ret rfl Try.func38 rfl ?_
      rw [List.take_of_length_le (by omega), List.take_of_length_le (by omega)] at hgo
      exact ⟨congrArg Value.bool (decide_eq_true hgo).symm, rfl⟩

theorem spoilI_ok {A : Option Addr} {cap B : Nat} (l : List Int) {H : Heap} (hg : Gw H B 1 A cap l.length (l.flatMap e1)) (hm : l.length ≤ 9223372036854775807) :
    Ret Try.prog 72 [.slice A l.length cap] H (fun v H' => But (fun g => l.length ≠ 0 ∧ (g : Int) = ob A) H H') := by
  refine Ret.of_at (N := 17) Try.call72 Try.func72 rfl rfl rfl ?_
  have hE := Ext.refl H
  refine At.region rfl rfl ?_
  refine Reg.pur rfl rfl rfl rfl (Pur.asg rfl) ?_
  refine Reg.nil ?_
  obtain ⟨g, c0, hI⟩ : ∃ g c0, l.length = 0 ∨ (A = some ⟨g, 0, none⟩ ∧ Own H g c0 ∧ c0.take l.length = Is l) := by { obtain ⟨_, _, _, _, h | ⟨g, c, h1, h2, h3, h4⟩⟩ := hg; exact ⟨0, [], .inl h⟩; exact ⟨g, c, .inr ⟨h1, h3, by rw [Nat.mul_one, flat_e1] at h4; exact h4⟩⟩ }
  refine At.loop (σ := Nat × List Int × List Value) (fun (i, M, c) => [(2, I i), (0, .slice A l.length cap)]) (fun (i, M, c) H' => i ≤ l.length ∧ M.length = l.length ∧ But (fun g => l.length ≠ 0 ∧ (g : Int) = ob A) H H' ∧ (l.length = 0 ∨ (A = some ⟨g, 0, none⟩ ∧ Own H' g c ∧ c.take l.length = Is M))) (fun s => l.length - s.1) (0, l, c0) rfl ⟨rfl, rfl, trivial⟩ ⟨by omega, rfl, But.refl _ _, hI⟩ ?_
  clear hI hg
  rintro ⟨i, M, c⟩ H3 ⟨hi, hMl, hbt, hI⟩ ih
  dsimp only at hi hMl hI ⊢

  refine At.region rfl rfl ?_
  refine Reg.pur rfl rfl rfl rfl (Pur.mv rfl) ?_
  refine Reg.pur rfl rfl rfl rfl (Pur.mv rfl) ?_
  refine Reg.pur rfl rfl rfl rfl (Pur.lenS isl54 rfl) ?_
  refine Reg.pur rfl rfl rfl rfl (Pur.lss rfl rfl) ?_
  refine Reg.nil ?_
  refine At.cond rfl rfl (fun q6 => ?_) (fun q6 => ?_)
  · first | (simp only [decide_eq_true_eq, decide_eq_false_iff_not, Bool.not_eq_true', Bool.not_eq_false', ne_eq, Decidable.not_not, Bool.not_eq_true, Bool.not_eq_false] at q6) | (dsimp only at q6) | skip
    obtain ⟨rfl, ho, hc⟩ := hI.resolve_left (by omega)
    have z_ho := ho.lt
    have hrd := rd1 hc (i := i) (by omega)
    have hcl := tk_len hc hMl
    refine At.region rfl rfl ?_
    refine Reg.pur rfl rfl rfl rfl (Pur.mv rfl) ?_
    refine Reg.pur rfl rfl rfl rfl (Pur.mv rfl) ?_
    refine Reg.pur rfl rfl rfl rfl (Pur.mv rfl) ?_
    refine Reg.pur rfl rfl rfl rfl (Pur.mv rfl) ?_
    refine Reg.pur rfl rfl rfl rfl (Pur.idx _ es54 rfl rfl (by omega) (by omega)) ?_
    refine Reg.lod rfl rfl rfl rfl (Lod.ld sc3 rfl ho.blk hrd) ?_
    first | refine Reg.pur rfl rfl rfl rfl (Pur.sub64 rfl rfl (by omega)) ?_ | refine Reg.pur rfl rfl rfl rfl (Pur.sub64 rfl rfl (by assumption)) ?_ | refine Reg.pur rfl rfl rfl rfl (Pur.sub rfl rfl) ?_
    refine Reg.pur rfl rfl rfl rfl (Pur.idx _ es54 rfl rfl (by omega) (by omega)) ?_
    refine Reg.op0 rfl rfl rfl (Does.st sc3 rfl rfl rfl ho (by first | decide | (simp; done) | (simp; omega) | omega)) ?_
    rintro _ H3_8 hu3_8
    have z3_8 := hu3_8.size
    replace ho := hu3_8.own
    refine Reg.nil ?_
    refine At.region rfl rfl ?_
    refine Reg.pur rfl rfl rfl rfl (Pur.mv rfl) ?_
    first | refine Reg.pur rfl rfl rfl rfl (Pur.add64 rfl rfl (by omega)) ?_ | refine Reg.pur rfl rfl rfl rfl (Pur.add64 rfl rfl (by assumption)) ?_ | refine Reg.pur rfl rfl rfl rfl (Pur.add rfl rfl) ?_
    refine Reg.pur rfl rfl rfl rfl (Pur.asg rfl) ?_
    refine Reg.nil ?_
    exact At.via (ih (i + 1, M.set i _, _) _ ⟨by omega, by simp [hMl], hbt.trans (hu3_8.but.mono (fun b hb e => ⟨by omega, by subst e; rw [ob_some]⟩)), .inr ⟨rfl, ho, wr1 hc _⟩⟩ (by simp only; omega)) ⟨rfl, rfl, trivial⟩
  · first | (simp only [decide_eq_true_eq, decide_eq_false_iff_not, Bool.not_eq_true', Bool.not_eq_false', ne_eq, Decidable.not_not, Bool.not_eq_true, Bool.not_eq_false] at q6) | (dsimp only at q6) | skip
    refine At.fall rfl Try.func72 rfl ?_
    exact hbt
end Go.Proofs.Ytlfillhffpiffaa

/-
  Schemes compared, spoilt.
-/
namespace Go.Proofs.Ytlfillhffpiffaa
set_option linter.unusedSimpArgs false
set_option linter.unusedVariables false
set_option maxRecDepth 8000
open Go Go.Fx Go.Proofs
namespace FactsSchJ
theorem ag25 : ag Try.prog 25 = some 1 := by kernel_rfl
theorem fo56_0 : foff Try.prog 56 0 = some 0 := by kernel_rfl
theorem fo56_1 : foff Try.prog 56 1 = some 1 := by kernel_rfl
theorem fo56_2 : foff Try.prog 56 2 = some 2 := by kernel_rfl
theorem sc54 : sc Try.prog 54 = true := by kernel_rfl
end FactsSchJ
open FactsSchJ

/-- a scheme that may be read -/
structure ScR (H : Heap) (A1 : Option Addr) (c1 : Nat) (vs : List Int) (A2 : Option Addr) (c2 : Nat) (rs : List Int) (A3 : Option Addr) (c3 : Nat) (L : List (List Int)) : Prop where
  s1 : SlT H e1 1 (.slice A1 vs.length c1) vs
  s2 : SlT H e1 1 (.slice A2 rs.length c2) rs
  s3 : SlT H Is 9 (.slice A3 L.length c3) L
  nine : Nine L
theorem Sch.r {H : Heap} {B : Nat} {A1 : Option Addr} {c1 : Nat} {vs : List Int} {A2 : Option Addr} {c2 : Nat} {rs : List Int} {A3 : Option Addr} {c3 : Nat} {L : List (List Int)} (h : Sch H B A1 c1 vs A2 c2 rs A3 c3 L) : ScR H A1 c1 vs A2 c2 rs A3 c3 L :=
  ⟨h.g1.sl (wide1 _) (by decide), h.g2.sl (wide1 _) (by decide), h.g3.sl (wide9 h.nine) (by decide), h.nine⟩
theorem ScR.ext {H H' : Heap} {A1 : Option Addr} {c1 : Nat} {vs : List Int} {A2 : Option Addr} {c2 : Nat} {rs : List Int} {A3 : Option Addr} {c3 : Nat} {L : List (List Int)} (h : ScR H A1 c1 vs A2 c2 rs A3 c3 L) (hE : Ext H H') : ScR H' A1 c1 vs A2 c2 rs A3 c3 L :=
  ⟨h.s1.ext hE, h.s2.ext hE, h.s3.ext hE, h.nine⟩
theorem Sch.ext {H H' : Heap} {B : Nat} {A1 : Option Addr} {c1 : Nat} {vs : List Int} {A2 : Option Addr} {c2 : Nat} {rs : List Int} {A3 : Option Addr} {c3 : Nat} {L : List (List Int)} (h : Sch H B A1 c1 vs A2 c2 rs A3 c3 L) (hE : Ext H H') : Sch H' B A1 c1 vs A2 c2 rs A3 c3 L :=
  ⟨h.g1.ext hE, h.g2.ext hE, h.g3.ext hE, h.d12, h.d13, h.d23, h.nine⟩

theorem sameScheme_ok {A1 A2 A3 B1 B2 B3 : Option Addr} {c1 c2 c3 d1 d2 d3 : Nat} {vs rs us qs : List Int} {L M : List (List Int)} {H : Heap} (h : ScR H A1 c1 vs A2 c2 rs A3 c3 L) (k : ScR H B1 d1 us B2 d2 qs B3 d3 M) (hm : vs.length ≤ 9223372036854775807 ∧ rs.length ≤ 9223372036854775807 ∧ L.length ≤ 9223372036854775807) :
    Ret Try.prog 34 [ScV A1 vs.length c1 A2 rs.length c2 A3 L.length c3, ScV B1 us.length d1 B2 qs.length d2 B3 M.length d3] H (fun v H' => v = .bool (decide (vs = us ∧ rs = qs ∧ L = M)) ∧ Ext H H') := by
  refine Ret.of_at (N := 24) Try.call34 Try.func34 rfl rfl rfl ?_
  have hE := Ext.refl H
  refine At.region rfl rfl ?_
  refine Reg.op rfl rfl rfl rfl (Does.box rfl rfl) ?_
  rintro _ H0_0 ⟨rfl, hn0_0⟩
  have z0_0 := hn0_0.size
  replace hE := hE.ext hn0_0.ext
  have o0_0 := hn0_0.own
  refine Reg.op rfl rfl rfl rfl (Does.box rfl rfl) ?_
  rintro _ H0_1 ⟨rfl, hn0_1⟩
  have z0_1 := hn0_1.size
  replace hE := hE.ext hn0_1.ext
  replace o0_0 := o0_0.ext hn0_1.ext
  have o0_1 := hn0_1.own
  refine Reg.pur rfl rfl rfl rfl (Pur.asg rfl) ?_
  refine Reg.nil ?_
  refine At.region rfl rfl ?_
  refine Reg.pur rfl rfl rfl rfl (Pur.fld _ fo56_0 rfl) ?_
  refine Reg.lod rfl rfl rfl rfl (Lod.ld sc54 rfl o0_0.blk (by first | rfl | (simp; done))) ?_
  refine Reg.pur rfl rfl rfl rfl (Pur.fld _ fo56_0 rfl) ?_
  refine Reg.lod rfl rfl rfl rfl (Lod.ld sc54 rfl o0_1.blk (by first | rfl | (simp; done))) ?_
  refine Reg.op rfl rfl rfl rfl (Does.call rfl (sameI_ok vs us (h.s1.ext hE) (k.s1.ext hE) hm.1)) ?_
  rintro _ H0_1 ⟨rfl, rfl⟩
  refine Reg.pur rfl rfl rfl rfl (Pur.mv rfl) ?_
  refine Reg.case 10 rfl (fun q10 => ?_) (fun q10 => ?_)
  · first | (simp only [decide_eq_true_eq, decide_eq_false_iff_not, Bool.not_eq_true', Bool.not_eq_false', ne_eq, Decidable.not_not, Bool.not_eq_true, Bool.not_eq_false] at q10) | (dsimp only at q10) | skip
    refine Reg.gpur rfl rfl rfl rfl rfl rfl (Pur.fld _ fo56_1 rfl) ?_
    refine Reg.glod rfl rfl rfl rfl rfl rfl (Lod.ld sc54 rfl o0_0.blk (by first | rfl | (simp; done))) ?_
    refine Reg.gpur rfl rfl rfl rfl rfl rfl (Pur.fld _ fo56_1 rfl) ?_
    refine Reg.glod rfl rfl rfl rfl rfl rfl (Lod.ld sc54 rfl o0_1.blk (by first | rfl | (simp; done))) ?_
    refine Reg.gop rfl rfl rfl rfl rfl rfl (Does.call rfl (sameI_ok rs qs (h.s2.ext hE) (k.s2.ext hE) hm.2.1)) ?_
    rintro _ H0_1 ⟨rfl, rfl⟩
    refine Reg.pur rfl rfl rfl rfl (Pur.pickT rfl rfl) ?_
    refine Reg.pur rfl rfl rfl rfl (Pur.mv rfl) ?_
    refine Reg.case 17 rfl (fun q17 => ?_) (fun q17 => ?_)
    · first | (simp only [decide_eq_true_eq, decide_eq_false_iff_not, Bool.not_eq_true', Bool.not_eq_false', ne_eq, Decidable.not_not, Bool.not_eq_true, Bool.not_eq_false] at q17) | (dsimp only at q17) | skip
      refine Reg.gpur rfl rfl rfl rfl rfl rfl (Pur.fld _ fo56_2 rfl) ?_
      refine Reg.glod rfl rfl rfl rfl rfl rfl (Lod.ldn ag25 rfl o0_0.blk (by first | exact whole rfl | rfl | (simp only [List.drop_succ_cons, List.drop_zero, List.take_succ_cons, List.take_zero]; rfl)) (by first | rfl | (simp [*]; done))) ?_
      refine Reg.gpur rfl rfl rfl rfl rfl rfl (Pur.fld _ fo56_2 rfl) ?_
      refine Reg.glod rfl rfl rfl rfl rfl rfl (Lod.ldn ag25 rfl o0_1.blk (by first | exact whole rfl | rfl | (simp only [List.drop_succ_cons, List.drop_zero, List.take_succ_cons, List.take_zero]; rfl)) (by first | rfl | (simp [*]; done))) ?_
      refine Reg.gop rfl rfl rfl rfl rfl rfl (Does.call rfl (sameType_ok h.nine k.nine (h.s3.ext hE) (k.s3.ext hE) hm.2.2)) ?_
      rintro _ H1_17 ⟨rfl, hE1_17⟩
      have z1_17 := hE1_17.lt
      replace hE := hE.ext hE1_17
      replace o0_0 := o0_0.ext hE1_17
      replace o0_1 := o0_1.ext hE1_17
      refine Reg.pur rfl rfl rfl rfl (Pur.pickT rfl rfl) ?_
      refine Reg.pur rfl rfl rfl rfl (Pur.asg rfl) ?_
      refine Reg.nil ?_
      refine At.ret rfl Try.func34 rfl ?_
      refine ⟨congrArg Value.bool ?_, hE⟩
      simp [q10, q17]
    · first | (simp only [decide_eq_true_eq, decide_eq_false_iff_not, Bool.not_eq_true', Bool.not_eq_false', ne_eq, Decidable.not_not, Bool.not_eq_true, Bool.not_eq_false] at q17) | (dsimp only at q17) | skip
      refine Reg.skip rfl rfl rfl rfl rfl rfl rfl ?_
      refine Reg.skip rfl rfl rfl rfl rfl rfl rfl ?_
      refine Reg.skip rfl rfl rfl rfl rfl rfl rfl ?_
      refine Reg.skip rfl rfl rfl rfl rfl rfl rfl ?_
      refine Reg.skip rfl rfl rfl rfl rfl rfl rfl ?_
      refine Reg.pur rfl rfl rfl rfl (Pur.pickF rfl rfl) ?_
      refine Reg.pur rfl rfl rfl rfl (Pur.asg rfl) ?_
      refine Reg.nil ?_
      refine At.ret rfl Try.func34 rfl ?_
      refine ⟨congrArg Value.bool ?_, hE⟩
      simp [q10, q17]
  · first | (simp only [decide_eq_true_eq, decide_eq_false_iff_not, Bool.not_eq_true', Bool.not_eq_false', ne_eq, Decidable.not_not, Bool.not_eq_true, Bool.not_eq_false] at q10) | (dsimp only at q10) | skip
    refine Reg.skip rfl rfl rfl rfl rfl rfl rfl ?_
    refine Reg.skip rfl rfl rfl rfl rfl rfl rfl ?_
    refine Reg.skip rfl rfl rfl rfl rfl rfl rfl ?_
    refine Reg.skip rfl rfl rfl rfl rfl rfl rfl ?_
    refine Reg.skip rfl rfl rfl rfl rfl rfl rfl ?_
    refine Reg.pur rfl rfl rfl rfl (Pur.pickF rfl rfl) ?_
    refine Reg.pur rfl rfl rfl rfl (Pur.mv rfl) ?_
    refine Reg.skip rfl rfl rfl rfl rfl rfl rfl ?_
    refine Reg.skip rfl rfl rfl rfl rfl rfl rfl ?_
    refine Reg.skip rfl rfl rfl rfl rfl rfl rfl ?_
    refine Reg.skip rfl rfl rfl rfl rfl rfl rfl ?_
    refine Reg.skip rfl rfl rfl rfl rfl rfl rfl ?_
    refine Reg.pur rfl rfl rfl rfl (Pur.pickF rfl rfl) ?_
    refine Reg.pur rfl rfl rfl rfl (Pur.asg rfl) ?_
    refine Reg.nil ?_
    refine At.ret rfl Try.func34 rfl ?_
    refine ⟨congrArg Value.bool ?_, hE⟩
    simp [q10]

theorem spoilG_ok {A : Option Addr} {cap B : Nat} {L : List (List Int)} (hL : Nine L) {H : Heap} (hm : L.length ≤ 9223372036854775807) (hg : Gw H B 9 A cap L.length (L.flatMap Is)) :
    Ret Try.prog 26 [Ty A L.length cap] H (fun v H' => But (fun g => L.length ≠ 0 ∧ (g : Int) = ob A) H H') := by
  by_cases h0 : L.length = 0
  · refine (spoilT_ok (g := H.size) (c0 := []) hL hm (.inl h0)).mono ?_
    rintro v H' (⟨_, h⟩ | h)
    · exact h.but
    · exact h.mono (fun b hb e => by omega)
  · obtain ⟨_, _, _, _, h4⟩ := hg
    obtain ⟨g, c, rfl, _, h2, h3⟩ := h4.resolve_left h0
    refine (spoilT_ok (g := g) hL hm (.inr ⟨rfl, h2, h3⟩)).mono ?_
    rintro v H' (⟨_, h⟩ | h)
    · exact h.but
    · exact h.mono (fun b hb e => ⟨h0, by subst e; rfl⟩)
theorem spoilScheme_ok {A1 A2 A3 : Option Addr} {c1 c2 c3 B : Nat} {vs rs : List Int} {L : List (List Int)} {H : Heap} (h : Sch H B A1 c1 vs A2 c2 rs A3 c3 L) (hm : vs.length ≤ 9223372036854775807 ∧ rs.length ≤ 9223372036854775807 ∧ L.length ≤ 9223372036854775807) :
    Ret Try.prog 35 [ScV A1 vs.length c1 A2 rs.length c2 A3 L.length c3] H (fun v H' => But (fun g => (vs.length ≠ 0 ∧ (g : Int) = ob A1) ∨ (rs.length ≠ 0 ∧ (g : Int) = ob A2) ∨ (L.length ≠ 0 ∧ (g : Int) = ob A3)) H H') := by
  obtain ⟨g1, g2, g3, d12, d13, d23, hN⟩ := h
  have z1 := g1.lt
  have z2 := g2.lt
  have z3 := g3.lt
  have hbt := But.refl (fun g => (vs.length ≠ 0 ∧ (g : Int) = ob A1) ∨ (rs.length ≠ 0 ∧ (g : Int) = ob A2) ∨ (L.length ≠ 0 ∧ (g : Int) = ob A3)) H
  refine Ret.of_at (N := 11) Try.call35 Try.func35 rfl rfl rfl ?_
  have hE := Ext.refl H

  refine At.region rfl rfl ?_
  refine Reg.op rfl rfl rfl rfl (Does.box rfl rfl) ?_
  rintro _ H0_0 ⟨rfl, hn0_0⟩
  have z0_0 := hn0_0.size
  have o0_0 := hn0_0.own
  refine Reg.nil ?_
  replace hbt := hbt.trans hn0_0.ext.but
  replace g1 := g1.ext hn0_0.ext
  replace g2 := g2.ext hn0_0.ext
  replace g3 := g3.ext hn0_0.ext
  refine At.region rfl rfl ?_
  refine Reg.pur rfl rfl rfl rfl (Pur.fld _ fo56_0 rfl) ?_
  refine Reg.lod rfl rfl rfl rfl (Lod.ld sc54 rfl o0_0.blk (by first | rfl | (simp; done))) ?_
  refine Reg.op rfl rfl rfl rfl (Does.call rfl (spoilI_ok vs g1 hm.1)) ?_
  rintro _ H1_2 hB1_2
  have ho1 : Own H1_2 H.size _ := o0_0.via hB1_2 (by omega)
  replace g2 := g2.via hB1_2 (fun h0 g hg h => by omega)
  replace g3 := g3.via hB1_2 (fun h0 g hg h => by omega)
  replace hbt := hbt.trans (hB1_2.mono (fun b hb h => Or.inl h))
  refine Reg.nil ?_
  refine At.region rfl rfl ?_
  refine Reg.pur rfl rfl rfl rfl (Pur.fld _ fo56_1 rfl) ?_
  refine Reg.lod rfl rfl rfl rfl (Lod.ld sc54 rfl ho1.blk rfl) ?_
  refine Reg.op rfl rfl rfl rfl (Does.call rfl (spoilI_ok rs g2 hm.2.1)) ?_
  rintro _ H2_2 hB2_2
  have ho2 : Own H2_2 H.size _ := ho1.via hB2_2 (by omega)
  replace g3 := g3.via hB2_2 (fun h0 g hg h => by omega)
  replace hbt := hbt.trans (hB2_2.mono (fun b hb h => Or.inr (Or.inl h)))
  refine Reg.nil ?_
  refine At.region rfl rfl ?_
  refine Reg.pur rfl rfl rfl rfl (Pur.fld _ fo56_2 rfl) ?_
  refine Reg.lod rfl rfl rfl rfl (Lod.ldn ag25 rfl ho2.blk rfl rfl) ?_
  refine Reg.op rfl rfl rfl rfl (Does.call rfl (spoilG_ok hN hm.2.2 g3)) ?_
  rintro _ H3_2 hB3_2
  replace hbt := hbt.trans (hB3_2.mono (fun b hb h => Or.inr (Or.inr h)))
  refine Reg.nil ?_
  refine At.fall rfl Try.func35 rfl ?_
  exact hbt
end Go.Proofs.Ytlfillhffpiffaa

/-
  errors.Is, of numbers.
-/
namespace Go.Proofs.Ytlfillhffpiffaa
set_option linter.unusedSimpArgs false
set_option linter.unusedVariables false
set_option maxRecDepth 8000
open Go Go.Fx Go.Proofs
namespace FactsSchK

end FactsSchK
open FactsSchK

abbrev rtV0 (b : Nat) : Value := .agg #[.pointer (some ⟨b, 31, none⟩)]
theorem ty_of0 (n : Int) (w : World) : (Extern.ReflectliteType.typeOf #[.iface 31 (I n)]).run Try.prog w = .ok (.iface 186 (rtV0 Try.prog.globals.size)) w := by kernel_rfl
theorem ty_comp0 (w : World) : ((Extern.ReflectliteType.method fun t => do Extern.Rtype.noPackHeld "Comparable" t; pure (.bool (← typeInfo t).comparable)) #[(rtV0 Try.prog.globals.size)]).run Try.prog w = .ok (.bool true) w := by kernel_rfl
theorem ty_meth (w : World) : (Go.method (Try.prog.types.size + Made.depth) 186 (rtV0 Try.prog.globals.size) "Comparable").run Try.prog w = .ok (162, (rtV0 Try.prog.globals.size)) w := by kernel_rfl
theorem ty_of (n : Int) (w : World) : (callFunc 96 #[.iface 31 (I n)]).run Try.prog w = .ok (.value (.iface 186 (rtV0 Try.prog.globals.size))) w := by
  have h := @run_callFunc_extern Try.prog 96 _ Extern.ReflectliteType.typeOf Try.func96 (by kernel_rfl) (by kernel_rfl) (by kernel_rfl) (by kernel_rfl) #[.iface 31 (I n)] w
  rw [h, ty_of0]; rfl
theorem ty_comp (w : World) : (callMethod (.iface 186 (rtV0 Try.prog.globals.size)) "Comparable" #[]).run Try.prog w = .ok (.value (.bool true)) w := by
  have h := @run_callFunc_extern Try.prog 162 _ (Extern.ReflectliteType.method fun t => do Extern.Rtype.noPackHeld "Comparable" t; pure (.bool (← typeInfo t).comparable)) Try.func162 (by kernel_rfl) (by kernel_rfl) (by kernel_rfl) (by kernel_rfl) #[(rtV0 Try.prog.globals.size)] w
  have h2 := ty_comp0 w
  have hp : ∀ w : World, (program).run Try.prog w = .ok Try.prog w := fun w => rfl
  simp only [callMethod, Sem.run_bind, hp, Result.andThen_ok, ty_meth]
  rw [show (#[(rtV0 Try.prog.globals.size)] ++ #[] : Array Value) = #[(rtV0 Try.prog.globals.size)] from rfl, h]
  rw [h2]; rfl
theorem isIf_err : isIf Try.prog 107 = true := by kernel_rfl
theorem intC_err : intC Try.prog 31 = true := by kernel_rfl
abbrev ev31 (o : Option Int) : Value := ifv 31 .i64 o
theorem asIs (n : Int) : ∀ {dst ty pos aft gd} {e : Env} {x : Operand} {xT : TypeId} (_ : ev e x = some (ev31 (some n))), Pur Try.prog ⟨dst, .typeAssert x xT 188 true, ty, pos, aft, gd⟩ e (.tuple #[.nilIface, .bool false]) :=
  fun hx => Pur.tas Try.underlying188 (by kernel_rfl) (by kernel_rfl) hx
theorem asUn (n : Int) : ∀ {dst ty pos aft gd} {e : Env} {x : Operand} {xT : TypeId} (_ : ev e x = some (ev31 (some n))), Pur Try.prog ⟨dst, .typeAssert x xT 191 true, ty, pos, aft, gd⟩ e (.tuple #[.nilIface, .bool false]) :=
  fun hx => Pur.tas Try.underlying191 (by kernel_rfl) (by kernel_rfl) hx
theorem asUs (n : Int) : ∀ {dst ty pos aft gd} {e : Env} {x : Operand} {xT : TypeId} (_ : ev e x = some (ev31 (some n))), Pur Try.prog ⟨dst, .typeAssert x xT 193 true, ty, pos, aft, gd⟩ e (.tuple #[.nilIface, .bool false]) :=
  fun hx => Pur.tas Try.underlying193 (by kernel_rfl) (by kernel_rfl) hx

theorem is_ok (a n : Int) (H : Heap) : Ret Try.prog 97 [ev31 (some a), ev31 (some n), .bool true] H (fun v H' => v = .bool (decide (a = n)) ∧ H' = H) := by
  refine Ret.of_at (N := 54) Try.call97 Try.func97 rfl rfl rfl ?_
  have hE := Ext.refl H
  refine At.region rfl rfl ?_
  refine Reg.pur rfl rfl rfl rfl (Pur.asg rfl) ?_
  refine Reg.nil ?_
  refine At.loop (σ := Unit) (fun _ => [(0, ev31 (some a)), (1, ev31 (some n)), (2, .bool true)]) (fun _ H' => H' = H) (fun _ => 0) () rfl ⟨rfl, rfl, rfl, trivial⟩ rfl ?_
  rintro _ H rfl ih
  refine At.region rfl rfl ?_
  refine Reg.pur rfl rfl rfl rfl (Pur.mv rfl) ?_
  refine Reg.pur rfl rfl rfl rfl (Pur.mv rfl) ?_
  refine Reg.known (b' := true) 15 rfl rfl ?_
  refine Reg.gpur rfl rfl rfl rfl rfl rfl (Pur.mv rfl) ?_
  refine Reg.gpur rfl rfl rfl rfl rfl rfl (Pur.mv rfl) ?_
  refine Reg.gpur rfl rfl rfl rfl rfl rfl (Pur.eqI (some a) (some n) isIf_err intC_err rfl rfl rfl) ?_
  refine Reg.pur rfl rfl rfl rfl (Pur.pickT rfl rfl) ?_
  refine Reg.nil ?_
  refine At.cond rfl rfl (fun q19 => ?_) (fun q19 => ?_)
  · first | (simp only [decide_eq_true_eq, decide_eq_false_iff_not, Bool.not_eq_true', Bool.not_eq_false', ne_eq, Decidable.not_not, Bool.not_eq_true, Bool.not_eq_false] at q19) | (dsimp only at q19) | skip
    refine At.region rfl rfl ?_
    refine Reg.pur rfl rfl rfl rfl (Pur.asg rfl) ?_
    refine Reg.nil ?_
    refine At.ret rfl Try.func97 rfl ?_
    exact ⟨congrArg Value.bool (by simpa using q19), rfl⟩
  · first | (simp only [decide_eq_true_eq, decide_eq_false_iff_not, Bool.not_eq_true', Bool.not_eq_false', ne_eq, Decidable.not_not, Bool.not_eq_true, Bool.not_eq_false] at q19) | (dsimp only at q19) | skip
    refine At.region rfl rfl ?_
    refine Reg.pur rfl rfl rfl rfl (Pur.mv rfl) ?_
    refine Reg.pur rfl rfl rfl rfl (asIs a rfl) ?_
    refine Reg.pur rfl rfl rfl rfl (Pur.mv rfl) ?_
    refine Reg.pur rfl rfl rfl rfl (Pur.ext rfl rfl) ?_
    refine Reg.pur rfl rfl rfl rfl (Pur.ext rfl rfl) ?_
    refine Reg.pur rfl rfl rfl rfl (Pur.asg rfl) ?_
    refine Reg.pur rfl rfl rfl rfl (Pur.asg rfl) ?_
    refine Reg.nil ?_
    refine At.region rfl rfl ?_
    refine Reg.pur rfl rfl rfl rfl (Pur.mv rfl) ?_
    refine Reg.pur rfl rfl rfl rfl (Pur.mv rfl) ?_
    refine Reg.known (b' := false) 26 rfl rfl ?_
    refine Reg.skip rfl rfl rfl rfl rfl rfl rfl ?_
    refine Reg.skip rfl rfl rfl rfl rfl rfl rfl ?_
    refine Reg.skip rfl rfl rfl rfl rfl rfl rfl ?_
    refine Reg.pur rfl rfl rfl rfl (Pur.pickF rfl rfl) ?_
    refine Reg.nil ?_
    refine At.condF rfl rfl rfl ?_
    refine At.region rfl rfl ?_
    refine Reg.pur rfl rfl rfl rfl (Pur.mv rfl) ?_
    refine Reg.nil ?_
    refine At.region rfl rfl ?_
    refine Reg.pur rfl rfl rfl rfl (asUn a rfl) ?_
    refine Reg.pur rfl rfl rfl rfl (Pur.ext rfl rfl) ?_
    refine Reg.pur rfl rfl rfl rfl (Pur.ext rfl rfl) ?_
    refine Reg.nil ?_
    refine At.condF rfl rfl rfl ?_
    refine At.region rfl rfl ?_
    refine Reg.pur rfl rfl rfl rfl (asUs a rfl) ?_
    refine Reg.pur rfl rfl rfl rfl (Pur.ext rfl rfl) ?_
    refine Reg.pur rfl rfl rfl rfl (Pur.ext rfl rfl) ?_
    refine Reg.nil ?_
    refine At.condF rfl rfl rfl ?_
    refine At.region rfl rfl ?_
    refine Reg.pur rfl rfl rfl rfl (Pur.asg rfl) ?_
    refine Reg.nil ?_
    refine At.region rfl rfl ?_
    refine Reg.pur rfl rfl rfl rfl (Pur.asg rfl) ?_
    refine Reg.nil ?_
    refine At.ret rfl Try.func97 rfl ?_
    exact ⟨congrArg Value.bool (by symm; simpa using q19), rfl⟩
theorem errorsIs_ok (o : Option Int) (n : Int) (H : Heap) : Ret Try.prog 70 [ev31 o, ev31 (some n)] H (fun v H' => v = .bool (decide (o = some n)) ∧ H' = H) := by
  cases o with
  | none =>
    refine Ret.of_at (N := 22) Try.call70 Try.func70 rfl rfl rfl ?_
    have hE := Ext.refl H
    refine At.region rfl rfl ?_
    refine Reg.pur rfl rfl rfl rfl (Pur.asg rfl) ?_
    refine Reg.nil ?_
    refine At.region rfl rfl ?_
    refine Reg.pur rfl rfl rfl rfl (Pur.mv rfl) ?_
    refine Reg.pur rfl rfl rfl rfl (Pur.eqI none none isIf_err intC_err rfl rfl rfl) ?_
    refine Reg.pur rfl rfl rfl rfl (Pur.mv rfl) ?_
    refine Reg.known (b' := true) 8 rfl (by decide) ?_
    refine Reg.skip rfl rfl rfl rfl rfl rfl rfl ?_
    refine Reg.skip rfl rfl rfl rfl rfl rfl rfl ?_
    refine Reg.pur rfl rfl rfl rfl (Pur.pickT rfl rfl) ?_
    refine Reg.nil ?_
    refine At.condT rfl rfl rfl ?_
    refine At.region rfl rfl ?_
    refine Reg.pur rfl rfl rfl rfl (Pur.mv rfl) ?_
    refine Reg.pur rfl rfl rfl rfl (Pur.mv rfl) ?_
    refine Reg.pur rfl rfl rfl rfl (Pur.eqI none (some n) isIf_err intC_err rfl rfl rfl) ?_
    refine Reg.pur rfl rfl rfl rfl (Pur.asg rfl) ?_
    refine Reg.nil ?_
    refine At.ret rfl Try.func70 rfl ?_
    exact ⟨congrArg Value.bool (by simp), rfl⟩
  | some a =>
    refine Ret.of_at (N := 22) Try.call70 Try.func70 rfl rfl rfl ?_
    have hE := Ext.refl H
    refine At.region rfl rfl ?_
    refine Reg.pur rfl rfl rfl rfl (Pur.asg rfl) ?_
    refine Reg.nil ?_
    refine At.region rfl rfl ?_
    refine Reg.pur rfl rfl rfl rfl (Pur.mv rfl) ?_
    refine Reg.pur rfl rfl rfl rfl (Pur.eqI (some a) none isIf_err intC_err rfl rfl rfl) ?_
    refine Reg.pur rfl rfl rfl rfl (Pur.mv rfl) ?_
    refine Reg.known (b' := false) 8 rfl (by simp) ?_
    refine Reg.gpur rfl rfl rfl rfl rfl rfl (Pur.mv rfl) ?_
    refine Reg.gpur rfl rfl rfl rfl rfl rfl (Pur.eqI (some n) none isIf_err intC_err rfl rfl rfl) ?_
    refine Reg.pur rfl rfl rfl rfl (Pur.pickF rfl rfl) ?_
    refine Reg.nil ?_
    refine At.condF rfl rfl (by simp) ?_
    refine At.region rfl rfl ?_
    refine Reg.pur rfl rfl rfl rfl (Pur.mv rfl) ?_
    refine Reg.pur rfl rfl rfl rfl (Pur.callX rfl (ty_of n)) ?_
    refine Reg.pur rfl rfl rfl rfl (Pur.invX rfl ty_comp) ?_
    refine Reg.pur rfl rfl rfl rfl (Pur.asg rfl) ?_
    refine Reg.nil ?_
    refine At.region rfl rfl ?_
    refine Reg.pur rfl rfl rfl rfl (Pur.mv rfl) ?_
    refine Reg.pur rfl rfl rfl rfl (Pur.mv rfl) ?_
    refine Reg.pur rfl rfl rfl rfl (Pur.mv rfl) ?_
    refine Reg.op rfl rfl rfl rfl (Does.call rfl (is_ok a n _)) ?_
    rintro _ H ⟨rfl, rfl⟩
    refine Reg.pur rfl rfl rfl rfl (Pur.asg rfl) ?_
    refine Reg.nil ?_
    refine At.ret rfl Try.func70 rfl ?_
    exact ⟨congrArg Value.bool (by simp), rfl⟩
end Go.Proofs.Ytlfillhffpiffaa

/-
  What a scheme takes: its binds.
-/
namespace Go.Proofs.Ytlfillhffpiffaa
set_option linter.unusedSimpArgs false
set_option linter.unusedVariables false
set_option maxRecDepth 8000
open Go Go.Fx Go.Proofs
namespace FactsSchL

end FactsSchL
open FactsSchL

/-! ### at most 4096 numbers are variables, each once -/
theorem filter_len {a : Int} : ∀ {l : List Int}, l.Pairwise (· ≠ ·) → l.length ≤ (l.filter (fun x => decide (x ≠ a))).length + 1
  | [], _ => by simp
  | x :: l, h => by
    rw [List.pairwise_cons] at h
    by_cases hx : x = a
    · subst hx
      have hf : l.filter (fun y => decide (y ≠ x)) = l := by
        rw [List.filter_eq_self]
        intro y hy
        simpa using fun e : y = x => h.1 y hy e.symm
      rw [List.filter_cons_of_neg (by simp), hf]; simp
    · rw [List.filter_cons_of_pos (by simpa using hx)]
      have := filter_len (a := a) h.2
      simp only [List.length_cons]; omega
theorem pigeon : ∀ (N : Nat) (l : List Int), l.Pairwise (· ≠ ·) → (∀ x ∈ l, 0 ≤ x ∧ x < (N : Int)) → l.length ≤ N
  | 0, l, _, h => by
    cases l with
    | nil => simp
    | cons x l => have := h x List.mem_cons_self; omega
  | N + 1, l, hp, h => by
    have h1 := filter_len (a := (N : Int)) hp
    have h2 := pigeon N (l.filter (fun x => decide (x ≠ (N : Int)))) (hp.filter _) (fun x hx => by
      rw [List.mem_filter] at hx
      have := h x hx.1
      have h3 : x ≠ (N : Int) := by simpa using hx.2
      omega)
    omega
theorem vmS_len {l : List Int} (h : vmS l = true) : l.length ≤ 4096 := by
  unfold vmS at h
  rw [List.all_eq_true] at h
  have key : ∀ i (hi : i < l.length), (0 ≤ l[i] ∧ l[i] < 4096) ∧ inL (l.take i) l[i] = false := by
    intro i hi
    have := h i (List.mem_range.2 hi)
    unfold vm1 at this
    rw [getD_at hi] at this
    simpa using this
  refine pigeon 4096 l ?_ ?_
  · rw [List.pairwise_iff_getElem]
    intro i j hi hj hij e
    have := (key j hj).2
    rw [← Bool.not_eq_true, inL_mem] at this
    refine this ?_
    rw [List.mem_take_iff_getElem]
    exact ⟨i, by omega, e⟩
  · intro x hx
    obtain ⟨i, hi, rfl⟩ := List.mem_iff_getElem.1 hx
    exact (key i hi).1

/-- a type as a slice's element -/
structure Td where
  A : Option Addr
  cap : Nat
  nodes : List (List Int)
abbrev encT (t : Td) : List Value := [.slice t.A t.nodes.length t.cap]
structure Td.Ok (H : Heap) (t : Td) : Prop where
  sl : SlT H Is 9 (.slice t.A t.nodes.length t.cap) t.nodes
  nine : Nine t.nodes
  fits : t.nodes.length * 72 ≤ 140737488351232
structure Tds (H : Heap) (v : Value) (L : List Td) : Prop where
  sl : SlT H encT 1 v L
  ok : ∀ t ∈ L, t.Ok H
  fits : L.length ≤ 9223372036854775807
theorem Tds.ext {H H' : Heap} {v : Value} {L : List Td} (h : Tds H v L) (he : Ext H H') : Tds H' v L := ⟨h.sl.ext he, fun t ht => ⟨(h.ok t ht).sl.ext he, (h.ok t ht).nine, (h.ok t ht).fits⟩, h.fits⟩
theorem wideT (L : List Td) : Wide encT 1 L := fun _ _ => rfl
abbrev Five (L : List (List Int)) : Prop := ∀ x ∈ L, x.length = 5
theorem wide5 {L : List (List Int)} (h : Five L) : Wide Is 5 L := fun x hx => by simp [Is, h x hx]

def bT (v : Int) (t : Td) : Bd := ⟨v, false, t.A, t.cap, t.nodes, noRow⟩
def bR (v : Int) (r : List Int) : Bd := ⟨v, true, none, 0, [], r⟩
def takB (vs : List Int) (ts : List Td) (us : List Int) (rs : List (List Int)) : List Bd := List.zipWith bT vs ts ++ List.zipWith bR us rs
def takO (vs : List Int) (ts : List Td) (us : List Int) (rs : List (List Int)) : Bool := vmS vs && vmS us && decide (ts.length = vs.length) && decide (rs.length = us.length)
theorem zip_take {α β γ : Type} {f : α → β → γ} {l : List α} {m : List β} {i : Nat} (h : i < l.length) (h' : i < m.length) : (List.zipWith f l m).take (i + 1) = (List.zipWith f l m).take i ++ [f l[i] m[i]] := by
  rw [List.take_succ_eq_append_getElem (by simp; omega), List.getElem_zipWith]
end Go.Proofs.Ytlfillhffpiffaa

/-
  scheme.binds.
-/
namespace Go.Proofs.Ytlfillhffpiffaa
set_option linter.unusedSimpArgs false
set_option linter.unusedVariables false
set_option maxRecDepth 8000
set_option maxHeartbeats 1000000
open Go Go.Fx Go.Proofs
namespace FactsSchM
theorem ag25 : ag Try.prog 25 = some 1 := by kernel_rfl
theorem ag28 : ag Try.prog 28 = some 5 := by kernel_rfl
theorem apt22 : appT Try.prog 22 = some (49, 8, 80) := by kernel_rfl
theorem es54 : esz Try.prog 54 = some 1 := by kernel_rfl
theorem es57 : esz Try.prog 57 = some 1 := by kernel_rfl
theorem es58 : esz Try.prog 58 = some 5 := by kernel_rfl
theorem fo56_0 : foff Try.prog 56 0 = some 0 := by kernel_rfl
theorem fo56_1 : foff Try.prog 56 1 = some 1 := by kernel_rfl
theorem isl54 : isSl Try.prog 54 = true := by kernel_rfl
theorem isl57 : isSl Try.prog 57 = true := by kernel_rfl
theorem isl58 : isSl Try.prog 58 = true := by kernel_rfl
theorem mixed : Try.prog.follows .mixedOrders = true := by kernel_rfl
theorem pl49 : places Try.prog 49 = some [(0, 1), (1, 1), (2, 1), (3, 5)] := by kernel_rfl
theorem sc3 : sc Try.prog 3 = true := by kernel_rfl
theorem sc54 : sc Try.prog 54 = true := by kernel_rfl
theorem slA22 : slA Try.prog 22 = some (49, 8) := by kernel_rfl
theorem zc25 : zc Try.prog 25 = some [.slice none 0 0] := by kernel_rfl
theorem zc28 : zc Try.prog 28 = some [.int .i64 0, .int .i64 0, .int .i64 0, .int .i64 0, .int .i64 0] := by kernel_rfl
theorem zc49 : zc Try.prog 49 = some [.int .i64 0, .bool false, .slice none 0 0, .int .i64 0, .int .i64 0, .int .i64 0, .int .i64 0, .int .i64 0] := by kernel_rfl
end FactsSchM
open FactsSchM

theorem bds_nil' (H : Heap) : Bds H (.slice none ([] : List Bd).length 0) [] := ⟨sl_nil H, (fun b hb => by cases hb), by simp⟩
theorem ones_fl (b : Bd) : ones ([b].flatMap encB) = true := by simpa using ones_encB b
theorem takB_ok {H : Heap} {v : Value} {vs us : List Int} {ts : List Td} {rs : List (List Int)} (hT : Tds H v ts) (h5 : Five rs) : ∀ b ∈ takB vs ts us rs, b.Ok H := by
  intro b hb
  rcases List.mem_append.1 hb with hb | hb
  · obtain ⟨i, hi, rfl⟩ := List.mem_iff_getElem.1 hb
    simp only [List.length_zipWith] at hi
    rw [List.getElem_zipWith]
    have := hT.ok _ (List.getElem_mem (show i < ts.length by omega))
    exact ⟨this.sl, this.nine, rfl, this.fits⟩
  · obtain ⟨i, hi, rfl⟩ := List.mem_iff_getElem.1 hb
    simp only [List.length_zipWith] at hi
    rw [List.getElem_zipWith]
    exact ok_nil (h5 _ (List.getElem_mem (show i < rs.length by omega)))
/-- binds and an error -/
def BndP (H : Heap) (vs : List Int) (ts : List Td) (us : List Int) (rs : List (List Int)) (v : Value) (H' : Heap) : Prop :=
  Ext H H' ∧ ∃ A' cap' out, v = .tuple #[.slice A' out.length cap', ev31 (if takO vs ts us rs then none else some 1200)] ∧ (takO vs ts us rs = true → out = takB vs ts us rs) ∧ Bds H' (.slice A' out.length cap') out

theorem binds_ok {A1 A2 Aq Ar : Option Addr} {c1 c2 ct cr sb : Nat} {c3 : Value} {vs us : List Int} {ts : List Td} {rs : List (List Int)} {H : Heap} (hb : Blk H sb [.slice A1 vs.length c1, .slice A2 us.length c2, c3]) (h1 : SlT H e1 1 (.slice A1 vs.length c1) vs) (h2 : SlT H e1 1 (.slice A2 us.length c2) us)
    (hm : vs.length ≤ 9223372036854775807 ∧ us.length ≤ 9223372036854775807) (hT : Tds H (.slice Aq ts.length ct) ts) (hR : SlT H Is 5 (.slice Ar rs.length cr) rs) (h5 : Five rs) (hrm : rs.length ≤ 9223372036854775807) :
    Ret Try.prog 69 [ptr sb 0, .slice Aq ts.length ct, .slice Ar rs.length cr] H (BndP H vs ts us rs) := by
  have htm := hT.fits
  refine Ret.of_at (N := 89) Try.call69 Try.func69 rfl rfl rfl ?_
  have hE := Ext.refl H
  have z_hb := hb.lt
  refine At.region rfl rfl ?_
  refine Reg.pur rfl rfl rfl rfl (Pur.asg rfl) ?_
  refine Reg.pur rfl rfl rfl rfl (Pur.asg rfl) ?_
  refine Reg.nil ?_
  refine At.region rfl rfl ?_
  refine Reg.pur rfl rfl rfl rfl (Pur.mv rfl) ?_
  refine Reg.pur rfl rfl rfl rfl (Pur.nilc rfl) ?_
  refine Reg.pur rfl rfl rfl rfl (Pur.fld _ fo56_0 rfl) ?_
  refine Reg.lod rfl rfl rfl rfl (Lod.ld sc54 rfl hb rfl) ?_
  refine Reg.op rfl rfl rfl rfl (Does.call rfl (varsMay_ok vs (h1.ext hE) hm.1)) ?_
  rintro _ H ⟨rfl, rfl⟩
  refine Reg.pur rfl rfl rfl rfl (Pur.not rfl) ?_
  refine Reg.pur rfl rfl rfl rfl (Pur.mv rfl) ?_
  refine Reg.case 19 rfl (fun q19 => ?_) (fun q19 => ?_)
  · first | (simp only [decide_eq_true_eq, decide_eq_false_iff_not, Bool.not_eq_true', Bool.not_eq_false', ne_eq, Decidable.not_not, Bool.not_eq_true, Bool.not_eq_false] at q19) | (dsimp only at q19) | skip
    refine Reg.skip rfl rfl rfl rfl rfl rfl rfl ?_
    refine Reg.skip rfl rfl rfl rfl rfl rfl rfl ?_
    refine Reg.skip rfl rfl rfl rfl rfl rfl rfl ?_
    refine Reg.skip rfl rfl rfl rfl rfl rfl rfl ?_
    refine Reg.skip rfl rfl rfl rfl rfl rfl rfl ?_
    refine Reg.skip rfl rfl rfl rfl rfl rfl rfl ?_
    refine Reg.pur rfl rfl rfl rfl (Pur.pickT rfl rfl) ?_
    refine Reg.pur rfl rfl rfl rfl (Pur.mv rfl) ?_
    refine Reg.skip rfl rfl rfl rfl rfl rfl rfl ?_
    refine Reg.skip rfl rfl rfl rfl rfl rfl rfl ?_
    refine Reg.skip rfl rfl rfl rfl rfl rfl rfl ?_
    refine Reg.skip rfl rfl rfl rfl rfl rfl rfl ?_
    refine Reg.skip rfl rfl rfl rfl rfl rfl rfl ?_
    refine Reg.skip rfl rfl rfl rfl rfl rfl rfl ?_
    refine Reg.skip rfl rfl rfl rfl rfl rfl rfl ?_
    refine Reg.skip rfl rfl rfl rfl rfl rfl rfl ?_
    refine Reg.pur rfl rfl rfl rfl (Pur.pickT rfl rfl) ?_
    refine Reg.pur rfl rfl rfl rfl (Pur.mv rfl) ?_
    refine Reg.skip rfl rfl rfl rfl rfl rfl rfl ?_
    refine Reg.skip rfl rfl rfl rfl rfl rfl rfl ?_
    refine Reg.skip rfl rfl rfl rfl rfl rfl rfl ?_
    refine Reg.skip rfl rfl rfl rfl rfl rfl rfl ?_
    refine Reg.skip rfl rfl rfl rfl rfl rfl rfl ?_
    refine Reg.skip rfl rfl rfl rfl rfl rfl rfl ?_
    refine Reg.skip rfl rfl rfl rfl rfl rfl rfl ?_
    refine Reg.skip rfl rfl rfl rfl rfl rfl rfl ?_
    refine Reg.pur rfl rfl rfl rfl (Pur.pickT rfl rfl) ?_
    refine Reg.nil ?_
    refine At.condT rfl rfl rfl ?_
    refine At.region rfl rfl ?_
    refine Reg.pur rfl rfl rfl rfl (Pur.mki (by kernel_rfl) rfl) ?_
    refine Reg.pur rfl rfl rfl rfl (Pur.asg rfl) ?_
    refine Reg.pur rfl rfl rfl rfl (Pur.asg rfl) ?_
    refine Reg.nil ?_
    refine At.ret rfl Try.func69 rfl ?_
    have ho : takO vs ts us rs = false := by { unfold takO; revert q19; cases vmS vs <;> cases vmS us <;> simp <;> (intros; omega) }
    exact ⟨hE, none, 0, [], by rw [ho]; rfl, (fun h => by rw [ho] at h; cases h), bds_nil' _⟩
  · first | (simp only [decide_eq_true_eq, decide_eq_false_iff_not, Bool.not_eq_true', Bool.not_eq_false', ne_eq, Decidable.not_not, Bool.not_eq_true, Bool.not_eq_false] at q19) | (dsimp only at q19) | skip
    refine Reg.gpur rfl rfl rfl rfl rfl rfl (Pur.mv rfl) ?_
    refine Reg.gpur rfl rfl rfl rfl rfl rfl (Pur.nilc rfl) ?_
    refine Reg.gpur rfl rfl rfl rfl rfl rfl (Pur.fld _ fo56_1 rfl) ?_
    refine Reg.glod rfl rfl rfl rfl rfl rfl (Lod.ld sc54 rfl hb rfl) ?_
    refine Reg.gop rfl rfl rfl rfl rfl rfl (Does.call rfl (varsMay_ok us (h2.ext hE) hm.2)) ?_
    rintro _ H ⟨rfl, rfl⟩
    refine Reg.gpur rfl rfl rfl rfl rfl rfl (Pur.not rfl) ?_
    refine Reg.pur rfl rfl rfl rfl (Pur.pickF rfl rfl) ?_
    refine Reg.pur rfl rfl rfl rfl (Pur.mv rfl) ?_
    refine Reg.case 27 rfl (fun q27 => ?_) (fun q27 => ?_)
    · first | (simp only [decide_eq_true_eq, decide_eq_false_iff_not, Bool.not_eq_true', Bool.not_eq_false', ne_eq, Decidable.not_not, Bool.not_eq_true, Bool.not_eq_false] at q27) | (dsimp only at q27) | skip
      refine Reg.skip rfl rfl rfl rfl rfl rfl rfl ?_
      refine Reg.skip rfl rfl rfl rfl rfl rfl rfl ?_
      refine Reg.skip rfl rfl rfl rfl rfl rfl rfl ?_
      refine Reg.skip rfl rfl rfl rfl rfl rfl rfl ?_
      refine Reg.skip rfl rfl rfl rfl rfl rfl rfl ?_
      refine Reg.skip rfl rfl rfl rfl rfl rfl rfl ?_
      refine Reg.skip rfl rfl rfl rfl rfl rfl rfl ?_
      refine Reg.skip rfl rfl rfl rfl rfl rfl rfl ?_
      refine Reg.pur rfl rfl rfl rfl (Pur.pickT rfl rfl) ?_
      refine Reg.pur rfl rfl rfl rfl (Pur.mv rfl) ?_
      refine Reg.skip rfl rfl rfl rfl rfl rfl rfl ?_
      refine Reg.skip rfl rfl rfl rfl rfl rfl rfl ?_
      refine Reg.skip rfl rfl rfl rfl rfl rfl rfl ?_
      refine Reg.skip rfl rfl rfl rfl rfl rfl rfl ?_
      refine Reg.skip rfl rfl rfl rfl rfl rfl rfl ?_
      refine Reg.skip rfl rfl rfl rfl rfl rfl rfl ?_
      refine Reg.skip rfl rfl rfl rfl rfl rfl rfl ?_
      refine Reg.skip rfl rfl rfl rfl rfl rfl rfl ?_
      refine Reg.pur rfl rfl rfl rfl (Pur.pickT rfl rfl) ?_
      refine Reg.nil ?_
      refine At.condT rfl rfl rfl ?_
      refine At.region rfl rfl ?_
      refine Reg.pur rfl rfl rfl rfl (Pur.mki (by kernel_rfl) rfl) ?_
      refine Reg.pur rfl rfl rfl rfl (Pur.asg rfl) ?_
      refine Reg.pur rfl rfl rfl rfl (Pur.asg rfl) ?_
      refine Reg.nil ?_
      refine At.ret rfl Try.func69 rfl ?_
      have ho : takO vs ts us rs = false := by { unfold takO; revert q19 q27; cases vmS vs <;> cases vmS us <;> simp <;> (intros; omega) }
      exact ⟨hE, none, 0, [], by rw [ho]; rfl, (fun h => by rw [ho] at h; cases h), bds_nil' _⟩
    · first | (simp only [decide_eq_true_eq, decide_eq_false_iff_not, Bool.not_eq_true', Bool.not_eq_false', ne_eq, Decidable.not_not, Bool.not_eq_true, Bool.not_eq_false] at q27) | (dsimp only at q27) | skip
      refine Reg.gpur rfl rfl rfl rfl rfl rfl (Pur.mv rfl) ?_
      refine Reg.gpur rfl rfl rfl rfl rfl rfl (Pur.lenS isl57 rfl) ?_
      refine Reg.gpur rfl rfl rfl rfl rfl rfl (Pur.mv rfl) ?_
      refine Reg.gpur rfl rfl rfl rfl rfl rfl (Pur.nilc rfl) ?_
      refine Reg.gpur rfl rfl rfl rfl rfl rfl (Pur.fld _ fo56_0 rfl) ?_
      refine Reg.glod rfl rfl rfl rfl rfl rfl (Lod.ld sc54 rfl hb rfl) ?_
      refine Reg.gpur rfl rfl rfl rfl rfl rfl (Pur.lenS isl54 rfl) ?_
      refine Reg.gpur rfl rfl rfl rfl rfl rfl (Pur.neq rfl rfl) ?_
      refine Reg.pur rfl rfl rfl rfl (Pur.pickF rfl rfl) ?_
      refine Reg.pur rfl rfl rfl rfl (Pur.mv rfl) ?_
      refine Reg.case 37 rfl (fun q37 => ?_) (fun q37 => ?_)
      · first | (simp only [decide_eq_true_eq, decide_eq_false_iff_not, Bool.not_eq_true', Bool.not_eq_false', ne_eq, Decidable.not_not, Bool.not_eq_true, Bool.not_eq_false] at q37) | (dsimp only at q37) | skip
        refine Reg.skip rfl rfl rfl rfl rfl rfl rfl ?_
        refine Reg.skip rfl rfl rfl rfl rfl rfl rfl ?_
        refine Reg.skip rfl rfl rfl rfl rfl rfl rfl ?_
        refine Reg.skip rfl rfl rfl rfl rfl rfl rfl ?_
        refine Reg.skip rfl rfl rfl rfl rfl rfl rfl ?_
        refine Reg.skip rfl rfl rfl rfl rfl rfl rfl ?_
        refine Reg.skip rfl rfl rfl rfl rfl rfl rfl ?_
        refine Reg.skip rfl rfl rfl rfl rfl rfl rfl ?_
        refine Reg.pur rfl rfl rfl rfl (Pur.pickT rfl rfl) ?_
        refine Reg.nil ?_
        refine At.condT rfl rfl rfl ?_
        refine At.region rfl rfl ?_
        refine Reg.pur rfl rfl rfl rfl (Pur.mki (by kernel_rfl) rfl) ?_
        refine Reg.pur rfl rfl rfl rfl (Pur.asg rfl) ?_
        refine Reg.pur rfl rfl rfl rfl (Pur.asg rfl) ?_
        refine Reg.nil ?_
        refine At.ret rfl Try.func69 rfl ?_
        have ho : takO vs ts us rs = false := by { unfold takO; revert q19 q27 q37; cases vmS vs <;> cases vmS us <;> simp <;> (intros; omega) }
        exact ⟨hE, none, 0, [], by rw [ho]; rfl, (fun h => by rw [ho] at h; cases h), bds_nil' _⟩
      · first | (simp only [decide_eq_true_eq, decide_eq_false_iff_not, Bool.not_eq_true', Bool.not_eq_false', ne_eq, Decidable.not_not, Bool.not_eq_true, Bool.not_eq_false] at q37) | (dsimp only at q37) | skip
        refine Reg.gpur rfl rfl rfl rfl rfl rfl (Pur.mv rfl) ?_
        refine Reg.gpur rfl rfl rfl rfl rfl rfl (Pur.lenS isl58 rfl) ?_
        refine Reg.gpur rfl rfl rfl rfl rfl rfl (Pur.mv rfl) ?_
        refine Reg.gpur rfl rfl rfl rfl rfl rfl (Pur.nilc rfl) ?_
        refine Reg.gpur rfl rfl rfl rfl rfl rfl (Pur.fld _ fo56_1 rfl) ?_
        refine Reg.glod rfl rfl rfl rfl rfl rfl (Lod.ld sc54 rfl hb rfl) ?_
        refine Reg.gpur rfl rfl rfl rfl rfl rfl (Pur.lenS isl54 rfl) ?_
        refine Reg.gpur rfl rfl rfl rfl rfl rfl (Pur.neq rfl rfl) ?_
        refine Reg.pur rfl rfl rfl rfl (Pur.pickF rfl rfl) ?_
        refine Reg.nil ?_
        refine At.cond rfl rfl (fun q46 => ?_) (fun q46 => ?_)
        · first | (simp only [decide_eq_true_eq, decide_eq_false_iff_not, Bool.not_eq_true', Bool.not_eq_false', ne_eq, Decidable.not_not, Bool.not_eq_true, Bool.not_eq_false] at q46) | (dsimp only at q46) | skip
          refine At.region rfl rfl ?_
          refine Reg.pur rfl rfl rfl rfl (Pur.mki (by kernel_rfl) rfl) ?_
          refine Reg.pur rfl rfl rfl rfl (Pur.asg rfl) ?_
          refine Reg.pur rfl rfl rfl rfl (Pur.asg rfl) ?_
          refine Reg.nil ?_
          refine At.ret rfl Try.func69 rfl ?_
          have ho : takO vs ts us rs = false := by { unfold takO; revert q19 q27 q37 q46; cases vmS vs <;> cases vmS us <;> simp <;> (intros; omega) }
          exact ⟨hE, none, 0, [], by rw [ho]; rfl, (fun h => by rw [ho] at h; cases h), bds_nil' _⟩
        · first | (simp only [decide_eq_true_eq, decide_eq_false_iff_not, Bool.not_eq_true', Bool.not_eq_false', ne_eq, Decidable.not_not, Bool.not_eq_true, Bool.not_eq_false] at q46) | (dsimp only at q46) | skip
          have hq1 : vmS vs = true := q19
          have hq2 : vmS us = true := q27
          have hl1 : ts.length = vs.length := by omega
          have hl2 : rs.length = us.length := by omega
          have hv4 := vmS_len hq1
          have hu4 := vmS_len hq2
          have ho : takO vs ts us rs = true := by unfold takO; rw [hq1, hq2, decide_eq_true hl1, decide_eq_true hl2]; rfl
          refine At.region rfl rfl ?_
          refine Reg.pur rfl rfl rfl rfl (Pur.asg rfl) ?_
          refine Reg.nil ?_
          refine At.region rfl rfl ?_
          refine Reg.pur rfl rfl rfl rfl (Pur.mv rfl) ?_
          refine Reg.pur rfl rfl rfl rfl (Pur.lenS isl57 rfl) ?_
          refine Reg.pur rfl rfl rfl rfl (Pur.mv rfl) ?_
          refine Reg.nil ?_
          refine At.loop (σ := Nat × List Bd × Option Addr × Nat) (fun (i, out, A', cap') => [(50, I i), (49, I ts.length), (48, .slice Aq ts.length ct), (8, .slice A' out.length cap'), (0, ptr sb 0), (2, .slice Ar rs.length cr)]) (fun (i, out, A', cap') H' => i ≤ ts.length ∧ out = (List.zipWith bT vs ts).take i ∧ Gs H' H.size 49 8 A' cap' out.length (out.flatMap encB) ∧ Ext H H') (fun s => ts.length - s.1) (0, [], none, 0) rfl ⟨rfl, rfl, rfl, rfl, rfl, rfl, trivial⟩ ⟨by omega, by simp, OwnS.nilG, hE⟩ ?_
          rintro ⟨i, out, A', cap'⟩ H3 ⟨hi, hout, hg, hE⟩ ih
          dsimp only at hi hout hg ⊢
          have z_hE := hE.lt
          have z_hg := hg.lt
          have hol : out.length ≤ i := by rw [hout, List.length_take]; omega
          refine At.region rfl rfl ?_
          refine Reg.pur rfl rfl rfl rfl (Pur.lss rfl rfl) ?_
          refine Reg.nil ?_
          refine At.cond rfl rfl (fun q51 => ?_) (fun q51 => ?_)
          · first | (simp only [decide_eq_true_eq, decide_eq_false_iff_not, Bool.not_eq_true', Bool.not_eq_false', ne_eq, Decidable.not_not, Bool.not_eq_true, Bool.not_eq_false] at q51) | (dsimp only at q51) | skip
            have hlt : i < ts.length := by omega
            have hlv : i < vs.length := by omega
            have hb3 := hb.ext hE
            obtain ⟨b, o, c, rfl, hB, hd, _⟩ := sl_at (wideT ts) (hT.ext hE).sl hlt
            obtain ⟨b', o', c', rfl, hB', hc'⟩ := int_at (h1.ext hE) hlv
            have hnx := zip_take (f := bT) hlv hlt
            rw [← hout] at hnx
            generalize ts[i] = td at hd hnx
            generalize vs[i] = vi at hc' hnx
            have z_hb3 := hb3.lt
            have z_hB' := hB'.lt
            refine At.region rfl rfl ?_
            refine Reg.pur rfl rfl rfl rfl (Pur.mv rfl) ?_
            refine Reg.pur rfl rfl rfl rfl (Pur.idx _ es57 rfl rfl (by omega) (by omega)) ?_
            refine Reg.lod rfl rfl rfl rfl (Lod.ldn ag25 rfl hB hd rfl) ?_
            refine Reg.op rfl rfl rfl rfl (Does.alloc zc25) ?_
            rintro _ H6_3 ⟨rfl, hn6_3⟩
            have z6_3 := hn6_3.size
            replace hE := hE.ext hn6_3.ext
            replace hg := hg.ext hn6_3.ext
            replace hb3 := hb3.ext hn6_3.ext
            replace hB' := hB'.ext hn6_3.ext
            have o6_3 := hn6_3.own
            refine Reg.pur rfl rfl rfl rfl (Pur.asg rfl) ?_
            refine Reg.op0 rfl rfl rfl (Does.stn ag25 rfl rfl (by first | rfl | exact ones_Is _) (by first | rfl | (simp [*]; done)) o6_3 (by first | decide | (simp; done) | (simp; omega) | omega)) ?_
            rintro _ H6_5 hu6_5
            have z6_5 := hu6_5.size
            replace hE := hE.upw hu6_5 (by omega)
            replace hg := hg.upw hu6_5 (by omega)
            replace hb3 := hb3.upw hu6_5 (by omega)
            replace hB' := hB'.upw hu6_5 (by omega)
            replace o6_3 := hu6_5.own
            first | rw [over (by first | rfl | (simp; done))] at o6_3 | skip
            refine Reg.nil ?_
            refine At.drawE ((Bks.cons hb3.blk (Bks.cons hB'.blk (Bks.cons o6_3.blk Bks.nil)))) [] mixed rfl rfl ?_
            refine RegD.tpur (i := 0) rfl rfl rfl rfl (by kernel_rfl) (Pur.mv rfl) ?_
            refine RegD.tpur (i := 1) rfl rfl rfl rfl (by kernel_rfl) (Pur.mv rfl) ?_
            refine RegD.tpur (i := 2) rfl rfl rfl rfl (by kernel_rfl) (Pur.nilc rfl) ?_
            refine RegD.tpur (i := 3) rfl rfl rfl rfl (by kernel_rfl) (Pur.fld _ fo56_0 rfl) ?_
            refine RegD.take (i := 4) rfl rfl rfl rfl (by kernel_rfl) (Bks.cons hb3.blk (Bks.cons hB'.blk (Bks.cons o6_3.blk Bks.nil))) (fun H hS => Lod.ld sc54 rfl hS.hd rfl) ?_
            refine RegD.tpur (i := 5) rfl rfl rfl rfl (by kernel_rfl) (Pur.mv rfl) ?_
            refine RegD.tpur (i := 6) rfl rfl rfl rfl (by kernel_rfl) (Pur.idx _ es54 rfl rfl (by omega) (by omega)) ?_
            refine RegD.take (i := 7) rfl rfl rfl rfl (by kernel_rfl) (Bks.cons hb3.blk (Bks.cons hB'.blk (Bks.cons o6_3.blk Bks.nil))) (fun H hS => Lod.ld sc3 rfl hS.tl.hd hc') ?_
            refine RegD.take (i := 8) rfl rfl rfl rfl (by kernel_rfl) (Bks.cons hb3.blk (Bks.cons hB'.blk (Bks.cons o6_3.blk Bks.nil))) (fun H hS => Lod.ldn ag25 rfl hS.tl.tl.hd (by first | exact whole rfl | rfl | (simp only [List.drop_succ_cons, List.drop_zero, List.take_succ_cons, List.take_zero]; rfl)) (by first | rfl | (simp [*]; done))) ?_
            refine RegD.tpur (i := 9) rfl rfl rfl rfl (by kernel_rfl) (Pur.bld (cs := [_, _, _, _, _, _, _, _]) pl49 zc49 rfl rfl ⟨rfl, rfl, rfl, rfl, rfl, rfl, rfl, rfl, rfl⟩) ?_
            refine RegD.one (i := 10) (by kernel_rfl) rfl rfl rfl rfl (Does.bslA ([[_, _, _, _, _, _, _, _]]) slA22 rfl rfl rfl rfl rfl rfl) ?_
            rintro _ H7_10 ⟨rfl, hp7_10⟩
            have hn7_10 := New.of_eq hp7_10
            have z7_10 := hn7_10.size
            replace hE := hE.ext hn7_10.ext
            replace hg := hg.ext hn7_10.ext
            replace hb3 := hb3.ext hn7_10.ext
            replace hB' := hB'.ext hn7_10.ext
            replace o6_3 := o6_3.ext hn7_10.ext
            have o7_10 := hn7_10.own
            refine ⟨fun _ _ => (Bks.cons hb3.blk (Bks.cons hB'.blk (Bks.cons o6_3.blk Bks.nil))), ?_⟩
            have hzb : b' < H.size := by { obtain ⟨_, _, _, e, hB0, _⟩ := int_at h1 hlv; cases e; exact hB0.lt }
            refine RegD.one (i := 11) (by kernel_rfl) rfl rfl rfl rfl (Does.appL apt22 rfl rfl (by decide) hg (fun x hx ↦ by simp at hx; subst hx; rfl) (sl_one (x := bT vi td) rfl (by decide) hn7_10) (ones_fl _) (by simp; omega) (by omega)) ?_
            rintro _ H7_11 ⟨A7_11, cap7_11, rfl, g7_11, hbut7_11, ha7_11⟩
            have z7_11 := hbut7_11.lt
            replace hE := hE.via hbut7_11 (by first | omega | (intro g; omega) | (intro g hg; omega) | (intro g hg h; omega))
            replace hb3 := hb3.via hbut7_11 (by first | omega | (intro g; omega) | (intro g hg; omega) | (intro g hg h; omega))
            replace hB' := hB'.via hbut7_11 (by first | omega | (intro g; omega) | (intro g hg; omega) | (intro g hg h; omega))
            replace o6_3 := o6_3.via hbut7_11 (by first | omega | (intro g; omega) | (intro g hg; omega) | (intro g hg h; omega))
            replace o7_10 := o7_10.via hbut7_11 (by first | omega | (intro g; omega) | (intro g hg; omega) | (intro g hg h; omega))
            replace hg := g7_11
            have zg7_11 := g7_11.lt
            refine ⟨fun _ _ => (Bks.cons hb3.blk (Bks.cons hB'.blk (Bks.cons o6_3.blk Bks.nil))), ?_⟩
            refine RegD.tpur (i := 12) rfl rfl rfl rfl (by kernel_rfl) (Pur.asg rfl) ?_
            refine RegD.done (by kernel_rfl) ?_
            refine At.region rfl rfl ?_
            first | refine Reg.pur rfl rfl rfl rfl (Pur.add64 rfl rfl (by omega)) ?_ | refine Reg.pur rfl rfl rfl rfl (Pur.add64 rfl rfl (by assumption)) ?_ | refine Reg.pur rfl rfl rfl rfl (Pur.add rfl rfl) ?_
            refine Reg.pur rfl rfl rfl rfl (Pur.mv rfl) ?_
            refine Reg.nil ?_
            exact At.via (ih (i + 1, out ++ [bT vi td], A7_11, cap7_11) _ ⟨by omega, hnx.symm, hg, hE⟩ (by simp only; omega)) ⟨rfl, rfl, rfl, rfl, rfl, rfl, trivial⟩
          · first | (simp only [decide_eq_true_eq, decide_eq_false_iff_not, Bool.not_eq_true', Bool.not_eq_false', ne_eq, Decidable.not_not, Bool.not_eq_true, Bool.not_eq_false] at q51) | (dsimp only at q51) | skip
            refine At.region rfl rfl ?_
            refine Reg.pur rfl rfl rfl rfl (Pur.mv rfl) ?_
            refine Reg.pur rfl rfl rfl rfl (Pur.lenS isl58 rfl) ?_
            refine Reg.pur rfl rfl rfl rfl (Pur.mv rfl) ?_
            refine Reg.nil ?_
            have hall : out = List.zipWith bT vs ts := by rw [hout, List.take_of_length_le (by simp; omega)]
            clear ih
            refine At.loop (σ := Nat × List Bd × Option Addr × Nat) (fun (j, out', A', cap') => [(70, I j), (69, I rs.length), (68, .slice Ar rs.length cr), (8, .slice A' out'.length cap'), (0, ptr sb 0)]) (fun (j, out', A', cap') H' => j ≤ rs.length ∧ out' = List.zipWith bT vs ts ++ (List.zipWith bR us rs).take j ∧ Gs H' H.size 49 8 A' cap' out'.length (out'.flatMap encB) ∧ Ext H H') (fun s => rs.length - s.1) (0, out, A', cap') rfl ⟨rfl, rfl, rfl, rfl, rfl, trivial⟩ ⟨by omega, by simp [hall], hg, hE⟩ ?_
            clear hg hE hout hall hol hi q51
            rintro ⟨j, out', A', cap'⟩ H5 ⟨hj, hout, hg, hE⟩ ih
            dsimp only at hj hout hg ⊢
            have z_hE := hE.lt
            have z_hg := hg.lt
            have hol : out'.length ≤ 4096 + j := by rw [hout, List.length_append, List.length_take]; simp; omega
            refine At.region rfl rfl ?_
            refine Reg.pur rfl rfl rfl rfl (Pur.lss rfl rfl) ?_
            refine Reg.nil ?_
            refine At.cond rfl rfl (fun q71 => ?_) (fun q71 => ?_)
            · first | (simp only [decide_eq_true_eq, decide_eq_false_iff_not, Bool.not_eq_true', Bool.not_eq_false', ne_eq, Decidable.not_not, Bool.not_eq_true, Bool.not_eq_false] at q71) | (dsimp only at q71) | skip
              have hlt : j < rs.length := by omega
              have hlv : j < us.length := by omega
              have hb3 := hb.ext hE
              obtain ⟨b, o, c, rfl, hB, hd, h5'⟩ := sl_at (wide5 h5) (hR.ext hE) hlt
              have h55 := h5 _ (List.getElem_mem hlt)
              obtain ⟨b', o', c', rfl, hB', hc'⟩ := int_at (h2.ext hE) hlv
              have hnx := zip_take (f := bR) hlv hlt
              generalize rs[j] = r at hd hnx h5' h55
              generalize us[j] = vi at hc' hnx
              obtain ⟨ra, rb, rc, rd, re, rfl⟩ : ∃ a b c d e, r = [a, b, c, d, e] := by match r, h55 with | [a, b, c, d, e], _ => exact ⟨_, _, _, _, _, rfl⟩
              have z_hb3 := hb3.lt
              have z_hB' := hB'.lt
              refine At.region rfl rfl ?_
              refine Reg.pur rfl rfl rfl rfl (Pur.mv rfl) ?_
              refine Reg.pur rfl rfl rfl rfl (Pur.idx _ es58 rfl rfl (by omega) (by omega)) ?_
              refine Reg.lod rfl rfl rfl rfl (Lod.ldn ag28 rfl hB hd h5') ?_
              refine Reg.op rfl rfl rfl rfl (Does.alloc zc28) ?_
              rintro _ H11_3 ⟨rfl, hn11_3⟩
              have z11_3 := hn11_3.size
              replace hE := hE.ext hn11_3.ext
              replace hg := hg.ext hn11_3.ext
              replace hb3 := hb3.ext hn11_3.ext
              replace hB' := hB'.ext hn11_3.ext
              have o11_3 := hn11_3.own
              refine Reg.pur rfl rfl rfl rfl (Pur.asg rfl) ?_
              refine Reg.op0 rfl rfl rfl (Does.stn ag28 rfl rfl (by first | rfl | exact ones_Is _) (by first | rfl | (simp [*]; done)) o11_3 (by first | decide | (simp; done) | (simp; omega) | omega)) ?_
              rintro _ H11_5 hu11_5
              have z11_5 := hu11_5.size
              replace hE := hE.upw hu11_5 (by omega)
              replace hg := hg.upw hu11_5 (by omega)
              replace hb3 := hb3.upw hu11_5 (by omega)
              replace hB' := hB'.upw hu11_5 (by omega)
              replace o11_3 := hu11_5.own
              first | rw [over (by first | rfl | (simp; done))] at o11_3 | skip
              refine Reg.nil ?_
              refine At.drawE ((Bks.cons hb3.blk (Bks.cons hB'.blk (Bks.cons o11_3.blk Bks.nil)))) [] mixed rfl rfl ?_
              refine RegD.tpur (i := 0) rfl rfl rfl rfl (by kernel_rfl) (Pur.mv rfl) ?_
              refine RegD.tpur (i := 1) rfl rfl rfl rfl (by kernel_rfl) (Pur.mv rfl) ?_
              refine RegD.tpur (i := 2) rfl rfl rfl rfl (by kernel_rfl) (Pur.nilc rfl) ?_
              refine RegD.tpur (i := 3) rfl rfl rfl rfl (by kernel_rfl) (Pur.fld _ fo56_1 rfl) ?_
              refine RegD.take (i := 4) rfl rfl rfl rfl (by kernel_rfl) (Bks.cons hb3.blk (Bks.cons hB'.blk (Bks.cons o11_3.blk Bks.nil))) (fun H hS => Lod.ld sc54 rfl hS.hd rfl) ?_
              refine RegD.tpur (i := 5) rfl rfl rfl rfl (by kernel_rfl) (Pur.mv rfl) ?_
              refine RegD.tpur (i := 6) rfl rfl rfl rfl (by kernel_rfl) (Pur.idx _ es54 rfl rfl (by omega) (by omega)) ?_
              refine RegD.take (i := 7) rfl rfl rfl rfl (by kernel_rfl) (Bks.cons hb3.blk (Bks.cons hB'.blk (Bks.cons o11_3.blk Bks.nil))) (fun H hS => Lod.ld sc3 rfl hS.tl.hd hc') ?_
              refine RegD.take (i := 8) rfl rfl rfl rfl (by kernel_rfl) (Bks.cons hb3.blk (Bks.cons hB'.blk (Bks.cons o11_3.blk Bks.nil))) (fun H hS => Lod.ldn ag28 rfl hS.tl.tl.hd (by first | exact whole rfl | rfl | (simp only [List.drop_succ_cons, List.drop_zero, List.take_succ_cons, List.take_zero]; rfl)) (by first | rfl | (simp [*]; done))) ?_
              refine RegD.tpur (i := 9) rfl rfl rfl rfl (by kernel_rfl) (Pur.bld (cs := [_, _, _, _, _, _, _, _]) pl49 zc49 rfl rfl ⟨rfl, rfl, rfl, rfl, rfl, rfl, rfl, rfl, rfl⟩) ?_
              refine RegD.one (i := 10) (by kernel_rfl) rfl rfl rfl rfl (Does.bslA ([[_, _, _, _, _, _, _, _]]) slA22 rfl rfl rfl rfl rfl rfl) ?_
              rintro _ H12_10 ⟨rfl, hp12_10⟩
              have hn12_10 := New.of_eq hp12_10
              have z12_10 := hn12_10.size
              replace hE := hE.ext hn12_10.ext
              replace hg := hg.ext hn12_10.ext
              replace hb3 := hb3.ext hn12_10.ext
              replace hB' := hB'.ext hn12_10.ext
              replace o11_3 := o11_3.ext hn12_10.ext
              have o12_10 := hn12_10.own
              refine ⟨fun _ _ => (Bks.cons hb3.blk (Bks.cons hB'.blk (Bks.cons o11_3.blk Bks.nil))), ?_⟩
              have hzb : b' < H.size := by { obtain ⟨_, _, _, e, hB0, _⟩ := int_at h2 hlv; cases e; exact hB0.lt }
              refine RegD.one (i := 11) (by kernel_rfl) rfl rfl rfl rfl (Does.appL apt22 rfl rfl (by decide) hg (fun x hx ↦ by simp at hx; subst hx; rfl) (sl_one (x := bR vi [ra, rb, rc, rd, re]) rfl (by decide) hn12_10) (ones_fl _) (by simp; omega) (by omega)) ?_
              rintro _ H12_11 ⟨A12_11, cap12_11, rfl, g12_11, hbut12_11, ha12_11⟩
              have z12_11 := hbut12_11.lt
              replace hE := hE.via hbut12_11 (by first | omega | (intro g; omega) | (intro g hg; omega) | (intro g hg h; omega))
              replace hb3 := hb3.via hbut12_11 (by first | omega | (intro g; omega) | (intro g hg; omega) | (intro g hg h; omega))
              replace hB' := hB'.via hbut12_11 (by first | omega | (intro g; omega) | (intro g hg; omega) | (intro g hg h; omega))
              replace o11_3 := o11_3.via hbut12_11 (by first | omega | (intro g; omega) | (intro g hg; omega) | (intro g hg h; omega))
              replace o12_10 := o12_10.via hbut12_11 (by first | omega | (intro g; omega) | (intro g hg; omega) | (intro g hg h; omega))
              replace hg := g12_11
              have zg12_11 := g12_11.lt
              refine ⟨fun _ _ => (Bks.cons hb3.blk (Bks.cons hB'.blk (Bks.cons o11_3.blk Bks.nil))), ?_⟩
              refine RegD.tpur (i := 12) rfl rfl rfl rfl (by kernel_rfl) (Pur.asg rfl) ?_
              refine RegD.done (by kernel_rfl) ?_
              refine At.region rfl rfl ?_
              first | refine Reg.pur rfl rfl rfl rfl (Pur.add64 rfl rfl (by omega)) ?_ | refine Reg.pur rfl rfl rfl rfl (Pur.add64 rfl rfl (by assumption)) ?_ | refine Reg.pur rfl rfl rfl rfl (Pur.add rfl rfl) ?_
              refine Reg.pur rfl rfl rfl rfl (Pur.mv rfl) ?_
              refine Reg.nil ?_
              exact At.via (ih (j + 1, out' ++ [bR vi [ra, rb, rc, rd, re]], A12_11, cap12_11) _ ⟨by omega, by rw [hnx, hout, List.append_assoc], hg, hE⟩ (by simp only; omega)) ⟨rfl, rfl, rfl, rfl, rfl, trivial⟩
            · first | (simp only [decide_eq_true_eq, decide_eq_false_iff_not, Bool.not_eq_true', Bool.not_eq_false', ne_eq, Decidable.not_not, Bool.not_eq_true, Bool.not_eq_false] at q71) | (dsimp only at q71) | skip
              refine At.region rfl rfl ?_
              refine Reg.pur rfl rfl rfl rfl (Pur.mv rfl) ?_
              refine Reg.pur rfl rfl rfl rfl (Pur.asg rfl) ?_
              refine Reg.pur rfl rfl rfl rfl (Pur.asg rfl) ?_
              refine Reg.nil ?_
              refine At.ret rfl Try.func69 rfl ?_
              have hall : out' = takB vs ts us rs := by rw [hout, List.take_of_length_le (by simp; omega)]; rfl
              have hok := takB_ok (vs := vs) (us := us) hT h5
              rw [← hall] at hok
              exact ⟨hE, A', cap', out', by rw [ho]; rfl, fun _ => hall, ⟨own_sl (fun x hx => (hok x hx).len) (by decide) hg, fun x hx => (hok x hx).ext hE, by omega⟩⟩
end Go.Proofs.Ytlfillhffpiffaa

/-
  Arguments that are numbers, types, rows in slices.
-/
namespace Go.Proofs.Ytlfillhffpiffaa
set_option linter.unusedSimpArgs false
set_option linter.unusedVariables false
set_option maxRecDepth 8000
open Go Go.Fx Go.Proofs

theorem ints_of_fits {H : Heap} {v : Value} (h : fitc H (.sl 8 [.int .i64]) v) : ∃ (A : Option Addr) (cap : Nat) (l : List Int), v = .slice A l.length cap ∧ SlT H e1 1 (.slice A l.length cap) l ∧ l.length * 8 ≤ 140737488351232 := by
  obtain ⟨L, _, hS, hb⟩ := SlT.of_fits (p := fun _ : Int => True) (enc := e1) h (fun cs h => by obtain ⟨n, rfl, _⟩ := fit_int h; exact ⟨n, trivial, rfl⟩)
  have hS' := hS
  obtain ⟨A, cap, rfl, _⟩ := hS'
  exact ⟨A, cap, L, rfl, hS, by rw [show reachBytes = 140737488351232 from rfl] at hb; omega⟩
theorem rows_of_fits {H : Heap} {v : Value} (h : fitc H (.sl 40 (List.replicate 5 (.int .i64))) v) : ∃ (A : Option Addr) (cap : Nat) (L : List (List Int)), v = .slice A L.length cap ∧ SlT H Is 5 (.slice A L.length cap) L ∧ Five L ∧ L.length * 40 ≤ 140737488351232 := by
  obtain ⟨L, hL, hS, hb⟩ := SlT.of_fits (p := fun x : List Int => x.length = 5) (enc := Is) h (fun cs h => by obtain ⟨xs, rfl, hl, _⟩ := fit_ints h; exact ⟨xs, hl, rfl⟩)
  have hS' := hS
  obtain ⟨A, cap, rfl, _⟩ := hS'
  exact ⟨A, cap, L, rfl, hS, hL, by rw [show reachBytes = 140737488351232 from rfl] at hb; omega⟩
theorem types_of_fits {H : Heap} {v : Value} (h : fitc H (.sl 24 [.sl 72 (List.replicate 9 (.int .i64))]) v) : ∃ (A : Option Addr) (cap : Nat) (L : List Td), v = .slice A L.length cap ∧ Tds H (.slice A L.length cap) L := by
  obtain ⟨L, hL, hS, hb⟩ := SlT.of_fits (p := fun t : Td => t.Ok H) (enc := encT) h (fun cs h => by
    obtain ⟨v, rfl, hv⟩ := fit_one h
    obtain ⟨A, cap, L, rfl, h9, hS, hm⟩ := type_of_fits hv
    exact ⟨⟨A, cap, L⟩, ⟨hS, h9, hm⟩, rfl⟩)
  have hS' := hS
  obtain ⟨A, cap, rfl, _⟩ := hS'
  exact ⟨A, cap, L, rfl, hS, hL, by rw [show reachBytes = 140737488351232 from rfl] at hb; omega⟩
theorem scheme_of_fits {H : Heap} {cs : List Value} (h : fits H [.sl 8 [.int .i64], .sl 8 [.int .i64], .sl 72 (List.replicate 9 (.int .i64))] cs) : ∃ (A1 : Option Addr) (c1 : Nat) (vs : List Int) (A2 : Option Addr) (c2 : Nat) (us : List Int) (A3 : Option Addr) (c3 : Nat) (L : List (List Int)),
    cs = [.slice A1 vs.length c1, .slice A2 us.length c2, .slice A3 L.length c3] ∧ SlT H e1 1 (.slice A1 vs.length c1) vs ∧ SlT H e1 1 (.slice A2 us.length c2) us ∧ SlT H Is 9 (.slice A3 L.length c3) L ∧ Nine L ∧ vs.length * 8 ≤ 140737488351232 ∧ us.length * 8 ≤ 140737488351232 ∧ L.length * 72 ≤ 140737488351232 := by
  simp only [fits] at h
  obtain ⟨v1, r1, rfl, h1, v2, r2, rfl, h2, v3, r3, rfl, h3, rfl⟩ := h
  obtain ⟨A1, c1, vs, rfl, s1, b1⟩ := ints_of_fits h1
  obtain ⟨A2, c2, us, rfl, s2, b2⟩ := ints_of_fits h2
  obtain ⟨A3, c3, L, rfl, h9, s3, b3⟩ := type_of_fits h3
  exact ⟨A1, c1, vs, A2, c2, us, A3, c3, L, rfl, s1, s2, s3, h9, b1, b2, b3⟩
end Go.Proofs.Ytlfillhffpiffaa
