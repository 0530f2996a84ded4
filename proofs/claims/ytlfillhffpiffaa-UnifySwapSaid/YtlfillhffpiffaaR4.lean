/-
  Parts of the proof, 4.
-/
import Derived.Laws.MakeOwn
import Derived.Test.YtlfillhffpiffaaR3
namespace Go.Proofs.Ytlfillhffpiffaa
set_option linter.unusedSimpArgs false
set_option linter.unusedVariables false
set_option maxRecDepth 8000
open Go Go.Fx Go.Proofs
namespace FactsUniB
theorem ag26 : ag Try.prog 26 = some 4 := by kernel_rfl
theorem ag28 : ag Try.prog 28 = some 5 := by kernel_rfl
theorem arr26 : arr Try.prog 26 = some (4, 1) := by kernel_rfl
theorem fo28_0 : foff Try.prog 28 0 = some 0 := by kernel_rfl
theorem fo28_1 : foff Try.prog 28 1 = some 4 := by kernel_rfl
theorem mixed : Try.prog.follows .mixedOrders = true := by kernel_rfl
theorem sc3 : sc Try.prog 3 = true := by kernel_rfl
theorem slA22 : slA Try.prog 22 = some (49, 8) := by kernel_rfl
theorem zc26 : zc Try.prog 26 = some [.int .i64 0, .int .i64 0, .int .i64 0, .int .i64 0] := by kernel_rfl
end FactsUniB
open FactsUniB

def uniQ (a b : List Int) (f : Int) : List Bd × Int :=
  if a.getD 4 0 = b.getD 4 0 then (if moreC a b = true ∨ moreC b a = true then ([], 801) else ([], 0))
  else if (moreC a b = true ∧ b.getD 4 0 = -1) ∨ (moreC b a = true ∧ a.getD 4 0 = -1) then ([], 801)
  else if b.getD 4 0 = -1 then ([bR (a.getD 4 0) (subC b a ++ [-1])], 0)
  else if a.getD 4 0 = -1 then ([bR (b.getD 4 0) (subC a b ++ [-1])], 0)
  else if moreC a b = false then ([bR (a.getD 4 0) (subC b a ++ [b.getD 4 0])], 0)
  else if moreC b a = false then ([bR (b.getD 4 0) (subC a b ++ [a.getD 4 0])], 0)
  else ([bR (a.getD 4 0) (subC b a ++ [f]), bR (b.getD 4 0) (subC a b ++ [f])], 0)
def uniR (a b : List Int) (f : Int) : List Bd × Int :=
  if rowM a = true ∧ rowM b = true ∧ 0 ≤ f ∧ f < 4096 ∧ a.getD 4 0 < f ∧ b.getD 4 0 < f then uniQ a b f else ([], 800)
theorem uniR_no {a b : List Int} {f : Int} (h : ¬ (rowM a = true ∧ rowM b = true ∧ 0 ≤ f ∧ f < 4096 ∧ a.getD 4 0 < f ∧ b.getD 4 0 < f)) : uniR a b f = ([], 800) := if_neg h
theorem uniR_yes {a b : List Int} {f : Int} (h : rowM a = true ∧ rowM b = true ∧ 0 ≤ f ∧ f < 4096 ∧ a.getD 4 0 < f ∧ b.getD 4 0 < f) : uniR a b f = uniQ a b f := if_pos h
def UniP (H : Heap) (p : List Bd × Int) (v : Value) (H' : Heap) : Prop :=
  ∃ A' cap', v = .tuple #[.slice A' p.1.length cap', I p.2] ∧ Bds H' (.slice A' p.1.length cap') p.1 ∧ (p.1.length = 0 ∨ (H.size : Int) ≤ ob A') ∧ Ext H H'
theorem uniP_nil {H H' : Heap} {p : List Bd × Int} {c : Int} (h : p = ([], c)) (hE : Ext H H') : UniP H p (tupl [.slice none 0 0, I c]) H' := by
  subst h; exact ⟨none, 0, rfl, bds_nil' _, .inl rfl, hE⟩
theorem bR_ok (v : Int) (r : List Int) (hr : r.length = 5) (H : Heap) : (bR v r).Ok H := ⟨sl_nil H, (fun x hx => by cases hx), hr, by simp [bR]⟩
theorem uniP_one {H H' : Heap} {p : List Bd × Int} {b : Nat} {v : Int} {r : List Int} (h : p = ([bR v r], 0)) (hr : r.length = 5) (hn : Own H' b ([bR v r].flatMap encB)) (hb : H.size ≤ b) (hE : Ext H H') : UniP H p (tupl [.slice (some ⟨b, 0, none⟩) 1 1, I 0]) H' := by
  subst h
  have hw : Wide encB 8 [bR v r] := fun x hx => by simp at hx; subst hx; simp [bR, hr]
  exact ⟨_, _, rfl, ⟨sl_own hw (by decide) hn (by simp), fun x hx => by { rw [List.mem_singleton.1 hx]; exact bR_ok _ _ hr _ }, by simp⟩, .inr (Int.ofNat_le.2 hb), hE⟩
theorem uniP_two {H H' : Heap} {p : List Bd × Int} {b : Nat} {v w : Int} {r s : List Int} (h : p = ([bR v r, bR w s], 0)) (hr : r.length = 5) (hs : s.length = 5) (hn : Own H' b ([bR v r, bR w s].flatMap encB)) (hb : H.size ≤ b) (hE : Ext H H') : UniP H p (tupl [.slice (some ⟨b, 0, none⟩) 2 2, I 0]) H' := by
  subst h
  have hw : Wide encB 8 [bR v r, bR w s] := fun x hx => by simp at hx; rcases hx with rfl | rfl <;> simp [bR, hr, hs]
  refine ⟨_, _, rfl, ⟨sl_own hw (by decide) hn (by simp), fun x hx => ?_, by simp⟩, .inr (Int.ofNat_le.2 hb), hE⟩
  simp at hx
  rcases hx with rfl | rfl
  · exact bR_ok _ _ hr _
  · exact bR_ok _ _ hs _

theorem rowUnify_ok (a b : List Int) (f : Int) (ha5 : a.length = 5) (hb5 : b.length = 5) (H : Heap) :
    Ret Try.prog 132 [.agg (Is a).toArray, .agg (Is b).toArray, I f] H (UniP H (uniR a b f)) := by
  refine Ret.of_at (N := 124) Try.call132 Try.func132 rfl rfl rfl ?_
  have hE := Ext.refl H
  have z_hE := hE.lt
  refine At.region rfl rfl ?_
  refine Reg.op rfl rfl rfl rfl (Does.box rfl rfl) ?_
  rintro _ H0_0 ⟨rfl, hn0_0⟩
  have z0_0 := hn0_0.size
  replace hE := hE.ext hn0_0.ext
  have o0_0 := hn0_0.own
  refine Reg.op rfl rfl rfl rfl (Does.box rfl rfl) ?_
  rintro _ H0_1 ⟨rfl, hn0_1⟩
  have z0_1 := hn0_1.size
  replace hE := hE.ext hn0_1.ext
  replace o0_0 := o0_0.ext hn0_1.ext
  have o0_1 := hn0_1.own
  refine Reg.pur rfl rfl rfl rfl (Pur.asg rfl) ?_
  refine Reg.pur rfl rfl rfl rfl (Pur.asg rfl) ?_
  refine Reg.nil ?_
  refine At.region rfl rfl ?_
  refine Reg.lod rfl rfl rfl rfl (Lod.ldn ag28 rfl o0_0.blk (whole (by simp [ha5])) (by simp [ha5])) ?_
  refine Reg.op rfl rfl rfl rfl (Does.call rfl (rowMay_ok a ha5 _)) ?_
  rintro _ H1_1 ⟨rfl, hE1_1⟩
  have z1_1 := hE1_1.lt
  replace hE := hE.ext hE1_1
  replace o0_0 := o0_0.ext hE1_1
  replace o0_1 := o0_1.ext hE1_1
  refine Reg.pur rfl rfl rfl rfl (Pur.not rfl) ?_
  refine Reg.pur rfl rfl rfl rfl (Pur.mv rfl) ?_
  refine Reg.case 16 rfl (fun q16 => ?_) (fun q16 => ?_)
  · first | (simp only [decide_eq_true_eq, decide_eq_false_iff_not, Bool.not_eq_true', Bool.not_eq_false', ne_eq, Decidable.not_not, Bool.not_eq_true, Bool.not_eq_false] at q16) | (dsimp only at q16) | skip
    refine Reg.skip rfl rfl rfl rfl rfl rfl rfl ?_
    refine Reg.skip rfl rfl rfl rfl rfl rfl rfl ?_
    refine Reg.skip rfl rfl rfl rfl rfl rfl rfl ?_
    refine Reg.pur rfl rfl rfl rfl (Pur.pickT rfl rfl) ?_
    refine Reg.pur rfl rfl rfl rfl (Pur.mv rfl) ?_
    refine Reg.skip rfl rfl rfl rfl rfl rfl rfl ?_
    refine Reg.skip rfl rfl rfl rfl rfl rfl rfl ?_
    refine Reg.pur rfl rfl rfl rfl (Pur.pickT rfl rfl) ?_
    refine Reg.pur rfl rfl rfl rfl (Pur.mv rfl) ?_
    refine Reg.skip rfl rfl rfl rfl rfl rfl rfl ?_
    refine Reg.skip rfl rfl rfl rfl rfl rfl rfl ?_
    refine Reg.pur rfl rfl rfl rfl (Pur.pickT rfl rfl) ?_
    refine Reg.pur rfl rfl rfl rfl (Pur.mv rfl) ?_
    refine Reg.skip rfl rfl rfl rfl rfl rfl rfl ?_
    refine Reg.skip rfl rfl rfl rfl rfl rfl rfl ?_
    refine Reg.skip rfl rfl rfl rfl rfl rfl rfl ?_
    refine Reg.skip rfl rfl rfl rfl rfl rfl rfl ?_
    refine Reg.pur rfl rfl rfl rfl (Pur.pickT rfl rfl) ?_
    refine Reg.pur rfl rfl rfl rfl (Pur.mv rfl) ?_
    refine Reg.skip rfl rfl rfl rfl rfl rfl rfl ?_
    refine Reg.skip rfl rfl rfl rfl rfl rfl rfl ?_
    refine Reg.skip rfl rfl rfl rfl rfl rfl rfl ?_
    refine Reg.skip rfl rfl rfl rfl rfl rfl rfl ?_
    refine Reg.pur rfl rfl rfl rfl (Pur.pickT rfl rfl) ?_
    refine Reg.nil ?_
    refine At.condT rfl rfl rfl ?_
    refine At.region rfl rfl ?_
    refine Reg.pur rfl rfl rfl rfl (Pur.asg rfl) ?_
    refine Reg.pur rfl rfl rfl rfl (Pur.asg rfl) ?_
    refine Reg.nil ?_
    refine At.ret rfl Try.func132 rfl ?_
    exact uniP_nil (uniR_no (by simp_all; try omega)) hE
  first | (simp only [decide_eq_true_eq, decide_eq_false_iff_not, Bool.not_eq_true', Bool.not_eq_false', ne_eq, Decidable.not_not, Bool.not_eq_true, Bool.not_eq_false] at q16) | (dsimp only at q16) | skip
  refine Reg.glod rfl rfl rfl rfl rfl rfl (Lod.ldn ag28 rfl o0_1.blk (whole (by simp [hb5])) (by simp [hb5])) ?_
  refine Reg.gop rfl rfl rfl rfl rfl rfl (Does.call rfl (rowMay_ok b hb5 _)) ?_
  rintro _ H1_5 ⟨rfl, hE1_5⟩
  have z1_5 := hE1_5.lt
  replace hE := hE.ext hE1_5
  replace o0_0 := o0_0.ext hE1_5
  replace o0_1 := o0_1.ext hE1_5
  refine Reg.gpur rfl rfl rfl rfl rfl rfl (Pur.not rfl) ?_
  refine Reg.pur rfl rfl rfl rfl (Pur.pickF rfl rfl) ?_
  refine Reg.pur rfl rfl rfl rfl (Pur.mv rfl) ?_
  refine Reg.case 21 rfl (fun q21 => ?_) (fun q21 => ?_)
  · first | (simp only [decide_eq_true_eq, decide_eq_false_iff_not, Bool.not_eq_true', Bool.not_eq_false', ne_eq, Decidable.not_not, Bool.not_eq_true, Bool.not_eq_false] at q21) | (dsimp only at q21) | skip
    refine Reg.skip rfl rfl rfl rfl rfl rfl rfl ?_
    refine Reg.skip rfl rfl rfl rfl rfl rfl rfl ?_
    refine Reg.pur rfl rfl rfl rfl (Pur.pickT rfl rfl) ?_
    refine Reg.pur rfl rfl rfl rfl (Pur.mv rfl) ?_
    refine Reg.skip rfl rfl rfl rfl rfl rfl rfl ?_
    refine Reg.skip rfl rfl rfl rfl rfl rfl rfl ?_
    refine Reg.pur rfl rfl rfl rfl (Pur.pickT rfl rfl) ?_
    refine Reg.pur rfl rfl rfl rfl (Pur.mv rfl) ?_
    refine Reg.skip rfl rfl rfl rfl rfl rfl rfl ?_
    refine Reg.skip rfl rfl rfl rfl rfl rfl rfl ?_
    refine Reg.skip rfl rfl rfl rfl rfl rfl rfl ?_
    refine Reg.skip rfl rfl rfl rfl rfl rfl rfl ?_
    refine Reg.pur rfl rfl rfl rfl (Pur.pickT rfl rfl) ?_
    refine Reg.pur rfl rfl rfl rfl (Pur.mv rfl) ?_
    refine Reg.skip rfl rfl rfl rfl rfl rfl rfl ?_
    refine Reg.skip rfl rfl rfl rfl rfl rfl rfl ?_
    refine Reg.skip rfl rfl rfl rfl rfl rfl rfl ?_
    refine Reg.skip rfl rfl rfl rfl rfl rfl rfl ?_
    refine Reg.pur rfl rfl rfl rfl (Pur.pickT rfl rfl) ?_
    refine Reg.nil ?_
    refine At.condT rfl rfl rfl ?_
    refine At.region rfl rfl ?_
    refine Reg.pur rfl rfl rfl rfl (Pur.asg rfl) ?_
    refine Reg.pur rfl rfl rfl rfl (Pur.asg rfl) ?_
    refine Reg.nil ?_
    refine At.ret rfl Try.func132 rfl ?_
    exact uniP_nil (uniR_no (by simp_all; try omega)) hE
  first | (simp only [decide_eq_true_eq, decide_eq_false_iff_not, Bool.not_eq_true', Bool.not_eq_false', ne_eq, Decidable.not_not, Bool.not_eq_true, Bool.not_eq_false] at q21) | (dsimp only at q21) | skip
  refine Reg.gpur rfl rfl rfl rfl rfl rfl (Pur.mv rfl) ?_
  refine Reg.gpur rfl rfl rfl rfl rfl rfl (Pur.lss rfl rfl) ?_
  refine Reg.pur rfl rfl rfl rfl (Pur.pickF rfl rfl) ?_
  refine Reg.pur rfl rfl rfl rfl (Pur.mv rfl) ?_
  refine Reg.case 25 rfl (fun q25 => ?_) (fun q25 => ?_)
  · first | (simp only [decide_eq_true_eq, decide_eq_false_iff_not, Bool.not_eq_true', Bool.not_eq_false', ne_eq, Decidable.not_not, Bool.not_eq_true, Bool.not_eq_false] at q25) | (dsimp only at q25) | skip
    refine Reg.skip rfl rfl rfl rfl rfl rfl rfl ?_
    refine Reg.skip rfl rfl rfl rfl rfl rfl rfl ?_
    refine Reg.pur rfl rfl rfl rfl (Pur.pickT rfl rfl) ?_
    refine Reg.pur rfl rfl rfl rfl (Pur.mv rfl) ?_
    refine Reg.skip rfl rfl rfl rfl rfl rfl rfl ?_
    refine Reg.skip rfl rfl rfl rfl rfl rfl rfl ?_
    refine Reg.skip rfl rfl rfl rfl rfl rfl rfl ?_
    refine Reg.skip rfl rfl rfl rfl rfl rfl rfl ?_
    refine Reg.pur rfl rfl rfl rfl (Pur.pickT rfl rfl) ?_
    refine Reg.pur rfl rfl rfl rfl (Pur.mv rfl) ?_
    refine Reg.skip rfl rfl rfl rfl rfl rfl rfl ?_
    refine Reg.skip rfl rfl rfl rfl rfl rfl rfl ?_
    refine Reg.skip rfl rfl rfl rfl rfl rfl rfl ?_
    refine Reg.skip rfl rfl rfl rfl rfl rfl rfl ?_
    refine Reg.pur rfl rfl rfl rfl (Pur.pickT rfl rfl) ?_
    refine Reg.nil ?_
    refine At.condT rfl rfl rfl ?_
    refine At.region rfl rfl ?_
    refine Reg.pur rfl rfl rfl rfl (Pur.asg rfl) ?_
    refine Reg.pur rfl rfl rfl rfl (Pur.asg rfl) ?_
    refine Reg.nil ?_
    refine At.ret rfl Try.func132 rfl ?_
    exact uniP_nil (uniR_no (by simp_all; try omega)) hE
  first | (simp only [decide_eq_true_eq, decide_eq_false_iff_not, Bool.not_eq_true', Bool.not_eq_false', ne_eq, Decidable.not_not, Bool.not_eq_true, Bool.not_eq_false] at q25) | (dsimp only at q25) | skip
  refine Reg.gpur rfl rfl rfl rfl rfl rfl (Pur.mv rfl) ?_
  refine Reg.gpur rfl rfl rfl rfl rfl rfl (Pur.geq rfl rfl) ?_
  refine Reg.pur rfl rfl rfl rfl (Pur.pickF rfl rfl) ?_
  refine Reg.pur rfl rfl rfl rfl (Pur.mv rfl) ?_
  refine Reg.case 29 rfl (fun q29 => ?_) (fun q29 => ?_)
  · first | (simp only [decide_eq_true_eq, decide_eq_false_iff_not, Bool.not_eq_true', Bool.not_eq_false', ne_eq, Decidable.not_not, Bool.not_eq_true, Bool.not_eq_false] at q29) | (dsimp only at q29) | skip
    refine Reg.skip rfl rfl rfl rfl rfl rfl rfl ?_
    refine Reg.skip rfl rfl rfl rfl rfl rfl rfl ?_
    refine Reg.skip rfl rfl rfl rfl rfl rfl rfl ?_
    refine Reg.skip rfl rfl rfl rfl rfl rfl rfl ?_
    refine Reg.pur rfl rfl rfl rfl (Pur.pickT rfl rfl) ?_
    refine Reg.pur rfl rfl rfl rfl (Pur.mv rfl) ?_
    refine Reg.skip rfl rfl rfl rfl rfl rfl rfl ?_
    refine Reg.skip rfl rfl rfl rfl rfl rfl rfl ?_
    refine Reg.skip rfl rfl rfl rfl rfl rfl rfl ?_
    refine Reg.skip rfl rfl rfl rfl rfl rfl rfl ?_
    refine Reg.pur rfl rfl rfl rfl (Pur.pickT rfl rfl) ?_
    refine Reg.nil ?_
    refine At.condT rfl rfl rfl ?_
    refine At.region rfl rfl ?_
    refine Reg.pur rfl rfl rfl rfl (Pur.asg rfl) ?_
    refine Reg.pur rfl rfl rfl rfl (Pur.asg rfl) ?_
    refine Reg.nil ?_
    refine At.ret rfl Try.func132 rfl ?_
    exact uniP_nil (uniR_no (by simp_all; try omega)) hE
  first | (simp only [decide_eq_true_eq, decide_eq_false_iff_not, Bool.not_eq_true', Bool.not_eq_false', ne_eq, Decidable.not_not, Bool.not_eq_true, Bool.not_eq_false] at q29) | (dsimp only at q29) | skip
  refine Reg.gpur rfl rfl rfl rfl rfl rfl (Pur.fld _ fo28_1 rfl) ?_
  refine Reg.glod rfl rfl rfl rfl rfl rfl (Lod.ld sc3 rfl o0_0.blk (hat4 a ha5)) ?_
  refine Reg.gpur rfl rfl rfl rfl rfl rfl (Pur.mv rfl) ?_
  refine Reg.gpur rfl rfl rfl rfl rfl rfl (Pur.geq rfl rfl) ?_
  refine Reg.pur rfl rfl rfl rfl (Pur.pickF rfl rfl) ?_
  refine Reg.pur rfl rfl rfl rfl (Pur.mv rfl) ?_
  refine Reg.case 35 rfl (fun q35 => ?_) (fun q35 => ?_)
  · first | (simp only [decide_eq_true_eq, decide_eq_false_iff_not, Bool.not_eq_true', Bool.not_eq_false', ne_eq, Decidable.not_not, Bool.not_eq_true, Bool.not_eq_false] at q35) | (dsimp only at q35) | skip
    refine Reg.skip rfl rfl rfl rfl rfl rfl rfl ?_
    refine Reg.skip rfl rfl rfl rfl rfl rfl rfl ?_
    refine Reg.skip rfl rfl rfl rfl rfl rfl rfl ?_
    refine Reg.skip rfl rfl rfl rfl rfl rfl rfl ?_
    refine Reg.pur rfl rfl rfl rfl (Pur.pickT rfl rfl) ?_
    refine Reg.nil ?_
    refine At.condT rfl rfl rfl ?_
    refine At.region rfl rfl ?_
    refine Reg.pur rfl rfl rfl rfl (Pur.asg rfl) ?_
    refine Reg.pur rfl rfl rfl rfl (Pur.asg rfl) ?_
    refine Reg.nil ?_
    refine At.ret rfl Try.func132 rfl ?_
    exact uniP_nil (uniR_no (by simp_all; try omega)) hE
  first | (simp only [decide_eq_true_eq, decide_eq_false_iff_not, Bool.not_eq_true', Bool.not_eq_false', ne_eq, Decidable.not_not, Bool.not_eq_true, Bool.not_eq_false] at q35) | (dsimp only at q35) | skip
  refine Reg.gpur rfl rfl rfl rfl rfl rfl (Pur.fld _ fo28_1 rfl) ?_
  refine Reg.glod rfl rfl rfl rfl rfl rfl (Lod.ld sc3 rfl o0_1.blk (hat4 b hb5)) ?_
  refine Reg.gpur rfl rfl rfl rfl rfl rfl (Pur.mv rfl) ?_
  refine Reg.gpur rfl rfl rfl rfl rfl rfl (Pur.geq rfl rfl) ?_
  refine Reg.pur rfl rfl rfl rfl (Pur.pickF rfl rfl) ?_
  refine Reg.nil ?_
  refine At.cond rfl rfl (fun q40 => ?_) (fun q40 => ?_)
  · first | (simp only [decide_eq_true_eq, decide_eq_false_iff_not, Bool.not_eq_true', Bool.not_eq_false', ne_eq, Decidable.not_not, Bool.not_eq_true, Bool.not_eq_false] at q40) | (dsimp only at q40) | skip
    refine At.region rfl rfl ?_
    refine Reg.pur rfl rfl rfl rfl (Pur.asg rfl) ?_
    refine Reg.pur rfl rfl rfl rfl (Pur.asg rfl) ?_
    refine Reg.nil ?_
    refine At.ret rfl Try.func132 rfl ?_
    exact uniP_nil (uniR_no (by simp_all; try omega)) hE
  first | (simp only [decide_eq_true_eq, decide_eq_false_iff_not, Bool.not_eq_true', Bool.not_eq_false', ne_eq, Decidable.not_not, Bool.not_eq_true, Bool.not_eq_false] at q40) | (dsimp only at q40) | skip
  have hra : rowM a = true := q16
  have hrb : rowM b = true := q21
  have hy := uniR_yes (a := a) (b := b) (f := f) ⟨hra, hrb, by omega, by omega, by omega, by omega⟩
  clear q16 q21 q25 q29 q35 q40
  refine At.region rfl rfl ?_
  refine Reg.op rfl rfl rfl rfl (Does.call rfl (rowLess_ok a b ha5 hb5 hra hrb o0_0.blk o0_1.blk)) ?_
  rintro _ H3_0 ⟨rfl, hE3_0⟩
  have z3_0 := hE3_0.lt
  replace hE := hE.ext hE3_0
  replace o0_0 := o0_0.ext hE3_0
  replace o0_1 := o0_1.ext hE3_0
  refine Reg.pur rfl rfl rfl rfl (Pur.mv rfl) ?_
  refine Reg.pur rfl rfl rfl rfl (Pur.ext rfl rfl) ?_
  refine Reg.pur rfl rfl rfl rfl (Pur.ext rfl rfl) ?_
  refine Reg.op rfl rfl rfl rfl (Does.alloc zc26) ?_
  rintro _ H3_4 ⟨rfl, hn3_4⟩
  have z3_4 := hn3_4.size
  replace hE := hE.ext hn3_4.ext
  replace o0_0 := o0_0.ext hn3_4.ext
  replace o0_1 := o0_1.ext hn3_4.ext
  have o3_4 := hn3_4.own
  refine Reg.op0 rfl rfl rfl (Does.stn ag26 rfl rfl (by first | rfl | exact ones_Is _) (by first | rfl | (simp [*]; done)) o3_4 (by first | decide | (simp; done) | (simp; omega) | omega)) ?_
  rintro _ H3_5 hu3_5
  have z3_5 := hu3_5.size
  replace hE := hE.upw hu3_5 (by omega)
  replace o0_0 := o0_0.upw hu3_5 (by omega)
  replace o0_1 := o0_1.upw hu3_5 (by omega)
  replace o3_4 := hu3_5.own
  first | rw [over (by first | rfl | (simp; done))] at o3_4 | skip
  refine Reg.pur rfl rfl rfl rfl (Pur.asg rfl) ?_
  refine Reg.nil ?_
  refine At.region rfl rfl ?_
  refine Reg.op rfl rfl rfl rfl (Does.call rfl (rowLess_ok b a hb5 ha5 hrb hra o0_1.blk o0_0.blk)) ?_
  rintro _ H4_0 ⟨rfl, hE4_0⟩
  have z4_0 := hE4_0.lt
  replace hE := hE.ext hE4_0
  replace o0_0 := o0_0.ext hE4_0
  replace o0_1 := o0_1.ext hE4_0
  replace o3_4 := o3_4.ext hE4_0
  refine Reg.pur rfl rfl rfl rfl (Pur.mv rfl) ?_
  refine Reg.pur rfl rfl rfl rfl (Pur.ext rfl rfl) ?_
  refine Reg.pur rfl rfl rfl rfl (Pur.ext rfl rfl) ?_
  refine Reg.op rfl rfl rfl rfl (Does.alloc zc26) ?_
  rintro _ H4_4 ⟨rfl, hn4_4⟩
  have z4_4 := hn4_4.size
  replace hE := hE.ext hn4_4.ext
  replace o0_0 := o0_0.ext hn4_4.ext
  replace o0_1 := o0_1.ext hn4_4.ext
  replace o3_4 := o3_4.ext hn4_4.ext
  have o4_4 := hn4_4.own
  refine Reg.op0 rfl rfl rfl (Does.stn ag26 rfl rfl (by first | rfl | exact ones_Is _) (by first | rfl | (simp [*]; done)) o4_4 (by first | decide | (simp; done) | (simp; omega) | omega)) ?_
  rintro _ H4_5 hu4_5
  have z4_5 := hu4_5.size
  replace hE := hE.upw hu4_5 (by omega)
  replace o0_0 := o0_0.upw hu4_5 (by omega)
  replace o0_1 := o0_1.upw hu4_5 (by omega)
  replace o3_4 := o3_4.upw hu4_5 (by omega)
  replace o4_4 := hu4_5.own
  first | rw [over (by first | rfl | (simp; done))] at o4_4 | skip
  refine Reg.pur rfl rfl rfl rfl (Pur.asg rfl) ?_
  refine Reg.nil ?_
  refine At.region rfl rfl ?_
  refine Reg.pur rfl rfl rfl rfl (Pur.fld _ fo28_1 rfl) ?_
  refine Reg.lod rfl rfl rfl rfl (Lod.ld sc3 rfl o0_0.blk (hat4 a ha5)) ?_
  refine Reg.pur rfl rfl rfl rfl (Pur.fld _ fo28_1 rfl) ?_
  refine Reg.lod rfl rfl rfl rfl (Lod.ld sc3 rfl o0_1.blk (hat4 b hb5)) ?_
  refine Reg.pur rfl rfl rfl rfl (Pur.eql rfl rfl) ?_
  refine Reg.pur rfl rfl rfl rfl (Pur.asg rfl) ?_
  refine Reg.nil ?_
  refine At.region rfl rfl ?_
  refine Reg.pur rfl rfl rfl rfl (Pur.mv rfl) ?_
  refine Reg.pur rfl rfl rfl rfl (Pur.mv rfl) ?_
  refine Reg.case 56 rfl (fun q56 => ?_) (fun q56 => ?_)
  · first | (simp only [decide_eq_true_eq, decide_eq_false_iff_not, Bool.not_eq_true', Bool.not_eq_false', ne_eq, Decidable.not_not, Bool.not_eq_true, Bool.not_eq_false] at q56) | (dsimp only at q56) | skip
    refine Reg.gpur rfl rfl rfl rfl rfl rfl (Pur.mv rfl) ?_
    refine Reg.gpur rfl rfl rfl rfl rfl rfl (Pur.mv rfl) ?_
    refine Reg.case 58 rfl (fun q58 => ?_) (fun q58 => ?_)
    · first | (simp only [decide_eq_true_eq, decide_eq_false_iff_not, Bool.not_eq_true', Bool.not_eq_false', ne_eq, Decidable.not_not, Bool.not_eq_true, Bool.not_eq_false] at q58) | (dsimp only at q58) | skip
      refine Reg.skip rfl rfl rfl rfl rfl rfl rfl ?_
      refine Reg.skip rfl rfl rfl rfl rfl rfl rfl ?_
      refine Reg.skip rfl rfl rfl rfl rfl rfl rfl ?_
      refine Reg.gpur rfl rfl rfl rfl rfl rfl (Pur.pickT rfl rfl) ?_
      refine Reg.pur rfl rfl rfl rfl (Pur.pickT rfl rfl) ?_
      refine Reg.pur rfl rfl rfl rfl (Pur.asg rfl) ?_
      refine Reg.nil ?_
      refine At.condT rfl rfl rfl ?_
      refine At.condT rfl rfl rfl ?_
      refine At.region rfl rfl ?_
      refine Reg.pur rfl rfl rfl rfl (Pur.asg rfl) ?_
      refine Reg.pur rfl rfl rfl rfl (Pur.asg rfl) ?_
      refine Reg.nil ?_
      refine At.ret rfl Try.func132 rfl ?_
      exact uniP_nil (by rw [hy]; unfold uniQ; simp_all) hE
    first | (simp only [decide_eq_true_eq, decide_eq_false_iff_not, Bool.not_eq_true', Bool.not_eq_false', ne_eq, Decidable.not_not, Bool.not_eq_true, Bool.not_eq_false] at q58) | (dsimp only at q58) | skip
    refine Reg.gpur rfl rfl rfl rfl rfl rfl (Pur.fld _ fo28_1 rfl) ?_
    refine Reg.glod rfl rfl rfl rfl rfl rfl (Lod.ld sc3 rfl o0_1.blk (hat4 b hb5)) ?_
    refine Reg.gpur rfl rfl rfl rfl rfl rfl (Pur.eql rfl rfl) ?_
    refine Reg.gpur rfl rfl rfl rfl rfl rfl (Pur.pickF rfl rfl) ?_
    refine Reg.pur rfl rfl rfl rfl (Pur.pickT rfl rfl) ?_
    refine Reg.pur rfl rfl rfl rfl (Pur.asg rfl) ?_
    refine Reg.nil ?_
    refine At.cond rfl rfl (fun q54 => ?_) (fun q54 => ?_)
    · first | (simp only [decide_eq_true_eq, decide_eq_false_iff_not, Bool.not_eq_true', Bool.not_eq_false', ne_eq, Decidable.not_not, Bool.not_eq_true, Bool.not_eq_false] at q54) | (dsimp only at q54) | skip
      refine At.condT rfl rfl (by first | exact q54 | exact decide_eq_true q54 | exact decide_eq_false q54 | simpa using q54) ?_
      refine At.region rfl rfl ?_
      refine Reg.pur rfl rfl rfl rfl (Pur.asg rfl) ?_
      refine Reg.pur rfl rfl rfl rfl (Pur.asg rfl) ?_
      refine Reg.nil ?_
      refine At.ret rfl Try.func132 rfl ?_
      exact uniP_nil (by rw [hy]; unfold uniQ; simp_all) hE
    first | (simp only [decide_eq_true_eq, decide_eq_false_iff_not, Bool.not_eq_true', Bool.not_eq_false', ne_eq, Decidable.not_not, Bool.not_eq_true, Bool.not_eq_false] at q54) | (dsimp only at q54) | skip
    refine At.region rfl rfl ?_
    refine Reg.pur rfl rfl rfl rfl (Pur.mv rfl) ?_
    refine Reg.pur rfl rfl rfl rfl (Pur.mv rfl) ?_
    refine Reg.case 65 rfl (fun q65 => ?_) (fun q65 => ?_)
    · first | (simp only [decide_eq_true_eq, decide_eq_false_iff_not, Bool.not_eq_true', Bool.not_eq_false', ne_eq, Decidable.not_not, Bool.not_eq_true, Bool.not_eq_false] at q65) | (dsimp only at q65) | skip
      refine Reg.gpur rfl rfl rfl rfl rfl rfl (Pur.mv rfl) ?_
      refine Reg.gpur rfl rfl rfl rfl rfl rfl (Pur.mv rfl) ?_
      refine Reg.known (b' := false) 67 rfl (by first | exact q58 | exact decide_eq_true q58 | exact decide_eq_false q58 | simpa using q58) ?_
      refine Reg.gpur rfl rfl rfl rfl rfl rfl (Pur.fld _ fo28_1 rfl) ?_
      refine Reg.glod rfl rfl rfl rfl rfl rfl (Lod.ld sc3 rfl o0_0.blk (hat4 a ha5)) ?_
      refine Reg.gpur rfl rfl rfl rfl rfl rfl (Pur.eql rfl rfl) ?_
      refine Reg.gpur rfl rfl rfl rfl rfl rfl (Pur.pickF rfl rfl) ?_
      refine Reg.pur rfl rfl rfl rfl (Pur.pickT rfl rfl) ?_
      refine Reg.pur rfl rfl rfl rfl (Pur.asg rfl) ?_
      refine Reg.nil ?_
      refine At.cond rfl rfl (fun q54 => ?_) (fun q54 => ?_)
      · first | (simp only [decide_eq_true_eq, decide_eq_false_iff_not, Bool.not_eq_true', Bool.not_eq_false', ne_eq, Decidable.not_not, Bool.not_eq_true, Bool.not_eq_false] at q54) | (dsimp only at q54) | skip
        refine At.region rfl rfl ?_
        refine Reg.pur rfl rfl rfl rfl (Pur.asg rfl) ?_
        refine Reg.pur rfl rfl rfl rfl (Pur.asg rfl) ?_
        refine Reg.nil ?_
        refine At.ret rfl Try.func132 rfl ?_
        exact uniP_nil (by rw [hy]; unfold uniQ; simp_all) hE
      first | (simp only [decide_eq_true_eq, decide_eq_false_iff_not, Bool.not_eq_true', Bool.not_eq_false', ne_eq, Decidable.not_not, Bool.not_eq_true, Bool.not_eq_false] at q54) | (dsimp only at q54) | skip
      refine At.region rfl rfl ?_
      refine Reg.pur rfl rfl rfl rfl (Pur.mv rfl) ?_
      refine Reg.pur rfl rfl rfl rfl (Pur.asg rfl) ?_
      refine Reg.nil ?_
      refine At.condF rfl rfl (by first | exact q58 | exact decide_eq_true q58 | exact decide_eq_false q58 | simpa using q58) ?_
      refine At.region rfl rfl ?_
      refine Reg.pur rfl rfl rfl rfl (Pur.fld _ fo28_1 rfl) ?_
      refine Reg.lod rfl rfl rfl rfl (Lod.ld sc3 rfl o0_1.blk (hat4 b hb5)) ?_
      refine Reg.pur rfl rfl rfl rfl (Pur.eql rfl rfl) ?_
      refine Reg.pur rfl rfl rfl rfl (Pur.asg rfl) ?_
      refine Reg.nil ?_
      refine At.cond rfl rfl (fun q75 => ?_) (fun q75 => ?_)
      · first | (simp only [decide_eq_true_eq, decide_eq_false_iff_not, Bool.not_eq_true', Bool.not_eq_false', ne_eq, Decidable.not_not, Bool.not_eq_true, Bool.not_eq_false] at q75) | (dsimp only at q75) | skip
        refine At.region rfl rfl ?_
        refine Reg.pur rfl rfl rfl rfl (Pur.fld _ fo28_1 rfl) ?_
        refine Reg.lod rfl rfl rfl rfl (Lod.ld sc3 rfl o0_0.blk (hat4 a ha5)) ?_
        refine Reg.lod rfl rfl rfl rfl (Lod.ldn ag26 rfl o4_4.blk (by first | exact whole rfl | rfl | (simp only [List.drop_succ_cons, List.drop_zero, List.take_succ_cons, List.take_zero]; rfl)) (by first | rfl | (simp [*]; done))) ?_
        refine Reg.op rfl rfl rfl rfl (Does.call rfl (rowBind_ok _ _ _ (subC_len b a))) ?_
        rintro _ H12_3 ⟨rfl, hE12_3⟩
        have z12_3 := hE12_3.lt
        replace hE := hE.ext hE12_3
        replace o0_0 := o0_0.ext hE12_3
        replace o0_1 := o0_1.ext hE12_3
        replace o3_4 := o3_4.ext hE12_3
        replace o4_4 := o4_4.ext hE12_3
        refine Reg.op rfl rfl rfl rfl (Does.bslA ([encB (bR (a.getD 4 0) (subC b a ++ [-1]))]) slA22 rfl rfl rfl rfl rfl rfl) ?_
        rintro _ H12_4 ⟨rfl, hp12_4⟩
        have hn12_4 := New.of_eq hp12_4
        have z12_4 := hn12_4.size
        replace hE := hE.ext hn12_4.ext
        replace o0_0 := o0_0.ext hn12_4.ext
        replace o0_1 := o0_1.ext hn12_4.ext
        replace o3_4 := o3_4.ext hn12_4.ext
        replace o4_4 := o4_4.ext hn12_4.ext
        have o12_4 := hn12_4.own
        refine Reg.pur rfl rfl rfl rfl (Pur.asg rfl) ?_
        refine Reg.pur rfl rfl rfl rfl (Pur.asg rfl) ?_
        refine Reg.nil ?_
        refine At.ret rfl Try.func132 rfl ?_
        exact uniP_one (by rw [hy]; unfold uniQ; simp_all) rfl o12_4 (by omega) hE
      first | (simp only [decide_eq_true_eq, decide_eq_false_iff_not, Bool.not_eq_true', Bool.not_eq_false', ne_eq, Decidable.not_not, Bool.not_eq_true, Bool.not_eq_false] at q75) | (dsimp only at q75) | skip
      refine At.region rfl rfl ?_
      refine Reg.pur rfl rfl rfl rfl (Pur.fld _ fo28_1 rfl) ?_
      refine Reg.lod rfl rfl rfl rfl (Lod.ld sc3 rfl o0_0.blk (hat4 a ha5)) ?_
      refine Reg.pur rfl rfl rfl rfl (Pur.eql rfl rfl) ?_
      refine Reg.pur rfl rfl rfl rfl (Pur.asg rfl) ?_
      refine Reg.nil ?_
      refine At.cond rfl rfl (fun q84 => ?_) (fun q84 => ?_)
      · first | (simp only [decide_eq_true_eq, decide_eq_false_iff_not, Bool.not_eq_true', Bool.not_eq_false', ne_eq, Decidable.not_not, Bool.not_eq_true, Bool.not_eq_false] at q84) | (dsimp only at q84) | skip
        refine At.region rfl rfl ?_
        refine Reg.pur rfl rfl rfl rfl (Pur.fld _ fo28_1 rfl) ?_
        refine Reg.lod rfl rfl rfl rfl (Lod.ld sc3 rfl o0_1.blk (hat4 b hb5)) ?_
        refine Reg.lod rfl rfl rfl rfl (Lod.ldn ag26 rfl o3_4.blk (by first | exact whole rfl | rfl | (simp only [List.drop_succ_cons, List.drop_zero, List.take_succ_cons, List.take_zero]; rfl)) (by first | rfl | (simp [*]; done))) ?_
        refine Reg.op rfl rfl rfl rfl (Does.call rfl (rowBind_ok _ _ _ (subC_len a b))) ?_
        rintro _ H14_3 ⟨rfl, hE14_3⟩
        have z14_3 := hE14_3.lt
        replace hE := hE.ext hE14_3
        replace o0_0 := o0_0.ext hE14_3
        replace o0_1 := o0_1.ext hE14_3
        replace o3_4 := o3_4.ext hE14_3
        replace o4_4 := o4_4.ext hE14_3
        refine Reg.op rfl rfl rfl rfl (Does.bslA ([encB (bR (b.getD 4 0) (subC a b ++ [-1]))]) slA22 rfl rfl rfl rfl rfl rfl) ?_
        rintro _ H14_4 ⟨rfl, hp14_4⟩
        have hn14_4 := New.of_eq hp14_4
        have z14_4 := hn14_4.size
        replace hE := hE.ext hn14_4.ext
        replace o0_0 := o0_0.ext hn14_4.ext
        replace o0_1 := o0_1.ext hn14_4.ext
        replace o3_4 := o3_4.ext hn14_4.ext
        replace o4_4 := o4_4.ext hn14_4.ext
        have o14_4 := hn14_4.own
        refine Reg.pur rfl rfl rfl rfl (Pur.asg rfl) ?_
        refine Reg.pur rfl rfl rfl rfl (Pur.asg rfl) ?_
        refine Reg.nil ?_
        refine At.ret rfl Try.func132 rfl ?_
        exact uniP_one (by rw [hy]; unfold uniQ; simp_all) rfl o14_4 (by omega) hE
      first | (simp only [decide_eq_true_eq, decide_eq_false_iff_not, Bool.not_eq_true', Bool.not_eq_false', ne_eq, Decidable.not_not, Bool.not_eq_true, Bool.not_eq_false] at q84) | (dsimp only at q84) | skip
      refine At.region rfl rfl ?_
      refine Reg.pur rfl rfl rfl rfl (Pur.mv rfl) ?_
      refine Reg.pur rfl rfl rfl rfl (Pur.not rfl) ?_
      refine Reg.pur rfl rfl rfl rfl (Pur.asg rfl) ?_
      refine Reg.nil ?_
      refine At.cond rfl rfl (fun q93 => ?_) (fun q93 => ?_)
      · first | (simp only [decide_eq_true_eq, decide_eq_false_iff_not, Bool.not_eq_true', Bool.not_eq_false', ne_eq, Decidable.not_not, Bool.not_eq_true, Bool.not_eq_false] at q93) | (dsimp only at q93) | skip
        refine At.region rfl rfl ?_
        refine Reg.pur rfl rfl rfl rfl (Pur.fld _ fo28_1 rfl) ?_
        refine Reg.lod rfl rfl rfl rfl (Lod.ld sc3 rfl o0_0.blk (hat4 a ha5)) ?_
        refine Reg.lod rfl rfl rfl rfl (Lod.ldn ag26 rfl o4_4.blk (by first | exact whole rfl | rfl | (simp only [List.drop_succ_cons, List.drop_zero, List.take_succ_cons, List.take_zero]; rfl)) (by first | rfl | (simp [*]; done))) ?_
        refine Reg.pur rfl rfl rfl rfl (Pur.fld _ fo28_1 rfl) ?_
        refine Reg.lod rfl rfl rfl rfl (Lod.ld sc3 rfl o0_1.blk (hat4 b hb5)) ?_
        refine Reg.op rfl rfl rfl rfl (Does.call rfl (rowBind_ok _ _ _ (subC_len b a))) ?_
        rintro _ H16_5 ⟨rfl, hE16_5⟩
        have z16_5 := hE16_5.lt
        replace hE := hE.ext hE16_5
        replace o0_0 := o0_0.ext hE16_5
        replace o0_1 := o0_1.ext hE16_5
        replace o3_4 := o3_4.ext hE16_5
        replace o4_4 := o4_4.ext hE16_5
        refine Reg.op rfl rfl rfl rfl (Does.bslA ([encB (bR (a.getD 4 0) (subC b a ++ [b.getD 4 0]))]) slA22 rfl rfl rfl rfl rfl rfl) ?_
        rintro _ H16_6 ⟨rfl, hp16_6⟩
        have hn16_6 := New.of_eq hp16_6
        have z16_6 := hn16_6.size
        replace hE := hE.ext hn16_6.ext
        replace o0_0 := o0_0.ext hn16_6.ext
        replace o0_1 := o0_1.ext hn16_6.ext
        replace o3_4 := o3_4.ext hn16_6.ext
        replace o4_4 := o4_4.ext hn16_6.ext
        have o16_6 := hn16_6.own
        refine Reg.pur rfl rfl rfl rfl (Pur.asg rfl) ?_
        refine Reg.pur rfl rfl rfl rfl (Pur.asg rfl) ?_
        refine Reg.nil ?_
        refine At.ret rfl Try.func132 rfl ?_
        exact uniP_one (by rw [hy]; unfold uniQ; simp_all) rfl o16_6 (by omega) hE
      first | (simp only [decide_eq_true_eq, decide_eq_false_iff_not, Bool.not_eq_true', Bool.not_eq_false', ne_eq, Decidable.not_not, Bool.not_eq_true, Bool.not_eq_false] at q93) | (dsimp only at q93) | skip
      refine At.region rfl rfl ?_
      refine Reg.pur rfl rfl rfl rfl (Pur.mv rfl) ?_
      refine Reg.pur rfl rfl rfl rfl (Pur.not rfl) ?_
      refine Reg.pur rfl rfl rfl rfl (Pur.asg rfl) ?_
      refine Reg.nil ?_
      refine At.cond rfl rfl (fun q103 => ?_) (fun q103 => ?_)
      · first | (simp only [decide_eq_true_eq, decide_eq_false_iff_not, Bool.not_eq_true', Bool.not_eq_false', ne_eq, Decidable.not_not, Bool.not_eq_true, Bool.not_eq_false] at q103) | (dsimp only at q103) | skip
        refine At.region rfl rfl ?_
        refine Reg.pur rfl rfl rfl rfl (Pur.fld _ fo28_1 rfl) ?_
        refine Reg.lod rfl rfl rfl rfl (Lod.ld sc3 rfl o0_1.blk (hat4 b hb5)) ?_
        refine Reg.lod rfl rfl rfl rfl (Lod.ldn ag26 rfl o3_4.blk (by first | exact whole rfl | rfl | (simp only [List.drop_succ_cons, List.drop_zero, List.take_succ_cons, List.take_zero]; rfl)) (by first | rfl | (simp [*]; done))) ?_
        refine Reg.pur rfl rfl rfl rfl (Pur.fld _ fo28_1 rfl) ?_
        refine Reg.lod rfl rfl rfl rfl (Lod.ld sc3 rfl o0_0.blk (hat4 a ha5)) ?_
        refine Reg.op rfl rfl rfl rfl (Does.call rfl (rowBind_ok _ _ _ (subC_len a b))) ?_
        rintro _ H18_5 ⟨rfl, hE18_5⟩
        have z18_5 := hE18_5.lt
        replace hE := hE.ext hE18_5
        replace o0_0 := o0_0.ext hE18_5
        replace o0_1 := o0_1.ext hE18_5
        replace o3_4 := o3_4.ext hE18_5
        replace o4_4 := o4_4.ext hE18_5
        refine Reg.op rfl rfl rfl rfl (Does.bslA ([encB (bR (b.getD 4 0) (subC a b ++ [a.getD 4 0]))]) slA22 rfl rfl rfl rfl rfl rfl) ?_
        rintro _ H18_6 ⟨rfl, hp18_6⟩
        have hn18_6 := New.of_eq hp18_6
        have z18_6 := hn18_6.size
        replace hE := hE.ext hn18_6.ext
        replace o0_0 := o0_0.ext hn18_6.ext
        replace o0_1 := o0_1.ext hn18_6.ext
        replace o3_4 := o3_4.ext hn18_6.ext
        replace o4_4 := o4_4.ext hn18_6.ext
        have o18_6 := hn18_6.own
        refine Reg.pur rfl rfl rfl rfl (Pur.asg rfl) ?_
        refine Reg.pur rfl rfl rfl rfl (Pur.asg rfl) ?_
        refine Reg.nil ?_
        refine At.ret rfl Try.func132 rfl ?_
        exact uniP_one (by rw [hy]; unfold uniQ; simp_all) rfl o18_6 (by omega) hE
      first | (simp only [decide_eq_true_eq, decide_eq_false_iff_not, Bool.not_eq_true', Bool.not_eq_false', ne_eq, Decidable.not_not, Bool.not_eq_true, Bool.not_eq_false] at q103) | (dsimp only at q103) | skip
      refine At.drawE ((Bks.cons o0_0.blk (Bks.cons o0_1.blk (Bks.cons o3_4.blk (Bks.cons o4_4.blk Bks.nil))))) [] mixed rfl rfl ?_
      refine RegD.tpur (i := 0) rfl rfl rfl rfl (by kernel_rfl) (Pur.fld _ fo28_1 rfl) ?_
      refine RegD.take (i := 1) rfl rfl rfl rfl (by kernel_rfl) (Bks.cons o0_0.blk (Bks.cons o0_1.blk (Bks.cons o3_4.blk (Bks.cons o4_4.blk Bks.nil)))) (fun H hS => Lod.ld sc3 rfl hS.hd (hat4 a ha5)) ?_
      refine RegD.take (i := 2) rfl rfl rfl rfl (by kernel_rfl) (Bks.cons o0_0.blk (Bks.cons o0_1.blk (Bks.cons o3_4.blk (Bks.cons o4_4.blk Bks.nil)))) (fun H hS => Lod.ldn ag26 rfl hS.tl.tl.tl.hd (by first | exact whole rfl | rfl | (simp only [List.drop_succ_cons, List.drop_zero, List.take_succ_cons, List.take_zero]; rfl)) (by first | rfl | (simp [*]; done))) ?_
      refine RegD.tpur (i := 3) rfl rfl rfl rfl (by kernel_rfl) (Pur.mv rfl) ?_
      refine RegD.tpur (i := 5) rfl rfl rfl rfl (by kernel_rfl) (Pur.fld _ fo28_1 rfl) ?_
      refine RegD.take (i := 6) rfl rfl rfl rfl (by kernel_rfl) (Bks.cons o0_0.blk (Bks.cons o0_1.blk (Bks.cons o3_4.blk (Bks.cons o4_4.blk Bks.nil)))) (fun H hS => Lod.ld sc3 rfl hS.tl.hd (hat4 b hb5)) ?_
      refine RegD.take (i := 7) rfl rfl rfl rfl (by kernel_rfl) (Bks.cons o0_0.blk (Bks.cons o0_1.blk (Bks.cons o3_4.blk (Bks.cons o4_4.blk Bks.nil)))) (fun H hS => Lod.ldn ag26 rfl hS.tl.tl.hd (by first | exact whole rfl | rfl | (simp only [List.drop_succ_cons, List.drop_zero, List.take_succ_cons, List.take_zero]; rfl)) (by first | rfl | (simp [*]; done))) ?_
      refine RegD.tpur (i := 8) rfl rfl rfl rfl (by kernel_rfl) (Pur.mv rfl) ?_
      refine RegD.one (i := 4) (by kernel_rfl) rfl rfl rfl rfl (Does.call rfl (rowBind_ok _ _ _ (subC_len b a))) ?_
      rintro _ H19_4 ⟨rfl, hE19_4⟩
      have z19_4 := hE19_4.lt
      replace hE := hE.ext hE19_4
      replace o0_0 := o0_0.ext hE19_4
      replace o0_1 := o0_1.ext hE19_4
      replace o3_4 := o3_4.ext hE19_4
      replace o4_4 := o4_4.ext hE19_4
      refine ⟨fun _ _ => (Bks.cons o0_0.blk (Bks.cons o0_1.blk (Bks.cons o3_4.blk (Bks.cons o4_4.blk Bks.nil)))), ?_⟩
      refine RegD.one (i := 9) (by kernel_rfl) rfl rfl rfl rfl (Does.call rfl (rowBind_ok _ _ _ (subC_len a b))) ?_
      rintro _ H19_9 ⟨rfl, hE19_9⟩
      have z19_9 := hE19_9.lt
      replace hE := hE.ext hE19_9
      replace o0_0 := o0_0.ext hE19_9
      replace o0_1 := o0_1.ext hE19_9
      replace o3_4 := o3_4.ext hE19_9
      replace o4_4 := o4_4.ext hE19_9
      refine ⟨fun _ _ => (Bks.cons o0_0.blk (Bks.cons o0_1.blk (Bks.cons o3_4.blk (Bks.cons o4_4.blk Bks.nil)))), ?_⟩
      refine RegD.one (i := 10) (by kernel_rfl) rfl rfl rfl rfl (Does.bslA ([encB (bR (a.getD 4 0) (subC b a ++ [f])), encB (bR (b.getD 4 0) (subC a b ++ [f]))]) slA22 rfl rfl rfl rfl rfl rfl) ?_
      rintro _ H19_10 ⟨rfl, hp19_10⟩
      have hn19_10 := New.of_eq hp19_10
      have z19_10 := hn19_10.size
      replace hE := hE.ext hn19_10.ext
      replace o0_0 := o0_0.ext hn19_10.ext
      replace o0_1 := o0_1.ext hn19_10.ext
      replace o3_4 := o3_4.ext hn19_10.ext
      replace o4_4 := o4_4.ext hn19_10.ext
      have o19_10 := hn19_10.own
      refine ⟨fun _ _ => (Bks.cons o0_0.blk (Bks.cons o0_1.blk (Bks.cons o3_4.blk (Bks.cons o4_4.blk Bks.nil)))), ?_⟩
      refine RegD.tpur (i := 11) rfl rfl rfl rfl (by kernel_rfl) (Pur.asg rfl) ?_
      refine RegD.tpur (i := 12) rfl rfl rfl rfl (by kernel_rfl) (Pur.asg rfl) ?_
      refine RegD.done (by kernel_rfl) ?_
      refine At.ret rfl Try.func132 rfl ?_
      exact uniP_two (by rw [hy]; unfold uniQ; simp_all) rfl rfl o19_10 (by omega) hE
    first | (simp only [decide_eq_true_eq, decide_eq_false_iff_not, Bool.not_eq_true', Bool.not_eq_false', ne_eq, Decidable.not_not, Bool.not_eq_true, Bool.not_eq_false] at q65) | (dsimp only at q65) | skip
    refine Reg.skip rfl rfl rfl rfl rfl rfl rfl ?_
    refine Reg.skip rfl rfl rfl rfl rfl rfl rfl ?_
    refine Reg.skipU rfl rfl rfl rfl rfl rfl ?_
    refine Reg.skipU rfl rfl rfl rfl rfl rfl ?_
    refine Reg.skipU rfl rfl rfl rfl rfl rfl ?_
    refine Reg.skip rfl rfl rfl rfl rfl rfl rfl ?_
    refine Reg.pur rfl rfl rfl rfl (Pur.pickF rfl rfl) ?_
    refine Reg.pur rfl rfl rfl rfl (Pur.asg rfl) ?_
    refine Reg.nil ?_
    refine At.condF rfl rfl rfl ?_
    refine At.region rfl rfl ?_
    refine Reg.pur rfl rfl rfl rfl (Pur.mv rfl) ?_
    refine Reg.pur rfl rfl rfl rfl (Pur.asg rfl) ?_
    refine Reg.nil ?_
    refine At.condF rfl rfl (by first | exact q58 | exact decide_eq_true q58 | exact decide_eq_false q58 | simpa using q58) ?_
    refine At.region rfl rfl ?_
    refine Reg.pur rfl rfl rfl rfl (Pur.fld _ fo28_1 rfl) ?_
    refine Reg.lod rfl rfl rfl rfl (Lod.ld sc3 rfl o0_1.blk (hat4 b hb5)) ?_
    refine Reg.pur rfl rfl rfl rfl (Pur.eql rfl rfl) ?_
    refine Reg.pur rfl rfl rfl rfl (Pur.asg rfl) ?_
    refine Reg.nil ?_
    refine At.cond rfl rfl (fun q75 => ?_) (fun q75 => ?_)
    · first | (simp only [decide_eq_true_eq, decide_eq_false_iff_not, Bool.not_eq_true', Bool.not_eq_false', ne_eq, Decidable.not_not, Bool.not_eq_true, Bool.not_eq_false] at q75) | (dsimp only at q75) | skip
      refine At.region rfl rfl ?_
      refine Reg.pur rfl rfl rfl rfl (Pur.fld _ fo28_1 rfl) ?_
      refine Reg.lod rfl rfl rfl rfl (Lod.ld sc3 rfl o0_0.blk (hat4 a ha5)) ?_
      refine Reg.lod rfl rfl rfl rfl (Lod.ldn ag26 rfl o4_4.blk (by first | exact whole rfl | rfl | (simp only [List.drop_succ_cons, List.drop_zero, List.take_succ_cons, List.take_zero]; rfl)) (by first | rfl | (simp [*]; done))) ?_
      refine Reg.op rfl rfl rfl rfl (Does.call rfl (rowBind_ok _ _ _ (subC_len b a))) ?_
      rintro _ H12_3 ⟨rfl, hE12_3⟩
      have z12_3 := hE12_3.lt
      replace hE := hE.ext hE12_3
      replace o0_0 := o0_0.ext hE12_3
      replace o0_1 := o0_1.ext hE12_3
      replace o3_4 := o3_4.ext hE12_3
      replace o4_4 := o4_4.ext hE12_3
      refine Reg.op rfl rfl rfl rfl (Does.bslA ([encB (bR (a.getD 4 0) (subC b a ++ [-1]))]) slA22 rfl rfl rfl rfl rfl rfl) ?_
      rintro _ H12_4 ⟨rfl, hp12_4⟩
      have hn12_4 := New.of_eq hp12_4
      have z12_4 := hn12_4.size
      replace hE := hE.ext hn12_4.ext
      replace o0_0 := o0_0.ext hn12_4.ext
      replace o0_1 := o0_1.ext hn12_4.ext
      replace o3_4 := o3_4.ext hn12_4.ext
      replace o4_4 := o4_4.ext hn12_4.ext
      have o12_4 := hn12_4.own
      refine Reg.pur rfl rfl rfl rfl (Pur.asg rfl) ?_
      refine Reg.pur rfl rfl rfl rfl (Pur.asg rfl) ?_
      refine Reg.nil ?_
      refine At.ret rfl Try.func132 rfl ?_
      exact uniP_one (by rw [hy]; unfold uniQ; simp_all) rfl o12_4 (by omega) hE
    first | (simp only [decide_eq_true_eq, decide_eq_false_iff_not, Bool.not_eq_true', Bool.not_eq_false', ne_eq, Decidable.not_not, Bool.not_eq_true, Bool.not_eq_false] at q75) | (dsimp only at q75) | skip
    refine At.region rfl rfl ?_
    refine Reg.pur rfl rfl rfl rfl (Pur.fld _ fo28_1 rfl) ?_
    refine Reg.lod rfl rfl rfl rfl (Lod.ld sc3 rfl o0_0.blk (hat4 a ha5)) ?_
    refine Reg.pur rfl rfl rfl rfl (Pur.eql rfl rfl) ?_
    refine Reg.pur rfl rfl rfl rfl (Pur.asg rfl) ?_
    refine Reg.nil ?_
    refine At.cond rfl rfl (fun q84 => ?_) (fun q84 => ?_)
    · first | (simp only [decide_eq_true_eq, decide_eq_false_iff_not, Bool.not_eq_true', Bool.not_eq_false', ne_eq, Decidable.not_not, Bool.not_eq_true, Bool.not_eq_false] at q84) | (dsimp only at q84) | skip
      refine At.region rfl rfl ?_
      refine Reg.pur rfl rfl rfl rfl (Pur.fld _ fo28_1 rfl) ?_
      refine Reg.lod rfl rfl rfl rfl (Lod.ld sc3 rfl o0_1.blk (hat4 b hb5)) ?_
      refine Reg.lod rfl rfl rfl rfl (Lod.ldn ag26 rfl o3_4.blk (by first | exact whole rfl | rfl | (simp only [List.drop_succ_cons, List.drop_zero, List.take_succ_cons, List.take_zero]; rfl)) (by first | rfl | (simp [*]; done))) ?_
      refine Reg.op rfl rfl rfl rfl (Does.call rfl (rowBind_ok _ _ _ (subC_len a b))) ?_
      rintro _ H14_3 ⟨rfl, hE14_3⟩
      have z14_3 := hE14_3.lt
      replace hE := hE.ext hE14_3
      replace o0_0 := o0_0.ext hE14_3
      replace o0_1 := o0_1.ext hE14_3
      replace o3_4 := o3_4.ext hE14_3
      replace o4_4 := o4_4.ext hE14_3
      refine Reg.op rfl rfl rfl rfl (Does.bslA ([encB (bR (b.getD 4 0) (subC a b ++ [-1]))]) slA22 rfl rfl rfl rfl rfl rfl) ?_
      rintro _ H14_4 ⟨rfl, hp14_4⟩
      have hn14_4 := New.of_eq hp14_4
      have z14_4 := hn14_4.size
      replace hE := hE.ext hn14_4.ext
      replace o0_0 := o0_0.ext hn14_4.ext
      replace o0_1 := o0_1.ext hn14_4.ext
      replace o3_4 := o3_4.ext hn14_4.ext
      replace o4_4 := o4_4.ext hn14_4.ext
      have o14_4 := hn14_4.own
      refine Reg.pur rfl rfl rfl rfl (Pur.asg rfl) ?_
      refine Reg.pur rfl rfl rfl rfl (Pur.asg rfl) ?_
      refine Reg.nil ?_
      refine At.ret rfl Try.func132 rfl ?_
      exact uniP_one (by rw [hy]; unfold uniQ; simp_all) rfl o14_4 (by omega) hE
    first | (simp only [decide_eq_true_eq, decide_eq_false_iff_not, Bool.not_eq_true', Bool.not_eq_false', ne_eq, Decidable.not_not, Bool.not_eq_true, Bool.not_eq_false] at q84) | (dsimp only at q84) | skip
    refine At.region rfl rfl ?_
    refine Reg.pur rfl rfl rfl rfl (Pur.mv rfl) ?_
    refine Reg.pur rfl rfl rfl rfl (Pur.not rfl) ?_
    refine Reg.pur rfl rfl rfl rfl (Pur.asg rfl) ?_
    refine Reg.nil ?_
    refine At.cond rfl rfl (fun q93 => ?_) (fun q93 => ?_)
    · first | (simp only [decide_eq_true_eq, decide_eq_false_iff_not, Bool.not_eq_true', Bool.not_eq_false', ne_eq, Decidable.not_not, Bool.not_eq_true, Bool.not_eq_false] at q93) | (dsimp only at q93) | skip
      refine At.region rfl rfl ?_
      refine Reg.pur rfl rfl rfl rfl (Pur.fld _ fo28_1 rfl) ?_
      refine Reg.lod rfl rfl rfl rfl (Lod.ld sc3 rfl o0_0.blk (hat4 a ha5)) ?_
      refine Reg.lod rfl rfl rfl rfl (Lod.ldn ag26 rfl o4_4.blk (by first | exact whole rfl | rfl | (simp only [List.drop_succ_cons, List.drop_zero, List.take_succ_cons, List.take_zero]; rfl)) (by first | rfl | (simp [*]; done))) ?_
      refine Reg.pur rfl rfl rfl rfl (Pur.fld _ fo28_1 rfl) ?_
      refine Reg.lod rfl rfl rfl rfl (Lod.ld sc3 rfl o0_1.blk (hat4 b hb5)) ?_
      refine Reg.op rfl rfl rfl rfl (Does.call rfl (rowBind_ok _ _ _ (subC_len b a))) ?_
      rintro _ H16_5 ⟨rfl, hE16_5⟩
      have z16_5 := hE16_5.lt
      replace hE := hE.ext hE16_5
      replace o0_0 := o0_0.ext hE16_5
      replace o0_1 := o0_1.ext hE16_5
      replace o3_4 := o3_4.ext hE16_5
      replace o4_4 := o4_4.ext hE16_5
      refine Reg.op rfl rfl rfl rfl (Does.bslA ([encB (bR (a.getD 4 0) (subC b a ++ [b.getD 4 0]))]) slA22 rfl rfl rfl rfl rfl rfl) ?_
      rintro _ H16_6 ⟨rfl, hp16_6⟩
      have hn16_6 := New.of_eq hp16_6
      have z16_6 := hn16_6.size
      replace hE := hE.ext hn16_6.ext
      replace o0_0 := o0_0.ext hn16_6.ext
      replace o0_1 := o0_1.ext hn16_6.ext
      replace o3_4 := o3_4.ext hn16_6.ext
      replace o4_4 := o4_4.ext hn16_6.ext
      have o16_6 := hn16_6.own
      refine Reg.pur rfl rfl rfl rfl (Pur.asg rfl) ?_
      refine Reg.pur rfl rfl rfl rfl (Pur.asg rfl) ?_
      refine Reg.nil ?_
      refine At.ret rfl Try.func132 rfl ?_
      exact uniP_one (by rw [hy]; unfold uniQ; simp_all) rfl o16_6 (by omega) hE
    first | (simp only [decide_eq_true_eq, decide_eq_false_iff_not, Bool.not_eq_true', Bool.not_eq_false', ne_eq, Decidable.not_not, Bool.not_eq_true, Bool.not_eq_false] at q93) | (dsimp only at q93) | skip
    refine At.region rfl rfl ?_
    refine Reg.pur rfl rfl rfl rfl (Pur.mv rfl) ?_
    refine Reg.pur rfl rfl rfl rfl (Pur.not rfl) ?_
    refine Reg.pur rfl rfl rfl rfl (Pur.asg rfl) ?_
    refine Reg.nil ?_
    refine At.cond rfl rfl (fun q103 => ?_) (fun q103 => ?_)
    · first | (simp only [decide_eq_true_eq, decide_eq_false_iff_not, Bool.not_eq_true', Bool.not_eq_false', ne_eq, Decidable.not_not, Bool.not_eq_true, Bool.not_eq_false] at q103) | (dsimp only at q103) | skip
      refine At.region rfl rfl ?_
      refine Reg.pur rfl rfl rfl rfl (Pur.fld _ fo28_1 rfl) ?_
      refine Reg.lod rfl rfl rfl rfl (Lod.ld sc3 rfl o0_1.blk (hat4 b hb5)) ?_
      refine Reg.lod rfl rfl rfl rfl (Lod.ldn ag26 rfl o3_4.blk (by first | exact whole rfl | rfl | (simp only [List.drop_succ_cons, List.drop_zero, List.take_succ_cons, List.take_zero]; rfl)) (by first | rfl | (simp [*]; done))) ?_
      refine Reg.pur rfl rfl rfl rfl (Pur.fld _ fo28_1 rfl) ?_
      refine Reg.lod rfl rfl rfl rfl (Lod.ld sc3 rfl o0_0.blk (hat4 a ha5)) ?_
      refine Reg.op rfl rfl rfl rfl (Does.call rfl (rowBind_ok _ _ _ (subC_len a b))) ?_
      rintro _ H18_5 ⟨rfl, hE18_5⟩
      have z18_5 := hE18_5.lt
      replace hE := hE.ext hE18_5
      replace o0_0 := o0_0.ext hE18_5
      replace o0_1 := o0_1.ext hE18_5
      replace o3_4 := o3_4.ext hE18_5
      replace o4_4 := o4_4.ext hE18_5
      refine Reg.op rfl rfl rfl rfl (Does.bslA ([encB (bR (b.getD 4 0) (subC a b ++ [a.getD 4 0]))]) slA22 rfl rfl rfl rfl rfl rfl) ?_
      rintro _ H18_6 ⟨rfl, hp18_6⟩
      have hn18_6 := New.of_eq hp18_6
      have z18_6 := hn18_6.size
      replace hE := hE.ext hn18_6.ext
      replace o0_0 := o0_0.ext hn18_6.ext
      replace o0_1 := o0_1.ext hn18_6.ext
      replace o3_4 := o3_4.ext hn18_6.ext
      replace o4_4 := o4_4.ext hn18_6.ext
      have o18_6 := hn18_6.own
      refine Reg.pur rfl rfl rfl rfl (Pur.asg rfl) ?_
      refine Reg.pur rfl rfl rfl rfl (Pur.asg rfl) ?_
      refine Reg.nil ?_
      refine At.ret rfl Try.func132 rfl ?_
      exact uniP_one (by rw [hy]; unfold uniQ; simp_all) rfl o18_6 (by omega) hE
    first | (simp only [decide_eq_true_eq, decide_eq_false_iff_not, Bool.not_eq_true', Bool.not_eq_false', ne_eq, Decidable.not_not, Bool.not_eq_true, Bool.not_eq_false] at q103) | (dsimp only at q103) | skip
    refine At.drawE ((Bks.cons o0_0.blk (Bks.cons o0_1.blk (Bks.cons o3_4.blk (Bks.cons o4_4.blk Bks.nil))))) [] mixed rfl rfl ?_
    refine RegD.tpur (i := 0) rfl rfl rfl rfl (by kernel_rfl) (Pur.fld _ fo28_1 rfl) ?_
    refine RegD.take (i := 1) rfl rfl rfl rfl (by kernel_rfl) (Bks.cons o0_0.blk (Bks.cons o0_1.blk (Bks.cons o3_4.blk (Bks.cons o4_4.blk Bks.nil)))) (fun H hS => Lod.ld sc3 rfl hS.hd (hat4 a ha5)) ?_
    refine RegD.take (i := 2) rfl rfl rfl rfl (by kernel_rfl) (Bks.cons o0_0.blk (Bks.cons o0_1.blk (Bks.cons o3_4.blk (Bks.cons o4_4.blk Bks.nil)))) (fun H hS => Lod.ldn ag26 rfl hS.tl.tl.tl.hd (by first | exact whole rfl | rfl | (simp only [List.drop_succ_cons, List.drop_zero, List.take_succ_cons, List.take_zero]; rfl)) (by first | rfl | (simp [*]; done))) ?_
    refine RegD.tpur (i := 3) rfl rfl rfl rfl (by kernel_rfl) (Pur.mv rfl) ?_
    refine RegD.tpur (i := 5) rfl rfl rfl rfl (by kernel_rfl) (Pur.fld _ fo28_1 rfl) ?_
    refine RegD.take (i := 6) rfl rfl rfl rfl (by kernel_rfl) (Bks.cons o0_0.blk (Bks.cons o0_1.blk (Bks.cons o3_4.blk (Bks.cons o4_4.blk Bks.nil)))) (fun H hS => Lod.ld sc3 rfl hS.tl.hd (hat4 b hb5)) ?_
    refine RegD.take (i := 7) rfl rfl rfl rfl (by kernel_rfl) (Bks.cons o0_0.blk (Bks.cons o0_1.blk (Bks.cons o3_4.blk (Bks.cons o4_4.blk Bks.nil)))) (fun H hS => Lod.ldn ag26 rfl hS.tl.tl.hd (by first | exact whole rfl | rfl | (simp only [List.drop_succ_cons, List.drop_zero, List.take_succ_cons, List.take_zero]; rfl)) (by first | rfl | (simp [*]; done))) ?_
    refine RegD.tpur (i := 8) rfl rfl rfl rfl (by kernel_rfl) (Pur.mv rfl) ?_
    refine RegD.one (i := 4) (by kernel_rfl) rfl rfl rfl rfl (Does.call rfl (rowBind_ok _ _ _ (subC_len b a))) ?_
    rintro _ H19_4 ⟨rfl, hE19_4⟩
    have z19_4 := hE19_4.lt
    replace hE := hE.ext hE19_4
    replace o0_0 := o0_0.ext hE19_4
    replace o0_1 := o0_1.ext hE19_4
    replace o3_4 := o3_4.ext hE19_4
    replace o4_4 := o4_4.ext hE19_4
    refine ⟨fun _ _ => (Bks.cons o0_0.blk (Bks.cons o0_1.blk (Bks.cons o3_4.blk (Bks.cons o4_4.blk Bks.nil)))), ?_⟩
    refine RegD.one (i := 9) (by kernel_rfl) rfl rfl rfl rfl (Does.call rfl (rowBind_ok _ _ _ (subC_len a b))) ?_
    rintro _ H19_9 ⟨rfl, hE19_9⟩
    have z19_9 := hE19_9.lt
    replace hE := hE.ext hE19_9
    replace o0_0 := o0_0.ext hE19_9
    replace o0_1 := o0_1.ext hE19_9
    replace o3_4 := o3_4.ext hE19_9
    replace o4_4 := o4_4.ext hE19_9
    refine ⟨fun _ _ => (Bks.cons o0_0.blk (Bks.cons o0_1.blk (Bks.cons o3_4.blk (Bks.cons o4_4.blk Bks.nil)))), ?_⟩
    refine RegD.one (i := 10) (by kernel_rfl) rfl rfl rfl rfl (Does.bslA ([encB (bR (a.getD 4 0) (subC b a ++ [f])), encB (bR (b.getD 4 0) (subC a b ++ [f]))]) slA22 rfl rfl rfl rfl rfl rfl) ?_
    rintro _ H19_10 ⟨rfl, hp19_10⟩
    have hn19_10 := New.of_eq hp19_10
    have z19_10 := hn19_10.size
    replace hE := hE.ext hn19_10.ext
    replace o0_0 := o0_0.ext hn19_10.ext
    replace o0_1 := o0_1.ext hn19_10.ext
    replace o3_4 := o3_4.ext hn19_10.ext
    replace o4_4 := o4_4.ext hn19_10.ext
    have o19_10 := hn19_10.own
    refine ⟨fun _ _ => (Bks.cons o0_0.blk (Bks.cons o0_1.blk (Bks.cons o3_4.blk (Bks.cons o4_4.blk Bks.nil)))), ?_⟩
    refine RegD.tpur (i := 11) rfl rfl rfl rfl (by kernel_rfl) (Pur.asg rfl) ?_
    refine RegD.tpur (i := 12) rfl rfl rfl rfl (by kernel_rfl) (Pur.asg rfl) ?_
    refine RegD.done (by kernel_rfl) ?_
    refine At.ret rfl Try.func132 rfl ?_
    exact uniP_two (by rw [hy]; unfold uniQ; simp_all) rfl rfl o19_10 (by omega) hE
  first | (simp only [decide_eq_true_eq, decide_eq_false_iff_not, Bool.not_eq_true', Bool.not_eq_false', ne_eq, Decidable.not_not, Bool.not_eq_true, Bool.not_eq_false] at q56) | (dsimp only at q56) | skip
  refine Reg.skip rfl rfl rfl rfl rfl rfl rfl ?_
  refine Reg.skip rfl rfl rfl rfl rfl rfl rfl ?_
  refine Reg.skipU rfl rfl rfl rfl rfl rfl ?_
  refine Reg.skipU rfl rfl rfl rfl rfl rfl ?_
  refine Reg.skipU rfl rfl rfl rfl rfl rfl ?_
  refine Reg.skip rfl rfl rfl rfl rfl rfl rfl ?_
  refine Reg.pur rfl rfl rfl rfl (Pur.pickF rfl rfl) ?_
  refine Reg.pur rfl rfl rfl rfl (Pur.asg rfl) ?_
  refine Reg.nil ?_
  refine At.condF rfl rfl rfl ?_
  refine At.region rfl rfl ?_
  refine Reg.pur rfl rfl rfl rfl (Pur.mv rfl) ?_
  refine Reg.pur rfl rfl rfl rfl (Pur.mv rfl) ?_
  refine Reg.case 65 rfl (fun q65 => ?_) (fun q65 => ?_)
  · first | (simp only [decide_eq_true_eq, decide_eq_false_iff_not, Bool.not_eq_true', Bool.not_eq_false', ne_eq, Decidable.not_not, Bool.not_eq_true, Bool.not_eq_false] at q65) | (dsimp only at q65) | skip
    refine Reg.gpur rfl rfl rfl rfl rfl rfl (Pur.mv rfl) ?_
    refine Reg.gpur rfl rfl rfl rfl rfl rfl (Pur.mv rfl) ?_
    refine Reg.case 67 rfl (fun q67 => ?_) (fun q67 => ?_)
    · first | (simp only [decide_eq_true_eq, decide_eq_false_iff_not, Bool.not_eq_true', Bool.not_eq_false', ne_eq, Decidable.not_not, Bool.not_eq_true, Bool.not_eq_false] at q67) | (dsimp only at q67) | skip
      refine Reg.skip rfl rfl rfl rfl rfl rfl rfl ?_
      refine Reg.skip rfl rfl rfl rfl rfl rfl rfl ?_
      refine Reg.skip rfl rfl rfl rfl rfl rfl rfl ?_
      refine Reg.gpur rfl rfl rfl rfl rfl rfl (Pur.pickT rfl rfl) ?_
      refine Reg.pur rfl rfl rfl rfl (Pur.pickT rfl rfl) ?_
      refine Reg.pur rfl rfl rfl rfl (Pur.asg rfl) ?_
      refine Reg.nil ?_
      refine At.condT rfl rfl rfl ?_
      refine At.region rfl rfl ?_
      refine Reg.pur rfl rfl rfl rfl (Pur.asg rfl) ?_
      refine Reg.pur rfl rfl rfl rfl (Pur.asg rfl) ?_
      refine Reg.nil ?_
      refine At.ret rfl Try.func132 rfl ?_
      exact uniP_nil (by rw [hy]; unfold uniQ; simp_all) hE
    first | (simp only [decide_eq_true_eq, decide_eq_false_iff_not, Bool.not_eq_true', Bool.not_eq_false', ne_eq, Decidable.not_not, Bool.not_eq_true, Bool.not_eq_false] at q67) | (dsimp only at q67) | skip
    refine Reg.gpur rfl rfl rfl rfl rfl rfl (Pur.fld _ fo28_1 rfl) ?_
    refine Reg.glod rfl rfl rfl rfl rfl rfl (Lod.ld sc3 rfl o0_0.blk (hat4 a ha5)) ?_
    refine Reg.gpur rfl rfl rfl rfl rfl rfl (Pur.eql rfl rfl) ?_
    refine Reg.gpur rfl rfl rfl rfl rfl rfl (Pur.pickF rfl rfl) ?_
    refine Reg.pur rfl rfl rfl rfl (Pur.pickT rfl rfl) ?_
    refine Reg.pur rfl rfl rfl rfl (Pur.asg rfl) ?_
    refine Reg.nil ?_
    refine At.cond rfl rfl (fun q54 => ?_) (fun q54 => ?_)
    · first | (simp only [decide_eq_true_eq, decide_eq_false_iff_not, Bool.not_eq_true', Bool.not_eq_false', ne_eq, Decidable.not_not, Bool.not_eq_true, Bool.not_eq_false] at q54) | (dsimp only at q54) | skip
      refine At.region rfl rfl ?_
      refine Reg.pur rfl rfl rfl rfl (Pur.asg rfl) ?_
      refine Reg.pur rfl rfl rfl rfl (Pur.asg rfl) ?_
      refine Reg.nil ?_
      refine At.ret rfl Try.func132 rfl ?_
      exact uniP_nil (by rw [hy]; unfold uniQ; simp_all) hE
    first | (simp only [decide_eq_true_eq, decide_eq_false_iff_not, Bool.not_eq_true', Bool.not_eq_false', ne_eq, Decidable.not_not, Bool.not_eq_true, Bool.not_eq_false] at q54) | (dsimp only at q54) | skip
    refine At.region rfl rfl ?_
    refine Reg.pur rfl rfl rfl rfl (Pur.mv rfl) ?_
    refine Reg.pur rfl rfl rfl rfl (Pur.asg rfl) ?_
    refine Reg.nil ?_
    refine At.condF rfl rfl (by first | exact q67 | exact decide_eq_true q67 | exact decide_eq_false q67 | simpa using q67) ?_
    refine At.region rfl rfl ?_
    refine Reg.pur rfl rfl rfl rfl (Pur.fld _ fo28_1 rfl) ?_
    refine Reg.lod rfl rfl rfl rfl (Lod.ld sc3 rfl o0_1.blk (hat4 b hb5)) ?_
    refine Reg.pur rfl rfl rfl rfl (Pur.eql rfl rfl) ?_
    refine Reg.pur rfl rfl rfl rfl (Pur.asg rfl) ?_
    refine Reg.nil ?_
    refine At.cond rfl rfl (fun q75 => ?_) (fun q75 => ?_)
    · first | (simp only [decide_eq_true_eq, decide_eq_false_iff_not, Bool.not_eq_true', Bool.not_eq_false', ne_eq, Decidable.not_not, Bool.not_eq_true, Bool.not_eq_false] at q75) | (dsimp only at q75) | skip
      refine At.region rfl rfl ?_
      refine Reg.pur rfl rfl rfl rfl (Pur.fld _ fo28_1 rfl) ?_
      refine Reg.lod rfl rfl rfl rfl (Lod.ld sc3 rfl o0_0.blk (hat4 a ha5)) ?_
      refine Reg.lod rfl rfl rfl rfl (Lod.ldn ag26 rfl o4_4.blk (by first | exact whole rfl | rfl | (simp only [List.drop_succ_cons, List.drop_zero, List.take_succ_cons, List.take_zero]; rfl)) (by first | rfl | (simp [*]; done))) ?_
      refine Reg.op rfl rfl rfl rfl (Does.call rfl (rowBind_ok _ _ _ (subC_len b a))) ?_
      rintro _ H12_3 ⟨rfl, hE12_3⟩
      have z12_3 := hE12_3.lt
      replace hE := hE.ext hE12_3
      replace o0_0 := o0_0.ext hE12_3
      replace o0_1 := o0_1.ext hE12_3
      replace o3_4 := o3_4.ext hE12_3
      replace o4_4 := o4_4.ext hE12_3
      refine Reg.op rfl rfl rfl rfl (Does.bslA ([encB (bR (a.getD 4 0) (subC b a ++ [-1]))]) slA22 rfl rfl rfl rfl rfl rfl) ?_
      rintro _ H12_4 ⟨rfl, hp12_4⟩
      have hn12_4 := New.of_eq hp12_4
      have z12_4 := hn12_4.size
      replace hE := hE.ext hn12_4.ext
      replace o0_0 := o0_0.ext hn12_4.ext
      replace o0_1 := o0_1.ext hn12_4.ext
      replace o3_4 := o3_4.ext hn12_4.ext
      replace o4_4 := o4_4.ext hn12_4.ext
      have o12_4 := hn12_4.own
      refine Reg.pur rfl rfl rfl rfl (Pur.asg rfl) ?_
      refine Reg.pur rfl rfl rfl rfl (Pur.asg rfl) ?_
      refine Reg.nil ?_
      refine At.ret rfl Try.func132 rfl ?_
      exact uniP_one (by rw [hy]; unfold uniQ; simp_all) rfl o12_4 (by omega) hE
    first | (simp only [decide_eq_true_eq, decide_eq_false_iff_not, Bool.not_eq_true', Bool.not_eq_false', ne_eq, Decidable.not_not, Bool.not_eq_true, Bool.not_eq_false] at q75) | (dsimp only at q75) | skip
    refine At.region rfl rfl ?_
    refine Reg.pur rfl rfl rfl rfl (Pur.fld _ fo28_1 rfl) ?_
    refine Reg.lod rfl rfl rfl rfl (Lod.ld sc3 rfl o0_0.blk (hat4 a ha5)) ?_
    refine Reg.pur rfl rfl rfl rfl (Pur.eql rfl rfl) ?_
    refine Reg.pur rfl rfl rfl rfl (Pur.asg rfl) ?_
    refine Reg.nil ?_
    refine At.cond rfl rfl (fun q84 => ?_) (fun q84 => ?_)
    · first | (simp only [decide_eq_true_eq, decide_eq_false_iff_not, Bool.not_eq_true', Bool.not_eq_false', ne_eq, Decidable.not_not, Bool.not_eq_true, Bool.not_eq_false] at q84) | (dsimp only at q84) | skip
      refine At.region rfl rfl ?_
      refine Reg.pur rfl rfl rfl rfl (Pur.fld _ fo28_1 rfl) ?_
      refine Reg.lod rfl rfl rfl rfl (Lod.ld sc3 rfl o0_1.blk (hat4 b hb5)) ?_
      refine Reg.lod rfl rfl rfl rfl (Lod.ldn ag26 rfl o3_4.blk (by first | exact whole rfl | rfl | (simp only [List.drop_succ_cons, List.drop_zero, List.take_succ_cons, List.take_zero]; rfl)) (by first | rfl | (simp [*]; done))) ?_
      refine Reg.op rfl rfl rfl rfl (Does.call rfl (rowBind_ok _ _ _ (subC_len a b))) ?_
      rintro _ H14_3 ⟨rfl, hE14_3⟩
      have z14_3 := hE14_3.lt
      replace hE := hE.ext hE14_3
      replace o0_0 := o0_0.ext hE14_3
      replace o0_1 := o0_1.ext hE14_3
      replace o3_4 := o3_4.ext hE14_3
      replace o4_4 := o4_4.ext hE14_3
      refine Reg.op rfl rfl rfl rfl (Does.bslA ([encB (bR (b.getD 4 0) (subC a b ++ [-1]))]) slA22 rfl rfl rfl rfl rfl rfl) ?_
      rintro _ H14_4 ⟨rfl, hp14_4⟩
      have hn14_4 := New.of_eq hp14_4
      have z14_4 := hn14_4.size
      replace hE := hE.ext hn14_4.ext
      replace o0_0 := o0_0.ext hn14_4.ext
      replace o0_1 := o0_1.ext hn14_4.ext
      replace o3_4 := o3_4.ext hn14_4.ext
      replace o4_4 := o4_4.ext hn14_4.ext
      have o14_4 := hn14_4.own
      refine Reg.pur rfl rfl rfl rfl (Pur.asg rfl) ?_
      refine Reg.pur rfl rfl rfl rfl (Pur.asg rfl) ?_
      refine Reg.nil ?_
      refine At.ret rfl Try.func132 rfl ?_
      exact uniP_one (by rw [hy]; unfold uniQ; simp_all) rfl o14_4 (by omega) hE
    first | (simp only [decide_eq_true_eq, decide_eq_false_iff_not, Bool.not_eq_true', Bool.not_eq_false', ne_eq, Decidable.not_not, Bool.not_eq_true, Bool.not_eq_false] at q84) | (dsimp only at q84) | skip
    refine At.region rfl rfl ?_
    refine Reg.pur rfl rfl rfl rfl (Pur.mv rfl) ?_
    refine Reg.pur rfl rfl rfl rfl (Pur.not rfl) ?_
    refine Reg.pur rfl rfl rfl rfl (Pur.asg rfl) ?_
    refine Reg.nil ?_
    refine At.cond rfl rfl (fun q93 => ?_) (fun q93 => ?_)
    · first | (simp only [decide_eq_true_eq, decide_eq_false_iff_not, Bool.not_eq_true', Bool.not_eq_false', ne_eq, Decidable.not_not, Bool.not_eq_true, Bool.not_eq_false] at q93) | (dsimp only at q93) | skip
      refine At.region rfl rfl ?_
      refine Reg.pur rfl rfl rfl rfl (Pur.fld _ fo28_1 rfl) ?_
      refine Reg.lod rfl rfl rfl rfl (Lod.ld sc3 rfl o0_0.blk (hat4 a ha5)) ?_
      refine Reg.lod rfl rfl rfl rfl (Lod.ldn ag26 rfl o4_4.blk (by first | exact whole rfl | rfl | (simp only [List.drop_succ_cons, List.drop_zero, List.take_succ_cons, List.take_zero]; rfl)) (by first | rfl | (simp [*]; done))) ?_
      refine Reg.pur rfl rfl rfl rfl (Pur.fld _ fo28_1 rfl) ?_
      refine Reg.lod rfl rfl rfl rfl (Lod.ld sc3 rfl o0_1.blk (hat4 b hb5)) ?_
      refine Reg.op rfl rfl rfl rfl (Does.call rfl (rowBind_ok _ _ _ (subC_len b a))) ?_
      rintro _ H16_5 ⟨rfl, hE16_5⟩
      have z16_5 := hE16_5.lt
      replace hE := hE.ext hE16_5
      replace o0_0 := o0_0.ext hE16_5
      replace o0_1 := o0_1.ext hE16_5
      replace o3_4 := o3_4.ext hE16_5
      replace o4_4 := o4_4.ext hE16_5
      refine Reg.op rfl rfl rfl rfl (Does.bslA ([encB (bR (a.getD 4 0) (subC b a ++ [b.getD 4 0]))]) slA22 rfl rfl rfl rfl rfl rfl) ?_
      rintro _ H16_6 ⟨rfl, hp16_6⟩
      have hn16_6 := New.of_eq hp16_6
      have z16_6 := hn16_6.size
      replace hE := hE.ext hn16_6.ext
      replace o0_0 := o0_0.ext hn16_6.ext
      replace o0_1 := o0_1.ext hn16_6.ext
      replace o3_4 := o3_4.ext hn16_6.ext
      replace o4_4 := o4_4.ext hn16_6.ext
      have o16_6 := hn16_6.own
      refine Reg.pur rfl rfl rfl rfl (Pur.asg rfl) ?_
      refine Reg.pur rfl rfl rfl rfl (Pur.asg rfl) ?_
      refine Reg.nil ?_
      refine At.ret rfl Try.func132 rfl ?_
      exact uniP_one (by rw [hy]; unfold uniQ; simp_all) rfl o16_6 (by omega) hE
    first | (simp only [decide_eq_true_eq, decide_eq_false_iff_not, Bool.not_eq_true', Bool.not_eq_false', ne_eq, Decidable.not_not, Bool.not_eq_true, Bool.not_eq_false] at q93) | (dsimp only at q93) | skip
    refine At.region rfl rfl ?_
    refine Reg.pur rfl rfl rfl rfl (Pur.mv rfl) ?_
    refine Reg.pur rfl rfl rfl rfl (Pur.not rfl) ?_
    refine Reg.pur rfl rfl rfl rfl (Pur.asg rfl) ?_
    refine Reg.nil ?_
    refine At.cond rfl rfl (fun q103 => ?_) (fun q103 => ?_)
    · first | (simp only [decide_eq_true_eq, decide_eq_false_iff_not, Bool.not_eq_true', Bool.not_eq_false', ne_eq, Decidable.not_not, Bool.not_eq_true, Bool.not_eq_false] at q103) | (dsimp only at q103) | skip
      refine At.region rfl rfl ?_
      refine Reg.pur rfl rfl rfl rfl (Pur.fld _ fo28_1 rfl) ?_
      refine Reg.lod rfl rfl rfl rfl (Lod.ld sc3 rfl o0_1.blk (hat4 b hb5)) ?_
      refine Reg.lod rfl rfl rfl rfl (Lod.ldn ag26 rfl o3_4.blk (by first | exact whole rfl | rfl | (simp only [List.drop_succ_cons, List.drop_zero, List.take_succ_cons, List.take_zero]; rfl)) (by first | rfl | (simp [*]; done))) ?_
      refine Reg.pur rfl rfl rfl rfl (Pur.fld _ fo28_1 rfl) ?_
      refine Reg.lod rfl rfl rfl rfl (Lod.ld sc3 rfl o0_0.blk (hat4 a ha5)) ?_
      refine Reg.op rfl rfl rfl rfl (Does.call rfl (rowBind_ok _ _ _ (subC_len a b))) ?_
      rintro _ H18_5 ⟨rfl, hE18_5⟩
      have z18_5 := hE18_5.lt
      replace hE := hE.ext hE18_5
      replace o0_0 := o0_0.ext hE18_5
      replace o0_1 := o0_1.ext hE18_5
      replace o3_4 := o3_4.ext hE18_5
      replace o4_4 := o4_4.ext hE18_5
      refine Reg.op rfl rfl rfl rfl (Does.bslA ([encB (bR (b.getD 4 0) (subC a b ++ [a.getD 4 0]))]) slA22 rfl rfl rfl rfl rfl rfl) ?_
      rintro _ H18_6 ⟨rfl, hp18_6⟩
      have hn18_6 := New.of_eq hp18_6
      have z18_6 := hn18_6.size
      replace hE := hE.ext hn18_6.ext
      replace o0_0 := o0_0.ext hn18_6.ext
      replace o0_1 := o0_1.ext hn18_6.ext
      replace o3_4 := o3_4.ext hn18_6.ext
      replace o4_4 := o4_4.ext hn18_6.ext
      have o18_6 := hn18_6.own
      refine Reg.pur rfl rfl rfl rfl (Pur.asg rfl) ?_
      refine Reg.pur rfl rfl rfl rfl (Pur.asg rfl) ?_
      refine Reg.nil ?_
      refine At.ret rfl Try.func132 rfl ?_
      exact uniP_one (by rw [hy]; unfold uniQ; simp_all) rfl o18_6 (by omega) hE
    first | (simp only [decide_eq_true_eq, decide_eq_false_iff_not, Bool.not_eq_true', Bool.not_eq_false', ne_eq, Decidable.not_not, Bool.not_eq_true, Bool.not_eq_false] at q103) | (dsimp only at q103) | skip
    refine At.drawE ((Bks.cons o0_0.blk (Bks.cons o0_1.blk (Bks.cons o3_4.blk (Bks.cons o4_4.blk Bks.nil))))) [] mixed rfl rfl ?_
    refine RegD.tpur (i := 0) rfl rfl rfl rfl (by kernel_rfl) (Pur.fld _ fo28_1 rfl) ?_
    refine RegD.take (i := 1) rfl rfl rfl rfl (by kernel_rfl) (Bks.cons o0_0.blk (Bks.cons o0_1.blk (Bks.cons o3_4.blk (Bks.cons o4_4.blk Bks.nil)))) (fun H hS => Lod.ld sc3 rfl hS.hd (hat4 a ha5)) ?_
    refine RegD.take (i := 2) rfl rfl rfl rfl (by kernel_rfl) (Bks.cons o0_0.blk (Bks.cons o0_1.blk (Bks.cons o3_4.blk (Bks.cons o4_4.blk Bks.nil)))) (fun H hS => Lod.ldn ag26 rfl hS.tl.tl.tl.hd (by first | exact whole rfl | rfl | (simp only [List.drop_succ_cons, List.drop_zero, List.take_succ_cons, List.take_zero]; rfl)) (by first | rfl | (simp [*]; done))) ?_
    refine RegD.tpur (i := 3) rfl rfl rfl rfl (by kernel_rfl) (Pur.mv rfl) ?_
    refine RegD.tpur (i := 5) rfl rfl rfl rfl (by kernel_rfl) (Pur.fld _ fo28_1 rfl) ?_
    refine RegD.take (i := 6) rfl rfl rfl rfl (by kernel_rfl) (Bks.cons o0_0.blk (Bks.cons o0_1.blk (Bks.cons o3_4.blk (Bks.cons o4_4.blk Bks.nil)))) (fun H hS => Lod.ld sc3 rfl hS.tl.hd (hat4 b hb5)) ?_
    refine RegD.take (i := 7) rfl rfl rfl rfl (by kernel_rfl) (Bks.cons o0_0.blk (Bks.cons o0_1.blk (Bks.cons o3_4.blk (Bks.cons o4_4.blk Bks.nil)))) (fun H hS => Lod.ldn ag26 rfl hS.tl.tl.hd (by first | exact whole rfl | rfl | (simp only [List.drop_succ_cons, List.drop_zero, List.take_succ_cons, List.take_zero]; rfl)) (by first | rfl | (simp [*]; done))) ?_
    refine RegD.tpur (i := 8) rfl rfl rfl rfl (by kernel_rfl) (Pur.mv rfl) ?_
    refine RegD.one (i := 4) (by kernel_rfl) rfl rfl rfl rfl (Does.call rfl (rowBind_ok _ _ _ (subC_len b a))) ?_
    rintro _ H19_4 ⟨rfl, hE19_4⟩
    have z19_4 := hE19_4.lt
    replace hE := hE.ext hE19_4
    replace o0_0 := o0_0.ext hE19_4
    replace o0_1 := o0_1.ext hE19_4
    replace o3_4 := o3_4.ext hE19_4
    replace o4_4 := o4_4.ext hE19_4
    refine ⟨fun _ _ => (Bks.cons o0_0.blk (Bks.cons o0_1.blk (Bks.cons o3_4.blk (Bks.cons o4_4.blk Bks.nil)))), ?_⟩
    refine RegD.one (i := 9) (by kernel_rfl) rfl rfl rfl rfl (Does.call rfl (rowBind_ok _ _ _ (subC_len a b))) ?_
    rintro _ H19_9 ⟨rfl, hE19_9⟩
    have z19_9 := hE19_9.lt
    replace hE := hE.ext hE19_9
    replace o0_0 := o0_0.ext hE19_9
    replace o0_1 := o0_1.ext hE19_9
    replace o3_4 := o3_4.ext hE19_9
    replace o4_4 := o4_4.ext hE19_9
    refine ⟨fun _ _ => (Bks.cons o0_0.blk (Bks.cons o0_1.blk (Bks.cons o3_4.blk (Bks.cons o4_4.blk Bks.nil)))), ?_⟩
    refine RegD.one (i := 10) (by kernel_rfl) rfl rfl rfl rfl (Does.bslA ([encB (bR (a.getD 4 0) (subC b a ++ [f])), encB (bR (b.getD 4 0) (subC a b ++ [f]))]) slA22 rfl rfl rfl rfl rfl rfl) ?_
    rintro _ H19_10 ⟨rfl, hp19_10⟩
    have hn19_10 := New.of_eq hp19_10
    have z19_10 := hn19_10.size
    replace hE := hE.ext hn19_10.ext
    replace o0_0 := o0_0.ext hn19_10.ext
    replace o0_1 := o0_1.ext hn19_10.ext
    replace o3_4 := o3_4.ext hn19_10.ext
    replace o4_4 := o4_4.ext hn19_10.ext
    have o19_10 := hn19_10.own
    refine ⟨fun _ _ => (Bks.cons o0_0.blk (Bks.cons o0_1.blk (Bks.cons o3_4.blk (Bks.cons o4_4.blk Bks.nil)))), ?_⟩
    refine RegD.tpur (i := 11) rfl rfl rfl rfl (by kernel_rfl) (Pur.asg rfl) ?_
    refine RegD.tpur (i := 12) rfl rfl rfl rfl (by kernel_rfl) (Pur.asg rfl) ?_
    refine RegD.done (by kernel_rfl) ?_
    refine At.ret rfl Try.func132 rfl ?_
    exact uniP_two (by rw [hy]; unfold uniQ; simp_all) rfl rfl o19_10 (by omega) hE
  first | (simp only [decide_eq_true_eq, decide_eq_false_iff_not, Bool.not_eq_true', Bool.not_eq_false', ne_eq, Decidable.not_not, Bool.not_eq_true, Bool.not_eq_false] at q65) | (dsimp only at q65) | skip
  refine Reg.skip rfl rfl rfl rfl rfl rfl rfl ?_
  refine Reg.skip rfl rfl rfl rfl rfl rfl rfl ?_
  refine Reg.skipU rfl rfl rfl rfl rfl rfl ?_
  refine Reg.skipU rfl rfl rfl rfl rfl rfl ?_
  refine Reg.skipU rfl rfl rfl rfl rfl rfl ?_
  refine Reg.skip rfl rfl rfl rfl rfl rfl rfl ?_
  refine Reg.pur rfl rfl rfl rfl (Pur.pickF rfl rfl) ?_
  refine Reg.pur rfl rfl rfl rfl (Pur.asg rfl) ?_
  refine Reg.nil ?_
  refine At.condF rfl rfl rfl ?_
  refine At.region rfl rfl ?_
  refine Reg.pur rfl rfl rfl rfl (Pur.mv rfl) ?_
  refine Reg.pur rfl rfl rfl rfl (Pur.asg rfl) ?_
  refine Reg.nil ?_
  refine At.cond rfl rfl (fun q73 => ?_) (fun q73 => ?_)
  · first | (simp only [decide_eq_true_eq, decide_eq_false_iff_not, Bool.not_eq_true', Bool.not_eq_false', ne_eq, Decidable.not_not, Bool.not_eq_true, Bool.not_eq_false] at q73) | (dsimp only at q73) | skip
    refine At.region rfl rfl ?_
    refine Reg.pur rfl rfl rfl rfl (Pur.asg rfl) ?_
    refine Reg.pur rfl rfl rfl rfl (Pur.asg rfl) ?_
    refine Reg.nil ?_
    refine At.ret rfl Try.func132 rfl ?_
    exact uniP_nil (by rw [hy]; unfold uniQ; simp_all) hE
  first | (simp only [decide_eq_true_eq, decide_eq_false_iff_not, Bool.not_eq_true', Bool.not_eq_false', ne_eq, Decidable.not_not, Bool.not_eq_true, Bool.not_eq_false] at q73) | (dsimp only at q73) | skip
  refine At.region rfl rfl ?_
  refine Reg.pur rfl rfl rfl rfl (Pur.fld _ fo28_1 rfl) ?_
  refine Reg.lod rfl rfl rfl rfl (Lod.ld sc3 rfl o0_1.blk (hat4 b hb5)) ?_
  refine Reg.pur rfl rfl rfl rfl (Pur.eql rfl rfl) ?_
  refine Reg.pur rfl rfl rfl rfl (Pur.asg rfl) ?_
  refine Reg.nil ?_
  refine At.cond rfl rfl (fun q75 => ?_) (fun q75 => ?_)
  · first | (simp only [decide_eq_true_eq, decide_eq_false_iff_not, Bool.not_eq_true', Bool.not_eq_false', ne_eq, Decidable.not_not, Bool.not_eq_true, Bool.not_eq_false] at q75) | (dsimp only at q75) | skip
    refine At.region rfl rfl ?_
    refine Reg.pur rfl rfl rfl rfl (Pur.fld _ fo28_1 rfl) ?_
    refine Reg.lod rfl rfl rfl rfl (Lod.ld sc3 rfl o0_0.blk (hat4 a ha5)) ?_
    refine Reg.lod rfl rfl rfl rfl (Lod.ldn ag26 rfl o4_4.blk (by first | exact whole rfl | rfl | (simp only [List.drop_succ_cons, List.drop_zero, List.take_succ_cons, List.take_zero]; rfl)) (by first | rfl | (simp [*]; done))) ?_
    refine Reg.op rfl rfl rfl rfl (Does.call rfl (rowBind_ok _ _ _ (subC_len b a))) ?_
    rintro _ H12_3 ⟨rfl, hE12_3⟩
    have z12_3 := hE12_3.lt
    replace hE := hE.ext hE12_3
    replace o0_0 := o0_0.ext hE12_3
    replace o0_1 := o0_1.ext hE12_3
    replace o3_4 := o3_4.ext hE12_3
    replace o4_4 := o4_4.ext hE12_3
    refine Reg.op rfl rfl rfl rfl (Does.bslA ([encB (bR (a.getD 4 0) (subC b a ++ [-1]))]) slA22 rfl rfl rfl rfl rfl rfl) ?_
    rintro _ H12_4 ⟨rfl, hp12_4⟩
    have hn12_4 := New.of_eq hp12_4
    have z12_4 := hn12_4.size
    replace hE := hE.ext hn12_4.ext
    replace o0_0 := o0_0.ext hn12_4.ext
    replace o0_1 := o0_1.ext hn12_4.ext
    replace o3_4 := o3_4.ext hn12_4.ext
    replace o4_4 := o4_4.ext hn12_4.ext
    have o12_4 := hn12_4.own
    refine Reg.pur rfl rfl rfl rfl (Pur.asg rfl) ?_
    refine Reg.pur rfl rfl rfl rfl (Pur.asg rfl) ?_
    refine Reg.nil ?_
    refine At.ret rfl Try.func132 rfl ?_
    exact uniP_one (by rw [hy]; unfold uniQ; simp_all) rfl o12_4 (by omega) hE
  first | (simp only [decide_eq_true_eq, decide_eq_false_iff_not, Bool.not_eq_true', Bool.not_eq_false', ne_eq, Decidable.not_not, Bool.not_eq_true, Bool.not_eq_false] at q75) | (dsimp only at q75) | skip
  refine At.region rfl rfl ?_
  refine Reg.pur rfl rfl rfl rfl (Pur.fld _ fo28_1 rfl) ?_
  refine Reg.lod rfl rfl rfl rfl (Lod.ld sc3 rfl o0_0.blk (hat4 a ha5)) ?_
  refine Reg.pur rfl rfl rfl rfl (Pur.eql rfl rfl) ?_
  refine Reg.pur rfl rfl rfl rfl (Pur.asg rfl) ?_
  refine Reg.nil ?_
  refine At.cond rfl rfl (fun q84 => ?_) (fun q84 => ?_)
  · first | (simp only [decide_eq_true_eq, decide_eq_false_iff_not, Bool.not_eq_true', Bool.not_eq_false', ne_eq, Decidable.not_not, Bool.not_eq_true, Bool.not_eq_false] at q84) | (dsimp only at q84) | skip
    refine At.region rfl rfl ?_
    refine Reg.pur rfl rfl rfl rfl (Pur.fld _ fo28_1 rfl) ?_
    refine Reg.lod rfl rfl rfl rfl (Lod.ld sc3 rfl o0_1.blk (hat4 b hb5)) ?_
    refine Reg.lod rfl rfl rfl rfl (Lod.ldn ag26 rfl o3_4.blk (by first | exact whole rfl | rfl | (simp only [List.drop_succ_cons, List.drop_zero, List.take_succ_cons, List.take_zero]; rfl)) (by first | rfl | (simp [*]; done))) ?_
    refine Reg.op rfl rfl rfl rfl (Does.call rfl (rowBind_ok _ _ _ (subC_len a b))) ?_
    rintro _ H14_3 ⟨rfl, hE14_3⟩
    have z14_3 := hE14_3.lt
    replace hE := hE.ext hE14_3
    replace o0_0 := o0_0.ext hE14_3
    replace o0_1 := o0_1.ext hE14_3
    replace o3_4 := o3_4.ext hE14_3
    replace o4_4 := o4_4.ext hE14_3
    refine Reg.op rfl rfl rfl rfl (Does.bslA ([encB (bR (b.getD 4 0) (subC a b ++ [-1]))]) slA22 rfl rfl rfl rfl rfl rfl) ?_
    rintro _ H14_4 ⟨rfl, hp14_4⟩
    have hn14_4 := New.of_eq hp14_4
    have z14_4 := hn14_4.size
    replace hE := hE.ext hn14_4.ext
    replace o0_0 := o0_0.ext hn14_4.ext
    replace o0_1 := o0_1.ext hn14_4.ext
    replace o3_4 := o3_4.ext hn14_4.ext
    replace o4_4 := o4_4.ext hn14_4.ext
    have o14_4 := hn14_4.own
    refine Reg.pur rfl rfl rfl rfl (Pur.asg rfl) ?_
    refine Reg.pur rfl rfl rfl rfl (Pur.asg rfl) ?_
    refine Reg.nil ?_
    refine At.ret rfl Try.func132 rfl ?_
    exact uniP_one (by rw [hy]; unfold uniQ; simp_all) rfl o14_4 (by omega) hE
  first | (simp only [decide_eq_true_eq, decide_eq_false_iff_not, Bool.not_eq_true', Bool.not_eq_false', ne_eq, Decidable.not_not, Bool.not_eq_true, Bool.not_eq_false] at q84) | (dsimp only at q84) | skip
  refine At.region rfl rfl ?_
  refine Reg.pur rfl rfl rfl rfl (Pur.mv rfl) ?_
  refine Reg.pur rfl rfl rfl rfl (Pur.not rfl) ?_
  refine Reg.pur rfl rfl rfl rfl (Pur.asg rfl) ?_
  refine Reg.nil ?_
  refine At.cond rfl rfl (fun q93 => ?_) (fun q93 => ?_)
  · first | (simp only [decide_eq_true_eq, decide_eq_false_iff_not, Bool.not_eq_true', Bool.not_eq_false', ne_eq, Decidable.not_not, Bool.not_eq_true, Bool.not_eq_false] at q93) | (dsimp only at q93) | skip
    refine At.region rfl rfl ?_
    refine Reg.pur rfl rfl rfl rfl (Pur.fld _ fo28_1 rfl) ?_
    refine Reg.lod rfl rfl rfl rfl (Lod.ld sc3 rfl o0_0.blk (hat4 a ha5)) ?_
    refine Reg.lod rfl rfl rfl rfl (Lod.ldn ag26 rfl o4_4.blk (by first | exact whole rfl | rfl | (simp only [List.drop_succ_cons, List.drop_zero, List.take_succ_cons, List.take_zero]; rfl)) (by first | rfl | (simp [*]; done))) ?_
    refine Reg.pur rfl rfl rfl rfl (Pur.fld _ fo28_1 rfl) ?_
    refine Reg.lod rfl rfl rfl rfl (Lod.ld sc3 rfl o0_1.blk (hat4 b hb5)) ?_
    refine Reg.op rfl rfl rfl rfl (Does.call rfl (rowBind_ok _ _ _ (subC_len b a))) ?_
    rintro _ H16_5 ⟨rfl, hE16_5⟩
    have z16_5 := hE16_5.lt
    replace hE := hE.ext hE16_5
    replace o0_0 := o0_0.ext hE16_5
    replace o0_1 := o0_1.ext hE16_5
    replace o3_4 := o3_4.ext hE16_5
    replace o4_4 := o4_4.ext hE16_5
    refine Reg.op rfl rfl rfl rfl (Does.bslA ([encB (bR (a.getD 4 0) (subC b a ++ [b.getD 4 0]))]) slA22 rfl rfl rfl rfl rfl rfl) ?_
    rintro _ H16_6 ⟨rfl, hp16_6⟩
    have hn16_6 := New.of_eq hp16_6
    have z16_6 := hn16_6.size
    replace hE := hE.ext hn16_6.ext
    replace o0_0 := o0_0.ext hn16_6.ext
    replace o0_1 := o0_1.ext hn16_6.ext
    replace o3_4 := o3_4.ext hn16_6.ext
    replace o4_4 := o4_4.ext hn16_6.ext
    have o16_6 := hn16_6.own
    refine Reg.pur rfl rfl rfl rfl (Pur.asg rfl) ?_
    refine Reg.pur rfl rfl rfl rfl (Pur.asg rfl) ?_
    refine Reg.nil ?_
    refine At.ret rfl Try.func132 rfl ?_
    exact uniP_one (by rw [hy]; unfold uniQ; simp_all) rfl o16_6 (by omega) hE
  first | (simp only [decide_eq_true_eq, decide_eq_false_iff_not, Bool.not_eq_true', Bool.not_eq_false', ne_eq, Decidable.not_not, Bool.not_eq_true, Bool.not_eq_false] at q93) | (dsimp only at q93) | skip
  refine At.region rfl rfl ?_
  refine Reg.pur rfl rfl rfl rfl (Pur.mv rfl) ?_
  refine Reg.pur rfl rfl rfl rfl (Pur.not rfl) ?_
  refine Reg.pur rfl rfl rfl rfl (Pur.asg rfl) ?_
  refine Reg.nil ?_
  refine At.cond rfl rfl (fun q103 => ?_) (fun q103 => ?_)
  · first | (simp only [decide_eq_true_eq, decide_eq_false_iff_not, Bool.not_eq_true', Bool.not_eq_false', ne_eq, Decidable.not_not, Bool.not_eq_true, Bool.not_eq_false] at q103) | (dsimp only at q103) | skip
    refine At.region rfl rfl ?_
    refine Reg.pur rfl rfl rfl rfl (Pur.fld _ fo28_1 rfl) ?_
    refine Reg.lod rfl rfl rfl rfl (Lod.ld sc3 rfl o0_1.blk (hat4 b hb5)) ?_
    refine Reg.lod rfl rfl rfl rfl (Lod.ldn ag26 rfl o3_4.blk (by first | exact whole rfl | rfl | (simp only [List.drop_succ_cons, List.drop_zero, List.take_succ_cons, List.take_zero]; rfl)) (by first | rfl | (simp [*]; done))) ?_
    refine Reg.pur rfl rfl rfl rfl (Pur.fld _ fo28_1 rfl) ?_
    refine Reg.lod rfl rfl rfl rfl (Lod.ld sc3 rfl o0_0.blk (hat4 a ha5)) ?_
    refine Reg.op rfl rfl rfl rfl (Does.call rfl (rowBind_ok _ _ _ (subC_len a b))) ?_
    rintro _ H18_5 ⟨rfl, hE18_5⟩
    have z18_5 := hE18_5.lt
    replace hE := hE.ext hE18_5
    replace o0_0 := o0_0.ext hE18_5
    replace o0_1 := o0_1.ext hE18_5
    replace o3_4 := o3_4.ext hE18_5
    replace o4_4 := o4_4.ext hE18_5
    refine Reg.op rfl rfl rfl rfl (Does.bslA ([encB (bR (b.getD 4 0) (subC a b ++ [a.getD 4 0]))]) slA22 rfl rfl rfl rfl rfl rfl) ?_
    rintro _ H18_6 ⟨rfl, hp18_6⟩
    have hn18_6 := New.of_eq hp18_6
    have z18_6 := hn18_6.size
    replace hE := hE.ext hn18_6.ext
    replace o0_0 := o0_0.ext hn18_6.ext
    replace o0_1 := o0_1.ext hn18_6.ext
    replace o3_4 := o3_4.ext hn18_6.ext
    replace o4_4 := o4_4.ext hn18_6.ext
    have o18_6 := hn18_6.own
    refine Reg.pur rfl rfl rfl rfl (Pur.asg rfl) ?_
    refine Reg.pur rfl rfl rfl rfl (Pur.asg rfl) ?_
    refine Reg.nil ?_
    refine At.ret rfl Try.func132 rfl ?_
    exact uniP_one (by rw [hy]; unfold uniQ; simp_all) rfl o18_6 (by omega) hE
  first | (simp only [decide_eq_true_eq, decide_eq_false_iff_not, Bool.not_eq_true', Bool.not_eq_false', ne_eq, Decidable.not_not, Bool.not_eq_true, Bool.not_eq_false] at q103) | (dsimp only at q103) | skip
  refine At.drawE ((Bks.cons o0_0.blk (Bks.cons o0_1.blk (Bks.cons o3_4.blk (Bks.cons o4_4.blk Bks.nil))))) [] mixed rfl rfl ?_
  refine RegD.tpur (i := 0) rfl rfl rfl rfl (by kernel_rfl) (Pur.fld _ fo28_1 rfl) ?_
  refine RegD.take (i := 1) rfl rfl rfl rfl (by kernel_rfl) (Bks.cons o0_0.blk (Bks.cons o0_1.blk (Bks.cons o3_4.blk (Bks.cons o4_4.blk Bks.nil)))) (fun H hS => Lod.ld sc3 rfl hS.hd (hat4 a ha5)) ?_
  refine RegD.take (i := 2) rfl rfl rfl rfl (by kernel_rfl) (Bks.cons o0_0.blk (Bks.cons o0_1.blk (Bks.cons o3_4.blk (Bks.cons o4_4.blk Bks.nil)))) (fun H hS => Lod.ldn ag26 rfl hS.tl.tl.tl.hd (by first | exact whole rfl | rfl | (simp only [List.drop_succ_cons, List.drop_zero, List.take_succ_cons, List.take_zero]; rfl)) (by first | rfl | (simp [*]; done))) ?_
  refine RegD.tpur (i := 3) rfl rfl rfl rfl (by kernel_rfl) (Pur.mv rfl) ?_
  refine RegD.tpur (i := 5) rfl rfl rfl rfl (by kernel_rfl) (Pur.fld _ fo28_1 rfl) ?_
  refine RegD.take (i := 6) rfl rfl rfl rfl (by kernel_rfl) (Bks.cons o0_0.blk (Bks.cons o0_1.blk (Bks.cons o3_4.blk (Bks.cons o4_4.blk Bks.nil)))) (fun H hS => Lod.ld sc3 rfl hS.tl.hd (hat4 b hb5)) ?_
  refine RegD.take (i := 7) rfl rfl rfl rfl (by kernel_rfl) (Bks.cons o0_0.blk (Bks.cons o0_1.blk (Bks.cons o3_4.blk (Bks.cons o4_4.blk Bks.nil)))) (fun H hS => Lod.ldn ag26 rfl hS.tl.tl.hd (by first | exact whole rfl | rfl | (simp only [List.drop_succ_cons, List.drop_zero, List.take_succ_cons, List.take_zero]; rfl)) (by first | rfl | (simp [*]; done))) ?_
  refine RegD.tpur (i := 8) rfl rfl rfl rfl (by kernel_rfl) (Pur.mv rfl) ?_
  refine RegD.one (i := 4) (by kernel_rfl) rfl rfl rfl rfl (Does.call rfl (rowBind_ok _ _ _ (subC_len b a))) ?_
  rintro _ H19_4 ⟨rfl, hE19_4⟩
  have z19_4 := hE19_4.lt
  replace hE := hE.ext hE19_4
  replace o0_0 := o0_0.ext hE19_4
  replace o0_1 := o0_1.ext hE19_4
  replace o3_4 := o3_4.ext hE19_4
  replace o4_4 := o4_4.ext hE19_4
  refine ⟨fun _ _ => (Bks.cons o0_0.blk (Bks.cons o0_1.blk (Bks.cons o3_4.blk (Bks.cons o4_4.blk Bks.nil)))), ?_⟩
  refine RegD.one (i := 9) (by kernel_rfl) rfl rfl rfl rfl (Does.call rfl (rowBind_ok _ _ _ (subC_len a b))) ?_
  rintro _ H19_9 ⟨rfl, hE19_9⟩
  have z19_9 := hE19_9.lt
  replace hE := hE.ext hE19_9
  replace o0_0 := o0_0.ext hE19_9
  replace o0_1 := o0_1.ext hE19_9
  replace o3_4 := o3_4.ext hE19_9
  replace o4_4 := o4_4.ext hE19_9
  refine ⟨fun _ _ => (Bks.cons o0_0.blk (Bks.cons o0_1.blk (Bks.cons o3_4.blk (Bks.cons o4_4.blk Bks.nil)))), ?_⟩
  refine RegD.one (i := 10) (by kernel_rfl) rfl rfl rfl rfl (Does.bslA ([encB (bR (a.getD 4 0) (subC b a ++ [f])), encB (bR (b.getD 4 0) (subC a b ++ [f]))]) slA22 rfl rfl rfl rfl rfl rfl) ?_
  rintro _ H19_10 ⟨rfl, hp19_10⟩
  have hn19_10 := New.of_eq hp19_10
  have z19_10 := hn19_10.size
  replace hE := hE.ext hn19_10.ext
  replace o0_0 := o0_0.ext hn19_10.ext
  replace o0_1 := o0_1.ext hn19_10.ext
  replace o3_4 := o3_4.ext hn19_10.ext
  replace o4_4 := o4_4.ext hn19_10.ext
  have o19_10 := hn19_10.own
  refine ⟨fun _ _ => (Bks.cons o0_0.blk (Bks.cons o0_1.blk (Bks.cons o3_4.blk (Bks.cons o4_4.blk Bks.nil)))), ?_⟩
  refine RegD.tpur (i := 11) rfl rfl rfl rfl (by kernel_rfl) (Pur.asg rfl) ?_
  refine RegD.tpur (i := 12) rfl rfl rfl rfl (by kernel_rfl) (Pur.asg rfl) ?_
  refine RegD.done (by kernel_rfl) ?_
  refine At.ret rfl Try.func132 rfl ?_
  exact uniP_two (by rw [hy]; unfold uniQ; simp_all) rfl rfl o19_10 (by omega) hE

theorem sb1_min {a b : List Int} {i : Nat} : a.getD i 0 - min (a.getD i 0) (b.getD i 0) = sb1 a b i := by unfold sb1; split <;> omega
theorem sb1_pos {a b : List Int} {i : Nat} : decide (sb1 a b i > 0) = decide (b.getD i 0 < a.getD i 0) := by
  unfold sb1; split <;> simp_all
theorem or_t {m d : Bool} (h : m = true) : some (Value.bool m) = some (Value.bool (m || d)) := by rw [h]; rfl
theorem or_f {m d : Bool} (h : m = false) : some (Value.bool d) = some (Value.bool (m || d)) := by rw [h]; rfl
theorem set_mix {a b : List Int} {i : Nat} (hi : i < 4) {v : Int} (hv : v = sb1 a b i) : (Is (mixS a b i)).set (0 + (i : Int).toNat * 1) (I v) = Is (mixS a b (i + 1)) := by
  rw [← mixS_set a b hi, hv, Nat.zero_add, Nat.mul_one, Int.toNat_natCast]; simp [Is, List.map_set]
theorem mix_at {a b : List Int} {i : Nat} (hi : i < 4) : (Is (mixS a b (i + 1)))[0 + (i : Int).toNat * 1]? = some (I (sb1 a b i)) := by
  rw [Nat.zero_add, Nat.mul_one, Int.toNat_natCast]
  simp [Is, mixS, hi]
theorem unifyRows_ok (a b : List Int) (f : Int) (ha5 : a.length = 5) (hb5 : b.length = 5) (H : Heap) :
    Ret Try.prog 135 [.agg (Is a).toArray, .agg (Is b).toArray, I f] H (UniP H (uniR a b f)) := by
  refine Ret.of_at (N := 159) Try.call135 Try.func135 rfl rfl rfl ?_
  have hE := Ext.refl H
  have z_hE := hE.lt
  refine At.region rfl rfl ?_
  refine Reg.op rfl rfl rfl rfl (Does.box rfl rfl) ?_
  rintro _ H0_0 ⟨rfl, hn0_0⟩
  have z0_0 := hn0_0.size
  replace hE := hE.ext hn0_0.ext
  have o0_0 := hn0_0.own
  refine Reg.op rfl rfl rfl rfl (Does.box rfl rfl) ?_
  rintro _ H0_1 ⟨rfl, hn0_1⟩
  have z0_1 := hn0_1.size
  replace hE := hE.ext hn0_1.ext
  replace o0_0 := o0_0.ext hn0_1.ext
  have o0_1 := hn0_1.own
  refine Reg.pur rfl rfl rfl rfl (Pur.asg rfl) ?_
  refine Reg.pur rfl rfl rfl rfl (Pur.asg rfl) ?_
  refine Reg.nil ?_
  refine At.region rfl rfl ?_
  refine Reg.lod rfl rfl rfl rfl (Lod.ldn ag28 rfl o0_0.blk (whole (by simp [ha5])) (by simp [ha5])) ?_
  refine Reg.op rfl rfl rfl rfl (Does.call rfl (rowMayR_ok a ha5 _)) ?_
  rintro _ H1_1 ⟨rfl, hE1_1⟩
  have z1_1 := hE1_1.lt
  replace hE := hE.ext hE1_1
  replace o0_0 := o0_0.ext hE1_1
  replace o0_1 := o0_1.ext hE1_1
  refine Reg.pur rfl rfl rfl rfl (Pur.not rfl) ?_
  refine Reg.pur rfl rfl rfl rfl (Pur.mv rfl) ?_
  refine Reg.case 17 rfl (fun q17 => ?_) (fun q17 => ?_)
  · first | (simp only [decide_eq_true_eq, decide_eq_false_iff_not, Bool.not_eq_true', Bool.not_eq_false', ne_eq, Decidable.not_not, Bool.not_eq_true, Bool.not_eq_false] at q17) | (dsimp only at q17) | skip
    refine Reg.skip rfl rfl rfl rfl rfl rfl rfl ?_
    refine Reg.skip rfl rfl rfl rfl rfl rfl rfl ?_
    refine Reg.skip rfl rfl rfl rfl rfl rfl rfl ?_
    refine Reg.pur rfl rfl rfl rfl (Pur.pickT rfl rfl) ?_
    refine Reg.pur rfl rfl rfl rfl (Pur.mv rfl) ?_
    refine Reg.skip rfl rfl rfl rfl rfl rfl rfl ?_
    refine Reg.skip rfl rfl rfl rfl rfl rfl rfl ?_
    refine Reg.pur rfl rfl rfl rfl (Pur.pickT rfl rfl) ?_
    refine Reg.pur rfl rfl rfl rfl (Pur.mv rfl) ?_
    refine Reg.skip rfl rfl rfl rfl rfl rfl rfl ?_
    refine Reg.skip rfl rfl rfl rfl rfl rfl rfl ?_
    refine Reg.pur rfl rfl rfl rfl (Pur.pickT rfl rfl) ?_
    refine Reg.pur rfl rfl rfl rfl (Pur.mv rfl) ?_
    refine Reg.skip rfl rfl rfl rfl rfl rfl rfl ?_
    refine Reg.skip rfl rfl rfl rfl rfl rfl rfl ?_
    refine Reg.skip rfl rfl rfl rfl rfl rfl rfl ?_
    refine Reg.skip rfl rfl rfl rfl rfl rfl rfl ?_
    refine Reg.pur rfl rfl rfl rfl (Pur.pickT rfl rfl) ?_
    refine Reg.pur rfl rfl rfl rfl (Pur.mv rfl) ?_
    refine Reg.skip rfl rfl rfl rfl rfl rfl rfl ?_
    refine Reg.skip rfl rfl rfl rfl rfl rfl rfl ?_
    refine Reg.skip rfl rfl rfl rfl rfl rfl rfl ?_
    refine Reg.skip rfl rfl rfl rfl rfl rfl rfl ?_
    refine Reg.pur rfl rfl rfl rfl (Pur.pickT rfl rfl) ?_
    refine Reg.nil ?_
    refine At.condT rfl rfl rfl ?_
    refine At.region rfl rfl ?_
    refine Reg.pur rfl rfl rfl rfl (Pur.asg rfl) ?_
    refine Reg.pur rfl rfl rfl rfl (Pur.asg rfl) ?_
    refine Reg.nil ?_
    refine At.ret rfl Try.func135 rfl ?_
    exact uniP_nil (uniR_no (by simp_all; try omega)) hE
  first | (simp only [decide_eq_true_eq, decide_eq_false_iff_not, Bool.not_eq_true', Bool.not_eq_false', ne_eq, Decidable.not_not, Bool.not_eq_true, Bool.not_eq_false] at q17) | (dsimp only at q17) | skip
  refine Reg.glod rfl rfl rfl rfl rfl rfl (Lod.ldn ag28 rfl o0_1.blk (whole (by simp [hb5])) (by simp [hb5])) ?_
  refine Reg.gop rfl rfl rfl rfl rfl rfl (Does.call rfl (rowMayR_ok b hb5 _)) ?_
  rintro _ H1_5 ⟨rfl, hE1_5⟩
  have z1_5 := hE1_5.lt
  replace hE := hE.ext hE1_5
  replace o0_0 := o0_0.ext hE1_5
  replace o0_1 := o0_1.ext hE1_5
  refine Reg.gpur rfl rfl rfl rfl rfl rfl (Pur.not rfl) ?_
  refine Reg.pur rfl rfl rfl rfl (Pur.pickF rfl rfl) ?_
  refine Reg.pur rfl rfl rfl rfl (Pur.mv rfl) ?_
  refine Reg.case 22 rfl (fun q22 => ?_) (fun q22 => ?_)
  · first | (simp only [decide_eq_true_eq, decide_eq_false_iff_not, Bool.not_eq_true', Bool.not_eq_false', ne_eq, Decidable.not_not, Bool.not_eq_true, Bool.not_eq_false] at q22) | (dsimp only at q22) | skip
    refine Reg.skip rfl rfl rfl rfl rfl rfl rfl ?_
    refine Reg.skip rfl rfl rfl rfl rfl rfl rfl ?_
    refine Reg.pur rfl rfl rfl rfl (Pur.pickT rfl rfl) ?_
    refine Reg.pur rfl rfl rfl rfl (Pur.mv rfl) ?_
    refine Reg.skip rfl rfl rfl rfl rfl rfl rfl ?_
    refine Reg.skip rfl rfl rfl rfl rfl rfl rfl ?_
    refine Reg.pur rfl rfl rfl rfl (Pur.pickT rfl rfl) ?_
    refine Reg.pur rfl rfl rfl rfl (Pur.mv rfl) ?_
    refine Reg.skip rfl rfl rfl rfl rfl rfl rfl ?_
    refine Reg.skip rfl rfl rfl rfl rfl rfl rfl ?_
    refine Reg.skip rfl rfl rfl rfl rfl rfl rfl ?_
    refine Reg.skip rfl rfl rfl rfl rfl rfl rfl ?_
    refine Reg.pur rfl rfl rfl rfl (Pur.pickT rfl rfl) ?_
    refine Reg.pur rfl rfl rfl rfl (Pur.mv rfl) ?_
    refine Reg.skip rfl rfl rfl rfl rfl rfl rfl ?_
    refine Reg.skip rfl rfl rfl rfl rfl rfl rfl ?_
    refine Reg.skip rfl rfl rfl rfl rfl rfl rfl ?_
    refine Reg.skip rfl rfl rfl rfl rfl rfl rfl ?_
    refine Reg.pur rfl rfl rfl rfl (Pur.pickT rfl rfl) ?_
    refine Reg.nil ?_
    refine At.condT rfl rfl rfl ?_
    refine At.region rfl rfl ?_
    refine Reg.pur rfl rfl rfl rfl (Pur.asg rfl) ?_
    refine Reg.pur rfl rfl rfl rfl (Pur.asg rfl) ?_
    refine Reg.nil ?_
    refine At.ret rfl Try.func135 rfl ?_
    exact uniP_nil (uniR_no (by simp_all; try omega)) hE
  first | (simp only [decide_eq_true_eq, decide_eq_false_iff_not, Bool.not_eq_true', Bool.not_eq_false', ne_eq, Decidable.not_not, Bool.not_eq_true, Bool.not_eq_false] at q22) | (dsimp only at q22) | skip
  refine Reg.gpur rfl rfl rfl rfl rfl rfl (Pur.mv rfl) ?_
  refine Reg.gpur rfl rfl rfl rfl rfl rfl (Pur.lss rfl rfl) ?_
  refine Reg.pur rfl rfl rfl rfl (Pur.pickF rfl rfl) ?_
  refine Reg.pur rfl rfl rfl rfl (Pur.mv rfl) ?_
  refine Reg.case 26 rfl (fun q26 => ?_) (fun q26 => ?_)
  · first | (simp only [decide_eq_true_eq, decide_eq_false_iff_not, Bool.not_eq_true', Bool.not_eq_false', ne_eq, Decidable.not_not, Bool.not_eq_true, Bool.not_eq_false] at q26) | (dsimp only at q26) | skip
    refine Reg.skip rfl rfl rfl rfl rfl rfl rfl ?_
    refine Reg.skip rfl rfl rfl rfl rfl rfl rfl ?_
    refine Reg.pur rfl rfl rfl rfl (Pur.pickT rfl rfl) ?_
    refine Reg.pur rfl rfl rfl rfl (Pur.mv rfl) ?_
    refine Reg.skip rfl rfl rfl rfl rfl rfl rfl ?_
    refine Reg.skip rfl rfl rfl rfl rfl rfl rfl ?_
    refine Reg.skip rfl rfl rfl rfl rfl rfl rfl ?_
    refine Reg.skip rfl rfl rfl rfl rfl rfl rfl ?_
    refine Reg.pur rfl rfl rfl rfl (Pur.pickT rfl rfl) ?_
    refine Reg.pur rfl rfl rfl rfl (Pur.mv rfl) ?_
    refine Reg.skip rfl rfl rfl rfl rfl rfl rfl ?_
    refine Reg.skip rfl rfl rfl rfl rfl rfl rfl ?_
    refine Reg.skip rfl rfl rfl rfl rfl rfl rfl ?_
    refine Reg.skip rfl rfl rfl rfl rfl rfl rfl ?_
    refine Reg.pur rfl rfl rfl rfl (Pur.pickT rfl rfl) ?_
    refine Reg.nil ?_
    refine At.condT rfl rfl rfl ?_
    refine At.region rfl rfl ?_
    refine Reg.pur rfl rfl rfl rfl (Pur.asg rfl) ?_
    refine Reg.pur rfl rfl rfl rfl (Pur.asg rfl) ?_
    refine Reg.nil ?_
    refine At.ret rfl Try.func135 rfl ?_
    exact uniP_nil (uniR_no (by simp_all; try omega)) hE
  first | (simp only [decide_eq_true_eq, decide_eq_false_iff_not, Bool.not_eq_true', Bool.not_eq_false', ne_eq, Decidable.not_not, Bool.not_eq_true, Bool.not_eq_false] at q26) | (dsimp only at q26) | skip
  refine Reg.gpur rfl rfl rfl rfl rfl rfl (Pur.mv rfl) ?_
  refine Reg.gpur rfl rfl rfl rfl rfl rfl (Pur.geq rfl rfl) ?_
  refine Reg.pur rfl rfl rfl rfl (Pur.pickF rfl rfl) ?_
  refine Reg.pur rfl rfl rfl rfl (Pur.mv rfl) ?_
  refine Reg.case 30 rfl (fun q30 => ?_) (fun q30 => ?_)
  · first | (simp only [decide_eq_true_eq, decide_eq_false_iff_not, Bool.not_eq_true', Bool.not_eq_false', ne_eq, Decidable.not_not, Bool.not_eq_true, Bool.not_eq_false] at q30) | (dsimp only at q30) | skip
    refine Reg.skip rfl rfl rfl rfl rfl rfl rfl ?_
    refine Reg.skip rfl rfl rfl rfl rfl rfl rfl ?_
    refine Reg.skip rfl rfl rfl rfl rfl rfl rfl ?_
    refine Reg.skip rfl rfl rfl rfl rfl rfl rfl ?_
    refine Reg.pur rfl rfl rfl rfl (Pur.pickT rfl rfl) ?_
    refine Reg.pur rfl rfl rfl rfl (Pur.mv rfl) ?_
    refine Reg.skip rfl rfl rfl rfl rfl rfl rfl ?_
    refine Reg.skip rfl rfl rfl rfl rfl rfl rfl ?_
    refine Reg.skip rfl rfl rfl rfl rfl rfl rfl ?_
    refine Reg.skip rfl rfl rfl rfl rfl rfl rfl ?_
    refine Reg.pur rfl rfl rfl rfl (Pur.pickT rfl rfl) ?_
    refine Reg.nil ?_
    refine At.condT rfl rfl rfl ?_
    refine At.region rfl rfl ?_
    refine Reg.pur rfl rfl rfl rfl (Pur.asg rfl) ?_
    refine Reg.pur rfl rfl rfl rfl (Pur.asg rfl) ?_
    refine Reg.nil ?_
    refine At.ret rfl Try.func135 rfl ?_
    exact uniP_nil (uniR_no (by simp_all; try omega)) hE
  first | (simp only [decide_eq_true_eq, decide_eq_false_iff_not, Bool.not_eq_true', Bool.not_eq_false', ne_eq, Decidable.not_not, Bool.not_eq_true, Bool.not_eq_false] at q30) | (dsimp only at q30) | skip
  refine Reg.gpur rfl rfl rfl rfl rfl rfl (Pur.fld _ fo28_1 rfl) ?_
  refine Reg.glod rfl rfl rfl rfl rfl rfl (Lod.ld sc3 rfl o0_0.blk (hat4 a ha5)) ?_
  refine Reg.gpur rfl rfl rfl rfl rfl rfl (Pur.mv rfl) ?_
  refine Reg.gpur rfl rfl rfl rfl rfl rfl (Pur.geq rfl rfl) ?_
  refine Reg.pur rfl rfl rfl rfl (Pur.pickF rfl rfl) ?_
  refine Reg.pur rfl rfl rfl rfl (Pur.mv rfl) ?_
  refine Reg.case 36 rfl (fun q36 => ?_) (fun q36 => ?_)
  · first | (simp only [decide_eq_true_eq, decide_eq_false_iff_not, Bool.not_eq_true', Bool.not_eq_false', ne_eq, Decidable.not_not, Bool.not_eq_true, Bool.not_eq_false] at q36) | (dsimp only at q36) | skip
    refine Reg.skip rfl rfl rfl rfl rfl rfl rfl ?_
    refine Reg.skip rfl rfl rfl rfl rfl rfl rfl ?_
    refine Reg.skip rfl rfl rfl rfl rfl rfl rfl ?_
    refine Reg.skip rfl rfl rfl rfl rfl rfl rfl ?_
    refine Reg.pur rfl rfl rfl rfl (Pur.pickT rfl rfl) ?_
    refine Reg.nil ?_
    refine At.condT rfl rfl rfl ?_
    refine At.region rfl rfl ?_
    refine Reg.pur rfl rfl rfl rfl (Pur.asg rfl) ?_
    refine Reg.pur rfl rfl rfl rfl (Pur.asg rfl) ?_
    refine Reg.nil ?_
    refine At.ret rfl Try.func135 rfl ?_
    exact uniP_nil (uniR_no (by simp_all; try omega)) hE
  first | (simp only [decide_eq_true_eq, decide_eq_false_iff_not, Bool.not_eq_true', Bool.not_eq_false', ne_eq, Decidable.not_not, Bool.not_eq_true, Bool.not_eq_false] at q36) | (dsimp only at q36) | skip
  refine Reg.gpur rfl rfl rfl rfl rfl rfl (Pur.fld _ fo28_1 rfl) ?_
  refine Reg.glod rfl rfl rfl rfl rfl rfl (Lod.ld sc3 rfl o0_1.blk (hat4 b hb5)) ?_
  refine Reg.gpur rfl rfl rfl rfl rfl rfl (Pur.mv rfl) ?_
  refine Reg.gpur rfl rfl rfl rfl rfl rfl (Pur.geq rfl rfl) ?_
  refine Reg.pur rfl rfl rfl rfl (Pur.pickF rfl rfl) ?_
  refine Reg.nil ?_
  refine At.cond rfl rfl (fun q41 => ?_) (fun q41 => ?_)
  · first | (simp only [decide_eq_true_eq, decide_eq_false_iff_not, Bool.not_eq_true', Bool.not_eq_false', ne_eq, Decidable.not_not, Bool.not_eq_true, Bool.not_eq_false] at q41) | (dsimp only at q41) | skip
    refine At.region rfl rfl ?_
    refine Reg.pur rfl rfl rfl rfl (Pur.asg rfl) ?_
    refine Reg.pur rfl rfl rfl rfl (Pur.asg rfl) ?_
    refine Reg.nil ?_
    refine At.ret rfl Try.func135 rfl ?_
    exact uniP_nil (uniR_no (by simp_all; try omega)) hE
  first | (simp only [decide_eq_true_eq, decide_eq_false_iff_not, Bool.not_eq_true', Bool.not_eq_false', ne_eq, Decidable.not_not, Bool.not_eq_true, Bool.not_eq_false] at q41) | (dsimp only at q41) | skip
  have hra : rowM a = true := q17
  have hrb : rowM b = true := q22
  have hy := uniR_yes (a := a) (b := b) (f := f) ⟨hra, hrb, by omega, by omega, by omega, by omega⟩
  have hta := rowM_t hra
  have htb := rowM_t hrb
  clear q17 q22 q26 q30 q36 q41
  refine At.region rfl rfl ?_
  refine Reg.op rfl rfl rfl rfl (Does.alloc zc26) ?_
  rintro _ H3_0 ⟨rfl, hn3_0⟩
  have z3_0 := hn3_0.size
  replace hE := hE.ext hn3_0.ext
  replace o0_0 := o0_0.ext hn3_0.ext
  replace o0_1 := o0_1.ext hn3_0.ext
  have o3_0 := hn3_0.own
  refine Reg.op rfl rfl rfl rfl (Does.alloc zc26) ?_
  rintro _ H3_1 ⟨rfl, hn3_1⟩
  have z3_1 := hn3_1.size
  replace hE := hE.ext hn3_1.ext
  replace o0_0 := o0_0.ext hn3_1.ext
  replace o0_1 := o0_1.ext hn3_1.ext
  replace o3_0 := o3_0.ext hn3_1.ext
  have o3_1 := hn3_1.own
  refine Reg.nil ?_
  refine At.region rfl rfl ?_
  refine Reg.pur rfl rfl rfl rfl (Pur.asg rfl) ?_
  refine Reg.pur rfl rfl rfl rfl (Pur.asg rfl) ?_
  refine Reg.nil ?_
  refine At.region rfl rfl ?_
  refine Reg.pur rfl rfl rfl rfl (Pur.asg rfl) ?_
  refine Reg.nil ?_
  refine At.loop (σ := Nat) (fun i => [(12, I i), (8, ptr H1_5.size 0), (9, ptr H3_0.size 0), (10, .bool (moreTo a b i)), (11, .bool (moreTo b a i)), (3, ptr H.size 0), (4, ptr H0_0.size 0), (2, I f)]) (fun i H' => i ≤ 4 ∧ Own H' H1_5.size (Is (mixS a b i)) ∧ Own H' H3_0.size (Is (mixS b a i)) ∧ Own H' H.size (Is a) ∧ Own H' H0_0.size (Is b) ∧ Ext H H') (fun i => 4 - i) 0 rfl ⟨rfl, rfl, rfl, rfl, rfl, rfl, rfl, rfl, trivial⟩ ⟨by omega, o3_0, o3_1, o0_0, o0_1, hE⟩ ?_
  have hzz : H.size < H0_0.size ∧ H0_0.size < H1_5.size ∧ H1_5.size < H3_0.size := by omega
  rintro i H6 ⟨hi, op, oq, hA, hB, hE⟩ ih
  have hbb := oq.lt
  have z_hE := hE.lt
  have z_hA := hA.lt
  have z_hB := hB.lt
  have z_op := op.lt
  have z_oq := oq.lt
  refine At.region rfl rfl ?_
  refine Reg.pur rfl rfl rfl rfl (Pur.mv rfl) ?_
  refine Reg.pur rfl rfl rfl rfl (Pur.lss rfl rfl) ?_
  refine Reg.nil ?_
  refine At.cond rfl rfl (fun q43 => ?_) (fun q43 => ?_)
  · first | (simp only [decide_eq_true_eq, decide_eq_false_iff_not, Bool.not_eq_true', Bool.not_eq_false', ne_eq, Decidable.not_not, Bool.not_eq_true, Bool.not_eq_false] at q43) | (dsimp only at q43) | skip
    have hi4 : i < 4 := by omega
    have ha1 := rowM_all hra hi4 ha5
    have hb1 := rowM_all hrb hi4 hb5
    have hbi : (Is b)[0 + 0 + (i : Int).toNat * 1]? = some (I (b.getD i 0)) := by rw [Int.toNat_natCast, show 0 + 0 + i * 1 = i by omega]; exact at_Is (by omega)
    have hai : (Is a)[0 + 0 + (i : Int).toNat * 1]? = some (I (a.getD i 0)) := by rw [Int.toNat_natCast, show 0 + 0 + i * 1 = i by omega]; exact at_Is (by omega)
    refine At.drawE ((Bks.cons hA.blk (Bks.cons hB.blk Bks.nil))) [] mixed rfl rfl ?_
    refine RegD.tpur (i := 0) rfl rfl rfl rfl (by kernel_rfl) (Pur.mv rfl) ?_
    refine RegD.tpur (i := 1) rfl rfl rfl rfl (by kernel_rfl) (Pur.fld _ fo28_0 rfl) ?_
    refine RegD.tpur (i := 2) rfl rfl rfl rfl (by kernel_rfl) (Pur.idxP arr26 rfl rfl (by omega) (by omega)) ?_
    refine RegD.take (i := 3) rfl rfl rfl rfl (by kernel_rfl) (Bks.cons hA.blk (Bks.cons hB.blk Bks.nil)) (fun H hS => Lod.ld sc3 rfl hS.hd hai) ?_
    refine RegD.tpur (i := 4) rfl rfl rfl rfl (by kernel_rfl) (Pur.mv rfl) ?_
    refine RegD.tpur (i := 5) rfl rfl rfl rfl (by kernel_rfl) (Pur.fld _ fo28_0 rfl) ?_
    refine RegD.tpur (i := 6) rfl rfl rfl rfl (by kernel_rfl) (Pur.idxP arr26 rfl rfl (by omega) (by omega)) ?_
    refine RegD.take (i := 7) rfl rfl rfl rfl (by kernel_rfl) (Bks.cons hA.blk (Bks.cons hB.blk Bks.nil)) (fun H hS => Lod.ld sc3 rfl hS.tl.hd hbi) ?_
    refine RegD.tpur (i := 8) rfl rfl rfl rfl (by kernel_rfl) (Pur.min2 rfl rfl) ?_
    refine RegD.tpur (i := 9) rfl rfl rfl rfl (by kernel_rfl) (Pur.asg rfl) ?_
    refine RegD.done (by kernel_rfl) ?_
    refine At.region rfl rfl ?_
    refine Reg.pur rfl rfl rfl rfl (Pur.mv rfl) ?_
    refine Reg.pur rfl rfl rfl rfl (Pur.mv rfl) ?_
    refine Reg.pur rfl rfl rfl rfl (Pur.fld _ fo28_0 rfl) ?_
    refine Reg.pur rfl rfl rfl rfl (Pur.idxP arr26 rfl rfl (by omega) (by omega)) ?_
    refine Reg.lod rfl rfl rfl rfl (Lod.ld sc3 rfl hA.blk hai) ?_
    refine Reg.pur rfl rfl rfl rfl (Pur.mv rfl) ?_
    first | refine Reg.pur rfl rfl rfl rfl (Pur.sub64 rfl rfl (by omega)) ?_ | refine Reg.pur rfl rfl rfl rfl (Pur.sub64 rfl rfl (by assumption)) ?_ | refine Reg.pur rfl rfl rfl rfl (Pur.sub rfl rfl) ?_
    refine Reg.pur rfl rfl rfl rfl (Pur.idxP arr26 rfl rfl (by omega) (by omega)) ?_
    refine Reg.op0 rfl rfl rfl (Does.st sc3 rfl rfl rfl op (by rw [List.length_map, mixS_len]; omega)) ?_
    rintro _ H9_8 hu9_8
    have z9_8 := hu9_8.size
    replace hE := hE.upw hu9_8 (by omega)
    replace hA := hA.upw hu9_8 (by omega)
    replace hB := hB.upw hu9_8 (by omega)
    replace oq := oq.upw hu9_8 (by omega)
    replace op := hu9_8.own
    replace op := op.of (set_mix hi4 sb1_min)
    refine Reg.nil ?_
    refine At.region rfl rfl ?_
    refine Reg.pur rfl rfl rfl rfl (Pur.mv rfl) ?_
    refine Reg.pur rfl rfl rfl rfl (Pur.mv rfl) ?_
    refine Reg.pur rfl rfl rfl rfl (Pur.fld _ fo28_0 rfl) ?_
    refine Reg.pur rfl rfl rfl rfl (Pur.idxP arr26 rfl rfl (by omega) (by omega)) ?_
    refine Reg.lod rfl rfl rfl rfl (Lod.ld sc3 rfl hB.blk hbi) ?_
    refine Reg.pur rfl rfl rfl rfl (Pur.mv rfl) ?_
    first | refine Reg.pur rfl rfl rfl rfl (Pur.sub64 rfl rfl (by omega)) ?_ | refine Reg.pur rfl rfl rfl rfl (Pur.sub64 rfl rfl (by assumption)) ?_ | refine Reg.pur rfl rfl rfl rfl (Pur.sub rfl rfl) ?_
    refine Reg.pur rfl rfl rfl rfl (Pur.idxP arr26 rfl rfl (by omega) (by omega)) ?_
    refine Reg.op0 rfl rfl rfl (Does.st sc3 rfl rfl rfl oq (by rw [List.length_map, mixS_len]; omega)) ?_
    rintro _ H10_8 hu10_8
    have z10_8 := hu10_8.size
    replace hE := hE.upw hu10_8 (by omega)
    replace hA := hA.upw hu10_8 (by omega)
    replace hB := hB.upw hu10_8 (by omega)
    replace op := op.upw hu10_8 (by omega)
    replace oq := hu10_8.own
    replace oq := oq.of (set_mix hi4 (by rw [← sb1_min, Int.min_comm]))
    refine Reg.nil ?_
    refine At.region rfl rfl ?_
    refine Reg.pur rfl rfl rfl rfl (Pur.mv rfl) ?_
    refine Reg.pur rfl rfl rfl rfl (Pur.mv rfl) ?_
    refine Reg.case 72 rfl (fun q72 => ?_) (fun q72 => ?_)
    · first | (simp only [decide_eq_true_eq, decide_eq_false_iff_not, Bool.not_eq_true', Bool.not_eq_false', ne_eq, Decidable.not_not, Bool.not_eq_true, Bool.not_eq_false] at q72) | (dsimp only at q72) | skip
      refine Reg.skip rfl rfl rfl rfl rfl rfl rfl ?_
      refine Reg.skip rfl rfl rfl rfl rfl rfl rfl ?_
      refine Reg.skip rfl rfl rfl rfl rfl rfl rfl ?_
      refine Reg.skip rfl rfl rfl rfl rfl rfl rfl ?_
      refine Reg.pur rfl rfl rfl rfl (Pur.pickT rfl rfl) ?_
      refine Reg.pur rfl rfl rfl rfl (Pur.asg rfl) ?_
      refine Reg.nil ?_
      refine At.region rfl rfl ?_
      refine Reg.pur rfl rfl rfl rfl (Pur.mv rfl) ?_
      refine Reg.pur rfl rfl rfl rfl (Pur.mv rfl) ?_
      refine Reg.case 79 rfl (fun q79 => ?_) (fun q79 => ?_)
      · first | (simp only [decide_eq_true_eq, decide_eq_false_iff_not, Bool.not_eq_true', Bool.not_eq_false', ne_eq, Decidable.not_not, Bool.not_eq_true, Bool.not_eq_false] at q79) | (dsimp only at q79) | skip
        refine Reg.skip rfl rfl rfl rfl rfl rfl rfl ?_
        refine Reg.skip rfl rfl rfl rfl rfl rfl rfl ?_
        refine Reg.skip rfl rfl rfl rfl rfl rfl rfl ?_
        refine Reg.skip rfl rfl rfl rfl rfl rfl rfl ?_
        refine Reg.pur rfl rfl rfl rfl (Pur.pickT rfl rfl) ?_
        refine Reg.pur rfl rfl rfl rfl (Pur.asg rfl) ?_
        refine Reg.nil ?_
        refine At.region rfl rfl ?_
        refine Reg.pur rfl rfl rfl rfl (Pur.mv rfl) ?_
        first | refine Reg.pur rfl rfl rfl rfl (Pur.add64 rfl rfl (by omega)) ?_ | refine Reg.pur rfl rfl rfl rfl (Pur.add64 rfl rfl (by assumption)) ?_ | refine Reg.pur rfl rfl rfl rfl (Pur.add rfl rfl) ?_
        refine Reg.pur rfl rfl rfl rfl (Pur.asg rfl) ?_
        refine Reg.nil ?_
        refine At.via (ih (i + 1) _ ⟨by omega, op, oq, hA, hB, hE⟩ (by omega)) ⟨rfl, rfl, rfl, ?_, ?_, rfl, rfl, rfl, trivial⟩
        · rw [moreTo_succ, ← sb1_pos]; first | exact or_t q72 | exact or_f q72 | (rw [q72]; rfl)
        · rw [moreTo_succ, ← sb1_pos]; first | exact or_t q79 | exact or_f q79 | (rw [q79]; rfl)
      first | (simp only [decide_eq_true_eq, decide_eq_false_iff_not, Bool.not_eq_true', Bool.not_eq_false', ne_eq, Decidable.not_not, Bool.not_eq_true, Bool.not_eq_false] at q79) | (dsimp only at q79) | skip
      refine Reg.gpur rfl rfl rfl rfl rfl rfl (Pur.mv rfl) ?_
      refine Reg.gpur rfl rfl rfl rfl rfl rfl (Pur.idxP arr26 rfl rfl (by omega) (by omega)) ?_
      refine Reg.glod rfl rfl rfl rfl rfl rfl (Lod.ld sc3 rfl oq.blk (mix_at hi4)) ?_
      refine Reg.gpur rfl rfl rfl rfl rfl rfl (Pur.gtr rfl rfl) ?_
      refine Reg.pur rfl rfl rfl rfl (Pur.pickF rfl rfl) ?_
      refine Reg.pur rfl rfl rfl rfl (Pur.asg rfl) ?_
      refine Reg.nil ?_
      refine At.region rfl rfl ?_
      refine Reg.pur rfl rfl rfl rfl (Pur.mv rfl) ?_
      first | refine Reg.pur rfl rfl rfl rfl (Pur.add64 rfl rfl (by omega)) ?_ | refine Reg.pur rfl rfl rfl rfl (Pur.add64 rfl rfl (by assumption)) ?_ | refine Reg.pur rfl rfl rfl rfl (Pur.add rfl rfl) ?_
      refine Reg.pur rfl rfl rfl rfl (Pur.asg rfl) ?_
      refine Reg.nil ?_
      refine At.via (ih (i + 1) _ ⟨by omega, op, oq, hA, hB, hE⟩ (by omega)) ⟨rfl, rfl, rfl, ?_, ?_, rfl, rfl, rfl, trivial⟩
      · rw [moreTo_succ, ← sb1_pos]; first | exact or_t q72 | exact or_f q72 | (rw [q72]; rfl)
      · rw [moreTo_succ, ← sb1_pos]; first | exact or_t q79 | exact or_f q79 | (rw [q79]; rfl)
    first | (simp only [decide_eq_true_eq, decide_eq_false_iff_not, Bool.not_eq_true', Bool.not_eq_false', ne_eq, Decidable.not_not, Bool.not_eq_true, Bool.not_eq_false] at q72) | (dsimp only at q72) | skip
    refine Reg.gpur rfl rfl rfl rfl rfl rfl (Pur.mv rfl) ?_
    refine Reg.gpur rfl rfl rfl rfl rfl rfl (Pur.idxP arr26 rfl rfl (by omega) (by omega)) ?_
    refine Reg.glod rfl rfl rfl rfl rfl rfl (Lod.ld sc3 rfl op.blk (mix_at hi4)) ?_
    refine Reg.gpur rfl rfl rfl rfl rfl rfl (Pur.gtr rfl rfl) ?_
    refine Reg.pur rfl rfl rfl rfl (Pur.pickF rfl rfl) ?_
    refine Reg.pur rfl rfl rfl rfl (Pur.asg rfl) ?_
    refine Reg.nil ?_
    refine At.region rfl rfl ?_
    refine Reg.pur rfl rfl rfl rfl (Pur.mv rfl) ?_
    refine Reg.pur rfl rfl rfl rfl (Pur.mv rfl) ?_
    refine Reg.case 79 rfl (fun q79 => ?_) (fun q79 => ?_)
    · first | (simp only [decide_eq_true_eq, decide_eq_false_iff_not, Bool.not_eq_true', Bool.not_eq_false', ne_eq, Decidable.not_not, Bool.not_eq_true, Bool.not_eq_false] at q79) | (dsimp only at q79) | skip
      refine Reg.skip rfl rfl rfl rfl rfl rfl rfl ?_
      refine Reg.skip rfl rfl rfl rfl rfl rfl rfl ?_
      refine Reg.skip rfl rfl rfl rfl rfl rfl rfl ?_
      refine Reg.skip rfl rfl rfl rfl rfl rfl rfl ?_
      refine Reg.pur rfl rfl rfl rfl (Pur.pickT rfl rfl) ?_
      refine Reg.pur rfl rfl rfl rfl (Pur.asg rfl) ?_
      refine Reg.nil ?_
      refine At.region rfl rfl ?_
      refine Reg.pur rfl rfl rfl rfl (Pur.mv rfl) ?_
      first | refine Reg.pur rfl rfl rfl rfl (Pur.add64 rfl rfl (by omega)) ?_ | refine Reg.pur rfl rfl rfl rfl (Pur.add64 rfl rfl (by assumption)) ?_ | refine Reg.pur rfl rfl rfl rfl (Pur.add rfl rfl) ?_
      refine Reg.pur rfl rfl rfl rfl (Pur.asg rfl) ?_
      refine Reg.nil ?_
      refine At.via (ih (i + 1) _ ⟨by omega, op, oq, hA, hB, hE⟩ (by omega)) ⟨rfl, rfl, rfl, ?_, ?_, rfl, rfl, rfl, trivial⟩
      · rw [moreTo_succ, ← sb1_pos]; first | exact or_t q72 | exact or_f q72 | (rw [q72]; rfl)
      · rw [moreTo_succ, ← sb1_pos]; first | exact or_t q79 | exact or_f q79 | (rw [q79]; rfl)
    first | (simp only [decide_eq_true_eq, decide_eq_false_iff_not, Bool.not_eq_true', Bool.not_eq_false', ne_eq, Decidable.not_not, Bool.not_eq_true, Bool.not_eq_false] at q79) | (dsimp only at q79) | skip
    refine Reg.gpur rfl rfl rfl rfl rfl rfl (Pur.mv rfl) ?_
    refine Reg.gpur rfl rfl rfl rfl rfl rfl (Pur.idxP arr26 rfl rfl (by omega) (by omega)) ?_
    refine Reg.glod rfl rfl rfl rfl rfl rfl (Lod.ld sc3 rfl oq.blk (mix_at hi4)) ?_
    refine Reg.gpur rfl rfl rfl rfl rfl rfl (Pur.gtr rfl rfl) ?_
    refine Reg.pur rfl rfl rfl rfl (Pur.pickF rfl rfl) ?_
    refine Reg.pur rfl rfl rfl rfl (Pur.asg rfl) ?_
    refine Reg.nil ?_
    refine At.region rfl rfl ?_
    refine Reg.pur rfl rfl rfl rfl (Pur.mv rfl) ?_
    first | refine Reg.pur rfl rfl rfl rfl (Pur.add64 rfl rfl (by omega)) ?_ | refine Reg.pur rfl rfl rfl rfl (Pur.add64 rfl rfl (by assumption)) ?_ | refine Reg.pur rfl rfl rfl rfl (Pur.add rfl rfl) ?_
    refine Reg.pur rfl rfl rfl rfl (Pur.asg rfl) ?_
    refine Reg.nil ?_
    refine At.via (ih (i + 1) _ ⟨by omega, op, oq, hA, hB, hE⟩ (by omega)) ⟨rfl, rfl, rfl, ?_, ?_, rfl, rfl, rfl, trivial⟩
    · rw [moreTo_succ, ← sb1_pos]; first | exact or_t q72 | exact or_f q72 | (rw [q72]; rfl)
    · rw [moreTo_succ, ← sb1_pos]; first | exact or_t q79 | exact or_f q79 | (rw [q79]; rfl)
  first | (simp only [decide_eq_true_eq, decide_eq_false_iff_not, Bool.not_eq_true', Bool.not_eq_false', ne_eq, Decidable.not_not, Bool.not_eq_true, Bool.not_eq_false] at q43) | (dsimp only at q43) | skip
  obtain rfl : i = 4 := by omega
  clear ih
  refine At.region rfl rfl ?_
  refine Reg.pur rfl rfl rfl rfl (Pur.fld _ fo28_1 rfl) ?_
  refine Reg.lod rfl rfl rfl rfl (Lod.ld sc3 rfl hA.blk (hat4 a ha5)) ?_
  refine Reg.pur rfl rfl rfl rfl (Pur.fld _ fo28_1 rfl) ?_
  refine Reg.lod rfl rfl rfl rfl (Lod.ld sc3 rfl hB.blk (hat4 b hb5)) ?_
  refine Reg.pur rfl rfl rfl rfl (Pur.eql rfl rfl) ?_
  refine Reg.pur rfl rfl rfl rfl (Pur.asg rfl) ?_
  refine Reg.nil ?_
  refine At.cond rfl rfl (fun q85 => ?_) (fun q85 => ?_)
  · first | (simp only [decide_eq_true_eq, decide_eq_false_iff_not, Bool.not_eq_true', Bool.not_eq_false', ne_eq, Decidable.not_not, Bool.not_eq_true, Bool.not_eq_false] at q85) | (dsimp only at q85) | skip
    refine At.region rfl rfl ?_
    refine Reg.pur rfl rfl rfl rfl (Pur.mv rfl) ?_
    refine Reg.pur rfl rfl rfl rfl (Pur.mv rfl) ?_
    refine Reg.case 92 rfl (fun q92 => ?_) (fun q92 => ?_)
    · first | (simp only [decide_eq_true_eq, decide_eq_false_iff_not, Bool.not_eq_true', Bool.not_eq_false', ne_eq, Decidable.not_not, Bool.not_eq_true, Bool.not_eq_false] at q92) | (dsimp only at q92) | skip
      refine Reg.skip rfl rfl rfl rfl rfl rfl rfl ?_
      refine Reg.pur rfl rfl rfl rfl (Pur.pickT rfl rfl) ?_
      refine Reg.nil ?_
      refine At.condT rfl rfl rfl ?_
      refine At.region rfl rfl ?_
      refine Reg.pur rfl rfl rfl rfl (Pur.asg rfl) ?_
      refine Reg.pur rfl rfl rfl rfl (Pur.asg rfl) ?_
      refine Reg.nil ?_
      refine At.ret rfl Try.func135 rfl ?_
      exact uniP_nil (by rw [hy]; unfold uniQ; simp_all [moreC]) hE
    first | (simp only [decide_eq_true_eq, decide_eq_false_iff_not, Bool.not_eq_true', Bool.not_eq_false', ne_eq, Decidable.not_not, Bool.not_eq_true, Bool.not_eq_false] at q92) | (dsimp only at q92) | skip
    refine Reg.gpur rfl rfl rfl rfl rfl rfl (Pur.mv rfl) ?_
    refine Reg.pur rfl rfl rfl rfl (Pur.pickF rfl rfl) ?_
    refine Reg.nil ?_
    refine At.cond rfl rfl (fun q94 => ?_) (fun q94 => ?_)
    · first | (simp only [decide_eq_true_eq, decide_eq_false_iff_not, Bool.not_eq_true', Bool.not_eq_false', ne_eq, Decidable.not_not, Bool.not_eq_true, Bool.not_eq_false] at q94) | (dsimp only at q94) | skip
      refine At.region rfl rfl ?_
      refine Reg.pur rfl rfl rfl rfl (Pur.asg rfl) ?_
      refine Reg.pur rfl rfl rfl rfl (Pur.asg rfl) ?_
      refine Reg.nil ?_
      refine At.ret rfl Try.func135 rfl ?_
      exact uniP_nil (by rw [hy]; unfold uniQ; simp_all [moreC]) hE
    first | (simp only [decide_eq_true_eq, decide_eq_false_iff_not, Bool.not_eq_true', Bool.not_eq_false', ne_eq, Decidable.not_not, Bool.not_eq_true, Bool.not_eq_false] at q94) | (dsimp only at q94) | skip
    refine At.region rfl rfl ?_
    refine Reg.pur rfl rfl rfl rfl (Pur.asg rfl) ?_
    refine Reg.pur rfl rfl rfl rfl (Pur.asg rfl) ?_
    refine Reg.nil ?_
    refine At.ret rfl Try.func135 rfl ?_
    exact uniP_nil (by rw [hy]; unfold uniQ; simp_all [moreC]) hE
  first | (simp only [decide_eq_true_eq, decide_eq_false_iff_not, Bool.not_eq_true', Bool.not_eq_false', ne_eq, Decidable.not_not, Bool.not_eq_true, Bool.not_eq_false] at q85) | (dsimp only at q85) | skip
  refine At.region rfl rfl ?_
  refine Reg.pur rfl rfl rfl rfl (Pur.mv rfl) ?_
  refine Reg.pur rfl rfl rfl rfl (Pur.mv rfl) ?_
  refine Reg.case 97 rfl (fun q97 => ?_) (fun q97 => ?_)
  · first | (simp only [decide_eq_true_eq, decide_eq_false_iff_not, Bool.not_eq_true', Bool.not_eq_false', ne_eq, Decidable.not_not, Bool.not_eq_true, Bool.not_eq_false] at q97) | (dsimp only at q97) | skip
    refine Reg.gpur rfl rfl rfl rfl rfl rfl (Pur.fld _ fo28_1 rfl) ?_
    refine Reg.glod rfl rfl rfl rfl rfl rfl (Lod.ld sc3 rfl hB.blk (hat4 b hb5)) ?_
    refine Reg.gpur rfl rfl rfl rfl rfl rfl (Pur.lss rfl rfl) ?_
    refine Reg.pur rfl rfl rfl rfl (Pur.pickT rfl rfl) ?_
    refine Reg.pur rfl rfl rfl rfl (Pur.mv rfl) ?_
    refine Reg.case 102 rfl (fun q102 => ?_) (fun q102 => ?_)
    · first | (simp only [decide_eq_true_eq, decide_eq_false_iff_not, Bool.not_eq_true', Bool.not_eq_false', ne_eq, Decidable.not_not, Bool.not_eq_true, Bool.not_eq_false] at q102) | (dsimp only at q102) | skip
      refine Reg.skip rfl rfl rfl rfl rfl rfl rfl ?_
      refine Reg.skip rfl rfl rfl rfl rfl rfl rfl ?_
      refine Reg.skipU rfl rfl rfl rfl rfl rfl ?_
      refine Reg.skipU rfl rfl rfl rfl rfl rfl ?_
      refine Reg.skipU rfl rfl rfl rfl rfl rfl ?_
      refine Reg.skip rfl rfl rfl rfl rfl rfl rfl ?_
      refine Reg.pur rfl rfl rfl rfl (Pur.pickT rfl rfl) ?_
      refine Reg.pur rfl rfl rfl rfl (Pur.asg rfl) ?_
      refine Reg.nil ?_
      refine At.condT rfl rfl rfl ?_
      refine At.region rfl rfl ?_
      refine Reg.pur rfl rfl rfl rfl (Pur.asg rfl) ?_
      refine Reg.pur rfl rfl rfl rfl (Pur.asg rfl) ?_
      refine Reg.nil ?_
      refine At.ret rfl Try.func135 rfl ?_
      exact uniP_nil (by rw [hy]; unfold uniQ moreC; rw [if_neg (by assumption), if_pos (by simp_all; try omega)]) hE
    first | (simp only [decide_eq_true_eq, decide_eq_false_iff_not, Bool.not_eq_true', Bool.not_eq_false', ne_eq, Decidable.not_not, Bool.not_eq_true, Bool.not_eq_false] at q102) | (dsimp only at q102) | skip
    refine Reg.gpur rfl rfl rfl rfl rfl rfl (Pur.mv rfl) ?_
    refine Reg.gpur rfl rfl rfl rfl rfl rfl (Pur.mv rfl) ?_
    refine Reg.case 104 rfl (fun q104 => ?_) (fun q104 => ?_)
    · first | (simp only [decide_eq_true_eq, decide_eq_false_iff_not, Bool.not_eq_true', Bool.not_eq_false', ne_eq, Decidable.not_not, Bool.not_eq_true, Bool.not_eq_false] at q104) | (dsimp only at q104) | skip
      refine Reg.gpur rfl rfl rfl rfl rfl rfl (Pur.fld _ fo28_1 rfl) ?_
      refine Reg.glod rfl rfl rfl rfl rfl rfl (Lod.ld sc3 rfl hA.blk (hat4 a ha5)) ?_
      refine Reg.gpur rfl rfl rfl rfl rfl rfl (Pur.lss rfl rfl) ?_
      refine Reg.gpur rfl rfl rfl rfl rfl rfl (Pur.pickT rfl rfl) ?_
      refine Reg.pur rfl rfl rfl rfl (Pur.pickF rfl rfl) ?_
      refine Reg.pur rfl rfl rfl rfl (Pur.asg rfl) ?_
      refine Reg.nil ?_
      refine At.cond rfl rfl (fun q95 => ?_) (fun q95 => ?_)
      · first | (simp only [decide_eq_true_eq, decide_eq_false_iff_not, Bool.not_eq_true', Bool.not_eq_false', ne_eq, Decidable.not_not, Bool.not_eq_true, Bool.not_eq_false] at q95) | (dsimp only at q95) | skip
        refine At.region rfl rfl ?_
        refine Reg.pur rfl rfl rfl rfl (Pur.asg rfl) ?_
        refine Reg.pur rfl rfl rfl rfl (Pur.asg rfl) ?_
        refine Reg.nil ?_
        refine At.ret rfl Try.func135 rfl ?_
        exact uniP_nil (by rw [hy]; unfold uniQ moreC; rw [if_neg (by assumption), if_pos (by simp_all; try omega)]) hE
      first | (simp only [decide_eq_true_eq, decide_eq_false_iff_not, Bool.not_eq_true', Bool.not_eq_false', ne_eq, Decidable.not_not, Bool.not_eq_true, Bool.not_eq_false] at q95) | (dsimp only at q95) | skip
      refine At.region rfl rfl ?_
      refine Reg.pur rfl rfl rfl rfl (Pur.fld _ fo28_1 rfl) ?_
      refine Reg.lod rfl rfl rfl rfl (Lod.ld sc3 rfl hB.blk (hat4 b hb5)) ?_
      refine Reg.pur rfl rfl rfl rfl (Pur.lss rfl rfl) ?_
      refine Reg.pur rfl rfl rfl rfl (Pur.asg rfl) ?_
      refine Reg.nil ?_
      refine At.cond rfl rfl (fun q110 => ?_) (fun q110 => ?_)
      · first | (simp only [decide_eq_true_eq, decide_eq_false_iff_not, Bool.not_eq_true', Bool.not_eq_false', ne_eq, Decidable.not_not, Bool.not_eq_true, Bool.not_eq_false] at q110) | (dsimp only at q110) | skip
        refine At.region rfl rfl ?_
        refine Reg.pur rfl rfl rfl rfl (Pur.fld _ fo28_1 rfl) ?_
        refine Reg.lod rfl rfl rfl rfl (Lod.ld sc3 rfl hA.blk (hat4 a ha5)) ?_
        refine Reg.lod rfl rfl rfl rfl (Lod.ldn ag26 rfl oq.blk (whole rfl) rfl) ?_
        refine Reg.op rfl rfl rfl rfl (Does.call rfl (rowBindR_ok _ _ _ (subC_len b a))) ?_
        rintro _ H20_3 ⟨rfl, hE20_3⟩
        have z20_3 := hE20_3.lt
        replace hE := hE.ext hE20_3
        replace hA := hA.ext hE20_3
        replace hB := hB.ext hE20_3
        replace op := op.ext hE20_3
        replace oq := oq.ext hE20_3
        refine Reg.op rfl rfl rfl rfl (Does.bslA ([encB (bR (a.getD 4 0) (subC b a ++ [-1]))]) slA22 rfl rfl rfl rfl rfl rfl) ?_
        rintro _ H20_4 ⟨rfl, hp20_4⟩
        have hn20_4 := New.of_eq hp20_4
        have z20_4 := hn20_4.size
        replace hE := hE.ext hn20_4.ext
        replace hA := hA.ext hn20_4.ext
        replace hB := hB.ext hn20_4.ext
        replace op := op.ext hn20_4.ext
        replace oq := oq.ext hn20_4.ext
        have o20_4 := hn20_4.own
        refine Reg.pur rfl rfl rfl rfl (Pur.asg rfl) ?_
        refine Reg.pur rfl rfl rfl rfl (Pur.asg rfl) ?_
        refine Reg.nil ?_
        refine At.ret rfl Try.func135 rfl ?_
        exact uniP_one (by have h1 : b.getD 4 0 = -1 := (by omega); rw [hy]; unfold uniQ moreC; simp_all; try omega) rfl o20_4 (by omega) hE
      first | (simp only [decide_eq_true_eq, decide_eq_false_iff_not, Bool.not_eq_true', Bool.not_eq_false', ne_eq, Decidable.not_not, Bool.not_eq_true, Bool.not_eq_false] at q110) | (dsimp only at q110) | skip
      refine At.region rfl rfl ?_
      refine Reg.pur rfl rfl rfl rfl (Pur.fld _ fo28_1 rfl) ?_
      refine Reg.lod rfl rfl rfl rfl (Lod.ld sc3 rfl hA.blk (hat4 a ha5)) ?_
      refine Reg.pur rfl rfl rfl rfl (Pur.lss rfl rfl) ?_
      refine Reg.pur rfl rfl rfl rfl (Pur.asg rfl) ?_
      refine Reg.nil ?_
      refine At.cond rfl rfl (fun q119 => ?_) (fun q119 => ?_)
      · first | (simp only [decide_eq_true_eq, decide_eq_false_iff_not, Bool.not_eq_true', Bool.not_eq_false', ne_eq, Decidable.not_not, Bool.not_eq_true, Bool.not_eq_false] at q119) | (dsimp only at q119) | skip
        refine At.region rfl rfl ?_
        refine Reg.pur rfl rfl rfl rfl (Pur.fld _ fo28_1 rfl) ?_
        refine Reg.lod rfl rfl rfl rfl (Lod.ld sc3 rfl hB.blk (hat4 b hb5)) ?_
        refine Reg.lod rfl rfl rfl rfl (Lod.ldn ag26 rfl op.blk (whole rfl) rfl) ?_
        refine Reg.op rfl rfl rfl rfl (Does.call rfl (rowBindR_ok _ _ _ (subC_len a b))) ?_
        rintro _ H22_3 ⟨rfl, hE22_3⟩
        have z22_3 := hE22_3.lt
        replace hE := hE.ext hE22_3
        replace hA := hA.ext hE22_3
        replace hB := hB.ext hE22_3
        replace op := op.ext hE22_3
        replace oq := oq.ext hE22_3
        refine Reg.op rfl rfl rfl rfl (Does.bslA ([encB (bR (b.getD 4 0) (subC a b ++ [-1]))]) slA22 rfl rfl rfl rfl rfl rfl) ?_
        rintro _ H22_4 ⟨rfl, hp22_4⟩
        have hn22_4 := New.of_eq hp22_4
        have z22_4 := hn22_4.size
        replace hE := hE.ext hn22_4.ext
        replace hA := hA.ext hn22_4.ext
        replace hB := hB.ext hn22_4.ext
        replace op := op.ext hn22_4.ext
        replace oq := oq.ext hn22_4.ext
        have o22_4 := hn22_4.own
        refine Reg.pur rfl rfl rfl rfl (Pur.asg rfl) ?_
        refine Reg.pur rfl rfl rfl rfl (Pur.asg rfl) ?_
        refine Reg.nil ?_
        refine At.ret rfl Try.func135 rfl ?_
        exact uniP_one (by have h1 : a.getD 4 0 = -1 := (by omega); rw [hy]; unfold uniQ moreC; simp_all; try omega) rfl o22_4 (by omega) hE
      first | (simp only [decide_eq_true_eq, decide_eq_false_iff_not, Bool.not_eq_true', Bool.not_eq_false', ne_eq, Decidable.not_not, Bool.not_eq_true, Bool.not_eq_false] at q119) | (dsimp only at q119) | skip
      refine At.region rfl rfl ?_
      refine Reg.pur rfl rfl rfl rfl (Pur.mv rfl) ?_
      refine Reg.pur rfl rfl rfl rfl (Pur.not rfl) ?_
      refine Reg.pur rfl rfl rfl rfl (Pur.asg rfl) ?_
      refine Reg.nil ?_
      refine At.cond rfl rfl (fun q128 => ?_) (fun q128 => ?_)
      · first | (simp only [decide_eq_true_eq, decide_eq_false_iff_not, Bool.not_eq_true', Bool.not_eq_false', ne_eq, Decidable.not_not, Bool.not_eq_true, Bool.not_eq_false] at q128) | (dsimp only at q128) | skip
        refine At.region rfl rfl ?_
        refine Reg.pur rfl rfl rfl rfl (Pur.fld _ fo28_1 rfl) ?_
        refine Reg.lod rfl rfl rfl rfl (Lod.ld sc3 rfl hA.blk (hat4 a ha5)) ?_
        refine Reg.lod rfl rfl rfl rfl (Lod.ldn ag26 rfl oq.blk (whole rfl) rfl) ?_
        refine Reg.pur rfl rfl rfl rfl (Pur.fld _ fo28_1 rfl) ?_
        refine Reg.lod rfl rfl rfl rfl (Lod.ld sc3 rfl hB.blk (hat4 b hb5)) ?_
        refine Reg.op rfl rfl rfl rfl (Does.call rfl (rowBindR_ok _ _ _ (subC_len b a))) ?_
        rintro _ H24_5 ⟨rfl, hE24_5⟩
        have z24_5 := hE24_5.lt
        replace hE := hE.ext hE24_5
        replace hA := hA.ext hE24_5
        replace hB := hB.ext hE24_5
        replace op := op.ext hE24_5
        replace oq := oq.ext hE24_5
        refine Reg.op rfl rfl rfl rfl (Does.bslA ([encB (bR (a.getD 4 0) (subC b a ++ [b.getD 4 0]))]) slA22 rfl rfl rfl rfl rfl rfl) ?_
        rintro _ H24_6 ⟨rfl, hp24_6⟩
        have hn24_6 := New.of_eq hp24_6
        have z24_6 := hn24_6.size
        replace hE := hE.ext hn24_6.ext
        replace hA := hA.ext hn24_6.ext
        replace hB := hB.ext hn24_6.ext
        replace op := op.ext hn24_6.ext
        replace oq := oq.ext hn24_6.ext
        have o24_6 := hn24_6.own
        refine Reg.pur rfl rfl rfl rfl (Pur.asg rfl) ?_
        refine Reg.pur rfl rfl rfl rfl (Pur.asg rfl) ?_
        refine Reg.nil ?_
        refine At.ret rfl Try.func135 rfl ?_
        exact uniP_one (by have h1 : a.getD 4 0 ≠ -1 := (by omega); have h2 : b.getD 4 0 ≠ -1 := (by omega); rw [hy]; unfold uniQ moreC; simp_all) rfl o24_6 (by omega) hE
      first | (simp only [decide_eq_true_eq, decide_eq_false_iff_not, Bool.not_eq_true', Bool.not_eq_false', ne_eq, Decidable.not_not, Bool.not_eq_true, Bool.not_eq_false] at q128) | (dsimp only at q128) | skip
      refine At.region rfl rfl ?_
      refine Reg.pur rfl rfl rfl rfl (Pur.mv rfl) ?_
      refine Reg.pur rfl rfl rfl rfl (Pur.not rfl) ?_
      refine Reg.pur rfl rfl rfl rfl (Pur.asg rfl) ?_
      refine Reg.nil ?_
      refine At.cond rfl rfl (fun q138 => ?_) (fun q138 => ?_)
      · first | (simp only [decide_eq_true_eq, decide_eq_false_iff_not, Bool.not_eq_true', Bool.not_eq_false', ne_eq, Decidable.not_not, Bool.not_eq_true, Bool.not_eq_false] at q138) | (dsimp only at q138) | skip
        refine At.region rfl rfl ?_
        refine Reg.pur rfl rfl rfl rfl (Pur.fld _ fo28_1 rfl) ?_
        refine Reg.lod rfl rfl rfl rfl (Lod.ld sc3 rfl hB.blk (hat4 b hb5)) ?_
        refine Reg.lod rfl rfl rfl rfl (Lod.ldn ag26 rfl op.blk (whole rfl) rfl) ?_
        refine Reg.pur rfl rfl rfl rfl (Pur.fld _ fo28_1 rfl) ?_
        refine Reg.lod rfl rfl rfl rfl (Lod.ld sc3 rfl hA.blk (hat4 a ha5)) ?_
        refine Reg.op rfl rfl rfl rfl (Does.call rfl (rowBindR_ok _ _ _ (subC_len a b))) ?_
        rintro _ H26_5 ⟨rfl, hE26_5⟩
        have z26_5 := hE26_5.lt
        replace hE := hE.ext hE26_5
        replace hA := hA.ext hE26_5
        replace hB := hB.ext hE26_5
        replace op := op.ext hE26_5
        replace oq := oq.ext hE26_5
        refine Reg.op rfl rfl rfl rfl (Does.bslA ([encB (bR (b.getD 4 0) (subC a b ++ [a.getD 4 0]))]) slA22 rfl rfl rfl rfl rfl rfl) ?_
        rintro _ H26_6 ⟨rfl, hp26_6⟩
        have hn26_6 := New.of_eq hp26_6
        have z26_6 := hn26_6.size
        replace hE := hE.ext hn26_6.ext
        replace hA := hA.ext hn26_6.ext
        replace hB := hB.ext hn26_6.ext
        replace op := op.ext hn26_6.ext
        replace oq := oq.ext hn26_6.ext
        have o26_6 := hn26_6.own
        refine Reg.pur rfl rfl rfl rfl (Pur.asg rfl) ?_
        refine Reg.pur rfl rfl rfl rfl (Pur.asg rfl) ?_
        refine Reg.nil ?_
        refine At.ret rfl Try.func135 rfl ?_
        exact uniP_one (by have h1 : a.getD 4 0 ≠ -1 := (by omega); have h2 : b.getD 4 0 ≠ -1 := (by omega); rw [hy]; unfold uniQ moreC; simp_all) rfl o26_6 (by omega) hE
      first | (simp only [decide_eq_true_eq, decide_eq_false_iff_not, Bool.not_eq_true', Bool.not_eq_false', ne_eq, Decidable.not_not, Bool.not_eq_true, Bool.not_eq_false] at q138) | (dsimp only at q138) | skip
      refine At.drawE ((Bks.cons hA.blk (Bks.cons hB.blk (Bks.cons op.blk (Bks.cons oq.blk Bks.nil))))) [] mixed rfl rfl ?_
      refine RegD.tpur (i := 0) rfl rfl rfl rfl (by kernel_rfl) (Pur.fld _ fo28_1 rfl) ?_
      refine RegD.take (i := 1) rfl rfl rfl rfl (by kernel_rfl) (Bks.cons hA.blk (Bks.cons hB.blk (Bks.cons op.blk (Bks.cons oq.blk Bks.nil)))) (fun H hS => Lod.ld sc3 rfl hS.hd (hat4 a ha5)) ?_
      refine RegD.take (i := 2) rfl rfl rfl rfl (by kernel_rfl) (Bks.cons hA.blk (Bks.cons hB.blk (Bks.cons op.blk (Bks.cons oq.blk Bks.nil)))) (fun H hS => Lod.ldn ag26 rfl hS.tl.tl.tl.hd (whole rfl) rfl) ?_
      refine RegD.tpur (i := 3) rfl rfl rfl rfl (by kernel_rfl) (Pur.mv rfl) ?_
      refine RegD.tpur (i := 5) rfl rfl rfl rfl (by kernel_rfl) (Pur.fld _ fo28_1 rfl) ?_
      refine RegD.take (i := 6) rfl rfl rfl rfl (by kernel_rfl) (Bks.cons hA.blk (Bks.cons hB.blk (Bks.cons op.blk (Bks.cons oq.blk Bks.nil)))) (fun H hS => Lod.ld sc3 rfl hS.tl.hd (hat4 b hb5)) ?_
      refine RegD.take (i := 7) rfl rfl rfl rfl (by kernel_rfl) (Bks.cons hA.blk (Bks.cons hB.blk (Bks.cons op.blk (Bks.cons oq.blk Bks.nil)))) (fun H hS => Lod.ldn ag26 rfl hS.tl.tl.hd (whole rfl) rfl) ?_
      refine RegD.tpur (i := 8) rfl rfl rfl rfl (by kernel_rfl) (Pur.mv rfl) ?_
      refine RegD.one (i := 4) (by kernel_rfl) rfl rfl rfl rfl (Does.call rfl (rowBindR_ok _ _ _ (subC_len b a))) ?_
      rintro _ H27_4 ⟨rfl, hE27_4⟩
      have z27_4 := hE27_4.lt
      replace hE := hE.ext hE27_4
      replace hA := hA.ext hE27_4
      replace hB := hB.ext hE27_4
      replace op := op.ext hE27_4
      replace oq := oq.ext hE27_4
      refine ⟨fun _ _ => (Bks.cons hA.blk (Bks.cons hB.blk (Bks.cons op.blk (Bks.cons oq.blk Bks.nil)))), ?_⟩
      refine RegD.one (i := 9) (by kernel_rfl) rfl rfl rfl rfl (Does.call rfl (rowBindR_ok _ _ _ (subC_len a b))) ?_
      rintro _ H27_9 ⟨rfl, hE27_9⟩
      have z27_9 := hE27_9.lt
      replace hE := hE.ext hE27_9
      replace hA := hA.ext hE27_9
      replace hB := hB.ext hE27_9
      replace op := op.ext hE27_9
      replace oq := oq.ext hE27_9
      refine ⟨fun _ _ => (Bks.cons hA.blk (Bks.cons hB.blk (Bks.cons op.blk (Bks.cons oq.blk Bks.nil)))), ?_⟩
      refine RegD.one (i := 10) (by kernel_rfl) rfl rfl rfl rfl (Does.bslA ([encB (bR (a.getD 4 0) (subC b a ++ [f])), encB (bR (b.getD 4 0) (subC a b ++ [f]))]) slA22 rfl rfl rfl rfl rfl rfl) ?_
      rintro _ H27_10 ⟨rfl, hp27_10⟩
      have hn27_10 := New.of_eq hp27_10
      have z27_10 := hn27_10.size
      replace hE := hE.ext hn27_10.ext
      replace hA := hA.ext hn27_10.ext
      replace hB := hB.ext hn27_10.ext
      replace op := op.ext hn27_10.ext
      replace oq := oq.ext hn27_10.ext
      have o27_10 := hn27_10.own
      refine ⟨fun _ _ => (Bks.cons hA.blk (Bks.cons hB.blk (Bks.cons op.blk (Bks.cons oq.blk Bks.nil)))), ?_⟩
      refine RegD.tpur (i := 11) rfl rfl rfl rfl (by kernel_rfl) (Pur.asg rfl) ?_
      refine RegD.tpur (i := 12) rfl rfl rfl rfl (by kernel_rfl) (Pur.asg rfl) ?_
      refine RegD.done (by kernel_rfl) ?_
      refine At.ret rfl Try.func135 rfl ?_
      exact uniP_two (by have h1 : a.getD 4 0 ≠ -1 := (by omega); have h2 : b.getD 4 0 ≠ -1 := (by omega); rw [hy]; unfold uniQ moreC; simp_all) rfl rfl o27_10 (by omega) hE
    first | (simp only [decide_eq_true_eq, decide_eq_false_iff_not, Bool.not_eq_true', Bool.not_eq_false', ne_eq, Decidable.not_not, Bool.not_eq_true, Bool.not_eq_false] at q104) | (dsimp only at q104) | skip
    refine Reg.skip rfl rfl rfl rfl rfl rfl rfl ?_
    refine Reg.skip rfl rfl rfl rfl rfl rfl rfl ?_
    refine Reg.skip rfl rfl rfl rfl rfl rfl rfl ?_
    refine Reg.gpur rfl rfl rfl rfl rfl rfl (Pur.pickF rfl rfl) ?_
    refine Reg.pur rfl rfl rfl rfl (Pur.pickF rfl rfl) ?_
    refine Reg.pur rfl rfl rfl rfl (Pur.asg rfl) ?_
    refine Reg.nil ?_
    refine At.condF rfl rfl rfl ?_
    refine At.region rfl rfl ?_
    refine Reg.pur rfl rfl rfl rfl (Pur.fld _ fo28_1 rfl) ?_
    refine Reg.lod rfl rfl rfl rfl (Lod.ld sc3 rfl hB.blk (hat4 b hb5)) ?_
    refine Reg.pur rfl rfl rfl rfl (Pur.lss rfl rfl) ?_
    refine Reg.pur rfl rfl rfl rfl (Pur.asg rfl) ?_
    refine Reg.nil ?_
    refine At.cond rfl rfl (fun q110 => ?_) (fun q110 => ?_)
    · first | (simp only [decide_eq_true_eq, decide_eq_false_iff_not, Bool.not_eq_true', Bool.not_eq_false', ne_eq, Decidable.not_not, Bool.not_eq_true, Bool.not_eq_false] at q110) | (dsimp only at q110) | skip
      refine At.region rfl rfl ?_
      refine Reg.pur rfl rfl rfl rfl (Pur.fld _ fo28_1 rfl) ?_
      refine Reg.lod rfl rfl rfl rfl (Lod.ld sc3 rfl hA.blk (hat4 a ha5)) ?_
      refine Reg.lod rfl rfl rfl rfl (Lod.ldn ag26 rfl oq.blk (whole rfl) rfl) ?_
      refine Reg.op rfl rfl rfl rfl (Does.call rfl (rowBindR_ok _ _ _ (subC_len b a))) ?_
      rintro _ H20_3 ⟨rfl, hE20_3⟩
      have z20_3 := hE20_3.lt
      replace hE := hE.ext hE20_3
      replace hA := hA.ext hE20_3
      replace hB := hB.ext hE20_3
      replace op := op.ext hE20_3
      replace oq := oq.ext hE20_3
      refine Reg.op rfl rfl rfl rfl (Does.bslA ([encB (bR (a.getD 4 0) (subC b a ++ [-1]))]) slA22 rfl rfl rfl rfl rfl rfl) ?_
      rintro _ H20_4 ⟨rfl, hp20_4⟩
      have hn20_4 := New.of_eq hp20_4
      have z20_4 := hn20_4.size
      replace hE := hE.ext hn20_4.ext
      replace hA := hA.ext hn20_4.ext
      replace hB := hB.ext hn20_4.ext
      replace op := op.ext hn20_4.ext
      replace oq := oq.ext hn20_4.ext
      have o20_4 := hn20_4.own
      refine Reg.pur rfl rfl rfl rfl (Pur.asg rfl) ?_
      refine Reg.pur rfl rfl rfl rfl (Pur.asg rfl) ?_
      refine Reg.nil ?_
      refine At.ret rfl Try.func135 rfl ?_
      exact uniP_one (by have h1 : b.getD 4 0 = -1 := (by omega); rw [hy]; unfold uniQ moreC; simp_all; try omega) rfl o20_4 (by omega) hE
    first | (simp only [decide_eq_true_eq, decide_eq_false_iff_not, Bool.not_eq_true', Bool.not_eq_false', ne_eq, Decidable.not_not, Bool.not_eq_true, Bool.not_eq_false] at q110) | (dsimp only at q110) | skip
    refine At.region rfl rfl ?_
    refine Reg.pur rfl rfl rfl rfl (Pur.fld _ fo28_1 rfl) ?_
    refine Reg.lod rfl rfl rfl rfl (Lod.ld sc3 rfl hA.blk (hat4 a ha5)) ?_
    refine Reg.pur rfl rfl rfl rfl (Pur.lss rfl rfl) ?_
    refine Reg.pur rfl rfl rfl rfl (Pur.asg rfl) ?_
    refine Reg.nil ?_
    refine At.cond rfl rfl (fun q119 => ?_) (fun q119 => ?_)
    · first | (simp only [decide_eq_true_eq, decide_eq_false_iff_not, Bool.not_eq_true', Bool.not_eq_false', ne_eq, Decidable.not_not, Bool.not_eq_true, Bool.not_eq_false] at q119) | (dsimp only at q119) | skip
      refine At.region rfl rfl ?_
      refine Reg.pur rfl rfl rfl rfl (Pur.fld _ fo28_1 rfl) ?_
      refine Reg.lod rfl rfl rfl rfl (Lod.ld sc3 rfl hB.blk (hat4 b hb5)) ?_
      refine Reg.lod rfl rfl rfl rfl (Lod.ldn ag26 rfl op.blk (whole rfl) rfl) ?_
      refine Reg.op rfl rfl rfl rfl (Does.call rfl (rowBindR_ok _ _ _ (subC_len a b))) ?_
      rintro _ H22_3 ⟨rfl, hE22_3⟩
      have z22_3 := hE22_3.lt
      replace hE := hE.ext hE22_3
      replace hA := hA.ext hE22_3
      replace hB := hB.ext hE22_3
      replace op := op.ext hE22_3
      replace oq := oq.ext hE22_3
      refine Reg.op rfl rfl rfl rfl (Does.bslA ([encB (bR (b.getD 4 0) (subC a b ++ [-1]))]) slA22 rfl rfl rfl rfl rfl rfl) ?_
      rintro _ H22_4 ⟨rfl, hp22_4⟩
      have hn22_4 := New.of_eq hp22_4
      have z22_4 := hn22_4.size
      replace hE := hE.ext hn22_4.ext
      replace hA := hA.ext hn22_4.ext
      replace hB := hB.ext hn22_4.ext
      replace op := op.ext hn22_4.ext
      replace oq := oq.ext hn22_4.ext
      have o22_4 := hn22_4.own
      refine Reg.pur rfl rfl rfl rfl (Pur.asg rfl) ?_
      refine Reg.pur rfl rfl rfl rfl (Pur.asg rfl) ?_
      refine Reg.nil ?_
      refine At.ret rfl Try.func135 rfl ?_
      exact uniP_one (by have h1 : a.getD 4 0 = -1 := (by omega); rw [hy]; unfold uniQ moreC; simp_all; try omega) rfl o22_4 (by omega) hE
    first | (simp only [decide_eq_true_eq, decide_eq_false_iff_not, Bool.not_eq_true', Bool.not_eq_false', ne_eq, Decidable.not_not, Bool.not_eq_true, Bool.not_eq_false] at q119) | (dsimp only at q119) | skip
    refine At.region rfl rfl ?_
    refine Reg.pur rfl rfl rfl rfl (Pur.mv rfl) ?_
    refine Reg.pur rfl rfl rfl rfl (Pur.not rfl) ?_
    refine Reg.pur rfl rfl rfl rfl (Pur.asg rfl) ?_
    refine Reg.nil ?_
    refine At.cond rfl rfl (fun q128 => ?_) (fun q128 => ?_)
    · first | (simp only [decide_eq_true_eq, decide_eq_false_iff_not, Bool.not_eq_true', Bool.not_eq_false', ne_eq, Decidable.not_not, Bool.not_eq_true, Bool.not_eq_false] at q128) | (dsimp only at q128) | skip
      refine At.region rfl rfl ?_
      refine Reg.pur rfl rfl rfl rfl (Pur.fld _ fo28_1 rfl) ?_
      refine Reg.lod rfl rfl rfl rfl (Lod.ld sc3 rfl hA.blk (hat4 a ha5)) ?_
      refine Reg.lod rfl rfl rfl rfl (Lod.ldn ag26 rfl oq.blk (whole rfl) rfl) ?_
      refine Reg.pur rfl rfl rfl rfl (Pur.fld _ fo28_1 rfl) ?_
      refine Reg.lod rfl rfl rfl rfl (Lod.ld sc3 rfl hB.blk (hat4 b hb5)) ?_
      refine Reg.op rfl rfl rfl rfl (Does.call rfl (rowBindR_ok _ _ _ (subC_len b a))) ?_
      rintro _ H24_5 ⟨rfl, hE24_5⟩
      have z24_5 := hE24_5.lt
      replace hE := hE.ext hE24_5
      replace hA := hA.ext hE24_5
      replace hB := hB.ext hE24_5
      replace op := op.ext hE24_5
      replace oq := oq.ext hE24_5
      refine Reg.op rfl rfl rfl rfl (Does.bslA ([encB (bR (a.getD 4 0) (subC b a ++ [b.getD 4 0]))]) slA22 rfl rfl rfl rfl rfl rfl) ?_
      rintro _ H24_6 ⟨rfl, hp24_6⟩
      have hn24_6 := New.of_eq hp24_6
      have z24_6 := hn24_6.size
      replace hE := hE.ext hn24_6.ext
      replace hA := hA.ext hn24_6.ext
      replace hB := hB.ext hn24_6.ext
      replace op := op.ext hn24_6.ext
      replace oq := oq.ext hn24_6.ext
      have o24_6 := hn24_6.own
      refine Reg.pur rfl rfl rfl rfl (Pur.asg rfl) ?_
      refine Reg.pur rfl rfl rfl rfl (Pur.asg rfl) ?_
      refine Reg.nil ?_
      refine At.ret rfl Try.func135 rfl ?_
      exact uniP_one (by have h1 : a.getD 4 0 ≠ -1 := (by omega); have h2 : b.getD 4 0 ≠ -1 := (by omega); rw [hy]; unfold uniQ moreC; simp_all) rfl o24_6 (by omega) hE
    first | (simp only [decide_eq_true_eq, decide_eq_false_iff_not, Bool.not_eq_true', Bool.not_eq_false', ne_eq, Decidable.not_not, Bool.not_eq_true, Bool.not_eq_false] at q128) | (dsimp only at q128) | skip
    refine At.region rfl rfl ?_
    refine Reg.pur rfl rfl rfl rfl (Pur.mv rfl) ?_
    refine Reg.pur rfl rfl rfl rfl (Pur.not rfl) ?_
    refine Reg.pur rfl rfl rfl rfl (Pur.asg rfl) ?_
    refine Reg.nil ?_
    refine At.cond rfl rfl (fun q138 => ?_) (fun q138 => ?_)
    · first | (simp only [decide_eq_true_eq, decide_eq_false_iff_not, Bool.not_eq_true', Bool.not_eq_false', ne_eq, Decidable.not_not, Bool.not_eq_true, Bool.not_eq_false] at q138) | (dsimp only at q138) | skip
      refine At.region rfl rfl ?_
      refine Reg.pur rfl rfl rfl rfl (Pur.fld _ fo28_1 rfl) ?_
      refine Reg.lod rfl rfl rfl rfl (Lod.ld sc3 rfl hB.blk (hat4 b hb5)) ?_
      refine Reg.lod rfl rfl rfl rfl (Lod.ldn ag26 rfl op.blk (whole rfl) rfl) ?_
      refine Reg.pur rfl rfl rfl rfl (Pur.fld _ fo28_1 rfl) ?_
      refine Reg.lod rfl rfl rfl rfl (Lod.ld sc3 rfl hA.blk (hat4 a ha5)) ?_
      refine Reg.op rfl rfl rfl rfl (Does.call rfl (rowBindR_ok _ _ _ (subC_len a b))) ?_
      rintro _ H26_5 ⟨rfl, hE26_5⟩
      have z26_5 := hE26_5.lt
      replace hE := hE.ext hE26_5
      replace hA := hA.ext hE26_5
      replace hB := hB.ext hE26_5
      replace op := op.ext hE26_5
      replace oq := oq.ext hE26_5
      refine Reg.op rfl rfl rfl rfl (Does.bslA ([encB (bR (b.getD 4 0) (subC a b ++ [a.getD 4 0]))]) slA22 rfl rfl rfl rfl rfl rfl) ?_
      rintro _ H26_6 ⟨rfl, hp26_6⟩
      have hn26_6 := New.of_eq hp26_6
      have z26_6 := hn26_6.size
      replace hE := hE.ext hn26_6.ext
      replace hA := hA.ext hn26_6.ext
      replace hB := hB.ext hn26_6.ext
      replace op := op.ext hn26_6.ext
      replace oq := oq.ext hn26_6.ext
      have o26_6 := hn26_6.own
      refine Reg.pur rfl rfl rfl rfl (Pur.asg rfl) ?_
      refine Reg.pur rfl rfl rfl rfl (Pur.asg rfl) ?_
      refine Reg.nil ?_
      refine At.ret rfl Try.func135 rfl ?_
      exact uniP_one (by have h1 : a.getD 4 0 ≠ -1 := (by omega); have h2 : b.getD 4 0 ≠ -1 := (by omega); rw [hy]; unfold uniQ moreC; simp_all) rfl o26_6 (by omega) hE
    first | (simp only [decide_eq_true_eq, decide_eq_false_iff_not, Bool.not_eq_true', Bool.not_eq_false', ne_eq, Decidable.not_not, Bool.not_eq_true, Bool.not_eq_false] at q138) | (dsimp only at q138) | skip
    refine At.drawE ((Bks.cons hA.blk (Bks.cons hB.blk (Bks.cons op.blk (Bks.cons oq.blk Bks.nil))))) [] mixed rfl rfl ?_
    refine RegD.tpur (i := 0) rfl rfl rfl rfl (by kernel_rfl) (Pur.fld _ fo28_1 rfl) ?_
    refine RegD.take (i := 1) rfl rfl rfl rfl (by kernel_rfl) (Bks.cons hA.blk (Bks.cons hB.blk (Bks.cons op.blk (Bks.cons oq.blk Bks.nil)))) (fun H hS => Lod.ld sc3 rfl hS.hd (hat4 a ha5)) ?_
    refine RegD.take (i := 2) rfl rfl rfl rfl (by kernel_rfl) (Bks.cons hA.blk (Bks.cons hB.blk (Bks.cons op.blk (Bks.cons oq.blk Bks.nil)))) (fun H hS => Lod.ldn ag26 rfl hS.tl.tl.tl.hd (whole rfl) rfl) ?_
    refine RegD.tpur (i := 3) rfl rfl rfl rfl (by kernel_rfl) (Pur.mv rfl) ?_
    refine RegD.tpur (i := 5) rfl rfl rfl rfl (by kernel_rfl) (Pur.fld _ fo28_1 rfl) ?_
    refine RegD.take (i := 6) rfl rfl rfl rfl (by kernel_rfl) (Bks.cons hA.blk (Bks.cons hB.blk (Bks.cons op.blk (Bks.cons oq.blk Bks.nil)))) (fun H hS => Lod.ld sc3 rfl hS.tl.hd (hat4 b hb5)) ?_
    refine RegD.take (i := 7) rfl rfl rfl rfl (by kernel_rfl) (Bks.cons hA.blk (Bks.cons hB.blk (Bks.cons op.blk (Bks.cons oq.blk Bks.nil)))) (fun H hS => Lod.ldn ag26 rfl hS.tl.tl.hd (whole rfl) rfl) ?_
    refine RegD.tpur (i := 8) rfl rfl rfl rfl (by kernel_rfl) (Pur.mv rfl) ?_
    refine RegD.one (i := 4) (by kernel_rfl) rfl rfl rfl rfl (Does.call rfl (rowBindR_ok _ _ _ (subC_len b a))) ?_
    rintro _ H27_4 ⟨rfl, hE27_4⟩
    have z27_4 := hE27_4.lt
    replace hE := hE.ext hE27_4
    replace hA := hA.ext hE27_4
    replace hB := hB.ext hE27_4
    replace op := op.ext hE27_4
    replace oq := oq.ext hE27_4
    refine ⟨fun _ _ => (Bks.cons hA.blk (Bks.cons hB.blk (Bks.cons op.blk (Bks.cons oq.blk Bks.nil)))), ?_⟩
    refine RegD.one (i := 9) (by kernel_rfl) rfl rfl rfl rfl (Does.call rfl (rowBindR_ok _ _ _ (subC_len a b))) ?_
    rintro _ H27_9 ⟨rfl, hE27_9⟩
    have z27_9 := hE27_9.lt
    replace hE := hE.ext hE27_9
    replace hA := hA.ext hE27_9
    replace hB := hB.ext hE27_9
    replace op := op.ext hE27_9
    replace oq := oq.ext hE27_9
    refine ⟨fun _ _ => (Bks.cons hA.blk (Bks.cons hB.blk (Bks.cons op.blk (Bks.cons oq.blk Bks.nil)))), ?_⟩
    refine RegD.one (i := 10) (by kernel_rfl) rfl rfl rfl rfl (Does.bslA ([encB (bR (a.getD 4 0) (subC b a ++ [f])), encB (bR (b.getD 4 0) (subC a b ++ [f]))]) slA22 rfl rfl rfl rfl rfl rfl) ?_
    rintro _ H27_10 ⟨rfl, hp27_10⟩
    have hn27_10 := New.of_eq hp27_10
    have z27_10 := hn27_10.size
    replace hE := hE.ext hn27_10.ext
    replace hA := hA.ext hn27_10.ext
    replace hB := hB.ext hn27_10.ext
    replace op := op.ext hn27_10.ext
    replace oq := oq.ext hn27_10.ext
    have o27_10 := hn27_10.own
    refine ⟨fun _ _ => (Bks.cons hA.blk (Bks.cons hB.blk (Bks.cons op.blk (Bks.cons oq.blk Bks.nil)))), ?_⟩
    refine RegD.tpur (i := 11) rfl rfl rfl rfl (by kernel_rfl) (Pur.asg rfl) ?_
    refine RegD.tpur (i := 12) rfl rfl rfl rfl (by kernel_rfl) (Pur.asg rfl) ?_
    refine RegD.done (by kernel_rfl) ?_
    refine At.ret rfl Try.func135 rfl ?_
    exact uniP_two (by have h1 : a.getD 4 0 ≠ -1 := (by omega); have h2 : b.getD 4 0 ≠ -1 := (by omega); rw [hy]; unfold uniQ moreC; simp_all) rfl rfl o27_10 (by omega) hE
  first | (simp only [decide_eq_true_eq, decide_eq_false_iff_not, Bool.not_eq_true', Bool.not_eq_false', ne_eq, Decidable.not_not, Bool.not_eq_true, Bool.not_eq_false] at q97) | (dsimp only at q97) | skip
  refine Reg.skip rfl rfl rfl rfl rfl rfl rfl ?_
  refine Reg.skip rfl rfl rfl rfl rfl rfl rfl ?_
  refine Reg.skip rfl rfl rfl rfl rfl rfl rfl ?_
  refine Reg.pur rfl rfl rfl rfl (Pur.pickF rfl rfl) ?_
  refine Reg.pur rfl rfl rfl rfl (Pur.mv rfl) ?_
  refine Reg.gpur rfl rfl rfl rfl rfl rfl (Pur.mv rfl) ?_
  refine Reg.gpur rfl rfl rfl rfl rfl rfl (Pur.mv rfl) ?_
  refine Reg.case 104 rfl (fun q104 => ?_) (fun q104 => ?_)
  · first | (simp only [decide_eq_true_eq, decide_eq_false_iff_not, Bool.not_eq_true', Bool.not_eq_false', ne_eq, Decidable.not_not, Bool.not_eq_true, Bool.not_eq_false] at q104) | (dsimp only at q104) | skip
    refine Reg.gpur rfl rfl rfl rfl rfl rfl (Pur.fld _ fo28_1 rfl) ?_
    refine Reg.glod rfl rfl rfl rfl rfl rfl (Lod.ld sc3 rfl hA.blk (hat4 a ha5)) ?_
    refine Reg.gpur rfl rfl rfl rfl rfl rfl (Pur.lss rfl rfl) ?_
    refine Reg.gpur rfl rfl rfl rfl rfl rfl (Pur.pickT rfl rfl) ?_
    refine Reg.pur rfl rfl rfl rfl (Pur.pickF rfl rfl) ?_
    refine Reg.pur rfl rfl rfl rfl (Pur.asg rfl) ?_
    refine Reg.nil ?_
    refine At.cond rfl rfl (fun q95 => ?_) (fun q95 => ?_)
    · first | (simp only [decide_eq_true_eq, decide_eq_false_iff_not, Bool.not_eq_true', Bool.not_eq_false', ne_eq, Decidable.not_not, Bool.not_eq_true, Bool.not_eq_false] at q95) | (dsimp only at q95) | skip
      refine At.region rfl rfl ?_
      refine Reg.pur rfl rfl rfl rfl (Pur.asg rfl) ?_
      refine Reg.pur rfl rfl rfl rfl (Pur.asg rfl) ?_
      refine Reg.nil ?_
      refine At.ret rfl Try.func135 rfl ?_
      exact uniP_nil (by rw [hy]; unfold uniQ moreC; rw [if_neg (by assumption), if_pos (by simp_all; try omega)]) hE
    first | (simp only [decide_eq_true_eq, decide_eq_false_iff_not, Bool.not_eq_true', Bool.not_eq_false', ne_eq, Decidable.not_not, Bool.not_eq_true, Bool.not_eq_false] at q95) | (dsimp only at q95) | skip
    refine At.region rfl rfl ?_
    refine Reg.pur rfl rfl rfl rfl (Pur.fld _ fo28_1 rfl) ?_
    refine Reg.lod rfl rfl rfl rfl (Lod.ld sc3 rfl hB.blk (hat4 b hb5)) ?_
    refine Reg.pur rfl rfl rfl rfl (Pur.lss rfl rfl) ?_
    refine Reg.pur rfl rfl rfl rfl (Pur.asg rfl) ?_
    refine Reg.nil ?_
    refine At.cond rfl rfl (fun q110 => ?_) (fun q110 => ?_)
    · first | (simp only [decide_eq_true_eq, decide_eq_false_iff_not, Bool.not_eq_true', Bool.not_eq_false', ne_eq, Decidable.not_not, Bool.not_eq_true, Bool.not_eq_false] at q110) | (dsimp only at q110) | skip
      refine At.region rfl rfl ?_
      refine Reg.pur rfl rfl rfl rfl (Pur.fld _ fo28_1 rfl) ?_
      refine Reg.lod rfl rfl rfl rfl (Lod.ld sc3 rfl hA.blk (hat4 a ha5)) ?_
      refine Reg.lod rfl rfl rfl rfl (Lod.ldn ag26 rfl oq.blk (whole rfl) rfl) ?_
      refine Reg.op rfl rfl rfl rfl (Does.call rfl (rowBindR_ok _ _ _ (subC_len b a))) ?_
      rintro _ H20_3 ⟨rfl, hE20_3⟩
      have z20_3 := hE20_3.lt
      replace hE := hE.ext hE20_3
      replace hA := hA.ext hE20_3
      replace hB := hB.ext hE20_3
      replace op := op.ext hE20_3
      replace oq := oq.ext hE20_3
      refine Reg.op rfl rfl rfl rfl (Does.bslA ([encB (bR (a.getD 4 0) (subC b a ++ [-1]))]) slA22 rfl rfl rfl rfl rfl rfl) ?_
      rintro _ H20_4 ⟨rfl, hp20_4⟩
      have hn20_4 := New.of_eq hp20_4
      have z20_4 := hn20_4.size
      replace hE := hE.ext hn20_4.ext
      replace hA := hA.ext hn20_4.ext
      replace hB := hB.ext hn20_4.ext
      replace op := op.ext hn20_4.ext
      replace oq := oq.ext hn20_4.ext
      have o20_4 := hn20_4.own
      refine Reg.pur rfl rfl rfl rfl (Pur.asg rfl) ?_
      refine Reg.pur rfl rfl rfl rfl (Pur.asg rfl) ?_
      refine Reg.nil ?_
      refine At.ret rfl Try.func135 rfl ?_
      exact uniP_one (by have h1 : b.getD 4 0 = -1 := (by omega); rw [hy]; unfold uniQ moreC; simp_all; try omega) rfl o20_4 (by omega) hE
    first | (simp only [decide_eq_true_eq, decide_eq_false_iff_not, Bool.not_eq_true', Bool.not_eq_false', ne_eq, Decidable.not_not, Bool.not_eq_true, Bool.not_eq_false] at q110) | (dsimp only at q110) | skip
    refine At.region rfl rfl ?_
    refine Reg.pur rfl rfl rfl rfl (Pur.fld _ fo28_1 rfl) ?_
    refine Reg.lod rfl rfl rfl rfl (Lod.ld sc3 rfl hA.blk (hat4 a ha5)) ?_
    refine Reg.pur rfl rfl rfl rfl (Pur.lss rfl rfl) ?_
    refine Reg.pur rfl rfl rfl rfl (Pur.asg rfl) ?_
    refine Reg.nil ?_
    refine At.cond rfl rfl (fun q119 => ?_) (fun q119 => ?_)
    · first | (simp only [decide_eq_true_eq, decide_eq_false_iff_not, Bool.not_eq_true', Bool.not_eq_false', ne_eq, Decidable.not_not, Bool.not_eq_true, Bool.not_eq_false] at q119) | (dsimp only at q119) | skip
      refine At.region rfl rfl ?_
      refine Reg.pur rfl rfl rfl rfl (Pur.fld _ fo28_1 rfl) ?_
      refine Reg.lod rfl rfl rfl rfl (Lod.ld sc3 rfl hB.blk (hat4 b hb5)) ?_
      refine Reg.lod rfl rfl rfl rfl (Lod.ldn ag26 rfl op.blk (whole rfl) rfl) ?_
      refine Reg.op rfl rfl rfl rfl (Does.call rfl (rowBindR_ok _ _ _ (subC_len a b))) ?_
      rintro _ H22_3 ⟨rfl, hE22_3⟩
      have z22_3 := hE22_3.lt
      replace hE := hE.ext hE22_3
      replace hA := hA.ext hE22_3
      replace hB := hB.ext hE22_3
      replace op := op.ext hE22_3
      replace oq := oq.ext hE22_3
      refine Reg.op rfl rfl rfl rfl (Does.bslA ([encB (bR (b.getD 4 0) (subC a b ++ [-1]))]) slA22 rfl rfl rfl rfl rfl rfl) ?_
      rintro _ H22_4 ⟨rfl, hp22_4⟩
      have hn22_4 := New.of_eq hp22_4
      have z22_4 := hn22_4.size
      replace hE := hE.ext hn22_4.ext
      replace hA := hA.ext hn22_4.ext
      replace hB := hB.ext hn22_4.ext
      replace op := op.ext hn22_4.ext
      replace oq := oq.ext hn22_4.ext
      have o22_4 := hn22_4.own
      refine Reg.pur rfl rfl rfl rfl (Pur.asg rfl) ?_
      refine Reg.pur rfl rfl rfl rfl (Pur.asg rfl) ?_
      refine Reg.nil ?_
      refine At.ret rfl Try.func135 rfl ?_
      exact uniP_one (by have h1 : a.getD 4 0 = -1 := (by omega); rw [hy]; unfold uniQ moreC; simp_all; try omega) rfl o22_4 (by omega) hE
    first | (simp only [decide_eq_true_eq, decide_eq_false_iff_not, Bool.not_eq_true', Bool.not_eq_false', ne_eq, Decidable.not_not, Bool.not_eq_true, Bool.not_eq_false] at q119) | (dsimp only at q119) | skip
    refine At.region rfl rfl ?_
    refine Reg.pur rfl rfl rfl rfl (Pur.mv rfl) ?_
    refine Reg.pur rfl rfl rfl rfl (Pur.not rfl) ?_
    refine Reg.pur rfl rfl rfl rfl (Pur.asg rfl) ?_
    refine Reg.nil ?_
    refine At.cond rfl rfl (fun q128 => ?_) (fun q128 => ?_)
    · first | (simp only [decide_eq_true_eq, decide_eq_false_iff_not, Bool.not_eq_true', Bool.not_eq_false', ne_eq, Decidable.not_not, Bool.not_eq_true, Bool.not_eq_false] at q128) | (dsimp only at q128) | skip
      refine At.region rfl rfl ?_
      refine Reg.pur rfl rfl rfl rfl (Pur.fld _ fo28_1 rfl) ?_
      refine Reg.lod rfl rfl rfl rfl (Lod.ld sc3 rfl hA.blk (hat4 a ha5)) ?_
      refine Reg.lod rfl rfl rfl rfl (Lod.ldn ag26 rfl oq.blk (whole rfl) rfl) ?_
      refine Reg.pur rfl rfl rfl rfl (Pur.fld _ fo28_1 rfl) ?_
      refine Reg.lod rfl rfl rfl rfl (Lod.ld sc3 rfl hB.blk (hat4 b hb5)) ?_
      refine Reg.op rfl rfl rfl rfl (Does.call rfl (rowBindR_ok _ _ _ (subC_len b a))) ?_
      rintro _ H24_5 ⟨rfl, hE24_5⟩
      have z24_5 := hE24_5.lt
      replace hE := hE.ext hE24_5
      replace hA := hA.ext hE24_5
      replace hB := hB.ext hE24_5
      replace op := op.ext hE24_5
      replace oq := oq.ext hE24_5
      refine Reg.op rfl rfl rfl rfl (Does.bslA ([encB (bR (a.getD 4 0) (subC b a ++ [b.getD 4 0]))]) slA22 rfl rfl rfl rfl rfl rfl) ?_
      rintro _ H24_6 ⟨rfl, hp24_6⟩
      have hn24_6 := New.of_eq hp24_6
      have z24_6 := hn24_6.size
      replace hE := hE.ext hn24_6.ext
      replace hA := hA.ext hn24_6.ext
      replace hB := hB.ext hn24_6.ext
      replace op := op.ext hn24_6.ext
      replace oq := oq.ext hn24_6.ext
      have o24_6 := hn24_6.own
      refine Reg.pur rfl rfl rfl rfl (Pur.asg rfl) ?_
      refine Reg.pur rfl rfl rfl rfl (Pur.asg rfl) ?_
      refine Reg.nil ?_
      refine At.ret rfl Try.func135 rfl ?_
      exact uniP_one (by have h1 : a.getD 4 0 ≠ -1 := (by omega); have h2 : b.getD 4 0 ≠ -1 := (by omega); rw [hy]; unfold uniQ moreC; simp_all) rfl o24_6 (by omega) hE
    first | (simp only [decide_eq_true_eq, decide_eq_false_iff_not, Bool.not_eq_true', Bool.not_eq_false', ne_eq, Decidable.not_not, Bool.not_eq_true, Bool.not_eq_false] at q128) | (dsimp only at q128) | skip
    refine At.region rfl rfl ?_
    refine Reg.pur rfl rfl rfl rfl (Pur.mv rfl) ?_
    refine Reg.pur rfl rfl rfl rfl (Pur.not rfl) ?_
    refine Reg.pur rfl rfl rfl rfl (Pur.asg rfl) ?_
    refine Reg.nil ?_
    refine At.cond rfl rfl (fun q138 => ?_) (fun q138 => ?_)
    · first | (simp only [decide_eq_true_eq, decide_eq_false_iff_not, Bool.not_eq_true', Bool.not_eq_false', ne_eq, Decidable.not_not, Bool.not_eq_true, Bool.not_eq_false] at q138) | (dsimp only at q138) | skip
      refine At.region rfl rfl ?_
      refine Reg.pur rfl rfl rfl rfl (Pur.fld _ fo28_1 rfl) ?_
      refine Reg.lod rfl rfl rfl rfl (Lod.ld sc3 rfl hB.blk (hat4 b hb5)) ?_
      refine Reg.lod rfl rfl rfl rfl (Lod.ldn ag26 rfl op.blk (whole rfl) rfl) ?_
      refine Reg.pur rfl rfl rfl rfl (Pur.fld _ fo28_1 rfl) ?_
      refine Reg.lod rfl rfl rfl rfl (Lod.ld sc3 rfl hA.blk (hat4 a ha5)) ?_
      refine Reg.op rfl rfl rfl rfl (Does.call rfl (rowBindR_ok _ _ _ (subC_len a b))) ?_
      rintro _ H26_5 ⟨rfl, hE26_5⟩
      have z26_5 := hE26_5.lt
      replace hE := hE.ext hE26_5
      replace hA := hA.ext hE26_5
      replace hB := hB.ext hE26_5
      replace op := op.ext hE26_5
      replace oq := oq.ext hE26_5
      refine Reg.op rfl rfl rfl rfl (Does.bslA ([encB (bR (b.getD 4 0) (subC a b ++ [a.getD 4 0]))]) slA22 rfl rfl rfl rfl rfl rfl) ?_
      rintro _ H26_6 ⟨rfl, hp26_6⟩
      have hn26_6 := New.of_eq hp26_6
      have z26_6 := hn26_6.size
      replace hE := hE.ext hn26_6.ext
      replace hA := hA.ext hn26_6.ext
      replace hB := hB.ext hn26_6.ext
      replace op := op.ext hn26_6.ext
      replace oq := oq.ext hn26_6.ext
      have o26_6 := hn26_6.own
      refine Reg.pur rfl rfl rfl rfl (Pur.asg rfl) ?_
      refine Reg.pur rfl rfl rfl rfl (Pur.asg rfl) ?_
      refine Reg.nil ?_
      refine At.ret rfl Try.func135 rfl ?_
      exact uniP_one (by have h1 : a.getD 4 0 ≠ -1 := (by omega); have h2 : b.getD 4 0 ≠ -1 := (by omega); rw [hy]; unfold uniQ moreC; simp_all) rfl o26_6 (by omega) hE
    first | (simp only [decide_eq_true_eq, decide_eq_false_iff_not, Bool.not_eq_true', Bool.not_eq_false', ne_eq, Decidable.not_not, Bool.not_eq_true, Bool.not_eq_false] at q138) | (dsimp only at q138) | skip
    refine At.drawE ((Bks.cons hA.blk (Bks.cons hB.blk (Bks.cons op.blk (Bks.cons oq.blk Bks.nil))))) [] mixed rfl rfl ?_
    refine RegD.tpur (i := 0) rfl rfl rfl rfl (by kernel_rfl) (Pur.fld _ fo28_1 rfl) ?_
    refine RegD.take (i := 1) rfl rfl rfl rfl (by kernel_rfl) (Bks.cons hA.blk (Bks.cons hB.blk (Bks.cons op.blk (Bks.cons oq.blk Bks.nil)))) (fun H hS => Lod.ld sc3 rfl hS.hd (hat4 a ha5)) ?_
    refine RegD.take (i := 2) rfl rfl rfl rfl (by kernel_rfl) (Bks.cons hA.blk (Bks.cons hB.blk (Bks.cons op.blk (Bks.cons oq.blk Bks.nil)))) (fun H hS => Lod.ldn ag26 rfl hS.tl.tl.tl.hd (whole rfl) rfl) ?_
    refine RegD.tpur (i := 3) rfl rfl rfl rfl (by kernel_rfl) (Pur.mv rfl) ?_
    refine RegD.tpur (i := 5) rfl rfl rfl rfl (by kernel_rfl) (Pur.fld _ fo28_1 rfl) ?_
    refine RegD.take (i := 6) rfl rfl rfl rfl (by kernel_rfl) (Bks.cons hA.blk (Bks.cons hB.blk (Bks.cons op.blk (Bks.cons oq.blk Bks.nil)))) (fun H hS => Lod.ld sc3 rfl hS.tl.hd (hat4 b hb5)) ?_
    refine RegD.take (i := 7) rfl rfl rfl rfl (by kernel_rfl) (Bks.cons hA.blk (Bks.cons hB.blk (Bks.cons op.blk (Bks.cons oq.blk Bks.nil)))) (fun H hS => Lod.ldn ag26 rfl hS.tl.tl.hd (whole rfl) rfl) ?_
    refine RegD.tpur (i := 8) rfl rfl rfl rfl (by kernel_rfl) (Pur.mv rfl) ?_
    refine RegD.one (i := 4) (by kernel_rfl) rfl rfl rfl rfl (Does.call rfl (rowBindR_ok _ _ _ (subC_len b a))) ?_
    rintro _ H27_4 ⟨rfl, hE27_4⟩
    have z27_4 := hE27_4.lt
    replace hE := hE.ext hE27_4
    replace hA := hA.ext hE27_4
    replace hB := hB.ext hE27_4
    replace op := op.ext hE27_4
    replace oq := oq.ext hE27_4
    refine ⟨fun _ _ => (Bks.cons hA.blk (Bks.cons hB.blk (Bks.cons op.blk (Bks.cons oq.blk Bks.nil)))), ?_⟩
    refine RegD.one (i := 9) (by kernel_rfl) rfl rfl rfl rfl (Does.call rfl (rowBindR_ok _ _ _ (subC_len a b))) ?_
    rintro _ H27_9 ⟨rfl, hE27_9⟩
    have z27_9 := hE27_9.lt
    replace hE := hE.ext hE27_9
    replace hA := hA.ext hE27_9
    replace hB := hB.ext hE27_9
    replace op := op.ext hE27_9
    replace oq := oq.ext hE27_9
    refine ⟨fun _ _ => (Bks.cons hA.blk (Bks.cons hB.blk (Bks.cons op.blk (Bks.cons oq.blk Bks.nil)))), ?_⟩
    refine RegD.one (i := 10) (by kernel_rfl) rfl rfl rfl rfl (Does.bslA ([encB (bR (a.getD 4 0) (subC b a ++ [f])), encB (bR (b.getD 4 0) (subC a b ++ [f]))]) slA22 rfl rfl rfl rfl rfl rfl) ?_
    rintro _ H27_10 ⟨rfl, hp27_10⟩
    have hn27_10 := New.of_eq hp27_10
    have z27_10 := hn27_10.size
    replace hE := hE.ext hn27_10.ext
    replace hA := hA.ext hn27_10.ext
    replace hB := hB.ext hn27_10.ext
    replace op := op.ext hn27_10.ext
    replace oq := oq.ext hn27_10.ext
    have o27_10 := hn27_10.own
    refine ⟨fun _ _ => (Bks.cons hA.blk (Bks.cons hB.blk (Bks.cons op.blk (Bks.cons oq.blk Bks.nil)))), ?_⟩
    refine RegD.tpur (i := 11) rfl rfl rfl rfl (by kernel_rfl) (Pur.asg rfl) ?_
    refine RegD.tpur (i := 12) rfl rfl rfl rfl (by kernel_rfl) (Pur.asg rfl) ?_
    refine RegD.done (by kernel_rfl) ?_
    refine At.ret rfl Try.func135 rfl ?_
    exact uniP_two (by have h1 : a.getD 4 0 ≠ -1 := (by omega); have h2 : b.getD 4 0 ≠ -1 := (by omega); rw [hy]; unfold uniQ moreC; simp_all) rfl rfl o27_10 (by omega) hE
  first | (simp only [decide_eq_true_eq, decide_eq_false_iff_not, Bool.not_eq_true', Bool.not_eq_false', ne_eq, Decidable.not_not, Bool.not_eq_true, Bool.not_eq_false] at q104) | (dsimp only at q104) | skip
  refine Reg.skip rfl rfl rfl rfl rfl rfl rfl ?_
  refine Reg.skip rfl rfl rfl rfl rfl rfl rfl ?_
  refine Reg.skip rfl rfl rfl rfl rfl rfl rfl ?_
  refine Reg.gpur rfl rfl rfl rfl rfl rfl (Pur.pickF rfl rfl) ?_
  refine Reg.pur rfl rfl rfl rfl (Pur.pickF rfl rfl) ?_
  refine Reg.pur rfl rfl rfl rfl (Pur.asg rfl) ?_
  refine Reg.nil ?_
  refine At.condF rfl rfl rfl ?_
  refine At.region rfl rfl ?_
  refine Reg.pur rfl rfl rfl rfl (Pur.fld _ fo28_1 rfl) ?_
  refine Reg.lod rfl rfl rfl rfl (Lod.ld sc3 rfl hB.blk (hat4 b hb5)) ?_
  refine Reg.pur rfl rfl rfl rfl (Pur.lss rfl rfl) ?_
  refine Reg.pur rfl rfl rfl rfl (Pur.asg rfl) ?_
  refine Reg.nil ?_
  refine At.cond rfl rfl (fun q110 => ?_) (fun q110 => ?_)
  · first | (simp only [decide_eq_true_eq, decide_eq_false_iff_not, Bool.not_eq_true', Bool.not_eq_false', ne_eq, Decidable.not_not, Bool.not_eq_true, Bool.not_eq_false] at q110) | (dsimp only at q110) | skip
    refine At.region rfl rfl ?_
    refine Reg.pur rfl rfl rfl rfl (Pur.fld _ fo28_1 rfl) ?_
    refine Reg.lod rfl rfl rfl rfl (Lod.ld sc3 rfl hA.blk (hat4 a ha5)) ?_
    refine Reg.lod rfl rfl rfl rfl (Lod.ldn ag26 rfl oq.blk (whole rfl) rfl) ?_
    refine Reg.op rfl rfl rfl rfl (Does.call rfl (rowBindR_ok _ _ _ (subC_len b a))) ?_
    rintro _ H20_3 ⟨rfl, hE20_3⟩
    have z20_3 := hE20_3.lt
    replace hE := hE.ext hE20_3
    replace hA := hA.ext hE20_3
    replace hB := hB.ext hE20_3
    replace op := op.ext hE20_3
    replace oq := oq.ext hE20_3
    refine Reg.op rfl rfl rfl rfl (Does.bslA ([encB (bR (a.getD 4 0) (subC b a ++ [-1]))]) slA22 rfl rfl rfl rfl rfl rfl) ?_
    rintro _ H20_4 ⟨rfl, hp20_4⟩
    have hn20_4 := New.of_eq hp20_4
    have z20_4 := hn20_4.size
    replace hE := hE.ext hn20_4.ext
    replace hA := hA.ext hn20_4.ext
    replace hB := hB.ext hn20_4.ext
    replace op := op.ext hn20_4.ext
    replace oq := oq.ext hn20_4.ext
    have o20_4 := hn20_4.own
    refine Reg.pur rfl rfl rfl rfl (Pur.asg rfl) ?_
    refine Reg.pur rfl rfl rfl rfl (Pur.asg rfl) ?_
    refine Reg.nil ?_
    refine At.ret rfl Try.func135 rfl ?_
    exact uniP_one (by have h1 : b.getD 4 0 = -1 := (by omega); rw [hy]; unfold uniQ moreC; simp_all; try omega) rfl o20_4 (by omega) hE
  first | (simp only [decide_eq_true_eq, decide_eq_false_iff_not, Bool.not_eq_true', Bool.not_eq_false', ne_eq, Decidable.not_not, Bool.not_eq_true, Bool.not_eq_false] at q110) | (dsimp only at q110) | skip
  refine At.region rfl rfl ?_
  refine Reg.pur rfl rfl rfl rfl (Pur.fld _ fo28_1 rfl) ?_
  refine Reg.lod rfl rfl rfl rfl (Lod.ld sc3 rfl hA.blk (hat4 a ha5)) ?_
  refine Reg.pur rfl rfl rfl rfl (Pur.lss rfl rfl) ?_
  refine Reg.pur rfl rfl rfl rfl (Pur.asg rfl) ?_
  refine Reg.nil ?_
  refine At.cond rfl rfl (fun q119 => ?_) (fun q119 => ?_)
  · first | (simp only [decide_eq_true_eq, decide_eq_false_iff_not, Bool.not_eq_true', Bool.not_eq_false', ne_eq, Decidable.not_not, Bool.not_eq_true, Bool.not_eq_false] at q119) | (dsimp only at q119) | skip
    refine At.region rfl rfl ?_
    refine Reg.pur rfl rfl rfl rfl (Pur.fld _ fo28_1 rfl) ?_
    refine Reg.lod rfl rfl rfl rfl (Lod.ld sc3 rfl hB.blk (hat4 b hb5)) ?_
    refine Reg.lod rfl rfl rfl rfl (Lod.ldn ag26 rfl op.blk (whole rfl) rfl) ?_
    refine Reg.op rfl rfl rfl rfl (Does.call rfl (rowBindR_ok _ _ _ (subC_len a b))) ?_
    rintro _ H22_3 ⟨rfl, hE22_3⟩
    have z22_3 := hE22_3.lt
    replace hE := hE.ext hE22_3
    replace hA := hA.ext hE22_3
    replace hB := hB.ext hE22_3
    replace op := op.ext hE22_3
    replace oq := oq.ext hE22_3
    refine Reg.op rfl rfl rfl rfl (Does.bslA ([encB (bR (b.getD 4 0) (subC a b ++ [-1]))]) slA22 rfl rfl rfl rfl rfl rfl) ?_
    rintro _ H22_4 ⟨rfl, hp22_4⟩
    have hn22_4 := New.of_eq hp22_4
    have z22_4 := hn22_4.size
    replace hE := hE.ext hn22_4.ext
    replace hA := hA.ext hn22_4.ext
    replace hB := hB.ext hn22_4.ext
    replace op := op.ext hn22_4.ext
    replace oq := oq.ext hn22_4.ext
    have o22_4 := hn22_4.own
    refine Reg.pur rfl rfl rfl rfl (Pur.asg rfl) ?_
    refine Reg.pur rfl rfl rfl rfl (Pur.asg rfl) ?_
    refine Reg.nil ?_
    refine At.ret rfl Try.func135 rfl ?_
    exact uniP_one (by have h1 : a.getD 4 0 = -1 := (by omega); rw [hy]; unfold uniQ moreC; simp_all; try omega) rfl o22_4 (by omega) hE
  first | (simp only [decide_eq_true_eq, decide_eq_false_iff_not, Bool.not_eq_true', Bool.not_eq_false', ne_eq, Decidable.not_not, Bool.not_eq_true, Bool.not_eq_false] at q119) | (dsimp only at q119) | skip
  refine At.region rfl rfl ?_
  refine Reg.pur rfl rfl rfl rfl (Pur.mv rfl) ?_
  refine Reg.pur rfl rfl rfl rfl (Pur.not rfl) ?_
  refine Reg.pur rfl rfl rfl rfl (Pur.asg rfl) ?_
  refine Reg.nil ?_
  refine At.cond rfl rfl (fun q128 => ?_) (fun q128 => ?_)
  · first | (simp only [decide_eq_true_eq, decide_eq_false_iff_not, Bool.not_eq_true', Bool.not_eq_false', ne_eq, Decidable.not_not, Bool.not_eq_true, Bool.not_eq_false] at q128) | (dsimp only at q128) | skip
    refine At.region rfl rfl ?_
    refine Reg.pur rfl rfl rfl rfl (Pur.fld _ fo28_1 rfl) ?_
    refine Reg.lod rfl rfl rfl rfl (Lod.ld sc3 rfl hA.blk (hat4 a ha5)) ?_
    refine Reg.lod rfl rfl rfl rfl (Lod.ldn ag26 rfl oq.blk (whole rfl) rfl) ?_
    refine Reg.pur rfl rfl rfl rfl (Pur.fld _ fo28_1 rfl) ?_
    refine Reg.lod rfl rfl rfl rfl (Lod.ld sc3 rfl hB.blk (hat4 b hb5)) ?_
    refine Reg.op rfl rfl rfl rfl (Does.call rfl (rowBindR_ok _ _ _ (subC_len b a))) ?_
    rintro _ H24_5 ⟨rfl, hE24_5⟩
    have z24_5 := hE24_5.lt
    replace hE := hE.ext hE24_5
    replace hA := hA.ext hE24_5
    replace hB := hB.ext hE24_5
    replace op := op.ext hE24_5
    replace oq := oq.ext hE24_5
    refine Reg.op rfl rfl rfl rfl (Does.bslA ([encB (bR (a.getD 4 0) (subC b a ++ [b.getD 4 0]))]) slA22 rfl rfl rfl rfl rfl rfl) ?_
    rintro _ H24_6 ⟨rfl, hp24_6⟩
    have hn24_6 := New.of_eq hp24_6
    have z24_6 := hn24_6.size
    replace hE := hE.ext hn24_6.ext
    replace hA := hA.ext hn24_6.ext
    replace hB := hB.ext hn24_6.ext
    replace op := op.ext hn24_6.ext
    replace oq := oq.ext hn24_6.ext
    have o24_6 := hn24_6.own
    refine Reg.pur rfl rfl rfl rfl (Pur.asg rfl) ?_
    refine Reg.pur rfl rfl rfl rfl (Pur.asg rfl) ?_
    refine Reg.nil ?_
    refine At.ret rfl Try.func135 rfl ?_
    exact uniP_one (by have h1 : a.getD 4 0 ≠ -1 := (by omega); have h2 : b.getD 4 0 ≠ -1 := (by omega); rw [hy]; unfold uniQ moreC; simp_all) rfl o24_6 (by omega) hE
  first | (simp only [decide_eq_true_eq, decide_eq_false_iff_not, Bool.not_eq_true', Bool.not_eq_false', ne_eq, Decidable.not_not, Bool.not_eq_true, Bool.not_eq_false] at q128) | (dsimp only at q128) | skip
  refine At.region rfl rfl ?_
  refine Reg.pur rfl rfl rfl rfl (Pur.mv rfl) ?_
  refine Reg.pur rfl rfl rfl rfl (Pur.not rfl) ?_
  refine Reg.pur rfl rfl rfl rfl (Pur.asg rfl) ?_
  refine Reg.nil ?_
  refine At.cond rfl rfl (fun q138 => ?_) (fun q138 => ?_)
  · first | (simp only [decide_eq_true_eq, decide_eq_false_iff_not, Bool.not_eq_true', Bool.not_eq_false', ne_eq, Decidable.not_not, Bool.not_eq_true, Bool.not_eq_false] at q138) | (dsimp only at q138) | skip
    refine At.region rfl rfl ?_
    refine Reg.pur rfl rfl rfl rfl (Pur.fld _ fo28_1 rfl) ?_
    refine Reg.lod rfl rfl rfl rfl (Lod.ld sc3 rfl hB.blk (hat4 b hb5)) ?_
    refine Reg.lod rfl rfl rfl rfl (Lod.ldn ag26 rfl op.blk (whole rfl) rfl) ?_
    refine Reg.pur rfl rfl rfl rfl (Pur.fld _ fo28_1 rfl) ?_
    refine Reg.lod rfl rfl rfl rfl (Lod.ld sc3 rfl hA.blk (hat4 a ha5)) ?_
    refine Reg.op rfl rfl rfl rfl (Does.call rfl (rowBindR_ok _ _ _ (subC_len a b))) ?_
    rintro _ H26_5 ⟨rfl, hE26_5⟩
    have z26_5 := hE26_5.lt
    replace hE := hE.ext hE26_5
    replace hA := hA.ext hE26_5
    replace hB := hB.ext hE26_5
    replace op := op.ext hE26_5
    replace oq := oq.ext hE26_5
    refine Reg.op rfl rfl rfl rfl (Does.bslA ([encB (bR (b.getD 4 0) (subC a b ++ [a.getD 4 0]))]) slA22 rfl rfl rfl rfl rfl rfl) ?_
    rintro _ H26_6 ⟨rfl, hp26_6⟩
    have hn26_6 := New.of_eq hp26_6
    have z26_6 := hn26_6.size
    replace hE := hE.ext hn26_6.ext
    replace hA := hA.ext hn26_6.ext
    replace hB := hB.ext hn26_6.ext
    replace op := op.ext hn26_6.ext
    replace oq := oq.ext hn26_6.ext
    have o26_6 := hn26_6.own
    refine Reg.pur rfl rfl rfl rfl (Pur.asg rfl) ?_
    refine Reg.pur rfl rfl rfl rfl (Pur.asg rfl) ?_
    refine Reg.nil ?_
    refine At.ret rfl Try.func135 rfl ?_
    exact uniP_one (by have h1 : a.getD 4 0 ≠ -1 := (by omega); have h2 : b.getD 4 0 ≠ -1 := (by omega); rw [hy]; unfold uniQ moreC; simp_all) rfl o26_6 (by omega) hE
  first | (simp only [decide_eq_true_eq, decide_eq_false_iff_not, Bool.not_eq_true', Bool.not_eq_false', ne_eq, Decidable.not_not, Bool.not_eq_true, Bool.not_eq_false] at q138) | (dsimp only at q138) | skip
  refine At.drawE ((Bks.cons hA.blk (Bks.cons hB.blk (Bks.cons op.blk (Bks.cons oq.blk Bks.nil))))) [] mixed rfl rfl ?_
  refine RegD.tpur (i := 0) rfl rfl rfl rfl (by kernel_rfl) (Pur.fld _ fo28_1 rfl) ?_
  refine RegD.take (i := 1) rfl rfl rfl rfl (by kernel_rfl) (Bks.cons hA.blk (Bks.cons hB.blk (Bks.cons op.blk (Bks.cons oq.blk Bks.nil)))) (fun H hS => Lod.ld sc3 rfl hS.hd (hat4 a ha5)) ?_
  refine RegD.take (i := 2) rfl rfl rfl rfl (by kernel_rfl) (Bks.cons hA.blk (Bks.cons hB.blk (Bks.cons op.blk (Bks.cons oq.blk Bks.nil)))) (fun H hS => Lod.ldn ag26 rfl hS.tl.tl.tl.hd (whole rfl) rfl) ?_
  refine RegD.tpur (i := 3) rfl rfl rfl rfl (by kernel_rfl) (Pur.mv rfl) ?_
  refine RegD.tpur (i := 5) rfl rfl rfl rfl (by kernel_rfl) (Pur.fld _ fo28_1 rfl) ?_
  refine RegD.take (i := 6) rfl rfl rfl rfl (by kernel_rfl) (Bks.cons hA.blk (Bks.cons hB.blk (Bks.cons op.blk (Bks.cons oq.blk Bks.nil)))) (fun H hS => Lod.ld sc3 rfl hS.tl.hd (hat4 b hb5)) ?_
  refine RegD.take (i := 7) rfl rfl rfl rfl (by kernel_rfl) (Bks.cons hA.blk (Bks.cons hB.blk (Bks.cons op.blk (Bks.cons oq.blk Bks.nil)))) (fun H hS => Lod.ldn ag26 rfl hS.tl.tl.hd (whole rfl) rfl) ?_
  refine RegD.tpur (i := 8) rfl rfl rfl rfl (by kernel_rfl) (Pur.mv rfl) ?_
  refine RegD.one (i := 4) (by kernel_rfl) rfl rfl rfl rfl (Does.call rfl (rowBindR_ok _ _ _ (subC_len b a))) ?_
  rintro _ H27_4 ⟨rfl, hE27_4⟩
  have z27_4 := hE27_4.lt
  replace hE := hE.ext hE27_4
  replace hA := hA.ext hE27_4
  replace hB := hB.ext hE27_4
  replace op := op.ext hE27_4
  replace oq := oq.ext hE27_4
  refine ⟨fun _ _ => (Bks.cons hA.blk (Bks.cons hB.blk (Bks.cons op.blk (Bks.cons oq.blk Bks.nil)))), ?_⟩
  refine RegD.one (i := 9) (by kernel_rfl) rfl rfl rfl rfl (Does.call rfl (rowBindR_ok _ _ _ (subC_len a b))) ?_
  rintro _ H27_9 ⟨rfl, hE27_9⟩
  have z27_9 := hE27_9.lt
  replace hE := hE.ext hE27_9
  replace hA := hA.ext hE27_9
  replace hB := hB.ext hE27_9
  replace op := op.ext hE27_9
  replace oq := oq.ext hE27_9
  refine ⟨fun _ _ => (Bks.cons hA.blk (Bks.cons hB.blk (Bks.cons op.blk (Bks.cons oq.blk Bks.nil)))), ?_⟩
  refine RegD.one (i := 10) (by kernel_rfl) rfl rfl rfl rfl (Does.bslA ([encB (bR (a.getD 4 0) (subC b a ++ [f])), encB (bR (b.getD 4 0) (subC a b ++ [f]))]) slA22 rfl rfl rfl rfl rfl rfl) ?_
  rintro _ H27_10 ⟨rfl, hp27_10⟩
  have hn27_10 := New.of_eq hp27_10
  have z27_10 := hn27_10.size
  replace hE := hE.ext hn27_10.ext
  replace hA := hA.ext hn27_10.ext
  replace hB := hB.ext hn27_10.ext
  replace op := op.ext hn27_10.ext
  replace oq := oq.ext hn27_10.ext
  have o27_10 := hn27_10.own
  refine ⟨fun _ _ => (Bks.cons hA.blk (Bks.cons hB.blk (Bks.cons op.blk (Bks.cons oq.blk Bks.nil)))), ?_⟩
  refine RegD.tpur (i := 11) rfl rfl rfl rfl (by kernel_rfl) (Pur.asg rfl) ?_
  refine RegD.tpur (i := 12) rfl rfl rfl rfl (by kernel_rfl) (Pur.asg rfl) ?_
  refine RegD.done (by kernel_rfl) ?_
  refine At.ret rfl Try.func135 rfl ?_
  exact uniP_two (by have h1 : a.getD 4 0 ≠ -1 := (by omega); have h2 : b.getD 4 0 ≠ -1 := (by omega); rw [hy]; unfold uniQ moreC; simp_all) rfl rfl o27_10 (by omega) hE
end Go.Proofs.Ytlfillhffpiffaa

namespace Go.Proofs.Ytlfillhffpiffaa
set_option linter.unusedSimpArgs false
set_option linter.unusedVariables false
set_option maxRecDepth 8000
open Go Go.Fx Go.Proofs

def sub1 (b : Bt) : Bt → Option Bt
  | .t v u => (tys [b] u).map (.t v)
  | .r v s => (rwS [b] s).map (.r v)
def addB (b : Bt) : List Bt → Option (List Bt)
  | [] => some [b]
  | c :: l => match sub1 b c, addB b l with
    | some c', some l' => some (c' :: l')
    | _, _ => none
def addAll : List Bt → List Bt → Option (List Bt)
  | [], bs => some bs
  | b :: l, bs => match addB b bs with
    | some bs' => addAll l bs'
    | none => none
def bt (b : Bd) : Bt := .r b.var b.row
abbrev Us := List Bt × Int
def rowsU (s : Us) (a b : List Int) : Except Int Us :=
  match rwS s.1 a, rwS s.1 b with
  | some a', some b' =>
    if 4096 ≤ s.2 then .error 1003 else if (uniR a' b' s.2).2 ≠ 0 then .error 1001
    else match addAll ((uniR a' b' s.2).1.map bt) s.1 with
      | some l => .ok (l, s.2 + ((uniR a' b' s.2).1.length / 2 : Nat))
      | none => .error 1003
  | _, _ => .error 1003
def occ (v : Int) : Tm → Bool
  | .bas _ => false
  | .var w => decide (w = v)
  | .fn a _ b => occ v a || occ v b
def bindU (s : Us) (v : Int) (t : Tm) : Except Int Us :=
  if occ v t = true then .error 1002 else match addB (.t v t) s.1 with
    | some l => .ok (l, s.2)
    | none => .error 1003
def leafU (s : Us) : Tm → Tm → Except Int Us
  | .var v, .var w => if v = w then .ok s else bindU s v (.var w)
  | .var v, q => bindU s v q
  | p, .var w => bindU s w p
  | .bas k, .bas l => if k = l then .ok s else .error 1001
  | _, _ => .error 1001
def uniU : Nat → Us → Tm → Tm → Option (Except Int Us)
  | 0, _, _, _ => none
  | n + 1, s, a, b => match tys s.1 a, tys s.1 b with
    | some (.fn f r g), some (.fn h r' i) => match uniU n s f h with
      | none => none
      | some (.error c) => some (.error c)
      | some (.ok s1) => match rowsU s1 r r' with
        | .error c => some (.error c)
        | .ok s2 => uniU n s2 g i
    | some p, some q => some (leafU s p q)
    | _, _ => some (.error 1003)

def domT : List Bt → List Int
  | [] => []
  | .t v _ :: l => v :: domT l
  | .r _ _ :: l => domT l
theorem find_none {v : Int} : ∀ {l : List Bt}, findT l v = none → v ∉ domT l
  | [], _ => by simp [domT]
  | .t w u :: l, h => by
    simp only [findT] at h
    split at h
    · cases h
    · rename_i hw
      simp only [domT, List.mem_cons, not_or]
      exact ⟨fun e => hw e.symm, find_none h⟩
  | .r w s :: l, h => find_none (l := l) h
theorem find_some {v : Int} {u : Tm} : ∀ {l : List Bt}, findT l v = some u → Bt.t v u ∈ l
  | [], h => by cases h
  | .t w x :: l, h => by
    simp only [findT] at h
    split at h
    · rename_i hw; cases h; subst hw; exact List.mem_cons_self
    · exact List.mem_cons_of_mem _ (find_some h)
  | .r w s :: l, h => List.mem_cons_of_mem _ (find_some (l := l) h)
theorem findR_some {v : Int} {u : List Int} : ∀ {l : List Bt}, findR l v = some u → Bt.r v u ∈ l
  | [], h => by cases h
  | .r w x :: l, h => by
    simp only [findR] at h
    split at h
    · rename_i hw; cases h; subst hw; exact List.mem_cons_self
    · exact List.mem_cons_of_mem _ (findR_some h)
  | .t w s :: l, h => List.mem_cons_of_mem _ (findR_some (l := l) h)
theorem find_not {v : Int} : ∀ {l : List Bt}, v ∉ domT l → findT l v = none
  | [], _ => rfl
  | .t w u :: l, h => by
    simp only [domT, List.mem_cons, not_or] at h
    simp only [findT]
    rw [if_neg (fun e => h.1 e.symm)]
    exact find_not h.2
  | .r w s :: l, h => find_not (l := l) h
theorem sub_fn {Ts : List Bt} {a b u : Tm} {r : List Int} (h : sub Ts (.fn a r b) = some u) : ∃ a' r' b', sub Ts a = some a' ∧ rwS Ts r = some r' ∧ sub Ts b = some b' ∧ u = .fn a' r' b' := by
  simp only [sub] at h
  cases ha : sub Ts a with
  | none => rw [ha] at h; cases h
  | some a' =>
    cases hr : rwS Ts r with
    | none => rw [ha, hr] at h; cases h
    | some r' =>
      cases hb : sub Ts b with
      | none => rw [ha, hr, hb] at h; cases h
      | some b' => rw [ha, hr, hb] at h; cases h; exact ⟨_, _, _, rfl, rfl, rfl, rfl⟩
theorem occ_sub {Ts : List Bt} {v : Int} : ∀ {t u : Tm}, sub Ts t = some u → occ v u = true → (occ v t = true ∧ v ∉ domT Ts) ∨ ∃ w x, Bt.t w x ∈ Ts ∧ occ v x = true
  | .bas k, u, h, ho => by cases h; cases ho
  | .var w, u, h, ho => by
    simp only [sub] at h
    cases hf : findT Ts w with
    | none =>
      rw [hf] at h; cases h
      have : w = v := by simpa [occ] using ho
      subst this
      exact .inl ⟨ho, find_none hf⟩
    | some x => rw [hf] at h; cases h; exact .inr ⟨w, _, find_some hf, ho⟩
  | .fn a r b, u, h, ho => by
    obtain ⟨a', r', b', h1, h2, h3, rfl⟩ := sub_fn h
    simp only [occ, Bool.or_eq_true] at ho ⊢
    rcases ho with ho | ho
    · rcases occ_sub h1 ho with h | h
      · exact .inl ⟨.inl h.1, h.2⟩
      · exact .inr h
    · rcases occ_sub h3 ho with h | h
      · exact .inl ⟨.inr h.1, h.2⟩
      · exact .inr h
theorem row_five {r : List Int} (h : r.length = 5) : ∃ a b c d e, r = [a, b, c, d, e] := by
  match r, h with
  | [a, b, c, d, e], _ => exact ⟨a, b, c, d, e, rfl⟩
theorem sum_ok {r s : List Int} (hr : r.length = 5) (hrm : rowM r = true) (hs : s.length = 5) (hsm : rowM s = true) (h : sumOk r s = true) : (sumR r s).length = 5 ∧ rowM (sumR r s) = true := by
  obtain ⟨a, b, c, d, e, rfl⟩ := row_five hr
  obtain ⟨a', b', c', d', e', rfl⟩ := row_five hs
  refine ⟨rfl, ?_⟩
  have f := fun i (hi : i < 4) => rowM_all hrm hi hr
  have g := fun i (hi : i < 4) => rowM_all hsm hi hs
  have t := rowM_t hsm
  have f0 := f 0 (by decide); have f1 := f 1 (by decide); have f2 := f 2 (by decide); have f3 := f 3 (by decide)
  have g0 := g 0 (by decide); have g1 := g 1 (by decide); have g2 := g 2 (by decide); have g3 := g 3 (by decide)
  simp only [List.getD_cons_zero, List.getD_cons_succ] at f0 f1 f2 f3 g0 g1 g2 g3 t
  unfold sumOk at h
  simp only [List.all_eq_true, List.mem_range, decide_eq_true_eq, sm] at h
  have h0 := h 0 (by decide); have h1 := h 1 (by decide); have h2 := h 2 (by decide); have h3 := h 3 (by decide)
  simp only [List.getD_cons_zero, List.getD_cons_succ] at h0 h1 h2 h3
  rw [wrap_in (n := a + a') (by omega)] at h0
  rw [wrap_in (n := b + b') (by omega)] at h1
  rw [wrap_in (n := c + c') (by omega)] at h2
  rw [wrap_in (n := d + d') (by omega)] at h3
  have e : sumR [a, b, c, d, e] [a', b', c', d', e'] = [a + a', b + b', c + c', d + d', e'] := by
    show [IntKind.i64.wrap (a + a'), IntKind.i64.wrap (b + b'), IntKind.i64.wrap (c + c'), IntKind.i64.wrap (d + d'), e'] = _
    rw [wrap_in (by omega), wrap_in (by omega), wrap_in (by omega), wrap_in (by omega)]
  rw [e]
  rw [decide_eq_true_eq] at h0 h1 h2 h3
  unfold rowM
  simp [okc]
  omega
theorem rw_ok {Ts : List Bt} (hT : ∀ b ∈ Ts, b.ok) {r u : List Int} (hr : r.length = 5) (hrm : rowM r = true) (h : rwS Ts r = some u) : u.length = 5 ∧ rowM u = true := by
  unfold rwS at h
  split at h
  · cases h; exact ⟨hr, hrm⟩
  · split at h
    · cases h; exact ⟨hr, hrm⟩
    · rename_i s hf
      split at h
      · rename_i hs
        cases h
        have := hT _ (findR_some hf)
        exact sum_ok hr hrm this.1 this.2 hs
      · cases h
theorem sub_ok {Ts : List Bt} (hT : ∀ b ∈ Ts, b.ok) : ∀ {t u : Tm}, t.ok → sub Ts t = some u → u.ok
  | .bas k, u, _, h => by cases h; trivial
  | .var w, u, ht, h => by
    simp only [sub] at h
    cases hf : findT Ts w with
    | none => rw [hf] at h; cases h; exact ht
    | some x => rw [hf] at h; cases h; exact (hT _ (find_some hf)).1
  | .fn a r b, u, ht, h => by
    obtain ⟨a', r', b', h1, h2, h3, rfl⟩ := sub_fn h
    have := rw_ok hT ht.2.1 ht.2.2.1 h2
    exact ⟨sub_ok hT ht.1 h1, this.1, this.2, sub_ok hT ht.2.2.2 h3⟩
theorem sub_sz {Ts : List Bt} : ∀ {t u : Tm}, (∀ v ∈ domT Ts, occ v t = false) → sub Ts t = some u → u.sz = t.sz
  | .bas k, u, _, h => by cases h; rfl
  | .var w, u, ht, h => by
    simp only [sub] at h
    have : w ∉ domT Ts := fun hw => by have := ht w hw; simp [occ] at this
    rw [find_not this] at h; cases h; rfl
  | .fn a r b, u, ht, h => by
    obtain ⟨a', r', b', h1, h2, h3, rfl⟩ := sub_fn h
    have e1 := sub_sz (fun v hv => by have := ht v hv; simp only [occ, Bool.or_eq_false_iff] at this; exact this.1) h1
    have e2 := sub_sz (fun v hv => by have := ht v hv; simp only [occ, Bool.or_eq_false_iff] at this; exact this.2) h3
    simp only [Tm.sz, e1, e2]
theorem tys_sub {Ts : List Bt} {t u : Tm} (h : tys Ts t = some u) : sub Ts t = some u ∧ u.sz ≤ 256 := by
  unfold tys at h
  cases hs : sub Ts t with
  | none => rw [hs] at h; cases h
  | some x =>
    rw [hs] at h
    dsimp only at h
    split at h
    · rename_i hz; cases h; exact ⟨rfl, hz⟩
    · cases h

structure Inv (l : List Bt) : Prop where
  ok : ∀ b ∈ l, b.ok
  dom : (domT l).Pairwise (· ≠ ·)
  rng : ∀ v ∈ domT l, 0 ≤ v ∧ v < 4096
  idem : ∀ v ∈ domT l, ∀ w x, Bt.t w x ∈ l → occ v x = false
theorem inv_nil : Inv [] := ⟨fun b h => (by cases h), List.Pairwise.nil, fun v h => (by cases h), fun v h => (by cases h)⟩
theorem Inv.cnt {l : List Bt} (h : Inv l) : (domT l).length ≤ 4096 := pigeon 4096 _ h.dom (fun v hv => h.rng v hv)
theorem Inv.free {l : List Bt} (h : Inv l) {t u : Tm} (hs : sub l t = some u) {v : Int} (hv : v ∈ domT l) : occ v u = false := by
  cases ho : occ v u with
  | false => rfl
  | true =>
    rcases occ_sub hs ho with h1 | ⟨w, x, h1, h2⟩
    · exact (h1.2 hv).elim
    · rw [h.idem v hv w x h1] at h2; cases h2
theorem sub1_T {b : Bt} {v : Int} {u : Tm} {c : Bt} (h : sub1 b (.t v u) = some c) : ∃ u', tys [b] u = some u' ∧ c = .t v u' := by
  simp only [sub1, Option.map_eq_some_iff] at h
  obtain ⟨u', h1, h2⟩ := h
  exact ⟨u', h1, h2.symm⟩
theorem sub1_R {b : Bt} {v : Int} {u : List Int} {c : Bt} (h : sub1 b (.r v u) = some c) : ∃ u', rwS [b] u = some u' ∧ c = .r v u' := by
  simp only [sub1, Option.map_eq_some_iff] at h
  obtain ⟨u', h1, h2⟩ := h
  exact ⟨u', h1, h2.symm⟩
theorem addB_cons {b c : Bt} {l m : List Bt} (h : addB b (c :: l) = some m) : ∃ c' l', sub1 b c = some c' ∧ addB b l = some l' ∧ m = c' :: l' := by
  simp only [addB] at h
  cases hc : sub1 b c with
  | none => rw [hc] at h; cases h
  | some c' =>
    cases hl : addB b l with
    | none => rw [hc, hl] at h; cases h
    | some l' => rw [hc, hl] at h; cases h; exact ⟨_, _, rfl, rfl, rfl⟩
theorem addB_dom {b : Bt} : ∀ {l m : List Bt}, addB b l = some m → domT m = domT l ++ domT [b]
  | [], m, h => by cases h; rfl
  | c :: l, m, h => by
    obtain ⟨c', l', h1, h2, rfl⟩ := addB_cons h
    have ih := addB_dom h2
    cases c with
    | t v u => obtain ⟨u', _, rfl⟩ := sub1_T h1; simp only [domT, ih]; rfl
    | r v u => obtain ⟨u', _, rfl⟩ := sub1_R h1; simp only [domT, ih]
theorem addB_mem {b : Bt} : ∀ {l m : List Bt}, addB b l = some m → ∀ c' ∈ m, c' = b ∨ ∃ c ∈ l, sub1 b c = some c'
  | [], m, h, c', hc => by cases h; exact .inl (List.mem_singleton.1 hc)
  | c :: l, m, h, c', hc => by
    obtain ⟨c1, l', h1, h2, rfl⟩ := addB_cons h
    rcases List.mem_cons.1 hc with rfl | hc
    · exact .inr ⟨c, List.mem_cons_self, h1⟩
    · rcases addB_mem h2 c' hc with h | ⟨d, hd, h⟩
      · exact .inl h
      · exact .inr ⟨d, List.mem_cons_of_mem _ hd, h⟩
theorem sub1_ok {b c c' : Bt} (hb : b.ok) (hc : c.ok) (h : sub1 b c = some c') : c'.ok := by
  have h1 : ∀ x ∈ [b], x.ok := fun x hx => by rw [List.mem_singleton.1 hx]; exact hb
  cases c with
  | t v u => obtain ⟨u', hu, rfl⟩ := sub1_T h; have := tys_sub hu; exact ⟨sub_ok h1 hc.1 this.1, this.2⟩
  | r v u => obtain ⟨u', hu, rfl⟩ := sub1_R h; exact rw_ok h1 hc.1 hc.2 hu
theorem Inv.addT {l m : List Bt} (h : Inv l) {v : Int} {u : Tm} (hv : 0 ≤ v ∧ v < 4096) (hvl : v ∉ domT l) (hu : u.ok) (hz : u.sz ≤ 256) (hfree : ∀ w ∈ domT l, occ w u = false) (hocc : occ v u = false) (ha : addB (.t v u) l = some m) : Inv m := by
  have hd : domT m = domT l ++ [v] := addB_dom ha
  have hmem := addB_mem ha
  refine ⟨?_, ?_, ?_, ?_⟩
  · intro c hc
    rcases hmem c hc with rfl | ⟨d, hd, hs⟩
    · exact ⟨hu, hz⟩
    · exact sub1_ok (b := .t v u) ⟨hu, hz⟩ (h.ok d hd) hs
  · rw [hd, List.pairwise_append]
    refine ⟨h.dom, List.pairwise_singleton _ _, fun a hal b hb => ?_⟩
    rw [List.mem_singleton.1 hb]
    intro e; subst e; exact hvl hal
  · intro w hw
    rw [hd] at hw
    rcases List.mem_append.1 hw with hw | hw
    · exact h.rng w hw
    · rw [List.mem_singleton.1 hw]; exact hv
  · intro w hw x y hxy
    rw [hd] at hw
    have hwu : occ w u = false := by
      rcases List.mem_append.1 hw with hw | hw
      · exact hfree w hw
      · rw [List.mem_singleton.1 hw]; exact hocc
    rcases hmem _ hxy with e | ⟨d, hd, hs⟩
    · cases e; exact hwu
    · cases d with
      | r z s => obtain ⟨s', _, e⟩ := sub1_R hs; cases e
      | t z s =>
        obtain ⟨s', hs', e⟩ := sub1_T hs
        cases e
        cases ho : occ w y with
        | false => rfl
        | true =>
          rcases occ_sub (tys_sub hs').1 ho with h1 | ⟨a, b, h1, h2⟩
          · rcases List.mem_append.1 hw with hw | hw
            · rw [h.idem w hw _ _ hd] at h1; cases h1.1
            · exact (h1.2 (by simpa [domT] using hw)).elim
          · cases List.mem_singleton.1 h1; rw [hwu] at h2; cases h2
theorem Inv.addR {l m : List Bt} (h : Inv l) {v : Int} {s : List Int} (hs5 : s.length = 5) (hsm : rowM s = true) (ha : addB (.r v s) l = some m) : Inv m ∧ domT m = domT l := by
  have hd : domT m = domT l := by rw [addB_dom ha]; simp [domT]
  have hmem := addB_mem ha
  refine ⟨⟨?_, by rw [hd]; exact h.dom, by rw [hd]; exact h.rng, ?_⟩, hd⟩
  · intro c hc
    rcases hmem c hc with rfl | ⟨d, hd, hs⟩
    · exact ⟨hs5, hsm⟩
    · exact sub1_ok (b := .r v s) ⟨hs5, hsm⟩ (h.ok d hd) hs
  · intro w hw x y hxy
    rw [hd] at hw
    rcases hmem _ hxy with e | ⟨d, hd, hs⟩
    · cases e
    · cases d with
      | r z s => obtain ⟨s', _, e⟩ := sub1_R hs; cases e
      | t z s =>
        obtain ⟨s', hs', e⟩ := sub1_T hs
        cases e
        cases ho : occ w y with
        | false => rfl
        | true =>
          rcases occ_sub (tys_sub hs').1 ho with h1 | ⟨a, b, h1, h2⟩
          · rw [h.idem w hw _ _ hd] at h1; cases h1.1
          · cases List.mem_singleton.1 h1

theorem uniR_shape {a b : List Int} {f : Int} (hf : f < 4096) (h : (uniR a b f).2 = 0) : rowM a = true ∧ rowM b = true ∧ ∀ x ∈ (uniR a b f).1, ∃ v s, x = bR v s ∧ (∃ c t, s = c ++ [t] ∧ (c = subC a b ∨ c = subC b a) ∧ -1 ≤ t ∧ t < 4096) := by
  unfold uniR at h ⊢
  split at h
  · rename_i hc
    rw [if_pos hc]
    have ha := rowM_t hc.1
    have hb := rowM_t hc.2.1
    refine ⟨hc.1, hc.2.1, ?_⟩
    unfold uniQ at h ⊢
    repeat' split
    all_goals intro x hx
    all_goals simp only [List.mem_cons, List.not_mem_nil, or_false, false_or] at hx
    all_goals first
      | (rcases hx with rfl | rfl <;> refine ⟨_, _, rfl, _, _, rfl, ?_, ?_, ?_⟩ <;> first | exact .inl rfl | exact .inr rfl | omega)
      | (subst hx; refine ⟨_, _, rfl, _, _, rfl, ?_, ?_, ?_⟩ <;> first | exact .inl rfl | exact .inr rfl | omega)
      | exact hx.elim
  · simp at h
theorem subC_ok {a b : List Int} (ha5 : a.length = 5) (hb5 : b.length = 5) (ha : rowM a = true) (hb : rowM b = true) : ∀ x ∈ subC a b, okc x = true := by
  intro x hx
  unfold subC at hx
  simp only [List.mem_map, List.mem_range] at hx
  obtain ⟨i, hi, rfl⟩ := hx
  have h1 := rowM_all ha hi ha5
  have h2 := rowM_all hb hi hb5
  unfold sb1 okc
  rw [decide_eq_true_eq]
  split <;> omega
theorem rowM_mk {c : List Int} {t : Int} (hl : c.length = 4) (hc : ∀ x ∈ c, okc x = true) (h1 : -1 ≤ t) (h2 : t < 4096) : (c ++ [t]).length = 5 ∧ rowM (c ++ [t]) = true := by
  match c, hl with
  | [p, q, r, s], _ =>
    refine ⟨rfl, ?_⟩
    unfold rowM
    simp only [Bool.and_eq_true, decide_eq_true_eq, List.all_eq_true]
    exact ⟨hc, h1, h2⟩
theorem addAll_inv : ∀ {l bs m : List Bt}, (∀ b ∈ l, ∃ v s, b = .r v s ∧ s.length = 5 ∧ rowM s = true) → Inv bs → addAll l bs = some m → Inv m ∧ domT m = domT bs
  | [], bs, m, _, h, e => by cases e; exact ⟨h, rfl⟩
  | b :: l, bs, m, hl, h, e => by
    simp only [addAll] at e
    cases hb : addB b bs with
    | none => rw [hb] at e; cases e
    | some bs' =>
      rw [hb] at e
      obtain ⟨v, s, rfl, h5, hm⟩ := hl b List.mem_cons_self
      obtain ⟨h1, h2⟩ := h.addR h5 hm hb
      obtain ⟨h3, h4⟩ := addAll_inv (fun b hb => hl b (List.mem_cons_of_mem _ hb)) h1 e
      exact ⟨h3, by rw [h4, h2]⟩
theorem rowsU_inv {s s' : Us} {a b : List Int} (h : Inv s.1) (ha5 : a.length = 5) (ha : rowM a = true) (hb5 : b.length = 5) (hb : rowM b = true) (e : rowsU s a b = .ok s') : Inv s'.1 ∧ domT s'.1 = domT s.1 := by
  unfold rowsU at e
  cases h1 : rwS s.1 a with
  | none => rw [h1] at e; cases e
  | some a' =>
    cases h2 : rwS s.1 b with
    | none => rw [h1, h2] at e; cases e
    | some b' =>
      rw [h1, h2] at e
      dsimp only at e
      split at e
      · cases e
      · rename_i hf
        split at e
        · cases e
        · rename_i hc
          have hc' : (uniR a' b' s.2).2 = 0 := by simpa using hc
          obtain ⟨r1, r2, r3⟩ := uniR_shape (by omega) hc'
          have ha' := rw_ok h.ok ha5 ha h1
          have hb' := rw_ok h.ok hb5 hb h2
          cases h3 : addAll ((uniR a' b' s.2).1.map bt) s.1 with
          | none => rw [h3] at e; cases e
          | some m =>
            rw [h3] at e
            cases e
            refine addAll_inv (fun x hx => ?_) h h3
            obtain ⟨y, hy, rfl⟩ := List.mem_map.1 hx
            obtain ⟨v, t, rfl, c, z, rfl, hcc, hz⟩ := r3 y hy
            have hl4 : c.length = 4 := by rcases hcc with rfl | rfl <;> rfl
            have hcm : ∀ x ∈ c, okc x = true := by
              rcases hcc with rfl | rfl
              · exact subC_ok ha'.1 hb'.1 r1 r2
              · exact subC_ok hb'.1 ha'.1 r2 r1
            have := rowM_mk hl4 hcm hz.1 hz.2
            exact ⟨v, _, rfl, this.1, this.2⟩
def Grw (s s' : Us) : Prop := Inv s'.1 ∧ (domT s.1).length ≤ (domT s'.1).length ∧ ((domT s'.1).length = (domT s.1).length → domT s'.1 = domT s.1)
theorem bindU_inv {s s' : Us} {v : Int} {t : Tm} (h : Inv s.1) (hv : 0 ≤ v ∧ v < 4096) (hvl : v ∉ domT s.1) (hu : t.ok) (hz : t.sz ≤ 256) (hfree : ∀ w ∈ domT s.1, occ w t = false) (e : bindU s v t = .ok s') : Grw s s' := by
  unfold bindU at e
  split at e
  · cases e
  · rename_i ho
    cases ha : addB (.t v t) s.1 with
    | none => rw [ha] at e; cases e
    | some l =>
      rw [ha] at e; cases e
      refine ⟨h.addT hv hvl hu hz hfree (by simpa using ho) ha, ?_⟩
      have hd : domT l = domT s.1 ++ [v] := addB_dom ha
      dsimp only
      rw [hd, List.length_append]
      refine ⟨by omega, fun h => by simp at h⟩
theorem leafU_inv {s s' : Us} {p q : Tm} (h : Inv s.1) (hp : p.ok) (hq : q.ok) (hpz : p.sz ≤ 256) (hqz : q.sz ≤ 256) (hpf : ∀ w ∈ domT s.1, occ w p = false) (hqf : ∀ w ∈ domT s.1, occ w q = false) (e : leafU s p q = .ok s') : Grw s s' := by
  have hv : ∀ {v : Int}, (∀ w ∈ domT s.1, occ w (.var v) = false) → v ∉ domT s.1 := fun hf hm => by
    have := hf _ hm; simp [occ] at this
  have hr : Grw s s := ⟨h, Nat.le_refl _, fun _ => rfl⟩
  cases p with
  | var v =>
    cases q with
    | var w =>
      simp only [leafU] at e
      split at e
      · cases e; exact hr
      · exact bindU_inv h hp (hv hpf) hq hqz hqf e
    | bas k => exact bindU_inv h hp (hv hpf) hq hqz hqf e
    | fn a r b => exact bindU_inv h hp (hv hpf) hq hqz hqf e
  | bas k =>
    cases q with
    | var w => exact bindU_inv h hq (hv hqf) hp hpz hpf e
    | bas l =>
      simp only [leafU] at e
      split at e
      · cases e; exact hr
      · cases e
    | fn a r b => cases e
  | fn a r b =>
    cases q with
    | var w => exact bindU_inv h hq (hv hqf) hp hpz hpf e
    | bas l => cases e
    | fn a r b => cases e

theorem uniU_mono : ∀ (n : Nat) {s : Us} {a b : Tm} {r : Except Int Us}, uniU n s a b = some r → uniU (n + 1) s a b = some r
  | 0, _, _, _, _, h => by cases h
  | n + 1, s, a, b, r, h => by
    rw [uniU] at h ⊢
    split at h
    · rename_i f r1 g h' r2 i e1 e2
      cases hu : uniU n s f h' with
      | none => rw [hu] at h; cases h
      | some x =>
        rw [hu] at h
        rw [uniU_mono n hu]
        cases x with
        | error c => exact h
        | ok s1 =>
          dsimp only at h ⊢
          cases hr : rowsU s1 r1 r2 with
          | error c => rw [hr] at h; exact h
          | ok s2 => rw [hr] at h; exact uniU_mono n h
    · exact h
    · exact h
theorem uniU_le {n m : Nat} (hnm : n ≤ m) {s : Us} {a b : Tm} {r : Except Int Us} (h : uniU n s a b = some r) : uniU m s a b = some r := by
  induction hnm with
  | refl => exact h
  | step _ ih => exact uniU_mono _ ih

def isFn : Tm → Bool
  | .fn _ _ _ => true
  | _ => false
theorem uniU_fn {n : Nat} {s : Us} {a b f g h i : Tm} {r r' : List Int} (e1 : tys s.1 a = some (.fn f r g)) (e2 : tys s.1 b = some (.fn h r' i)) :
    uniU (n + 1) s a b = match uniU n s f h with
      | none => none
      | some (.error c) => some (.error c)
      | some (.ok s1) => match rowsU s1 r r' with
        | .error c => some (.error c)
        | .ok s2 => uniU n s2 g i := by rw [uniU, e1, e2]
theorem uniU_leaf {n : Nat} {s : Us} {a b p q : Tm} (e1 : tys s.1 a = some p) (e2 : tys s.1 b = some q) (h : (isFn p && isFn q) = false) : uniU (n + 1) s a b = some (leafU s p q) := by
  rw [uniU, e1, e2]
  cases p <;> cases q <;> first | rfl | cases h
theorem uniU_bad {n : Nat} {s : Us} {a b : Tm} (h : tys s.1 a = none ∨ tys s.1 b = none) : uniU (n + 1) s a b = some (.error 1003) := by
  rw [uniU]
  rcases h with h | h
  · rw [h]
  · rw [h]
    cases tys s.1 a with
    | none => rfl
    | some p => cases p <;> rfl
def msr (s : Us) (p : Tm) : Nat := (4096 - (domT s.1).length) * 1000 + p.sz
theorem uniU_ends : ∀ (m : Nat) (s : Us) (a b : Tm), Inv s.1 → a.ok → b.ok → (∀ p, tys s.1 a = some p → msr s p ≤ m) → ∃ n r, uniU n s a b = some r ∧ ∀ s', r = .ok s' → Grw s s'
  | 0, s, a, b, hI, ha, hb, hm => by
    cases h1 : tys s.1 a with
    | none => exact ⟨1, _, uniU_bad (.inl h1), fun s' h => by cases h⟩
    | some p => have := hm p h1; have := p.sz_pos; unfold msr at *; omega
  | m + 1, s, a, b, hI, ha, hb, hm => by
    cases h1 : tys s.1 a with
    | none => exact ⟨1, _, uniU_bad (.inl h1), fun s' h => by cases h⟩
    | some p =>
      cases h2 : tys s.1 b with
      | none => exact ⟨1, _, uniU_bad (.inr h2), fun s' h => by cases h⟩
      | some q =>
        obtain ⟨hsp, hpz⟩ := tys_sub h1
        obtain ⟨hsq, hqz⟩ := tys_sub h2
        have hpo := sub_ok hI.ok ha hsp
        have hqo := sub_ok hI.ok hb hsq
        have hpf : ∀ w ∈ domT s.1, occ w p = false := fun w hw => hI.free hsp hw
        have hqf : ∀ w ∈ domT s.1, occ w q = false := fun w hw => hI.free hsq hw
        cases hf : isFn p && isFn q with
        | false => exact ⟨1, _, uniU_leaf h1 h2 hf, fun s' h => leafU_inv hI hpo hqo hpz hqz hpf hqf h⟩
        | true =>
          cases p with
          | var v => cases hf
          | bas k => cases hf
          | fn f r g =>
            cases q with
            | var v => cases hf
            | bas k => cases hf
            | fn h r' i =>
              have hmm := hm _ h1
              have hfp : ∀ w ∈ domT s.1, occ w f = false ∧ occ w g = false := fun w hw => by
                have := hpf w hw; simp only [occ, Bool.or_eq_false_iff] at this; exact this
              have hgz := g.sz_pos
              have hfz := f.sz_pos
              simp only [Tm.sz] at hpz
              obtain ⟨n1, r1, hu1, hg1⟩ := uniU_ends m s f h hI hpo.1 hqo.1 (fun u hu => by
                have := sub_sz (fun w hw => (hfp w hw).1) (tys_sub hu).1
                unfold msr at hmm ⊢; simp only [Tm.sz] at hmm; omega)
              cases r1 with
              | error c =>
                refine ⟨n1 + 1, .error c, ?_, fun s' h => by cases h⟩
                rw [uniU_fn h1 h2, hu1]
              | ok s1 =>
                obtain ⟨hI1, hl1, hd1⟩ := hg1 s1 rfl
                cases hr : rowsU s1 r r' with
                | error c =>
                  refine ⟨n1 + 1, .error c, ?_, fun s' h => by cases h⟩
                  rw [uniU_fn h1 h2, hu1]
                  dsimp only
                  rw [hr]
                | ok s2 =>
                  obtain ⟨hI2, hd2⟩ := rowsU_inv hI1 hpo.2.1 hpo.2.2.1 hqo.2.1 hqo.2.2.1 hr
                  have hc := hI.cnt
                  have hc2 := hI2.cnt
                  obtain ⟨n2, r2, hu2, hg2⟩ := uniU_ends m s2 g i hI2 hpo.2.2.2 hqo.2.2.2 (fun u hu => by
                    have huz := (tys_sub hu).2
                    unfold msr at hmm ⊢
                    simp only [Tm.sz] at hmm
                    rw [hd2]
                    by_cases he : (domT s1.1).length = (domT s.1).length
                    · have hs := sub_sz (fun w hw => by rw [hd2, hd1 he] at hw; exact (hfp w hw).2) (tys_sub hu).1
                      omega
                    · rw [hd2] at hc2
                      omega)
                  refine ⟨max n1 n2 + 1, r2, ?_, fun s' h => ?_⟩
                  · rw [uniU_fn h1 h2, uniU_le (Nat.le_max_left n1 n2) hu1]
                    dsimp only
                    rw [hr]
                    exact uniU_le (Nat.le_max_right n1 n2) hu2
                  · obtain ⟨k1, k2, k3⟩ := hg2 s' h
                    rw [hd2] at k2 k3
                    exact ⟨k1, by omega, fun e => by rw [k3 (by omega), hd1 (by omega)]⟩
theorem uniU_total {s : Us} {a b : Tm} (hI : Inv s.1) (ha : a.ok) (hb : b.ok) : ∃ n r, uniU n s a b = some r ∧ ∀ s', r = .ok s' → Grw s s' :=
  uniU_ends (4096 * 1000 + 256) s a b hI ha hb (fun p hp => by have := (tys_sub hp).2; unfold msr; omega)
end Go.Proofs.Ytlfillhffpiffaa

namespace Go.Fx
open Go
set_option linter.unusedSimpArgs false
set_option linter.unusedVariables false
section
variable {P : Program} {dst : Option Tmp} {ty : TypeId} {pos : String} {aft : Array Edge} {gd : Option (Nat × Bool)} {e : Env} {H : Heap} {t t' : TypeId} {x y : Operand}
theorem Pur.eqD {tx uy : TypeId} {v w : Value} (ht : isIf P t = true) (hx : ev e x = some (.iface tx v)) (hy : ev e y = some (.iface uy w)) (hne : tx ≠ uy) : Pur P ⟨dst, .binOp .eql t x y t', ty, pos, aft, gd⟩ e (.bool false) := by
  intro A W hA
  unfold isIf at ht
  split at ht
  case h_2 => cases ht
  rename_i ms hu
  have hg : eqGuard .eql t x y (.iface tx v) (.iface uy w) = pure () := rfl
  simp only [execOp, hA.ev hx, hA.ev hy, hg, Sem.run_bind, Sem.run_pure, Result.andThen_ok, run_eql_iface_types tx uy v w hu hne]
theorem Pur.eqNil {tx : TypeId} {v : Value} (ht : isIf P t = true) (hx : ev e x = some (.iface tx v)) (hy : ev e y = some .nilIface) : Pur P ⟨dst, .binOp .eql t x y t', ty, pos, aft, gd⟩ e (.bool false) := by
  intro A W hA
  unfold isIf at ht
  split at ht
  case h_2 => cases ht
  rename_i ms hu
  have hif : P.isIface t = true := by simp [Program.isIface, hu]
  have hg : eqGuard .eql t x y (.iface tx v) .nilIface = pure () := rfl
  simp only [execOp, hA.ev hx, hA.ev hy, hg, Sem.run_bind, Sem.run_pure, Result.andThen_ok, run_eql_iface_nil (P := P) (w := W) t hif tx v]
theorem Pur.neNil {tx : TypeId} {v : Value} (ht : isIf P t = true) (hx : ev e x = some (.iface tx v)) (hy : ev e y = some .nilIface) : Pur P ⟨dst, .binOp .neq t x y t', ty, pos, aft, gd⟩ e (.bool true) := by
  intro A W hA
  unfold isIf at ht
  split at ht
  case h_2 => cases ht
  rename_i ms hu
  have hif : P.isIface t = true := by simp [Program.isIface, hu]
  have hg : eqGuard .neq t x y (.iface tx v) .nilIface = pure () := rfl
  simp only [execOp, hA.ev hx, hA.ev hy, hg, Sem.run_bind, Sem.run_pure, Result.andThen_ok, run_neq_iface_nil (P := P) (w := W) t hif tx v]
theorem Pur.neNN (ht : isIf P t = true) (hx : ev e x = some .nilIface) (hk : isK y = true) (hy : ev e y = some .nilIface) : Pur P ⟨dst, .binOp .neq t x y t', ty, pos, aft, gd⟩ e (.bool false) := by
  intro A W hA
  unfold isIf at ht
  split at ht
  case h_2 => cases ht
  rename_i ms hu
  have hif : P.isIface t = true := by simp [Program.isIface, hu]
  have hg : eqGuard .neq t x y .nilIface .nilIface = pure () := by
    cases y with
    | const c => cases x <;> rfl
    | _ => cases hk
  simp only [execOp, hA.ev hx, hA.ev hy, hg, Sem.run_bind, Sem.run_pure, Result.andThen_ok, run_neq_nil_nil_at (P := P) (w := W) t hif]
theorem Pur.taH {tx xT asr : TypeId} {v : Value} {want : Array (String × TypeId)} (hu : P.underlying asr = some (.interface want)) (h : (P.info? tx).map (fun i => (lacking want i.methods).isEmpty) = some true)
    (hx : ev e x = some (.iface tx v)) : Pur P ⟨dst, .typeAssert x xT asr true, ty, pos, aft, gd⟩ e (.tuple #[.iface tx v, .bool true]) := by
  intro A w hA
  simp only [execOp, hA.ev hx, Sem.run_bind, run_typeAssert_hasB hu h, Result.andThen_ok, Sem.run_pure]
theorem Does.mkc {el : TypeId} {v : Value} {by' : Nat} {k k' : IntKind} {m n : Nat} (ht : mkT P t = some (el, v, by')) (hx : ev e x = some (.int k (m : Int))) (hy : ev e y = some (.int k' (n : Int))) (hmn : m ≤ n)
    (hb : by' * n ≤ 281474976710656) (h63 : n ≤ 9223372036854775807) :
    Does P ⟨dst, .makeSlice t x y, ty, pos, aft, gd⟩ e H (fun u H' => u = .slice (some ⟨H.size, 0, none⟩) m n ∧ H' = H.push (.cells (List.replicate n v).toArray el (0, 0))) := by
  intro w0 nn a hA K Q hK
  unfold mkT at ht
  split at ht
  case h_2 => cases ht
  rename_i el' hu
  split at ht
  case h_2 => cases ht
  rename_i i hi
  split at ht
  case h_2 => cases ht
  rename_i z hz
  split at ht
  case h_2 => cases ht
  rename_i v' hs hc
  cases ht
  have hb' : (i.bytes : Int) * (n : Int) ≤ 281474976710656 := by
    have h : ((i.bytes * n : Nat) : Int) ≤ 281474976710656 := by omega
    rwa [Int.natCast_mul] at h
  have hr := run_make (P := P) (mk w0 H nn) t _ i z hu hi hz k k' m n (by omega) (by omega) hb' (by omega)
  have hc' : z.cells = #[_] := Array.ext' hc
  simp only [Int.toNat_natCast, hs, Nat.mul_one, hc', made_one] at hr
  unfold Oper.wp
  simp only [execOp, hA.ev hx, hA.ev hy, Sem.run_bind, hr, Result.andThen_ok, Sem.run_pure]
  exact hK _ _ nn ⟨rfl, rfl⟩
end
end Go.Fx
namespace Go.Proofs.Ytlfillhffpiffaa
set_option linter.unusedSimpArgs false
set_option linter.unusedVariables false
set_option maxRecDepth 8000
open Go Go.Fx Go.Proofs
namespace FactsUniE
theorem es194 : esz Try.prog 194 = some 1 := by kernel_rfl
theorem fo166_1 : foff Try.prog 166 1 = some 1 := by kernel_rfl
theorem fo216_0 : foff Try.prog 216 0 = some 0 := by kernel_rfl
theorem isl194 : isSl Try.prog 194 = true := by kernel_rfl
theorem sc107 : sc Try.prog 107 = true := by kernel_rfl
theorem sc194 : sc Try.prog 194 = true := by kernel_rfl
end FactsUniE
open FactsUniE

abbrev eN (c : Int) : Value := .iface 31 (I c)
def JoV (H : Heap) (w : Value) (c d : Int) : Prop := ∃ jb eb cap cs, w = .iface 214 (ptr jb 0) ∧ Blk H jb [.slice (some ⟨eb, 0, none⟩) 2 cap] ∧ Blk H eb cs ∧ cs.take 2 = [eN c, eN d]
def EIn (H : Heap) (w : Value) (c : Int) : Prop := w = eN c ∨ ∃ d, d ≠ 1001 ∧ d ≠ 1002 ∧ d ≠ 1003 ∧ JoV H w c d
def PrtV (H : Heap) (v : Value) (c : Int) : Prop := ∃ pb s w, v = .iface 164 (ptr pb 0) ∧ Blk H pb [s, w] ∧ EIn H w c
def ErrV (H : Heap) (v : Value) : Option Int → Prop
  | none => v = .nilIface
  | some c => PrtV H v c ∧ (c = 1001 ∨ c = 1002 ∨ c = 1003)
theorem JoV.ext {H H' : Heap} {w : Value} {c d : Int} (h : JoV H w c d) (he : Ext H H') : JoV H' w c d := by
  obtain ⟨jb, eb, cap, cs, h1, h2, h3, h4⟩ := h
  exact ⟨jb, eb, cap, cs, h1, h2.ext he, h3.ext he, h4⟩
theorem EIn.ext {H H' : Heap} {w : Value} {c : Int} (h : EIn H w c) (he : Ext H H') : EIn H' w c := by
  rcases h with h | ⟨d, h1, h2, h3, h⟩
  · exact .inl h
  · exact .inr ⟨d, h1, h2, h3, h.ext he⟩
theorem PrtV.ext {H H' : Heap} {w : Value} {c : Int} (h : PrtV H w c) (he : Ext H H') : PrtV H' w c := by
  obtain ⟨pb, s, w, h1, h2, h3⟩ := h
  exact ⟨pb, s, w, h1, h2.ext he, h3.ext he⟩
theorem ErrV.ext {H H' : Heap} {w : Value} {o : Option Int} (h : ErrV H w o) (he : Ext H H') : ErrV H' w o := by
  cases o with
  | none => exact h
  | some c => exact ⟨h.1.ext he, h.2⟩

theorem unwrapP_ok {pb : Nat} {s w : Value} {H : Heap} (h : Blk H pb [s, w]) (h1 : w.oneCell' = true) : Ret Try.prog 158 [ptr pb 0] H (fun v H' => v = w ∧ H' = H) := by
  refine Ret.of_at (N := 7) Try.call158 Try.func158 rfl rfl rfl ?_
  have hE := Ext.refl H
  refine At.region rfl rfl ?_
  refine Reg.pur rfl rfl rfl rfl (Pur.asg rfl) ?_
  refine Reg.nil ?_
  refine At.region rfl rfl ?_
  refine Reg.pur rfl rfl rfl rfl (Pur.mv rfl) ?_
  refine Reg.pur rfl rfl rfl rfl (Pur.nilc rfl) ?_
  refine Reg.pur rfl rfl rfl rfl (Pur.fld _ fo166_1 rfl) ?_
  refine Reg.lod rfl rfl rfl rfl (Lod.ld sc107 rfl h rfl) ?_
  refine Reg.pur rfl rfl rfl rfl (Pur.asg rfl) ?_
  refine Reg.nil ?_
  refine At.ret rfl Try.func158 rfl ?_
  exact ⟨rfl, rfl⟩
theorem unwrapJ_ok {jb : Nat} {a : Option Addr} {n c : Nat} {H : Heap} (h : Blk H jb [.slice a n c]) : Ret Try.prog 172 [ptr jb 0] H (fun v H' => v = .slice a n c ∧ H' = H) := by
  refine Ret.of_at (N := 7) Try.call172 Try.func172 rfl rfl rfl ?_
  have hE := Ext.refl H
  refine At.region rfl rfl ?_
  refine Reg.pur rfl rfl rfl rfl (Pur.asg rfl) ?_
  refine Reg.nil ?_
  refine At.region rfl rfl ?_
  refine Reg.pur rfl rfl rfl rfl (Pur.mv rfl) ?_
  refine Reg.pur rfl rfl rfl rfl (Pur.nilc rfl) ?_
  refine Reg.pur rfl rfl rfl rfl (Pur.fld _ fo216_0 rfl) ?_
  refine Reg.lod rfl rfl rfl rfl (Lod.ld sc194 rfl h rfl) ?_
  refine Reg.pur rfl rfl rfl rfl (Pur.asg rfl) ?_
  refine Reg.nil ?_
  refine At.ret rfl Try.func172 rfl ?_
  exact ⟨rfl, rfl⟩
theorem mP (v : Value) (w : World) : (callMethod (.iface 164 v) "Unwrap" #[]).run Try.prog w = .ok (.enter 158 #[v]) w := by kernel_rfl
theorem mJ (v : Value) (w : World) : (callMethod (.iface 214 v) "Unwrap" #[]).run Try.prog w = .ok (.enter 172 #[v]) w := by kernel_rfl
def Kd (H : Heap) (x : Value) (c : Int) (k : Nat) : Prop := (k = 0 ∧ x = eN c) ∨ (k = 1 ∧ ∃ d, d ≠ 1001 ∧ d ≠ 1002 ∧ d ≠ 1003 ∧ JoV H x c d) ∨ (k = 2 ∧ PrtV H x c)
theorem Kd.is {H : Heap} {v : Value} {c : Int} {k : Nat} (h : Kd H v c k) : ∀ {dst ty pos aft gd} {e : Env} {x : Operand} {xT : TypeId} (_ : ev e x = some v), Pur Try.prog ⟨dst, .typeAssert x xT 188 true, ty, pos, aft, gd⟩ e (.tuple #[.nilIface, .bool false]) := by
  intro dst ty pos aft gd e x xT hx
  rcases h with ⟨_, rfl⟩ | ⟨_, _, _, _, _, _, _, _, _, rfl, _⟩ | ⟨_, _, _, _, rfl, _⟩
  · exact asIs c hx
  · exact Pur.tas Try.underlying188 (by kernel_rfl) (by kernel_rfl) hx
  · exact Pur.tas Try.underlying188 (by kernel_rfl) (by kernel_rfl) hx
theorem Kd.un {H : Heap} {v : Value} {c : Int} {k : Nat} (h : Kd H v c k) : ∀ {dst ty pos aft gd} {e : Env} {x : Operand} {xT : TypeId} (_ : ev e x = some v), Pur Try.prog ⟨dst, .typeAssert x xT 191 true, ty, pos, aft, gd⟩ e (.tuple #[if k = 2 then v else .nilIface, .bool (decide (k = 2))]) := by
  intro dst ty pos aft gd e x xT hx
  rcases h with ⟨rfl, rfl⟩ | ⟨rfl, _, _, _, _, _, _, _, _, rfl, _⟩ | ⟨rfl, _, _, _, rfl, _⟩
  · exact asUn c hx
  · exact Pur.tas Try.underlying191 (by kernel_rfl) (by kernel_rfl) hx
  · exact Pur.taH Try.underlying191 (by kernel_rfl) hx
theorem Kd.us {H : Heap} {v : Value} {c : Int} {k : Nat} (h : Kd H v c k) (h2 : k ≠ 2) : ∀ {dst ty pos aft gd} {e : Env} {x : Operand} {xT : TypeId} (_ : ev e x = some v), Pur Try.prog ⟨dst, .typeAssert x xT 193 true, ty, pos, aft, gd⟩ e (.tuple #[if k = 1 then v else .nilIface, .bool (decide (k = 1))]) := by
  intro dst ty pos aft gd e x xT hx
  rcases h with ⟨rfl, rfl⟩ | ⟨rfl, _, _, _, _, _, _, _, _, rfl, _⟩ | ⟨rfl, _⟩
  · exact asUs c hx
  · exact Pur.taH Try.underlying193 (by kernel_rfl) hx
  · exact (h2 rfl).elim
theorem Kd.eq {H : Heap} {v : Value} {c : Int} {k : Nat} (h : Kd H v c k) (n : Int) : ∀ {dst ty pos aft gd} {e : Env} {x y : Operand} {t' : TypeId} (_ : ev e x = some v) (_ : ev e y = some (eN n)), Pur Try.prog ⟨dst, .binOp .eql 107 x y t', ty, pos, aft, gd⟩ e (.bool (decide (k = 0 ∧ c = n))) := by
  intro dst ty pos aft gd e x y t' hx hy
  rcases h with ⟨rfl, rfl⟩ | ⟨rfl, _, _, _, _, _, _, _, _, rfl, _⟩ | ⟨rfl, _, _, _, rfl, _⟩
  · have := Pur.eqI (P := Try.prog) (dst := dst) (ty := ty) (pos := pos) (aft := aft) (gd := gd) (t' := t') (tx := 31) (k := .i64) (some c) (some n) isIf_err intC_err hx hy (by simp)
    have e1 : decide (some c = some n) = decide (0 = 0 ∧ c = n) := by simp
    rw [e1] at this
    exact this
  · have := Pur.eqD (P := Try.prog) (dst := dst) (ty := ty) (pos := pos) (aft := aft) (gd := gd) (t' := t') isIf_err hx hy (by decide)
    exact this
  · have := Pur.eqD (P := Try.prog) (dst := dst) (ty := ty) (pos := pos) (aft := aft) (gd := gd) (t' := t') isIf_err hx hy (by decide)
    exact this
theorem EIn.kd {H : Heap} {w : Value} {c : Int} (h : EIn H w c) : ∃ k, k < 2 ∧ Kd H w c k := by
  rcases h with h | h
  · exact ⟨0, by decide, .inl ⟨rfl, h⟩⟩
  · exact ⟨1, by decide, .inr (.inl ⟨rfl, h⟩)⟩
theorem EIn.ifc {H : Heap} {w : Value} {c : Int} (h : EIn H w c) : ∃ t v, w = .iface t v := by
  rcases h with h | ⟨d, _, _, _, _, _, _, _, h, _⟩
  · exact ⟨_, _, h⟩
  · exact ⟨_, _, h⟩
theorem join_at {cs : List Value} {c d : Int} (h : cs.take 2 = [eN c, eN d]) {i : Nat} (hi : i < 2) : cs[0 + (i : Int).toNat * 1]? = some (eN ([c, d].getD i 0)) := by
  have h1 := congrArg (fun l => l[i]?) h
  simp only [List.getElem?_take, hi, if_true] at h1
  rw [Int.toNat_natCast, Nat.zero_add, Nat.mul_one, h1]
  match i, hi with
  | 0, _ => rfl
  | 1, _ => rfl
theorem isK_ok {v : Value} {c n : Int} {H : Heap} {k : Nat} (hn : n = 1001 ∨ n = 1002 ∨ n = 1003) (hk : Kd H v c k) : Ret Try.prog 97 [v, eN n, .bool true] H (fun r H' => r = .bool (decide (c = n)) ∧ H' = H) := by
  refine Ret.of_at (N := 54) Try.call97 Try.func97 rfl rfl rfl ?_
  have hE := Ext.refl H
  refine At.region rfl rfl ?_
  refine Reg.pur rfl rfl rfl rfl (Pur.asg rfl) ?_
  refine Reg.nil ?_
  refine At.loop (σ := Value × Nat) (fun (x, k) => [(0, x), (1, eN n), (2, .bool true)]) (fun (x, k) H' => H' = H ∧ Kd H x c k) (fun (x, k) => k) (v, k) rfl ⟨rfl, rfl, rfl, trivial⟩ ⟨rfl, hk⟩ ?_
  clear hk
  rintro ⟨x, k⟩ H ⟨rfl, hk⟩ ih
  dsimp only at hk ⊢
  refine At.region rfl rfl ?_
  refine Reg.pur rfl rfl rfl rfl (Pur.mv rfl) ?_
  refine Reg.pur rfl rfl rfl rfl (Pur.mv rfl) ?_
  refine Reg.known (b' := true) 15 rfl rfl ?_
  refine Reg.gpur rfl rfl rfl rfl rfl rfl (Pur.mv rfl) ?_
  refine Reg.gpur rfl rfl rfl rfl rfl rfl (Pur.mv rfl) ?_
  refine Reg.gpur rfl rfl rfl rfl rfl rfl (hk.eq n rfl rfl) ?_
  refine Reg.pur rfl rfl rfl rfl (Pur.pickT rfl rfl) ?_
  refine Reg.nil ?_
  refine At.cond rfl rfl (fun q19 => ?_) (fun q19 => ?_)
  · first | (simp only [decide_eq_true_eq, decide_eq_false_iff_not, Bool.not_eq_true', Bool.not_eq_false', ne_eq, Decidable.not_not, Bool.not_eq_true, Bool.not_eq_false] at q19) | (dsimp only at q19) | skip
    refine At.region rfl rfl ?_
    refine Reg.pur rfl rfl rfl rfl (Pur.asg rfl) ?_
    refine Reg.nil ?_
    refine At.ret rfl Try.func97 rfl ?_
    exact ⟨congrArg Value.bool (by simp [q19]), rfl⟩
  first | (simp only [decide_eq_true_eq, decide_eq_false_iff_not, Bool.not_eq_true', Bool.not_eq_false', ne_eq, Decidable.not_not, Bool.not_eq_true, Bool.not_eq_false] at q19) | (dsimp only at q19) | skip
  refine At.region rfl rfl ?_
  refine Reg.pur rfl rfl rfl rfl (Pur.mv rfl) ?_
  refine Reg.pur rfl rfl rfl rfl (hk.is rfl) ?_
  refine Reg.pur rfl rfl rfl rfl (Pur.mv rfl) ?_
  refine Reg.pur rfl rfl rfl rfl (Pur.ext rfl rfl) ?_
  refine Reg.pur rfl rfl rfl rfl (Pur.ext rfl rfl) ?_
  refine Reg.pur rfl rfl rfl rfl (Pur.asg rfl) ?_
  refine Reg.pur rfl rfl rfl rfl (Pur.asg rfl) ?_
  refine Reg.nil ?_
  refine At.region rfl rfl ?_
  refine Reg.pur rfl rfl rfl rfl (Pur.mv rfl) ?_
  refine Reg.pur rfl rfl rfl rfl (Pur.mv rfl) ?_
  refine Reg.known (b' := false) 26 rfl rfl ?_
  refine Reg.skip rfl rfl rfl rfl rfl rfl rfl ?_
  refine Reg.skip rfl rfl rfl rfl rfl rfl rfl ?_
  refine Reg.skip rfl rfl rfl rfl rfl rfl rfl ?_
  refine Reg.pur rfl rfl rfl rfl (Pur.pickF rfl rfl) ?_
  refine Reg.nil ?_
  refine At.condF rfl rfl rfl ?_
  refine At.region rfl rfl ?_
  refine Reg.pur rfl rfl rfl rfl (Pur.mv rfl) ?_
  refine Reg.nil ?_
  refine At.region rfl rfl ?_
  refine Reg.pur rfl rfl rfl rfl (hk.un rfl) ?_
  refine Reg.pur rfl rfl rfl rfl (Pur.ext rfl rfl) ?_
  refine Reg.pur rfl rfl rfl rfl (Pur.ext rfl rfl) ?_
  refine Reg.nil ?_
  refine At.cond rfl rfl (fun q33 => ?_) (fun q33 => ?_)
  · first | (simp only [decide_eq_true_eq, decide_eq_false_iff_not, Bool.not_eq_true', Bool.not_eq_false', ne_eq, Decidable.not_not, Bool.not_eq_true, Bool.not_eq_false] at q33) | (dsimp only at q33) | skip
    obtain rfl : k = 2 := q33
    obtain ⟨pb, s, w, rfl, hpb, hin⟩ : PrtV H x c := by { rcases hk with ⟨h, _⟩ | ⟨h, _⟩ | ⟨_, h⟩; cases h; cases h; exact h }
    obtain ⟨k', hk2, hkd⟩ := hin.kd
    obtain ⟨wt, wv, rfl⟩ := hin.ifc
    refine At.region rfl rfl ?_
    refine Reg.pur rfl rfl rfl rfl (Pur.asg rfl) ?_
    refine Reg.nil ?_
    refine At.region rfl rfl ?_
    refine Reg.pur rfl rfl rfl rfl (Pur.mv rfl) ?_
    refine Reg.op rfl rfl rfl rfl (Does.inv (xs := []) (vs := []) (us := [ptr pb 0]) rfl rfl (fun w ↦ mP _ w) (unwrapP_ok hpb rfl)) ?_
    rintro _ H ⟨rfl, rfl⟩
    refine Reg.pur rfl rfl rfl rfl (Pur.asg rfl) ?_
    refine Reg.nil ?_
    refine At.region rfl rfl ?_
    refine Reg.pur rfl rfl rfl rfl (Pur.mv rfl) ?_
    refine Reg.pur rfl rfl rfl rfl (Pur.eqNil isIf_err rfl rfl) ?_
    refine Reg.nil ?_
    refine At.condF rfl rfl rfl ?_
    exact At.meets rfl (ih (.iface wt wv, k') _ ⟨rfl, hkd⟩ hk2) ⟨rfl, rfl, rfl, trivial⟩
  first | (simp only [decide_eq_true_eq, decide_eq_false_iff_not, Bool.not_eq_true', Bool.not_eq_false', ne_eq, Decidable.not_not, Bool.not_eq_true, Bool.not_eq_false] at q33) | (dsimp only at q33) | skip
  refine At.region rfl rfl ?_
  refine Reg.pur rfl rfl rfl rfl (hk.us q33 rfl) ?_
  refine Reg.pur rfl rfl rfl rfl (Pur.ext rfl rfl) ?_
  refine Reg.pur rfl rfl rfl rfl (Pur.ext rfl rfl) ?_
  refine Reg.nil ?_
  refine At.cond rfl rfl (fun q40 => ?_) (fun q40 => ?_)
  · first | (simp only [decide_eq_true_eq, decide_eq_false_iff_not, Bool.not_eq_true', Bool.not_eq_false', ne_eq, Decidable.not_not, Bool.not_eq_true, Bool.not_eq_false] at q40) | (dsimp only at q40) | skip
    obtain rfl : k = 1 := q40
    obtain ⟨d, hd1, hd2, hd3, jb, eb, cap, cs, rfl, hjb, heb, hcs⟩ : ∃ d, d ≠ 1001 ∧ d ≠ 1002 ∧ d ≠ 1003 ∧ JoV H x c d := by { rcases hk with ⟨h, _⟩ | ⟨_, h⟩ | ⟨h, _⟩; cases h; exact h; cases h }
    refine At.region rfl rfl ?_
    refine Reg.pur rfl rfl rfl rfl (Pur.asg rfl) ?_
    refine Reg.nil ?_
    refine At.region rfl rfl ?_
    refine Reg.pur rfl rfl rfl rfl (Pur.mv rfl) ?_
    refine Reg.op rfl rfl rfl rfl (Does.inv (xs := []) (vs := []) (us := [ptr jb 0]) rfl rfl (fun w ↦ mJ _ w) (unwrapJ_ok hjb)) ?_
    rintro _ H ⟨rfl, rfl⟩
    refine Reg.pur rfl rfl rfl rfl (Pur.lenS isl194 rfl) ?_
    refine Reg.pur rfl rfl rfl rfl (Pur.mv rfl) ?_
    refine Reg.nil ?_
    refine At.loop (σ := Nat) (fun i => [(45, I i), (44, I (2 : Nat)), (43, .slice (some ⟨eb, 0, none⟩) 2 cap), (1, eN n), (2, .bool true)]) (fun i H' => H' = H ∧ i ≤ 2 ∧ (1 ≤ i → c ≠ n)) (fun i => 2 - i) 0 rfl ⟨rfl, rfl, rfl, rfl, rfl, trivial⟩ ⟨rfl, by omega, by omega⟩ ?_
    clear ih
    rintro i H ⟨rfl, hi, hci⟩ ih
    refine At.region rfl rfl ?_
    refine Reg.pur rfl rfl rfl rfl (Pur.lss rfl rfl) ?_
    refine Reg.nil ?_
    refine At.cond rfl rfl (fun q46 => ?_) (fun q46 => ?_)
    · first | (simp only [decide_eq_true_eq, decide_eq_false_iff_not, Bool.not_eq_true', Bool.not_eq_false', ne_eq, Decidable.not_not, Bool.not_eq_true, Bool.not_eq_false] at q46) | (dsimp only at q46) | skip
      have hi2 : i < 2 := by omega
      have hce : cs[0 + (i : Int).toNat * 1]? = some (eN ([c, d].getD i 0)) := join_at hcs hi2
      refine At.region rfl rfl ?_
      refine Reg.pur rfl rfl rfl rfl (Pur.idx _ es194 rfl rfl (by omega) (by omega)) ?_
      refine Reg.lod rfl rfl rfl rfl (Lod.ld sc107 rfl heb hce) ?_
      refine Reg.pur rfl rfl rfl rfl (Pur.asg rfl) ?_
      refine Reg.nil ?_
      refine At.region rfl rfl ?_
      refine Reg.pur rfl rfl rfl rfl (Pur.mv rfl) ?_
      refine Reg.pur rfl rfl rfl rfl (Pur.mv rfl) ?_
      refine Reg.pur rfl rfl rfl rfl (Pur.mv rfl) ?_
      refine Reg.op rfl rfl rfl rfl (Does.call rfl (is_ok _ n _)) ?_
      rintro _ H ⟨rfl, rfl⟩
      refine Reg.nil ?_
      refine At.cond rfl rfl (fun q52 => ?_) (fun q52 => ?_)
      · first | (simp only [decide_eq_true_eq, decide_eq_false_iff_not, Bool.not_eq_true', Bool.not_eq_false', ne_eq, Decidable.not_not, Bool.not_eq_true, Bool.not_eq_false] at q52) | (dsimp only at q52) | skip
        refine At.region rfl rfl ?_
        refine Reg.pur rfl rfl rfl rfl (Pur.asg rfl) ?_
        refine Reg.nil ?_
        refine At.ret rfl Try.func97 rfl ?_
        exact ⟨congrArg Value.bool (by symm; rw [decide_eq_true_eq]; match i, hi2, q52 with | 0, _, q => exact q | 1, _, q => (change d = n at q; omega)), rfl⟩
      first | (simp only [decide_eq_true_eq, decide_eq_false_iff_not, Bool.not_eq_true', Bool.not_eq_false', ne_eq, Decidable.not_not, Bool.not_eq_true, Bool.not_eq_false] at q52) | (dsimp only at q52) | skip
      refine At.region rfl rfl ?_
      first | refine Reg.pur rfl rfl rfl rfl (Pur.add64 rfl rfl (by omega)) ?_ | refine Reg.pur rfl rfl rfl rfl (Pur.add64 rfl rfl (by assumption)) ?_ | refine Reg.pur rfl rfl rfl rfl (Pur.add rfl rfl) ?_
      refine Reg.pur rfl rfl rfl rfl (Pur.mv rfl) ?_
      refine Reg.nil ?_
      have hci' : c ≠ n := by { intro hcn; match i, hi2, q52, hci with | 0, _, q, _ => exact q hcn | 1, _, _, h => exact h (Nat.le_refl 1) hcn }
      exact At.via (ih (i + 1) _ ⟨rfl, by omega, fun _ => hci'⟩ (by omega)) ⟨rfl, rfl, rfl, rfl, rfl, trivial⟩
    first | (simp only [decide_eq_true_eq, decide_eq_false_iff_not, Bool.not_eq_true', Bool.not_eq_false', ne_eq, Decidable.not_not, Bool.not_eq_true, Bool.not_eq_false] at q46) | (dsimp only at q46) | skip
    refine At.region rfl rfl ?_
    refine Reg.pur rfl rfl rfl rfl (Pur.asg rfl) ?_
    refine Reg.nil ?_
    refine At.ret rfl Try.func97 rfl ?_
    exact ⟨congrArg Value.bool (by symm; rw [decide_eq_false_iff_not]; exact hci (by omega)), rfl⟩
  first | (simp only [decide_eq_true_eq, decide_eq_false_iff_not, Bool.not_eq_true', Bool.not_eq_false', ne_eq, Decidable.not_not, Bool.not_eq_true, Bool.not_eq_false] at q40) | (dsimp only at q40) | skip
  refine At.region rfl rfl ?_
  refine Reg.pur rfl rfl rfl rfl (Pur.asg rfl) ?_
  refine Reg.nil ?_
  refine At.region rfl rfl ?_
  refine Reg.pur rfl rfl rfl rfl (Pur.asg rfl) ?_
  refine Reg.nil ?_
  refine At.ret rfl Try.func97 rfl ?_
  have hk0 : k = 0 := by { rcases hk with ⟨h, _⟩ | ⟨h, _⟩ | ⟨h, _⟩; exact h; exact (q40 h).elim; exact (q33 h).elim }
  exact ⟨congrArg Value.bool (by symm; rw [decide_eq_false_iff_not]; exact fun e => q19 ⟨hk0, e⟩), rfl⟩
end Go.Proofs.Ytlfillhffpiffaa

namespace Go.Proofs.Ytlfillhffpiffaa
set_option linter.unusedSimpArgs false
set_option linter.unusedVariables false
set_option maxRecDepth 8000
open Go Go.Fx Go.Proofs
namespace FactsUniF
theorem apt194 : appT Try.prog 194 = some (107, 1, 16) := by kernel_rfl
theorem es158 : esz Try.prog 158 = some 1 := by kernel_rfl
theorem es194 : esz Try.prog 194 = some 1 := by kernel_rfl
theorem fo216_0 : foff Try.prog 216 0 = some 0 := by kernel_rfl
theorem isl158 : isSl Try.prog 158 = true := by kernel_rfl
theorem isl194 : isSl Try.prog 194 = true := by kernel_rfl
theorem mkT194 : mkT Try.prog 194 = some (107, .nilIface, 16) := by kernel_rfl
theorem pl216 : places Try.prog 216 = some [(0, 1)] := by kernel_rfl
theorem sc107 : sc Try.prog 107 = true := by kernel_rfl
theorem sc194 : sc Try.prog 194 = true := by kernel_rfl
theorem sc31 : sc Try.prog 31 = true := by kernel_rfl
theorem sl1_158 : sl1 Try.prog 158 = true := by kernel_rfl
theorem sl1_194 : sl1 Try.prog 194 = true := by kernel_rfl
theorem zc216 : zc Try.prog 216 = some [.slice none 0 0] := by kernel_rfl
end FactsUniF
open FactsUniF

theorem isErr_ok {v : Value} {o : Option Int} {n : Int} {H : Heap} (hn : n = 1001 ∨ n = 1002 ∨ n = 1003) (h : ErrV H v o) : Ret Try.prog 70 [v, eN n] H (fun r H' => r = .bool (decide (o = some n)) ∧ H' = H) := by
  cases o with
  | none =>
    obtain rfl : v = .nilIface := h
    exact errorsIs_ok none n H
  | some c =>
    have hk : Kd H v c 2 := .inr (.inr ⟨rfl, h.1⟩)
    obtain ⟨pb, s, w, rfl, _, _⟩ := h.1
    refine Ret.of_at (N := 22) Try.call70 Try.func70 rfl rfl rfl ?_
    have hE := Ext.refl H
    refine At.region rfl rfl ?_
    refine Reg.pur rfl rfl rfl rfl (Pur.asg rfl) ?_
    refine Reg.nil ?_
    refine At.region rfl rfl ?_
    refine Reg.pur rfl rfl rfl rfl (Pur.mv rfl) ?_
    refine Reg.pur rfl rfl rfl rfl (Pur.eqNil isIf_err rfl rfl) ?_
    refine Reg.pur rfl rfl rfl rfl (Pur.mv rfl) ?_
    refine Reg.known (b' := false) 8 rfl rfl ?_
    refine Reg.gpur rfl rfl rfl rfl rfl rfl (Pur.mv rfl) ?_
    refine Reg.gpur rfl rfl rfl rfl rfl rfl (Pur.eqI (some n) none isIf_err intC_err rfl rfl rfl) ?_
    refine Reg.pur rfl rfl rfl rfl (Pur.pickF rfl rfl) ?_
    refine Reg.nil ?_
    refine At.condF rfl rfl (by simp) ?_
    refine At.region rfl rfl ?_
    refine Reg.pur rfl rfl rfl rfl (Pur.mv rfl) ?_
    refine Reg.pur rfl rfl rfl rfl (Pur.callX rfl (ty_of n)) ?_
    refine Reg.pur rfl rfl rfl rfl (Pur.invX rfl ty_comp) ?_
    refine Reg.pur rfl rfl rfl rfl (Pur.asg rfl) ?_
    refine Reg.nil ?_
    refine At.region rfl rfl ?_
    refine Reg.pur rfl rfl rfl rfl (Pur.mv rfl) ?_
    refine Reg.pur rfl rfl rfl rfl (Pur.mv rfl) ?_
    refine Reg.pur rfl rfl rfl rfl (Pur.mv rfl) ?_
    refine Reg.op rfl rfl rfl rfl (Does.call rfl (isK_ok hn hk)) ?_
    rintro _ H ⟨rfl, rfl⟩
    refine Reg.pur rfl rfl rfl rfl (Pur.asg rfl) ?_
    refine Reg.nil ?_
    refine At.ret rfl Try.func70 rfl ?_
    exact ⟨congrArg Value.bool (by simp), rfl⟩
abbrev toL : List Int := [1001, 1002, 1003]
theorem told_ok {v : Value} {o : Option Int} {H : Heap} (h : ErrV H v o) : Ret Try.prog 76 [v] H (fun r H' => r = I (o.getD 0) ∧ Ext H H') := by
  refine Ret.of_at (N := 17) Try.call76 Try.func76 rfl rfl rfl ?_
  have hE := Ext.refl H
  refine At.region rfl rfl ?_
  refine Reg.pur rfl rfl rfl rfl (Pur.asg rfl) ?_
  refine Reg.nil ?_
  refine At.region rfl rfl ?_
  refine Reg.op rfl rfl rfl rfl (Does.bsl1T sl1_158 Try.underlying158 rfl rfl rfl rfl rfl) ?_
  rintro _ H1_0 ⟨rfl, hp1_0⟩
  have hn1_0 := New.of_eq hp1_0
  have z1_0 := hn1_0.size
  replace hE := hE.ext hn1_0.ext
  have o1_0 := hn1_0.own
  refine Reg.pur rfl rfl rfl rfl (Pur.lenS isl158 rfl) ?_
  refine Reg.pur rfl rfl rfl rfl (Pur.mv rfl) ?_
  refine Reg.nil ?_
  refine At.loop (σ := Nat) (fun i => [(7, I i), (6, I (3 : Nat)), (5, .slice (some ⟨H.size, 0, none⟩) 3 3), (0, v)]) (fun i H' => i ≤ 3 ∧ Own H' H.size (Is toL) ∧ Ext H H' ∧ ∀ j, j < i → o ≠ some (toL.getD j 0)) (fun i => 3 - i) 0 rfl ⟨rfl, rfl, rfl, rfl, trivial⟩ ⟨by omega, o1_0, hE, fun j hj => by omega⟩ ?_
  rintro i H3 ⟨hi, ho, hE, hj⟩ ih
  have z_hE := hE.lt
  have z_ho := ho.lt
  refine At.region rfl rfl ?_
  refine Reg.pur rfl rfl rfl rfl (Pur.lss rfl rfl) ?_
  refine Reg.nil ?_
  refine At.cond rfl rfl (fun q8 => ?_) (fun q8 => ?_)
  · first | (simp only [decide_eq_true_eq, decide_eq_false_iff_not, Bool.not_eq_true', Bool.not_eq_false', ne_eq, Decidable.not_not, Bool.not_eq_true, Bool.not_eq_false] at q8) | (dsimp only at q8) | skip
    have hi3 : i < 3 := by omega
    have hat : (Is toL)[0 + (i : Int).toNat * 1]? = some (I (toL.getD i 0)) := by rw [Int.toNat_natCast, Nat.zero_add, Nat.mul_one]; exact at_Is hi3
    have hn : toL.getD i 0 = 1001 ∨ toL.getD i 0 = 1002 ∨ toL.getD i 0 = 1003 := match i, hi3 with | 0, _ => .inl rfl | 1, _ => .inr (.inl rfl) | 2, _ => .inr (.inr rfl)
    refine At.region rfl rfl ?_
    refine Reg.pur rfl rfl rfl rfl (Pur.idx _ es158 rfl rfl (by omega) (by omega)) ?_
    refine Reg.lod rfl rfl rfl rfl (Lod.ld sc31 rfl ho.blk hat) ?_
    refine Reg.pur rfl rfl rfl rfl (Pur.asg rfl) ?_
    refine Reg.nil ?_
    refine At.region rfl rfl ?_
    refine Reg.pur rfl rfl rfl rfl (Pur.mv rfl) ?_
    refine Reg.pur rfl rfl rfl rfl (Pur.mv rfl) ?_
    refine Reg.pur rfl rfl rfl rfl (Pur.mki (by kernel_rfl) rfl) ?_
    refine Reg.op rfl rfl rfl rfl (Does.call rfl (isErr_ok hn (h.ext hE))) ?_
    rintro _ H3 ⟨rfl, rfl⟩
    refine Reg.nil ?_
    refine At.cond rfl rfl (fun q14 => ?_) (fun q14 => ?_)
    · first | (simp only [decide_eq_true_eq, decide_eq_false_iff_not, Bool.not_eq_true', Bool.not_eq_false', ne_eq, Decidable.not_not, Bool.not_eq_true, Bool.not_eq_false] at q14) | (dsimp only at q14) | skip
      refine At.region rfl rfl ?_
      refine Reg.pur rfl rfl rfl rfl (Pur.mv rfl) ?_
      refine Reg.pur rfl rfl rfl rfl (Pur.asg rfl) ?_
      refine Reg.nil ?_
      refine At.ret rfl Try.func76 rfl ?_
      exact ⟨by rw [q14]; rfl, hE⟩
    first | (simp only [decide_eq_true_eq, decide_eq_false_iff_not, Bool.not_eq_true', Bool.not_eq_false', ne_eq, Decidable.not_not, Bool.not_eq_true, Bool.not_eq_false] at q14) | (dsimp only at q14) | skip
    refine At.region rfl rfl ?_
    first | refine Reg.pur rfl rfl rfl rfl (Pur.add64 rfl rfl (by omega)) ?_ | refine Reg.pur rfl rfl rfl rfl (Pur.add64 rfl rfl (by assumption)) ?_ | refine Reg.pur rfl rfl rfl rfl (Pur.add rfl rfl) ?_
    refine Reg.pur rfl rfl rfl rfl (Pur.mv rfl) ?_
    refine Reg.nil ?_
    refine At.via (ih (i + 1) _ ⟨by omega, ho, hE, fun j hj' => ?_⟩ (by omega)) ⟨rfl, rfl, rfl, rfl, trivial⟩
    by_cases hji : j = i
    · subst hji; exact q14
    · exact hj j (by omega)
  first | (simp only [decide_eq_true_eq, decide_eq_false_iff_not, Bool.not_eq_true', Bool.not_eq_false', ne_eq, Decidable.not_not, Bool.not_eq_true, Bool.not_eq_false] at q8) | (dsimp only at q8) | skip
  refine At.region rfl rfl ?_
  refine Reg.pur rfl rfl rfl rfl (Pur.asg rfl) ?_
  refine Reg.nil ?_
  refine At.ret rfl Try.func76 rfl ?_
  obtain rfl : i = 3 := by omega
  refine ⟨?_, hE⟩
  cases o with
  | none => rfl
  | some c =>
    have h0 := hj 0 (by omega)
    have h1 := hj 1 (by omega)
    have h2 := hj 2 (by omega)
    obtain ⟨_, hc⟩ := h
    rcases hc with rfl | rfl | rfl
    · exact (h0 rfl).elim
    · exact (h1 rfl).elim
    · exact (h2 rfl).elim
abbrev eE (c : Int) : List Value := [eN c]
theorem wE {L : List Int} : Wide eE 1 L := fun _ _ => rfl
theorem join_ok {eb : Nat} {c d : Int} {H : Heap} (hb : Own H eb [eN c, eN d]) : Ret Try.prog 133 [.slice (some ⟨eb, 0, none⟩) 2 2] H (fun v H' => JoV H' v c d ∧ Ext H H') := by
  refine Ret.of_at (N := 47) Try.call133 Try.func133 rfl rfl rfl ?_
  have hE := Ext.refl H
  have z_hE := hE.lt
  have z_hb := hb.lt
  refine At.region rfl rfl ?_
  refine Reg.pur rfl rfl rfl rfl (Pur.asg rfl) ?_
  refine Reg.nil ?_
  refine At.region rfl rfl ?_
  refine Reg.pur rfl rfl rfl rfl (Pur.asg rfl) ?_
  refine Reg.nil ?_
  refine At.region rfl rfl ?_
  refine Reg.pur rfl rfl rfl rfl (Pur.mv rfl) ?_
  refine Reg.pur rfl rfl rfl rfl (Pur.lenS isl194 rfl) ?_
  refine Reg.pur rfl rfl rfl rfl (Pur.mv rfl) ?_
  refine Reg.nil ?_
  refine At.loop (σ := Nat) (fun i => [(11, I i), (10, I (2 : Nat)), (9, .slice (some ⟨eb, 0, none⟩) 2 2), (3, I i), (0, .slice (some ⟨eb, 0, none⟩) 2 2)]) (fun i H' => i ≤ 2 ∧ H' = H) (fun i => 2 - i) 0 rfl ⟨rfl, rfl, rfl, rfl, rfl, trivial⟩ ⟨by omega, rfl⟩ ?_
  rintro i H ⟨hi, rfl⟩ ih
  refine At.region rfl rfl ?_
  refine Reg.pur rfl rfl rfl rfl (Pur.lss rfl rfl) ?_
  refine Reg.nil ?_
  refine At.cond rfl rfl (fun q12 => ?_) (fun q12 => ?_)
  · first | (simp only [decide_eq_true_eq, decide_eq_false_iff_not, Bool.not_eq_true', Bool.not_eq_false', ne_eq, Decidable.not_not, Bool.not_eq_true, Bool.not_eq_false] at q12) | (dsimp only at q12) | skip
    have hi2 : i < 2 := by omega
    refine At.region rfl rfl ?_
    refine Reg.pur rfl rfl rfl rfl (Pur.idx _ es194 rfl rfl (by omega) (by omega)) ?_
    refine Reg.lod rfl rfl rfl rfl (Lod.ld sc107 rfl hb.blk (join_at (cs := [eN c, eN d]) rfl hi2)) ?_
    refine Reg.pur rfl rfl rfl rfl (Pur.asg rfl) ?_
    refine Reg.nil ?_
    refine At.region rfl rfl ?_
    refine Reg.pur rfl rfl rfl rfl (Pur.mv rfl) ?_
    refine Reg.pur rfl rfl rfl rfl (Pur.neNil isIf_err rfl rfl) ?_
    refine Reg.nil ?_
    refine At.condT rfl rfl rfl ?_
    refine At.region rfl rfl ?_
    refine Reg.pur rfl rfl rfl rfl (Pur.mv rfl) ?_
    first | refine Reg.pur rfl rfl rfl rfl (Pur.add64 rfl rfl (by omega)) ?_ | refine Reg.pur rfl rfl rfl rfl (Pur.add64 rfl rfl (by assumption)) ?_ | refine Reg.pur rfl rfl rfl rfl (Pur.add rfl rfl) ?_
    refine Reg.pur rfl rfl rfl rfl (Pur.asg rfl) ?_
    refine Reg.nil ?_
    refine At.region rfl rfl ?_
    first | refine Reg.pur rfl rfl rfl rfl (Pur.add64 rfl rfl (by omega)) ?_ | refine Reg.pur rfl rfl rfl rfl (Pur.add64 rfl rfl (by assumption)) ?_ | refine Reg.pur rfl rfl rfl rfl (Pur.add rfl rfl) ?_
    refine Reg.pur rfl rfl rfl rfl (Pur.mv rfl) ?_
    refine Reg.nil ?_
    exact At.via (ih (i + 1) _ ⟨by omega, rfl⟩ (by omega)) ⟨rfl, rfl, rfl, rfl, rfl, trivial⟩
  first | (simp only [decide_eq_true_eq, decide_eq_false_iff_not, Bool.not_eq_true', Bool.not_eq_false', ne_eq, Decidable.not_not, Bool.not_eq_true, Bool.not_eq_false] at q12) | (dsimp only at q12) | skip
  obtain rfl : i = 2 := by omega
  clear ih
  refine At.region rfl rfl ?_
  refine Reg.pur rfl rfl rfl rfl (Pur.mv rfl) ?_
  refine Reg.pur rfl rfl rfl rfl (Pur.eql rfl rfl) ?_
  refine Reg.nil ?_
  refine At.condF rfl rfl rfl ?_
  refine At.region rfl rfl ?_
  refine Reg.pur rfl rfl rfl rfl (Pur.mv rfl) ?_
  refine Reg.op rfl rfl rfl rfl (Does.mkc (m := 0) (n := 2) mkT194 rfl rfl (by decide) (by decide) (by decide)) ?_
  rintro _ H10_1 ⟨rfl, hp10_1⟩
  have hn10_1 := New.of_eq hp10_1
  have z10_1 := hn10_1.size
  replace hE := hE.ext hn10_1.ext
  replace hb := hb.ext hn10_1.ext
  have o10_1 := hn10_1.own
  have hg : Gs H10_1 H.size 107 1 (some ⟨H.size, 0, none⟩) 2 ([] : List Int).length (([] : List Int).flatMap eE) := ⟨rfl, .inr ⟨H.size, 2, #[Value.nilIface, Value.nilIface], rfl, Nat.le_refl _, by rw [hp10_1]; simp, by decide, by decide, rfl, rfl⟩⟩
  refine Reg.pur rfl rfl rfl rfl (Pur.bld (cs := [_]) pl216 zc216 rfl rfl ⟨rfl, rfl⟩) ?_
  have z_hg := hg.lt

  refine Reg.op rfl rfl rfl rfl (Does.box rfl rfl) ?_
  rintro _ H10_3 ⟨rfl, hn10_3⟩
  have z10_3 := hn10_3.size
  replace hE := hE.ext hn10_3.ext
  replace hb := hb.ext hn10_3.ext
  replace hg := hg.ext hn10_3.ext
  have o10_3 := hn10_3.own
  refine Reg.pur rfl rfl rfl rfl (Pur.asg rfl) ?_
  refine Reg.nil ?_
  refine At.region rfl rfl ?_
  refine Reg.pur rfl rfl rfl rfl (Pur.mv rfl) ?_
  refine Reg.pur rfl rfl rfl rfl (Pur.lenS isl194 rfl) ?_
  refine Reg.pur rfl rfl rfl rfl (Pur.mv rfl) ?_
  refine Reg.nil ?_
  refine At.loop (σ := Nat × List Int × Option Addr × Nat) (fun (j, out, A, cap) => [(28, I j), (27, I (2 : Nat)), (26, .slice (some ⟨eb, 0, none⟩) 2 2), (6, ptr H10_1.size 0)]) (fun (j, out, A, cap) H' => j ≤ 2 ∧ out = [c, d].take j ∧ Own H' H10_1.size [.slice A out.length cap] ∧ Gs H' H.size 107 1 A cap out.length (out.flatMap eE) ∧ ob A ≠ H10_1.size ∧ Own H' eb [eN c, eN d] ∧ Ext H H') (fun (j, out, A, cap) => 2 - j) (0, [], some ⟨H.size, 0, none⟩, 2) rfl ⟨rfl, rfl, rfl, rfl, trivial⟩ ⟨by decide, rfl, o10_3, hg, by simp only [ob_some]; omega, hb, hE⟩ ?_
  have hlt2 := New.size hn10_1
  clear hb hE hg o10_3
  rintro ⟨j, out, A, cap⟩ H3 ⟨hj, hout, o10_3, hg, hA, hb, hE⟩ ih
  dsimp only at hj hout o10_3 hg hA ⊢
  have z_hE := hE.lt
  have z_hb := hb.lt
  have z_hg := hg.lt
  have z_o10_3 := o10_3.lt
  refine At.region rfl rfl ?_
  refine Reg.pur rfl rfl rfl rfl (Pur.lss rfl rfl) ?_
  refine Reg.nil ?_
  refine At.cond rfl rfl (fun q29 => ?_) (fun q29 => ?_)
  · first | (simp only [decide_eq_true_eq, decide_eq_false_iff_not, Bool.not_eq_true', Bool.not_eq_false', ne_eq, Decidable.not_not, Bool.not_eq_true, Bool.not_eq_false] at q29) | (dsimp only at q29) | skip
    have hj2 : j < 2 := by omega
    have hol : out.length ≤ 2 := by rw [hout, List.length_take]; omega
    refine At.region rfl rfl ?_
    refine Reg.pur rfl rfl rfl rfl (Pur.idx _ es194 rfl rfl (by omega) (by omega)) ?_
    refine Reg.lod rfl rfl rfl rfl (Lod.ld sc107 rfl hb.blk (join_at (cs := [eN c, eN d]) rfl hj2)) ?_
    refine Reg.pur rfl rfl rfl rfl (Pur.asg rfl) ?_
    refine Reg.nil ?_
    refine At.region rfl rfl ?_
    refine Reg.pur rfl rfl rfl rfl (Pur.mv rfl) ?_
    refine Reg.pur rfl rfl rfl rfl (Pur.neNil isIf_err rfl rfl) ?_
    refine Reg.nil ?_
    refine At.condT rfl rfl rfl ?_
    refine At.region rfl rfl ?_
    refine Reg.pur rfl rfl rfl rfl (Pur.mv rfl) ?_
    refine Reg.pur rfl rfl rfl rfl (Pur.mv rfl) ?_
    refine Reg.pur rfl rfl rfl rfl (Pur.nilc rfl) ?_
    refine Reg.pur rfl rfl rfl rfl (Pur.fld _ fo216_0 rfl) ?_
    refine Reg.lod rfl rfl rfl rfl (Lod.ld sc194 rfl o10_3.blk (by first | rfl | (simp; done))) ?_
    refine Reg.pur rfl rfl rfl rfl (Pur.mv rfl) ?_
    refine Reg.op rfl rfl rfl rfl (Does.bsl1T sl1_194 Try.underlying194 rfl rfl rfl rfl rfl) ?_
    rintro _ H15_6 ⟨rfl, hp15_6⟩
    have hn15_6 := New.of_eq hp15_6
    have z15_6 := hn15_6.size
    replace hE := hE.ext hn15_6.ext
    replace hb := hb.ext hn15_6.ext
    replace hg := hg.ext hn15_6.ext
    replace o10_3 := o10_3.ext hn15_6.ext
    have o15_6 := hn15_6.own
    refine Reg.op rfl rfl rfl rfl (Does.appL apt194 rfl rfl (by decide) hg wE (sl_new (L := [[c, d].getD j 0]) wE (by decide) hn15_6 (by simp)) rfl (by simp; omega) (by omega)) ?_
    rintro _ H15_7 ⟨A15_7, cap15_7, rfl, g15_7, hbut15_7, ha15_7⟩
    have z15_7 := hbut15_7.lt
    replace hE := hE.via hbut15_7 (by first | omega | (intro g; omega) | (intro g hg; omega) | (intro g hg h; omega))
    replace hb := hb.via hbut15_7 (by first | omega | (intro g; omega) | (intro g hg; omega) | (intro g hg h; omega))
    replace o10_3 := o10_3.via hbut15_7 (by first | omega | (intro g; omega) | (intro g hg; omega) | (intro g hg h; omega))
    replace o15_6 := o15_6.via hbut15_7 (by first | omega | (intro g; omega) | (intro g hg; omega) | (intro g hg h; omega))
    replace hg := g15_7
    have zg15_7 := g15_7.lt
    refine Reg.pur rfl rfl rfl rfl (Pur.nilc rfl) ?_
    refine Reg.pur rfl rfl rfl rfl (Pur.fld _ fo216_0 rfl) ?_
    refine Reg.op0 rfl rfl rfl (Does.st sc194 rfl rfl rfl o10_3 (by first | decide | (simp; done) | (simp; omega) | omega)) ?_
    rintro _ H15_10 hu15_10
    have z15_10 := hu15_10.size
    replace hE := hE.upw hu15_10 (by omega)
    replace hb := hb.upw hu15_10 (by omega)
    replace hg := hg.upw hu15_10 (by omega)
    replace o15_6 := o15_6.upw hu15_10 (by omega)
    replace o10_3 := hu15_10.own
    refine Reg.nil ?_
    refine At.region rfl rfl ?_
    first | refine Reg.pur rfl rfl rfl rfl (Pur.add64 rfl rfl (by omega)) ?_ | refine Reg.pur rfl rfl rfl rfl (Pur.add64 rfl rfl (by assumption)) ?_ | refine Reg.pur rfl rfl rfl rfl (Pur.add rfl rfl) ?_
    refine Reg.pur rfl rfl rfl rfl (Pur.mv rfl) ?_
    refine Reg.nil ?_
    have hnx : [c, d].take (j + 1) = out ++ [[c, d].getD j 0] := by rw [hout]; match j, hj2 with | 0, _ => rfl | 1, _ => rfl
    exact At.via (ih (j + 1, out ++ [[c, d].getD j 0], A15_7, cap15_7) _ ⟨by omega, hnx.symm, o10_3, hg, by omega, hb, hE⟩ (by simp only; omega)) ⟨rfl, rfl, rfl, rfl, trivial⟩
  first | (simp only [decide_eq_true_eq, decide_eq_false_iff_not, Bool.not_eq_true', Bool.not_eq_false', ne_eq, Decidable.not_not, Bool.not_eq_true, Bool.not_eq_false] at q29) | (dsimp only at q29) | skip
  refine At.region rfl rfl ?_
  refine Reg.pur rfl rfl rfl rfl (Pur.mv rfl) ?_
  refine Reg.pur rfl rfl rfl rfl (Pur.mki (by kernel_rfl) rfl) ?_
  refine Reg.pur rfl rfl rfl rfl (Pur.asg rfl) ?_
  refine Reg.nil ?_
  refine At.ret rfl Try.func133 rfl ?_
  obtain rfl : j = 2 := by omega
  have h2 : out = [c, d] := hout
  subst h2
  obtain ⟨g, cs, rfl, hg1, hg2, _⟩ := hg.blk (by simp)
  exact ⟨⟨_, g, cap, cs, rfl, o10_3.blk, hg1.blk, hg2⟩, hE⟩
end Go.Proofs.Ytlfillhffpiffaa

namespace Go.Fx
open Go
set_option linter.unusedSimpArgs false
set_option linter.unusedVariables false
def OwnT (H : Heap) (b : Nat) (c : List Value) (T : TypeId) : Prop := H[b]? = some (.cells c.toArray T (0, 0))
section
variable {P : Program} {dst : Option Tmp} {ty : TypeId} {pos : String} {aft : Array Edge} {gd : Option (Nat × Bool)} {e : Env} {H H' : Heap}
theorem OwnT.own {b : Nat} {c : List Value} {T : TypeId} (h : OwnT H b c T) : Own H b c := ⟨T, h⟩
theorem OwnT.blk {b : Nat} {c : List Value} {T : TypeId} (h : OwnT H b c T) : Blk H b c := h.own.blk
theorem OwnT.lt {b : Nat} {c : List Value} {T : TypeId} (h : OwnT H b c T) : b < H.size := h.own.lt
theorem OwnT.via {S : Nat → Prop} {b : Nat} {c : List Value} {T : TypeId} (h : OwnT H b c T) (he : But S H H') (hs : ¬ S b) : OwnT H' b c T := by
  unfold OwnT; rw [he.2 b h.lt hs]; exact h
theorem OwnT.ext {b : Nat} {c : List Value} {T : TypeId} (h : OwnT H b c T) (he : Ext H H') : OwnT H' b c T := h.via (S := fun _ => False) he.but (fun h => h)
theorem OwnT.upw {b b' : Nat} {c c' : List Value} {T : TypeId} (h : OwnT H b c T) (u : Upd H H' b' c') (hb : b ≠ b') : OwnT H' b c T := h.via u.but hb
theorem setCell_updT (w : World) (H : Heap) (n : Nat) {b o : Nat} {c : List Value} {T : TypeId} (v : Value) (h : OwnT H b c T) :
    ∃ H', (mk w H n).setCell ⟨b, o, none⟩ v = mk w H' n ∧ Upd H H' b (c.set o v) ∧ OwnT H' b (c.set o v) T := by
  have hT : OwnT (((mk w H n).setCell ⟨b, o, none⟩ v).heap) b (c.set o v) T := by
    unfold OwnT at h ⊢
    simp [mk, World.setCell, Array.getElem?_modify, h]
  refine ⟨_, rfl, ⟨?_, hT.own, ?_⟩, hT⟩
  · simp [mk]
  · intro b' hb
    simp only [mk, Array.getElem?_modify]
    rw [if_neg (by omega)]
theorem storeCells_runT (w0 : World) (n b : Nat) (T : TypeId) : ∀ (vs : List Value) (o i : Nat) (c : List Value) (H : Heap), OwnT H b c T → o + i + vs.length ≤ c.length → (∀ v ∈ vs, v.oneCell' = true) →
    ∃ H', (storeCells ⟨b, o, none⟩ vs i).run P (mk w0 H n) = .ok () (mk w0 H' n) ∧ Upd H H' b (c.take (o + i) ++ vs ++ c.drop (o + i + vs.length)) ∧ OwnT H' b (c.take (o + i) ++ vs ++ c.drop (o + i + vs.length)) T
  | [], o, i, c, H, h, _, _ => ⟨H, by simp [storeCells], ⟨rfl, by simpa using h.own, fun _ _ => rfl⟩, by simpa using h⟩
  | v :: vs, o, i, c, H, h, hl, h1 => by
    simp only [List.length_cons] at hl
    obtain ⟨H1, hs1, hu1, ht1⟩ := setCell_updT w0 H n (o := o + i) v h
    have hcell : (mk w0 H n).cell? ⟨b, o + i, none⟩ = some (c[o + i]'(by omega)) := by
      rw [cell_blk rfl h.blk, List.getElem?_eq_getElem]
    have hfr : (mk w0 H n).frozen? ⟨b, o + i, none⟩ = false := frozen_own rfl h.own
    obtain ⟨H2, hs2, hu2, ht2⟩ := storeCells_runT w0 n b T vs o (i + 1) (c.set (o + i) v) H1 ht1 (by simp; omega) (fun u hu => h1 u (List.mem_cons_of_mem _ hu))
    have e1 : (c.set (o + i) v).take (o + (i + 1)) ++ vs ++ (c.set (o + i) v).drop (o + (i + 1) + vs.length) = c.take (o + i) ++ v :: vs ++ c.drop (o + i + (vs.length + 1)) := by
      rw [List.drop_set_of_lt (by omega)]
      rw [show o + (i + 1) = (o + i) + 1 from by omega, List.take_set, List.take_succ_eq_append_getElem (by omega)]
      rw [List.set_append_right _ _ (by simp; omega)]
      simp [show o + i - min (o + i) c.length = 0 from by omega, show o + i + 1 + vs.length = o + i + (vs.length + 1) from by omega]
    rw [e1] at ht2 hu2
    refine ⟨H2, ?_, ⟨hu2.1.trans hu1.1, hu2.2.1, fun b' hb' => (hu2.2.2 b' hb').trans (hu1.2.2 b' hb')⟩, ht2⟩
    simp only [storeCells, Sem.run_bind, add_lit]
    rw [run_store P _ _ _ _ (h1 v List.mem_cons_self)]
    simp only [hcell, hfr, hs1]
    simpa using hs2
theorem Does.stnT {t : TypeId} {x y : Operand} {b o m : Nat} {c vs : List Value} {T : TypeId} (ht : ag P t = some m) (hx : ev e x = some (.pointer (some ⟨b, o, none⟩))) (hy : ev e y = some (.agg vs.toArray)) (h1 : ones vs = true)
    (hl : vs.length = m) (hb : OwnT H b c T) (ho : o + m ≤ c.length) : Does P ⟨dst, .store t x y, ty, pos, aft, gd⟩ e H (fun _ H' => Upd H H' b (c.take o ++ vs ++ c.drop (o + m)) ∧ OwnT H' b (c.take o ++ vs ++ c.drop (o + m)) T) := by
  intro w0 n a hA K Q hK
  subst hl
  obtain ⟨H1, hs1, hu1, ht1⟩ := storeCells_runT (P := P) w0 n b T vs o 0 c H hb (by omega) (fun v hv => by simp only [ones, List.all_eq_true] at h1; exact h1 v hv)
  have hrun : (execOp a.eval ⟨dst, .store t x y, ty, pos, aft, gd⟩).run P (mk w0 H n) = .ok .skip (mk w0 H1 n) := by
    simp only [execOp, hA.ev hx, hA.ev hy, Instr.storeAt, Instr.sureAddr, storeVar, Sem.run_bind, Sem.run_pure, Result.andThen_ok, ag_size ht, Value.cells]
    simp [hs1]
  unfold Oper.wp
  rw [hrun]
  simp only [Nat.add_zero] at hu1 ht1
  exact hK _ H1 n ⟨hu1, ht1⟩
end
end Go.Fx
namespace Go.Proofs.Ytlfillhffpiffaa
set_option linter.unusedSimpArgs false
set_option linter.unusedVariables false
set_option maxRecDepth 8000
open Go Go.Fx Go.Proofs

theorem flat_at {α : Type} {enc : α → List Value} {n : Nat} {L : List α} (hL : Wide enc n L) {i : Nat} (hi : i < L.length) :
    ∃ p q, L.flatMap enc = p ++ enc L[i] ++ q ∧ p.length = i * n ∧ ∀ x, (L.set i x).flatMap enc = p ++ enc x ++ q := by
  refine ⟨(L.take i).flatMap enc, (L.drop (i + 1)).flatMap enc, ?_, ?_, fun x => ?_⟩
  · have h : L = L.take i ++ L[i] :: L.drop (i + 1) := by rw [← List.drop_eq_getElem_cons hi, List.take_append_drop]
    have h2 : L.flatMap enc = (L.take i ++ L[i] :: L.drop (i + 1)).flatMap enc := congrArg (·.flatMap enc) h
    rw [h2]
    simp only [List.flatMap_append, List.flatMap_cons, List.append_assoc]
  · rw [flat_len (fun x hx => hL x (List.mem_of_mem_take hx)), List.length_take]; congr 1; omega
  · rw [List.set_eq_take_append_cons_drop, if_pos hi]
    simp [List.flatMap_append, List.flatMap_cons]
theorem splice_mid {p x q vs : List Value} {j : Nat} (h : j + vs.length ≤ x.length) : splice (p ++ x ++ q) (p.length + j) vs = p ++ splice x j vs ++ q := by
  unfold splice
  rw [List.append_assoc p x q, List.take_length_add_append, show p.length + j + vs.length = p.length + (j + vs.length) by omega, List.drop_length_add_append, List.take_append_of_le_length (by omega), List.drop_append_of_le_length h]
  simp [List.append_assoc]
theorem row_wr {α : Type} {enc : α → List Value} {n : Nat} {L : List α} (hL : Wide enc n L) {i : Nat} (hi : i < L.length) {c vs : List Value} {j : Nat} {x : α} (hc : c.take (L.length * n) = L.flatMap enc) (hj : j + vs.length ≤ n) (hx : splice (enc L[i]) j vs = enc x) (hxn : (enc x).length = n) :
    (splice c (i * n + j) vs).take ((L.set i x).length * n) = (L.set i x).flatMap enc := by
  obtain ⟨p, q, h1, h2, h3⟩ := flat_at hL hi
  have hl := hL _ (List.getElem_mem hi)
  have hq : p.length + n + q.length = L.length * n := by
    have := congrArg List.length h1
    rw [flat_len hL, List.length_append, List.length_append, hl] at this
    omega
  rw [h3, List.length_set]
  have hd : c = p ++ enc L[i] ++ (q ++ c.drop (L.length * n)) := by
    rw [← List.append_assoc, ← h1, ← hc, List.take_append_drop]
  rw [hd, ← h2, splice_mid (by rw [hl]; exact hj), hx, ← List.append_assoc]
  rw [List.take_append_of_le_length (by rw [List.length_append, List.length_append, hxn]; omega), List.take_of_length_le (by rw [List.length_append, List.length_append, hxn]; omega)]

structure Slv (H : Heap) (lo sb : Nat) (A : Option Addr) (cap : Nat) (Bs : List Bd) (Ts : List Bt) : Prop where
  g : Gs H lo 49 8 A cap Bs.length (Bs.flatMap encB)
  ok : ∀ b ∈ Bs, b.Ok H
  wr : ∀ b ∈ Bs, Gw H lo 9 b.A b.cap b.nodes.length (b.nodes.flatMap Is)
  off : ∀ b ∈ Bs, b.nodes.length = 0 ∨ (ob b.A ≠ ob A ∧ ob b.A ≠ sb)
  dis : ∀ i j (hi : i < Bs.length) (hj : j < Bs.length), i ≠ j → Bs[i].nodes.length = 0 ∨ Bs[j].nodes.length = 0 ∨ ob Bs[i].A ≠ ob Bs[j].A
  pl : Bs.map pl = Ts.map Bt.pl
  tok : ∀ b ∈ Ts, b.ok
  d : ob A ≠ sb
  lo : lo ≤ sb
  len : Bs.length ≤ 100000
theorem Slv.lenT {H : Heap} {lo sb cap : Nat} {A : Option Addr} {Bs : List Bd} {Ts : List Bt} (h : Slv H lo sb A cap Bs Ts) : Ts.length = Bs.length := by
  have := congrArg List.length h.pl
  simpa using this.symm
theorem Slv.wide {H : Heap} {lo sb cap : Nat} {A : Option Addr} {Bs : List Bd} {Ts : List Bt} (h : Slv H lo sb A cap Bs Ts) : Wide encB 8 Bs := fun b hb => (h.ok b hb).len
theorem Slv.bds {H : Heap} {lo sb cap : Nat} {A : Option Addr} {Bs : List Bd} {Ts : List Bt} (h : Slv H lo sb A cap Bs Ts) : Bds H (.slice A Bs.length cap) Bs :=
  ⟨own_sl h.wide (by decide) h.g, h.ok, by have := h.len; omega⟩
theorem Slv.via {H H' : Heap} {S : Nat → Prop} {lo sb cap : Nat} {A : Option Addr} {Bs : List Bd} {Ts : List Bt} (h : Slv H lo sb A cap Bs Ts) (he : But S H H') (hs : ∀ g, lo ≤ g → g ≠ sb → ¬ S g) : Slv H' lo sb A cap Bs Ts := by
  have hg := h.g.lt
  have hd := h.d
  have hlo := h.lo
  refine ⟨?_, fun b hb => (h.ok b hb).via he (fun h0 g hg => ?_), fun b hb => (h.wr b hb).via he (fun h0 g hg => ?_), h.off, h.dis, h.pl, h.tok, h.d, h.lo, h.len⟩
  · by_cases hl : Bs.length = 0
    · have := h.g
      obtain ⟨h0, ⟨h1, h2⟩ | ⟨g, cap', cur, h1, h2, h3, h4, h5, h6, h7⟩⟩ := this
      · exact ⟨h0, .inl ⟨h1, h2⟩⟩
      · cases h1
        refine h.g.via he (fun g' hg' => hs g' ?_ ?_)
        · have : (ob (some ⟨g, 0, none⟩) : Int) = g := rfl
          omega
        · intro e; subst e; exact hd hg'.symm
    · refine h.g.via he (fun g' hg' => hs g' ?_ ?_)
      · omega
      · intro e; subst e; exact hd hg'.symm
  · have h1 := (h.wr b hb).lt
    have h2 := h.off b hb
    exact hs g (by omega) (fun e => by subst e; omega)
  · have h1 := (h.wr b hb).lt
    have h2 := h.off b hb
    exact hs g (by omega) (fun e => by subst e; omega)
theorem Slv.ext {H H' : Heap} {lo sb cap : Nat} {A : Option Addr} {Bs : List Bd} {Ts : List Bt} (h : Slv H lo sb A cap Bs Ts) (he : Ext H H') : Slv H' lo sb A cap Bs Ts :=
  h.via (S := fun _ => False) he.but (fun _ _ _ h => h)
theorem Slv.lt {H : Heap} {lo sb cap : Nat} {A : Option Addr} {Bs : List Bd} {Ts : List Bt} (h : Slv H lo sb A cap Bs Ts) : ob A < H.size ∧ (ob A = -1 ∨ (lo : Int) ≤ ob A) ∧ ob A ≠ sb ∧ lo ≤ sb := ⟨h.g.lt.1, h.g.lt.2, h.d, h.lo⟩
def Md (sb : Nat) (A A' : Option Addr) (H H' : Heap) : Prop := But (fun g => g = sb ∨ (g : Int) = ob A) H H' ∧ (ob A' = ob A ∨ (H.size : Int) ≤ ob A')
theorem Md.refl (sb : Nat) (A : Option Addr) (H : Heap) : Md sb A A H H := ⟨But.refl _ _, .inl rfl⟩
theorem Md.trans {sb : Nat} {A B C : Option Addr} {H H' H'' : Heap} (h : Md sb A B H H') (k : Md sb B C H' H'') : Md sb A C H H'' := by
  obtain ⟨h1, h2⟩ := h
  obtain ⟨k1, k2⟩ := k
  have hs := h1.1
  refine ⟨⟨Nat.le_trans h1.1 k1.1, fun b hb hS => ?_⟩, by omega⟩
  rw [k1.2 b (by omega) (fun hk => hS (by dsimp only at hk ⊢; omega)), h1.2 b hb hS]
theorem Md.ext {sb : Nat} {A B : Option Addr} {H H' H'' : Heap} (h : Md sb A B H H') (k : Ext H' H'') : Md sb A B H H'' := ⟨h.1.trans k.but, h.2⟩
theorem Md.pre {sb : Nat} {A B : Option Addr} {H H' H'' : Heap} (k : Ext H H') (h : Md sb A B H' H'') : Md sb A B H H'' := ⟨k.but.trans h.1, by have := h.2; have := k.1; omega⟩
theorem Md.low {sb lo : Nat} {A B : Option Addr} {H H' : Heap} (h : Md sb A B H H') (h1 : lo ≤ sb) (h2 : ob A = -1 ∨ (lo : Int) ≤ ob A) : But (fun g => lo ≤ g) H H' := h.1.mono (fun b hb e => by omega)
theorem Slv.blk {H : Heap} {lo sb cap : Nat} {A : Option Addr} {Bs : List Bd} {Ts : List Bt} (h : Slv H lo sb A cap Bs Ts) (h0 : 0 < Bs.length) : ∃ g c, A = some ⟨g, 0, none⟩ ∧ OwnT H g c 49 ∧ c.take (Bs.length * 8) = Bs.flatMap encB ∧ c.length = cap * 8 ∧ Bs.length ≤ cap ∧ lo ≤ g := by
  obtain ⟨_, ⟨_, h2⟩ | ⟨g, cap', cur, h1, h2, h3, h4, h5, h6, h7⟩⟩ := h.g
  · omega
  · cases h1
    exact ⟨g, cur.toList, rfl, by unfold OwnT; simpa using h3, h7, by simpa using h6, h4, h2⟩
theorem splice_len {cs vs : List Value} {o : Nat} (h : o + vs.length ≤ cs.length) : (splice cs o vs).length = cs.length := by
  unfold splice
  simp only [List.length_append, List.length_take, List.length_drop]
  omega
theorem Slv.set {H H' : Heap} {lo sb cap g : Nat} {Bs : List Bd} {Ts : List Bt} (h : Slv H lo sb (some ⟨g, 0, none⟩) cap Bs Ts) {i : Nat} (hi : i < Bs.length) {bd : Bd} {b : Bt} (hpl : Go.Proofs.Ytlfillhffpiffaa.pl bd = b.pl) (hb : b.ok) (hok : bd.Ok H) (hwr : Gw H lo 9 bd.A bd.cap bd.nodes.length (bd.nodes.flatMap Is))
    (hoff : bd.nodes.length = 0 ∨ (ob bd.A ≠ g ∧ ob bd.A ≠ sb)) (hdis : ∀ j (hj : j < Bs.length), i ≠ j → bd.nodes.length = 0 ∨ Bs[j].nodes.length = 0 ∨ ob bd.A ≠ ob Bs[j].A) {c vs : List Value} {j : Nat} (hc : c.take (Bs.length * 8) = Bs.flatMap encB) (hj : j + vs.length ≤ 8) (hx : splice (encB Bs[i]) j vs = encB bd) (hcl : c.length = cap * 8)
    (hu : Upd H H' g (splice c (i * 8 + j) vs)) (hT : OwnT H' g (splice c (i * 8 + j) vs) 49) : Slv H' lo sb (some ⟨g, 0, none⟩) cap (Bs.set i bd) (Ts.set i b) := by
  have hlt := h.lenT
  have hw := row_wr h.wide hi hc hj hx hok.len
  have hgl := h.lt
  have hob : ob (some ⟨g, 0, none⟩) = g := rfl
  rw [hob] at hgl
  have hcap : Bs.length ≤ cap ∧ cap ≤ maxLen := by
    obtain ⟨_, ⟨_, h2⟩ | ⟨g', cap', cur, h1, h2, h3, h4, h5, h6, h7⟩⟩ := h.g
    · omega
    · cases h1; exact ⟨h4, h5⟩
  have hmem : ∀ x ∈ Bs.set i bd, x = bd ∨ x ∈ Bs := fun x hx => (List.mem_or_eq_of_mem_set hx).symm
  have hobd : bd.nodes.length = 0 ∨ ob bd.A ≠ g := by omega
  have hoB : ∀ x ∈ Bs, x.nodes.length = 0 ∨ ob x.A ≠ g := fun x hx => by have := h.off x hx; rw [hob] at this; omega
  refine ⟨?_, ?_, ?_, ?_, ?_, ?_, ?_, h.d, h.lo, by rw [List.length_set]; exact h.len⟩
  · refine ⟨?_, .inr ⟨g, cap, (splice c (i * 8 + j) vs).toArray, rfl, by omega, hT, by rw [List.length_set]; exact hcap.1, hcap.2, ?_, by simpa using hw⟩⟩
    · rw [flat_len (fun x hx => ?_)]
      rcases hmem x hx with rfl | hx
      · exact hok.len
      · exact h.wide x hx
    · have : (i + 1) * 8 ≤ Bs.length * 8 := Nat.mul_le_mul_right 8 hi
      have : Bs.length * 8 ≤ cap * 8 := Nat.mul_le_mul_right 8 hcap.1
      simp only [List.size_toArray]
      rw [splice_len (by omega), hcl]
  · intro x hx
    rcases hmem x hx with rfl | hx
    · exact hok.upw hu hobd
    · exact (h.ok x hx).upw hu (hoB x hx)
  · intro x hx
    rcases hmem x hx with rfl | hx
    · exact hwr.upw hu hobd
    · exact (h.wr x hx).upw hu (hoB x hx)
  · intro x hx
    rcases hmem x hx with rfl | hx
    · exact hoff
    · exact h.off x hx
  · intro a b' ha hb' hab
    rw [List.length_set] at ha hb'
    simp only [List.getElem_set]
    by_cases h1 : i = a
    · rw [if_pos h1, if_neg (by omega)]
      exact hdis b' hb' (by omega)
    · rw [if_neg h1]
      by_cases h2 : i = b'
      · rw [if_pos h2]
        have := hdis a ha h1
        rcases this with h | h | h
        · exact .inr (.inl h)
        · exact .inl h
        · exact .inr (.inr (fun e => h e.symm))
      · rw [if_neg h2]; exact h.dis a b' ha hb' hab
  · rw [List.map_set, List.map_set, h.pl, hpl]
  · intro x hx
    rcases List.mem_or_eq_of_mem_set hx with hx | rfl
    · exact h.tok x hx
    · exact hb
end Go.Proofs.Ytlfillhffpiffaa

namespace Go.Proofs.Ytlfillhffpiffaa
set_option linter.unusedSimpArgs false
set_option linter.unusedVariables false
set_option maxRecDepth 8000
open Go Go.Fx Go.Proofs
namespace FactsUniH
theorem ag25 : ag Try.prog 25 = some 1 := by kernel_rfl
theorem ag28 : ag Try.prog 28 = some 5 := by kernel_rfl
theorem fo122_0 : foff Try.prog 122 0 = some 0 := by kernel_rfl
theorem mixed : Try.prog.follows .mixedOrders = true := by kernel_rfl
theorem pl166 : places Try.prog 166 = some [(0, 1), (1, 1)] := by kernel_rfl
theorem pl25 : places Try.prog 25 = some [(0, 1)] := by kernel_rfl
theorem pl28 : places Try.prog 28 = some [(0, 4), (4, 1)] := by kernel_rfl
theorem sc22 : sc Try.prog 22 = true := by kernel_rfl
theorem zc166 : zc Try.prog 166 = some [.string ⟨#[]⟩, .nilIface] := by kernel_rfl
theorem zc25 : zc Try.prog 25 = some [.slice none 0 0] := by kernel_rfl
theorem zc28 : zc Try.prog 28 = some [.int .i64 0, .int .i64 0, .int .i64 0, .int .i64 0, .int .i64 0] := by kernel_rfl
end FactsUniH
open FactsUniH

def TyO (B : Nat) (H : Heap) (v : Value) (M : List (List Int)) : Prop := ∃ A cap, v = Ty A M.length cap ∧ Gs H B 47 9 A cap M.length (M.flatMap Is) ∧ Nine M ∧ M.length ≤ 256
theorem none_of {α : Type} {o : Option α} (h : o.isSome = false) : o = none := by cases o <;> first | rfl | cases h
theorem some_of {α : Type} {o : Option α} (h : o.isSome = true) : ∃ x, o = some x := by cases o with | none => cases h | some x => exact ⟨x, rfl⟩
theorem TypB.o {B : Nat} {H' : Heap} {v : Value} {Ts : List Bt} {t : Tm} (h : TypB B H' v ((tys Ts t).map (·.enc 0))) :
    ∃ w, v = .tuple #[w, .bool (tys Ts t).isSome] ∧ TyO B H' w (match tys Ts t with | some u => u.enc 0 | none => []) := by
  cases ht : tys Ts t with
  | none => rw [ht] at h; exact ⟨_, h, none, 0, rfl, OwnS.nil _ _ _ _, (fun x hx => by cases hx), by simp⟩
  | some u =>
    rw [ht] at h
    obtain ⟨A, cap, h1, h2, h3, h4⟩ := h
    exact ⟨_, h1, A, cap, rfl, h2, h3, h4⟩
def PrtF (B : Nat) (H : Heap) (e : Value) (c : Int) : Prop := ∃ pb s, e = .iface 164 (ptr pb 0) ∧ B ≤ pb ∧ Blk H pb [s, eN c]
theorem PrtF.prt {B : Nat} {H : Heap} {e : Value} {c : Int} (h : PrtF B H e c) : PrtV H e c := by
  obtain ⟨pb, s, h1, h2, h3⟩ := h
  exact ⟨pb, s, _, h1, h3, .inl rfl⟩
theorem PrtF.ext {B : Nat} {H H' : Heap} {e : Value} {c : Int} (h : PrtF B H e c) (he : Ext H H') : PrtF B H' e c := by
  obtain ⟨pb, s, h1, h2, h3⟩ := h
  exact ⟨pb, s, h1, h2, h3.ext he⟩
theorem PrtF.upw {B b : Nat} {H H' : Heap} {e : Value} {c : Int} {cs : List Value} (h : PrtF B H e c) (u : Upd H H' b cs) (hb : b < B) : PrtF B H' e c := by
  obtain ⟨pb, s, h1, h2, h3⟩ := h
  exact ⟨pb, s, h1, h2, h3.upw u (by omega)⟩
def ErF (B : Nat) (H : Heap) (e : Value) (o : Bool) : Prop := match o with
  | true => e = .nilIface
  | false => PrtF B H e 1003
theorem ErF.ext {B : Nat} {H H' : Heap} {e : Value} {o : Bool} (h : ErF B H e o) (he : Ext H H') : ErF B H' e o := by
  cases o with
  | true => exact h
  | false => exact PrtF.ext h he
theorem ErF.upw {B b : Nat} {H H' : Heap} {e : Value} {o : Bool} {cs : List Value} (h : ErF B H e o) (u : Upd H H' b cs) (hb : b < B) : ErF B H' e o := by
  cases o with
  | true => exact h
  | false => exact PrtF.upw h u hb
theorem ErF.lt {B : Nat} {H : Heap} {e : Value} {o : Bool} (h : ErF B H e o) : True := trivial
theorem ErF.ne {B : Nat} {H : Heap} {v : Value} {o : Bool} (h : ErF B H v o) : ∀ {dst ty pos aft gd} {e : Env} {x y : Operand} {t' : TypeId} (_ : ev e x = some v) (_ : isK y = true) (_ : ev e y = some .nilIface), Pur Try.prog ⟨dst, .binOp .neq 107 x y t', ty, pos, aft, gd⟩ e (.bool (!o)) := by
  intro dst ty pos aft gd e x y t' hx hk hy
  cases o with
  | true => obtain rfl : v = .nilIface := h; exact Pur.neNN isIf_err hx hk hy
  | false => obtain ⟨_, _, rfl, _⟩ : PrtF B H v 1003 := h; exact Pur.neNil isIf_err hx hy
def TypE (H : Heap) (o : Option Tm) (v : Value) (H' : Heap) : Prop :=
  match o with
  | some u => ∃ w, v = .tuple #[w, .nilIface] ∧ TyO H.size H' w (u.enc 0)
  | none => ∃ e, v = .tuple #[Ty none 0 0, e] ∧ PrtF H.size H' e 1003
theorem TypE.un {H H' : Heap} {o : Option Tm} {v : Value} (h : TypE H o v H') : ∃ A c e M, v = .tuple #[Ty A M.length c, e] ∧ ErF H.size H' e o.isSome ∧ Gs H' H.size 47 9 A c M.length (M.flatMap Is) ∧ Nine M ∧ M.length ≤ 256 ∧ ∀ u, o = some u → M = u.enc 0 := by
  cases o with
  | none => obtain ⟨e, rfl, h2⟩ := h; exact ⟨none, 0, e, [], rfl, h2, OwnS.nil _ _ _ _, (fun x hx => by cases hx), by simp, fun u hu => by cases hu⟩
  | some u => obtain ⟨w, rfl, A, c, rfl, h1, h2, h3⟩ := h; exact ⟨A, c, .nilIface, _, rfl, rfl, h1, h2, h3, fun x hx => by cases hx; rfl⟩
theorem slvType_ok {H : Heap} {lo sb cap yb yo c1 : Nat} {A A1 : Option Addr} {Bs : List Bd} {Ts : List Bt} {rest cy : List Value} (h : Slv H lo sb A cap Bs Ts) (hs : Blk H sb (.slice A Bs.length cap :: rest)) {t : Tm} (ht : t.ok) (hz : t.sz ≤ 256)
    (hS : SlT H Is 9 (.slice A1 (t.enc 0).length c1) (t.enc 0)) (hY : Blk H yb cy) (hcy : cy[yo]? = some (.slice A1 (t.enc 0).length c1)) :
    Ret Try.prog 102 [ptr sb 0, ptr yb yo] H (fun v H' => Ext H H' ∧ TypE H (tys Ts t) v H') := by
  have hM := enc_typ ht hz
  have hq := typS_tys h.pl h.tok t
  refine Ret.of_at (N := 25) Try.call102 Try.func102 rfl rfl rfl ?_
  have hE := Ext.refl H
  have z_hE := hE.lt
  have z_hs := hs.lt
  have z_hY := hY.lt
  refine At.region rfl rfl ?_
  refine Reg.op rfl rfl rfl rfl (Does.alloc zc25) ?_
  rintro _ H0_0 ⟨rfl, hn0_0⟩
  have z0_0 := hn0_0.size
  replace hE := hE.ext hn0_0.ext
  replace hs := hs.ext hn0_0.ext
  replace hY := hY.ext hn0_0.ext
  have o0_0 := hn0_0.own
  refine Reg.pur rfl rfl rfl rfl (Pur.asg rfl) ?_
  refine Reg.nil ?_
  refine At.region rfl rfl ?_
  refine Reg.pur rfl rfl rfl rfl (Pur.mv rfl) ?_
  refine Reg.pur rfl rfl rfl rfl (Pur.nilc rfl) ?_
  refine Reg.pur rfl rfl rfl rfl (Pur.fld _ fo122_0 rfl) ?_
  refine Reg.lod rfl rfl rfl rfl (Lod.ld sc22 rfl hs rfl) ?_
  refine Reg.pur rfl rfl rfl rfl (Pur.mv rfl) ?_
  refine Reg.op rfl rfl rfl rfl (Does.call rfl (ofType_ok (h.bds.ext hE) (hS.ext hE) (t.enc_nine 0 ht) hM hY hcy)) ?_
  rintro v1_5 H1_5 ⟨hE1_5, hT0⟩
  have z1_5 := hE1_5.lt
  replace hE := hE.ext hE1_5
  replace hs := hs.ext hE1_5
  replace hY := hY.ext hE1_5
  replace o0_0 := o0_0.ext hE1_5
  rw [hq] at hT0
  obtain ⟨w, rfl, hT⟩ := TypB.o hT0
  clear hT0
  obtain ⟨A2, c2, rfl, hG, hN, hl⟩ := hT
  have z_hG := hG.lt
  refine Reg.pur rfl rfl rfl rfl (Pur.mv rfl) ?_
  refine Reg.pur rfl rfl rfl rfl (Pur.ext rfl rfl) ?_
  refine Reg.pur rfl rfl rfl rfl (Pur.ext rfl rfl) ?_
  refine Reg.op rfl rfl rfl rfl (Does.alloc zc25) ?_
  rintro _ H1_9 ⟨rfl, hn1_9⟩
  have z1_9 := hn1_9.size
  replace hE := hE.ext hn1_9.ext
  replace hs := hs.ext hn1_9.ext
  replace hY := hY.ext hn1_9.ext
  replace o0_0 := o0_0.ext hn1_9.ext
  replace hG := hG.ext hn1_9.ext
  have o1_9 := hn1_9.own
  refine Reg.op0 rfl rfl rfl (Does.stn ag25 rfl rfl (by first | rfl | exact ones_Is _) (by first | rfl | (simp [*]; done)) o1_9 (by first | decide | (simp; done) | (simp; omega) | omega)) ?_
  rintro _ H1_10 hu1_10
  have z1_10 := hu1_10.size
  replace hE := hE.upw hu1_10 (by omega)
  replace hs := hs.upw hu1_10 (by omega)
  replace hY := hY.upw hu1_10 (by omega)
  replace o0_0 := o0_0.upw hu1_10 (by omega)
  replace hG := hG.upw hu1_10 (by omega)
  replace o1_9 := hu1_10.own
  first | rw [over (by first | rfl | (simp; done))] at o1_9 | skip
  refine Reg.pur rfl rfl rfl rfl (Pur.asg rfl) ?_
  refine Reg.nil ?_
  refine At.region rfl rfl ?_
  refine Reg.pur rfl rfl rfl rfl (Pur.mv rfl) ?_
  refine Reg.pur rfl rfl rfl rfl (Pur.not rfl) ?_
  refine Reg.nil ?_
  refine At.cond rfl rfl (fun q18 => ?_) (fun q18 => ?_)
  · first | (simp only [decide_eq_true_eq, decide_eq_false_iff_not, Bool.not_eq_true', Bool.not_eq_false', ne_eq, Decidable.not_not, Bool.not_eq_true, Bool.not_eq_false] at q18) | (dsimp only at q18) | skip
    refine At.region rfl rfl ?_
    refine Reg.pur rfl rfl rfl rfl (Pur.bld (cs := [_]) pl25 zc25 rfl rfl ⟨rfl, rfl⟩) ?_
    refine Reg.pur rfl rfl rfl rfl (Pur.mki (by kernel_rfl) rfl) ?_
    refine Reg.pur rfl rfl rfl rfl (Pur.bld (cs := [_, _]) pl166 zc166 rfl rfl ⟨rfl, rfl, rfl⟩) ?_
    refine Reg.op rfl rfl rfl rfl (Does.box rfl rfl) ?_
    rintro _ H3_3 ⟨rfl, hn3_3⟩
    have z3_3 := hn3_3.size
    replace hE := hE.ext hn3_3.ext
    replace hs := hs.ext hn3_3.ext
    replace hY := hY.ext hn3_3.ext
    replace o0_0 := o0_0.ext hn3_3.ext
    replace hG := hG.ext hn3_3.ext
    replace o1_9 := o1_9.ext hn3_3.ext
    have o3_3 := hn3_3.own
    refine Reg.pur rfl rfl rfl rfl (Pur.mki (by kernel_rfl) rfl) ?_
    refine Reg.op0 rfl rfl rfl (Does.stn ag25 rfl rfl (by first | rfl | exact ones_Is _) (by first | rfl | (simp [*]; done)) o0_0 (by first | decide | (simp; done) | (simp; omega) | omega)) ?_
    rintro _ H3_5 hu3_5
    have z3_5 := hu3_5.size
    replace hE := hE.upw hu3_5 (by omega)
    replace hs := hs.upw hu3_5 (by omega)
    replace hY := hY.upw hu3_5 (by omega)
    replace hG := hG.upw hu3_5 (by omega)
    replace o1_9 := o1_9.upw hu3_5 (by omega)
    replace o3_3 := o3_3.upw hu3_5 (by omega)
    replace o0_0 := hu3_5.own
    first | rw [over (by first | rfl | (simp; done))] at o0_0 | skip
    refine Reg.pur rfl rfl rfl rfl (Pur.asg rfl) ?_
    refine Reg.nil ?_
    refine At.retC rfl Try.func102 ⟨_, _, _, _, rfl, rfl, ⟨_, o0_0.blk, .inr ⟨_, _, ag25, (by first | exact whole rfl | exact whole (by simp [*])), (by first | rfl | simp [*]), rfl⟩⟩, ⟨_, _, rfl, rfl, rfl⟩⟩ ?_
    have hn := none_of q18
    rw [hn]
    exact ⟨hE, _, rfl, ⟨_, _, rfl, by omega, o3_3.blk⟩⟩
  first | (simp only [decide_eq_true_eq, decide_eq_false_iff_not, Bool.not_eq_true', Bool.not_eq_false', ne_eq, Decidable.not_not, Bool.not_eq_true, Bool.not_eq_false] at q18) | (dsimp only at q18) | skip
  refine At.region rfl rfl ?_
  refine Reg.lod rfl rfl rfl rfl (Lod.ldn ag25 rfl o1_9.blk (by first | exact whole rfl | rfl | (simp only [List.drop_succ_cons, List.drop_zero, List.take_succ_cons, List.take_zero]; rfl)) (by first | rfl | (simp [*]; done))) ?_
  refine Reg.op0 rfl rfl rfl (Does.stn ag25 rfl rfl (by first | rfl | exact ones_Is _) (by first | rfl | (simp [*]; done)) o0_0 (by first | decide | (simp; done) | (simp; omega) | omega)) ?_
  rintro _ H4_1 hu4_1
  have z4_1 := hu4_1.size
  replace hE := hE.upw hu4_1 (by omega)
  replace hs := hs.upw hu4_1 (by omega)
  replace hY := hY.upw hu4_1 (by omega)
  replace hG := hG.upw hu4_1 (by omega)
  replace o1_9 := o1_9.upw hu4_1 (by omega)
  replace o0_0 := hu4_1.own
  first | rw [over (by first | rfl | (simp; done))] at o0_0 | skip
  refine Reg.pur rfl rfl rfl rfl (Pur.asg rfl) ?_
  refine Reg.nil ?_
  refine At.retC rfl Try.func102 ⟨_, _, _, _, rfl, rfl, ⟨_, o0_0.blk, .inr ⟨_, _, ag25, (by first | exact whole rfl | exact whole (by simp [*])), (by first | rfl | simp [*]), rfl⟩⟩, ⟨_, _, rfl, rfl, rfl⟩⟩ ?_
  obtain ⟨u, hu⟩ := some_of q18
  rw [hu] at hG hN hl ⊢
  exact ⟨hE, _, rfl, A2, c2, rfl, hG.mono (by omega), hN, hl⟩
def RowV (B : Nat) (o : Option (List Int)) (v : Value) (H' : Heap) : Prop :=
  match o with
  | some u => v = .tuple #[.agg (Is u).toArray, .nilIface] ∧ u.length = 5
  | none => ∃ e, v = .tuple #[.agg (Is noRow).toArray, e] ∧ PrtF B H' e 1003
theorem rwP_snd (o : Option (List Int)) : (rwP o).2 = o.isSome := by cases o <;> rfl
theorem RowV.un {B : Nat} {o : Option (List Int)} {v : Value} {H : Heap} (h : RowV B o v H) : ∃ u e, v = .tuple #[.agg (Is u).toArray, e] ∧ u.length = 5 ∧ ErF B H e o.isSome ∧ ∀ x, o = some x → u = x := by
  cases o with
  | none => obtain ⟨e, h1, h2⟩ := h; exact ⟨noRow, e, h1, rfl, h2, fun x hx => by cases hx⟩
  | some u => exact ⟨u, .nilIface, h.1, h.2, rfl, fun x hx => by cases hx; rfl⟩
theorem slvRow_ok {H : Heap} {lo sb cap : Nat} {A : Option Addr} {Bs : List Bd} {Ts : List Bt} {rest : List Value} (h : Slv H lo sb A cap Bs Ts) (hs : Blk H sb (.slice A Bs.length cap :: rest)) {r : List Int} (hr : r.length = 5) (ht : -1 ≤ r.getD 4 0) :
    Ret Try.prog 131 [ptr sb 0, .agg (Is r).toArray] H (fun v H' => Ext H H' ∧ RowV H.size (rwS Ts r) v H') := by
  have hq := rowS_rw h.pl r
  refine Ret.of_at (N := 25) Try.call131 Try.func131 rfl rfl rfl ?_
  have hE := Ext.refl H
  have z_hE := hE.lt
  have z_hs := hs.lt
  refine At.region rfl rfl ?_
  refine Reg.op rfl rfl rfl rfl (Does.box rfl rfl) ?_
  rintro _ H0_0 ⟨rfl, hn0_0⟩
  have z0_0 := hn0_0.size
  replace hE := hE.ext hn0_0.ext
  replace hs := hs.ext hn0_0.ext
  have o0_0 := hn0_0.own
  refine Reg.op rfl rfl rfl rfl (Does.alloc zc28) ?_
  rintro _ H0_1 ⟨rfl, hn0_1⟩
  have z0_1 := hn0_1.size
  replace hE := hE.ext hn0_1.ext
  replace hs := hs.ext hn0_1.ext
  replace o0_0 := o0_0.ext hn0_1.ext
  have o0_1 := hn0_1.own
  refine Reg.pur rfl rfl rfl rfl (Pur.asg rfl) ?_
  refine Reg.nil ?_
  refine At.drawE ((Bks.cons hs.blk (Bks.cons o0_0.blk Bks.nil))) [5, 10] mixed rfl rfl ?_
  refine RegD.tpur (i := 0) rfl rfl rfl rfl (by kernel_rfl) (Pur.mv rfl) ?_
  refine RegD.tpur (i := 1) rfl rfl rfl rfl (by kernel_rfl) (Pur.nilc rfl) ?_
  refine RegD.tpur (i := 2) rfl rfl rfl rfl (by kernel_rfl) (Pur.fld _ fo122_0 rfl) ?_
  refine RegD.take (i := 3) rfl rfl rfl rfl (by kernel_rfl) (Bks.cons hs.blk (Bks.cons o0_0.blk Bks.nil)) (fun H hS => Lod.ld sc22 rfl hS.hd rfl) ?_
  refine RegD.take (i := 4) rfl rfl rfl rfl (by kernel_rfl) (Bks.cons hs.blk (Bks.cons o0_0.blk Bks.nil)) (fun H hS => Lod.ldn ag28 rfl hS.tl.hd (whole (by simp [hr])) (by simp [hr])) ?_
  refine RegD.fork2 (i := 5) (j := 9) (by kernel_rfl) ?_ ?_
  · refine RegOp.one (i := 5) rfl rfl rfl rfl (Does.call rfl (ofRow_ok (h.bds.ext hE) r hr ht)) ?_
    rintro _ H1_5 ⟨rfl, hlen, hE1_5⟩
    have z1_5 := hE1_5.lt
    replace hE := hE.ext hE1_5
    replace hs := hs.ext hE1_5
    replace o0_0 := o0_0.ext hE1_5
    replace o0_1 := o0_1.ext hE1_5
    rw [hq] at hlen
    try rw [hq]
    refine ⟨fun h => (by cases h), ?_⟩
    refine RegD.tpur (i := 6) rfl rfl rfl rfl (by kernel_rfl) (Pur.mv rfl) ?_
    refine RegD.tpur (i := 7) rfl rfl rfl rfl (by kernel_rfl) (Pur.ext rfl rfl) ?_
    refine RegD.tpur (i := 8) rfl rfl rfl rfl (by kernel_rfl) (Pur.ext rfl rfl) ?_
    refine RegD.one (i := 9) (by kernel_rfl) rfl rfl rfl rfl (Does.alloc zc28) ?_
    rintro _ H1_9 ⟨rfl, hn1_9⟩
    have z1_9 := hn1_9.size
    replace hE := hE.ext hn1_9.ext
    replace hs := hs.ext hn1_9.ext
    replace o0_0 := o0_0.ext hn1_9.ext
    replace o0_1 := o0_1.ext hn1_9.ext
    have o1_9 := hn1_9.own
    refine ⟨fun _ _ => (Bks.cons hs.blk (Bks.cons o0_0.blk Bks.nil)), ?_⟩
    refine RegD.one0 (i := 10) (by kernel_rfl) rfl rfl rfl (Does.stn ag28 rfl rfl (by first | rfl | exact ones_Is _) (by first | rfl | (simp [*]; done)) o1_9 (by first | decide | (simp; done) | (simp; omega) | omega)) ?_
    rintro _ H1_10 hu1_10
    have z1_10 := hu1_10.size
    replace hE := hE.upw hu1_10 (by omega)
    replace hs := hs.upw hu1_10 (by omega)
    replace o0_0 := o0_0.upw hu1_10 (by omega)
    replace o0_1 := o0_1.upw hu1_10 (by omega)
    replace o1_9 := hu1_10.own
    first | rw [over (by first | rfl | (simp; done))] at o1_9 | skip
    refine ⟨fun h => (by cases h), ?_⟩
    refine RegD.tpur (i := 11) rfl rfl rfl rfl (by kernel_rfl) (Pur.asg rfl) ?_
    refine RegD.done (by kernel_rfl) ?_
    refine At.region rfl rfl ?_
    refine Reg.pur rfl rfl rfl rfl (Pur.mv rfl) ?_
    refine Reg.pur rfl rfl rfl rfl (Pur.not rfl) ?_
    refine Reg.nil ?_
    refine At.cond rfl rfl (fun q18 => ?_) (fun q18 => ?_)
    · first | (simp only [decide_eq_true_eq, decide_eq_false_iff_not, Bool.not_eq_true', Bool.not_eq_false', ne_eq, Decidable.not_not, Bool.not_eq_true, Bool.not_eq_false] at q18) | (dsimp only at q18) | skip
      refine At.region rfl rfl ?_
      refine Reg.pur rfl rfl rfl rfl (Pur.bld (cs := [_, _, _, _, _]) pl28 zc28 rfl rfl ⟨rfl, rfl, rfl, rfl, rfl, rfl⟩) ?_
      refine Reg.pur rfl rfl rfl rfl (Pur.mki (by kernel_rfl) rfl) ?_
      refine Reg.pur rfl rfl rfl rfl (Pur.bld (cs := [_, _]) pl166 zc166 rfl rfl ⟨rfl, rfl, rfl⟩) ?_
      refine Reg.op rfl rfl rfl rfl (Does.box rfl rfl) ?_
      rintro _ H3_3 ⟨rfl, hn3_3⟩
      have z3_3 := hn3_3.size
      replace hE := hE.ext hn3_3.ext
      replace hs := hs.ext hn3_3.ext
      replace o0_0 := o0_0.ext hn3_3.ext
      replace o0_1 := o0_1.ext hn3_3.ext
      replace o1_9 := o1_9.ext hn3_3.ext
      have o3_3 := hn3_3.own
      refine Reg.pur rfl rfl rfl rfl (Pur.mki (by kernel_rfl) rfl) ?_
      refine Reg.op0 rfl rfl rfl (Does.stn ag28 rfl rfl (by first | rfl | exact ones_Is _) (by first | rfl | (simp [*]; done)) o0_1 (by first | decide | (simp; done) | (simp; omega) | omega)) ?_
      rintro _ H3_5 hu3_5
      have z3_5 := hu3_5.size
      replace hE := hE.upw hu3_5 (by omega)
      replace hs := hs.upw hu3_5 (by omega)
      replace o0_0 := o0_0.upw hu3_5 (by omega)
      replace o1_9 := o1_9.upw hu3_5 (by omega)
      replace o3_3 := o3_3.upw hu3_5 (by omega)
      replace o0_1 := hu3_5.own
      first | rw [over (by first | rfl | (simp; done))] at o0_1 | skip
      refine Reg.pur rfl rfl rfl rfl (Pur.asg rfl) ?_
      refine Reg.nil ?_
      refine At.retC rfl Try.func131 ⟨_, _, _, _, rfl, rfl, ⟨_, o0_1.blk, .inr ⟨_, _, ag28, (by first | exact whole rfl | exact whole (by simp [*])), (by first | rfl | simp [*]), rfl⟩⟩, ⟨_, _, rfl, rfl, rfl⟩⟩ ?_
      have hn := none_of ((rwP_snd _).symm.trans q18)
      rw [hn]
      exact ⟨hE, _, rfl, _, _, rfl, by omega, o3_3.blk⟩
    first | (simp only [decide_eq_true_eq, decide_eq_false_iff_not, Bool.not_eq_true', Bool.not_eq_false', ne_eq, Decidable.not_not, Bool.not_eq_true, Bool.not_eq_false] at q18) | (dsimp only at q18) | skip
    refine At.region rfl rfl ?_
    refine Reg.lod rfl rfl rfl rfl (Lod.ldn ag28 rfl o1_9.blk (whole (by simp [hlen])) (by simp [hlen])) ?_
    refine Reg.op0 rfl rfl rfl (Does.stn ag28 rfl rfl (by first | rfl | exact ones_Is _) (by first | rfl | (simp [*]; done)) o0_1 (by first | decide | (simp; done) | (simp; omega) | omega)) ?_
    rintro _ H4_1 hu4_1
    have z4_1 := hu4_1.size
    replace hE := hE.upw hu4_1 (by omega)
    replace hs := hs.upw hu4_1 (by omega)
    replace o0_0 := o0_0.upw hu4_1 (by omega)
    replace o1_9 := o1_9.upw hu4_1 (by omega)
    replace o0_1 := hu4_1.own
    first | rw [over (by first | rfl | (simp; done))] at o0_1 | skip
    refine Reg.pur rfl rfl rfl rfl (Pur.asg rfl) ?_
    refine Reg.nil ?_
    refine At.retC rfl Try.func131 ⟨_, _, _, _, rfl, rfl, ⟨_, o0_1.blk, .inr ⟨_, _, ag28, (by first | exact whole rfl | exact whole (by simp [*])), (by first | rfl | simp [*]), rfl⟩⟩, ⟨_, _, rfl, rfl, rfl⟩⟩ ?_
    obtain ⟨u, hu⟩ := some_of ((rwP_snd _).symm.trans q18)
    rw [hu] at hlen ⊢
    exact ⟨hE, rfl, hlen⟩
  refine RegOp.one (i := 9) rfl rfl rfl rfl (Does.alloc zc28) ?_
  rintro _ H1_9 ⟨rfl, hn1_9⟩
  have z1_9 := hn1_9.size
  replace hE := hE.ext hn1_9.ext
  replace hs := hs.ext hn1_9.ext
  replace o0_0 := o0_0.ext hn1_9.ext
  replace o0_1 := o0_1.ext hn1_9.ext
  have o1_9 := hn1_9.own
  refine ⟨fun _ _ => (Bks.cons hs.blk (Bks.cons o0_0.blk Bks.nil)), ?_⟩
  refine RegD.one (i := 5) (by kernel_rfl) rfl rfl rfl rfl (Does.call rfl (ofRow_ok (h.bds.ext hE) r hr ht)) ?_
  rintro _ H1_5 ⟨rfl, hlen, hE1_5⟩
  have z1_5 := hE1_5.lt
  replace hE := hE.ext hE1_5
  replace hs := hs.ext hE1_5
  replace o0_0 := o0_0.ext hE1_5
  replace o0_1 := o0_1.ext hE1_5
  replace o1_9 := o1_9.ext hE1_5
  rw [hq] at hlen
  try rw [hq]
  refine ⟨fun h => (by cases h), ?_⟩
  refine RegD.tpur (i := 6) rfl rfl rfl rfl (by kernel_rfl) (Pur.mv rfl) ?_
  refine RegD.tpur (i := 7) rfl rfl rfl rfl (by kernel_rfl) (Pur.ext rfl rfl) ?_
  refine RegD.tpur (i := 8) rfl rfl rfl rfl (by kernel_rfl) (Pur.ext rfl rfl) ?_
  refine RegD.one0 (i := 10) (by kernel_rfl) rfl rfl rfl (Does.stn ag28 rfl rfl (by first | rfl | exact ones_Is _) (by first | rfl | (simp [*]; done)) o1_9 (by first | decide | (simp; done) | (simp; omega) | omega)) ?_
  rintro _ H1_10 hu1_10
  have z1_10 := hu1_10.size
  replace hE := hE.upw hu1_10 (by omega)
  replace hs := hs.upw hu1_10 (by omega)
  replace o0_0 := o0_0.upw hu1_10 (by omega)
  replace o0_1 := o0_1.upw hu1_10 (by omega)
  replace o1_9 := hu1_10.own
  first | rw [over (by first | rfl | (simp; done))] at o1_9 | skip
  refine ⟨fun h => (by cases h), ?_⟩
  refine RegD.tpur (i := 11) rfl rfl rfl rfl (by kernel_rfl) (Pur.asg rfl) ?_
  refine RegD.done (by kernel_rfl) ?_
  refine At.region rfl rfl ?_
  refine Reg.pur rfl rfl rfl rfl (Pur.mv rfl) ?_
  refine Reg.pur rfl rfl rfl rfl (Pur.not rfl) ?_
  refine Reg.nil ?_
  refine At.cond rfl rfl (fun q18 => ?_) (fun q18 => ?_)
  · first | (simp only [decide_eq_true_eq, decide_eq_false_iff_not, Bool.not_eq_true', Bool.not_eq_false', ne_eq, Decidable.not_not, Bool.not_eq_true, Bool.not_eq_false] at q18) | (dsimp only at q18) | skip
    refine At.region rfl rfl ?_
    refine Reg.pur rfl rfl rfl rfl (Pur.bld (cs := [_, _, _, _, _]) pl28 zc28 rfl rfl ⟨rfl, rfl, rfl, rfl, rfl, rfl⟩) ?_
    refine Reg.pur rfl rfl rfl rfl (Pur.mki (by kernel_rfl) rfl) ?_
    refine Reg.pur rfl rfl rfl rfl (Pur.bld (cs := [_, _]) pl166 zc166 rfl rfl ⟨rfl, rfl, rfl⟩) ?_
    refine Reg.op rfl rfl rfl rfl (Does.box rfl rfl) ?_
    rintro _ H3_3 ⟨rfl, hn3_3⟩
    have z3_3 := hn3_3.size
    replace hE := hE.ext hn3_3.ext
    replace hs := hs.ext hn3_3.ext
    replace o0_0 := o0_0.ext hn3_3.ext
    replace o0_1 := o0_1.ext hn3_3.ext
    replace o1_9 := o1_9.ext hn3_3.ext
    have o3_3 := hn3_3.own
    refine Reg.pur rfl rfl rfl rfl (Pur.mki (by kernel_rfl) rfl) ?_
    refine Reg.op0 rfl rfl rfl (Does.stn ag28 rfl rfl (by first | rfl | exact ones_Is _) (by first | rfl | (simp [*]; done)) o0_1 (by first | decide | (simp; done) | (simp; omega) | omega)) ?_
    rintro _ H3_5 hu3_5
    have z3_5 := hu3_5.size
    replace hE := hE.upw hu3_5 (by omega)
    replace hs := hs.upw hu3_5 (by omega)
    replace o0_0 := o0_0.upw hu3_5 (by omega)
    replace o1_9 := o1_9.upw hu3_5 (by omega)
    replace o3_3 := o3_3.upw hu3_5 (by omega)
    replace o0_1 := hu3_5.own
    first | rw [over (by first | rfl | (simp; done))] at o0_1 | skip
    refine Reg.pur rfl rfl rfl rfl (Pur.asg rfl) ?_
    refine Reg.nil ?_
    refine At.retC rfl Try.func131 ⟨_, _, _, _, rfl, rfl, ⟨_, o0_1.blk, .inr ⟨_, _, ag28, (by first | exact whole rfl | exact whole (by simp [*])), (by first | rfl | simp [*]), rfl⟩⟩, ⟨_, _, rfl, rfl, rfl⟩⟩ ?_
    have hn := none_of ((rwP_snd _).symm.trans q18)
    rw [hn]
    exact ⟨hE, _, rfl, _, _, rfl, by omega, o3_3.blk⟩
  first | (simp only [decide_eq_true_eq, decide_eq_false_iff_not, Bool.not_eq_true', Bool.not_eq_false', ne_eq, Decidable.not_not, Bool.not_eq_true, Bool.not_eq_false] at q18) | (dsimp only at q18) | skip
  refine At.region rfl rfl ?_
  refine Reg.lod rfl rfl rfl rfl (Lod.ldn ag28 rfl o1_9.blk (whole (by simp [hlen])) (by simp [hlen])) ?_
  refine Reg.op0 rfl rfl rfl (Does.stn ag28 rfl rfl (by first | rfl | exact ones_Is _) (by first | rfl | (simp [*]; done)) o0_1 (by first | decide | (simp; done) | (simp; omega) | omega)) ?_
  rintro _ H4_1 hu4_1
  have z4_1 := hu4_1.size
  replace hE := hE.upw hu4_1 (by omega)
  replace hs := hs.upw hu4_1 (by omega)
  replace o0_0 := o0_0.upw hu4_1 (by omega)
  replace o1_9 := o1_9.upw hu4_1 (by omega)
  replace o0_1 := hu4_1.own
  first | rw [over (by first | rfl | (simp; done))] at o0_1 | skip
  refine Reg.pur rfl rfl rfl rfl (Pur.asg rfl) ?_
  refine Reg.nil ?_
  refine At.retC rfl Try.func131 ⟨_, _, _, _, rfl, rfl, ⟨_, o0_1.blk, .inr ⟨_, _, ag28, (by first | exact whole rfl | exact whole (by simp [*])), (by first | rfl | simp [*]), rfl⟩⟩, ⟨_, _, rfl, rfl, rfl⟩⟩ ?_
  obtain ⟨u, hu⟩ := some_of ((rwP_snd _).symm.trans q18)
  rw [hu] at hlen ⊢
  exact ⟨hE, rfl, hlen⟩
end Go.Proofs.Ytlfillhffpiffaa

