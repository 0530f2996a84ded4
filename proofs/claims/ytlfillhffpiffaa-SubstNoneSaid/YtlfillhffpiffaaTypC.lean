/-
  Types that may be: begin, May; what the reference has of it.
-/
import Derived.Test.YtlfillhffpiffaaTypB
namespace Go.Proofs.Ytlfillhffpiffaa
set_option linter.unusedSimpArgs false
set_option linter.unusedVariables false
set_option maxRecDepth 8000
open Go Go.Fx Go.Proofs
namespace FactsTypC
theorem es23 : esz Try.prog 23 = some 9 := by kernel_rfl
theorem fo47_0 : foff Try.prog 47 0 = some 0 := by kernel_rfl
theorem fo47_2 : foff Try.prog 47 2 = some 2 := by kernel_rfl
theorem fo47_3 : foff Try.prog 47 3 = some 3 := by kernel_rfl
theorem sc3 : sc Try.prog 3 = true := by kernel_rfl
end FactsTypC
open FactsTypC

abbrev el (L : List (List Int)) (i : Int) : List Int := L.getD i.toNat []
abbrev Nine (L : List (List Int)) : Prop := ∀ x ∈ L, x.length = 9
theorem wide9 {L : List (List Int)} (h : Nine L) : Wide Is 9 L := fun x hx => by simp [Is, h x hx]
def bgn (L : List (List Int)) : Nat → Int → Int
  | 0, _ => -1
  | f + 1, z => if (el L z).getD 0 0 ≠ 3 then z else if z = 0 ∨ (el L z).getD 3 0 ≠ z - 1 then -1 else
    if bgn L f ((el L z).getD 3 0) < 1 ∨ (el L z).getD 2 0 ≠ bgn L f ((el L z).getD 3 0) - 1 then -1 else bgn L f ((el L z).getD 2 0)
theorem bgn_succ (L : List (List Int)) (f : Nat) (z : Int) : bgn L (f + 1) z = if (el L z).getD 0 0 ≠ 3 then z else if z = 0 ∨ (el L z).getD 3 0 ≠ z - 1 then -1 else
    if bgn L f ((el L z).getD 3 0) < 1 ∨ (el L z).getD 2 0 ≠ bgn L f ((el L z).getD 3 0) - 1 then -1 else bgn L f ((el L z).getD 2 0) := rfl
theorem bgn_le (L : List (List Int)) : ∀ (f : Nat) (z : Int), 0 ≤ z → bgn L f z ≤ z
  | 0, z, h => by simp only [bgn]; omega
  | f + 1, z, h => by
    rw [bgn_succ]
    split
    · omega
    · split
      · omega
      · split
        · omega
        · rename_i h1 h2 h3
          have e1 := bgn_le L f ((el L z).getD 3 0) (by omega)
          have e2 := bgn_le L f ((el L z).getD 2 0) (by omega)
          omega

theorem el_cells {L : List (List Int)} (hL : Nine L) {H : Heap} {A : Option Addr} {cap : Nat} (hS : SlT H Is 9 (.slice A L.length cap) L) {z : Int} (h0 : 0 ≤ z) (h1 : z < L.length) :
    ∃ b o c, A = some ⟨b, o, none⟩ ∧ Blk H b c ∧ (c.drop (o + z.toNat * 9)).take 9 = Is (el L z) ∧ (el L z).length = 9 ∧ ∀ j, j < 9 → c[o + z.toNat * 9 + j]? = some (I ((el L z).getD j 0)) := by
  have hzn : z.toNat < L.length := by omega
  obtain ⟨b, o, c, h2, h3, h4, h5⟩ := sl_at (wide9 hL) hS hzn
  have hel : el L z = L[z.toNat] := by simp [el, List.getD_eq_getElem?_getD, List.getElem?_eq_getElem hzn]
  have h9 : (el L z).length = 9 := by rw [hel]; exact hL _ (List.getElem_mem hzn)
  rw [← hel] at h4
  exact ⟨b, o, c, h2, h3, h4, h9, fun j hj => at_tk h4 hj (at_Is (by omega))⟩

theorem begin_ok {A : Option Addr} {cap : Nat} (L : List (List Int)) (hL : Nine L) {H : Heap} (hS : SlT H Is 9 (.slice A L.length cap) L) (hm : L.length ≤ 9223372036854775807) : ∀ (f : Nat) (z : Int), 0 ≤ z → z < L.length → z.toNat < f →
    Ret Try.prog 86 [.slice A L.length cap, I z] H (fun v H' => v = I (bgn L f z) ∧ H' = H) := by
  intro f
  induction f with
  | zero => intro z _ _ h; omega
  | succ f ihf =>
  intro z hz0 hzl hzf
  obtain ⟨b0, o0, c0, rfl, hb0, hbd, hx9, hat⟩ := el_cells hL hS hz0 hzl
  have hfin := bgn_succ L f z
  generalize el L z = x at hfin hbd hx9 hat
  refine Ret.of_at (N := 50) Try.call86 Try.func86 rfl rfl rfl ?_
  refine At.region rfl rfl ?_
  refine Reg.pur rfl rfl rfl rfl (Pur.asg rfl) ?_
  refine Reg.nil ?_
  refine At.region rfl rfl ?_
  refine Reg.pur rfl rfl rfl rfl (Pur.mv rfl) ?_
  refine Reg.pur rfl rfl rfl rfl (Pur.mv rfl) ?_
  refine Reg.pur rfl rfl rfl rfl (Pur.idx _ es23 rfl rfl (by omega) (by omega)) ?_
  refine Reg.pur rfl rfl rfl rfl (Pur.asg rfl) ?_
  refine Reg.nil ?_
  refine At.region rfl rfl ?_
  refine Reg.pur rfl rfl rfl rfl (Pur.mv rfl) ?_
  refine Reg.pur rfl rfl rfl rfl (Pur.nilc rfl) ?_
  refine Reg.pur rfl rfl rfl rfl (Pur.fld _ fo47_0 rfl) ?_
  refine Reg.lod rfl rfl rfl rfl (Lod.ld sc3 rfl hb0 (hat 0 (by omega))) ?_
  refine Reg.pur rfl rfl rfl rfl (Pur.neq rfl rfl) ?_
  refine Reg.nil ?_
  refine At.cond rfl rfl (fun hb1 => ?_) (fun hb1 => ?_)
  · refine At.region rfl rfl ?_
    refine Reg.pur rfl rfl rfl rfl (Pur.mv rfl) ?_
    refine Reg.pur rfl rfl rfl rfl (Pur.asg rfl) ?_
    refine Reg.nil ?_
    refine At.ret rfl Try.func86 rfl ?_
    refine ⟨congrArg I ?_, rfl⟩
    try simp only [decide_eq_true_eq, decide_eq_false_iff_not] at *
    rw [hfin]
    first | (rw [if_pos (by omega)]; done) | (rw [if_neg (by omega), if_pos (by omega)]; done) | (rw [if_neg (by omega), if_neg (by omega), if_pos (by omega)]; done) | (rw [if_neg (by omega), if_neg (by omega), if_neg (by omega)]; done)
  · refine At.region rfl rfl ?_
    refine Reg.pur rfl rfl rfl rfl (Pur.mv rfl) ?_
    refine Reg.pur rfl rfl rfl rfl (Pur.eql rfl rfl) ?_
    refine Reg.pur rfl rfl rfl rfl (Pur.mv rfl) ?_
    refine Reg.case 18 rfl (fun hc2 => ?_) (fun hc2 => ?_)
    · refine Reg.skip rfl rfl rfl rfl rfl rfl rfl ?_
      refine Reg.skip rfl rfl rfl rfl rfl rfl rfl ?_
      refine Reg.skip rfl rfl rfl rfl rfl rfl rfl ?_
      refine Reg.skip rfl rfl rfl rfl rfl rfl rfl ?_
      refine Reg.skip rfl rfl rfl rfl rfl rfl rfl ?_
      refine Reg.skip rfl rfl rfl rfl rfl rfl rfl ?_
      refine Reg.skip rfl rfl rfl rfl rfl rfl rfl ?_
      refine Reg.pur rfl rfl rfl rfl (Pur.pickT rfl rfl) ?_
      refine Reg.nil ?_
      refine At.condT rfl rfl rfl ?_
      refine At.region rfl rfl ?_
      refine Reg.pur rfl rfl rfl rfl (Pur.asg rfl) ?_
      refine Reg.nil ?_
      refine At.ret rfl Try.func86 rfl ?_
      refine ⟨congrArg I ?_, rfl⟩
      try simp only [decide_eq_true_eq, decide_eq_false_iff_not] at *
      rw [hfin]
      first | (rw [if_pos (by omega)]; done) | (rw [if_neg (by omega), if_pos (by omega)]; done) | (rw [if_neg (by omega), if_neg (by omega), if_pos (by omega)]; done) | (rw [if_neg (by omega), if_neg (by omega), if_neg (by omega)]; done)
    · refine Reg.gpur rfl rfl rfl rfl rfl rfl (Pur.mv rfl) ?_
      refine Reg.gpur rfl rfl rfl rfl rfl rfl (Pur.nilc rfl) ?_
      refine Reg.gpur rfl rfl rfl rfl rfl rfl (Pur.fld _ fo47_3 rfl) ?_
      refine Reg.glod rfl rfl rfl rfl rfl rfl (Lod.ld sc3 rfl hb0 (hat 3 (by omega))) ?_
      refine Reg.gpur rfl rfl rfl rfl rfl rfl (Pur.mv rfl) ?_
      first | refine Reg.gpur rfl rfl rfl rfl rfl rfl (Pur.sub64 rfl rfl (by omega)) ?_ | refine Reg.gpur rfl rfl rfl rfl rfl rfl (Pur.sub64 rfl rfl (by assumption)) ?_ | refine Reg.gpur rfl rfl rfl rfl rfl rfl (Pur.sub rfl rfl) ?_
      refine Reg.gpur rfl rfl rfl rfl rfl rfl (Pur.neq rfl rfl) ?_
      refine Reg.pur rfl rfl rfl rfl (Pur.pickF rfl rfl) ?_
      refine Reg.nil ?_
      refine At.cond rfl rfl (fun hb3 => ?_) (fun hb3 => ?_)
      · refine At.region rfl rfl ?_
        refine Reg.pur rfl rfl rfl rfl (Pur.asg rfl) ?_
        refine Reg.nil ?_
        refine At.ret rfl Try.func86 rfl ?_
        refine ⟨congrArg I ?_, rfl⟩
        try simp only [decide_eq_true_eq, decide_eq_false_iff_not] at *
        rw [hfin]
        first | (rw [if_pos (by omega)]; done) | (rw [if_neg (by omega), if_pos (by omega)]; done) | (rw [if_neg (by omega), if_neg (by omega), if_pos (by omega)]; done) | (rw [if_neg (by omega), if_neg (by omega), if_neg (by omega)]; done)
      · simp only [decide_eq_true_eq, decide_eq_false_iff_not] at *
        have hle := bgn_le L f (x.getD 3 0) (by omega)
        refine At.region rfl rfl ?_
        refine Reg.pur rfl rfl rfl rfl (Pur.mv rfl) ?_
        refine Reg.pur rfl rfl rfl rfl (Pur.mv rfl) ?_
        refine Reg.pur rfl rfl rfl rfl (Pur.nilc rfl) ?_
        refine Reg.pur rfl rfl rfl rfl (Pur.fld _ fo47_3 rfl) ?_
        refine Reg.lod rfl rfl rfl rfl (Lod.ld sc3 rfl hb0 (hat 3 (by omega))) ?_
        refine Reg.op rfl rfl rfl rfl (Does.call rfl (ihf (x.getD 3 0) (by omega) (by omega) (by omega))) ?_
        rintro _ H ⟨rfl, rfl⟩
        refine Reg.pur rfl rfl rfl rfl (Pur.asg rfl) ?_
        refine Reg.nil ?_
        refine At.region rfl rfl ?_
        refine Reg.pur rfl rfl rfl rfl (Pur.mv rfl) ?_
        refine Reg.pur rfl rfl rfl rfl (Pur.lss rfl rfl) ?_
        refine Reg.pur rfl rfl rfl rfl (Pur.mv rfl) ?_
        refine Reg.case 35 rfl (fun hc4 => ?_) (fun hc4 => ?_)
        · refine Reg.skip rfl rfl rfl rfl rfl rfl rfl ?_
          refine Reg.skip rfl rfl rfl rfl rfl rfl rfl ?_
          refine Reg.skip rfl rfl rfl rfl rfl rfl rfl ?_
          refine Reg.skip rfl rfl rfl rfl rfl rfl rfl ?_
          refine Reg.skip rfl rfl rfl rfl rfl rfl rfl ?_
          try simp only [decide_eq_false_iff_not] at hc4
          refine Reg.skip rfl rfl rfl rfl rfl rfl rfl ?_
          refine Reg.skip rfl rfl rfl rfl rfl rfl rfl ?_
          refine Reg.pur rfl rfl rfl rfl (Pur.pickT rfl rfl) ?_
          refine Reg.nil ?_
          refine At.condT rfl rfl rfl ?_
          refine At.region rfl rfl ?_
          refine Reg.pur rfl rfl rfl rfl (Pur.asg rfl) ?_
          refine Reg.nil ?_
          refine At.ret rfl Try.func86 rfl ?_
          refine ⟨congrArg I ?_, rfl⟩
          try simp only [decide_eq_true_eq, decide_eq_false_iff_not] at *
          rw [hfin]
          first | (rw [if_pos (by omega)]; done) | (rw [if_neg (by omega), if_pos (by omega)]; done) | (rw [if_neg (by omega), if_neg (by omega), if_pos (by omega)]; done) | (rw [if_neg (by omega), if_neg (by omega), if_neg (by omega)]; done)
        · refine Reg.gpur rfl rfl rfl rfl rfl rfl (Pur.mv rfl) ?_
          refine Reg.gpur rfl rfl rfl rfl rfl rfl (Pur.nilc rfl) ?_
          refine Reg.gpur rfl rfl rfl rfl rfl rfl (Pur.fld _ fo47_2 rfl) ?_
          refine Reg.glod rfl rfl rfl rfl rfl rfl (Lod.ld sc3 rfl hb0 (hat 2 (by omega))) ?_
          refine Reg.gpur rfl rfl rfl rfl rfl rfl (Pur.mv rfl) ?_
          try simp only [decide_eq_false_iff_not] at hc4
          first | refine Reg.gpur rfl rfl rfl rfl rfl rfl (Pur.sub64 rfl rfl (by omega)) ?_ | refine Reg.gpur rfl rfl rfl rfl rfl rfl (Pur.sub64 rfl rfl (by assumption)) ?_ | refine Reg.gpur rfl rfl rfl rfl rfl rfl (Pur.sub rfl rfl) ?_
          refine Reg.gpur rfl rfl rfl rfl rfl rfl (Pur.neq rfl rfl) ?_
          refine Reg.pur rfl rfl rfl rfl (Pur.pickF rfl rfl) ?_
          refine Reg.nil ?_
          refine At.cond rfl rfl (fun hb5 => ?_) (fun hb5 => ?_)
          · refine At.region rfl rfl ?_
            refine Reg.pur rfl rfl rfl rfl (Pur.asg rfl) ?_
            refine Reg.nil ?_
            refine At.ret rfl Try.func86 rfl ?_
            refine ⟨congrArg I ?_, rfl⟩
            try simp only [decide_eq_true_eq, decide_eq_false_iff_not] at *
            rw [hfin]
            first | (rw [if_pos (by omega)]; done) | (rw [if_neg (by omega), if_pos (by omega)]; done) | (rw [if_neg (by omega), if_neg (by omega), if_pos (by omega)]; done) | (rw [if_neg (by omega), if_neg (by omega), if_neg (by omega)]; done)
          · try simp only [decide_eq_true_eq, decide_eq_false_iff_not] at *
            refine At.region rfl rfl ?_
            refine Reg.pur rfl rfl rfl rfl (Pur.mv rfl) ?_
            refine Reg.pur rfl rfl rfl rfl (Pur.mv rfl) ?_
            refine Reg.pur rfl rfl rfl rfl (Pur.nilc rfl) ?_
            refine Reg.pur rfl rfl rfl rfl (Pur.fld _ fo47_2 rfl) ?_
            refine Reg.lod rfl rfl rfl rfl (Lod.ld sc3 rfl hb0 (hat 2 (by omega))) ?_
            refine Reg.op rfl rfl rfl rfl (Does.call rfl (ihf (x.getD 2 0) (by omega) (by omega) (by omega))) ?_
            rintro _ H ⟨rfl, rfl⟩
            refine Reg.pur rfl rfl rfl rfl (Pur.asg rfl) ?_
            refine Reg.nil ?_
            refine At.ret rfl Try.func86 rfl ?_
            refine ⟨congrArg I ?_, rfl⟩
            try simp only [decide_eq_true_eq, decide_eq_false_iff_not] at *
            rw [hfin]
            first | (rw [if_pos (by omega)]; done) | (rw [if_neg (by omega), if_pos (by omega)]; done) | (rw [if_neg (by omega), if_neg (by omega), if_pos (by omega)]; done) | (rw [if_neg (by omega), if_neg (by omega), if_neg (by omega)]; done)

theorem beginR_ok {A : Option Addr} {cap : Nat} (L : List (List Int)) (hL : Nine L) {H : Heap} (hS : SlT H Is 9 (.slice A L.length cap) L) (hm : L.length ≤ 9223372036854775807) : ∀ (f : Nat) (z : Int), 0 ≤ z → z < L.length → z.toNat < f →
    Ret Try.prog 74 [.slice A L.length cap, I z] H (fun v H' => v = I (bgn L f z) ∧ H' = H) := by
  intro f
  induction f with
  | zero => intro z _ _ h; omega
  | succ f ihf =>
  intro z hz0 hzl hzf
  obtain ⟨b0, o0, c0, rfl, hb0, hbd, hx9, hat⟩ := el_cells hL hS hz0 hzl
  have hfin := bgn_succ L f z
  generalize el L z = x at hfin hbd hx9 hat
  refine Ret.of_at (N := 49) Try.call74 Try.func74 rfl rfl rfl ?_
  refine At.region rfl rfl ?_
  refine Reg.pur rfl rfl rfl rfl (Pur.asg rfl) ?_
  refine Reg.nil ?_
  refine At.region rfl rfl ?_
  refine Reg.pur rfl rfl rfl rfl (Pur.mv rfl) ?_
  refine Reg.pur rfl rfl rfl rfl (Pur.mv rfl) ?_
  refine Reg.pur rfl rfl rfl rfl (Pur.idx _ es23 rfl rfl (by omega) (by omega)) ?_
  refine Reg.pur rfl rfl rfl rfl (Pur.fld _ fo47_0 rfl) ?_
  refine Reg.lod rfl rfl rfl rfl (Lod.ld sc3 rfl hb0 (hat 0 (by omega))) ?_
  refine Reg.pur rfl rfl rfl rfl (Pur.neq rfl rfl) ?_
  refine Reg.nil ?_
  refine At.cond rfl rfl (fun hb1 => ?_) (fun hb1 => ?_)
  · refine At.region rfl rfl ?_
    refine Reg.pur rfl rfl rfl rfl (Pur.mv rfl) ?_
    refine Reg.pur rfl rfl rfl rfl (Pur.asg rfl) ?_
    refine Reg.nil ?_
    refine At.ret rfl Try.func74 rfl ?_
    refine ⟨congrArg I ?_, rfl⟩
    try simp only [decide_eq_true_eq, decide_eq_false_iff_not] at *
    rw [hfin]
    first | (rw [if_pos (by omega)]; done) | (rw [if_neg (by omega), if_pos (by omega)]; done) | (rw [if_neg (by omega), if_neg (by omega), if_pos (by omega)]; done) | (rw [if_neg (by omega), if_neg (by omega), if_neg (by omega)]; done)
  · refine At.region rfl rfl ?_
    refine Reg.pur rfl rfl rfl rfl (Pur.mv rfl) ?_
    refine Reg.pur rfl rfl rfl rfl (Pur.mv rfl) ?_
    refine Reg.pur rfl rfl rfl rfl (Pur.idx _ es23 rfl rfl (by omega) (by omega)) ?_
    refine Reg.pur rfl rfl rfl rfl (Pur.fld _ fo47_3 rfl) ?_
    refine Reg.lod rfl rfl rfl rfl (Lod.ld sc3 rfl hb0 (hat 3 (by omega))) ?_
    refine Reg.pur rfl rfl rfl rfl (Pur.asg rfl) ?_
    refine Reg.nil ?_
    refine At.region rfl rfl ?_
    refine Reg.pur rfl rfl rfl rfl (Pur.mv rfl) ?_
    refine Reg.pur rfl rfl rfl rfl (Pur.mv rfl) ?_
    first | refine Reg.pur rfl rfl rfl rfl (Pur.sub64 rfl rfl (by omega)) ?_ | refine Reg.pur rfl rfl rfl rfl (Pur.sub64 rfl rfl (by assumption)) ?_ | refine Reg.pur rfl rfl rfl rfl (Pur.sub rfl rfl) ?_
    refine Reg.pur rfl rfl rfl rfl (Pur.neq rfl rfl) ?_
    refine Reg.pur rfl rfl rfl rfl (Pur.mv rfl) ?_
    refine Reg.case 23 rfl (fun hc2 => ?_) (fun hc2 => ?_)
    · refine Reg.skip rfl rfl rfl rfl rfl rfl rfl ?_
      refine Reg.skip rfl rfl rfl rfl rfl rfl rfl ?_
      refine Reg.pur rfl rfl rfl rfl (Pur.pickT rfl rfl) ?_
      refine Reg.nil ?_
      refine At.condT rfl rfl rfl ?_
      refine At.region rfl rfl ?_
      refine Reg.pur rfl rfl rfl rfl (Pur.asg rfl) ?_
      refine Reg.nil ?_
      refine At.ret rfl Try.func74 rfl ?_
      refine ⟨congrArg I ?_, rfl⟩
      try simp only [decide_eq_true_eq, decide_eq_false_iff_not] at *
      rw [hfin]
      first | (rw [if_pos (by omega)]; done) | (rw [if_neg (by omega), if_pos (by omega)]; done) | (rw [if_neg (by omega), if_neg (by omega), if_pos (by omega)]; done) | (rw [if_neg (by omega), if_neg (by omega), if_neg (by omega)]; done)
    · refine Reg.gpur rfl rfl rfl rfl rfl rfl (Pur.mv rfl) ?_
      refine Reg.gpur rfl rfl rfl rfl rfl rfl (Pur.lss rfl rfl) ?_
      refine Reg.pur rfl rfl rfl rfl (Pur.pickF rfl rfl) ?_
      refine Reg.nil ?_
      refine At.cond rfl rfl (fun hb3 => ?_) (fun hb3 => ?_)
      · refine At.region rfl rfl ?_
        refine Reg.pur rfl rfl rfl rfl (Pur.asg rfl) ?_
        refine Reg.nil ?_
        refine At.ret rfl Try.func74 rfl ?_
        refine ⟨congrArg I ?_, rfl⟩
        try simp only [decide_eq_true_eq, decide_eq_false_iff_not] at *
        rw [hfin]
        first | (rw [if_pos (by omega)]; done) | (rw [if_neg (by omega), if_pos (by omega)]; done) | (rw [if_neg (by omega), if_neg (by omega), if_pos (by omega)]; done) | (rw [if_neg (by omega), if_neg (by omega), if_neg (by omega)]; done)
      · simp only [decide_eq_true_eq, decide_eq_false_iff_not] at *
        have hle := bgn_le L f (x.getD 3 0) (by omega)
        refine At.region rfl rfl ?_
        refine Reg.pur rfl rfl rfl rfl (Pur.mv rfl) ?_
        refine Reg.pur rfl rfl rfl rfl (Pur.mv rfl) ?_
        refine Reg.op rfl rfl rfl rfl (Does.call rfl (ihf (x.getD 3 0) (by omega) (by omega) (by omega))) ?_
        rintro _ H ⟨rfl, rfl⟩
        refine Reg.pur rfl rfl rfl rfl (Pur.asg rfl) ?_
        refine Reg.nil ?_
        refine At.region rfl rfl ?_
        refine Reg.pur rfl rfl rfl rfl (Pur.mv rfl) ?_
        refine Reg.pur rfl rfl rfl rfl (Pur.lss rfl rfl) ?_
        refine Reg.pur rfl rfl rfl rfl (Pur.mv rfl) ?_
        refine Reg.case 32 rfl (fun hc4 => ?_) (fun hc4 => ?_)
        · refine Reg.skip rfl rfl rfl rfl rfl rfl rfl ?_
          refine Reg.skip rfl rfl rfl rfl rfl rfl rfl ?_
          refine Reg.skip rfl rfl rfl rfl rfl rfl rfl ?_
          refine Reg.skip rfl rfl rfl rfl rfl rfl rfl ?_
          refine Reg.skip rfl rfl rfl rfl rfl rfl rfl ?_
          refine Reg.skip rfl rfl rfl rfl rfl rfl rfl ?_
          try simp only [decide_eq_false_iff_not] at hc4
          refine Reg.skip rfl rfl rfl rfl rfl rfl rfl ?_
          refine Reg.skip rfl rfl rfl rfl rfl rfl rfl ?_
          refine Reg.pur rfl rfl rfl rfl (Pur.pickT rfl rfl) ?_
          refine Reg.nil ?_
          refine At.condT rfl rfl rfl ?_
          refine At.region rfl rfl ?_
          refine Reg.pur rfl rfl rfl rfl (Pur.asg rfl) ?_
          refine Reg.nil ?_
          refine At.ret rfl Try.func74 rfl ?_
          refine ⟨congrArg I ?_, rfl⟩
          try simp only [decide_eq_true_eq, decide_eq_false_iff_not] at *
          rw [hfin]
          first | (rw [if_pos (by omega)]; done) | (rw [if_neg (by omega), if_pos (by omega)]; done) | (rw [if_neg (by omega), if_neg (by omega), if_pos (by omega)]; done) | (rw [if_neg (by omega), if_neg (by omega), if_neg (by omega)]; done)
        · refine Reg.gpur rfl rfl rfl rfl rfl rfl (Pur.mv rfl) ?_
          refine Reg.gpur rfl rfl rfl rfl rfl rfl (Pur.mv rfl) ?_
          refine Reg.gpur rfl rfl rfl rfl rfl rfl (Pur.idx _ es23 rfl rfl (by omega) (by omega)) ?_
          refine Reg.gpur rfl rfl rfl rfl rfl rfl (Pur.fld _ fo47_2 rfl) ?_
          refine Reg.glod rfl rfl rfl rfl rfl rfl (Lod.ld sc3 rfl hb0 (hat 2 (by omega))) ?_
          refine Reg.gpur rfl rfl rfl rfl rfl rfl (Pur.mv rfl) ?_
          try simp only [decide_eq_false_iff_not] at hc4
          first | refine Reg.gpur rfl rfl rfl rfl rfl rfl (Pur.sub64 rfl rfl (by omega)) ?_ | refine Reg.gpur rfl rfl rfl rfl rfl rfl (Pur.sub64 rfl rfl (by assumption)) ?_ | refine Reg.gpur rfl rfl rfl rfl rfl rfl (Pur.sub rfl rfl) ?_
          refine Reg.gpur rfl rfl rfl rfl rfl rfl (Pur.neq rfl rfl) ?_
          refine Reg.pur rfl rfl rfl rfl (Pur.pickF rfl rfl) ?_
          refine Reg.nil ?_
          refine At.cond rfl rfl (fun hb5 => ?_) (fun hb5 => ?_)
          · refine At.region rfl rfl ?_
            refine Reg.pur rfl rfl rfl rfl (Pur.asg rfl) ?_
            refine Reg.nil ?_
            refine At.ret rfl Try.func74 rfl ?_
            refine ⟨congrArg I ?_, rfl⟩
            try simp only [decide_eq_true_eq, decide_eq_false_iff_not] at *
            rw [hfin]
            first | (rw [if_pos (by omega)]; done) | (rw [if_neg (by omega), if_pos (by omega)]; done) | (rw [if_neg (by omega), if_neg (by omega), if_pos (by omega)]; done) | (rw [if_neg (by omega), if_neg (by omega), if_neg (by omega)]; done)
          · try simp only [decide_eq_true_eq, decide_eq_false_iff_not] at *
            refine At.region rfl rfl ?_
            refine Reg.pur rfl rfl rfl rfl (Pur.mv rfl) ?_
            refine Reg.pur rfl rfl rfl rfl (Pur.mv rfl) ?_
            refine Reg.pur rfl rfl rfl rfl (Pur.mv rfl) ?_
            refine Reg.pur rfl rfl rfl rfl (Pur.idx _ es23 rfl rfl (by omega) (by omega)) ?_
            refine Reg.pur rfl rfl rfl rfl (Pur.fld _ fo47_2 rfl) ?_
            refine Reg.lod rfl rfl rfl rfl (Lod.ld sc3 rfl hb0 (hat 2 (by omega))) ?_
            refine Reg.op rfl rfl rfl rfl (Does.call rfl (ihf (x.getD 2 0) (by omega) (by omega) (by omega))) ?_
            rintro _ H ⟨rfl, rfl⟩
            refine Reg.pur rfl rfl rfl rfl (Pur.asg rfl) ?_
            refine Reg.nil ?_
            refine At.ret rfl Try.func74 rfl ?_
            refine ⟨congrArg I ?_, rfl⟩
            try simp only [decide_eq_true_eq, decide_eq_false_iff_not] at *
            rw [hfin]
            first | (rw [if_pos (by omega)]; done) | (rw [if_neg (by omega), if_pos (by omega)]; done) | (rw [if_neg (by omega), if_neg (by omega), if_pos (by omega)]; done) | (rw [if_neg (by omega), if_neg (by omega), if_neg (by omega)]; done)
end Go.Proofs.Ytlfillhffpiffaa
