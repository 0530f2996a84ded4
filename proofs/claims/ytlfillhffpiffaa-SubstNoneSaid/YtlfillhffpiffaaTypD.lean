/-
  typ.May, the reference's TypeMay.
-/
import Derived.Test.YtlfillhffpiffaaTypC
namespace Go.Proofs.Ytlfillhffpiffaa
set_option linter.unusedSimpArgs false
set_option linter.unusedVariables false
set_option maxRecDepth 8000
open Go Go.Fx Go.Proofs
namespace FactsTypD
theorem ag28 : ag Try.prog 28 = some 5 := by kernel_rfl
theorem ag47 : ag Try.prog 47 = some 9 := by kernel_rfl
theorem eqt47 : eqT Try.prog 47 = some [.int .i64, .int .i64, .int .i64, .int .i64, .int .i64, .int .i64, .int .i64, .int .i64, .int .i64] := by kernel_rfl
theorem es23 : esz Try.prog 23 = some 9 := by kernel_rfl
theorem fo25_0 : foff Try.prog 25 0 = some 0 := by kernel_rfl
theorem fo47_0 : foff Try.prog 47 0 = some 0 := by kernel_rfl
theorem fo47_1 : foff Try.prog 47 1 = some 1 := by kernel_rfl
theorem fo47_2 : foff Try.prog 47 2 = some 2 := by kernel_rfl
theorem fo47_3 : foff Try.prog 47 3 = some 3 := by kernel_rfl
theorem fo47_4 : foff Try.prog 47 4 = some 4 := by kernel_rfl
theorem isl23 : isSl Try.prog 23 = true := by kernel_rfl
theorem pl47 : places Try.prog 47 = some [(0, 1), (1, 1), (2, 1), (3, 1), (4, 5)] := by kernel_rfl
theorem sc23 : sc Try.prog 23 = true := by kernel_rfl
theorem sc3 : sc Try.prog 3 = true := by kernel_rfl
theorem zc47 : zc Try.prog 47 = some [.int .i64 0, .int .i64 0, .int .i64 0, .int .i64 0, .int .i64 0, .int .i64 0, .int .i64 0, .int .i64 0, .int .i64 0] := by kernel_rfl
end FactsTypD
open FactsTypD

theorem nodMay_ok9 {x : List Int} (hx : x.length = 9) (H : Heap) : Ret Try.prog 85 [.agg (Is x).toArray] H (fun r H' => r = .bool (nodM x) ∧ Ext H H') := by
  match x, hx with
  | [k, v, a, b, c, d, e, f, t], _ => exact nodMay_ok k v a b c d e f t H
def typM (L : List (List Int)) : Bool := decide (1 ≤ L.length ∧ L.length ≤ 256) && L.all nodM && decide (bgn L L.length ((L.length : Int) - 1) = 0)
/-- a type: its one cell -/
abbrev Ty (A : Option Addr) (len cap : Nat) : Value := .agg #[.slice A len cap]

theorem typMay_ok {A : Option Addr} {cap : Nat} (L : List (List Int)) (hL : Nine L) {H : Heap} (hS : SlT H Is 9 (.slice A L.length cap) L) (hm : L.length ≤ 9223372036854775807) :
    Ret Try.prog 54 [Ty A L.length cap] H (fun v H' => v = .bool (typM L) ∧ Ext H H') := by
  refine Ret.of_at (N := 32) Try.call54 Try.func54 rfl rfl rfl ?_
  refine At.region rfl rfl ?_
  refine Reg.op rfl rfl rfl rfl (Does.box rfl rfl) ?_
  rintro _ H1 ⟨rfl, hn1⟩
  refine Reg.pur rfl rfl rfl rfl (Pur.asg rfl) ?_
  refine Reg.nil ?_
  have hB := hn1.own.blk
  have hS1 := hS.ext hn1.ext
  refine At.region rfl rfl ?_
  refine Reg.pur rfl rfl rfl rfl (Pur.fld _ fo25_0 rfl) ?_
  refine Reg.lod rfl rfl rfl rfl (Lod.ld sc23 rfl hB rfl) ?_
  refine Reg.pur rfl rfl rfl rfl (Pur.lenS isl23 rfl) ?_
  refine Reg.pur rfl rfl rfl rfl (Pur.asg rfl) ?_
  refine Reg.nil ?_
  refine At.region rfl rfl ?_
  refine Reg.pur rfl rfl rfl rfl (Pur.mv rfl) ?_
  refine Reg.pur rfl rfl rfl rfl (Pur.lss rfl rfl) ?_
  refine Reg.pur rfl rfl rfl rfl (Pur.mv rfl) ?_
  refine Reg.case 11 rfl (fun hc1 => ?_) (fun hc1 => ?_)
  · refine Reg.skip rfl rfl rfl rfl rfl rfl rfl ?_
    refine Reg.skip rfl rfl rfl rfl rfl rfl rfl ?_
    refine Reg.pur rfl rfl rfl rfl (Pur.pickT rfl rfl) ?_
    refine Reg.nil ?_
    refine At.condT rfl rfl rfl ?_
    refine At.region rfl rfl ?_
    refine Reg.pur rfl rfl rfl rfl (Pur.asg rfl) ?_
    refine Reg.nil ?_
    refine At.ret rfl Try.func54 rfl ?_
    first | exact ⟨congrArg Value.bool (by unfold typM; simp only [decide_eq_true_eq] at *; rw [decide_eq_false (by omega)]; rfl), hn1.ext⟩ | exact ⟨congrArg Value.bool (by unfold typM; rw [all_of_take hlt (by simpa using hb4)]; simp), hn1.ext.trans (hE.trans (hE4.trans hE5))⟩ | exact ⟨congrArg Value.bool (by simp only [decide_eq_false_iff_not] at *; rw [List.take_of_length_le (by omega)] at hgo; unfold typM; rw [hgo, decide_eq_true (p := 1 ≤ L.length ∧ L.length ≤ 256) (by omega)]; rfl), hn1.ext.trans hE⟩
  · refine Reg.gpur rfl rfl rfl rfl rfl rfl (Pur.mv rfl) ?_
    refine Reg.gpur rfl rfl rfl rfl rfl rfl (Pur.gtr rfl rfl) ?_
    refine Reg.pur rfl rfl rfl rfl (Pur.pickF rfl rfl) ?_
    refine Reg.nil ?_
    refine At.cond rfl rfl (fun hb2 => ?_) (fun hb2 => ?_)
    · refine At.region rfl rfl ?_
      refine Reg.pur rfl rfl rfl rfl (Pur.asg rfl) ?_
      refine Reg.nil ?_
      refine At.ret rfl Try.func54 rfl ?_
      first | exact ⟨congrArg Value.bool (by unfold typM; simp only [decide_eq_true_eq] at *; rw [decide_eq_false (by omega)]; rfl), hn1.ext⟩ | exact ⟨congrArg Value.bool (by unfold typM; rw [all_of_take hlt (by simpa using hb4)]; simp), hn1.ext.trans (hE.trans (hE4.trans hE5))⟩ | exact ⟨congrArg Value.bool (by simp only [decide_eq_false_iff_not] at *; rw [List.take_of_length_le (by omega)] at hgo; unfold typM; rw [hgo, decide_eq_true (p := 1 ≤ L.length ∧ L.length ≤ 256) (by omega)]; rfl), hn1.ext.trans hE⟩
    · refine At.region rfl rfl ?_
      refine Reg.pur rfl rfl rfl rfl (Pur.fld _ fo25_0 rfl) ?_
      refine Reg.lod rfl rfl rfl rfl (Lod.ld sc23 rfl hB rfl) ?_
      refine Reg.pur rfl rfl rfl rfl (Pur.lenS isl23 rfl) ?_
      refine Reg.pur rfl rfl rfl rfl (Pur.mv rfl) ?_
      refine Reg.nil ?_
      refine At.loop (σ := Nat) (fun i => [(18, I i), (17, I L.length), (16, .slice A L.length cap), (1, ptr H.size 0), (3, I L.length)]) (fun i H' => i ≤ L.length ∧ Ext H1 H' ∧ (L.take i).all nodM = true) (fun i => L.length - i) 0 rfl ⟨rfl, rfl, rfl, rfl, rfl, trivial⟩ ⟨by omega, Ext.refl _, rfl⟩ ?_
      rintro i H2 ⟨hi, hE, hgo⟩ ih
      refine At.region rfl rfl ?_
      refine Reg.pur rfl rfl rfl rfl (Pur.lss rfl rfl) ?_
      refine Reg.nil ?_
      refine At.cond rfl rfl (fun hb3 => ?_) (fun hb3 => ?_)
      · simp only [decide_eq_true_eq] at hb3
        have hlt : i < L.length := by omega
        obtain ⟨b, o, c, rfl, hB2, hd, h9⟩ := sl_at (wide9 hL) (hS1.ext hE) hlt
        have h9' := hL _ (List.getElem_mem hlt)
        refine At.region rfl rfl ?_
        refine Reg.pur rfl rfl rfl rfl (Pur.idx _ es23 rfl rfl (by omega) hb3) ?_
        refine Reg.lod rfl rfl rfl rfl (Lod.ldn ag47 rfl hB2 hd h9) ?_
        refine Reg.op rfl rfl rfl rfl (Does.alloc zc47) ?_
        rintro _ H3 ⟨rfl, hn3⟩
        refine Reg.op0 rfl rfl rfl (Does.stn ag47 rfl rfl (ones_Is _) h9 hn3.own (by decide)) ?_
        rintro _ H4 hu4
        refine Reg.nil ?_
        have hX : Own H4 H2.size (Is L[i]) := by have := hu4.own; rwa [over (by rfl)] at this
        have hE4 : Ext H2 H4 := hn3.ext.upd hu4 (Nat.le_refl _)
        refine At.region rfl rfl ?_
        refine Reg.lod rfl rfl rfl rfl (Lod.ldn ag47 rfl hX.blk (whole h9) h9) ?_
        refine Reg.op rfl rfl rfl rfl (Does.call rfl (nodMay_ok9 h9' _)) ?_
        rintro _ H5 ⟨rfl, hE5⟩
        refine Reg.pur rfl rfl rfl rfl (Pur.not rfl) ?_
        refine Reg.nil ?_
        refine At.cond rfl rfl (fun hb4 => ?_) (fun hb4 => ?_)
        · refine At.region rfl rfl ?_
          refine Reg.pur rfl rfl rfl rfl (Pur.asg rfl) ?_
          refine Reg.nil ?_
          refine At.ret rfl Try.func54 rfl ?_
          first | exact ⟨congrArg Value.bool (by unfold typM; simp only [decide_eq_true_eq] at *; rw [decide_eq_false (by omega)]; rfl), hn1.ext⟩ | exact ⟨congrArg Value.bool (by unfold typM; rw [all_of_take hlt (by simpa using hb4)]; simp), hn1.ext.trans (hE.trans (hE4.trans hE5))⟩ | exact ⟨congrArg Value.bool (by simp only [decide_eq_false_iff_not] at *; rw [List.take_of_length_le (by omega)] at hgo; unfold typM; rw [hgo, decide_eq_true (p := 1 ≤ L.length ∧ L.length ≤ 256) (by omega)]; rfl), hn1.ext.trans hE⟩
        · refine At.region rfl rfl ?_
          first | refine Reg.pur rfl rfl rfl rfl (Pur.add64 rfl rfl (by omega)) ?_ | refine Reg.pur rfl rfl rfl rfl (Pur.add64 rfl rfl (by assumption)) ?_ | refine Reg.pur rfl rfl rfl rfl (Pur.add rfl rfl) ?_
          refine Reg.pur rfl rfl rfl rfl (Pur.mv rfl) ?_
          refine Reg.nil ?_
          refine At.via (ih (i + 1) H5 ⟨by omega, hE.trans (hE4.trans hE5), ?_⟩ (by omega)) ⟨rfl, rfl, rfl, rfl, rfl, trivial⟩
          rw [all_take hlt, hgo]; simpa using hb4
      · have hlen : 1 ≤ L.length ∧ L.length ≤ 256 := by simp only [decide_eq_false_iff_not] at *; omega
        refine At.region rfl rfl ?_
        refine Reg.pur rfl rfl rfl rfl (Pur.fld _ fo25_0 rfl) ?_
        refine Reg.lod rfl rfl rfl rfl (Lod.ld sc23 rfl (hB.ext hE) rfl) ?_
        refine Reg.pur rfl rfl rfl rfl (Pur.mv rfl) ?_
        first | refine Reg.pur rfl rfl rfl rfl (Pur.sub64 rfl rfl (by omega)) ?_ | refine Reg.pur rfl rfl rfl rfl (Pur.sub64 rfl rfl (by assumption)) ?_ | refine Reg.pur rfl rfl rfl rfl (Pur.sub rfl rfl) ?_
        refine Reg.op rfl rfl rfl rfl (Does.call rfl (begin_ok L hL (hS1.ext hE) hm L.length _ (by omega) (by omega) (by omega))) ?_
        rintro _ H2 ⟨rfl, rfl⟩
        refine Reg.pur rfl rfl rfl rfl (Pur.eql rfl rfl) ?_
        refine Reg.pur rfl rfl rfl rfl (Pur.asg rfl) ?_
        refine Reg.nil ?_
        refine At.ret rfl Try.func54 rfl ?_
        first | exact ⟨congrArg Value.bool (by unfold typM; simp only [decide_eq_true_eq] at *; rw [decide_eq_false (by omega)]; rfl), hn1.ext⟩ | exact ⟨congrArg Value.bool (by unfold typM; rw [all_of_take hlt (by simpa using hb4)]; simp), hn1.ext.trans (hE.trans (hE4.trans hE5))⟩ | exact ⟨congrArg Value.bool (by simp only [decide_eq_false_iff_not] at *; rw [List.take_of_length_le (by omega)] at hgo; unfold typM; rw [hgo, decide_eq_true (p := 1 ≤ L.length ∧ L.length ≤ 256) (by omega)]; rfl), hn1.ext.trans hE⟩

theorem typMayR_ok {A : Option Addr} {cap : Nat} (L : List (List Int)) (hL : Nine L) {H : Heap} (hS : SlT H Is 9 (.slice A L.length cap) L) (hm : L.length ≤ 9223372036854775807) :
    Ret Try.prog 40 [Ty A L.length cap] H (fun v H' => v = .bool (typM L) ∧ Ext H H') := by
  refine Ret.of_at (N := 74) Try.call40 Try.func40 rfl rfl rfl ?_
  refine At.region rfl rfl ?_
  refine Reg.op rfl rfl rfl rfl (Does.box rfl rfl) ?_
  rintro _ H1 ⟨rfl, hn1⟩
  refine Reg.pur rfl rfl rfl rfl (Pur.asg rfl) ?_
  refine Reg.nil ?_
  have hB := hn1.own.blk
  have hS1 := hS.ext hn1.ext
  refine At.region rfl rfl ?_
  refine Reg.pur rfl rfl rfl rfl (Pur.fld _ fo25_0 rfl) ?_
  refine Reg.lod rfl rfl rfl rfl (Lod.ld sc23 rfl hB rfl) ?_
  refine Reg.pur rfl rfl rfl rfl (Pur.asg rfl) ?_
  refine Reg.nil ?_
  refine At.region rfl rfl ?_
  refine Reg.pur rfl rfl rfl rfl (Pur.mv rfl) ?_
  refine Reg.pur rfl rfl rfl rfl (Pur.lenS isl23 rfl) ?_
  refine Reg.pur rfl rfl rfl rfl (Pur.lss rfl rfl) ?_
  refine Reg.pur rfl rfl rfl rfl (Pur.mv rfl) ?_
  refine Reg.case 12 rfl (fun hc1 => ?_) (fun hc1 => ?_)
  · refine Reg.skip rfl rfl rfl rfl rfl rfl rfl ?_
    refine Reg.skip rfl rfl rfl rfl rfl rfl rfl ?_
    refine Reg.skip rfl rfl rfl rfl rfl rfl rfl ?_
    refine Reg.pur rfl rfl rfl rfl (Pur.pickT rfl rfl) ?_
    refine Reg.nil ?_
    refine At.condT rfl rfl rfl ?_
    refine At.region rfl rfl ?_
    refine Reg.pur rfl rfl rfl rfl (Pur.asg rfl) ?_
    refine Reg.nil ?_
    refine At.ret rfl Try.func40 rfl ?_
    first | exact ⟨congrArg Value.bool (by unfold typM; simp only [decide_eq_true_eq] at *; rw [decide_eq_false (by omega)]; rfl), hn1.ext⟩ | exact ⟨congrArg Value.bool (by simp only [decide_eq_false_iff_not] at *; rw [List.take_of_length_le (by omega)] at hgo; unfold typM; rw [hgo, decide_eq_true (p := 1 ≤ L.length ∧ L.length ≤ 256) (by omega)]; rfl), hn1.ext.trans hE⟩ | (refine ⟨congrArg Value.bool (hbad ?_).symm, hn1.ext.trans (hE.trans hE6)⟩; clear hnext hbad; simp [eqs, eqv] at *; first | (simp [nodM, *]; done) | (simp [nodM, *]; assumption) | (simp [nodM, *]; intros; omega))
  · refine Reg.gpur rfl rfl rfl rfl rfl rfl (Pur.mv rfl) ?_
    refine Reg.gpur rfl rfl rfl rfl rfl rfl (Pur.lenS isl23 rfl) ?_
    refine Reg.gpur rfl rfl rfl rfl rfl rfl (Pur.gtr rfl rfl) ?_
    refine Reg.pur rfl rfl rfl rfl (Pur.pickF rfl rfl) ?_
    refine Reg.nil ?_
    refine At.cond rfl rfl (fun hb2 => ?_) (fun hb2 => ?_)
    · refine At.region rfl rfl ?_
      refine Reg.pur rfl rfl rfl rfl (Pur.asg rfl) ?_
      refine Reg.nil ?_
      refine At.ret rfl Try.func40 rfl ?_
      first | exact ⟨congrArg Value.bool (by unfold typM; simp only [decide_eq_true_eq] at *; rw [decide_eq_false (by omega)]; rfl), hn1.ext⟩ | exact ⟨congrArg Value.bool (by simp only [decide_eq_false_iff_not] at *; rw [List.take_of_length_le (by omega)] at hgo; unfold typM; rw [hgo, decide_eq_true (p := 1 ≤ L.length ∧ L.length ≤ 256) (by omega)]; rfl), hn1.ext.trans hE⟩ | (refine ⟨congrArg Value.bool (hbad ?_).symm, hn1.ext.trans (hE.trans hE6)⟩; clear hnext hbad; simp [eqs, eqv] at *; first | (simp [nodM, *]; done) | (simp [nodM, *]; assumption) | (simp [nodM, *]; intros; omega))
    · refine At.region rfl rfl ?_
      refine Reg.pur rfl rfl rfl rfl (Pur.asg rfl) ?_
      refine Reg.nil ?_
      refine At.loop (σ := Nat) (fun i => [(4, I i), (3, .slice A L.length cap)]) (fun i H' => i ≤ L.length ∧ Ext H1 H' ∧ (L.take i).all nodM = true) (fun i => L.length - i) 0 rfl ⟨rfl, rfl, trivial⟩ ⟨by omega, Ext.refl _, rfl⟩ ?_
      rintro i H2 ⟨hi, hE, hgo⟩ ih
      refine At.region rfl rfl ?_
      refine Reg.pur rfl rfl rfl rfl (Pur.mv rfl) ?_
      refine Reg.pur rfl rfl rfl rfl (Pur.mv rfl) ?_
      refine Reg.pur rfl rfl rfl rfl (Pur.lenS isl23 rfl) ?_
      refine Reg.pur rfl rfl rfl rfl (Pur.lss rfl rfl) ?_
      refine Reg.nil ?_
      refine At.cond rfl rfl (fun hb3 => ?_) (fun hb3 => ?_)
      · simp only [decide_eq_true_eq] at hb3
        have hlt : i < L.length := by omega
        obtain ⟨b, o, c, rfl, hB2, hd, h9⟩ := sl_at (wide9 hL) (hS1.ext hE) hlt
        have h9' := hL _ (List.getElem_mem hlt)
        have hnext : ∀ H', Ext H2 H' → nodM L[i] = true → _ := fun H' h1 h2 => ih (i + 1) H' ⟨by omega, hE.trans h1, by rw [all_take hlt, hgo, h2]; rfl⟩ (by omega)
        have hbad : nodM L[i] = false → typM L = false := fun h => by unfold typM; rw [all_of_take hlt h]; simp
        clear ih hgo
        generalize L[i] = x at *
        obtain ⟨k, v, p, q, c0, c1, c2, c3, t, rfl⟩ : ∃ k v p q c0 c1 c2 c3 t, x = [k, v, p, q, c0, c1, c2, c3, t] := by match x, h9' with | [k, v, p, q, c0, c1, c2, c3, t], _ => exact ⟨_, _, _, _, _, _, _, _, _, rfl⟩
        refine At.region rfl rfl ?_
        refine Reg.pur rfl rfl rfl rfl (Pur.mv rfl) ?_
        refine Reg.pur rfl rfl rfl rfl (Pur.mv rfl) ?_
        refine Reg.pur rfl rfl rfl rfl (Pur.idx _ es23 rfl rfl (by omega) hb3) ?_
        refine Reg.lod rfl rfl rfl rfl (Lod.ldn ag47 rfl hB2 hd h9) ?_
        refine Reg.op rfl rfl rfl rfl (Does.alloc zc47) ?_
        rintro _ H3 ⟨rfl, hn3⟩
        refine Reg.op0 rfl rfl rfl (Does.stn ag47 rfl rfl (ones_Is _) h9 hn3.own (by decide)) ?_
        rintro _ H4 hu4
        refine Reg.nil ?_
        have hX : Own H4 H2.size (Is [k, v, p, q, c0, c1, c2, c3, t]) := by have := hu4.own; rwa [over (by rfl)] at this
        have hE4 : Ext H2 H4 := hn3.ext.upd hu4 (Nat.le_refl _)
        refine At.region rfl rfl ?_
        refine Reg.pur rfl rfl rfl rfl (Pur.fld _ fo47_0 rfl) ?_
        refine Reg.lod rfl rfl rfl rfl (Lod.ld sc3 rfl hX.blk rfl) ?_
        refine Reg.pur rfl rfl rfl rfl (Pur.bld (cs := [_, _, _, _, _, _, _, _, _]) pl47 zc47 rfl rfl ⟨rfl, rfl, rfl, rfl, rfl, rfl, rfl, rfl, rfl, rfl⟩) ?_
        refine Reg.op rfl rfl rfl rfl (Does.alloc zc47) ?_
        rintro _ H5 ⟨rfl, hn5⟩
        refine Reg.op0 rfl rfl rfl (Does.stn ag47 rfl rfl rfl rfl hn5.own (by decide)) ?_
        rintro _ H6 hu6
        refine Reg.nil ?_
        have hlt4 := hX.lt
        have hs2 := hE4.1
        have hY : Own H6 H4.size (Is [k, 0, 0, 0, 0, 0, 0, 0, 0]) := hu6.own
        have hX := (hX.ext hn5.ext).upd hu6 (by omega)
        have hE6 : Ext H2 H6 := (hE4.trans hn5.ext).upd hu6 (by omega)
        refine At.region rfl rfl ?_
        refine Reg.pur rfl rfl rfl rfl (Pur.fld _ fo47_0 rfl) ?_
        refine Reg.lod rfl rfl rfl rfl (Lod.ld sc3 rfl hX.blk rfl) ?_
        refine Reg.nil ?_
        refine At.region rfl rfl ?_
        refine Reg.pur rfl rfl rfl rfl (Pur.eql rfl rfl) ?_
        refine Reg.pur rfl rfl rfl rfl (Pur.asg rfl) ?_
        refine Reg.nil ?_
        refine At.cond rfl rfl (fun hb4 => ?_) (fun hb4 => ?_)
        · refine At.condT rfl rfl hb4 ?_
          refine At.region rfl rfl ?_
          refine Reg.lod rfl rfl rfl rfl (Lod.ldn ag47 rfl hX.blk (whole rfl) rfl) ?_
          refine Reg.lod rfl rfl rfl rfl (Lod.ldn ag47 rfl hY.blk (whole rfl) rfl) ?_
          refine Reg.pur rfl rfl rfl rfl (Pur.neA eqt47 rfl rfl (fks_ints .i64 [_, _, _, _, _, _, _, _, _]) (fks_ints .i64 [_, _, _, _, _, _, _, _, _])) ?_
          refine Reg.pur rfl rfl rfl rfl (Pur.mv rfl) ?_
          refine Reg.case 58 rfl (fun hc5 => ?_) (fun hc5 => ?_)
          · refine Reg.skip rfl rfl rfl rfl rfl rfl rfl ?_
            refine Reg.skip rfl rfl rfl rfl rfl rfl rfl ?_
            refine Reg.skip rfl rfl rfl rfl rfl rfl rfl ?_
            refine Reg.pur rfl rfl rfl rfl (Pur.pickT rfl rfl) ?_
            refine Reg.pur rfl rfl rfl rfl (Pur.mv rfl) ?_
            refine Reg.skip rfl rfl rfl rfl rfl rfl rfl ?_
            refine Reg.skip rfl rfl rfl rfl rfl rfl rfl ?_
            refine Reg.skip rfl rfl rfl rfl rfl rfl rfl ?_
            refine Reg.pur rfl rfl rfl rfl (Pur.pickT rfl rfl) ?_
            refine Reg.nil ?_
            refine At.condT rfl rfl rfl ?_
            refine At.region rfl rfl ?_
            refine Reg.pur rfl rfl rfl rfl (Pur.asg rfl) ?_
            refine Reg.nil ?_
            refine At.ret rfl Try.func40 rfl ?_
            first | exact ⟨congrArg Value.bool (by unfold typM; simp only [decide_eq_true_eq] at *; rw [decide_eq_false (by omega)]; rfl), hn1.ext⟩ | exact ⟨congrArg Value.bool (by simp only [decide_eq_false_iff_not] at *; rw [List.take_of_length_le (by omega)] at hgo; unfold typM; rw [hgo, decide_eq_true (p := 1 ≤ L.length ∧ L.length ≤ 256) (by omega)]; rfl), hn1.ext.trans hE⟩ | (refine ⟨congrArg Value.bool (hbad ?_).symm, hn1.ext.trans (hE.trans hE6)⟩; clear hnext hbad; simp [eqs, eqv] at *; first | (simp [nodM, *]; done) | (simp [nodM, *]; assumption) | (simp [nodM, *]; intros; omega))
          · refine Reg.gpur rfl rfl rfl rfl rfl rfl (Pur.fld _ fo47_1 rfl) ?_
            refine Reg.glod rfl rfl rfl rfl rfl rfl (Lod.ld sc3 rfl hX.blk rfl) ?_
            refine Reg.gpur rfl rfl rfl rfl rfl rfl (Pur.lss rfl rfl) ?_
            refine Reg.pur rfl rfl rfl rfl (Pur.pickF rfl rfl) ?_
            refine Reg.pur rfl rfl rfl rfl (Pur.mv rfl) ?_
            refine Reg.case 63 rfl (fun hc6 => ?_) (fun hc6 => ?_)
            · refine Reg.skip rfl rfl rfl rfl rfl rfl rfl ?_
              refine Reg.skip rfl rfl rfl rfl rfl rfl rfl ?_
              refine Reg.skip rfl rfl rfl rfl rfl rfl rfl ?_
              refine Reg.pur rfl rfl rfl rfl (Pur.pickT rfl rfl) ?_
              refine Reg.nil ?_
              refine At.condT rfl rfl rfl ?_
              refine At.region rfl rfl ?_
              refine Reg.pur rfl rfl rfl rfl (Pur.asg rfl) ?_
              refine Reg.nil ?_
              refine At.ret rfl Try.func40 rfl ?_
              first | exact ⟨congrArg Value.bool (by unfold typM; simp only [decide_eq_true_eq] at *; rw [decide_eq_false (by omega)]; rfl), hn1.ext⟩ | exact ⟨congrArg Value.bool (by simp only [decide_eq_false_iff_not] at *; rw [List.take_of_length_le (by omega)] at hgo; unfold typM; rw [hgo, decide_eq_true (p := 1 ≤ L.length ∧ L.length ≤ 256) (by omega)]; rfl), hn1.ext.trans hE⟩ | (refine ⟨congrArg Value.bool (hbad ?_).symm, hn1.ext.trans (hE.trans hE6)⟩; clear hnext hbad; simp [eqs, eqv] at *; first | (simp [nodM, *]; done) | (simp [nodM, *]; assumption) | (simp [nodM, *]; intros; omega))
            · refine Reg.gpur rfl rfl rfl rfl rfl rfl (Pur.fld _ fo47_1 rfl) ?_
              refine Reg.glod rfl rfl rfl rfl rfl rfl (Lod.ld sc3 rfl hX.blk rfl) ?_
              refine Reg.gpur rfl rfl rfl rfl rfl rfl (Pur.geq rfl rfl) ?_
              refine Reg.pur rfl rfl rfl rfl (Pur.pickF rfl rfl) ?_
              refine Reg.nil ?_
              refine At.cond rfl rfl (fun hb7 => ?_) (fun hb7 => ?_)
              · refine At.region rfl rfl ?_
                refine Reg.pur rfl rfl rfl rfl (Pur.asg rfl) ?_
                refine Reg.nil ?_
                refine At.ret rfl Try.func40 rfl ?_
                first | exact ⟨congrArg Value.bool (by unfold typM; simp only [decide_eq_true_eq] at *; rw [decide_eq_false (by omega)]; rfl), hn1.ext⟩ | exact ⟨congrArg Value.bool (by simp only [decide_eq_false_iff_not] at *; rw [List.take_of_length_le (by omega)] at hgo; unfold typM; rw [hgo, decide_eq_true (p := 1 ≤ L.length ∧ L.length ≤ 256) (by omega)]; rfl), hn1.ext.trans hE⟩ | (refine ⟨congrArg Value.bool (hbad ?_).symm, hn1.ext.trans (hE.trans hE6)⟩; clear hnext hbad; simp [eqs, eqv] at *; first | (simp [nodM, *]; done) | (simp [nodM, *]; assumption) | (simp [nodM, *]; intros; omega))
              · refine At.region rfl rfl ?_
                refine Reg.pur rfl rfl rfl rfl (Pur.mv rfl) ?_
                first | refine Reg.pur rfl rfl rfl rfl (Pur.add64 rfl rfl (by omega)) ?_ | refine Reg.pur rfl rfl rfl rfl (Pur.add64 rfl rfl (by assumption)) ?_ | refine Reg.pur rfl rfl rfl rfl (Pur.add rfl rfl) ?_
                refine Reg.pur rfl rfl rfl rfl (Pur.asg rfl) ?_
                refine Reg.nil ?_
                refine At.via (hnext _ hE6 ?_) ⟨rfl, rfl, trivial⟩
                clear hnext hbad
                simp [eqs, eqv] at *
                simp [nodM, *]
        · refine At.region rfl rfl ?_
          refine Reg.pur rfl rfl rfl rfl (Pur.eql rfl rfl) ?_
          refine Reg.pur rfl rfl rfl rfl (Pur.asg rfl) ?_
          refine Reg.nil ?_
          refine At.cond rfl rfl (fun hb8 => ?_) (fun hb8 => ?_)
          · refine At.region rfl rfl ?_
            refine Reg.lod rfl rfl rfl rfl (Lod.ldn ag47 rfl hX.blk (whole rfl) rfl) ?_
            refine Reg.lod rfl rfl rfl rfl (Lod.ldn ag47 rfl hY.blk (whole rfl) rfl) ?_
            refine Reg.pur rfl rfl rfl rfl (Pur.neA eqt47 rfl rfl (fks_ints .i64 [_, _, _, _, _, _, _, _, _]) (fks_ints .i64 [_, _, _, _, _, _, _, _, _])) ?_
            refine Reg.pur rfl rfl rfl rfl (Pur.mv rfl) ?_
            refine Reg.case 58 rfl (fun hc9 => ?_) (fun hc9 => ?_)
            · refine Reg.skip rfl rfl rfl rfl rfl rfl rfl ?_
              refine Reg.skip rfl rfl rfl rfl rfl rfl rfl ?_
              refine Reg.skip rfl rfl rfl rfl rfl rfl rfl ?_
              refine Reg.pur rfl rfl rfl rfl (Pur.pickT rfl rfl) ?_
              refine Reg.pur rfl rfl rfl rfl (Pur.mv rfl) ?_
              refine Reg.skip rfl rfl rfl rfl rfl rfl rfl ?_
              refine Reg.skip rfl rfl rfl rfl rfl rfl rfl ?_
              refine Reg.skip rfl rfl rfl rfl rfl rfl rfl ?_
              refine Reg.pur rfl rfl rfl rfl (Pur.pickT rfl rfl) ?_
              refine Reg.nil ?_
              refine At.condT rfl rfl rfl ?_
              refine At.region rfl rfl ?_
              refine Reg.pur rfl rfl rfl rfl (Pur.asg rfl) ?_
              refine Reg.nil ?_
              refine At.ret rfl Try.func40 rfl ?_
              first | exact ⟨congrArg Value.bool (by unfold typM; simp only [decide_eq_true_eq] at *; rw [decide_eq_false (by omega)]; rfl), hn1.ext⟩ | exact ⟨congrArg Value.bool (by simp only [decide_eq_false_iff_not] at *; rw [List.take_of_length_le (by omega)] at hgo; unfold typM; rw [hgo, decide_eq_true (p := 1 ≤ L.length ∧ L.length ≤ 256) (by omega)]; rfl), hn1.ext.trans hE⟩ | (refine ⟨congrArg Value.bool (hbad ?_).symm, hn1.ext.trans (hE.trans hE6)⟩; clear hnext hbad; simp [eqs, eqv] at *; first | (simp [nodM, *]; done) | (simp [nodM, *]; assumption) | (simp [nodM, *]; intros; omega))
            · refine Reg.gpur rfl rfl rfl rfl rfl rfl (Pur.fld _ fo47_1 rfl) ?_
              refine Reg.glod rfl rfl rfl rfl rfl rfl (Lod.ld sc3 rfl hX.blk rfl) ?_
              refine Reg.gpur rfl rfl rfl rfl rfl rfl (Pur.lss rfl rfl) ?_
              refine Reg.pur rfl rfl rfl rfl (Pur.pickF rfl rfl) ?_
              refine Reg.pur rfl rfl rfl rfl (Pur.mv rfl) ?_
              refine Reg.case 63 rfl (fun hc10 => ?_) (fun hc10 => ?_)
              · refine Reg.skip rfl rfl rfl rfl rfl rfl rfl ?_
                refine Reg.skip rfl rfl rfl rfl rfl rfl rfl ?_
                refine Reg.skip rfl rfl rfl rfl rfl rfl rfl ?_
                refine Reg.pur rfl rfl rfl rfl (Pur.pickT rfl rfl) ?_
                refine Reg.nil ?_
                refine At.condT rfl rfl rfl ?_
                refine At.region rfl rfl ?_
                refine Reg.pur rfl rfl rfl rfl (Pur.asg rfl) ?_
                refine Reg.nil ?_
                refine At.ret rfl Try.func40 rfl ?_
                first | exact ⟨congrArg Value.bool (by unfold typM; simp only [decide_eq_true_eq] at *; rw [decide_eq_false (by omega)]; rfl), hn1.ext⟩ | exact ⟨congrArg Value.bool (by simp only [decide_eq_false_iff_not] at *; rw [List.take_of_length_le (by omega)] at hgo; unfold typM; rw [hgo, decide_eq_true (p := 1 ≤ L.length ∧ L.length ≤ 256) (by omega)]; rfl), hn1.ext.trans hE⟩ | (refine ⟨congrArg Value.bool (hbad ?_).symm, hn1.ext.trans (hE.trans hE6)⟩; clear hnext hbad; simp [eqs, eqv] at *; first | (simp [nodM, *]; done) | (simp [nodM, *]; assumption) | (simp [nodM, *]; intros; omega))
              · refine Reg.gpur rfl rfl rfl rfl rfl rfl (Pur.fld _ fo47_1 rfl) ?_
                refine Reg.glod rfl rfl rfl rfl rfl rfl (Lod.ld sc3 rfl hX.blk rfl) ?_
                refine Reg.gpur rfl rfl rfl rfl rfl rfl (Pur.geq rfl rfl) ?_
                refine Reg.pur rfl rfl rfl rfl (Pur.pickF rfl rfl) ?_
                refine Reg.nil ?_
                refine At.cond rfl rfl (fun hb11 => ?_) (fun hb11 => ?_)
                · refine At.region rfl rfl ?_
                  refine Reg.pur rfl rfl rfl rfl (Pur.asg rfl) ?_
                  refine Reg.nil ?_
                  refine At.ret rfl Try.func40 rfl ?_
                  first | exact ⟨congrArg Value.bool (by unfold typM; simp only [decide_eq_true_eq] at *; rw [decide_eq_false (by omega)]; rfl), hn1.ext⟩ | exact ⟨congrArg Value.bool (by simp only [decide_eq_false_iff_not] at *; rw [List.take_of_length_le (by omega)] at hgo; unfold typM; rw [hgo, decide_eq_true (p := 1 ≤ L.length ∧ L.length ≤ 256) (by omega)]; rfl), hn1.ext.trans hE⟩ | (refine ⟨congrArg Value.bool (hbad ?_).symm, hn1.ext.trans (hE.trans hE6)⟩; clear hnext hbad; simp [eqs, eqv] at *; first | (simp [nodM, *]; done) | (simp [nodM, *]; assumption) | (simp [nodM, *]; intros; omega))
                · refine At.region rfl rfl ?_
                  refine Reg.pur rfl rfl rfl rfl (Pur.mv rfl) ?_
                  first | refine Reg.pur rfl rfl rfl rfl (Pur.add64 rfl rfl (by omega)) ?_ | refine Reg.pur rfl rfl rfl rfl (Pur.add64 rfl rfl (by assumption)) ?_ | refine Reg.pur rfl rfl rfl rfl (Pur.add rfl rfl) ?_
                  refine Reg.pur rfl rfl rfl rfl (Pur.asg rfl) ?_
                  refine Reg.nil ?_
                  refine At.via (hnext _ hE6 ?_) ⟨rfl, rfl, trivial⟩
                  clear hnext hbad
                  simp [eqs, eqv] at *
                  simp [nodM, *]
          · refine At.region rfl rfl ?_
            refine Reg.pur rfl rfl rfl rfl (Pur.eql rfl rfl) ?_
            refine Reg.pur rfl rfl rfl rfl (Pur.asg rfl) ?_
            refine Reg.nil ?_
            refine At.cond rfl rfl (fun hb12 => ?_) (fun hb12 => ?_)
            · refine At.region rfl rfl ?_
              refine Reg.pur rfl rfl rfl rfl (Pur.fld _ fo47_1 rfl) ?_
              refine Reg.lod rfl rfl rfl rfl (Lod.ld sc3 rfl hX.blk rfl) ?_
              refine Reg.pur rfl rfl rfl rfl (Pur.fld _ fo47_1 rfl) ?_
              refine Reg.op0 rfl rfl rfl (Does.st sc3 rfl rfl rfl hY (by simp)) ?_
              rintro _ H7 hu7
              refine Reg.nil ?_
              have hX := hX.upd hu7 (by omega)
              have hE6 := hE6.upd hu7 (by omega)
              have hY : Own H7 H4.size (Is [k, v, 0, 0, 0, 0, 0, 0, 0]) := hu7.own
              refine At.region rfl rfl ?_
              refine Reg.lod rfl rfl rfl rfl (Lod.ldn ag47 rfl hX.blk (whole rfl) rfl) ?_
              refine Reg.lod rfl rfl rfl rfl (Lod.ldn ag47 rfl hY.blk (whole rfl) rfl) ?_
              refine Reg.pur rfl rfl rfl rfl (Pur.neA eqt47 rfl rfl (fks_ints .i64 [_, _, _, _, _, _, _, _, _]) (fks_ints .i64 [_, _, _, _, _, _, _, _, _])) ?_
              refine Reg.pur rfl rfl rfl rfl (Pur.mv rfl) ?_
              refine Reg.case 58 rfl (fun hc13 => ?_) (fun hc13 => ?_)
              · refine Reg.skip rfl rfl rfl rfl rfl rfl rfl ?_
                refine Reg.skip rfl rfl rfl rfl rfl rfl rfl ?_
                refine Reg.skip rfl rfl rfl rfl rfl rfl rfl ?_
                refine Reg.pur rfl rfl rfl rfl (Pur.pickT rfl rfl) ?_
                refine Reg.pur rfl rfl rfl rfl (Pur.mv rfl) ?_
                refine Reg.skip rfl rfl rfl rfl rfl rfl rfl ?_
                refine Reg.skip rfl rfl rfl rfl rfl rfl rfl ?_
                refine Reg.skip rfl rfl rfl rfl rfl rfl rfl ?_
                refine Reg.pur rfl rfl rfl rfl (Pur.pickT rfl rfl) ?_
                refine Reg.nil ?_
                refine At.condT rfl rfl rfl ?_
                refine At.region rfl rfl ?_
                refine Reg.pur rfl rfl rfl rfl (Pur.asg rfl) ?_
                refine Reg.nil ?_
                refine At.ret rfl Try.func40 rfl ?_
                first | exact ⟨congrArg Value.bool (by unfold typM; simp only [decide_eq_true_eq] at *; rw [decide_eq_false (by omega)]; rfl), hn1.ext⟩ | exact ⟨congrArg Value.bool (by simp only [decide_eq_false_iff_not] at *; rw [List.take_of_length_le (by omega)] at hgo; unfold typM; rw [hgo, decide_eq_true (p := 1 ≤ L.length ∧ L.length ≤ 256) (by omega)]; rfl), hn1.ext.trans hE⟩ | (refine ⟨congrArg Value.bool (hbad ?_).symm, hn1.ext.trans (hE.trans hE6)⟩; clear hnext hbad; simp [eqs, eqv] at *; first | (simp [nodM, *]; done) | (simp [nodM, *]; assumption) | (simp [nodM, *]; intros; omega))
              · refine Reg.gpur rfl rfl rfl rfl rfl rfl (Pur.fld _ fo47_1 rfl) ?_
                refine Reg.glod rfl rfl rfl rfl rfl rfl (Lod.ld sc3 rfl hX.blk rfl) ?_
                refine Reg.gpur rfl rfl rfl rfl rfl rfl (Pur.lss rfl rfl) ?_
                refine Reg.pur rfl rfl rfl rfl (Pur.pickF rfl rfl) ?_
                refine Reg.pur rfl rfl rfl rfl (Pur.mv rfl) ?_
                refine Reg.case 63 rfl (fun hc14 => ?_) (fun hc14 => ?_)
                · refine Reg.skip rfl rfl rfl rfl rfl rfl rfl ?_
                  refine Reg.skip rfl rfl rfl rfl rfl rfl rfl ?_
                  refine Reg.skip rfl rfl rfl rfl rfl rfl rfl ?_
                  refine Reg.pur rfl rfl rfl rfl (Pur.pickT rfl rfl) ?_
                  refine Reg.nil ?_
                  refine At.condT rfl rfl rfl ?_
                  refine At.region rfl rfl ?_
                  refine Reg.pur rfl rfl rfl rfl (Pur.asg rfl) ?_
                  refine Reg.nil ?_
                  refine At.ret rfl Try.func40 rfl ?_
                  first | exact ⟨congrArg Value.bool (by unfold typM; simp only [decide_eq_true_eq] at *; rw [decide_eq_false (by omega)]; rfl), hn1.ext⟩ | exact ⟨congrArg Value.bool (by simp only [decide_eq_false_iff_not] at *; rw [List.take_of_length_le (by omega)] at hgo; unfold typM; rw [hgo, decide_eq_true (p := 1 ≤ L.length ∧ L.length ≤ 256) (by omega)]; rfl), hn1.ext.trans hE⟩ | (refine ⟨congrArg Value.bool (hbad ?_).symm, hn1.ext.trans (hE.trans hE6)⟩; clear hnext hbad; simp [eqs, eqv] at *; first | (simp [nodM, *]; done) | (simp [nodM, *]; assumption) | (simp [nodM, *]; intros; omega))
                · refine Reg.gpur rfl rfl rfl rfl rfl rfl (Pur.fld _ fo47_1 rfl) ?_
                  refine Reg.glod rfl rfl rfl rfl rfl rfl (Lod.ld sc3 rfl hX.blk rfl) ?_
                  refine Reg.gpur rfl rfl rfl rfl rfl rfl (Pur.geq rfl rfl) ?_
                  refine Reg.pur rfl rfl rfl rfl (Pur.pickF rfl rfl) ?_
                  refine Reg.nil ?_
                  refine At.cond rfl rfl (fun hb15 => ?_) (fun hb15 => ?_)
                  · refine At.region rfl rfl ?_
                    refine Reg.pur rfl rfl rfl rfl (Pur.asg rfl) ?_
                    refine Reg.nil ?_
                    refine At.ret rfl Try.func40 rfl ?_
                    first | exact ⟨congrArg Value.bool (by unfold typM; simp only [decide_eq_true_eq] at *; rw [decide_eq_false (by omega)]; rfl), hn1.ext⟩ | exact ⟨congrArg Value.bool (by simp only [decide_eq_false_iff_not] at *; rw [List.take_of_length_le (by omega)] at hgo; unfold typM; rw [hgo, decide_eq_true (p := 1 ≤ L.length ∧ L.length ≤ 256) (by omega)]; rfl), hn1.ext.trans hE⟩ | (refine ⟨congrArg Value.bool (hbad ?_).symm, hn1.ext.trans (hE.trans hE6)⟩; clear hnext hbad; simp [eqs, eqv] at *; first | (simp [nodM, *]; done) | (simp [nodM, *]; assumption) | (simp [nodM, *]; intros; omega))
                  · refine At.region rfl rfl ?_
                    refine Reg.pur rfl rfl rfl rfl (Pur.mv rfl) ?_
                    first | refine Reg.pur rfl rfl rfl rfl (Pur.add64 rfl rfl (by omega)) ?_ | refine Reg.pur rfl rfl rfl rfl (Pur.add64 rfl rfl (by assumption)) ?_ | refine Reg.pur rfl rfl rfl rfl (Pur.add rfl rfl) ?_
                    refine Reg.pur rfl rfl rfl rfl (Pur.asg rfl) ?_
                    refine Reg.nil ?_
                    refine At.via (hnext _ hE6 ?_) ⟨rfl, rfl, trivial⟩
                    clear hnext hbad
                    simp [eqs, eqv] at *
                    simp [nodM, *]
            · refine At.region rfl rfl ?_
              refine Reg.pur rfl rfl rfl rfl (Pur.eql rfl rfl) ?_
              refine Reg.pur rfl rfl rfl rfl (Pur.asg rfl) ?_
              refine Reg.nil ?_
              refine At.cond rfl rfl (fun hb16 => ?_) (fun hb16 => ?_)
              · refine At.region rfl rfl ?_
                refine Reg.pur rfl rfl rfl rfl (Pur.fld _ fo47_2 rfl) ?_
                refine Reg.lod rfl rfl rfl rfl (Lod.ld sc3 rfl hX.blk rfl) ?_
                refine Reg.pur rfl rfl rfl rfl (Pur.fld _ fo47_2 rfl) ?_
                refine Reg.op0 rfl rfl rfl (Does.st sc3 rfl rfl rfl hY (by simp)) ?_
                rintro _ H7 hu7
                refine Reg.nil ?_
                have hX := hX.upd hu7 (by omega)
                have hE6 := hE6.upd hu7 (by omega)
                have hY : Own H7 H4.size (Is [k, 0, p, 0, 0, 0, 0, 0, 0]) := hu7.own
                refine At.region rfl rfl ?_
                refine Reg.pur rfl rfl rfl rfl (Pur.fld _ fo47_3 rfl) ?_
                refine Reg.lod rfl rfl rfl rfl (Lod.ld sc3 rfl hX.blk rfl) ?_
                refine Reg.pur rfl rfl rfl rfl (Pur.fld _ fo47_3 rfl) ?_
                refine Reg.op0 rfl rfl rfl (Does.st sc3 rfl rfl rfl hY (by simp)) ?_
                rintro _ H8 hu8
                refine Reg.nil ?_
                have hX := hX.upd hu8 (by omega)
                have hE6 := hE6.upd hu8 (by omega)
                have hY : Own H8 H4.size (Is [k, 0, p, q, 0, 0, 0, 0, 0]) := hu8.own
                refine At.region rfl rfl ?_
                refine Reg.pur rfl rfl rfl rfl (Pur.fld _ fo47_4 rfl) ?_
                refine Reg.lod rfl rfl rfl rfl (Lod.ldn ag28 rfl hX.blk (show _ = Is [c0, c1, c2, c3, t] from rfl) rfl) ?_
                refine Reg.pur rfl rfl rfl rfl (Pur.fld _ fo47_4 rfl) ?_
                refine Reg.op0 rfl rfl rfl (Does.stn ag28 rfl rfl (ones_Is _) rfl hY (by simp)) ?_
                rintro _ H9 hu9
                refine Reg.nil ?_
                have hX := hX.upd hu9 (by omega)
                have hE6 := hE6.upd hu9 (by omega)
                have hY : Own H9 H4.size (Is [k, 0, p, q, c0, c1, c2, c3, t]) := hu9.own
                refine At.region rfl rfl ?_
                refine Reg.pur rfl rfl rfl rfl (Pur.fld _ fo47_4 rfl) ?_
                refine Reg.lod rfl rfl rfl rfl (Lod.ldn ag28 rfl hX.blk (show _ = Is [c0, c1, c2, c3, t] from rfl) rfl) ?_
                refine Reg.op rfl rfl rfl rfl (Does.call rfl (rowMayR_ok [c0, c1, c2, c3, t] rfl _)) ?_
                rintro _ H10 ⟨rfl, hE10⟩
                refine Reg.pur rfl rfl rfl rfl (Pur.not rfl) ?_
                refine Reg.nil ?_
                have hX := hX.ext hE10
                have hY := hY.ext hE10
                have hE6 := hE6.trans hE10
                refine At.cond rfl rfl (fun hb17 => ?_) (fun hb17 => ?_)
                · refine At.region rfl rfl ?_
                  refine Reg.pur rfl rfl rfl rfl (Pur.asg rfl) ?_
                  refine Reg.nil ?_
                  refine At.ret rfl Try.func40 rfl ?_
                  first | exact ⟨congrArg Value.bool (by unfold typM; simp only [decide_eq_true_eq] at *; rw [decide_eq_false (by omega)]; rfl), hn1.ext⟩ | exact ⟨congrArg Value.bool (by simp only [decide_eq_false_iff_not] at *; rw [List.take_of_length_le (by omega)] at hgo; unfold typM; rw [hgo, decide_eq_true (p := 1 ≤ L.length ∧ L.length ≤ 256) (by omega)]; rfl), hn1.ext.trans hE⟩ | (refine ⟨congrArg Value.bool (hbad ?_).symm, hn1.ext.trans (hE.trans hE6)⟩; clear hnext hbad; simp [eqs, eqv] at *; first | (simp [nodM, *]; done) | (simp [nodM, *]; assumption) | (simp [nodM, *]; intros; omega))
                · refine At.region rfl rfl ?_
                  refine Reg.lod rfl rfl rfl rfl (Lod.ldn ag47 rfl hX.blk (whole rfl) rfl) ?_
                  refine Reg.lod rfl rfl rfl rfl (Lod.ldn ag47 rfl hY.blk (whole rfl) rfl) ?_
                  refine Reg.pur rfl rfl rfl rfl (Pur.neA eqt47 rfl rfl (fks_ints .i64 [_, _, _, _, _, _, _, _, _]) (fks_ints .i64 [_, _, _, _, _, _, _, _, _])) ?_
                  refine Reg.pur rfl rfl rfl rfl (Pur.mv rfl) ?_
                  refine Reg.case 58 rfl (fun hc18 => ?_) (fun hc18 => ?_)
                  · refine Reg.skip rfl rfl rfl rfl rfl rfl rfl ?_
                    refine Reg.skip rfl rfl rfl rfl rfl rfl rfl ?_
                    refine Reg.skip rfl rfl rfl rfl rfl rfl rfl ?_
                    refine Reg.pur rfl rfl rfl rfl (Pur.pickT rfl rfl) ?_
                    refine Reg.pur rfl rfl rfl rfl (Pur.mv rfl) ?_
                    refine Reg.skip rfl rfl rfl rfl rfl rfl rfl ?_
                    refine Reg.skip rfl rfl rfl rfl rfl rfl rfl ?_
                    refine Reg.skip rfl rfl rfl rfl rfl rfl rfl ?_
                    refine Reg.pur rfl rfl rfl rfl (Pur.pickT rfl rfl) ?_
                    refine Reg.nil ?_
                    refine At.condT rfl rfl rfl ?_
                    refine At.region rfl rfl ?_
                    refine Reg.pur rfl rfl rfl rfl (Pur.asg rfl) ?_
                    refine Reg.nil ?_
                    refine At.ret rfl Try.func40 rfl ?_
                    first | exact ⟨congrArg Value.bool (by unfold typM; simp only [decide_eq_true_eq] at *; rw [decide_eq_false (by omega)]; rfl), hn1.ext⟩ | exact ⟨congrArg Value.bool (by simp only [decide_eq_false_iff_not] at *; rw [List.take_of_length_le (by omega)] at hgo; unfold typM; rw [hgo, decide_eq_true (p := 1 ≤ L.length ∧ L.length ≤ 256) (by omega)]; rfl), hn1.ext.trans hE⟩ | (refine ⟨congrArg Value.bool (hbad ?_).symm, hn1.ext.trans (hE.trans hE6)⟩; clear hnext hbad; simp [eqs, eqv] at *; first | (simp [nodM, *]; done) | (simp [nodM, *]; assumption) | (simp [nodM, *]; intros; omega))
                  · refine Reg.gpur rfl rfl rfl rfl rfl rfl (Pur.fld _ fo47_1 rfl) ?_
                    refine Reg.glod rfl rfl rfl rfl rfl rfl (Lod.ld sc3 rfl hX.blk rfl) ?_
                    refine Reg.gpur rfl rfl rfl rfl rfl rfl (Pur.lss rfl rfl) ?_
                    refine Reg.pur rfl rfl rfl rfl (Pur.pickF rfl rfl) ?_
                    refine Reg.pur rfl rfl rfl rfl (Pur.mv rfl) ?_
                    refine Reg.case 63 rfl (fun hc19 => ?_) (fun hc19 => ?_)
                    · refine Reg.skip rfl rfl rfl rfl rfl rfl rfl ?_
                      refine Reg.skip rfl rfl rfl rfl rfl rfl rfl ?_
                      refine Reg.skip rfl rfl rfl rfl rfl rfl rfl ?_
                      refine Reg.pur rfl rfl rfl rfl (Pur.pickT rfl rfl) ?_
                      refine Reg.nil ?_
                      refine At.condT rfl rfl rfl ?_
                      refine At.region rfl rfl ?_
                      refine Reg.pur rfl rfl rfl rfl (Pur.asg rfl) ?_
                      refine Reg.nil ?_
                      refine At.ret rfl Try.func40 rfl ?_
                      first | exact ⟨congrArg Value.bool (by unfold typM; simp only [decide_eq_true_eq] at *; rw [decide_eq_false (by omega)]; rfl), hn1.ext⟩ | exact ⟨congrArg Value.bool (by simp only [decide_eq_false_iff_not] at *; rw [List.take_of_length_le (by omega)] at hgo; unfold typM; rw [hgo, decide_eq_true (p := 1 ≤ L.length ∧ L.length ≤ 256) (by omega)]; rfl), hn1.ext.trans hE⟩ | (refine ⟨congrArg Value.bool (hbad ?_).symm, hn1.ext.trans (hE.trans hE6)⟩; clear hnext hbad; simp [eqs, eqv] at *; first | (simp [nodM, *]; done) | (simp [nodM, *]; assumption) | (simp [nodM, *]; intros; omega))
                    · refine Reg.gpur rfl rfl rfl rfl rfl rfl (Pur.fld _ fo47_1 rfl) ?_
                      refine Reg.glod rfl rfl rfl rfl rfl rfl (Lod.ld sc3 rfl hX.blk rfl) ?_
                      refine Reg.gpur rfl rfl rfl rfl rfl rfl (Pur.geq rfl rfl) ?_
                      refine Reg.pur rfl rfl rfl rfl (Pur.pickF rfl rfl) ?_
                      refine Reg.nil ?_
                      refine At.cond rfl rfl (fun hb20 => ?_) (fun hb20 => ?_)
                      · refine At.region rfl rfl ?_
                        refine Reg.pur rfl rfl rfl rfl (Pur.asg rfl) ?_
                        refine Reg.nil ?_
                        refine At.ret rfl Try.func40 rfl ?_
                        first | exact ⟨congrArg Value.bool (by unfold typM; simp only [decide_eq_true_eq] at *; rw [decide_eq_false (by omega)]; rfl), hn1.ext⟩ | exact ⟨congrArg Value.bool (by simp only [decide_eq_false_iff_not] at *; rw [List.take_of_length_le (by omega)] at hgo; unfold typM; rw [hgo, decide_eq_true (p := 1 ≤ L.length ∧ L.length ≤ 256) (by omega)]; rfl), hn1.ext.trans hE⟩ | (refine ⟨congrArg Value.bool (hbad ?_).symm, hn1.ext.trans (hE.trans hE6)⟩; clear hnext hbad; simp [eqs, eqv] at *; first | (simp [nodM, *]; done) | (simp [nodM, *]; assumption) | (simp [nodM, *]; intros; omega))
                      · refine At.region rfl rfl ?_
                        refine Reg.pur rfl rfl rfl rfl (Pur.mv rfl) ?_
                        first | refine Reg.pur rfl rfl rfl rfl (Pur.add64 rfl rfl (by omega)) ?_ | refine Reg.pur rfl rfl rfl rfl (Pur.add64 rfl rfl (by assumption)) ?_ | refine Reg.pur rfl rfl rfl rfl (Pur.add rfl rfl) ?_
                        refine Reg.pur rfl rfl rfl rfl (Pur.asg rfl) ?_
                        refine Reg.nil ?_
                        refine At.via (hnext _ hE6 ?_) ⟨rfl, rfl, trivial⟩
                        clear hnext hbad
                        simp [eqs, eqv] at *
                        simp [nodM, *]
              · refine At.region rfl rfl ?_
                refine Reg.pur rfl rfl rfl rfl (Pur.asg rfl) ?_
                refine Reg.nil ?_
                refine At.ret rfl Try.func40 rfl ?_
                first | exact ⟨congrArg Value.bool (by unfold typM; simp only [decide_eq_true_eq] at *; rw [decide_eq_false (by omega)]; rfl), hn1.ext⟩ | exact ⟨congrArg Value.bool (by simp only [decide_eq_false_iff_not] at *; rw [List.take_of_length_le (by omega)] at hgo; unfold typM; rw [hgo, decide_eq_true (p := 1 ≤ L.length ∧ L.length ≤ 256) (by omega)]; rfl), hn1.ext.trans hE⟩ | (refine ⟨congrArg Value.bool (hbad ?_).symm, hn1.ext.trans (hE.trans hE6)⟩; clear hnext hbad; simp [eqs, eqv] at *; first | (simp [nodM, *]; done) | (simp [nodM, *]; assumption) | (simp [nodM, *]; intros; omega))
      · have hlen : 1 ≤ L.length ∧ L.length ≤ 256 := by simp only [decide_eq_false_iff_not] at *; omega
        refine At.region rfl rfl ?_
        refine Reg.pur rfl rfl rfl rfl (Pur.mv rfl) ?_
        refine Reg.pur rfl rfl rfl rfl (Pur.mv rfl) ?_
        refine Reg.pur rfl rfl rfl rfl (Pur.lenS isl23 rfl) ?_
        first | refine Reg.pur rfl rfl rfl rfl (Pur.sub64 rfl rfl (by omega)) ?_ | refine Reg.pur rfl rfl rfl rfl (Pur.sub64 rfl rfl (by assumption)) ?_ | refine Reg.pur rfl rfl rfl rfl (Pur.sub rfl rfl) ?_
        refine Reg.op rfl rfl rfl rfl (Does.call rfl (beginR_ok L hL (hS1.ext hE) hm L.length _ (by omega) (by omega) (by omega))) ?_
        rintro _ H2 ⟨rfl, rfl⟩
        refine Reg.pur rfl rfl rfl rfl (Pur.eql rfl rfl) ?_
        refine Reg.pur rfl rfl rfl rfl (Pur.asg rfl) ?_
        refine Reg.nil ?_
        refine At.ret rfl Try.func40 rfl ?_
        first | exact ⟨congrArg Value.bool (by unfold typM; simp only [decide_eq_true_eq] at *; rw [decide_eq_false (by omega)]; rfl), hn1.ext⟩ | exact ⟨congrArg Value.bool (by simp only [decide_eq_false_iff_not] at *; rw [List.take_of_length_le (by omega)] at hgo; unfold typM; rw [hgo, decide_eq_true (p := 1 ≤ L.length ∧ L.length ≤ 256) (by omega)]; rfl), hn1.ext.trans hE⟩ | (refine ⟨congrArg Value.bool (hbad ?_).symm, hn1.ext.trans (hE.trans hE6)⟩; clear hnext hbad; simp [eqs, eqv] at *; first | (simp [nodM, *]; done) | (simp [nodM, *]; assumption) | (simp [nodM, *]; intros; omega))
end Go.Proofs.Ytlfillhffpiffaa
