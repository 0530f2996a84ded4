/-
  Binds that may be; a variable's bind.
-/
import Derived.Test.YtlfillhffpiffaaTypD
import Derived.Test.YtlfillhffpiffaaFxJ
namespace Go.Proofs.Ytlfillhffpiffaa
set_option linter.unusedSimpArgs false
set_option linter.unusedVariables false
set_option maxRecDepth 8000
open Go Go.Fx Go.Proofs
namespace FactsSubA
theorem ag25 : ag Try.prog 25 = some 1 := by kernel_rfl
theorem ag28 : ag Try.prog 28 = some 5 := by kernel_rfl
theorem eqt28 : eqT Try.prog 28 = some [.int .i64, .int .i64, .int .i64, .int .i64, .int .i64] := by kernel_rfl
theorem fo25_0 : foff Try.prog 25 0 = some 0 := by kernel_rfl
theorem fo49_0 : foff Try.prog 49 0 = some 0 := by kernel_rfl
theorem fo49_1 : foff Try.prog 49 1 = some 1 := by kernel_rfl
theorem fo49_2 : foff Try.prog 49 2 = some 2 := by kernel_rfl
theorem fo49_3 : foff Try.prog 49 3 = some 3 := by kernel_rfl
theorem isl23 : isSl Try.prog 23 = true := by kernel_rfl
theorem pl28 : places Try.prog 28 = some [(0, 4), (4, 1)] := by kernel_rfl
theorem sc23 : sc Try.prog 23 = true := by kernel_rfl
theorem sc3 : sc Try.prog 3 = true := by kernel_rfl
theorem sc4 : sc Try.prog 4 = true := by kernel_rfl
theorem zc28 : zc Try.prog 28 = some [.int .i64 0, .int .i64 0, .int .i64 0, .int .i64 0, .int .i64 0] := by kernel_rfl
end FactsSubA
open FactsSubA

/-- a bind: its variable, its sort, where its type's nodes lie and which they are, its row -/
structure Bd where
  var : Int
  isRow : Bool
  A : Option Addr
  cap : Nat
  nodes : List (List Int)
  row : List Int
abbrev Bd.sl (b : Bd) : Value := .slice b.A b.nodes.length b.cap
abbrev encB (b : Bd) : List Value := I b.var :: .bool b.isRow :: b.sl :: Is b.row
structure Bd.Ok (H : Heap) (b : Bd) : Prop where
  sl : SlT H Is 9 b.sl b.nodes
  nine : Nine b.nodes
  row : b.row.length = 5
  fits : b.nodes.length * 72 ≤ 140737488351232
theorem Bd.Ok.ext {H H' : Heap} {b : Bd} (h : b.Ok H) (he : Ext H H') : b.Ok H' := ⟨h.sl.ext he, h.nine, h.row, h.fits⟩
theorem Bd.Ok.len {H : Heap} {b : Bd} (h : b.Ok H) : (encB b).length = 8 := by simp [h.row]
theorem Bd.Ok.max {H : Heap} {b : Bd} (h : b.Ok H) : b.nodes.length ≤ 9223372036854775807 := by have := h.fits; omega
abbrev noRow : List Int := [0, 0, 0, 0, 0]
def bindM (b : Bd) : Bool := decide (0 ≤ b.var ∧ b.var < 4096) && if b.isRow then decide (b.nodes.length = 0) && rowM b.row else decide (b.row = noRow) && typM b.nodes
theorem ones_encB (b : Bd) : ones (encB b) = true := by simp [ones, Value.oneCell']

theorem not_ok (b : Bd) {H : Heap} (hb : b.Ok H) : Ret Try.prog 84 [.agg (encB b).toArray] H (fun v H' => v = .bool (!bindM b) ∧ Ext H H') := by
  obtain ⟨var, isRow, A, cap, nodes, row⟩ := b
  have hrl := hb.row
  have hsl := hb.sl
  have hnn := hb.nine
  have hmm := hb.max
  dsimp only [Bd.sl] at hrl hsl hnn hmm
  have hf := fks_ints .i64 row
  rw [hrl] at hf
  refine Ret.of_at (N := 34) Try.call84 Try.func84 rfl rfl rfl ?_
  refine At.region rfl rfl ?_
  refine Reg.op rfl rfl rfl rfl (Does.box rfl rfl) ?_
  rintro _ H1 ⟨rfl, hn1⟩
  refine Reg.pur rfl rfl rfl rfl (Pur.asg rfl) ?_
  refine Reg.nil ?_
  have hB := hn1.own.blk
  refine At.region rfl rfl ?_
  refine Reg.pur rfl rfl rfl rfl (Pur.fld _ fo49_0 rfl) ?_
  refine Reg.lod rfl rfl rfl rfl (Lod.ld sc3 rfl hB rfl) ?_
  refine Reg.pur rfl rfl rfl rfl (Pur.lss rfl rfl) ?_
  refine Reg.pur rfl rfl rfl rfl (Pur.mv rfl) ?_
  refine Reg.case 6 rfl (fun hc1 => ?_) (fun hc1 => ?_)
  · refine Reg.skip rfl rfl rfl rfl rfl rfl rfl ?_
    refine Reg.skip rfl rfl rfl rfl rfl rfl rfl ?_
    refine Reg.skip rfl rfl rfl rfl rfl rfl rfl ?_
    refine Reg.pur rfl rfl rfl rfl (Pur.pickT rfl rfl) ?_
    refine Reg.nil ?_
    refine At.condT rfl rfl rfl ?_
    refine At.region rfl rfl ?_
    refine Reg.pur rfl rfl rfl rfl (Pur.asg rfl) ?_
    refine Reg.nil ?_
    refine At.ret rfl Try.func84 rfl ?_
    refine ⟨congrArg Value.bool ?_, by first | exact hn1.ext.trans hE2 | exact hn1.ext⟩
    unfold bindM
    try change (!eqs (Is row) (Is noRow)) = _ at hc5
    have hq := eqs_ints .i64 row noRow
    try simp only [decide_eq_true_eq, decide_eq_false_iff_not] at hc1
    try simp only [decide_eq_true_eq, decide_eq_false_iff_not] at hb2
    try simp only [decide_eq_true_eq, decide_eq_false_iff_not] at hc4
    try dsimp only at hb3
    dsimp only
    first | (rw [decide_eq_false (p := 0 ≤ var ∧ var < 4096) (by omega)]; rfl) | (rw [decide_eq_true (p := 0 ≤ var ∧ var < 4096) (by omega), if_pos hb3, decide_eq_false (p := nodes.length = 0) (by omega)]; rfl) | (rw [decide_eq_true (p := 0 ≤ var ∧ var < 4096) (by omega), if_pos hb3, decide_eq_true (p := nodes.length = 0) (by omega)]; rfl) | (rw [decide_eq_true (p := 0 ≤ var ∧ var < 4096) (by omega), if_neg (by rw [hb3]; decide), ← hq]; generalize eqs (Is row) (Is noRow) = q at *; cases q <;> simp_all; done)
  · refine Reg.gpur rfl rfl rfl rfl rfl rfl (Pur.fld _ fo49_0 rfl) ?_
    refine Reg.glod rfl rfl rfl rfl rfl rfl (Lod.ld sc3 rfl hB rfl) ?_
    refine Reg.gpur rfl rfl rfl rfl rfl rfl (Pur.geq rfl rfl) ?_
    refine Reg.pur rfl rfl rfl rfl (Pur.pickF rfl rfl) ?_
    refine Reg.nil ?_
    refine At.cond rfl rfl (fun hb2 => ?_) (fun hb2 => ?_)
    · refine At.region rfl rfl ?_
      refine Reg.pur rfl rfl rfl rfl (Pur.asg rfl) ?_
      refine Reg.nil ?_
      refine At.ret rfl Try.func84 rfl ?_
      refine ⟨congrArg Value.bool ?_, by first | exact hn1.ext.trans hE2 | exact hn1.ext⟩
      unfold bindM
      try change (!eqs (Is row) (Is noRow)) = _ at hc5
      have hq := eqs_ints .i64 row noRow
      try simp only [decide_eq_true_eq, decide_eq_false_iff_not] at hc1
      try simp only [decide_eq_true_eq, decide_eq_false_iff_not] at hb2
      try simp only [decide_eq_true_eq, decide_eq_false_iff_not] at hc4
      try dsimp only at hb3
      dsimp only
      first | (rw [decide_eq_false (p := 0 ≤ var ∧ var < 4096) (by omega)]; rfl) | (rw [decide_eq_true (p := 0 ≤ var ∧ var < 4096) (by omega), if_pos hb3, decide_eq_false (p := nodes.length = 0) (by omega)]; rfl) | (rw [decide_eq_true (p := 0 ≤ var ∧ var < 4096) (by omega), if_pos hb3, decide_eq_true (p := nodes.length = 0) (by omega)]; rfl) | (rw [decide_eq_true (p := 0 ≤ var ∧ var < 4096) (by omega), if_neg (by rw [hb3]; decide), ← hq]; generalize eqs (Is row) (Is noRow) = q at *; cases q <;> simp_all; done)
    · refine At.region rfl rfl ?_
      refine Reg.pur rfl rfl rfl rfl (Pur.fld _ fo49_1 rfl) ?_
      refine Reg.lod rfl rfl rfl rfl (Lod.ld sc4 rfl hB rfl) ?_
      refine Reg.nil ?_
      refine At.cond rfl rfl (fun hb3 => ?_) (fun hb3 => ?_)
      · refine At.region rfl rfl ?_
        refine Reg.pur rfl rfl rfl rfl (Pur.fld _ fo49_2 rfl) ?_
        refine Reg.pur rfl rfl rfl rfl (Pur.fld _ fo25_0 rfl) ?_
        refine Reg.lod rfl rfl rfl rfl (Lod.ld sc23 rfl hB rfl) ?_
        refine Reg.pur rfl rfl rfl rfl (Pur.lenS isl23 rfl) ?_
        refine Reg.pur rfl rfl rfl rfl (Pur.gtr rfl rfl) ?_
        refine Reg.pur rfl rfl rfl rfl (Pur.mv rfl) ?_
        refine Reg.case 18 rfl (fun hc4 => ?_) (fun hc4 => ?_)
        · refine Reg.skip rfl rfl rfl rfl rfl rfl rfl ?_
          refine Reg.skip rfl rfl rfl rfl rfl rfl rfl ?_
          refine Reg.skip rfl rfl rfl rfl rfl rfl rfl ?_
          refine Reg.skip rfl rfl rfl rfl rfl rfl rfl ?_
          refine Reg.pur rfl rfl rfl rfl (Pur.pickT rfl rfl) ?_
          refine Reg.pur rfl rfl rfl rfl (Pur.asg rfl) ?_
          refine Reg.nil ?_
          refine At.ret rfl Try.func84 rfl ?_
          refine ⟨congrArg Value.bool ?_, by first | exact hn1.ext.trans hE2 | exact hn1.ext⟩
          unfold bindM
          try change (!eqs (Is row) (Is noRow)) = _ at hc5
          have hq := eqs_ints .i64 row noRow
          try simp only [decide_eq_true_eq, decide_eq_false_iff_not] at hc1
          try simp only [decide_eq_true_eq, decide_eq_false_iff_not] at hb2
          try simp only [decide_eq_true_eq, decide_eq_false_iff_not] at hc4
          try dsimp only at hb3
          dsimp only
          first | (rw [decide_eq_false (p := 0 ≤ var ∧ var < 4096) (by omega)]; rfl) | (rw [decide_eq_true (p := 0 ≤ var ∧ var < 4096) (by omega), if_pos hb3, decide_eq_false (p := nodes.length = 0) (by omega)]; rfl) | (rw [decide_eq_true (p := 0 ≤ var ∧ var < 4096) (by omega), if_pos hb3, decide_eq_true (p := nodes.length = 0) (by omega)]; rfl) | (rw [decide_eq_true (p := 0 ≤ var ∧ var < 4096) (by omega), if_neg (by rw [hb3]; decide), ← hq]; generalize eqs (Is row) (Is noRow) = q at *; cases q <;> simp_all; done)
        · refine Reg.gpur rfl rfl rfl rfl rfl rfl (Pur.fld _ fo49_3 rfl) ?_
          refine Reg.glod rfl rfl rfl rfl rfl rfl (Lod.ldn ag28 rfl hB (show (Is row).take 5 = Is row from List.take_of_length_le (by simp [hrl])) (by simp [hrl])) ?_
          refine Reg.gop rfl rfl rfl rfl rfl rfl (Does.call rfl (rowMay_ok row hrl _)) ?_
          rintro _ H2 ⟨rfl, hE2⟩
          refine Reg.gpur rfl rfl rfl rfl rfl rfl (Pur.not rfl) ?_
          refine Reg.pur rfl rfl rfl rfl (Pur.pickF rfl rfl) ?_
          refine Reg.pur rfl rfl rfl rfl (Pur.asg rfl) ?_
          refine Reg.nil ?_
          refine At.ret rfl Try.func84 rfl ?_
          refine ⟨congrArg Value.bool ?_, by first | exact hn1.ext.trans hE2 | exact hn1.ext⟩
          unfold bindM
          try change (!eqs (Is row) (Is noRow)) = _ at hc5
          have hq := eqs_ints .i64 row noRow
          try simp only [decide_eq_true_eq, decide_eq_false_iff_not] at hc1
          try simp only [decide_eq_true_eq, decide_eq_false_iff_not] at hb2
          try simp only [decide_eq_true_eq, decide_eq_false_iff_not] at hc4
          try dsimp only at hb3
          dsimp only
          first | (rw [decide_eq_false (p := 0 ≤ var ∧ var < 4096) (by omega)]; rfl) | (rw [decide_eq_true (p := 0 ≤ var ∧ var < 4096) (by omega), if_pos hb3, decide_eq_false (p := nodes.length = 0) (by omega)]; rfl) | (rw [decide_eq_true (p := 0 ≤ var ∧ var < 4096) (by omega), if_pos hb3, decide_eq_true (p := nodes.length = 0) (by omega)]; rfl) | (rw [decide_eq_true (p := 0 ≤ var ∧ var < 4096) (by omega), if_neg (by rw [hb3]; decide), ← hq]; generalize eqs (Is row) (Is noRow) = q at *; cases q <;> simp_all; done)
      · refine At.region rfl rfl ?_
        refine Reg.pur rfl rfl rfl rfl (Pur.fld _ fo49_3 rfl) ?_
        refine Reg.lod rfl rfl rfl rfl (Lod.ldn ag28 rfl hB (show (Is row).take 5 = Is row from List.take_of_length_le (by simp [hrl])) (by simp [hrl])) ?_
        refine Reg.pur rfl rfl rfl rfl (Pur.bld (cs := [_, _, _, _, _]) pl28 zc28 rfl rfl ⟨rfl, rfl, rfl, rfl, rfl, rfl⟩) ?_
        refine Reg.pur rfl rfl rfl rfl (Pur.neA eqt28 rfl rfl hf (fks_ints .i64 noRow)) ?_
        refine Reg.pur rfl rfl rfl rfl (Pur.mv rfl) ?_
        refine Reg.case 28 rfl (fun hc5 => ?_) (fun hc5 => ?_)
        · refine Reg.skip rfl rfl rfl rfl rfl rfl rfl ?_
          refine Reg.skip rfl rfl rfl rfl rfl rfl rfl ?_
          refine Reg.skip rfl rfl rfl rfl rfl rfl rfl ?_
          refine Reg.skip rfl rfl rfl rfl rfl rfl rfl ?_
          refine Reg.pur rfl rfl rfl rfl (Pur.pickT rfl rfl) ?_
          refine Reg.pur rfl rfl rfl rfl (Pur.asg rfl) ?_
          refine Reg.nil ?_
          refine At.ret rfl Try.func84 rfl ?_
          refine ⟨congrArg Value.bool ?_, by first | exact hn1.ext.trans hE2 | exact hn1.ext⟩
          unfold bindM
          try change (!eqs (Is row) (Is noRow)) = _ at hc5
          have hq := eqs_ints .i64 row noRow
          try simp only [decide_eq_true_eq, decide_eq_false_iff_not] at hc1
          try simp only [decide_eq_true_eq, decide_eq_false_iff_not] at hb2
          try simp only [decide_eq_true_eq, decide_eq_false_iff_not] at hc4
          try dsimp only at hb3
          dsimp only
          first | (rw [decide_eq_false (p := 0 ≤ var ∧ var < 4096) (by omega)]; rfl) | (rw [decide_eq_true (p := 0 ≤ var ∧ var < 4096) (by omega), if_pos hb3, decide_eq_false (p := nodes.length = 0) (by omega)]; rfl) | (rw [decide_eq_true (p := 0 ≤ var ∧ var < 4096) (by omega), if_pos hb3, decide_eq_true (p := nodes.length = 0) (by omega)]; rfl) | (rw [decide_eq_true (p := 0 ≤ var ∧ var < 4096) (by omega), if_neg (by rw [hb3]; decide), ← hq]; generalize eqs (Is row) (Is noRow) = q at *; cases q <;> simp_all; done)
        · refine Reg.gpur rfl rfl rfl rfl rfl rfl (Pur.fld _ fo49_2 rfl) ?_
          refine Reg.glod rfl rfl rfl rfl rfl rfl (Lod.ldn ag25 rfl hB (show _ = [Value.slice A nodes.length cap] from rfl) rfl) ?_
          refine Reg.gop rfl rfl rfl rfl rfl rfl (Does.call rfl (typMay_ok nodes hnn (hsl.ext hn1.ext) hmm)) ?_
          rintro _ H2 ⟨rfl, hE2⟩
          refine Reg.gpur rfl rfl rfl rfl rfl rfl (Pur.not rfl) ?_
          refine Reg.pur rfl rfl rfl rfl (Pur.pickF rfl rfl) ?_
          refine Reg.pur rfl rfl rfl rfl (Pur.asg rfl) ?_
          refine Reg.nil ?_
          refine At.ret rfl Try.func84 rfl ?_
          refine ⟨congrArg Value.bool ?_, by first | exact hn1.ext.trans hE2 | exact hn1.ext⟩
          unfold bindM
          try change (!eqs (Is row) (Is noRow)) = _ at hc5
          have hq := eqs_ints .i64 row noRow
          try simp only [decide_eq_true_eq, decide_eq_false_iff_not] at hc1
          try simp only [decide_eq_true_eq, decide_eq_false_iff_not] at hb2
          try simp only [decide_eq_true_eq, decide_eq_false_iff_not] at hc4
          try dsimp only at hb3
          dsimp only
          first | (rw [decide_eq_false (p := 0 ≤ var ∧ var < 4096) (by omega)]; rfl) | (rw [decide_eq_true (p := 0 ≤ var ∧ var < 4096) (by omega), if_pos hb3, decide_eq_false (p := nodes.length = 0) (by omega)]; rfl) | (rw [decide_eq_true (p := 0 ≤ var ∧ var < 4096) (by omega), if_pos hb3, decide_eq_true (p := nodes.length = 0) (by omega)]; rfl) | (rw [decide_eq_true (p := 0 ≤ var ∧ var < 4096) (by omega), if_neg (by rw [hb3]; decide), ← hq]; generalize eqs (Is row) (Is noRow) = q at *; cases q <;> simp_all; done)
end Go.Proofs.Ytlfillhffpiffaa
