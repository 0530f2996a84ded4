/-
  Types copied and compared.
-/
import Derived.Test.YtlfillhffpiffaaSubF
namespace Go.Proofs.Ytlfillhffpiffaa
set_option linter.unusedSimpArgs false
set_option linter.unusedVariables false
set_option maxRecDepth 8000
open Go Go.Fx Go.Proofs
namespace FactsSubG
theorem ag25 : ag Try.prog 25 = some 1 := by kernel_rfl
theorem ag47 : ag Try.prog 47 = some 9 := by kernel_rfl
theorem apt23 : appT Try.prog 23 = some (47, 9, 72) := by kernel_rfl
theorem eqt47 : eqT Try.prog 47 = some [.int .i64, .int .i64, .int .i64, .int .i64, .int .i64, .int .i64, .int .i64, .int .i64, .int .i64] := by kernel_rfl
theorem es23 : esz Try.prog 23 = some 9 := by kernel_rfl
theorem fo25_0 : foff Try.prog 25 0 = some 0 := by kernel_rfl
theorem isl23 : isSl Try.prog 23 = true := by kernel_rfl
theorem mixed : Try.prog.follows .mixedOrders = true := by kernel_rfl
theorem pl25 : places Try.prog 25 = some [(0, 1)] := by kernel_rfl
theorem sc23 : sc Try.prog 23 = true := by kernel_rfl
theorem slA23 : slA Try.prog 23 = some (47, 9) := by kernel_rfl
theorem zc25 : zc Try.prog 25 = some [.slice none 0 0] := by kernel_rfl
end FactsSubG
open FactsSubG

theorem copyN_ok {A : Option Addr} {cap : Nat} {L : List (List Int)} (hL : Nine L) {H : Heap} (hS : SlT H Is 9 (.slice A L.length cap) L) (hb : L.length * 72 ≤ 140737488351232) :
    Ret Try.prog 52 [.slice A L.length cap] H (fun v H' => OwnS H' H.size 47 9 v L.length (L.flatMap Is) ∧ Ext H H') := by
  refine Ret.of_at (N := 6) Try.call52 Try.func52 rfl rfl rfl ?_
  refine At.region rfl rfl ?_
  refine Reg.pur rfl rfl rfl rfl (Pur.asg rfl) ?_
  refine Reg.nil ?_
  refine At.region rfl rfl ?_
  refine Reg.op rfl rfl rfl rfl (Does.bslA ([]) slA23 rfl rfl rfl rfl rfl rfl) ?_
  rintro _ H1 ⟨rfl, rfl⟩
  refine Reg.pur rfl rfl rfl rfl (Pur.mv rfl) ?_
  refine Reg.op rfl rfl rfl rfl (Does.app apt23 rfl rfl (OwnS.new (xs := []) (n := 0) (H := H) (B := H.size) rfl (by decide) (Nat.le_refl _)) (sl_src (wide9 hL) (hS.ext New.of_push.ext)) (ones_flat L) (by rw [show maxLen = 9223372036854775807 from rfl]; omega) (by omega) (by simp)) ?_
  rintro v H2 ⟨ho, hbut, _, _⟩
  refine Reg.pur rfl rfl rfl rfl (Pur.asg rfl) ?_
  refine Reg.nil ?_
  refine At.ret rfl Try.func52 rfl ?_
  refine ⟨by simpa using ho, ?_⟩
  exact (New.of_push (xs := []).ext).trBut hbut (fun b hb h => by simp only [Value.ownBlock, Option.some.injEq] at h; omega)

theorem own_slice {H : Heap} {B : Nat} {ty : TypeId} {v : Value} {n s : Nat} {xs : List Value} (h : OwnS H B ty s v n xs) : ∃ A cap, v = .slice A n cap ∧ (∀ g, v.ownBlock = some g → B ≤ g) := by
  obtain ⟨_, ⟨rfl, rfl⟩ | ⟨g, cap, cur, rfl, h2, _⟩⟩ := h
  · exact ⟨none, 0, rfl, fun g h => by cases h⟩
  · exact ⟨_, _, rfl, fun g' h => by simp only [Value.ownBlock, Option.some.injEq] at h; omega⟩

/-- a copy: a type in new memory -/
theorem copyType_ok {A : Option Addr} {cap : Nat} {L : List (List Int)} (hL : Nine L) {H : Heap} (hS : SlT H Is 9 (.slice A L.length cap) L) (hb : L.length * 72 ≤ 140737488351232) :
    Ret Try.prog 19 [Ty A L.length cap] H (fun v H' => ∃ A' cap', v = Ty A' L.length cap' ∧ OwnS H' H.size 47 9 (.slice A' L.length cap') L.length (L.flatMap Is) ∧ Ext H H') := by
  refine Ret.of_at (N := 7) Try.call19 Try.func19 rfl rfl rfl ?_
  refine At.region rfl rfl ?_
  refine Reg.op rfl rfl rfl rfl (Does.box rfl rfl) ?_
  rintro _ H1 ⟨rfl, hn1⟩
  refine Reg.op rfl rfl rfl rfl (Does.alloc zc25) ?_
  rintro _ H2 ⟨rfl, hn2⟩
  refine Reg.nil ?_
  have hlt := hn1.own.lt
  have hlt2 := hn1.ext.1
  have hE2 := hn1.ext.trans hn2.ext
  refine At.region rfl rfl ?_
  refine Reg.pur rfl rfl rfl rfl (Pur.fld _ fo25_0 rfl) ?_
  refine Reg.lod rfl rfl rfl rfl (Lod.ld sc23 rfl ((hn1.own.ext hn2.ext).blk) rfl) ?_
  refine Reg.op rfl rfl rfl rfl (Does.call rfl (copyN_ok hL (hS.ext hE2) hb)) ?_
  rintro v H3 ⟨ho, hE3⟩
  obtain ⟨A', cap', rfl, hB⟩ := own_slice ho
  refine Reg.pur rfl rfl rfl rfl (Pur.bld (cs := [_]) pl25 zc25 rfl rfl ⟨rfl, rfl⟩) ?_
  refine Reg.op0 rfl rfl rfl (Does.stn ag25 rfl rfl rfl rfl (hn2.own.ext hE3) (by decide)) ?_
  rintro _ H4 hu4
  refine Reg.nil ?_
  have hR : Own H4 H1.size [.slice A' L.length cap'] := hu4.own
  have hRl : ([.slice A' L.length cap'] : List Value).length = 1 := rfl
  have hs2 := hn2.own.lt
  refine At.retC rfl Try.func19 ⟨_, _, _, _, rfl, rfl, ⟨_, hR.blk, .inr ⟨_, _, ag25, (whole hRl), hRl, rfl⟩⟩, rfl⟩ ?_
  refine ⟨A', cap', rfl, (ho.mono (by have := hE2.1; omega)).but hu4.but (fun g hg he => by have := hB g hg; omega), (hE2.trans hE3).upd hu4 (by omega)⟩

theorem sameN_ok {A A' : Option Addr} {cap cap' : Nat} {L L' : List (List Int)} (hL : Nine L) (hL' : Nine L') {H : Heap} (hS : SlT H Is 9 (.slice A L.length cap) L) (hS' : SlT H Is 9 (.slice A' L'.length cap') L') (hm : L.length ≤ 9223372036854775807) :
    Ret Try.prog 61 [.slice A L.length cap, .slice A' L'.length cap'] H (fun v H' => v = .bool (decide (L = L')) ∧ H' = H) := by
  refine Ret.of_at (N := 26) Try.call61 Try.func61 rfl rfl rfl ?_
  refine At.region rfl rfl ?_
  refine Reg.pur rfl rfl rfl rfl (Pur.asg rfl) ?_
  refine Reg.nil ?_
  refine At.region rfl rfl ?_
  refine Reg.pur rfl rfl rfl rfl (Pur.mv rfl) ?_
  refine Reg.pur rfl rfl rfl rfl (Pur.lenS isl23 rfl) ?_
  refine Reg.pur rfl rfl rfl rfl (Pur.mv rfl) ?_
  refine Reg.pur rfl rfl rfl rfl (Pur.lenS isl23 rfl) ?_
  refine Reg.pur rfl rfl rfl rfl (Pur.neq rfl rfl) ?_
  refine Reg.nil ?_
  refine At.cond rfl rfl (fun hb1 => ?_) (fun hb1 => ?_)
  · refine At.region rfl rfl ?_
    refine Reg.pur rfl rfl rfl rfl (Pur.asg rfl) ?_
    refine Reg.nil ?_
    refine At.ret rfl Try.func61 rfl ?_
    first | exact ⟨congrArg Value.bool (decide_eq_false (fun h => by subst h; rw [hq] at hb3; simp at hb3)).symm, rfl⟩ | exact ⟨congrArg Value.bool (decide_eq_true (by simp only [decide_eq_false_iff_not] at hb2; rwa [List.take_of_length_le (by omega), List.take_of_length_le (by omega)] at hgo)).symm, rfl⟩ | exact ⟨congrArg Value.bool (decide_eq_false (fun h => by subst h; simp at hb1)).symm, rfl⟩
  · refine At.region rfl rfl ?_
    refine Reg.pur rfl rfl rfl rfl (Pur.asg rfl) ?_
    refine Reg.nil ?_
    have hll : L.length = L'.length := by simp at hb1; omega
    refine At.loop (σ := Nat) (fun i => [(5, I i), (0, .slice A L.length cap), (1, .slice A' L'.length cap')]) (fun i H' => i ≤ L.length ∧ H' = H ∧ L.take i = L'.take i) (fun i => L.length - i) 0 rfl ⟨rfl, rfl, rfl, trivial⟩ ⟨by omega, rfl, rfl⟩ ?_
    rintro i H1 ⟨hi, rfl, hgo⟩ ih
    refine At.region rfl rfl ?_
    refine Reg.pur rfl rfl rfl rfl (Pur.mv rfl) ?_
    refine Reg.pur rfl rfl rfl rfl (Pur.mv rfl) ?_
    refine Reg.pur rfl rfl rfl rfl (Pur.lenS isl23 rfl) ?_
    refine Reg.pur rfl rfl rfl rfl (Pur.lss rfl rfl) ?_
    refine Reg.nil ?_
    refine At.cond rfl rfl (fun hb2 => ?_) (fun hb2 => ?_)
    · simp only [decide_eq_true_eq] at hb2
      have hlt : i < L.length := by omega
      have hlt' : i < L'.length := by omega
      obtain ⟨b, o, c, rfl, hB, hd, h9⟩ := sl_at (wide9 hL) hS hlt
      obtain ⟨b', o', c', rfl, hB', hd', h9'⟩ := sl_at (wide9 hL') hS' hlt'
      have hf := fks_ints .i64 L[i]
      have hf' := fks_ints .i64 L'[i]
      rw [hL _ (List.getElem_mem hlt)] at hf
      rw [hL' _ (List.getElem_mem hlt')] at hf'
      have hq := eqs_ints .i64 L[i] L'[i]
      refine At.draw (fun H' => Blk H' b c ∧ Blk H' b' c') [] mixed rfl rfl ?_
      refine RegD.tpur (i := 0) rfl rfl rfl rfl (by kernel_rfl) (Pur.mv rfl) ?_
      refine RegD.tpur (i := 1) rfl rfl rfl rfl (by kernel_rfl) (Pur.mv rfl) ?_
      refine RegD.tpur (i := 2) rfl rfl rfl rfl (by kernel_rfl) (Pur.idx _ es23 rfl rfl (by omega) hb2) ?_
      refine RegD.take (i := 3) rfl rfl rfl rfl (by kernel_rfl) ⟨hB, hB'⟩ (fun H hS => Lod.ldn ag47 rfl hS.1 hd h9) ?_
      refine RegD.tpur (i := 4) rfl rfl rfl rfl (by kernel_rfl) (Pur.mv rfl) ?_
      refine RegD.tpur (i := 5) rfl rfl rfl rfl (by kernel_rfl) (Pur.mv rfl) ?_
      refine RegD.tpur (i := 6) rfl rfl rfl rfl (by kernel_rfl) (Pur.idx _ es23 rfl rfl (by omega) (by omega)) ?_
      refine RegD.take (i := 7) rfl rfl rfl rfl (by kernel_rfl) ⟨hB, hB'⟩ (fun H hS => Lod.ldn ag47 rfl hS.2 hd' h9') ?_
      refine RegD.tpur (i := 8) rfl rfl rfl rfl (by kernel_rfl) (Pur.neA eqt47 rfl rfl hf hf') ?_
      refine RegD.done (by kernel_rfl) ?_
      refine At.cond rfl rfl (fun hb3 => ?_) (fun hb3 => ?_)
      · refine At.region rfl rfl ?_
        refine Reg.pur rfl rfl rfl rfl (Pur.asg rfl) ?_
        refine Reg.nil ?_
        refine At.ret rfl Try.func61 rfl ?_
        first | exact ⟨congrArg Value.bool (decide_eq_false (fun h => by subst h; rw [hq] at hb3; simp at hb3)).symm, rfl⟩ | exact ⟨congrArg Value.bool (decide_eq_true (by simp only [decide_eq_false_iff_not] at hb2; rwa [List.take_of_length_le (by omega), List.take_of_length_le (by omega)] at hgo)).symm, rfl⟩ | exact ⟨congrArg Value.bool (decide_eq_false (fun h => by subst h; simp at hb1)).symm, rfl⟩
      · refine At.region rfl rfl ?_
        refine Reg.pur rfl rfl rfl rfl (Pur.mv rfl) ?_
        first | refine Reg.pur rfl rfl rfl rfl (Pur.add64 rfl rfl (by omega)) ?_ | refine Reg.pur rfl rfl rfl rfl (Pur.add64 rfl rfl (by assumption)) ?_ | refine Reg.pur rfl rfl rfl rfl (Pur.add rfl rfl) ?_
        refine Reg.pur rfl rfl rfl rfl (Pur.asg rfl) ?_
        refine Reg.nil ?_
        refine At.via (ih (i + 1) _ ⟨by omega, rfl, ?_⟩ (by omega)) ⟨rfl, rfl, rfl, trivial⟩
        rw [hq] at hb3
        rw [List.take_succ_eq_append_getElem hlt, List.take_succ_eq_append_getElem hlt', hgo, show L[i] = L'[i] by simpa using hb3]
    · refine At.region rfl rfl ?_
      refine Reg.pur rfl rfl rfl rfl (Pur.asg rfl) ?_
      refine Reg.nil ?_
      refine At.ret rfl Try.func61 rfl ?_
      first | exact ⟨congrArg Value.bool (decide_eq_false (fun h => by subst h; rw [hq] at hb3; simp at hb3)).symm, rfl⟩ | exact ⟨congrArg Value.bool (decide_eq_true (by simp only [decide_eq_false_iff_not] at hb2; rwa [List.take_of_length_le (by omega), List.take_of_length_le (by omega)] at hgo)).symm, rfl⟩ | exact ⟨congrArg Value.bool (decide_eq_false (fun h => by subst h; simp at hb1)).symm, rfl⟩

theorem sameType_ok {A A' : Option Addr} {cap cap' : Nat} {L L' : List (List Int)} (hL : Nine L) (hL' : Nine L') {H : Heap} (hS : SlT H Is 9 (.slice A L.length cap) L) (hS' : SlT H Is 9 (.slice A' L'.length cap') L') (hm : L.length ≤ 9223372036854775807) :
    Ret Try.prog 24 [Ty A L.length cap, Ty A' L'.length cap'] H (fun v H' => v = .bool (decide (L = L')) ∧ Ext H H') := by
  refine Ret.of_at (N := 10) Try.call24 Try.func24 rfl rfl rfl ?_
  refine At.region rfl rfl ?_
  refine Reg.op rfl rfl rfl rfl (Does.box rfl rfl) ?_
  rintro _ H1 ⟨rfl, hn1⟩
  refine Reg.op rfl rfl rfl rfl (Does.box rfl rfl) ?_
  rintro _ H2 ⟨rfl, hn2⟩
  refine Reg.pur rfl rfl rfl rfl (Pur.asg rfl) ?_
  refine Reg.nil ?_
  refine At.region rfl rfl ?_
  refine Reg.pur rfl rfl rfl rfl (Pur.fld _ fo25_0 rfl) ?_
  refine Reg.lod rfl rfl rfl rfl (Lod.ld sc23 rfl ((hn1.own.ext hn2.ext).blk) rfl) ?_
  refine Reg.pur rfl rfl rfl rfl (Pur.fld _ fo25_0 rfl) ?_
  refine Reg.lod rfl rfl rfl rfl (Lod.ld sc23 rfl hn2.own.blk rfl) ?_
  refine Reg.op rfl rfl rfl rfl (Does.call rfl (sameN_ok hL hL' (hS.ext (hn1.ext.trans hn2.ext)) (hS'.ext (hn1.ext.trans hn2.ext)) hm)) ?_
  rintro _ H2 ⟨rfl, rfl⟩
  refine Reg.pur rfl rfl rfl rfl (Pur.asg rfl) ?_
  refine Reg.nil ?_
  refine At.ret rfl Try.func24 rfl ?_
  exact ⟨rfl, hn1.ext.trans hn2.ext⟩
end Go.Proofs.Ytlfillhffpiffaa
