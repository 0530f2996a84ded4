/-
  Targets, copied, lent, compared.
-/
import Derived.Test.YtjhkmebmbopfoaaTgtG
import Derived.Test.YtjhkmebmbopfoaaFxG
namespace Go.Proofs.Ytjhkmebmbopfoaa
set_option linter.unusedSimpArgs false
set_option linter.unusedVariables false
set_option maxRecDepth 8000
open Go Go.Fx Go.Proofs
namespace FactsTgtN
theorem ag37 : ag Try.prog 37 = some 9 := by kernel_rfl
theorem apt22 : appT Try.prog 22 = some (37, 9, 72) := by kernel_rfl
theorem eqt37 : eqT Try.prog 37 = some [.int .i64, .int .i64, .int .i64, .int .i64, .int .i64, .int .i64, .int .i64, .int .i64, .int .i64] := by kernel_rfl
theorem es22 : esz Try.prog 22 = some 9 := by kernel_rfl
theorem isl22 : isSl Try.prog 22 = true := by kernel_rfl
theorem mixed : Try.prog.follows .mixedOrders = true := by kernel_rfl
theorem pl37 : places Try.prog 37 = some [(0, 1), (1, 1), (2, 1), (3, 1), (4, 1), (5, 1), (6, 1), (7, 1), (8, 1)] := by kernel_rfl
theorem slA22 : slA Try.prog 22 = some (37, 9) := by kernel_rfl
theorem zc37 : zc Try.prog 37 = some [.int .i64 0, .int .i64 0, .int .i64 0, .int .i64 0, .int .i64 0, .int .i64 0, .int .i64 0, .int .i64 0, .int .i64 0] := by kernel_rfl
end FactsTgtN
open FactsTgtN

theorem dropL {L : List (List Int)} {i : Nat} (h : i < L.length) : L.drop i = L[i] :: L.drop (i + 1) := List.drop_eq_getElem_cons h

theorem num_ok (n : Int) (H : Heap) : Ret Try.prog 10 [I n] H (fun v H' => v = I n ∧ H' = H) := by
  refine Ret.of_at (N := 4) Try.call10 Try.func10 rfl rfl rfl ?_
  refine At.region rfl rfl ?_
  refine Reg.pur rfl rfl rfl rfl (Pur.asg rfl) ?_
  refine Reg.nil ?_
  refine At.region rfl rfl ?_
  refine Reg.pur rfl rfl rfl rfl (Pur.mv rfl) ?_
  refine Reg.pur rfl rfl rfl rfl (Pur.asg rfl) ?_
  refine Reg.nil ?_
  refine At.ret rfl Try.func10 rfl ?_
  exact ⟨rfl, rfl⟩


theorem ones_flat (L : List (List Int)) : ones (L.flatMap Is) = true := by
  simp only [ones, List.all_eq_true, List.mem_flatMap]
  rintro v ⟨x, _, hv⟩
  have := ones_Is x
  simp only [ones, List.all_eq_true] at this
  exact this v hv
theorem Is_len {L : List (List Int)} (hL : ∀ x ∈ L, x.length = 9) : ∀ x ∈ L, (Is x).length = 9 := fun x hx => by simp [Is, hL x hx]
theorem flat_len : ∀ {L : List (List Int)} (hL : ∀ x ∈ L, x.length = 9), (L.flatMap Is).length = L.length * 9
  | [], _ => rfl
  | x :: L, h => by
    rw [List.flatMap_cons, List.length_append, flat_len (fun y hy => h y (List.mem_cons_of_mem _ hy)), List.length_map, h x List.mem_cons_self, List.length_cons]; omega
theorem all_cells {c : List Value} : ∀ (L : List (List Int)) (o : Nat), (∀ x ∈ L, x.length = 9) →
    (∀ i (h : i < L.length), o + i * 9 + 9 ≤ c.length ∧ (c.drop (o + i * 9)).take 9 = Is L[i]) → (c.drop o).take (L.length * 9) = L.flatMap Is
  | [], o, _, _ => by simp
  | x :: L, o, hL, h => by
    have h0 := h 0 (by simp)
    simp only [Nat.zero_mul, Nat.add_zero, List.getElem_cons_zero] at h0
    have ih := all_cells L (o + 9) (fun y hy => hL y (List.mem_cons_of_mem _ hy)) (fun i hi => by
      have := h (i + 1) (by simpa using hi)
      simp only [List.getElem_cons_succ] at this
      rw [show o + 9 + i * 9 = o + (i + 1) * 9 from by omega]
      exact this)
    rw [List.flatMap_cons, ← h0.2, ← ih, List.length_cons, Nat.add_mul, Nat.one_mul, Nat.add_comm (L.length * 9) 9, List.take_add, List.drop_drop]
theorem sl_src {L : List (List Int)} (hL : ∀ x ∈ L, x.length = 9) {H : Heap} {v : Value} (h : SlT H Is 9 v L) : Src H v 9 L.length (L.flatMap Is) := by
  obtain ⟨A, cap, rfl, _, _, h0, h3⟩ := h
  refine ⟨flat_len hL, A, cap, rfl, h0, h3.imp id ?_⟩
  rintro ⟨b, o, c, rfl, hb, h4⟩
  exact ⟨b, o, c, rfl, hb, all_cells L o hL h4⟩

theorem copyT_ok {A : Option Addr} {cap : Nat} (L : List (List Int)) (hL : ∀ x ∈ L, x.length = 9) {H : Heap} (hS : SlT H Is 9 (.slice A L.length cap) L) (hb : L.length * 72 ≤ 140737488355327) :
    Ret Try.prog 14 [.slice A L.length cap] H (fun v H' => OwnS H' H.size 37 9 v L.length (L.flatMap Is) ∧ Ext H H') := by
  refine Ret.of_at (N := 6) Try.call14 Try.func14 rfl rfl rfl ?_
  refine At.region rfl rfl ?_
  refine Reg.pur rfl rfl rfl rfl (Pur.asg rfl) ?_
  refine Reg.nil ?_
  refine At.region rfl rfl ?_
  refine Reg.op rfl rfl rfl rfl (Does.bslA ([]) slA22 rfl rfl rfl rfl rfl rfl) ?_
  rintro _ H1 ⟨rfl, rfl⟩
  refine Reg.pur rfl rfl rfl rfl (Pur.mv rfl) ?_
  refine Reg.op rfl rfl rfl rfl (Does.app apt22 rfl rfl (OwnS.new (xs := []) (n := 0) (H := H) (B := H.size) rfl (by decide) (Nat.le_refl _)) (sl_src hL (hS.ext New.of_push.ext)) (ones_flat L) (by rw [show maxLen = 9223372036854775807 from rfl]; omega) (by omega) (by simp)) ?_
  rintro v H2 ⟨ho, hbut, _, _⟩
  refine Reg.pur rfl rfl rfl rfl (Pur.asg rfl) ?_
  refine Reg.nil ?_
  refine At.ret rfl Try.func14 rfl ?_
  refine ⟨by simpa using ho, ?_⟩
  exact (New.of_push (xs := []).ext).trBut hbut (fun b hb h => by simp only [Value.ownBlock, Option.some.injEq] at h; omega)


abbrev badT : List Value := Is [0, 0, 0, 0, 77777, 0, 0, 0, 0]
def Lent (H : Heap) (B : Nat) (v : Value) (L : List (List Int)) : Prop :=
  ∃ g cap c, v = .slice (some ⟨g, 0, none⟩) L.length cap ∧ B ≤ g ∧ L.length + 2 ≤ cap ∧ cap ≤ maxLen ∧ Blk H g c ∧ c.take ((L.length + 2) * 9) = L.flatMap Is ++ (badT ++ badT)
theorem Lent.ext {H H' : Heap} {B : Nat} {v : Value} {L : List (List Int)} (h : Lent H B v L) (he : Ext H H') : Lent H' B v L := by
  obtain ⟨g, cap, c, h1, h2, h3, h4, h5, h6⟩ := h
  exact ⟨g, cap, c, h1, h2, h3, h4, h5.ext he, h6⟩
theorem take_mid {c xs : List Value} {M o m : Nat} (h : c.take M = xs) (hle : o + m ≤ M) : (c.drop o).take m = (xs.drop o).take m := by
  rw [← h, List.drop_take, List.take_take, Nat.min_eq_left (by omega)]
theorem Lent.sl {H : Heap} {B : Nat} {v : Value} {L : List (List Int)} (hL : ∀ x ∈ L, x.length = 9) (h : Lent H B v L) : SlT H Is 9 v L := by
  obtain ⟨g, cap, c, rfl, h2, h3, h4, h5, h6⟩ := h
  have hlen := congrArg List.length h6
  rw [List.length_take, List.length_append, flat_len hL] at hlen
  simp only [badT, List.length_append, List.length_map, List.length_cons, List.length_nil] at hlen
  refine ⟨_, cap, rfl, by omega, h4, (fun h => by cases h), .inr ⟨g, 0, c, rfl, h5, fun i hi => ⟨by omega, ?_⟩⟩⟩
  rw [take_mid h6 (by omega), Nat.zero_add, List.drop_append_of_le_length (by rw [flat_len hL]; omega), List.take_append_of_le_length (by rw [List.length_drop, flat_len hL]; omega)]
  exact flat_at L i (Is_len hL) hi

theorem lendT_ok {A : Option Addr} {cap : Nat} (L : List (List Int)) (hL : ∀ x ∈ L, x.length = 9) {H : Heap} (hS : SlT H Is 9 (.slice A L.length cap) L) (hb : L.length * 72 ≤ 140737488351232) :
    Ret Try.prog 7 [.slice A L.length cap] H (fun v H' => Lent H' H.size v L ∧ Ext H H') := by
  refine Ret.of_at (N := 14) Try.call7 Try.func7 rfl rfl rfl ?_
  refine At.region rfl rfl ?_
  refine Reg.pur rfl rfl rfl rfl (Pur.asg rfl) ?_
  refine Reg.nil ?_
  refine At.region rfl rfl ?_
  refine Reg.pur rfl rfl rfl rfl (Pur.mv rfl) ?_
  refine Reg.op rfl rfl rfl rfl (Does.call rfl (copyT_ok L hL hS (by omega))) ?_
  rintro v H1 ⟨ho, hE1⟩
  refine Reg.pur rfl rfl rfl rfl (Pur.bld (cs := [_, _, _, _, _, _, _, _, _]) pl37 zc37 rfl rfl ⟨rfl, rfl, rfl, rfl, rfl, rfl, rfl, rfl, rfl, rfl⟩) ?_
  refine Reg.pur rfl rfl rfl rfl (Pur.bld (cs := [_, _, _, _, _, _, _, _, _]) pl37 zc37 rfl rfl ⟨rfl, rfl, rfl, rfl, rfl, rfl, rfl, rfl, rfl, rfl⟩) ?_
  refine Reg.op rfl rfl rfl rfl (Does.bslA ([[_, _, _, _, _, _, _, _, _], [_, _, _, _, _, _, _, _, _]]) slA22 rfl rfl rfl rfl rfl rfl) ?_
  rintro _ H2 ⟨rfl, rfl⟩
  refine Reg.op rfl rfl rfl rfl (Does.app apt22 rfl rfl (ho.ext New.of_push.ext) (OwnS.new (xs := badT ++ badT) (n := 2) (H := H1) (B := H1.size) rfl (by decide) (Nat.le_refl _)).src rfl (by rw [show maxLen = 9223372036854775807 from rfl]; omega) (by omega) (Nat.le_trans hE1.1 (New.of_push (xs := badT ++ badT).ext).1)) ?_
  rintro v' H3 ⟨ho3, hbut, _, _⟩
  refine Reg.pur rfl rfl rfl rfl (Pur.asg rfl) ?_
  refine Reg.nil ?_
  obtain ⟨hl3, ⟨_, h0⟩ | ⟨g, cap', cur, rfl, hg, hcell, hcap1, hcap2, hsz, htk⟩⟩ := ho3
  · omega
  have hE : Ext H H3 := (hE1.trans (New.of_push (xs := badT ++ badT).ext)).trBut hbut (fun b hb h => by have := ho.2; rcases this with ⟨rfl, _⟩ | ⟨g', _, _, rfl, hg', _⟩ <;> simp only [Value.ownBlock, Option.some.injEq, reduceCtorEq] at h; omega)
  refine At.region rfl rfl ?_
  refine Reg.pur rfl rfl rfl rfl (Pur.mv rfl) ?_
  refine Reg.pur rfl rfl rfl rfl (Pur.mv rfl) ?_
  refine Reg.pur rfl rfl rfl rfl (Pur.lenS isl22 rfl) ?_
  refine Reg.pur rfl rfl rfl rfl (Pur.cutH es22 rfl rfl (by omega) (by omega)) ?_
  refine Reg.pur rfl rfl rfl rfl (Pur.asg rfl) ?_
  refine Reg.nil ?_
  refine At.ret rfl Try.func7 rfl ?_
  exact ⟨⟨g, cap', cur.toList, rfl, hg, by omega, hcap2, ⟨_, _, by simpa using hcell⟩, by simpa using htk⟩, hE⟩

theorem sameT_ok {A A' : Option Addr} {cap cap' : Nat} (L : List (List Int)) (hL : ∀ x ∈ L, x.length = 9) {H : Heap} (hS : SlT H Is 9 (.slice A L.length cap) L) (hS' : SlT H Is 9 (.slice A' L.length cap') L) (hm : L.length ≤ 9223372036854775807) :
    Ret Try.prog 22 [.slice A L.length cap, .slice A' L.length cap'] H (fun v H' => v = .bool true ∧ H' = H) := by
  refine Ret.of_at (N := 26) Try.call22 Try.func22 rfl rfl rfl ?_
  refine At.region rfl rfl ?_
  refine Reg.pur rfl rfl rfl rfl (Pur.asg rfl) ?_
  refine Reg.nil ?_
  refine At.region rfl rfl ?_
  refine Reg.pur rfl rfl rfl rfl (Pur.mv rfl) ?_
  refine Reg.pur rfl rfl rfl rfl (Pur.lenS isl22 rfl) ?_
  refine Reg.pur rfl rfl rfl rfl (Pur.mv rfl) ?_
  refine Reg.pur rfl rfl rfl rfl (Pur.lenS isl22 rfl) ?_
  refine Reg.pur rfl rfl rfl rfl (Pur.neq rfl rfl) ?_
  refine Reg.nil ?_
  refine At.cond rfl rfl (fun hb1 => ?_) (fun hb1 => ?_)
  · simp at hb1
  refine At.region rfl rfl ?_
  refine Reg.pur rfl rfl rfl rfl (Pur.asg rfl) ?_
  refine Reg.nil ?_
  refine At.loop (σ := Nat) (fun i => [(5, I i), (0, .slice A L.length cap), (1, .slice A' L.length cap')]) (fun i H' => i ≤ L.length ∧ H' = H) (fun i => L.length - i) 0 rfl ⟨rfl, rfl, rfl, trivial⟩ ⟨by omega, rfl⟩ ?_
  rintro i H1 ⟨hi, rfl⟩ ih
  refine At.region rfl rfl ?_
  refine Reg.pur rfl rfl rfl rfl (Pur.mv rfl) ?_
  refine Reg.pur rfl rfl rfl rfl (Pur.mv rfl) ?_
  refine Reg.pur rfl rfl rfl rfl (Pur.lenS isl22 rfl) ?_
  refine Reg.pur rfl rfl rfl rfl (Pur.lss rfl rfl) ?_
  refine Reg.nil ?_
  refine At.cond rfl rfl (fun hb2 => ?_) (fun hb2 => ?_)
  · simp only [decide_eq_true_eq] at hb2
    have hlt : i < L.length := by omega
    obtain ⟨b, o, c, rfl, hB, hd, h9⟩ := sl_at hL hS hlt
    obtain ⟨b', o', c', rfl, hB', hd', _⟩ := sl_at hL hS' hlt
    generalize L[i] = x at hd hd' h9
    have hf := fks_ints .i64 x
    rw [h9] at hf
    refine At.draw (fun H' => Blk H' b c ∧ Blk H' b' c') [] mixed rfl rfl ?_
    refine RegD.tpur (i := 0) rfl rfl rfl rfl (by kernel_rfl) (Pur.mv rfl) ?_
    refine RegD.tpur (i := 1) rfl rfl rfl rfl (by kernel_rfl) (Pur.mv rfl) ?_
    refine RegD.tpur (i := 2) rfl rfl rfl rfl (by kernel_rfl) (Pur.idx _ es22 rfl rfl (by omega) hb2) ?_
    refine RegD.take (i := 3) rfl rfl rfl rfl (by kernel_rfl) ⟨hB, hB'⟩ (fun H hS => Lod.ldn ag37 rfl hS.1 hd (by simp [Is, h9])) ?_
    refine RegD.tpur (i := 4) rfl rfl rfl rfl (by kernel_rfl) (Pur.mv rfl) ?_
    refine RegD.tpur (i := 5) rfl rfl rfl rfl (by kernel_rfl) (Pur.mv rfl) ?_
    refine RegD.tpur (i := 6) rfl rfl rfl rfl (by kernel_rfl) (Pur.idx _ es22 rfl rfl (by omega) hb2) ?_
    refine RegD.take (i := 7) rfl rfl rfl rfl (by kernel_rfl) ⟨hB, hB'⟩ (fun H hS => Lod.ldn ag37 rfl hS.2 hd' (by simp [Is, h9])) ?_
    refine RegD.tpur (i := 8) rfl rfl rfl rfl (by kernel_rfl) (Pur.neA eqt37 rfl rfl hf hf) ?_
    refine RegD.done (by kernel_rfl) ?_
    refine At.cond rfl rfl (fun hb3 => ?_) (fun hb3 => ?_)
    · simp [eqs_ints] at hb3
    refine At.region rfl rfl ?_
    refine Reg.pur rfl rfl rfl rfl (Pur.mv rfl) ?_
    first | refine Reg.pur rfl rfl rfl rfl (Pur.add64 rfl rfl (by omega)) ?_ | refine Reg.pur rfl rfl rfl rfl (Pur.add64 rfl rfl (by assumption)) ?_ | refine Reg.pur rfl rfl rfl rfl (Pur.add rfl rfl) ?_
    refine Reg.pur rfl rfl rfl rfl (Pur.asg rfl) ?_
    refine Reg.nil ?_
    exact At.via (ih (i + 1) _ ⟨by omega, rfl⟩ (by omega)) ⟨rfl, rfl, rfl, trivial⟩
  refine At.region rfl rfl ?_
  refine Reg.pur rfl rfl rfl rfl (Pur.asg rfl) ?_
  refine Reg.nil ?_
  refine At.ret rfl Try.func22 rfl ?_
  exact ⟨rfl, rfl⟩

theorem keptT_ok {A : Option Addr} {cap B : Nat} {v : Value} (L : List (List Int)) (hL : ∀ x ∈ L, x.length = 9) {H : Heap} (hS : SlT H Is 9 (.slice A L.length cap) L) (hv : Lent H B v L) (hm : L.length ≤ 4611686018427387904) :
    Ret Try.prog 11 [v, .slice A L.length cap] H (fun v H' => v = .bool true ∧ H' = H) := by
  have hS2 := hv.sl hL
  obtain ⟨g, cap', c, rfl, h2, h3, h4, h5, h6⟩ := hv
  rw [show maxLen = 9223372036854775807 from rfl] at h4
  have e1 : (c.drop (0 + L.length * 9)).take 9 = badT := by
    rw [take_mid h6 (by omega), Nat.zero_add, List.drop_append, List.drop_of_length_le (by rw [flat_len hL]; omega), flat_len hL, Nat.sub_self]; rfl
  have e2 : (c.drop (0 + (L.length + 1) * 9)).take 9 = badT := by
    rw [take_mid h6 (by omega), Nat.zero_add, List.drop_append, List.drop_of_length_le (by rw [flat_len hL]; omega), flat_len hL, show (L.length + 1) * 9 - L.length * 9 = 9 from by omega]; rfl
  refine Ret.of_at (N := 33) Try.call11 Try.func11 rfl rfl rfl ?_
  refine At.region rfl rfl ?_
  refine Reg.pur rfl rfl rfl rfl (Pur.asg rfl) ?_
  refine Reg.nil ?_
  refine At.region rfl rfl ?_
  refine Reg.pur rfl rfl rfl rfl (Pur.mv rfl) ?_
  refine Reg.pur rfl rfl rfl rfl (Pur.mv rfl) ?_
  refine Reg.pur rfl rfl rfl rfl (Pur.lenS isl22 rfl) ?_
  first | refine Reg.pur rfl rfl rfl rfl (Pur.add64 rfl rfl (by omega)) ?_ | refine Reg.pur rfl rfl rfl rfl (Pur.add64 rfl rfl (by assumption)) ?_ | refine Reg.pur rfl rfl rfl rfl (Pur.add rfl rfl) ?_
  refine Reg.pur rfl rfl rfl rfl (Pur.cutH es22 rfl rfl (by omega) (by omega)) ?_
  refine Reg.pur rfl rfl rfl rfl (Pur.asg rfl) ?_
  refine Reg.nil ?_
  refine At.region rfl rfl ?_
  refine Reg.pur rfl rfl rfl rfl (Pur.mv rfl) ?_
  refine Reg.pur rfl rfl rfl rfl (Pur.mv rfl) ?_
  refine Reg.op rfl rfl rfl rfl (Does.call rfl (sameT_ok L hL hS2 hS (by omega))) ?_
  rintro _ H ⟨rfl, rfl⟩
  refine Reg.pur rfl rfl rfl rfl (Pur.mv rfl) ?_
  refine Reg.known (b' := true) 14 rfl (by first | rfl | simp) ?_
  refine Reg.gpur rfl rfl rfl rfl rfl rfl (Pur.mv rfl) ?_
  refine Reg.gpur rfl rfl rfl rfl rfl rfl (Pur.mv rfl) ?_
  refine Reg.gpur rfl rfl rfl rfl rfl rfl (Pur.lenS isl22 rfl) ?_
  refine Reg.gpur rfl rfl rfl rfl rfl rfl (Pur.idx _ es22 rfl rfl (by omega) (by omega)) ?_
  refine Reg.glod rfl rfl rfl rfl rfl rfl (Lod.ldn ag37 rfl h5 e1 rfl) ?_
  refine Reg.gpur rfl rfl rfl rfl rfl rfl (Pur.bld (cs := [_, _, _, _, _, _, _, _, _]) pl37 zc37 rfl rfl ⟨rfl, rfl, rfl, rfl, rfl, rfl, rfl, rfl, rfl, rfl⟩) ?_
  refine Reg.gpur rfl rfl rfl rfl rfl rfl (Pur.eqA eqt37 rfl rfl (fks_ints .i64 [0, 0, 0, 0, 77777, 0, 0, 0, 0]) (fks_ints .i64 [0, 0, 0, 0, 77777, 0, 0, 0, 0])) ?_
  refine Reg.pur rfl rfl rfl rfl (Pur.pickT rfl rfl) ?_
  refine Reg.pur rfl rfl rfl rfl (Pur.mv rfl) ?_
  refine Reg.known (b' := true) 23 rfl (by first | rfl | simp) ?_
  refine Reg.gpur rfl rfl rfl rfl rfl rfl (Pur.mv rfl) ?_
  refine Reg.gpur rfl rfl rfl rfl rfl rfl (Pur.mv rfl) ?_
  refine Reg.gpur rfl rfl rfl rfl rfl rfl (Pur.lenS isl22 rfl) ?_
  first | refine Reg.gpur rfl rfl rfl rfl rfl rfl (Pur.add64 rfl rfl (by omega)) ?_ | refine Reg.gpur rfl rfl rfl rfl rfl rfl (Pur.add64 rfl rfl (by assumption)) ?_ | refine Reg.gpur rfl rfl rfl rfl rfl rfl (Pur.add rfl rfl) ?_
  refine Reg.gpur rfl rfl rfl rfl rfl rfl (Pur.idx _ es22 rfl rfl (by omega) (by omega)) ?_
  refine Reg.glod rfl rfl rfl rfl rfl rfl (Lod.ldn ag37 rfl h5 e2 rfl) ?_
  refine Reg.gpur rfl rfl rfl rfl rfl rfl (Pur.bld (cs := [_, _, _, _, _, _, _, _, _]) pl37 zc37 rfl rfl ⟨rfl, rfl, rfl, rfl, rfl, rfl, rfl, rfl, rfl, rfl⟩) ?_
  refine Reg.gpur rfl rfl rfl rfl rfl rfl (Pur.eqA eqt37 rfl rfl (fks_ints .i64 [0, 0, 0, 0, 77777, 0, 0, 0, 0]) (fks_ints .i64 [0, 0, 0, 0, 77777, 0, 0, 0, 0])) ?_
  refine Reg.pur rfl rfl rfl rfl (Pur.pickT rfl rfl) ?_
  refine Reg.pur rfl rfl rfl rfl (Pur.asg rfl) ?_
  refine Reg.nil ?_
  refine At.ret rfl Try.func11 rfl ?_
  exact ⟨rfl, rfl⟩
theorem sl_of {L : List (List Int)} (hL : ∀ x ∈ L, x.length = 9) {H : Heap} {b o cap : Nat} {c : List Value} (hb : Blk H b c) (h : (c.drop o).take (L.length * 9) = L.flatMap Is) (h1 : L.length ≤ cap) (h2 : cap ≤ 9223372036854775807) :
    SlT H Is 9 (.slice (some ⟨b, o, none⟩) L.length cap) L := by
  have hlen := congrArg List.length h
  rw [List.length_take, List.length_drop, flat_len hL] at hlen
  refine ⟨_, cap, rfl, h1, h2, (fun h => by cases h), .inr ⟨b, o, c, rfl, hb, fun i hi => ⟨by omega, ?_⟩⟩⟩
  rw [← List.drop_drop, take_mid h (by omega)]
  exact flat_at L i (Is_len hL) hi
theorem sl_new {L : List (List Int)} (hL : ∀ x ∈ L, x.length = 9) {H H' : Heap} (hn : New H H' (L.flatMap Is)) (h2 : L.length ≤ 9223372036854775807) : SlT H' Is 9 (.slice (some ⟨H.size, 0, none⟩) L.length L.length) L :=
  sl_of hL hn.own.blk (by rw [List.drop_zero, List.take_of_length_le (by rw [flat_len hL]; exact Nat.le_refl _)]) (Nat.le_refl _) h2
theorem sl_nil (H : Heap) : SlT H Is 9 (.slice none 0 0) [] := ⟨none, 0, rfl, by decide, by decide, fun _ => rfl, .inl rfl⟩

end Go.Proofs.Ytjhkmebmbopfoaa
