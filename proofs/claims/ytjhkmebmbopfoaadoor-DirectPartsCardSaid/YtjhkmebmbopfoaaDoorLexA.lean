/-
  Names: package lex and its reference; what they look for.
-/
import Derived.Test.YtjhkmebmbopfoaaDoorFxX
import Derived.Test.YtjhkmebmbopfoaaDoorFxK
import Derived.Test.YtjhkmebmbopfoaaDoorFxT
import Derived.Test.YtjhkmebmbopfoaaDoorFxQ
import Derived.Test.YtjhkmebmbopfoaaDoorCom
import Derived.Test.YtjhkmebmbopfoaaDoorProg
import Derived.Test.YtjhkmebmbopfoaaDoorQSh
namespace Go.Proofs.YtjhkmebmbopfoaaDoor
set_option linter.unusedSimpArgs false
set_option linter.unusedVariables false
set_option maxRecDepth 8000
set_option maxHeartbeats 1000000
open Go Go.Fx Go.Proofs
namespace FactsLexA

end FactsLexA
open FactsLexA

abbrev BS := List UInt8
/-- a text of bytes -/
def bs (l : BS) : ByteArray := ⟨l.toArray⟩
@[simp] theorem bs_data (l : BS) : (bs l).data.toList = l := rfl
def low (b : UInt8) : Bool := decide (97 ≤ b.toNat ∧ b.toNat ≤ 122)
def dgt (b : UInt8) : Bool := decide (48 ≤ b.toNat ∧ b.toNat ≤ 57)
def late (b : UInt8) : Bool := low b || dgt b || decide (b.toNat = 95)
/-- a name's letters -/
def lets : BS → Bool
  | [] => false
  | b :: l => low b && l.all late
def lowL : BS := (List.range 26).map fun i => UInt8.ofNat (97 + i)
def moreL : BS := lowL ++ (List.range 10).map (fun i => UInt8.ofNat (48 + i)) ++ [95]
theorem u8_all {p : UInt8 → Bool} (h : ((List.range 256).all fun n => p (UInt8.ofNat n)) = true) (b : UInt8) : p b = true := by
  rw [List.all_eq_true] at h
  have := h b.toNat (List.mem_range.2 b.toNat_lt)
  rwa [UInt8.ofNat_toNat] at this
theorem lowL_has (b : UInt8) : lowL.contains b = low b := by
  have := u8_all (p := fun b => lowL.contains b == low b) (by kernel_rfl) b
  simpa using this
theorem moreL_has (b : UInt8) : moreL.contains b = late b := by
  have := u8_all (p := fun b => moreL.contains b == late b) (by kernel_rfl) b
  simpa using this
/-- the keywords' text -/
def kwT : BS := [102, 117, 110, 32, 108, 101, 116, 32, 114, 101, 99, 32, 105, 110, 32, 105, 102, 32, 116, 104, 101, 110, 32, 101, 108, 115, 101, 32, 104, 97, 110, 100, 108, 101, 32, 119, 105, 116, 104, 32, 114, 101, 116, 117, 114, 110, 32, 101, 110, 100, 32, 100, 111, 32, 111, 112, 32, 116, 114, 117, 101, 32, 102, 97, 108, 115, 101, 32, 105, 110, 116, 32, 98, 111, 111, 108]
def splT : BS → List BS
  | [] => [[]]
  | b :: l => if b = 32 then [] :: splT l else match splT l with | [] => [[b]] | w :: ws => (b :: w) :: ws
def kws : List BS := splT kwT
def isKw (l : BS) : Bool := kws.contains l
/-- may a text be a name? -/
def nmMay (l : BS) : Bool := decide (l.length ≤ 16) && lets l && !isKw l

theorem ibyte_ok (c : UInt8) (s : ByteArray) (H : Heap) : Ret Tryd.prog 106 [.string s, .int .u8 (c.toNat : Nat)] H (fun v H' => v = I (Lib.indexByte s.data.toList c) ∧ H' = H) := by
  refine ⟨Tryd.call106, fun w0 k => ?_⟩
  refine (Tryd.strings_IndexByte s (c.toNat : Nat) (mk w0 H k)).mono fun e w' hx => ?_
  obtain ⟨he, hw⟩ := hx
  rw [u8_of] at he
  exact ⟨_, H, k, he, hw, rfl, rfl⟩
theorem index_ok (c : UInt8) (s : ByteArray) (H : Heap) : Ret Tryd.prog 43 [.string s, .string ⟨#[c]⟩] H (fun v H' => v = I (Lib.indexByte s.data.toList c) ∧ H' = H) := by
  refine ⟨Tryd.call43, fun w0 k => ?_⟩
  refine (Tryd.strings_Index_one s c (mk w0 H k)).mono fun e w' hx => ?_
  obtain ⟨he, hw⟩ := hx
  exact ⟨_, H, k, he, hw, rfl, rfl⟩
theorem countS_ok (c : UInt8) (s : ByteArray) (H : Heap) : Ret Tryd.prog 26 [.string s, .string ⟨#[c]⟩] H (fun v H' => v = I (s.data.toList.count c : Nat) ∧ H' = H) := by
  refine ⟨Tryd.call26, fun w0 k => ?_⟩
  refine (Tryd.strings_Count_oneQ s c (mk w0 H k)).mono fun e w' hx => ?_
  obtain ⟨he, hw⟩ := hx
  exact ⟨_, H, k, he, hw, rfl, rfl⟩

theorem of_ok (c : UInt8) (s : ByteArray) (H : Heap) : Ret Tryd.prog 88 [.int .u8 (c.toNat : Nat), .string s] H (fun v H' => v = .bool (s.data.toList.contains c) ∧ H' = H) := by
  refine Ret.of_at (N := 9) Tryd.call88 Tryd.func88 rfl rfl rfl ?_
  have hE := Ext.refl H
  refine At.region rfl rfl ?_
  refine Reg.pur rfl rfl rfl rfl (Pur.asg rfl) ?_
  refine Reg.nil ?_
  refine At.region rfl rfl ?_
  refine Reg.pur rfl rfl rfl rfl (Pur.mv rfl) ?_
  refine Reg.pur rfl rfl rfl rfl (Pur.mv rfl) ?_
  refine Reg.op rfl rfl rfl rfl (Does.call rfl (ibyte_ok c s _)) ?_
  rintro _ H ⟨rfl, rfl⟩
  refine Reg.pur rfl rfl rfl rfl (Pur.geq rfl rfl) ?_
  refine Reg.pur rfl rfl rfl rfl (Pur.asg rfl) ?_
  refine Reg.nil ?_
  refine At.ret rfl Tryd.func88 rfl ?_
  exact ⟨congrArg Value.bool (idx_iff _ _), rfl⟩
theorem nt {b : Bool} (h : b = false) : ¬ b = true := by rw [h]; decide
/-- how many bytes ahead are of some -/
def runN (some : BS) : BS → Nat
  | [] => 0
  | b :: l => if some.contains b then runN some l + 1 else 0
theorem runN_all (some : BS) : ∀ l : BS, decide (runN some l = l.length) = l.all some.contains
  | [] => rfl
  | b :: l => by
    have ih := runN_all some l
    rw [runN, List.all_cons, List.length_cons, ← ih]
    split
    · rename_i h; rw [h, Bool.true_and]; by_cases h2 : runN some l = l.length <;> simp [h2]
    · rename_i h; rw [Bool.eq_false_iff.2 h, Bool.false_and]; simp
theorem runN_le (some : BS) : ∀ l : BS, runN some l ≤ l.length
  | [] => Nat.le_refl _
  | b :: l => by rw [runN, List.length_cons]; have := runN_le some l; split <;> omega
theorem run_ok (s t : ByteArray) (hs : s.size ≤ 140737488355328) (H : Heap) : Ret Tryd.prog 89 [.string s, .string t] H (fun v H' => v = .string (s.extract 0 (runN t.data.toList s.data.toList)) ∧ H' = H) := by
  have hsz : s.data.toList.length = s.size := by simp
  refine Ret.of_at (N := 22) Tryd.call89 Tryd.func89 rfl rfl rfl ?_
  have hE := Ext.refl H
  refine At.region rfl rfl ?_
  refine Reg.pur rfl rfl rfl rfl (Pur.asg rfl) ?_
  refine Reg.nil ?_
  refine At.region rfl rfl ?_
  refine Reg.pur rfl rfl rfl rfl (Pur.asg rfl) ?_
  refine Reg.nil ?_
  refine At.loop (σ := Nat) (fun i => [(5, I i), (0, .string s), (1, .string t)]) (fun i H' => i ≤ s.size ∧ runN t.data.toList (s.data.toList.drop i) + i = runN t.data.toList s.data.toList ∧ H' = H) (fun i => s.size - i) 0 rfl ⟨rfl, rfl, rfl, trivial⟩ ⟨by omega, rfl, rfl⟩ ?_
  rintro i H ⟨hi, hgo, rfl⟩ ih
  refine At.region rfl rfl ?_
  refine Reg.pur rfl rfl rfl rfl (Pur.mv rfl) ?_
  refine Reg.pur rfl rfl rfl rfl (Pur.mv rfl) ?_
  refine Reg.pur rfl rfl rfl rfl (Pur.lenT rfl rfl) ?_
  refine Reg.pur rfl rfl rfl rfl (Pur.lss rfl rfl) ?_
  refine Reg.pur rfl rfl rfl rfl (Pur.mv rfl) ?_
  refine Reg.case 10 rfl (fun q10 => ?_) (fun q10 => ?_)
  · first | (simp only [decide_eq_true_eq, decide_eq_false_iff_not, Bool.not_eq_true', Bool.not_eq_false', ne_eq, Decidable.not_not, Bool.not_eq_true, Bool.not_eq_false] at q10) | (dsimp only at q10) | skip
    refine Reg.gpur rfl rfl rfl rfl rfl rfl (Pur.mv rfl) ?_
    refine Reg.gpur rfl rfl rfl rfl rfl rfl (Pur.mv rfl) ?_
    refine Reg.gpur rfl rfl rfl rfl rfl rfl (Pur.idxS Tryd.underlying9 rfl rfl (by omega) (by omega)) ?_
    refine Reg.gpur rfl rfl rfl rfl rfl rfl (Pur.mv rfl) ?_
    refine Reg.gop rfl rfl rfl rfl rfl rfl (Does.call rfl (of_ok (s.data[((i : Nat) : Int).toNat]!) t _)) ?_
    rintro _ H ⟨rfl, rfl⟩
    refine Reg.pur rfl rfl rfl rfl (Pur.pickT rfl rfl) ?_
    refine Reg.nil ?_
    refine At.cond rfl rfl (fun q16 => ?_) (fun q16 => ?_)
    · first | (simp only [decide_eq_true_eq, decide_eq_false_iff_not, Bool.not_eq_true', Bool.not_eq_false', ne_eq, Decidable.not_not, Bool.not_eq_true, Bool.not_eq_false] at q16) | (dsimp only at q16) | skip
      refine At.region rfl rfl ?_
      refine Reg.pur rfl rfl rfl rfl (Pur.mv rfl) ?_
      refine Reg.pur rfl rfl rfl rfl (Pur.add64 rfl rfl (by omega)) ?_
      refine Reg.pur rfl rfl rfl rfl (Pur.asg rfl) ?_
      refine Reg.nil ?_
      have hlt : i < s.data.toList.length := by omega
      rw [Int.toNat_natCast, bang_get hlt] at *
      rw [List.drop_eq_getElem_cons hlt, runN, if_pos (by assumption)] at hgo
      exact At.meets rfl (ih (i + 1) _ ⟨by omega, by omega, rfl⟩ (by omega)) ⟨rfl, rfl, rfl, trivial⟩
    first | (simp only [decide_eq_true_eq, decide_eq_false_iff_not, Bool.not_eq_true', Bool.not_eq_false', ne_eq, Decidable.not_not, Bool.not_eq_true, Bool.not_eq_false] at q16) | (dsimp only at q16) | skip
    have hend : runN t.data.toList s.data.toList = i := by
      by_cases hlt : i < s.data.toList.length
      · first | (exfalso; omega; done) | (rw [List.drop_eq_getElem_cons hlt, runN, if_neg (by rw [← bang_get hlt]; rw [Int.toNat_natCast] at *; exact nt (by assumption))] at hgo; omega)
      · rw [List.drop_of_length_le (by omega), runN] at hgo; omega
    refine At.region rfl rfl ?_
    refine Reg.pur rfl rfl rfl rfl (Pur.mv rfl) ?_
    refine Reg.pur rfl rfl rfl rfl (Pur.mv rfl) ?_
    refine Reg.pur rfl rfl rfl rfl (Pur.cutS Tryd.underlying9 rfl rfl (by omega) (by omega)) ?_
    refine Reg.pur rfl rfl rfl rfl (Pur.asg rfl) ?_
    refine Reg.nil ?_
    refine At.ret rfl Tryd.func89 rfl ?_
    exact ⟨by rw [hend, Int.toNat_natCast], rfl⟩
  first | (simp only [decide_eq_true_eq, decide_eq_false_iff_not, Bool.not_eq_true', Bool.not_eq_false', ne_eq, Decidable.not_not, Bool.not_eq_true, Bool.not_eq_false] at q10) | (dsimp only at q10) | skip
  refine Reg.skip rfl rfl rfl rfl rfl rfl rfl ?_
  refine Reg.skip rfl rfl rfl rfl rfl rfl rfl ?_
  refine Reg.skip rfl rfl rfl rfl rfl rfl rfl ?_
  refine Reg.skip rfl rfl rfl rfl rfl rfl rfl ?_
  refine Reg.skip rfl rfl rfl rfl rfl rfl rfl ?_
  refine Reg.pur rfl rfl rfl rfl (Pur.pickF rfl rfl) ?_
  refine Reg.nil ?_
  refine At.condF rfl rfl rfl ?_
  have hend : runN t.data.toList s.data.toList = i := by
    by_cases hlt : i < s.data.toList.length
    · first | (exfalso; omega; done) | (rw [List.drop_eq_getElem_cons hlt, runN, if_neg (by rw [← bang_get hlt]; rw [Int.toNat_natCast] at *; exact nt (by assumption))] at hgo; omega)
    · rw [List.drop_of_length_le (by omega), runN] at hgo; omega
  refine At.region rfl rfl ?_
  refine Reg.pur rfl rfl rfl rfl (Pur.mv rfl) ?_
  refine Reg.pur rfl rfl rfl rfl (Pur.mv rfl) ?_
  refine Reg.pur rfl rfl rfl rfl (Pur.cutS Tryd.underlying9 rfl rfl (by omega) (by omega)) ?_
  refine Reg.pur rfl rfl rfl rfl (Pur.asg rfl) ?_
  refine Reg.nil ?_
  refine At.ret rfl Tryd.func89 rfl ?_
  exact ⟨by rw [hend, Int.toNat_natCast], rfl⟩
end Go.Proofs.YtjhkmebmbopfoaaDoor
