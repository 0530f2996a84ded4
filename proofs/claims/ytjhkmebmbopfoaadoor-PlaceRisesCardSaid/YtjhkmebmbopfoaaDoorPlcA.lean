/-
  Places: the library's contracts in the logic of heaps; lines and columns, plain.
-/
import Derived.Test.YtjhkmebmbopfoaaDoorStrA
import Derived.Test.YtjhkmebmbopfoaaDoorPSh
import Derived.Lib.LaidU8
namespace Go.Proofs.YtjhkmebmbopfoaaDoor
set_option linter.unusedSimpArgs false
set_option linter.unusedVariables false
set_option maxRecDepth 8000
open Go Go.Fx Go.Proofs
namespace FactsPlcA

end FactsPlcA
open FactsPlcA

/-- the table of tens stands in the heap -/
abbrev tens : List Value := Lib.pow10Tab.map fun z => Value.int .u64 z
abbrev Tens (H : Heap) : Prop := Blk H 1 tens
theorem tab_of {name : String} {w0 : World} {H : Heap} {n g : Nat} {zs : List Int} {k : IntKind} (hg : Tryd.prog.globalNamed name = some g) (h : Blk H g (zs.map fun z => Value.int k z)) : Lib.TabIs Tryd.prog (mk w0 H n) name k zs := by
  obtain ⟨T, fr, h⟩ := h
  unfold Lib.TabIs World.var?
  rw [hg]
  simp only [Option.bind_some, mk_heap, h]
theorem bstr_data : ∀ (l : List UInt8) (s : ByteArray), ((l.map fun b => ((b.toNat : Nat) : Int)).foldl (fun r n => r.push (UInt8.ofNat n.toNat)) s).data.toList = s.data.toList ++ l
  | [], s => by simp
  | x :: l, s => by
    rw [List.map_cons, List.foldl_cons, bstr_data l]
    simp [ByteArray.push]
theorem bstr_nat (l : List UInt8) : bstr (l.map fun b => ((b.toNat : Nat) : Int)) = ⟨l.toArray⟩ := by
  apply WideShapes.bytes_inj
  unfold bstr
  rw [bstr_data]
  simp
theorem decG_dig : ∀ (f n : Nat) (l : List Int), n < 10 ^ f → 0 < f → (0 < n ∨ l.length = 0) → decG (f + 1) n l = (Lib.decDigits n).map (fun b => ((b.toNat : Nat) : Int)) ++ l
  | 0, _, _, _, h, _ => absurd h (by omega)
  | f + 1, n, l, hn, _, h => by
    rw [decG_go h]
    unfold Lib.decDigits
    split
    · rename_i h10
      rw [show n / 10 = 0 by omega, decG_end (by simp), show n % 10 = n by omega]
      have : (UInt8.ofNat (48 + n)).toNat = 48 + n := by rw [UInt8.toNat_ofNat']; omega
      simp only [List.map_append, List.map_cons, List.map_nil, this, List.append_assoc, List.singleton_append, List.nil_append]
    · rename_i h10
      have hp := pow_step hn
      have hf : 0 < f := Nat.pos_of_ne_zero fun h0 => by subst h0; simp at hp; omega
      rw [decG_dig f (n / 10) _ hp hf (.inl (by omega))]
      have : (UInt8.ofNat (48 + n % 10)).toNat = 48 + n % 10 := by rw [UInt8.toNat_ofNat']; omega
      simp only [List.map_append, List.map_cons, List.map_nil, this, List.append_assoc, List.singleton_append, List.nil_append]
theorem num_itoa (n : Nat) (h : n < 10000000000000000000) : (⟨(Lib.decDigits n).toArray⟩ : ByteArray) = num n := by
  rw [← bstr_nat]
  unfold num d20
  rw [decG_dig 19 n [] h (by decide) (.inr rfl), List.append_nil]
/-- a number's text, its sign ahead -/
def numS (n : Int) : ByteArray := if n < 0 then ⟨#[45]⟩ ++ num (-n).toNat else num n.toNat
theorem numS_itoa (n : Int) (h : -9223372036854775808 ≤ n ∧ n ≤ 9223372036854775807) : (⟨(Lib.itoa n).toArray⟩ : ByteArray) = numS n := by
  unfold Lib.itoa numS
  by_cases h0 : n < 0
  · rw [if_pos h0, if_pos h0, ← num_itoa _ (by omega), show n.natAbs = (-n).toNat by omega]
    apply WideShapes.bytes_inj
    simp
  · rw [if_neg h0, if_neg h0, ← num_itoa _ (by omega)]
theorem itoaS_ok (n : Int) (h : -9223372036854775808 ≤ n ∧ n ≤ 9223372036854775807) {H : Heap} (hT : Tens H) :
    Ret Tryd.prog 30 [I n] H (fun v H' => v = .string (numS n) ∧ Ext H H') := by
  refine ⟨Tryd.call30, fun w0 k => ?_⟩
  have h1 : Calls Tryd.prog 30 #[.int .i64 n] (mk w0 H k) fun e w' => e = .returned (.string ⟨(Lib.itoa n).toArray⟩) ∧ ∃ d os, w' = Sort.grow ((mk w0 H k).drewN d) os :=
    Any.strconv_Itoa Tryd.laysM171 n h.1 h.2 (mk w0 H k) (tab_of (by kernel_rfl) hT)
  refine h1.mono fun e w' hx => ?_
  obtain ⟨he, d, os, hw⟩ := hx
  refine ⟨_, H ++ os, k + d, he, hw, by rw [numS_itoa n h], ?_, fun b hb => Array.getElem?_append_left hb⟩
  rw [Array.size_append]; omega
theorem count_ok (s : ByteArray) (H : Heap) : Ret Tryd.prog 26 [.string s, .string ⟨#[10]⟩] H (fun v H' => v = I (s.data.toList.count 10 : Nat) ∧ H' = H) := by
  refine ⟨Tryd.call26, fun w0 k => ?_⟩
  refine (Tryd.strings_Count_one s 10 (mk w0 H k)).mono fun e w' hx => ?_
  obtain ⟨he, hw⟩ := hx
  exact ⟨_, H, k, he, hw, rfl, rfl⟩
theorem last_ok (s : ByteArray) (hs : s.size < 4611686018427387904) (H : Heap) : Ret Tryd.prog 27 [.string s, .string ⟨#[10]⟩] H (fun v H' => v = I (Lib.lastIdx s 10 s.size) ∧ H' = H) := by
  refine ⟨Tryd.call27, fun w0 k => ?_⟩
  refine (Tryd.strings_LastIndex_one s ⟨#[10]⟩ rfl hs (mk w0 H k)).mono fun e w' hx => ?_
  obtain ⟨he, hw⟩ := hx
  exact ⟨_, H, k, he, hw, rfl, rfl⟩
def boolS (b : Bool) : ByteArray := if b then ⟨#[116, 114, 117, 101]⟩ else ⟨#[102, 97, 108, 115, 101]⟩
theorem fmtB_ok (b : Bool) (H : Heap) : Ret Tryd.prog 46 [.bool b] H (fun v H' => v = .string (boolS b) ∧ H' = H) := by
  refine ⟨Tryd.call46, fun w0 k => ?_⟩
  refine (Tryd.strconv_FormatBool b (mk w0 H k)).mono fun e w' hx => ?_
  obtain ⟨he, hw⟩ := hx
  exact ⟨_, H, k, he, hw, by cases b <;> rfl, rfl⟩
/-! ### lines and columns -/
/-- the line and the column behind k bytes -/
def lnAt (s : ByteArray) : Nat → Nat × Nat
  | 0 => (1, 1)
  | k + 1 => if (s.data[k]!).toNat = 10 then ((lnAt s k).1 + 1, 1) else ((lnAt s k).1, (lnAt s k).2 + 1)
theorem take_bang {s : ByteArray} {k : Nat} (h : k < s.size) : s.data.toList.take (k + 1) = s.data.toList.take k ++ [s.data[k]!] := by
  have h1 : k < s.data.toList.length := by simpa using h
  rw [List.take_succ_eq_append_getElem h1]
  congr 2
  simp [getElem!_pos s.data k (by simpa using h)]
theorem ln_cnt (s : ByteArray) : ∀ k, k ≤ s.size → (s.data.toList.take k).count 10 + 1 = (lnAt s k).1
  | 0, _ => rfl
  | k + 1, h => by
    rw [take_bang (by omega), List.count_append, lnAt]
    have ih := ln_cnt s k (by omega)
    by_cases hc : (s.data[k]!).toNat = 10
    · have e : s.data[k]! = 10 := UInt8.toNat_inj.1 hc
      rw [if_pos hc, e, List.count_singleton_self]; dsimp only; omega
    · have e : ¬ s.data[k]! = 10 := fun h => hc (by rw [h]; rfl)
      rw [if_neg hc, List.count_singleton, if_neg (by simpa using e)]; dsimp only; omega
theorem ln_col (s : ByteArray) : ∀ k : Nat, (k : Int) - Lib.lastIdx s 10 k = (lnAt s k).2
  | 0 => by show (0 : Int) - -1 = 1; rfl
  | k + 1 => by
    have ih := ln_col s k
    rw [lnAt]
    by_cases hc : (s.data[k]!).toNat = 10
    · rw [Lib.lastIdx_hit s 10 k (by omega), if_pos hc]; show ((k + 1 : Nat) : Int) - k = ((1 : Nat) : Int); omega
    · rw [Lib.lastIdx_miss s 10 k (by omega), if_neg hc]; show ((k + 1 : Nat) : Int) - _ = (((lnAt s k).2 + 1 : Nat) : Int); omega
theorem ext_bang {s : ByteArray} {j k : Nat} (h : j < k) (hk : k ≤ s.size) : (s.extract 0 k).data[j]! = s.data[j]! := by
  have h1 : j < (s.extract 0 k).data.size := by simp; omega
  rw [getElem!_pos _ j h1, getElem!_pos s.data j (by have : s.data.size = s.size := rfl; omega)]
  simp
theorem last_ext {s : ByteArray} {n : Nat} (hn : n ≤ s.size) : ∀ k, k ≤ n → Lib.lastIdx (s.extract 0 n) 10 k = Lib.lastIdx s 10 k
  | 0, _ => rfl
  | k + 1, h => by
    have ih := last_ext hn k (by omega)
    have e := ext_bang (s := s) (j := k) (k := n) (by omega) hn
    by_cases hc : (s.data[k]!).toNat = 10
    · rw [Lib.lastIdx_hit s 10 k (by omega), Lib.lastIdx_hit _ 10 k (by rw [e]; omega)]
    · rw [Lib.lastIdx_miss s 10 k (by omega), Lib.lastIdx_miss _ 10 k (by rw [e]; omega), ih]
theorem ext_list {s : ByteArray} {n : Nat} : (s.extract 0 n).data.toList = s.data.toList.take n := by
  simp [List.extract_eq_take_drop]
theorem ln_pos (s : ByteArray) : ∀ k, 1 ≤ (lnAt s k).1 ∧ 1 ≤ (lnAt s k).2 ∧ (lnAt s k).1 ≤ k + 1 ∧ (lnAt s k).2 ≤ k + 1
  | 0 => ⟨Nat.le_refl 1, Nat.le_refl 1, Nat.le_refl 1, Nat.le_refl 1⟩
  | k + 1 => by
    have := ln_pos s k
    rw [lnAt]; split <;> (dsimp only; omega)
theorem ln_up (s : ByteArray) (a : Nat) : ∀ b, a < b → (lnAt s a).1 < (lnAt s b).1 ∨ (lnAt s a).1 = (lnAt s b).1 ∧ (lnAt s a).2 < (lnAt s b).2
  | 0, h => by omega
  | b + 1, h => by
    have hb : a = b ∨ a < b := by omega
    have key : (lnAt s b).1 < (lnAt s (b + 1)).1 ∨ (lnAt s b).1 = (lnAt s (b + 1)).1 ∧ (lnAt s b).2 < (lnAt s (b + 1)).2 := by
      rw [lnAt]; split <;> (dsimp only; omega)
    rcases hb with rfl | hb
    · exact key
    · have := ln_up s a b hb
      omega
end Go.Proofs.YtjhkmebmbopfoaaDoor
