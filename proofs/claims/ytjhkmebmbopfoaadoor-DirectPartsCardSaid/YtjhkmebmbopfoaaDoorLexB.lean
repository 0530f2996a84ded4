/-
  Names: the keywords' row; Keyword, NameMay.
-/
import Derived.Test.YtjhkmebmbopfoaaDoorLexA
namespace Go.Proofs.YtjhkmebmbopfoaaDoor
set_option linter.unusedSimpArgs false
set_option linter.unusedVariables false
set_option maxRecDepth 8000
set_option maxHeartbeats 1000000
open Go Go.Fx Go.Proofs
namespace FactsLexB
theorem es54 : esz Tryd.prog 54 = some 1 := by kernel_rfl
theorem isl54 : isSl Tryd.prog 54 = true := by kernel_rfl
theorem mkT54 : mkT Tryd.prog 54 = some (9, .string ⟨#[]⟩, 16) := by kernel_rfl
theorem sc9 : sc Tryd.prog 9 = true := by kernel_rfl
end FactsLexB
open FactsLexB

theorem bs_eq {a b : BS} (h : ((bs a).toList == (bs b).toList) = true) : a = b := by rw [str_beq] at h; exact of_decide_eq_true h
theorem bs_ne {a b : BS} (h : ((bs a).toList == (bs b).toList) = false) : a ≠ b := by rw [str_beq] at h; exact of_decide_eq_false h
/-- words with blanks between -/
def joinT : List BS → BS
  | [] => []
  | [w] => w
  | w :: ws => w ++ 32 :: joinT ws
/-- the keywords' text behind i words -/
def sufT (i : Nat) : BS := joinT (kws.drop i)
abbrev S (l : BS) : Value := .string (bs l)
abbrev es (l : BS) : List Value := [S l]
theorem kw_step (i : Nat) (h : i < 16) : Go.Lib.indexByte (sufT i) 32 = ((kws.getD i []).length : Nat) ∧ (sufT i).take (kws.getD i []).length = kws.getD i [] ∧ (sufT i).drop ((kws.getD i []).length + 1) = sufT (i + 1) ∧ (kws.getD i []).length + 1 ≤ (sufT i).length := by
  have : ((List.range 16).all fun i => decide (Go.Lib.indexByte (sufT i) 32 = ((kws.getD i []).length : Nat) ∧ (sufT i).take (kws.getD i []).length = kws.getD i [] ∧ (sufT i).drop ((kws.getD i []).length + 1) = sufT (i + 1) ∧ (kws.getD i []).length + 1 ≤ (sufT i).length)) = true := by kernel_rfl
  rw [List.all_eq_true] at this
  exact of_decide_eq_true (this i (List.mem_range.2 h))
theorem bs_take (l : BS) (n : Nat) : (bs l).extract 0 n = bs (l.take n) := str_eq (by simp [bs])
theorem bs_drop (l : BS) (n : Nat) : (bs l).extract n (bs l).size = bs (l.drop n) := str_eq (by
  have : (bs l).size = l.length := rfl
  rw [this]; simp [bs]; rw [List.take_of_length_le (by simp)])
section rules
variable {P : Program} {dst : Option Tmp} {ty : TypeId} {pos : String} {aft : Array Edge} {gd : Option (Nat × Bool)} {e : Env} {H : Heap}
theorem cutK {t : TypeId} {x y : Operand} {l w : BS} {m : Int} {n : Nat} (hu : P.underlying t = some .string) (hx : ev e x = some (S l)) (hy : ev e y = some (I m)) (h : m = n) (hn : n ≤ l.length) (hw : l.take n = w) :
    Pur P ⟨dst, .slice t x none (some y) none, ty, pos, aft, gd⟩ e (S w) := by
  subst h; subst hw
  have := Pur.cutS (P := P) (dst := dst) (ty := ty) (pos := pos) (aft := aft) (gd := gd) hu hx hy (by omega) (by show (n : Int) ≤ (l.length : Nat); omega)
  rwa [Int.toNat_natCast, bs_take] at this
theorem cutKL {t : TypeId} {x z : Operand} {l w : BS} {m : Int} {n : Nat} (hu : P.underlying t = some .string) (hx : ev e x = some (S l)) (hz : ev e z = some (I m)) (h : m = n) (hn : n ≤ l.length) (hw : l.drop n = w) :
    Pur P ⟨dst, .slice t x (some z) none none, ty, pos, aft, gd⟩ e (S w) := by
  subst h; subst hw
  have := Pur.cutSL (P := P) (dst := dst) (ty := ty) (pos := pos) (aft := aft) (gd := gd) hu hx hz hn
  rwa [bs_drop] at this
end rules
theorem kws_len : kws.length = 17 := by kernel_rfl
theorem suf_len (i : Nat) (h : i ≤ 16) : (sufT i).length ≤ 77 := by
  have : ((List.range 17).all fun i => decide ((sufT i).length ≤ 77)) = true := by kernel_rfl
  rw [List.all_eq_true] at this
  exact of_decide_eq_true (this i (List.mem_range.2 (by omega)))
/-- the row when i words are in it -/
def rowT (i : Nat) : List Value := (kws.take i).map S ++ List.replicate (17 - i) (S [])
theorem row_set (i : Nat) (h : i < 17) : (rowT i).set i (S (kws.getD i [])) = rowT (i + 1) := by
  have hk := kws_len
  unfold rowT
  obtain ⟨m, hm⟩ : ∃ m, 17 - i = m + 1 := ⟨16 - i, by omega⟩
  rw [hm, show 17 - (i + 1) = m by omega, List.replicate_succ, List.take_succ_eq_append_getElem (by omega), List.map_append, List.set_append_right _ _ (by simp [hk]; omega)]
  have : i - ((kws.take i).map S).length = 0 := by simp [hk]; omega
  rw [this, List.set_cons_zero, List.append_assoc]
  simp [List.getD_eq_getElem?_getD, List.getElem?_eq_getElem (show i < kws.length by omega)]
theorem row_len (i : Nat) (h : i ≤ 17) : (rowT i).length = 17 := by
  have hk := kws_len
  simp [rowT, hk]; omega
theorem genSplit_ok (H : Heap) : Ret Tryd.prog 113 [S kwT, S [32], I 0, I (-1)] H (fun v H' => SlT H' es 1 v kws ∧ Ext H H') := by
  have hcnt : (bs kwT).data.toList.count 32 = 16 := by kernel_rfl
  refine Ret.of_at (N := 66) Tryd.call113 Tryd.func113 rfl rfl rfl ?_
  have hE := Ext.refl H
  refine At.region rfl rfl ?_
  refine Reg.pur rfl rfl rfl rfl (Pur.asg rfl) ?_
  refine Reg.nil ?_
  refine At.region rfl rfl ?_
  refine Reg.pur rfl rfl rfl rfl (Pur.mv rfl) ?_
  refine Reg.pur rfl rfl rfl rfl (Pur.eql rfl rfl) ?_
  refine Reg.nil ?_
  refine At.condF rfl rfl (decide_eq_false (by omega)) ?_
  refine At.region rfl rfl ?_
  refine Reg.pur rfl rfl rfl rfl (Pur.mv rfl) ?_
  refine Reg.pur rfl rfl rfl rfl (Pur.eqS rfl rfl) ?_
  refine Reg.nil ?_
  refine At.condF rfl rfl (by kernel_rfl) ?_
  refine At.region rfl rfl ?_
  refine Reg.pur rfl rfl rfl rfl (Pur.mv rfl) ?_
  refine Reg.pur rfl rfl rfl rfl (Pur.lss rfl rfl) ?_
  refine Reg.nil ?_
  refine At.condT rfl rfl (decide_eq_true (by omega)) ?_
  refine At.region rfl rfl ?_
  refine Reg.pur rfl rfl rfl rfl (Pur.mv rfl) ?_
  refine Reg.pur rfl rfl rfl rfl (Pur.mv rfl) ?_
  refine Reg.op rfl rfl rfl rfl (Does.call rfl (countS_ok 32 (bs kwT) _)) ?_
  rintro _ H ⟨rfl, rfl⟩
  rw [hcnt]
  refine Reg.pur rfl rfl rfl rfl (Pur.add64 rfl rfl (by omega)) ?_
  refine Reg.pur rfl rfl rfl rfl (Pur.asg rfl) ?_
  refine Reg.nil ?_
  refine At.region rfl rfl ?_
  refine Reg.pur rfl rfl rfl rfl (Pur.mv rfl) ?_
  refine Reg.pur rfl rfl rfl rfl (Pur.mv rfl) ?_
  refine Reg.pur rfl rfl rfl rfl (Pur.lenT rfl rfl) ?_
  first | refine Reg.pur rfl rfl rfl rfl (Pur.add64 rfl rfl (by omega)) ?_ | refine Reg.pur rfl rfl rfl rfl (Pur.add64 rfl rfl (by assumption)) ?_ | refine Reg.pur rfl rfl rfl rfl (Pur.add rfl rfl) ?_
  refine Reg.pur rfl rfl rfl rfl (Pur.min2 rfl rfl) ?_
  refine Reg.pur rfl rfl rfl rfl (Pur.asg rfl) ?_
  refine Reg.nil ?_
  refine At.region rfl rfl ?_
  refine Reg.pur rfl rfl rfl rfl (Pur.mv rfl) ?_
  refine Reg.op rfl rfl rfl rfl (Does.mks mkT54 (n := 17) rfl rfl (by decide) (by decide)) ?_
  rintro _ H8_1 ⟨rfl, hp8_1⟩
  have hn8_1 := New.of_eq hp8_1
  have z8_1 := hn8_1.size
  replace hE := hE.ext hn8_1.ext
  have o8_1 := hn8_1.own
  refine Reg.pur rfl rfl rfl rfl (Pur.asg rfl) ?_
  refine Reg.nil ?_
  refine At.region rfl rfl ?_
  refine Reg.pur rfl rfl rfl rfl (Pur.mv rfl) ?_
  first | refine Reg.pur rfl rfl rfl rfl (Pur.sub64 rfl rfl (by omega)) ?_ | refine Reg.pur rfl rfl rfl rfl (Pur.sub64 rfl rfl (by assumption)) ?_ | refine Reg.pur rfl rfl rfl rfl (Pur.sub rfl rfl) ?_
  refine Reg.pur rfl rfl rfl rfl (Pur.asg rfl) ?_
  refine Reg.nil ?_
  refine At.region rfl rfl ?_
  refine Reg.pur rfl rfl rfl rfl (Pur.asg rfl) ?_
  refine Reg.nil ?_
  have hO : Own H8_1 H.size (rowT 0) := by have := hn8_1.own; exact this
  refine At.loop (σ := Nat) (fun i => [(10, I i), (9, .slice (some ⟨H.size, 0, none⟩) 17 17), (3, I 16), (2, I 0), (1, S [32]), (0, S (sufT i))]) (fun i H' => i ≤ 16 ∧ Own H' H.size (rowT i) ∧ Ext H H') (fun i => 16 - i) 0 rfl ⟨rfl, rfl, rfl, rfl, rfl, rfl, trivial⟩ ⟨by omega, hO, hE⟩ ?_
  rintro i H1 ⟨hi, hO, hE⟩ ih

  have hs77 := suf_len i hi
  refine At.region rfl rfl ?_
  refine Reg.pur rfl rfl rfl rfl (Pur.mv rfl) ?_
  refine Reg.pur rfl rfl rfl rfl (Pur.mv rfl) ?_
  refine Reg.pur rfl rfl rfl rfl (Pur.lss rfl rfl) ?_
  refine Reg.nil ?_
  refine At.cond rfl rfl (fun q36 => ?_) (fun q36 => ?_)
  · first | (simp only [decide_eq_true_eq, decide_eq_false_iff_not, Bool.not_eq_true', Bool.not_eq_false', ne_eq, Decidable.not_not, Bool.not_eq_true, Bool.not_eq_false] at q36) | (dsimp only at q36) | skip
    obtain ⟨k1, k2, k3, k4⟩ := kw_step i (by omega)
    refine At.region rfl rfl ?_
    refine Reg.pur rfl rfl rfl rfl (Pur.mv rfl) ?_
    refine Reg.pur rfl rfl rfl rfl (Pur.mv rfl) ?_
    refine Reg.op rfl rfl rfl rfl (Does.call rfl (index_ok 32 (bs (sufT i)) _)) ?_
    rintro _ H8_1 ⟨rfl, rfl⟩
    rw [bs_data, k1]
    refine Reg.pur rfl rfl rfl rfl (Pur.asg rfl) ?_
    refine Reg.nil ?_
    refine At.region rfl rfl ?_
    refine Reg.pur rfl rfl rfl rfl (Pur.mv rfl) ?_
    refine Reg.pur rfl rfl rfl rfl (Pur.lss rfl rfl) ?_
    refine Reg.nil ?_
    refine At.condF rfl rfl (decide_eq_false (by omega)) ?_
    refine At.region rfl rfl ?_
    refine Reg.pur rfl rfl rfl rfl (Pur.mv rfl) ?_
    refine Reg.pur rfl rfl rfl rfl (Pur.mv rfl) ?_
    refine Reg.pur rfl rfl rfl rfl (Pur.mv rfl) ?_
    refine Reg.pur rfl rfl rfl rfl (Pur.mv rfl) ?_
    refine Reg.pur rfl rfl rfl rfl (Pur.mv rfl) ?_
    refine Reg.pur rfl rfl rfl rfl (Pur.add64 rfl rfl (by omega)) ?_
    refine Reg.pur rfl rfl rfl rfl (cutK Tryd.underlying9 rfl rfl (by omega) (by omega) k2) ?_
    refine Reg.pur rfl rfl rfl rfl (Pur.idx _ es54 rfl rfl (by omega) (by omega)) ?_
    refine Reg.op0 rfl rfl rfl (Does.st sc9 rfl rfl rfl hO (by rw [row_len i (by omega)]; omega)) ?_
    rintro _ H14_8 hu14_8
    have z14_8 := hu14_8.size
    replace hE := hE.upw hu14_8 (by omega)
    replace hO := hu14_8.own
    have hO : Own H14_8 H.size (rowT (i + 1)) := by have := hu14_8.own; rw [show 0 + ((i : Nat) : Int).toNat * 1 = i from by omega, row_set i (by omega)] at this; exact this
    refine Reg.nil ?_
    refine At.region rfl rfl ?_
    refine Reg.pur rfl rfl rfl rfl (Pur.mv rfl) ?_
    refine Reg.pur rfl rfl rfl rfl (Pur.mv rfl) ?_
    refine Reg.pur rfl rfl rfl rfl (Pur.mv rfl) ?_
    refine Reg.pur rfl rfl rfl rfl (Pur.lenT rfl rfl) ?_
    refine Reg.pur rfl rfl rfl rfl (Pur.add64 rfl rfl (by show _ ≤ ((kws.getD i []).length : Int) + 1 ∧ ((kws.getD i []).length : Int) + 1 ≤ _; omega)) ?_
    refine Reg.pur rfl rfl rfl rfl (cutKL (n := (kws.getD i []).length + 1) Tryd.underlying9 rfl rfl rfl (by omega) k3) ?_
    refine Reg.pur rfl rfl rfl rfl (Pur.asg rfl) ?_
    refine Reg.nil ?_
    refine At.region rfl rfl ?_
    refine Reg.pur rfl rfl rfl rfl (Pur.mv rfl) ?_
    refine Reg.pur rfl rfl rfl rfl (Pur.add64 rfl rfl (by omega)) ?_
    refine Reg.pur rfl rfl rfl rfl (Pur.asg rfl) ?_
    refine Reg.nil ?_
    exact At.meets rfl (ih (i + 1) _ ⟨by omega, hO, hE⟩ (by omega)) ⟨rfl, rfl, rfl, rfl, rfl, rfl, trivial⟩
  first | (simp only [decide_eq_true_eq, decide_eq_false_iff_not, Bool.not_eq_true', Bool.not_eq_false', ne_eq, Decidable.not_not, Bool.not_eq_true, Bool.not_eq_false] at q36) | (dsimp only at q36) | skip
  obtain rfl : i = 16 := by omega
  refine At.region rfl rfl ?_
  refine Reg.pur rfl rfl rfl rfl (Pur.mv rfl) ?_
  refine Reg.pur rfl rfl rfl rfl (Pur.mv rfl) ?_
  refine Reg.pur rfl rfl rfl rfl (Pur.mv rfl) ?_
  refine Reg.pur rfl rfl rfl rfl (Pur.idx _ es54 rfl rfl (by omega) (by omega)) ?_
  refine Reg.op0 rfl rfl rfl (Does.st sc9 rfl rfl rfl hO (by rw [row_len 16 (by omega)]; decide)) ?_
  rintro _ H17_4 hu17_4
  have z17_4 := hu17_4.size
  replace hE := hE.upw hu17_4 (by omega)
  replace hO := hu17_4.own
  refine Reg.nil ?_
  refine At.region rfl rfl ?_
  refine Reg.pur rfl rfl rfl rfl (Pur.mv rfl) ?_
  refine Reg.pur rfl rfl rfl rfl (Pur.mv rfl) ?_
  refine Reg.pur rfl rfl rfl rfl (Pur.add64 rfl rfl (by omega)) ?_
  refine Reg.pur rfl rfl rfl rfl (Pur.cutH es54 rfl rfl (by omega) (by omega)) ?_
  refine Reg.pur rfl rfl rfl rfl (Pur.asg rfl) ?_
  refine Reg.nil ?_
  refine At.ret rfl Tryd.func113 rfl ?_
  have hO : Own H17_4 H.size (rowT 17) := by have := hu17_4.own; rw [← row_set 16 (by omega)]; exact this
  refine ⟨?_, hE⟩
  exact sl_of (enc := es) (n := 1) (L := kws) (o := 0) (fun _ _ => rfl) (by decide) hO.blk (by kernel_rfl) (by rw [kws_len]; decide) (by decide)
theorem split_ok (H : Heap) : Ret Tryd.prog 108 [S kwT, S [32]] H (fun v H' => SlT H' es 1 v kws ∧ Ext H H') := by
  refine Ret.of_at (N := 8) Tryd.call108 Tryd.func108 rfl rfl rfl ?_
  have hE := Ext.refl H
  refine At.region rfl rfl ?_
  refine Reg.pur rfl rfl rfl rfl (Pur.asg rfl) ?_
  refine Reg.nil ?_
  refine At.region rfl rfl ?_
  refine Reg.pur rfl rfl rfl rfl (Pur.mv rfl) ?_
  refine Reg.pur rfl rfl rfl rfl (Pur.mv rfl) ?_
  refine Reg.op rfl rfl rfl rfl (Does.call rfl (genSplit_ok _)) ?_
  rintro v2 H1_2 ⟨hS, hE1_2⟩
  have z1_2 := hE1_2.lt
  replace hE := hE.ext hE1_2
  refine Reg.pur rfl rfl rfl rfl (Pur.asg rfl) ?_
  refine Reg.nil ?_
  refine At.ret rfl Tryd.func108 rfl ?_
  exact ⟨hS, hE⟩
theorem indexS_ok (L : List BS) (l : BS) {A : Option Addr} {n cap : Nat} (hn : L.length = n) (hm : n ≤ 9223372036854775807) {H : Heap} (hS : SlT H es 1 (.slice A n cap) L) :
    Ret Tryd.prog 112 [.slice A n cap, S l] H (fun v H' => (∃ r, v = I r ∧ decide (0 ≤ r) = L.contains l) ∧ H' = H) := by
  subst hn
  refine Ret.of_at (N := 19) Tryd.call112 Tryd.func112 rfl rfl rfl ?_
  have hE := Ext.refl H
  refine At.region rfl rfl ?_
  refine Reg.pur rfl rfl rfl rfl (Pur.asg rfl) ?_
  refine Reg.nil ?_
  refine At.region rfl rfl ?_
  refine Reg.pur rfl rfl rfl rfl (Pur.mv rfl) ?_
  refine Reg.pur rfl rfl rfl rfl (Pur.lenS isl54 rfl) ?_
  refine Reg.pur rfl rfl rfl rfl (Pur.mv rfl) ?_
  refine Reg.nil ?_
  refine At.loop (σ := Nat) (fun i => [(8, I i), (7, I L.length), (0, .slice A L.length cap), (1, S l)]) (fun i H' => i ≤ L.length ∧ (L.take i).contains l = false ∧ H' = H) (fun i => L.length - i) 0 rfl ⟨rfl, rfl, rfl, rfl, trivial⟩ ⟨by omega, rfl, rfl⟩ ?_
  rintro i H ⟨hi, hgo, rfl⟩ ih
  refine At.region rfl rfl ?_
  refine Reg.pur rfl rfl rfl rfl (Pur.lss rfl rfl) ?_
  refine Reg.nil ?_
  refine At.cond rfl rfl (fun q9 => ?_) (fun q9 => ?_)
  · first | (simp only [decide_eq_true_eq, decide_eq_false_iff_not, Bool.not_eq_true', Bool.not_eq_false', ne_eq, Decidable.not_not, Bool.not_eq_true, Bool.not_eq_false] at q9) | (dsimp only at q9) | skip
    obtain ⟨b, o, c, rfl, hB, hd, h9⟩ := sl_at (enc := es) (n := 1) (fun _ _ => rfl) hS (show i < L.length by omega)
    have hx : c[o + i]? = some (S L[i]) := at_tk (m := 1) (j := 0) (by simpa using hd) (by decide) rfl
    refine At.region rfl rfl ?_
    refine Reg.pur rfl rfl rfl rfl (Pur.mv rfl) ?_
    refine Reg.pur rfl rfl rfl rfl (Pur.asg rfl) ?_
    refine Reg.nil ?_
    refine At.region rfl rfl ?_
    refine Reg.pur rfl rfl rfl rfl (Pur.mv rfl) ?_
    refine Reg.pur rfl rfl rfl rfl (Pur.mv rfl) ?_
    refine Reg.pur rfl rfl rfl rfl (Pur.mv rfl) ?_
    refine Reg.pur rfl rfl rfl rfl (Pur.idx _ es54 rfl rfl (by omega) (by omega)) ?_
    refine Reg.lod rfl rfl rfl rfl (Lod.ld sc9 rfl hB (by simpa using hx)) ?_
    refine Reg.pur rfl rfl rfl rfl (Pur.eqS rfl rfl) ?_
    refine Reg.nil ?_
    refine At.cond rfl rfl (fun q16 => ?_) (fun q16 => ?_)
    · first | (simp only [decide_eq_true_eq, decide_eq_false_iff_not, Bool.not_eq_true', Bool.not_eq_false', ne_eq, Decidable.not_not, Bool.not_eq_true, Bool.not_eq_false] at q16) | (dsimp only at q16) | skip
      refine At.region rfl rfl ?_
      refine Reg.pur rfl rfl rfl rfl (Pur.mv rfl) ?_
      refine Reg.pur rfl rfl rfl rfl (Pur.asg rfl) ?_
      refine Reg.nil ?_
      refine At.ret rfl Tryd.func112 rfl ?_
      refine ⟨⟨_, rfl, ?_⟩, rfl⟩
      rw [decide_eq_true (by omega)]
      have := bs_eq q16
      subst this
      exact (List.contains_iff_mem.2 (List.getElem_mem _)).symm
    first | (simp only [decide_eq_true_eq, decide_eq_false_iff_not, Bool.not_eq_true', Bool.not_eq_false', ne_eq, Decidable.not_not, Bool.not_eq_true, Bool.not_eq_false] at q16) | (dsimp only at q16) | skip
    refine At.region rfl rfl ?_
    first | refine Reg.pur rfl rfl rfl rfl (Pur.add64 rfl rfl (by omega)) ?_ | refine Reg.pur rfl rfl rfl rfl (Pur.add64 rfl rfl (by assumption)) ?_ | refine Reg.pur rfl rfl rfl rfl (Pur.add rfl rfl) ?_
    refine Reg.pur rfl rfl rfl rfl (Pur.mv rfl) ?_
    refine Reg.nil ?_
    refine At.meets rfl (ih (i + 1) _ ⟨by omega, ?_, rfl⟩ (by omega)) ⟨rfl, rfl, rfl, rfl, trivial⟩
    rw [List.take_succ_eq_append_getElem (by omega), List.contains_append, hgo, Bool.false_or]
    simpa using bs_ne q16
  first | (simp only [decide_eq_true_eq, decide_eq_false_iff_not, Bool.not_eq_true', Bool.not_eq_false', ne_eq, Decidable.not_not, Bool.not_eq_true, Bool.not_eq_false] at q9) | (dsimp only at q9) | skip
  refine At.region rfl rfl ?_
  refine Reg.pur rfl rfl rfl rfl (Pur.asg rfl) ?_
  refine Reg.nil ?_
  refine At.ret rfl Tryd.func112 rfl ?_
  refine ⟨⟨_, rfl, ?_⟩, rfl⟩
  rw [List.take_of_length_le (by omega)] at hgo
  rw [hgo]; rfl
theorem contains_ok (L : List BS) (l : BS) {A : Option Addr} {n cap : Nat} (hn : L.length = n) (hm : n ≤ 9223372036854775807) {H : Heap} (hS : SlT H es 1 (.slice A n cap) L) :
    Ret Tryd.prog 107 [.slice A n cap, S l] H (fun v H' => v = .bool (L.contains l) ∧ H' = H) := by
  refine Ret.of_at (N := 9) Tryd.call107 Tryd.func107 rfl rfl rfl ?_
  have hE := Ext.refl H
  refine At.region rfl rfl ?_
  refine Reg.pur rfl rfl rfl rfl (Pur.asg rfl) ?_
  refine Reg.nil ?_
  refine At.region rfl rfl ?_
  refine Reg.pur rfl rfl rfl rfl (Pur.mv rfl) ?_
  refine Reg.pur rfl rfl rfl rfl (Pur.mv rfl) ?_
  refine Reg.op rfl rfl rfl rfl (Does.call rfl (indexS_ok L l hn hm hS)) ?_
  rintro _ H ⟨⟨r, rfl, hr⟩, rfl⟩
  refine Reg.pur rfl rfl rfl rfl (Pur.geq rfl rfl) ?_
  refine Reg.pur rfl rfl rfl rfl (Pur.asg rfl) ?_
  refine Reg.nil ?_
  refine At.ret rfl Tryd.func107 rfl ?_
  exact ⟨congrArg Value.bool hr, rfl⟩
theorem keyword_ok (l : BS) (H : Heap) : Ret Tryd.prog 90 [S l] H (fun v H' => v = .bool (isKw l) ∧ Ext H H') := by
  refine Ret.of_at (N := 6) Tryd.call90 Tryd.func90 rfl rfl rfl ?_
  have hE := Ext.refl H
  refine At.region rfl rfl ?_
  refine Reg.pur rfl rfl rfl rfl (Pur.asg rfl) ?_
  refine Reg.nil ?_
  refine At.region rfl rfl ?_
  refine Reg.op rfl rfl rfl rfl (Does.call rfl (split_ok _)) ?_
  rintro v2 H1_0 ⟨hS, hE1_0⟩
  have z1_0 := hE1_0.lt
  replace hE := hE.ext hE1_0
  obtain ⟨A, cap, rfl, hS'⟩ := id hS
  refine Reg.pur rfl rfl rfl rfl (Pur.mv rfl) ?_
  refine Reg.op rfl rfl rfl rfl (Does.call rfl (contains_ok kws l rfl (by rw [kws_len]; decide) hS)) ?_
  rintro _ H1_0 ⟨rfl, rfl⟩
  refine Reg.pur rfl rfl rfl rfl (Pur.asg rfl) ?_
  refine Reg.nil ?_
  refine At.ret rfl Tryd.func90 rfl ?_
  exact ⟨rfl, hE⟩
end Go.Proofs.YtjhkmebmbopfoaaDoor
