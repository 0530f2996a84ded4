/-
  Strings: their rules, a number's digits.
-/
import Derived.Test.YtjhkmebmbopfoaaDoorFxT
import Derived.Test.YtjhkmebmbopfoaaDoorFxU
import Derived.Test.YtjhkmebmbopfoaaDoorFxQ
import Derived.Test.YtjhkmebmbopfoaaDoorCom
import Derived.Test.YtjhkmebmbopfoaaDoorProg
import Derived.Laws.BytesString
namespace Go.Proofs.YtjhkmebmbopfoaaDoor
set_option linter.unusedSimpArgs false
set_option linter.unusedVariables false
set_option maxRecDepth 8000
open Go Go.Fx Go.Proofs
namespace FactsStrA
theorem apt69 : appT Tryd.prog 69 = some (5, 1, 1) := by kernel_rfl
theorem isl69 : isSl Tryd.prog 69 = true := by kernel_rfl
theorem sl1_69 : Go.Fx.sl1 Tryd.prog 69 = true := by kernel_rfl
end FactsStrA
open FactsStrA

abbrev eb (x : Int) : List Value := [.int .u8 x]
theorem wideb (L : List Int) : Wide eb 1 L := fun _ _ => rfl
theorem flat_eb : ∀ L : List Int, L.flatMap eb = L.map (Value.int .u8)
  | [] => rfl
  | x :: L => by rw [List.flatMap_cons, flat_eb L]; rfl
theorem ones_eb (L : List Int) : ones (L.flatMap eb) = true := by
  simp only [ones, List.all_eq_true, List.mem_flatMap]
  rintro v ⟨x, _, hv⟩
  simp only [List.mem_singleton] at hv
  subst hv; rfl
/-- bytes as text -/
def bstr (l : List Int) : ByteArray := l.foldl (fun r n => r.push (UInt8.ofNat n.toNat)) ByteArray.empty
theorem push_size : ∀ (l : List Int) (s : ByteArray), (l.foldl (fun r n => r.push (UInt8.ofNat n.toNat)) s).size = s.size + l.length
  | [], _ => rfl
  | x :: l, s => by
    rw [List.foldl_cons, push_size l, ByteArray.size_push, List.length_cons]; omega
theorem bstr_size (l : List Int) : (bstr l).size = l.length := by
  unfold bstr; rw [push_size]; simp
section rules
variable {P : Program} {dst : Option Tmp} {ty : TypeId} {pos : String} {aft : Array Edge} {gd : Option (Nat × Bool)} {e : Env} {H : Heap}
theorem Pur.addS {t t' : TypeId} {x y : Operand} {a b : ByteArray} (hx : ev e x = some (.string a)) (hy : ev e y = some (.string b)) (h : a.size + b.size ≤ 9223372036854775807) :
    Pur P ⟨dst, .binOp .add t x y t', ty, pos, aft, gd⟩ e (.string (a ++ b)) := by
  intro A w hA
  have e1 := hA.ev hx
  have e2 := hA.ev hy
  have hn : ¬ ((a.size + b.size : Nat) : Int) > IntKind.i64.max := by rw [show IntKind.i64.max = 9223372036854775807 from rfl]; omega
  simp only [execOp, e1, e2, eqGuard_at_string, Sem.run_bind, Sem.run_pure, Result.andThen_ok]
  simp only [binOp, Op.stringOp]
  rw [if_neg hn]
  simp
theorem Lod.bstr {src t el : TypeId} {x : Operand} {A : Option Addr} {cap : Nat} {l : List Int} (hs : P.underlying src = some (.slice el)) (he : P.underlying el = some (.int .u8)) (hd : P.underlying t = some .string)
    (hx : ev e x = some (.slice A l.length cap)) (hS : SlT H eb 1 (.slice A l.length cap) l) : Lod P ⟨dst, .convert src t x, ty, pos, aft, gd⟩ e H (.string (bstr l)) := by
  intro a w hw hA
  have e1 := hA.ev hx
  have hr : (Conv.bytesToString (.slice A l.length cap)).run P w = .ok (.string (Proofs.YtjhkmebmbopfoaaDoor.bstr l)) w := by
    obtain ⟨_, A', cap', hv, _, h3⟩ := sl_src (wideb l) hS
    simp only [Value.slice.injEq, true_and] at hv
    obtain ⟨rfl, rfl⟩ := hv
    rcases h3 with h0 | ⟨b, o, c, rfl, hb, hc⟩
    · obtain rfl : l = [] := List.eq_nil_of_length_eq_zero h0
      cases A with
      | none => simp [Conv.bytesToString]; try rfl
      | some ad => exact run_bytesToString w ad 0 cap [] (by simp [loadCells, loadCellsFrom])
    · refine run_bytesToString w _ l.length cap l ?_
      rw [Nat.mul_one] at hc
      rw [loadCells_run hb hc (by rw [flat_eb]; simp) hw, flat_eb]
  simp only [execOp, e1]
  rw [Sem.run_bind, run_convert_bytes_string w src t el _ _ _ hs he hd, hr]
  simp
end rules

/-- a number's digits -/
def decG : Nat → Nat → List Int → List Int
  | 0, _, l => l
  | f + 1, n, l => if n = 0 ∧ l.length ≠ 0 then l else decG f (n / 10) (((48 + n % 10 : Nat) : Int) :: l)
/-- .. of any number of the machine's -/
def d20 (n : Nat) : List Int := decG 20 n []
theorem decG_len : ∀ (f n : Nat) (l : List Int), (decG f n l).length ≤ f + l.length
  | 0, n, l => by simp [decG]
  | f + 1, n, l => by
    unfold decG; split
    · omega
    · have := decG_len f (n / 10) (((48 + n % 10 : Nat) : Int) :: l)
      rw [List.length_cons] at this; omega
/-- a number's text -/
def num (n : Nat) : ByteArray := bstr (d20 n)
theorem num_size (n : Nat) : (num n).size ≤ 20 := by
  unfold num; rw [bstr_size]; exact decG_len 20 n []
theorem dig_eq (n : Nat) (h : n < 18446744073709551616) : IntKind.u8.wrap (IntKind.u64.wrap (48 + (n : Int).tmod 10)) = ((48 + n % 10 : Nat) : Int) := by
  have : (n : Int).tmod 10 = ((n % 10 : Nat) : Int) := by rw [Int.tmod_eq_emod_of_nonneg (by omega)]; omega
  rw [this, IntWalk.u64_in _ (by omega), IntWalk.u8_in _ (by omega)]; omega
theorem quo_eq (n : Nat) (h : n < 18446744073709551616) : IntKind.u64.wrap ((n : Int).tdiv 10) = ((n / 10 : Nat) : Int) := by
  have : (n : Int).tdiv 10 = ((n / 10 : Nat) : Int) := by rw [Int.tdiv_eq_ediv_of_nonneg (by omega)]; omega
  rw [this, IntWalk.u64_in _ (by omega)]
theorem decG_go {f n : Nat} {l : List Int} (h : 0 < n ∨ l.length = 0) : decG (f + 1) n l = decG f (n / 10) (((48 + n % 10 : Nat) : Int) :: l) := by
  rw [decG, if_neg (by omega)]
theorem decG_end {f : Nat} {l : List Int} (h : l.length ≠ 0) : decG (f + 1) 0 l = l := by
  rw [decG, if_pos ⟨rfl, h⟩]
theorem pow_step {f n : Nat} (hf : n < 10 ^ (f + 1)) : n / 10 < 10 ^ f := by
  rw [Nat.pow_succ] at hf; omega

theorem decimal_ok (n : Nat) (h : n < 9223372036854775808) (H : Heap) :
    Ret Tryd.prog 20 [I n] H (fun r H' => r = .string (num n) ∧ Ext H H') := by
  have hu : IntKind.u64.wrap (n : Int) = (n : Int) := IntWalk.u64_in _ (by omega)
  refine Ret.of_at (N := 37) Tryd.call20 Tryd.func20 rfl rfl rfl ?_
  have hE := Ext.refl H
  refine At.region rfl rfl ?_
  refine Reg.pur rfl rfl rfl rfl (Pur.asg rfl) ?_
  refine Reg.nil ?_
  refine At.region rfl rfl ?_
  refine Reg.pur rfl rfl rfl rfl (Pur.mv rfl) ?_
  refine Reg.pur rfl rfl rfl rfl (Pur.cnv Tryd.underlying3 Tryd.underlying68 rfl) ?_
  refine Reg.pur rfl rfl rfl rfl (Pur.asg rfl) ?_
  refine Reg.nil ?_
  refine At.region rfl rfl ?_
  refine Reg.pur rfl rfl rfl rfl (Pur.mv rfl) ?_
  refine Reg.pur rfl rfl rfl rfl (Pur.lss rfl rfl) ?_
  refine Reg.nil ?_
  refine At.condF rfl rfl (decide_eq_false (by omega)) ?_
  refine At.region rfl rfl ?_
  refine Reg.pur rfl rfl rfl rfl (Pur.asg rfl) ?_
  refine Reg.nil ?_
  refine At.loop (σ := Nat × Nat × List Int × Option Addr × Nat) (fun (f, m, l, A, cap) => [(3, .int .u64 m), (4, .slice A l.length cap), (0, I n)]) (fun (f, m, l, A, cap) H' => m < 10 ^ f ∧ m < 18446744073709551616 ∧ (l.length = 0 → 0 < f) ∧ l.length ≤ 20 ∧ f + l.length ≤ 20 ∧ decG (f + 1) m l = d20 n ∧ SlT H' eb 1 (.slice A l.length cap) l ∧ Ext H H') (fun (f, m, l, A, cap) => f) (19, n, [], none, 0) rfl ⟨by (show some (Value.int .u64 (IntKind.u64.wrap ↑n)) = _); rw [hu], rfl, rfl, trivial⟩ ⟨by omega, by omega, fun _ => by decide, by simp, by simp, rfl, sl_nil H, hE⟩ ?_
  rintro ⟨f, m, l, A, cap⟩ H1 ⟨hmf, hm, h0, hl, hfl, hgo, hS, hE1⟩ ih
  dsimp only at hmf hm h0 hl hfl hgo hS ih
  replace hE := hE1
  clear hE1
  have zE := hE.1
  refine At.region rfl rfl ?_
  refine Reg.pur rfl rfl rfl rfl (Pur.mv rfl) ?_
  refine Reg.pur rfl rfl rfl rfl (Pur.gtr rfl rfl) ?_
  refine Reg.pur rfl rfl rfl rfl (Pur.mv rfl) ?_
  refine Reg.case 16 rfl (fun q16 => ?_) (fun q16 => ?_)
  · first | (simp only [decide_eq_true_eq, decide_eq_false_iff_not, Bool.not_eq_true', Bool.not_eq_false', ne_eq, Decidable.not_not, Bool.not_eq_true, Bool.not_eq_false] at q16) | (dsimp only at q16) | skip
    refine Reg.skip rfl rfl rfl rfl rfl rfl rfl ?_
    refine Reg.skip rfl rfl rfl rfl rfl rfl rfl ?_
    refine Reg.skip rfl rfl rfl rfl rfl rfl rfl ?_
    refine Reg.pur rfl rfl rfl rfl (Pur.pickT rfl rfl) ?_
    refine Reg.nil ?_
    refine At.condT rfl rfl rfl ?_
    refine At.region rfl rfl ?_
    refine Reg.pur rfl rfl rfl rfl (Pur.mv rfl) ?_
    first | refine Reg.pur rfl rfl rfl rfl (Pur.rem rfl rfl (by omega)) ?_ | refine Reg.pur rfl rfl rfl rfl (Pur.rem rfl rfl (by decide)) ?_
    refine Reg.pur rfl rfl rfl rfl (Pur.add rfl rfl) ?_
    refine Reg.pur rfl rfl rfl rfl (Pur.cnv Tryd.underlying68 Tryd.underlying5 rfl) ?_
    refine Reg.op rfl rfl rfl rfl (Does.bsl1T sl1_69 Tryd.underlying69 rfl rfl rfl rfl rfl) ?_
    rintro _ H6_4 ⟨rfl, hp6_4⟩
    have hn6_4 := New.of_eq hp6_4
    have z6_4 := hn6_4.size
    replace hE := hE.ext hn6_4.ext
    have o6_4 := hn6_4.own
    rw [dig_eq m (by omega)] at hp6_4
    have hg : Gs H6_4 H1.size 5 1 (some ⟨H1.size, 0, none⟩) 1 [((48 + m % 10 : Nat) : Int)].length ([((48 + m % 10 : Nat) : Int)].flatMap eb) := by rw [hp6_4]; exact OwnS.new (xs := [_]) (n := 1) rfl (by decide) (Nat.le_refl _)
    refine Reg.pur rfl rfl rfl rfl (Pur.mv rfl) ?_

    have z_hg := hg.lt
    refine Reg.op rfl rfl rfl rfl (Does.appL apt69 rfl rfl (by decide) hg (wideb _) (hS.ext hn6_4.ext) (ones_eb _) (by simp; omega) (by omega)) ?_
    rintro _ H6_6 ⟨A6_6, cap6_6, rfl, g6_6, hbut6_6, ha6_6⟩
    have z6_6 := hbut6_6.lt
    replace hE := hE.via hbut6_6 (by first | omega | (intro g; omega) | (intro g hg; omega) | (intro g hg h; omega))
    replace hg := g6_6
    have zg6_6 := g6_6.lt
    refine Reg.pur rfl rfl rfl rfl (Pur.asg rfl) ?_
    refine Reg.nil ?_
    refine At.region rfl rfl ?_
    refine Reg.pur rfl rfl rfl rfl (Pur.mv rfl) ?_
    first | refine Reg.pur rfl rfl rfl rfl (Pur.quo rfl rfl (by omega)) ?_ | refine Reg.pur rfl rfl rfl rfl (Pur.quo rfl rfl (by decide)) ?_
    refine Reg.pur rfl rfl rfl rfl (Pur.asg rfl) ?_
    refine Reg.nil ?_
    rw [decG_go (by omega)] at hgo
    have hf : 0 < f := Nat.pos_of_ne_zero (fun h0' => by (subst h0'; have hm1 : m < 1 := hmf; omega))
    obtain ⟨f', rfl⟩ : ∃ f', f = f' + 1 := ⟨f - 1, by omega⟩
    have hst := ih (f', m / 10, ((48 + m % 10 : Nat) : Int) :: l, A6_6, cap6_6) _ ⟨pow_step hmf, (show m / 10 < 18446744073709551616 by omega), fun h => by simp at h, by simp; omega, by simp; omega, hgo, own_sl (wideb _) (by decide) hg, hE⟩ (Nat.lt_succ_self f')
    exact At.meets rfl hst ⟨by (show some (Value.int .u64 (IntKind.u64.wrap ((m : Int).tdiv 10))) = _); rw [quo_eq m (by omega)], rfl, rfl, trivial⟩
  first | (simp only [decide_eq_true_eq, decide_eq_false_iff_not, Bool.not_eq_true', Bool.not_eq_false', ne_eq, Decidable.not_not, Bool.not_eq_true, Bool.not_eq_false] at q16) | (dsimp only at q16) | skip
  refine Reg.gpur rfl rfl rfl rfl rfl rfl (Pur.mv rfl) ?_
  refine Reg.gpur rfl rfl rfl rfl rfl rfl (Pur.lenS isl69 rfl) ?_
  refine Reg.gpur rfl rfl rfl rfl rfl rfl (Pur.eql rfl rfl) ?_
  refine Reg.pur rfl rfl rfl rfl (Pur.pickF rfl rfl) ?_
  refine Reg.nil ?_
  refine At.cond rfl rfl (fun q20 => ?_) (fun q20 => ?_)
  · first | (simp only [decide_eq_true_eq, decide_eq_false_iff_not, Bool.not_eq_true', Bool.not_eq_false', ne_eq, Decidable.not_not, Bool.not_eq_true, Bool.not_eq_false] at q20) | (dsimp only at q20) | skip
    refine At.region rfl rfl ?_
    refine Reg.pur rfl rfl rfl rfl (Pur.mv rfl) ?_
    first | refine Reg.pur rfl rfl rfl rfl (Pur.rem rfl rfl (by omega)) ?_ | refine Reg.pur rfl rfl rfl rfl (Pur.rem rfl rfl (by decide)) ?_
    refine Reg.pur rfl rfl rfl rfl (Pur.add rfl rfl) ?_
    refine Reg.pur rfl rfl rfl rfl (Pur.cnv Tryd.underlying68 Tryd.underlying5 rfl) ?_
    refine Reg.op rfl rfl rfl rfl (Does.bsl1T sl1_69 Tryd.underlying69 rfl rfl rfl rfl rfl) ?_
    rintro _ H6_4 ⟨rfl, hp6_4⟩
    have hn6_4 := New.of_eq hp6_4
    have z6_4 := hn6_4.size
    replace hE := hE.ext hn6_4.ext
    have o6_4 := hn6_4.own
    rw [dig_eq m (by omega)] at hp6_4
    have hg : Gs H6_4 H1.size 5 1 (some ⟨H1.size, 0, none⟩) 1 [((48 + m % 10 : Nat) : Int)].length ([((48 + m % 10 : Nat) : Int)].flatMap eb) := by rw [hp6_4]; exact OwnS.new (xs := [_]) (n := 1) rfl (by decide) (Nat.le_refl _)
    refine Reg.pur rfl rfl rfl rfl (Pur.mv rfl) ?_

    have z_hg := hg.lt
    refine Reg.op rfl rfl rfl rfl (Does.appL apt69 rfl rfl (by decide) hg (wideb _) (hS.ext hn6_4.ext) (ones_eb _) (by simp; omega) (by omega)) ?_
    rintro _ H6_6 ⟨A6_6, cap6_6, rfl, g6_6, hbut6_6, ha6_6⟩
    have z6_6 := hbut6_6.lt
    replace hE := hE.via hbut6_6 (by first | omega | (intro g; omega) | (intro g hg; omega) | (intro g hg h; omega))
    replace hg := g6_6
    have zg6_6 := g6_6.lt
    refine Reg.pur rfl rfl rfl rfl (Pur.asg rfl) ?_
    refine Reg.nil ?_
    refine At.region rfl rfl ?_
    refine Reg.pur rfl rfl rfl rfl (Pur.mv rfl) ?_
    first | refine Reg.pur rfl rfl rfl rfl (Pur.quo rfl rfl (by omega)) ?_ | refine Reg.pur rfl rfl rfl rfl (Pur.quo rfl rfl (by decide)) ?_
    refine Reg.pur rfl rfl rfl rfl (Pur.asg rfl) ?_
    refine Reg.nil ?_
    rw [decG_go (by omega)] at hgo
    have hf : 0 < f := Nat.pos_of_ne_zero (fun h0' => by (subst h0'; have hm1 : m < 1 := hmf; omega))
    obtain ⟨f', rfl⟩ : ∃ f', f = f' + 1 := ⟨f - 1, by omega⟩
    have hst := ih (f', m / 10, ((48 + m % 10 : Nat) : Int) :: l, A6_6, cap6_6) _ ⟨pow_step hmf, (show m / 10 < 18446744073709551616 by omega), fun h => by simp at h, by simp; omega, by simp; omega, hgo, own_sl (wideb _) (by decide) hg, hE⟩ (Nat.lt_succ_self f')
    exact At.meets rfl hst ⟨by (show some (Value.int .u64 (IntKind.u64.wrap ((m : Int).tdiv 10))) = _); rw [quo_eq m (by omega)], rfl, rfl, trivial⟩
  first | (simp only [decide_eq_true_eq, decide_eq_false_iff_not, Bool.not_eq_true', Bool.not_eq_false', ne_eq, Decidable.not_not, Bool.not_eq_true, Bool.not_eq_false] at q20) | (dsimp only at q20) | skip
  refine At.region rfl rfl ?_
  refine Reg.pur rfl rfl rfl rfl (Pur.mv rfl) ?_
  refine Reg.pur rfl rfl rfl rfl (Pur.lss rfl rfl) ?_
  refine Reg.nil ?_
  refine At.condF rfl rfl (decide_eq_false (by omega)) ?_
  refine At.region rfl rfl ?_
  refine Reg.pur rfl rfl rfl rfl (Pur.mv rfl) ?_
  refine Reg.lod rfl rfl rfl rfl (Lod.bstr Tryd.underlying69 Tryd.underlying5 Tryd.underlying9 rfl hS) ?_
  refine Reg.pur rfl rfl rfl rfl (Pur.asg rfl) ?_
  refine Reg.nil ?_
  refine At.ret rfl Tryd.func20 rfl ?_
  obtain rfl : m = 0 := by omega
  rw [decG_end (by omega)] at hgo
  exact ⟨by rw [hgo]; rfl, hE⟩
theorem decimalN_ok (x : Int) (h : -9223372036854775808 ≤ x) (h0 : x < 0) (H : Heap) :
    Ret Tryd.prog 20 [I x] H (fun r H' => (∃ s, r = .string s) ∧ Ext H H') := by
  obtain ⟨n, hn⟩ : ∃ n : Nat, n = x.natAbs := ⟨_, rfl⟩
  have hu : IntKind.u64.wrap (IntKind.u64.wrap (-(x + 1)) + 1) = (n : Int) := by rw [IntWalk.u64_in (-(x + 1)) (by omega), IntWalk.u64_in _ (by omega)]; omega
  refine Ret.of_at (N := 37) Tryd.call20 Tryd.func20 rfl rfl rfl ?_
  have hE := Ext.refl H
  refine At.region rfl rfl ?_
  refine Reg.pur rfl rfl rfl rfl (Pur.asg rfl) ?_
  refine Reg.nil ?_
  refine At.region rfl rfl ?_
  refine Reg.pur rfl rfl rfl rfl (Pur.mv rfl) ?_
  refine Reg.pur rfl rfl rfl rfl (Pur.cnv Tryd.underlying3 Tryd.underlying68 rfl) ?_
  refine Reg.pur rfl rfl rfl rfl (Pur.asg rfl) ?_
  refine Reg.nil ?_
  refine At.region rfl rfl ?_
  refine Reg.pur rfl rfl rfl rfl (Pur.mv rfl) ?_
  refine Reg.pur rfl rfl rfl rfl (Pur.lss rfl rfl) ?_
  refine Reg.nil ?_
  refine At.condT rfl rfl (decide_eq_true (by omega)) ?_
  refine At.region rfl rfl ?_
  refine Reg.pur rfl rfl rfl rfl (Pur.mv rfl) ?_
  refine Reg.pur rfl rfl rfl rfl (Pur.add64 rfl rfl (by omega)) ?_
  refine Reg.pur rfl rfl rfl rfl (Pur.neg64 rfl (by omega)) ?_
  refine Reg.pur rfl rfl rfl rfl (Pur.cnv Tryd.underlying3 Tryd.underlying68 rfl) ?_
  refine Reg.pur rfl rfl rfl rfl (Pur.add rfl rfl) ?_
  refine Reg.pur rfl rfl rfl rfl (Pur.asg rfl) ?_
  refine Reg.nil ?_
  refine At.region rfl rfl ?_
  refine Reg.pur rfl rfl rfl rfl (Pur.asg rfl) ?_
  refine Reg.nil ?_
  refine At.loop (σ := Nat × Nat × List Int × Option Addr × Nat) (fun (f, m, l, A, cap) => [(3, .int .u64 m), (4, .slice A l.length cap), (0, I x)]) (fun (f, m, l, A, cap) H' => m < 10 ^ f ∧ m < 18446744073709551616 ∧ (l.length = 0 → 0 < f) ∧ l.length ≤ 20 ∧ f + l.length ≤ 20 ∧ decG (f + 1) m l = d20 n ∧ SlT H' eb 1 (.slice A l.length cap) l ∧ Ext H H') (fun (f, m, l, A, cap) => f) (19, n, [], none, 0) rfl ⟨by (show some (Value.int .u64 (IntKind.u64.wrap (IntKind.u64.wrap (-(x + 1)) + 1))) = _); rw [hu], rfl, rfl, trivial⟩ ⟨by omega, by omega, fun _ => by decide, by simp, by simp, rfl, sl_nil H, hE⟩ ?_
  rintro ⟨f, m, l, A, cap⟩ H1 ⟨hmf, hm, h0, hl, hfl, hgo, hS, hE1⟩ ih
  dsimp only at hmf hm h0 hl hfl hgo hS ih
  replace hE := hE1
  clear hE1
  have zE := hE.1
  refine At.region rfl rfl ?_
  refine Reg.pur rfl rfl rfl rfl (Pur.mv rfl) ?_
  refine Reg.pur rfl rfl rfl rfl (Pur.gtr rfl rfl) ?_
  refine Reg.pur rfl rfl rfl rfl (Pur.mv rfl) ?_
  refine Reg.case 16 rfl (fun q16 => ?_) (fun q16 => ?_)
  · first | (simp only [decide_eq_true_eq, decide_eq_false_iff_not, Bool.not_eq_true', Bool.not_eq_false', ne_eq, Decidable.not_not, Bool.not_eq_true, Bool.not_eq_false] at q16) | (dsimp only at q16) | skip
    refine Reg.skip rfl rfl rfl rfl rfl rfl rfl ?_
    refine Reg.skip rfl rfl rfl rfl rfl rfl rfl ?_
    refine Reg.skip rfl rfl rfl rfl rfl rfl rfl ?_
    refine Reg.pur rfl rfl rfl rfl (Pur.pickT rfl rfl) ?_
    refine Reg.nil ?_
    refine At.condT rfl rfl rfl ?_
    refine At.region rfl rfl ?_
    refine Reg.pur rfl rfl rfl rfl (Pur.mv rfl) ?_
    first | refine Reg.pur rfl rfl rfl rfl (Pur.rem rfl rfl (by omega)) ?_ | refine Reg.pur rfl rfl rfl rfl (Pur.rem rfl rfl (by decide)) ?_
    refine Reg.pur rfl rfl rfl rfl (Pur.add rfl rfl) ?_
    refine Reg.pur rfl rfl rfl rfl (Pur.cnv Tryd.underlying68 Tryd.underlying5 rfl) ?_
    refine Reg.op rfl rfl rfl rfl (Does.bsl1T sl1_69 Tryd.underlying69 rfl rfl rfl rfl rfl) ?_
    rintro _ H6_4 ⟨rfl, hp6_4⟩
    have hn6_4 := New.of_eq hp6_4
    have z6_4 := hn6_4.size
    replace hE := hE.ext hn6_4.ext
    have o6_4 := hn6_4.own
    rw [dig_eq m (by omega)] at hp6_4
    have hg : Gs H6_4 H1.size 5 1 (some ⟨H1.size, 0, none⟩) 1 [((48 + m % 10 : Nat) : Int)].length ([((48 + m % 10 : Nat) : Int)].flatMap eb) := by rw [hp6_4]; exact OwnS.new (xs := [_]) (n := 1) rfl (by decide) (Nat.le_refl _)
    refine Reg.pur rfl rfl rfl rfl (Pur.mv rfl) ?_

    have z_hg := hg.lt
    refine Reg.op rfl rfl rfl rfl (Does.appL apt69 rfl rfl (by decide) hg (wideb _) (hS.ext hn6_4.ext) (ones_eb _) (by simp; omega) (by omega)) ?_
    rintro _ H6_6 ⟨A6_6, cap6_6, rfl, g6_6, hbut6_6, ha6_6⟩
    have z6_6 := hbut6_6.lt
    replace hE := hE.via hbut6_6 (by first | omega | (intro g; omega) | (intro g hg; omega) | (intro g hg h; omega))
    replace hg := g6_6
    have zg6_6 := g6_6.lt
    refine Reg.pur rfl rfl rfl rfl (Pur.asg rfl) ?_
    refine Reg.nil ?_
    refine At.region rfl rfl ?_
    refine Reg.pur rfl rfl rfl rfl (Pur.mv rfl) ?_
    first | refine Reg.pur rfl rfl rfl rfl (Pur.quo rfl rfl (by omega)) ?_ | refine Reg.pur rfl rfl rfl rfl (Pur.quo rfl rfl (by decide)) ?_
    refine Reg.pur rfl rfl rfl rfl (Pur.asg rfl) ?_
    refine Reg.nil ?_
    rw [decG_go (by omega)] at hgo
    have hf : 0 < f := Nat.pos_of_ne_zero (fun h0' => by (subst h0'; have hm1 : m < 1 := hmf; omega))
    obtain ⟨f', rfl⟩ : ∃ f', f = f' + 1 := ⟨f - 1, by omega⟩
    have hst := ih (f', m / 10, ((48 + m % 10 : Nat) : Int) :: l, A6_6, cap6_6) _ ⟨pow_step hmf, (show m / 10 < 18446744073709551616 by omega), fun h => by simp at h, by simp; omega, by simp; omega, hgo, own_sl (wideb _) (by decide) hg, hE⟩ (Nat.lt_succ_self f')
    exact At.meets rfl hst ⟨by (show some (Value.int .u64 (IntKind.u64.wrap ((m : Int).tdiv 10))) = _); rw [quo_eq m (by omega)], rfl, rfl, trivial⟩
  first | (simp only [decide_eq_true_eq, decide_eq_false_iff_not, Bool.not_eq_true', Bool.not_eq_false', ne_eq, Decidable.not_not, Bool.not_eq_true, Bool.not_eq_false] at q16) | (dsimp only at q16) | skip
  refine Reg.gpur rfl rfl rfl rfl rfl rfl (Pur.mv rfl) ?_
  refine Reg.gpur rfl rfl rfl rfl rfl rfl (Pur.lenS isl69 rfl) ?_
  refine Reg.gpur rfl rfl rfl rfl rfl rfl (Pur.eql rfl rfl) ?_
  refine Reg.pur rfl rfl rfl rfl (Pur.pickF rfl rfl) ?_
  refine Reg.nil ?_
  refine At.cond rfl rfl (fun q20 => ?_) (fun q20 => ?_)
  · first | (simp only [decide_eq_true_eq, decide_eq_false_iff_not, Bool.not_eq_true', Bool.not_eq_false', ne_eq, Decidable.not_not, Bool.not_eq_true, Bool.not_eq_false] at q20) | (dsimp only at q20) | skip
    refine At.region rfl rfl ?_
    refine Reg.pur rfl rfl rfl rfl (Pur.mv rfl) ?_
    first | refine Reg.pur rfl rfl rfl rfl (Pur.rem rfl rfl (by omega)) ?_ | refine Reg.pur rfl rfl rfl rfl (Pur.rem rfl rfl (by decide)) ?_
    refine Reg.pur rfl rfl rfl rfl (Pur.add rfl rfl) ?_
    refine Reg.pur rfl rfl rfl rfl (Pur.cnv Tryd.underlying68 Tryd.underlying5 rfl) ?_
    refine Reg.op rfl rfl rfl rfl (Does.bsl1T sl1_69 Tryd.underlying69 rfl rfl rfl rfl rfl) ?_
    rintro _ H6_4 ⟨rfl, hp6_4⟩
    have hn6_4 := New.of_eq hp6_4
    have z6_4 := hn6_4.size
    replace hE := hE.ext hn6_4.ext
    have o6_4 := hn6_4.own
    rw [dig_eq m (by omega)] at hp6_4
    have hg : Gs H6_4 H1.size 5 1 (some ⟨H1.size, 0, none⟩) 1 [((48 + m % 10 : Nat) : Int)].length ([((48 + m % 10 : Nat) : Int)].flatMap eb) := by rw [hp6_4]; exact OwnS.new (xs := [_]) (n := 1) rfl (by decide) (Nat.le_refl _)
    refine Reg.pur rfl rfl rfl rfl (Pur.mv rfl) ?_

    have z_hg := hg.lt
    refine Reg.op rfl rfl rfl rfl (Does.appL apt69 rfl rfl (by decide) hg (wideb _) (hS.ext hn6_4.ext) (ones_eb _) (by simp; omega) (by omega)) ?_
    rintro _ H6_6 ⟨A6_6, cap6_6, rfl, g6_6, hbut6_6, ha6_6⟩
    have z6_6 := hbut6_6.lt
    replace hE := hE.via hbut6_6 (by first | omega | (intro g; omega) | (intro g hg; omega) | (intro g hg h; omega))
    replace hg := g6_6
    have zg6_6 := g6_6.lt
    refine Reg.pur rfl rfl rfl rfl (Pur.asg rfl) ?_
    refine Reg.nil ?_
    refine At.region rfl rfl ?_
    refine Reg.pur rfl rfl rfl rfl (Pur.mv rfl) ?_
    first | refine Reg.pur rfl rfl rfl rfl (Pur.quo rfl rfl (by omega)) ?_ | refine Reg.pur rfl rfl rfl rfl (Pur.quo rfl rfl (by decide)) ?_
    refine Reg.pur rfl rfl rfl rfl (Pur.asg rfl) ?_
    refine Reg.nil ?_
    rw [decG_go (by omega)] at hgo
    have hf : 0 < f := Nat.pos_of_ne_zero (fun h0' => by (subst h0'; have hm1 : m < 1 := hmf; omega))
    obtain ⟨f', rfl⟩ : ∃ f', f = f' + 1 := ⟨f - 1, by omega⟩
    have hst := ih (f', m / 10, ((48 + m % 10 : Nat) : Int) :: l, A6_6, cap6_6) _ ⟨pow_step hmf, (show m / 10 < 18446744073709551616 by omega), fun h => by simp at h, by simp; omega, by simp; omega, hgo, own_sl (wideb _) (by decide) hg, hE⟩ (Nat.lt_succ_self f')
    exact At.meets rfl hst ⟨by (show some (Value.int .u64 (IntKind.u64.wrap ((m : Int).tdiv 10))) = _); rw [quo_eq m (by omega)], rfl, rfl, trivial⟩
  first | (simp only [decide_eq_true_eq, decide_eq_false_iff_not, Bool.not_eq_true', Bool.not_eq_false', ne_eq, Decidable.not_not, Bool.not_eq_true, Bool.not_eq_false] at q20) | (dsimp only at q20) | skip
  refine At.region rfl rfl ?_
  refine Reg.pur rfl rfl rfl rfl (Pur.mv rfl) ?_
  refine Reg.pur rfl rfl rfl rfl (Pur.lss rfl rfl) ?_
  refine Reg.nil ?_
  refine At.condT rfl rfl (decide_eq_true (by omega)) ?_
  refine At.region rfl rfl ?_
  refine Reg.op rfl rfl rfl rfl (Does.bsl1T sl1_69 Tryd.underlying69 rfl rfl rfl rfl rfl) ?_
  rintro _ H9_0 ⟨rfl, hp9_0⟩
  have hn9_0 := New.of_eq hp9_0
  have z9_0 := hn9_0.size
  replace hE := hE.ext hn9_0.ext
  have o9_0 := hn9_0.own
  have hg : Gs H9_0 H1.size 5 1 (some ⟨H1.size, 0, none⟩) 1 [(45 : Int)].length ([(45 : Int)].flatMap eb) := by rw [hp9_0]; exact OwnS.new (xs := [_]) (n := 1) rfl (by decide) (Nat.le_refl _)
  refine Reg.pur rfl rfl rfl rfl (Pur.mv rfl) ?_

  have z_hg := hg.lt
  refine Reg.op rfl rfl rfl rfl (Does.appL apt69 rfl rfl (by decide) hg (wideb _) (hS.ext hn9_0.ext) (ones_eb _) (by simp; omega) (by omega)) ?_
  rintro _ H9_2 ⟨A9_2, cap9_2, rfl, g9_2, hbut9_2, ha9_2⟩
  have z9_2 := hbut9_2.lt
  replace hE := hE.via hbut9_2 (by first | omega | (intro g; omega) | (intro g hg; omega) | (intro g hg h; omega))
  replace hg := g9_2
  have zg9_2 := g9_2.lt
  refine Reg.pur rfl rfl rfl rfl (Pur.asg rfl) ?_
  refine Reg.nil ?_
  refine At.region rfl rfl ?_
  refine Reg.pur rfl rfl rfl rfl (Pur.mv rfl) ?_
  refine Reg.lod rfl rfl rfl rfl (Lod.bstr (l := (45 : Int) :: l) Tryd.underlying69 Tryd.underlying5 Tryd.underlying9 rfl (own_sl (wideb _) (by decide) hg)) ?_
  refine Reg.pur rfl rfl rfl rfl (Pur.asg rfl) ?_
  refine Reg.nil ?_
  refine At.ret rfl Tryd.func20 rfl ?_
  exact ⟨⟨_, rfl⟩, hE⟩
end Go.Proofs.YtjhkmebmbopfoaaDoor
