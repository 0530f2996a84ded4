/-
  Parts of the proof, 3.
-/
import Derived.Laws.BytesString
import Derived.Shelf.Strings.Builder1
import Derived.Shelf.Strings.Builder2
import Derived.Shelf.Strings.OnBuilder
import Derived.Shelf.Strconv.Itoa0
import Derived.Shelf.Strconv.Itoa1
import Derived.Shelf.LaysM
import Derived.Shelf.Strconv.Itoa2
import Derived.Shelf.Strconv.Itoa3
import Derived.Test.YtlfillhffpiffaaDoorProg
import Derived.Lib.LaidU8
import Derived.Shelf.SlGeneric
import Derived.Shelf.Spec.SlicesGrow
import Derived.Test.YtlfillhffpiffaaDoorRows
import Derived.Test.YtlfillhffpiffaaDoorCards
import Derived.Test.YtlfillhffpiffaaDoorTie
import Derived.ProofKit
import Derived.ChangeSame
import Derived.ChangeVars
import Derived.JoinedOf
import Derived.LaidLaws
import Derived.Handed
import Derived.SevenTiedAt
import Derived.SizedLaws
import Derived.Test.YtlfillhffpiffaaDoorT2
namespace Go.Proofs.YtlfillhffpiffaaDoor
set_option linter.unusedSimpArgs false
set_option linter.unusedVariables false
set_option maxRecDepth 8000
open Go Go.Fx Go.Proofs
namespace FactsUniSA
theorem apt94 : appT Tryd.prog 94 = some (5, 1, 1) := by kernel_rfl
theorem isl94 : isSl Tryd.prog 94 = true := by kernel_rfl
theorem sl1_94 : Go.Fx.sl1 Tryd.prog 94 = true := by kernel_rfl
end FactsUniSA
open FactsUniSA

abbrev eb (x : Int) : List Value := [.int .u8 x]
theorem wideb (L : List Int) : Wide eb 1 L := fun _ _ => rfl
theorem flat_eb : ∀ L : List Int, L.flatMap eb = L.map (Value.int .u8)
  | [] => rfl
  | x :: L => by rw [List.flatMap_cons, flat_eb L]; rfl
theorem ones_eb (L : List Int) : ones (L.flatMap eb) = true := by
  simp only [ones, List.all_eq_true, List.mem_flatMap]
  rintro v ⟨x, _, hv⟩
  simp only [List.mem_singleton] at hv
  subst hv; rfl
def bstr (l : List Int) : ByteArray := l.foldl (fun r n => r.push (UInt8.ofNat n.toNat)) ByteArray.empty
theorem push_size : ∀ (l : List Int) (s : ByteArray), (l.foldl (fun r n => r.push (UInt8.ofNat n.toNat)) s).size = s.size + l.length
  | [], _ => rfl
  | x :: l, s => by
    rw [List.foldl_cons, push_size l, ByteArray.size_push, List.length_cons]; omega
theorem bstr_size (l : List Int) : (bstr l).size = l.length := by
  unfold bstr; rw [push_size]; simp
section rules
variable {P : Program} {dst : Option Tmp} {ty : TypeId} {pos : String} {aft : Array Edge} {gd : Option (Nat × Bool)} {e : Env} {H : Heap}
theorem Pur.addS {t t' : TypeId} {x y : Operand} {a b : ByteArray} (hx : ev e x = some (.string a)) (hy : ev e y = some (.string b)) (h : a.size + b.size ≤ 9223372036854775807) :
    Pur P ⟨dst, .binOp .add t x y t', ty, pos, aft, gd⟩ e (.string (a ++ b)) := by
  intro A w hA
  have e1 := hA.ev hx
  have e2 := hA.ev hy
  have hn : ¬ ((a.size + b.size : Nat) : Int) > IntKind.i64.max := by rw [show IntKind.i64.max = 9223372036854775807 from rfl]; omega
  simp only [execOp, e1, e2, eqGuard_at_string, Sem.run_bind, Sem.run_pure, Result.andThen_ok]
  simp only [binOp, Op.stringOp]
  rw [if_neg hn]
  simp
theorem Lod.bstr {src t el : TypeId} {x : Operand} {A : Option Addr} {cap : Nat} {l : List Int} (hs : P.underlying src = some (.slice el)) (he : P.underlying el = some (.int .u8)) (hd : P.underlying t = some .string)
    (hx : ev e x = some (.slice A l.length cap)) (hS : SlT H eb 1 (.slice A l.length cap) l) : Lod P ⟨dst, .convert src t x, ty, pos, aft, gd⟩ e H (.string (bstr l)) := by
  intro a w hw hA
  have e1 := hA.ev hx
  have hr : (Conv.bytesToString (.slice A l.length cap)).run P w = .ok (.string (Proofs.YtlfillhffpiffaaDoor.bstr l)) w := by
    obtain ⟨_, A', cap', hv, _, h3⟩ := sl_src (wideb l) hS
    simp only [Value.slice.injEq, true_and] at hv
    obtain ⟨rfl, rfl⟩ := hv
    rcases h3 with h0 | ⟨b, o, c, rfl, hb, hc⟩
    · obtain rfl : l = [] := List.eq_nil_of_length_eq_zero h0
      cases A with
      | none => simp [Conv.bytesToString]; try rfl
      | some ad => exact run_bytesToString w ad 0 cap [] (by simp [loadCells, loadCellsFrom])
    · refine run_bytesToString w _ l.length cap l ?_
      rw [Nat.mul_one] at hc
      rw [loadCells_run hb hc (by rw [flat_eb]; simp) hw, flat_eb]
  simp only [execOp, e1]
  rw [Sem.run_bind, run_convert_bytes_string w src t el _ _ _ hs he hd, hr]
  simp
end rules

def decG : Nat → Nat → List Int → List Int
  | 0, _, l => l
  | f + 1, n, l => if n = 0 ∧ l.length ≠ 0 then l else decG f (n / 10) (((48 + n % 10 : Nat) : Int) :: l)
def decI (n : Nat) : List Int := decG 8 n []
theorem decG_len : ∀ (f n : Nat) (l : List Int), (decG f n l).length ≤ f + l.length
  | 0, n, l => by simp [decG]
  | f + 1, n, l => by
    unfold decG; split
    · omega
    · have := decG_len f (n / 10) (((48 + n % 10 : Nat) : Int) :: l)
      rw [List.length_cons] at this; omega
def dec (n : Nat) : ByteArray := bstr (decI n)
theorem dec_size (n : Nat) : (dec n).size ≤ 8 := by
  unfold dec; rw [bstr_size]; exact decG_len 8 n []
theorem dig_eq (n : Nat) (h : n < 100000000) : IntKind.u8.wrap (IntKind.u64.wrap (48 + (n : Int).tmod 10)) = ((48 + n % 10 : Nat) : Int) := by
  have : (n : Int).tmod 10 = ((n % 10 : Nat) : Int) := by rw [Int.tmod_eq_emod_of_nonneg (by omega)]; omega
  rw [this, IntWalk.u64_in _ (by omega), IntWalk.u8_in _ (by omega)]; omega
theorem quo_eq (n : Nat) (h : n < 100000000) : IntKind.u64.wrap ((n : Int).tdiv 10) = ((n / 10 : Nat) : Int) := by
  have : (n : Int).tdiv 10 = ((n / 10 : Nat) : Int) := by rw [Int.tdiv_eq_ediv_of_nonneg (by omega)]; omega
  rw [this, IntWalk.u64_in _ (by omega)]
theorem decG_go {f n : Nat} {l : List Int} (h : 0 < n ∨ l.length = 0) : decG (f + 1) n l = decG f (n / 10) (((48 + n % 10 : Nat) : Int) :: l) := by
  show (if _ then _ else _) = _
  rw [if_neg (by omega)]
theorem decG_end {f : Nat} {l : List Int} (h : l.length ≠ 0) : decG (f + 1) 0 l = l := by
  show (if _ then _ else _) = _
  rw [if_pos ⟨rfl, h⟩]
theorem pow_step {f n : Nat} (hf : n < 10 ^ (f + 1)) : n / 10 < 10 ^ f := by
  rw [Nat.pow_succ] at hf; omega
theorem decimal_ok (n : Nat) (h : n < 10000000) (H : Heap) :
    Ret Tryd.prog 31 [I n] H (fun r H' => r = .string (dec n) ∧ Ext H H') := by
  have hu : IntKind.u64.wrap (n : Int) = (n : Int) := IntWalk.u64_in _ (by omega)
  refine Ret.of_at (N := 37) Tryd.call31 Tryd.func31 rfl rfl rfl ?_
  have hE := Ext.refl H
  refine At.region rfl rfl ?_
  refine Reg.pur rfl rfl rfl rfl (Pur.asg rfl) ?_
  refine Reg.nil ?_
  refine At.region rfl rfl ?_
  refine Reg.pur rfl rfl rfl rfl (Pur.mv rfl) ?_
  refine Reg.pur rfl rfl rfl rfl (Pur.cnv Tryd.underlying3 Tryd.underlying93 rfl) ?_
  refine Reg.pur rfl rfl rfl rfl (Pur.asg rfl) ?_
  refine Reg.nil ?_
  refine At.region rfl rfl ?_
  refine Reg.pur rfl rfl rfl rfl (Pur.mv rfl) ?_
  refine Reg.pur rfl rfl rfl rfl (Pur.lss rfl rfl) ?_
  refine Reg.nil ?_
  refine At.condF rfl rfl (decide_eq_false (by omega)) ?_
  refine At.region rfl rfl ?_
  refine Reg.pur rfl rfl rfl rfl (Pur.asg rfl) ?_
  refine Reg.nil ?_
  refine At.loop (σ := Nat × Nat × List Int × Option Addr × Nat) (fun (f, m, l, A, cap) => [(3, .int .u64 m), (4, .slice A l.length cap), (0, I n)]) (fun (f, m, l, A, cap) H' => m < 10 ^ f ∧ m < 10000000 ∧ (l.length = 0 → 0 < f) ∧ l.length ≤ 8 ∧ f + l.length ≤ 8 ∧ decG (f + 1) m l = decI n ∧ SlT H' eb 1 (.slice A l.length cap) l ∧ Ext H H') (fun (f, m, l, A, cap) => f) (7, n, [], none, 0) rfl ⟨by (show some (Value.int .u64 (IntKind.u64.wrap ↑n)) = _); rw [hu], rfl, rfl, trivial⟩ ⟨h, h, fun _ => by decide, by simp, by simp, rfl, sl_nil H, hE⟩ ?_
  rintro ⟨f, m, l, A, cap⟩ H1 ⟨hmf, hm, h0, hl, hfl, hgo, hS, hE1⟩ ih
  dsimp only at hmf hm h0 hl hfl hgo hS ih
  replace hE := hE1
  clear hE1
  have zE := hE.1
  refine At.region rfl rfl ?_
  refine Reg.pur rfl rfl rfl rfl (Pur.mv rfl) ?_
  refine Reg.pur rfl rfl rfl rfl (Pur.gtr rfl rfl) ?_
  refine Reg.pur rfl rfl rfl rfl (Pur.mv rfl) ?_
  refine Reg.case 16 rfl (fun q16 => ?_) (fun q16 => ?_)
  · first | (simp only [decide_eq_true_eq, decide_eq_false_iff_not, Bool.not_eq_true', Bool.not_eq_false', ne_eq, Decidable.not_not, Bool.not_eq_true, Bool.not_eq_false] at q16) | (dsimp only at q16) | skip
    refine Reg.skip rfl rfl rfl rfl rfl rfl rfl ?_
    refine Reg.skip rfl rfl rfl rfl rfl rfl rfl ?_
    refine Reg.skip rfl rfl rfl rfl rfl rfl rfl ?_
    refine Reg.pur rfl rfl rfl rfl (Pur.pickT rfl rfl) ?_
    refine Reg.nil ?_
    refine At.condT rfl rfl rfl ?_
    refine At.region rfl rfl ?_
    refine Reg.pur rfl rfl rfl rfl (Pur.mv rfl) ?_
    first | refine Reg.pur rfl rfl rfl rfl (Pur.rem rfl rfl (by omega)) ?_ | refine Reg.pur rfl rfl rfl rfl (Pur.rem rfl rfl (by decide)) ?_
    refine Reg.pur rfl rfl rfl rfl (Pur.add rfl rfl) ?_
    refine Reg.pur rfl rfl rfl rfl (Pur.cnv Tryd.underlying93 Tryd.underlying5 rfl) ?_
    refine Reg.op rfl rfl rfl rfl (Does.bsl1T sl1_94 Tryd.underlying94 rfl rfl rfl rfl rfl) ?_
    rintro _ H6_4 ⟨rfl, hp6_4⟩
    have hn6_4 := New.of_eq hp6_4
    have z6_4 := hn6_4.size
    replace hE := hE.ext hn6_4.ext
    have o6_4 := hn6_4.own
    rw [dig_eq m (by omega)] at hp6_4
    have hg : Gs H6_4 H1.size 5 1 (some ⟨H1.size, 0, none⟩) 1 [((48 + m % 10 : Nat) : Int)].length ([((48 + m % 10 : Nat) : Int)].flatMap eb) := by rw [hp6_4]; exact OwnS.new (xs := [_]) (n := 1) rfl (by decide) (Nat.le_refl _)
    refine Reg.pur rfl rfl rfl rfl (Pur.mv rfl) ?_

    have z_hg := hg.lt
    refine Reg.op rfl rfl rfl rfl (Does.appL apt94 rfl rfl (by decide) hg (wideb _) (hS.ext hn6_4.ext) (ones_eb _) (by simp; omega) (by omega)) ?_
    rintro _ H6_6 ⟨A6_6, cap6_6, rfl, g6_6, hbut6_6, ha6_6⟩
    have z6_6 := hbut6_6.lt
    replace hE := hE.via hbut6_6 (by first | omega | (intro g; omega) | (intro g hg; omega) | (intro g hg h; omega))
    replace hg := g6_6
    have zg6_6 := g6_6.lt
    refine Reg.pur rfl rfl rfl rfl (Pur.asg rfl) ?_
    refine Reg.nil ?_
    refine At.region rfl rfl ?_
    refine Reg.pur rfl rfl rfl rfl (Pur.mv rfl) ?_
    first | refine Reg.pur rfl rfl rfl rfl (Pur.quo rfl rfl (by omega)) ?_ | refine Reg.pur rfl rfl rfl rfl (Pur.quo rfl rfl (by decide)) ?_
    refine Reg.pur rfl rfl rfl rfl (Pur.asg rfl) ?_
    refine Reg.nil ?_
    rw [decG_go (by omega)] at hgo
    have hf : 0 < f := Nat.pos_of_ne_zero (fun h0' => by (subst h0'; have hm1 : m < 1 := hmf; omega))
    obtain ⟨f', rfl⟩ : ∃ f', f = f' + 1 := ⟨f - 1, by omega⟩
    have hst := ih (f', m / 10, ((48 + m % 10 : Nat) : Int) :: l, A6_6, cap6_6) _ ⟨pow_step hmf, (show m / 10 < 10000000 by omega), fun h => by simp at h, by simp; omega, by simp; omega, hgo, own_sl (wideb _) (by decide) hg, hE⟩ (Nat.lt_succ_self f')
    exact At.meets rfl hst ⟨by (show some (Value.int .u64 (IntKind.u64.wrap ((m : Int).tdiv 10))) = _); rw [quo_eq m (by omega)], rfl, rfl, trivial⟩
  first | (simp only [decide_eq_true_eq, decide_eq_false_iff_not, Bool.not_eq_true', Bool.not_eq_false', ne_eq, Decidable.not_not, Bool.not_eq_true, Bool.not_eq_false] at q16) | (dsimp only at q16) | skip
  refine Reg.gpur rfl rfl rfl rfl rfl rfl (Pur.mv rfl) ?_
  refine Reg.gpur rfl rfl rfl rfl rfl rfl (Pur.lenS isl94 rfl) ?_
  refine Reg.gpur rfl rfl rfl rfl rfl rfl (Pur.eql rfl rfl) ?_
  refine Reg.pur rfl rfl rfl rfl (Pur.pickF rfl rfl) ?_
  refine Reg.nil ?_
  refine At.cond rfl rfl (fun q20 => ?_) (fun q20 => ?_)
  · first | (simp only [decide_eq_true_eq, decide_eq_false_iff_not, Bool.not_eq_true', Bool.not_eq_false', ne_eq, Decidable.not_not, Bool.not_eq_true, Bool.not_eq_false] at q20) | (dsimp only at q20) | skip
    refine At.region rfl rfl ?_
    refine Reg.pur rfl rfl rfl rfl (Pur.mv rfl) ?_
    first | refine Reg.pur rfl rfl rfl rfl (Pur.rem rfl rfl (by omega)) ?_ | refine Reg.pur rfl rfl rfl rfl (Pur.rem rfl rfl (by decide)) ?_
    refine Reg.pur rfl rfl rfl rfl (Pur.add rfl rfl) ?_
    refine Reg.pur rfl rfl rfl rfl (Pur.cnv Tryd.underlying93 Tryd.underlying5 rfl) ?_
    refine Reg.op rfl rfl rfl rfl (Does.bsl1T sl1_94 Tryd.underlying94 rfl rfl rfl rfl rfl) ?_
    rintro _ H6_4 ⟨rfl, hp6_4⟩
    have hn6_4 := New.of_eq hp6_4
    have z6_4 := hn6_4.size
    replace hE := hE.ext hn6_4.ext
    have o6_4 := hn6_4.own
    rw [dig_eq m (by omega)] at hp6_4
    have hg : Gs H6_4 H1.size 5 1 (some ⟨H1.size, 0, none⟩) 1 [((48 + m % 10 : Nat) : Int)].length ([((48 + m % 10 : Nat) : Int)].flatMap eb) := by rw [hp6_4]; exact OwnS.new (xs := [_]) (n := 1) rfl (by decide) (Nat.le_refl _)
    refine Reg.pur rfl rfl rfl rfl (Pur.mv rfl) ?_

    have z_hg := hg.lt
    refine Reg.op rfl rfl rfl rfl (Does.appL apt94 rfl rfl (by decide) hg (wideb _) (hS.ext hn6_4.ext) (ones_eb _) (by simp; omega) (by omega)) ?_
    rintro _ H6_6 ⟨A6_6, cap6_6, rfl, g6_6, hbut6_6, ha6_6⟩
    have z6_6 := hbut6_6.lt
    replace hE := hE.via hbut6_6 (by first | omega | (intro g; omega) | (intro g hg; omega) | (intro g hg h; omega))
    replace hg := g6_6
    have zg6_6 := g6_6.lt
    refine Reg.pur rfl rfl rfl rfl (Pur.asg rfl) ?_
    refine Reg.nil ?_
    refine At.region rfl rfl ?_
    refine Reg.pur rfl rfl rfl rfl (Pur.mv rfl) ?_
    first | refine Reg.pur rfl rfl rfl rfl (Pur.quo rfl rfl (by omega)) ?_ | refine Reg.pur rfl rfl rfl rfl (Pur.quo rfl rfl (by decide)) ?_
    refine Reg.pur rfl rfl rfl rfl (Pur.asg rfl) ?_
    refine Reg.nil ?_
    rw [decG_go (by omega)] at hgo
    have hf : 0 < f := Nat.pos_of_ne_zero (fun h0' => by (subst h0'; have hm1 : m < 1 := hmf; omega))
    obtain ⟨f', rfl⟩ : ∃ f', f = f' + 1 := ⟨f - 1, by omega⟩
    have hst := ih (f', m / 10, ((48 + m % 10 : Nat) : Int) :: l, A6_6, cap6_6) _ ⟨pow_step hmf, (show m / 10 < 10000000 by omega), fun h => by simp at h, by simp; omega, by simp; omega, hgo, own_sl (wideb _) (by decide) hg, hE⟩ (Nat.lt_succ_self f')
    exact At.meets rfl hst ⟨by (show some (Value.int .u64 (IntKind.u64.wrap ((m : Int).tdiv 10))) = _); rw [quo_eq m (by omega)], rfl, rfl, trivial⟩
  first | (simp only [decide_eq_true_eq, decide_eq_false_iff_not, Bool.not_eq_true', Bool.not_eq_false', ne_eq, Decidable.not_not, Bool.not_eq_true, Bool.not_eq_false] at q20) | (dsimp only at q20) | skip
  refine At.region rfl rfl ?_
  refine Reg.pur rfl rfl rfl rfl (Pur.mv rfl) ?_
  refine Reg.pur rfl rfl rfl rfl (Pur.lss rfl rfl) ?_
  refine Reg.nil ?_
  refine At.condF rfl rfl (decide_eq_false (by omega)) ?_
  refine At.region rfl rfl ?_
  refine Reg.pur rfl rfl rfl rfl (Pur.mv rfl) ?_
  refine Reg.lod rfl rfl rfl rfl (Lod.bstr Tryd.underlying94 Tryd.underlying5 Tryd.underlying9 rfl hS) ?_
  refine Reg.pur rfl rfl rfl rfl (Pur.asg rfl) ?_
  refine Reg.nil ?_
  refine At.ret rfl Tryd.func31 rfl ?_
  obtain rfl : m = 0 := by omega
  rw [decG_end (by omega)] at hgo
  exact ⟨by rw [hgo]; rfl, hE⟩
end Go.Proofs.YtlfillhffpiffaaDoor

namespace Go.Proofs.YtlfillhffpiffaaDoor
set_option linter.unusedSimpArgs false
set_option linter.unusedVariables false
set_option maxRecDepth 8000
open Go Go.Fx Go.Proofs
namespace FactsUniSB
theorem arr22 : arr Tryd.prog 22 = some (4, 1) := by kernel_rfl
theorem fo24_0 : foff Tryd.prog 24 0 = some 0 := by kernel_rfl
theorem fo24_1 : foff Tryd.prog 24 1 = some 4 := by kernel_rfl
theorem sc3 : sc Tryd.prog 3 = true := by kernel_rfl
end FactsUniSB
open FactsUniSB

def rone (i : Nat) (s : ByteArray) : ByteArray := (if (!(s.toList == (⟨#[]⟩ : ByteArray).toList)) = true then s ++ ⟨#[44]⟩ else s) ++ ⟨#[111]⟩ ++ dec i
def rrep (i : Nat) : Nat → ByteArray → ByteArray
  | 0, s => s
  | k + 1, s => rone i (rrep i k s)
def rall (r : List Int) : Nat → ByteArray
  | 0 => ⟨#[]⟩
  | i + 1 => rrep i (r.getD i 0).toNat (rall r i)
def rtx (R : List Int) (r : List Int) : ByteArray := ⟨#[60]⟩ ++ (if 0 ≤ r.getD 4 0 then rall r 4 ++ ⟨#[124, 101]⟩ ++ dec (ixL R (r.getD 4 0)) else rall r 4) ++ ⟨#[62]⟩
def rnm (R : List Int) (r : List Int) : List Int := if 0 ≤ r.getD 4 0 then addL R (r.getD 4 0) else R
theorem sz1 (a : UInt8) : (ByteArray.mk #[a]).size = 1 := rfl
theorem sz2 (a b : UInt8) : (ByteArray.mk #[a, b]).size = 2 := rfl
theorem rone_size (i : Nat) (s : ByteArray) : (rone i s).size ≤ s.size + 10 := by
  have := dec_size i
  unfold rone
  rw [ByteArray.size_append, ByteArray.size_append]
  split
  · rw [ByteArray.size_append, sz1, sz1]; omega
  · rw [sz1]; omega
theorem rrep_size (i : Nat) : ∀ (k : Nat) (s : ByteArray), (rrep i k s).size ≤ s.size + 10 * k
  | 0, s => by simp [rrep]
  | k + 1, s => by
    have h1 := rone_size i (rrep i k s)
    have h2 := rrep_size i k s
    unfold rrep; omega
theorem row_cnt {r : List Int} (h5 : r.length = 5) (h : rowM r = true) : ∀ i, i < 4 → 0 ≤ r.getD i 0 ∧ r.getD i 0 ≤ 32 := by
  intro i hi
  unfold rowM at h
  simp only [Bool.and_eq_true, List.all_eq_true] at h
  have := h.1 (r.getD i 0) (by rw [← take4_at h5 hi]; exact List.getElem_mem _)
  simpa [okc] using this
theorem rall_size {r : List Int} (h5 : r.length = 5) (h : rowM r = true) : ∀ i, i ≤ 4 → (rall r i).size ≤ 320 * i
  | 0, _ => Nat.le_refl 0
  | i + 1, hi => by
    have h1 := rrep_size i (r.getD i 0).toNat (rall r i)
    have h2 := rall_size h5 h i (by omega)
    have h3 := row_cnt h5 h i (by omega)
    unfold rall; omega
theorem rtx_size {R r : List Int} (h5 : r.length = 5) (h : rowM r = true) : (rtx R r).size ≤ 1300 := by
  have h1 := rall_size h5 h 4 (Nat.le_refl _)
  have h2 := dec_size (ixL R (r.getD 4 0))
  unfold rtx
  rw [ByteArray.size_append, ByteArray.size_append, sz1, sz1]
  split
  · rw [ByteArray.size_append, ByteArray.size_append, sz2]; omega
  · omega
theorem sza {a b : ByteArray} {m n : Nat} (h : a.size ≤ m) (k : b.size ≤ n) : (a ++ b).size ≤ m + n := by rw [ByteArray.size_append]; omega
theorem szs {a b : ByteArray} {m n : Nat} (h : a.size ≤ m) (k : b.size ≤ n) (hn : m + n ≤ 1000000000000) : a.size + b.size ≤ 9223372036854775807 := by omega
theorem sl1 (a : UInt8) : (ByteArray.mk #[a]).size ≤ 1 := Nat.le_refl _
theorem sl2 (a b : UInt8) : (ByteArray.mk #[a, b]).size ≤ 2 := Nat.le_refl _

theorem rowText_ok {nb B c1 c2 : Nat} {A1 A2 : Option Addr} {T R r : List Int} (h5 : r.length = 5) (hr : rowM r = true) {H : Heap} (hN : Nm H nb B A1 c1 T A2 c2 R) (hm : R.length ≤ 100000) :
    Ret Tryd.prog 57 [ptr nb 0, .agg (Is r).toArray] H (fun v H' => v = .string (rtx R r) ∧ ∃ A2' c2', Nm H' nb B A1 c1 T A2' c2' (rnm R r) ∧ Mod nb A1 A2 A1 A2' H H') := by
  have zN := hN.own.lt
  have hcnt := row_cnt h5 hr
  have hsz := rall_size h5 hr
  refine Ret.of_at (N := 43) Tryd.call57 Tryd.func57 rfl rfl rfl ?_
  have hE := Ext.refl H
  refine At.region rfl rfl ?_
  refine Reg.op rfl rfl rfl rfl (Does.box rfl rfl) ?_
  rintro _ H0_0 ⟨rfl, hn0_0⟩
  have z0_0 := hn0_0.size
  replace hE := hE.ext hn0_0.ext
  have o0_0 := hn0_0.own
  refine Reg.pur rfl rfl rfl rfl (Pur.asg rfl) ?_
  refine Reg.nil ?_
  refine At.region rfl rfl ?_
  refine Reg.pur rfl rfl rfl rfl (Pur.asg rfl) ?_
  refine Reg.nil ?_
  refine At.region rfl rfl ?_
  refine Reg.pur rfl rfl rfl rfl (Pur.asg rfl) ?_
  refine Reg.nil ?_
  refine At.loop (σ := Nat) (fun i => [(6, I i), (5, .string (rall r i)), (0, ptr nb 0), (3, ptr H.size 0)]) (fun i H' => i ≤ 4 ∧ Ext H H' ∧ Own H' H.size (Is r)) (fun i => 4 - i) 0 rfl ⟨rfl, rfl, rfl, rfl, trivial⟩ ⟨by omega, hE, o0_0⟩ ?_
  rintro i H1 ⟨hi, hE1, hX⟩ ih
  replace hE := hE1
  clear hE1
  replace o0_0 := hX
  clear hX
  have zE := hE.1
  refine At.region rfl rfl ?_
  refine Reg.pur rfl rfl rfl rfl (Pur.mv rfl) ?_
  refine Reg.pur rfl rfl rfl rfl (Pur.lss rfl rfl) ?_
  refine Reg.nil ?_
  refine At.cond rfl rfl (fun q9 => ?_) (fun q9 => ?_)
  · first | (simp only [decide_eq_true_eq, decide_eq_false_iff_not, Bool.not_eq_true', Bool.not_eq_false', ne_eq, Decidable.not_not, Bool.not_eq_true, Bool.not_eq_false] at q9) | (dsimp only at q9) | skip
    refine At.region rfl rfl ?_
    refine Reg.pur rfl rfl rfl rfl (Pur.asg rfl) ?_
    refine Reg.nil ?_
    have hlt : i < 4 := by omega
    have hc := hcnt i hlt
    have hs1 := hsz i (by omega)
    refine At.loop (σ := Nat) (fun k => [(7, I k), (6, I i), (5, .string (rrep i k (rall r i))), (0, ptr nb 0), (3, ptr H.size 0)]) (fun k H' => (k : Int) ≤ r.getD i 0 ∧ Ext H H' ∧ Own H' H.size (Is r)) (fun k => (r.getD i 0).toNat - k) 0 rfl ⟨rfl, rfl, rfl, rfl, rfl, trivial⟩ ⟨by omega, hE, o0_0⟩ ?_
    rintro k H2 ⟨hk, hE2, hX2⟩ ih2
    replace hE := hE2
    clear hE2
    replace o0_0 := hX2
    clear hX2
    have zE2 := hE.1
    have hai : (Is r)[0 + 0 + (i : Int).toNat * 1]? = some (I (r.getD i 0)) := by rw [show 0 + 0 + (i : Int).toNat * 1 = i from by omega]; exact at_Is (by omega)
    have hs2 := rrep_size i k (rall r i)
    refine At.region rfl rfl ?_
    refine Reg.pur rfl rfl rfl rfl (Pur.mv rfl) ?_
    refine Reg.pur rfl rfl rfl rfl (Pur.mv rfl) ?_
    refine Reg.pur rfl rfl rfl rfl (Pur.fld _ fo24_0 rfl) ?_
    refine Reg.pur rfl rfl rfl rfl (Pur.idxP arr22 rfl rfl (by omega) (by omega)) ?_
    refine Reg.lod rfl rfl rfl rfl (Lod.ld sc3 rfl o0_0.blk hai) ?_
    refine Reg.pur rfl rfl rfl rfl (Pur.lss rfl rfl) ?_
    refine Reg.nil ?_
    refine At.cond rfl rfl (fun q17 => ?_) (fun q17 => ?_)
    · first | (simp only [decide_eq_true_eq, decide_eq_false_iff_not, Bool.not_eq_true', Bool.not_eq_false', ne_eq, Decidable.not_not, Bool.not_eq_true, Bool.not_eq_false] at q17) | (dsimp only at q17) | skip
      refine At.region rfl rfl ?_
      refine Reg.pur rfl rfl rfl rfl (Pur.mv rfl) ?_
      refine Reg.pur rfl rfl rfl rfl (Pur.neS rfl rfl) ?_
      refine Reg.nil ?_
      refine At.cond rfl rfl (fun q21 => ?_) (fun q21 => ?_)
      · first | (simp only [decide_eq_true_eq, decide_eq_false_iff_not, Bool.not_eq_true', Bool.not_eq_false', ne_eq, Decidable.not_not, Bool.not_eq_true, Bool.not_eq_false] at q21) | (dsimp only at q21) | skip
        refine At.region rfl rfl ?_
        refine Reg.pur rfl rfl rfl rfl (Pur.mv rfl) ?_
        refine Reg.pur rfl rfl rfl rfl (Pur.addS rfl rfl (szs (m := 10000) (by omega) (sl1 _) (by decide))) ?_
        refine Reg.pur rfl rfl rfl rfl (Pur.asg rfl) ?_
        refine Reg.nil ?_
        refine At.region rfl rfl ?_
        refine Reg.pur rfl rfl rfl rfl (Pur.mv rfl) ?_
        refine Reg.pur rfl rfl rfl rfl (Pur.addS rfl rfl (szs (m := 10001) (by first | omega | exact sza (m := 10000) (by omega) (sl1 _)) (sl1 _) (by decide))) ?_
        refine Reg.pur rfl rfl rfl rfl (Pur.mv rfl) ?_
        refine Reg.op rfl rfl rfl rfl (Does.call rfl (decimal_ok i (by omega) _)) ?_
        rintro _ H10_3 ⟨rfl, hE10_3⟩
        have z10_3 := hE10_3.lt
        replace hE := hE.ext hE10_3
        replace o0_0 := o0_0.ext hE10_3
        refine Reg.pur rfl rfl rfl rfl (Pur.addS rfl rfl (szs (m := 10002) (sza (m := 10001) (by first | omega | exact sza (m := 10000) (by omega) (sl1 _)) (sl1 _)) (dec_size _) (by decide))) ?_
        refine Reg.pur rfl rfl rfl rfl (Pur.asg rfl) ?_
        refine Reg.nil ?_
        refine At.region rfl rfl ?_
        refine Reg.pur rfl rfl rfl rfl (Pur.mv rfl) ?_
        first | refine Reg.pur rfl rfl rfl rfl (Pur.add64 rfl rfl (by omega)) ?_ | refine Reg.pur rfl rfl rfl rfl (Pur.add64 rfl rfl (by assumption)) ?_ | refine Reg.pur rfl rfl rfl rfl (Pur.add rfl rfl) ?_
        refine Reg.pur rfl rfl rfl rfl (Pur.asg rfl) ?_
        refine Reg.nil ?_
        exact At.meets rfl (ih2 (k + 1) _ ⟨by omega, hE, o0_0⟩ (by omega)) ⟨rfl, rfl, by (show some (Value.string _) = some (Value.string (rone i (rrep i k (rall r i))))); unfold rone; simp only [q21]; rfl, rfl, rfl, trivial⟩
      first | (simp only [decide_eq_true_eq, decide_eq_false_iff_not, Bool.not_eq_true', Bool.not_eq_false', ne_eq, Decidable.not_not, Bool.not_eq_true, Bool.not_eq_false] at q21) | (dsimp only at q21) | skip
      refine At.region rfl rfl ?_
      refine Reg.pur rfl rfl rfl rfl (Pur.mv rfl) ?_
      refine Reg.pur rfl rfl rfl rfl (Pur.addS rfl rfl (szs (m := 10001) (by first | omega | exact sza (m := 10000) (by omega) (sl1 _)) (sl1 _) (by decide))) ?_
      refine Reg.pur rfl rfl rfl rfl (Pur.mv rfl) ?_
      refine Reg.op rfl rfl rfl rfl (Does.call rfl (decimal_ok i (by omega) _)) ?_
      rintro _ H10_3 ⟨rfl, hE10_3⟩
      have z10_3 := hE10_3.lt
      replace hE := hE.ext hE10_3
      replace o0_0 := o0_0.ext hE10_3
      refine Reg.pur rfl rfl rfl rfl (Pur.addS rfl rfl (szs (m := 10002) (sza (m := 10001) (by first | omega | exact sza (m := 10000) (by omega) (sl1 _)) (sl1 _)) (dec_size _) (by decide))) ?_
      refine Reg.pur rfl rfl rfl rfl (Pur.asg rfl) ?_
      refine Reg.nil ?_
      refine At.region rfl rfl ?_
      refine Reg.pur rfl rfl rfl rfl (Pur.mv rfl) ?_
      first | refine Reg.pur rfl rfl rfl rfl (Pur.add64 rfl rfl (by omega)) ?_ | refine Reg.pur rfl rfl rfl rfl (Pur.add64 rfl rfl (by assumption)) ?_ | refine Reg.pur rfl rfl rfl rfl (Pur.add rfl rfl) ?_
      refine Reg.pur rfl rfl rfl rfl (Pur.asg rfl) ?_
      refine Reg.nil ?_
      exact At.meets rfl (ih2 (k + 1) _ ⟨by omega, hE, o0_0⟩ (by omega)) ⟨rfl, rfl, by (show some (Value.string _) = some (Value.string (rone i (rrep i k (rall r i))))); unfold rone; simp only [q21]; rfl, rfl, rfl, trivial⟩
    first | (simp only [decide_eq_true_eq, decide_eq_false_iff_not, Bool.not_eq_true', Bool.not_eq_false', ne_eq, Decidable.not_not, Bool.not_eq_true, Bool.not_eq_false] at q17) | (dsimp only at q17) | skip
    refine At.region rfl rfl ?_
    refine Reg.pur rfl rfl rfl rfl (Pur.mv rfl) ?_
    first | refine Reg.pur rfl rfl rfl rfl (Pur.add64 rfl rfl (by omega)) ?_ | refine Reg.pur rfl rfl rfl rfl (Pur.add64 rfl rfl (by assumption)) ?_ | refine Reg.pur rfl rfl rfl rfl (Pur.add rfl rfl) ?_
    refine Reg.pur rfl rfl rfl rfl (Pur.asg rfl) ?_
    refine Reg.nil ?_
    obtain hk' : (k : Nat) = (r.getD i 0).toNat := by omega
    exact At.meets rfl (ih (i + 1) _ ⟨by omega, hE, o0_0⟩ (by omega)) ⟨rfl, by (show some (Value.string _) = some (Value.string (rrep i (r.getD i 0).toNat (rall r i)))); rw [← hk'], rfl, rfl, trivial⟩
  first | (simp only [decide_eq_true_eq, decide_eq_false_iff_not, Bool.not_eq_true', Bool.not_eq_false', ne_eq, Decidable.not_not, Bool.not_eq_true, Bool.not_eq_false] at q9) | (dsimp only at q9) | skip
  obtain rfl : i = 4 := by omega
  have hs4 := hsz 4 (by omega)
  have hix := ixL_le R (r.getD 4 0)
  have hN1 := hN.ext hE
  have hM1 : Mod nb A1 A2 A1 A2 H H1 := (Mod.refl nb A1 A2 H).ext hE

  refine At.region rfl rfl ?_
  refine Reg.pur rfl rfl rfl rfl (Pur.fld _ fo24_1 rfl) ?_
  refine Reg.lod rfl rfl rfl rfl (Lod.ld sc3 rfl o0_0.blk (hat4 r h5)) ?_
  refine Reg.pur rfl rfl rfl rfl (Pur.geq rfl rfl) ?_
  refine Reg.nil ?_
  refine At.cond rfl rfl (fun q31 => ?_) (fun q31 => ?_)
  · first | (simp only [decide_eq_true_eq, decide_eq_false_iff_not, Bool.not_eq_true', Bool.not_eq_false', ne_eq, Decidable.not_not, Bool.not_eq_true, Bool.not_eq_false] at q31) | (dsimp only at q31) | skip
    refine At.region rfl rfl ?_
    refine Reg.pur rfl rfl rfl rfl (Pur.mv rfl) ?_
    refine Reg.pur rfl rfl rfl rfl (Pur.addS rfl rfl (szs (m := 1280) (by omega) (sl2 _ _) (by decide))) ?_
    refine Reg.pur rfl rfl rfl rfl (Pur.mv rfl) ?_
    refine Reg.pur rfl rfl rfl rfl (Pur.fld _ fo24_1 rfl) ?_
    refine Reg.lod rfl rfl rfl rfl (Lod.ld sc3 rfl o0_0.blk (hat4 r h5)) ?_
    refine Reg.op rfl rfl rfl rfl (Does.call rfl (nm_row _ hN1 (by omega))) ?_
    rintro _ H12_5 ⟨rfl, A2a, c2a, hN12_5, hM12_5⟩
    refine Reg.op rfl rfl rfl rfl (Does.call rfl (decimal_ok (ixL R (r.getD 4 0)) (by omega) _)) ?_
    rintro _ H12_6 ⟨rfl, hD12_6⟩
    refine Reg.pur rfl rfl rfl rfl (Pur.addS rfl rfl (szs (m := 1282) (sza (m := 1280) (by omega) (sl2 _ _)) (dec_size _) (by decide))) ?_
    refine Reg.pur rfl rfl rfl rfl (Pur.asg rfl) ?_
    refine Reg.nil ?_
    refine At.region rfl rfl ?_
    refine Reg.pur rfl rfl rfl rfl (Pur.mv rfl) ?_
    refine Reg.pur rfl rfl rfl rfl (Pur.addS rfl rfl (szs (n := 1290) (sl1 _) (by first | omega | exact sza (m := 1282) (sza (m := 1280) (by omega) (sl2 _ _)) (dec_size _)) (by decide))) ?_
    refine Reg.pur rfl rfl rfl rfl (Pur.addS rfl rfl (szs (m := 1 + 1290) (n := 1) (sza (m := 1) (n := 1290) (sl1 _) (by first | omega | exact sza (m := 1282) (sza (m := 1280) (by omega) (sl2 _ _)) (dec_size _))) (sl1 _) (by decide))) ?_
    refine Reg.pur rfl rfl rfl rfl (Pur.asg rfl) ?_
    refine Reg.nil ?_
    refine At.ret rfl Tryd.func57 rfl ?_
    exact ⟨by unfold rtx; rw [if_pos q31], A2a, c2a, by unfold rnm; rw [if_pos q31]; exact hN12_5.ext hD12_6, (hM1.trans hM12_5).ext hD12_6⟩
  first | (simp only [decide_eq_true_eq, decide_eq_false_iff_not, Bool.not_eq_true', Bool.not_eq_false', ne_eq, Decidable.not_not, Bool.not_eq_true, Bool.not_eq_false] at q31) | (dsimp only at q31) | skip
  refine At.region rfl rfl ?_
  refine Reg.pur rfl rfl rfl rfl (Pur.mv rfl) ?_
  refine Reg.pur rfl rfl rfl rfl (Pur.addS rfl rfl (szs (n := 1290) (sl1 _) (by first | omega | exact sza (m := 1282) (sza (m := 1280) (by omega) (sl2 _ _)) (dec_size _)) (by decide))) ?_
  refine Reg.pur rfl rfl rfl rfl (Pur.addS rfl rfl (szs (m := 1 + 1290) (n := 1) (sza (m := 1) (n := 1290) (sl1 _) (by first | omega | exact sza (m := 1282) (sza (m := 1280) (by omega) (sl2 _ _)) (dec_size _))) (sl1 _) (by decide))) ?_
  refine Reg.pur rfl rfl rfl rfl (Pur.asg rfl) ?_
  refine Reg.nil ?_
  refine At.ret rfl Tryd.func57 rfl ?_
  exact ⟨by unfold rtx; rw [if_neg q31], A2, c2, by unfold rnm; rw [if_neg q31]; exact hN1, hM1⟩
end Go.Proofs.YtlfillhffpiffaaDoor

namespace Go.Proofs.YtlfillhffpiffaaDoor
set_option linter.unusedSimpArgs false
set_option linter.unusedVariables false
set_option maxRecDepth 8000
open Go Go.Fx Go.Proofs
namespace FactsUniSC
theorem ag24 : ag Tryd.prog 24 = some 5 := by kernel_rfl
theorem ag55 : ag Tryd.prog 55 = some 1 := by kernel_rfl
theorem ag65 : ag Tryd.prog 65 = some 9 := by kernel_rfl
theorem es53 : esz Tryd.prog 53 = some 9 := by kernel_rfl
theorem fo55_0 : foff Tryd.prog 55 0 = some 0 := by kernel_rfl
theorem fo65_0 : foff Tryd.prog 65 0 = some 0 := by kernel_rfl
theorem fo65_1 : foff Tryd.prog 65 1 = some 1 := by kernel_rfl
theorem fo65_2 : foff Tryd.prog 65 2 = some 2 := by kernel_rfl
theorem fo65_3 : foff Tryd.prog 65 3 = some 3 := by kernel_rfl
theorem fo65_4 : foff Tryd.prog 65 4 = some 4 := by kernel_rfl
theorem isl53 : isSl Tryd.prog 53 = true := by kernel_rfl
theorem pl91 : places Tryd.prog 91 = some [(0, 1), (1, 1)] := by kernel_rfl
theorem sc3 : sc Tryd.prog 3 = true := by kernel_rfl
theorem sc53 : sc Tryd.prog 53 = true := by kernel_rfl
theorem zc65 : zc Tryd.prog 65 = some [.int .i64 0, .int .i64 0, .int .i64 0, .int .i64 0, .int .i64 0, .int .i64 0, .int .i64 0, .int .i64 0, .int .i64 0] := by kernel_rfl
theorem zc91 : zc Tryd.prog 91 = some [.slice none 0 0, .slice none 0 0] := by kernel_rfl
end FactsUniSC
open FactsUniSC

def tx : Nms → Tm → ByteArray × Nms
  | N, .bas b => (if b then ⟨#[98, 111, 111, 108]⟩ else ⟨#[105, 110, 116]⟩, N)
  | N, .var v => (⟨#[116]⟩ ++ dec (ixL N.1 v), (addL N.1 v, N.2))
  | N, .fn a r b => (⟨#[40]⟩ ++ (tx N a).1 ++ ⟨#[32, 45]⟩ ++ rtx (tx N a).2.2 r ++ ⟨#[32]⟩ ++ (tx ((tx N a).2.1, rnm (tx N a).2.2 r) b).1 ++ ⟨#[41]⟩, (tx ((tx N a).2.1, rnm (tx N a).2.2 r) b).2)
theorem tx_size : ∀ (t : Tm) (N : Nms), t.ok → (tx N t).1.size ≤ 1400 * t.sz
  | .bas b, N, _ => by cases b <;> exact Nat.le_of_ble_eq_true rfl
  | .var v, N, _ => by
    have := dec_size (ixL N.1 v)
    simp only [tx, Tm.sz]
    rw [ByteArray.size_append, sz1]; omega
  | .fn a r b, N, h => by
    have h1 := tx_size a N h.1
    have h2 := tx_size b ((tx N a).2.1, rnm (tx N a).2.2 r) h.2.2.2
    have h3 := rtx_size (R := (tx N a).2.2) h.2.1 h.2.2.1
    simp only [tx, Tm.sz]
    rw [ByteArray.size_append, ByteArray.size_append, ByteArray.size_append, ByteArray.size_append, ByteArray.size_append, ByteArray.size_append, sz1, sz2, sz1, sz1]
    omega
theorem rnm_len (R r : List Int) : (rnm R r).length ≤ R.length + 1 := by
  have := addL_len R (r.getD 4 0)
  unfold rnm; split <;> omega
theorem tx_len : ∀ (t : Tm) (N : Nms), (tx N t).2.1.length + (tx N t).2.2.length ≤ N.1.length + N.2.length + t.sz
  | .bas b, N => by simp only [tx, Tm.sz]; omega
  | .var v, N => by
    have := addL_len N.1 v
    simp only [tx, Tm.sz]; omega
  | .fn a r b, N => by
    have h1 := tx_len a N
    have h2 := tx_len b ((tx N a).2.1, rnm (tx N a).2.2 r)
    have h3 := rnm_len (tx N a).2.2 r
    simp only [tx, Tm.sz]
    dsimp only at h2
    omega
theorem nd_at (t : Tm) (pre post : List (List Int)) (x : List Int) (hx : el (pre ++ t.enc pre.length ++ post) ((pre.length : Int) + t.sz - 1) = x) :
    (x.getD 0 0 = 0 → t = .bas false) ∧ (x.getD 0 0 = 1 → t = .bas true) ∧ (x.getD 0 0 = 2 → t = .var (x.getD 1 0)) ∧
    (x.getD 0 0 ≠ 0 → x.getD 0 0 ≠ 1 → x.getD 0 0 ≠ 2 → ∃ a r b, t = .fn a r b ∧ x = fNode ((pre.length : Int) + a.sz - 1) ((pre.length : Int) + a.sz + b.sz - 1) r) := by
  cases t with
  | bas b =>
    rw [show (pre.length : Int) + (Tm.bas b).sz - 1 = pre.length by simp only [Tm.sz]; omega] at hx
    simp only [Tm.enc, List.append_assoc, List.singleton_append] at hx
    rw [el_mid] at hx; subst hx
    cases b <;> simp
  | var v =>
    rw [show (pre.length : Int) + (Tm.var v).sz - 1 = pre.length by simp only [Tm.sz]; omega] at hx
    simp only [Tm.enc, List.append_assoc, List.singleton_append] at hx
    rw [el_mid] at hx; subst hx
    simp
  | fn a r b =>
    have hp2 : ((pre ++ a.enc pre.length ++ b.enc ((pre.length : Int) + a.sz)).length : Int) = (pre.length : Int) + a.sz + b.sz := by rw [List.length_append, List.length_append, Tm.enc_len, Tm.enc_len]; omega
    have hL1 : pre ++ (Tm.fn a r b).enc pre.length ++ post = (pre ++ a.enc pre.length ++ b.enc ((pre.length : Int) + a.sz)) ++ fNode ((pre.length : Int) + a.sz - 1) ((pre.length : Int) + a.sz + b.sz - 1) r :: post := by
      simp only [Tm.enc, List.append_assoc, List.singleton_append]
    rw [hL1, show (pre.length : Int) + (Tm.fn a r b).sz - 1 = ((pre ++ a.enc pre.length ++ b.enc ((pre.length : Int) + a.sz)).length : Int) by rw [hp2]; simp only [Tm.sz]; omega, el_mid] at hx
    subst hx
    exact ⟨fun h => by (change (3 : Int) = 0 at h); omega, fun h => by (change (3 : Int) = 1 at h); omega, fun h => by (change (3 : Int) = 2 at h); omega, fun _ _ _ => ⟨a, r, b, rfl, rfl⟩⟩
theorem spl_a (a : Tm) (r : List Int) (b : Tm) (pre post : List (List Int)) : pre ++ (Tm.fn a r b).enc pre.length ++ post = pre ++ a.enc pre.length ++ (b.enc ((pre.length : Int) + a.sz) ++ fNode ((pre.length : Int) + a.sz - 1) ((pre.length : Int) + a.sz + b.sz - 1) r :: post) := by
  simp only [Tm.enc, List.append_assoc, List.singleton_append]
theorem spl_b (a : Tm) (r : List Int) (b : Tm) (pre post : List (List Int)) : pre ++ (Tm.fn a r b).enc pre.length ++ post = (pre ++ a.enc pre.length) ++ b.enc ((pre ++ a.enc pre.length).length : Int) ++ (fNode ((pre.length : Int) + a.sz - 1) ((pre.length : Int) + a.sz + b.sz - 1) r :: post) := by
  have hp : ((pre ++ a.enc pre.length).length : Int) = (pre.length : Int) + a.sz := by rw [List.length_append, Tm.enc_len]; omega
  rw [hp]; simp only [Tm.enc, List.append_assoc, List.singleton_append]
theorem spl_l (a : Tm) (pre : List (List Int)) : (pre ++ a.enc pre.length).length = pre.length + a.sz := by rw [List.length_append, Tm.enc_len]

theorem text_ok {L : List (List Int)} (hL : Nine L) {A : Option Addr} {cap nb B : Nat} (hm : L.length ≤ 256) : ∀ (f : Nat) (t : Tm) (pre post : List (List Int)), t.sz ≤ f → t.ok → L = pre ++ t.enc pre.length ++ post →
    ∀ {H : Heap} {A1 A2 : Option Addr} {c1 c2 : Nat} {T R : List Int}, SlT H Is 9 (.slice A L.length cap) L → Nm H nb B A1 c1 T A2 c2 R → T.length + R.length + t.sz ≤ 90000 → Off nb A1 A2 (ob A) → ∀ z : Int, z = (pre.length : Int) + t.sz - 1 →
    Ret Tryd.prog 63 [ptr nb 0, .slice A L.length cap, I z] H (fun v H' => v = .string (tx (T, R) t).1 ∧ ∃ A1' c1' A2' c2', Nm H' nb B A1' c1' (tx (T, R) t).2.1 A2' c2' (tx (T, R) t).2.2 ∧ Mod nb A1 A2 A1' A2' H H') := by
  intro f
  induction f with
  | zero => intro t _ _ h; have := t.sz_pos; omega
  | succ f ihf =>
  intro t pre post hf hok hLe H A1 A2 c1 c2 T R hS hN hlen hoA z hz
  have hlL : L.length = pre.length + t.sz + post.length := by rw [hLe, List.length_append, List.length_append, Tm.enc_len]
  have hpos := t.sz_pos
  obtain ⟨b, o, c, rfl, hB, hd, hx9, hat⟩ := el_cells hL hS (z := z) (by omega) (by omega)
  obtain ⟨n0, n1, n2, n3⟩ := nd_at t pre post (el L z) (by rw [← hLe, hz])
  generalize el L z = x at hd hx9 hat n0 n1 n2 n3
  have hob : ob (some ⟨b, o, none⟩) = b := ob_some b o
  have hat' : ∀ j, j < 9 → (Is x)[j]? = some (I (x.getD j 0)) := fun j hj => at_Is (by omega)
  have zB := Int.ofNat_lt.2 hB.lt
  have zN := hN.own.lt
  have hx9' : (Is x).length = 9 := by simp [hx9]
  rw [hob] at hoA
  refine Ret.of_at (N := 50) Tryd.call63 Tryd.func63 rfl rfl rfl ?_
  have hE := Ext.refl H

  refine At.region rfl rfl ?_
  refine Reg.pur rfl rfl rfl rfl (Pur.asg rfl) ?_
  refine Reg.nil ?_
  refine At.region rfl rfl ?_
  refine Reg.pur rfl rfl rfl rfl (Pur.mv rfl) ?_
  refine Reg.pur rfl rfl rfl rfl (Pur.mv rfl) ?_
  refine Reg.pur rfl rfl rfl rfl (Pur.idx _ es53 rfl rfl (by omega) (by omega)) ?_
  refine Reg.lod rfl rfl rfl rfl (Lod.ldn ag65 rfl hB hd hx9') ?_
  refine Reg.op rfl rfl rfl rfl (Does.alloc zc65) ?_
  rintro _ H1_4 ⟨rfl, hn1_4⟩
  have z1_4 := hn1_4.size
  have o1_4 := hn1_4.own
  refine Reg.op0 rfl rfl rfl (Does.stn ag65 rfl rfl (by first | rfl | exact ones_Is _) (by first | rfl | (simp [*]; done)) o1_4 (by first | decide | (simp; done) | (simp; omega) | omega)) ?_
  rintro _ H1_5 hu1_5
  have z1_5 := hu1_5.size
  replace o1_4 := hu1_5.own
  first | rw [over (by first | rfl | (simp; done))] at o1_4 | skip
  refine Reg.nil ?_

  have hX : Own H1_5 H.size (Is x) := o1_4
  have hE0 : Ext H H1_5 := hn1_4.ext.upd hu1_5 (Nat.le_refl _)
  have hN0 := hN.ext hE0
  have hS0 := hS.ext hE0
  have hoX : Off nb A1 A2 H.size := ⟨by omega, by have := hN.g1.lt; omega, by have := hN.g2.lt; omega⟩
  have zX := Int.ofNat_lt.2 hX.lt
  have hM0 : Mod nb A1 A2 A1 A2 H H1_5 := (Mod.refl nb A1 A2 H).ext hE0
  have zB0 : (b : Int) < H1_5.size := by have := hE0.1; omega
  refine At.region rfl rfl ?_
  refine Reg.pur rfl rfl rfl rfl (Pur.fld _ fo65_0 rfl) ?_
  refine Reg.lod rfl rfl rfl rfl (Lod.ld sc3 rfl hX.blk (hat' 0 (by omega))) ?_
  refine Reg.nil ?_
  refine At.region rfl rfl ?_
  refine Reg.pur rfl rfl rfl rfl (Pur.eql rfl rfl) ?_
  refine Reg.pur rfl rfl rfl rfl (Pur.asg rfl) ?_
  refine Reg.nil ?_
  refine At.cond rfl rfl (fun q16 => ?_) (fun q16 => ?_)
  · first | (simp only [decide_eq_true_eq, decide_eq_false_iff_not, Bool.not_eq_true', Bool.not_eq_false', ne_eq, Decidable.not_not, Bool.not_eq_true, Bool.not_eq_false] at q16) | (dsimp only at q16) | skip
    refine At.region rfl rfl ?_
    refine Reg.pur rfl rfl rfl rfl (Pur.asg rfl) ?_
    refine Reg.nil ?_
    refine At.ret rfl Tryd.func63 rfl ?_
    obtain rfl := n0 q16
    exact ⟨rfl, A1, c1, A2, c2, hN0, hM0⟩
  first | (simp only [decide_eq_true_eq, decide_eq_false_iff_not, Bool.not_eq_true', Bool.not_eq_false', ne_eq, Decidable.not_not, Bool.not_eq_true, Bool.not_eq_false] at q16) | (dsimp only at q16) | skip
  refine At.region rfl rfl ?_
  refine Reg.pur rfl rfl rfl rfl (Pur.eql rfl rfl) ?_
  refine Reg.pur rfl rfl rfl rfl (Pur.asg rfl) ?_
  refine Reg.nil ?_
  refine At.cond rfl rfl (fun q18 => ?_) (fun q18 => ?_)
  · first | (simp only [decide_eq_true_eq, decide_eq_false_iff_not, Bool.not_eq_true', Bool.not_eq_false', ne_eq, Decidable.not_not, Bool.not_eq_true, Bool.not_eq_false] at q18) | (dsimp only at q18) | skip
    refine At.region rfl rfl ?_
    refine Reg.pur rfl rfl rfl rfl (Pur.asg rfl) ?_
    refine Reg.nil ?_
    refine At.ret rfl Tryd.func63 rfl ?_
    obtain rfl := n1 q18
    exact ⟨rfl, A1, c1, A2, c2, hN0, hM0⟩
  first | (simp only [decide_eq_true_eq, decide_eq_false_iff_not, Bool.not_eq_true', Bool.not_eq_false', ne_eq, Decidable.not_not, Bool.not_eq_true, Bool.not_eq_false] at q18) | (dsimp only at q18) | skip
  refine At.region rfl rfl ?_
  refine Reg.pur rfl rfl rfl rfl (Pur.eql rfl rfl) ?_
  refine Reg.pur rfl rfl rfl rfl (Pur.asg rfl) ?_
  refine Reg.nil ?_
  refine At.cond rfl rfl (fun q20 => ?_) (fun q20 => ?_)
  · first | (simp only [decide_eq_true_eq, decide_eq_false_iff_not, Bool.not_eq_true', Bool.not_eq_false', ne_eq, Decidable.not_not, Bool.not_eq_true, Bool.not_eq_false] at q20) | (dsimp only at q20) | skip
    refine At.region rfl rfl ?_
    refine Reg.pur rfl rfl rfl rfl (Pur.mv rfl) ?_
    refine Reg.pur rfl rfl rfl rfl (Pur.fld _ fo65_1 rfl) ?_
    refine Reg.lod rfl rfl rfl rfl (Lod.ld sc3 rfl hX.blk (hat' 1 (by omega))) ?_
    refine Reg.op rfl rfl rfl rfl (Does.call rfl (nm_kind _ hN0 (by omega))) ?_
    rintro _ H8_3 ⟨rfl, A1a, c1a, hN8_3, hM8_3⟩
    have hix := ixL_le T (x.getD 1 0)
    refine Reg.op rfl rfl rfl rfl (Does.call rfl (decimal_ok (ixL T (x.getD 1 0)) (by omega) _)) ?_
    rintro _ H8_4 ⟨rfl, hD8_4⟩
    refine Reg.pur rfl rfl rfl rfl (Pur.addS rfl rfl (szs (sl1 _) (dec_size _) (by decide))) ?_
    refine Reg.pur rfl rfl rfl rfl (Pur.asg rfl) ?_
    refine Reg.nil ?_
    refine At.ret rfl Tryd.func63 rfl ?_
    have ht := n2 q20
    rw [ht]
    exact ⟨rfl, A1a, c1a, A2, c2, hN8_3.ext hD8_4, (hM0.trans hM8_3).ext hD8_4⟩
  first | (simp only [decide_eq_true_eq, decide_eq_false_iff_not, Bool.not_eq_true', Bool.not_eq_false', ne_eq, Decidable.not_not, Bool.not_eq_true, Bool.not_eq_false] at q20) | (dsimp only at q20) | skip
  obtain ⟨ta, r, tb, rfl, rfl⟩ := n3 q16 q18 q20
  obtain ⟨hoa, hr5, hrow, hob2⟩ := hok
  have hpa := ta.sz_pos
  have hpb := tb.sz_pos
  have e0 : (Tm.fn ta r tb).sz = ta.sz + tb.sz + 1 := rfl
  have sA : (tx (T, R) ta).1.size ≤ 358400 := Nat.le_trans (tx_size ta _ hoa) (by omega)
  have lA := tx_len ta (T, R)
  have lR := rnm_len (tx (T, R) ta).2.2 r
  have sR := rtx_size (R := (tx (T, R) ta).2.2) hr5 hrow
  have sB : (tx ((tx (T, R) ta).2.1, rnm (tx (T, R) ta).2.2 r) tb).1.size ≤ 358400 := Nat.le_trans (tx_size tb _ hob2) (by omega)
  dsimp only at lA
  refine At.region rfl rfl ?_
  refine Reg.pur rfl rfl rfl rfl (Pur.mv rfl) ?_
  refine Reg.pur rfl rfl rfl rfl (Pur.mv rfl) ?_
  refine Reg.pur rfl rfl rfl rfl (Pur.fld _ fo65_2 rfl) ?_
  refine Reg.lod rfl rfl rfl rfl (Lod.ld sc3 rfl hX.blk (show _ = some (I ((pre.length : Int) + ta.sz - 1)) from hat' 2 (by omega))) ?_
  refine Reg.op rfl rfl rfl rfl (Does.call rfl (ihf ta pre _ (by omega) hoa (hLe.trans (spl_a ta r tb pre post)) hS0 hN0 (by omega) (by rw [hob]; exact hoA) _ rfl)) ?_
  rintro _ H9_4 ⟨rfl, A1a, c1a, A2a, c2a, hN9_4, hM9_4⟩
  replace hX := hX.via hM9_4.1 hoX.not
  have hS1 := hS0.via hM9_4.1 (fun _ g hg => by rw [hob] at hg; obtain rfl : g = b := (by omega); exact hoA.not)
  replace hoX := hoX.mod zX hM9_4
  replace hoA := hoA.mod zB0 hM9_4
  replace zX := Int.ofNat_lt.2 hX.lt
  have zB1 : (b : Int) < H9_4.size := by have := hM9_4.1.1; omega
  refine Reg.pur rfl rfl rfl rfl (Pur.asg rfl) ?_
  refine Reg.nil ?_
  refine At.region rfl rfl ?_
  refine Reg.pur rfl rfl rfl rfl (Pur.mv rfl) ?_
  refine Reg.pur rfl rfl rfl rfl (Pur.fld _ fo65_4 rfl) ?_
  refine Reg.lod rfl rfl rfl rfl (Lod.ldn ag24 rfl hX.blk (show _ = Is r by simp [Is, List.take_of_length_le, hr5]) (by simp [hr5])) ?_
  refine Reg.op rfl rfl rfl rfl (Does.call rfl (rowText_ok hr5 hrow hN9_4 (by omega))) ?_
  rintro _ H10_3 ⟨rfl, A2b, c2b, hN10_3, hM10_3⟩
  replace hX := hX.via hM10_3.1 hoX.not
  have hS2 := hS1.via hM10_3.1 (fun _ g hg => by rw [hob] at hg; obtain rfl : g = b := (by omega); exact hoA.not)
  replace hoA := hoA.mod zB1 hM10_3
  refine Reg.pur rfl rfl rfl rfl (Pur.asg rfl) ?_
  refine Reg.nil ?_
  refine At.region rfl rfl ?_
  refine Reg.pur rfl rfl rfl rfl (Pur.mv rfl) ?_
  refine Reg.pur rfl rfl rfl rfl (Pur.addS rfl rfl (szs (sl1 _) sA (by decide))) ?_
  refine Reg.pur rfl rfl rfl rfl (Pur.addS rfl rfl (szs (sza (sl1 _) sA) (sl2 _ _) (by decide))) ?_
  refine Reg.pur rfl rfl rfl rfl (Pur.mv rfl) ?_
  refine Reg.pur rfl rfl rfl rfl (Pur.addS rfl rfl (szs (sza (sza (sl1 _) sA) (sl2 _ _)) sR (by decide))) ?_
  refine Reg.pur rfl rfl rfl rfl (Pur.addS rfl rfl (szs (sza (sza (sza (sl1 _) sA) (sl2 _ _)) sR) (sl1 _) (by decide))) ?_
  refine Reg.pur rfl rfl rfl rfl (Pur.mv rfl) ?_
  refine Reg.pur rfl rfl rfl rfl (Pur.mv rfl) ?_
  refine Reg.pur rfl rfl rfl rfl (Pur.fld _ fo65_3 rfl) ?_
  refine Reg.lod rfl rfl rfl rfl (Lod.ld sc3 rfl hX.blk (show _ = some (I ((pre.length : Int) + ta.sz + tb.sz - 1)) from hat' 3 (by omega))) ?_
  refine Reg.op rfl rfl rfl rfl (Does.call rfl (ihf tb (pre ++ ta.enc pre.length) _ (by omega) hob2 (hLe.trans (spl_b ta r tb pre post)) hS2 hN10_3 (by first | omega | (dsimp only; omega)) (by rw [hob]; exact hoA) _ (by rw [spl_l]; omega))) ?_
  rintro _ H11_10 ⟨rfl, A1d, c1d, A2d, c2d, hN11_10, hM11_10⟩
  refine Reg.pur rfl rfl rfl rfl (Pur.addS rfl rfl (szs (sza (sza (sza (sza (sl1 _) sA) (sl2 _ _)) sR) (sl1 _)) sB (by decide))) ?_
  refine Reg.pur rfl rfl rfl rfl (Pur.addS rfl rfl (szs (sza (sza (sza (sza (sza (sl1 _) sA) (sl2 _ _)) sR) (sl1 _)) sB) (sl1 _) (by decide))) ?_
  refine Reg.pur rfl rfl rfl rfl (Pur.asg rfl) ?_
  refine Reg.nil ?_
  refine At.ret rfl Tryd.func63 rfl ?_
  exact ⟨rfl, A1d, c1d, A2d, c2d, hN11_10, ((hM0.trans hM9_4).trans hM10_3).trans hM11_10⟩
end Go.Proofs.YtlfillhffpiffaaDoor

namespace Go.Proofs.YtlfillhffpiffaaDoor
set_option linter.unusedSimpArgs false
set_option linter.unusedVariables false
set_option maxRecDepth 8000
open Go Go.Fx Go.Proofs

theorem ints_of_fits {H : Heap} {v : Value} (h : fitc H (.sl 8 [.int .i64]) v) : ∃ (A : Option Addr) (cap : Nat) (l : List Int), v = .slice A l.length cap ∧ SlT H e1 1 (.slice A l.length cap) l ∧ l.length * 8 ≤ 140737488351232 := by
  obtain ⟨L, _, hS, hb⟩ := SlT.of_fits (p := fun _ : Int => True) (enc := e1) h (fun cs h => by obtain ⟨n, rfl, _⟩ := fit_int h; exact ⟨n, trivial, rfl⟩)
  have hS' := hS
  obtain ⟨A, cap, rfl, _⟩ := hS'
  exact ⟨A, cap, L, rfl, hS, by rw [show reachBytes = 140737488351232 from rfl] at hb; omega⟩
theorem rows_of_fits {H : Heap} {v : Value} (h : fitc H (.sl 40 (List.replicate 5 (.int .i64))) v) : ∃ (A : Option Addr) (cap : Nat) (L : List (List Int)), v = .slice A L.length cap ∧ SlT H Is 5 (.slice A L.length cap) L ∧ Five L ∧ L.length * 40 ≤ 140737488351232 := by
  obtain ⟨L, hL, hS, hb⟩ := SlT.of_fits (p := fun x : List Int => x.length = 5) (enc := Is) h (fun cs h => by obtain ⟨xs, rfl, hl, _⟩ := fit_ints h; exact ⟨xs, hl, rfl⟩)
  have hS' := hS
  obtain ⟨A, cap, rfl, _⟩ := hS'
  exact ⟨A, cap, L, rfl, hS, hL, by rw [show reachBytes = 140737488351232 from rfl] at hb; omega⟩
theorem types_of_fits {H : Heap} {v : Value} (h : fitc H (.sl 24 [.sl 72 (List.replicate 9 (.int .i64))]) v) : ∃ (A : Option Addr) (cap : Nat) (L : List Td), v = .slice A L.length cap ∧ Tds H (.slice A L.length cap) L := by
  obtain ⟨L, hL, hS, hb⟩ := SlT.of_fits (p := fun t : Td => t.Ok H) (enc := encT) h (fun cs h => by
    obtain ⟨v, rfl, hv⟩ := fit_one h
    obtain ⟨A, cap, L, rfl, h9, hS, hm⟩ := type_of_fits hv
    exact ⟨⟨A, cap, L⟩, ⟨hS, h9, hm⟩, rfl⟩)
  have hS' := hS
  obtain ⟨A, cap, rfl, _⟩ := hS'
  exact ⟨A, cap, L, rfl, hS, hL, by rw [show reachBytes = 140737488351232 from rfl] at hb; omega⟩
end Go.Proofs.YtlfillhffpiffaaDoor

namespace Go.Proofs
open Go.Shelf
def Tryd.lays156_ren : Go.Shelf.Ren := ⟨fun | 156 => 75 | 165 => 98 | 166 => 99 | 169 => 100 | 240 => 109 | 241 => 110 | 276 => 116 | 277 => 117 | n => n, fun | 31 => 123 | 9 => 9 | 3 => 3 | 4 => 4 | 0 => 0 | 20 => 20 | 72 => 146 | 76 => 150 | 70 => 144 | 37 => 94 | 75 => 149 | 127 => 161 | 164 => 168 | 5 => 5 | 80 => 152 | n => n, fun | n => n⟩
theorem Tryd.lays156 : Go.Proofs.Lays.n156 Tryd.prog Tryd.lays156_ren := {
  mixed := by kernel_rfl
  f156 := Tryd.func75.trans (congrArg some (by kernel_rfl))
  f165 := Tryd.func98.trans (congrArg some (by kernel_rfl))
  f166 := Tryd.func99.trans (congrArg some (by kernel_rfl))
  f169 := Tryd.func100.trans (congrArg some (by kernel_rfl))
  f240 := Tryd.func109.trans (congrArg some (by kernel_rfl))
  f241 := Tryd.func110.trans (congrArg some (by kernel_rfl))
  f276 := Tryd.func116.trans (congrArg some (by kernel_rfl))
  f277 := Tryd.func117.trans (congrArg some (by kernel_rfl))
  t0 := Tryd.underlying0
  a0 := Tryd.isAgg0
  z0 := Tryd.sizeOf0
  v0 := Tryd.zeroValue0
  t3 := Tryd.underlying3
  a3 := Tryd.isAgg3
  z3 := Tryd.sizeOf3
  v3 := Tryd.zeroValue3
  t4 := Tryd.underlying4
  a4 := Tryd.isAgg4
  z4 := Tryd.sizeOf4
  v4 := Tryd.zeroValue4
  t9 := Tryd.underlying9
  a9 := Tryd.isAgg9
  z9 := Tryd.sizeOf9
  v9 := Tryd.zeroValue9
  t20 := Tryd.underlying20
  a20 := Tryd.isAgg20
  z20 := Tryd.sizeOf20
  v20 := Tryd.zeroValue20
  t31 := Tryd.underlying123
  a31 := Tryd.isAgg123
  z31 := Tryd.sizeOf123
  v31 := Tryd.zeroValue123
  t37 := Tryd.underlying94
  a37 := Tryd.isAgg94
  z37 := Tryd.sizeOf94
  v37 := Tryd.zeroValue94
  t70 := Tryd.underlying144
  a70 := Tryd.isAgg144
  z70 := Tryd.sizeOf144
  v70 := Tryd.zeroValue144
  t72 := Tryd.underlying146
  a72 := Tryd.isAgg146
  z72 := Tryd.sizeOf146
  v72 := Tryd.zeroValue146
  t75 := Tryd.underlying149
  a75 := Tryd.isAgg149
  z75 := Tryd.sizeOf149
  v75 := Tryd.zeroValue149
  t76 := Tryd.underlying150
  a76 := Tryd.isAgg150
  z76 := Tryd.sizeOf150
  v76 := Tryd.zeroValue150
  t127 := Tryd.underlying161
  a127 := Tryd.isAgg161
  z127 := Tryd.sizeOf161
  v127 := Tryd.zeroValue161
  t164 := Tryd.underlying168
  a164 := Tryd.isAgg168
  z164 := Tryd.sizeOf168
  v164 := Tryd.zeroValue168 }
theorem Tryd.Builder_Extra_156 : Builder.Extra Tryd.prog Tryd.lays156_ren := {
  sizeBuilder := by kernel_rfl
  liesBuilder := by kernel_rfl
  t5 := Tryd.underlying5
  a5 := Tryd.isAgg5
  z5 := Tryd.sizeOf5
  v5 := Tryd.zeroValue5
  infoByte := by kernel_rfl
  cellsByte := by kernel_rfl
  sizeByte := by kernel_rfl
  neB5 := by decide }
open Go.RowKit in
theorem Tryd.strings_Join_none (a : Option Addr) (c : Nat) (sep : ByteArray) (w : World) :
    Calls Tryd.prog 75 #[.slice a 0 c, .string sep] w fun e w' => e = .returned (.string ⟨#[]⟩) ∧ w' = w := Any.strings_Join_none Tryd.lays156 Tryd.Builder_Extra_156 a c sep w
open Go.RowKit in
theorem Tryd.strings_Join (bk o c : Nat) (xs : List ByteArray) (sep : ByteArray) (w : World) (hcells : ∀ (j : Nat) x, xs[j]? = some x → w.cell? ⟨bk, o + j, none⟩ = some (.string x)) (hbk : bk < w.heap.size) (hN : xs.length ≤ 140737488355328) (hcap : xs.length ≤ c) (hlen : (Lib.join (xs.map (·.data.toList)) sep.data.toList).length ≤ 140737488355328) :
    Calls Tryd.prog 75 #[.slice (some ⟨bk, o, none⟩) xs.length c, .string sep] w fun e w' => e = .returned (.string ⟨(Lib.join (xs.map (·.data.toList)) sep.data.toList).toArray⟩) ∧ Below w.heap.size w w' := Any.strings_Join Tryd.lays156 Tryd.Builder_Extra_156 bk o c xs sep w hcells hbk hN hcap hlen
def Tryd.laysM171_ren : Go.Shelf.Ren := ⟨fun | 171 => 74 | 243 => 97 | 246 => 108 | 283 => 112 | 284 => 113 | 285 => 114 | 286 => 115 | 129 => 119 | 317 => 118 | 318 => 120 | 319 => 121 | 320 => 122 | 337 => 123 | 338 => 124 | n => n, fun | 3 => 3 | 9 => 9 | 2 => 2 | 4 => 4 | 171 => 163 | 0 => 0 | 53 => 93 | 37 => 94 | 5 => 5 | 173 => 166 | 212 => 172 | 51 => 173 | 20 => 20 | 213 => 174 | 46 => 47 | 232 => 178 | 233 => 179 | n => n, fun | 17 => 0 | 18 => 2 | 19 => 3 | n => n⟩
theorem Tryd.laysM171 : Go.Proofs.LaysM.n171 Tryd.prog Tryd.laysM171_ren := {
  mixed := by kernel_rfl
  f129 := Tryd.func119.trans (congrArg some (by kernel_rfl))
  f171 := Tryd.func74.trans (congrArg some (by kernel_rfl))
  f243 := Tryd.func97.trans (congrArg some (by kernel_rfl))
  f246 := Tryd.func108.trans (congrArg some (by kernel_rfl))
  f283 := Tryd.func112.trans (congrArg some (by kernel_rfl))
  f284 := Tryd.func113.trans (congrArg some (by kernel_rfl))
  f285 := Tryd.func114.trans (congrArg some (by kernel_rfl))
  f286 := Tryd.func115.trans (congrArg some (by kernel_rfl))
  f317 := Tryd.func118.trans (congrArg some (by kernel_rfl))
  f318 := Tryd.func120.trans (congrArg some (by kernel_rfl))
  f319 := Tryd.func121.trans (congrArg some (by kernel_rfl))
  f320 := Tryd.func122.trans (congrArg some (by kernel_rfl))
  f337 := Tryd.func123.trans (congrArg some (by kernel_rfl))
  f338 := Tryd.func124.trans (congrArg some (by kernel_rfl))
  t0 := Tryd.underlying0
  a0 := Tryd.isAgg0
  z0 := Tryd.sizeOf0
  v0 := Tryd.zeroValue0
  t2 := Tryd.underlying2
  a2 := Tryd.isAgg2
  z2 := Tryd.sizeOf2
  v2 := Tryd.zeroValue2
  t3 := Tryd.underlying3
  a3 := Tryd.isAgg3
  z3 := Tryd.sizeOf3
  v3 := Tryd.zeroValue3
  t4 := Tryd.underlying4
  a4 := Tryd.isAgg4
  z4 := Tryd.sizeOf4
  v4 := Tryd.zeroValue4
  t5 := Tryd.underlying5
  a5 := Tryd.isAgg5
  z5 := Tryd.sizeOf5
  v5 := Tryd.zeroValue5
  t9 := Tryd.underlying9
  a9 := Tryd.isAgg9
  z9 := Tryd.sizeOf9
  v9 := Tryd.zeroValue9
  t20 := Tryd.underlying20
  a20 := Tryd.isAgg20
  z20 := Tryd.sizeOf20
  v20 := Tryd.zeroValue20
  t37 := Tryd.underlying94
  a37 := Tryd.isAgg94
  z37 := Tryd.sizeOf94
  v37 := Tryd.zeroValue94
  t46 := Tryd.underlying47
  a46 := Tryd.isAgg47
  z46 := Tryd.sizeOf47
  v46 := Tryd.zeroValue47
  t51 := Tryd.underlying173
  a51 := Tryd.isAgg173
  z51 := Tryd.sizeOf173
  v51 := Tryd.zeroValue173
  t53 := Tryd.underlying93
  a53 := Tryd.isAgg93
  z53 := Tryd.sizeOf93
  v53 := Tryd.zeroValue93
  t171 := Tryd.underlying163
  a171 := Tryd.isAgg163
  z171 := Tryd.sizeOf163
  v171 := Tryd.zeroValue163
  t173 := Tryd.underlying166
  a173 := Tryd.isAgg166
  z173 := Tryd.sizeOf166
  v173 := Tryd.zeroValue166
  t212 := Tryd.underlying172
  a212 := Tryd.isAgg172
  z212 := Tryd.sizeOf172
  v212 := Tryd.zeroValue172
  t213 := Tryd.underlying174
  a213 := Tryd.isAgg174
  z213 := Tryd.sizeOf174
  t232 := Tryd.underlying178
  a232 := Tryd.isAgg178
  z232 := Tryd.sizeOf178
  v232 := Tryd.zeroValue178
  t233 := Tryd.underlying179
  a233 := Tryd.isAgg179
  z233 := Tryd.sizeOf179
  v233 := Tryd.zeroValue179
  g17 := by kernel_rfl
  g18 := by kernel_rfl
  g19 := by kernel_rfl
  i0 := by kernel_rfl
  i2 := by kernel_rfl
  i3 := by kernel_rfl
  i4 := by kernel_rfl
  i5 := by kernel_rfl
  i9 := by kernel_rfl
  i20 := by kernel_rfl
  i37 := by kernel_rfl
  i46 := by kernel_rfl
  i51 := by kernel_rfl
  i53 := by kernel_rfl
  i171 := by kernel_rfl
  i173 := by kernel_rfl
  i212 := by kernel_rfl
  i232 := by kernel_rfl
  i233 := by kernel_rfl
  m17 := by kernel_rfl
  m18 := by kernel_rfl
  m19 := by kernel_rfl }
end Go.Proofs

namespace Go.Proofs.YtlfillhffpiffaaDoor
set_option linter.unusedSimpArgs false
set_option linter.unusedVariables false
set_option maxRecDepth 8000
open Go Go.Fx Go.Proofs

abbrev tens : List Value := Lib.pow10Tab.map fun z => Value.int .u64 z
abbrev Tens (H : Heap) : Prop := Blk H 0 tens
theorem tab_of {name : String} {w0 : World} {H : Heap} {n g : Nat} {zs : List Int} {k : IntKind} (hg : Tryd.prog.globalNamed name = some g) (h : Blk H g (zs.map fun z => Value.int k z)) : Lib.TabIs Tryd.prog (mk w0 H n) name k zs := by
  obtain ⟨T, fr, h⟩ := h
  unfold Lib.TabIs World.var?
  rw [hg]
  simp only [Option.bind_some, mk_heap, h]
theorem bstr_data : ∀ (l : List UInt8) (s : ByteArray), ((l.map fun b => ((b.toNat : Nat) : Int)).foldl (fun r n => r.push (UInt8.ofNat n.toNat)) s).data.toList = s.data.toList ++ l
  | [], s => by simp
  | x :: l, s => by
    rw [List.map_cons, List.foldl_cons, bstr_data l]
    simp [ByteArray.push]
theorem bstr_nat (l : List UInt8) : bstr (l.map fun b => ((b.toNat : Nat) : Int)) = ⟨l.toArray⟩ := by
  apply WideShapes.bytes_inj
  unfold bstr
  rw [bstr_data]
  simp
theorem decG_dig : ∀ (f n : Nat) (l : List Int), n < 10 ^ f → 0 < f → (0 < n ∨ l.length = 0) → decG (f + 1) n l = (Lib.decDigits n).map (fun b => ((b.toNat : Nat) : Int)) ++ l
  | 0, _, _, _, h, _ => absurd h (by omega)
  | f + 1, n, l, hn, _, h => by
    rw [decG_go h]
    unfold Lib.decDigits
    split
    · rename_i h10
      rw [show n / 10 = 0 by omega, decG_end (by simp), show n % 10 = n by omega]
      have : (UInt8.ofNat (48 + n)).toNat = 48 + n := by rw [UInt8.toNat_ofNat']; omega
      simp only [List.map_append, List.map_cons, List.map_nil, this, List.append_assoc, List.singleton_append, List.nil_append]
    · rename_i h10
      have hp := pow_step hn
      have hf : 0 < f := Nat.pos_of_ne_zero fun h0 => by subst h0; simp at hp; omega
      rw [decG_dig f (n / 10) _ hp hf (.inl (by omega))]
      have : (UInt8.ofNat (48 + n % 10)).toNat = 48 + n % 10 := by rw [UInt8.toNat_ofNat']; omega
      simp only [List.map_append, List.map_cons, List.map_nil, this, List.append_assoc, List.singleton_append, List.nil_append]
theorem itoa_dec (n : Nat) (h : n < 10000000) : (⟨(Lib.itoa (n : Int)).toArray⟩ : ByteArray) = dec n := by
  rw [Lib.itoa_nonneg, ← bstr_nat]
  unfold dec decI
  rw [decG_dig 7 n [] h (by decide) (.inr rfl), List.append_nil]
theorem itoa_ok (n : Nat) (h : n < 10000000) {H : Heap} (hT : Tens H) :
    Ret Tryd.prog 74 [I n] H (fun v H' => v = .string (dec n) ∧ Ext H H') := by
  refine ⟨Tryd.call74, fun w0 k => ?_⟩
  have h1 : Calls Tryd.prog 74 #[.int .i64 n] (mk w0 H k) fun e w' => e = .returned (.string ⟨(Lib.itoa n).toArray⟩) ∧ ∃ d os, w' = Sort.grow ((mk w0 H k).drewN d) os :=
    Any.strconv_Itoa Tryd.laysM171 n (by omega) (by omega) (mk w0 H k) (tab_of (by kernel_rfl) hT)
  refine h1.mono fun e w' hx => ?_
  obtain ⟨he, d, os, hw⟩ := hx
  refine ⟨_, H ++ os, k + d, he, hw, by rw [itoa_dec n h], ?_, fun b hb => Array.getElem?_append_left hb⟩
  rw [Array.size_append]; omega

def jn (xs : List ByteArray) : ByteArray := ⟨(Lib.join (xs.map (·.data.toList)) (⟨#[44]⟩ : ByteArray).data.toList).toArray⟩
abbrev Ss (s : ByteArray) : List Value := [.string s]
theorem wideS (L : List ByteArray) : Wide Ss 1 L := fun _ _ => rfl
theorem ones_Ss (L : List ByteArray) : ones (L.flatMap Ss) = true := by
  simp only [ones, List.all_eq_true, List.mem_flatMap]
  rintro v ⟨x, _, hv⟩
  simp only [List.mem_singleton] at hv
  subst hv; rfl
theorem join_ok {A : Option Addr} {cap : Nat} {xs : List ByteArray} {H : Heap} (hS : SlT H Ss 1 (.slice A xs.length cap) xs) (hN : xs.length ≤ 1000000) (hlen : (jn xs).size ≤ 1000000000) :
    Ret Tryd.prog 75 [.slice A xs.length cap, .string ⟨#[44]⟩] H (fun v H' => v = .string (jn xs) ∧ Ext H H') := by
  refine ⟨Tryd.call75, fun w0 k => ?_⟩
  cases xs with
  | nil =>
    have h1 := Tryd.strings_Join_none A cap ⟨#[44]⟩ (mk w0 H k)
    refine h1.mono fun e w' hx => ?_
    obtain ⟨he, hw⟩ := hx
    exact ⟨_, H, k, he, hw, rfl, Ext.refl H⟩
  | cons x0 xs =>
    obtain ⟨_, cap', hv, hc1, hc2, _, h3⟩ := hS
    simp only [Value.slice.injEq, true_and] at hv
    obtain ⟨rfl, rfl⟩ := hv
    rcases h3 with h0 | ⟨b, o, c, rfl, hB, hc⟩
    · simp at h0
    have hcl : ∀ (j : Nat) x, (x0 :: xs)[j]? = some x → (mk w0 H k).cell? ⟨b, o + j, none⟩ = some (.string x) := by
      intro j x hx
      obtain ⟨hj, hx⟩ := List.getElem?_eq_some_iff.1 hx
      have h2 := (hc j hj).2
      rw [hx, Nat.mul_one] at h2
      have h4 : c[o + j + 0]? = some (Value.string x) := at_tk h2 (by decide) rfl
      obtain ⟨T, fr, hB⟩ := hB
      unfold World.cell?
      simp only [mk_heap, hB]
      simpa using h4
    have hle : (x0 :: xs).length ≤ c.length := by
      have := (hc ((x0 :: xs).length - 1) (by simp)).1
      simp only [List.length_cons] at this ⊢; omega
    have h1 := Tryd.strings_Join b o cap (x0 :: xs) ⟨#[44]⟩ (mk w0 H k) hcl hB.lt (by omega) hc1 (by
      have : (jn (x0 :: xs)).size = (Lib.join ((x0 :: xs).map (·.data.toList)) (⟨#[44]⟩ : ByteArray).data.toList).length := by simp [jn, ByteArray.size]
      omega)
    refine h1.mono fun e w' hx => ?_
    obtain ⟨he, hb⟩ := hx
    refine ⟨_, w'.heap, w'.drawn, he, ?_, rfl, hb.size, fun q hq => hb.block q hq⟩
    obtain ⟨g1, g2, g3, g4, g5⟩ := w'
    have e1 := hb.os; have e2 := hb.tape; have e3 := hb.output
    simp only at e1 e2 e3
    subst e1 e2 e3
    rfl
end Go.Proofs.YtlfillhffpiffaaDoor

namespace Go.Proofs.YtlfillhffpiffaaDoor
set_option linter.unusedSimpArgs false
set_option linter.unusedVariables false
set_option maxRecDepth 8000
open Go Go.Fx Go.Proofs
namespace FactsDShB
theorem ag22 : ag Tryd.prog 22 = some 4 := by kernel_rfl
theorem apt123 : appT Tryd.prog 123 = some (9, 1, 16) := by kernel_rfl
theorem fo24_0 : foff Tryd.prog 24 0 = some 0 := by kernel_rfl
theorem fo24_1 : foff Tryd.prog 24 1 = some 4 := by kernel_rfl
theorem sc3 : sc Tryd.prog 3 = true := by kernel_rfl
theorem sl1_123 : Go.Fx.sl1 Tryd.prog 123 = true := by kernel_rfl
end FactsDShB
open FactsDShB

theorem dap (a b : ByteArray) : (a ++ b).data.toList = a.data.toList ++ b.data.toList := by simp
abbrev opn (i : Nat) : ByteArray := ⟨#[111]⟩ ++ dec i
def opsTo (r : List Int) : Nat → List ByteArray
  | 0 => []
  | i + 1 => opsTo r i ++ List.replicate (r.getD i 0).toNat (opn i)
theorem opn_pos (i : Nat) : 0 < (opn i).size := by rw [ByteArray.size_append, sz1]; omega
theorem ops_pos (r : List Int) : ∀ i, ∀ x ∈ opsTo r i, 0 < x.size
  | 0, x, h => by cases h
  | i + 1, x, h => by
    simp only [opsTo, List.mem_append, List.mem_replicate] at h
    rcases h with h | ⟨_, rfl⟩
    · exact ops_pos r i x h
    · exact opn_pos i
theorem jn_data (xs : List ByteArray) : (jn xs).data.toList = Lib.join (xs.map (·.data.toList)) [44] := rfl
theorem join_snoc (y sep : List UInt8) : ∀ (x : List UInt8) (xs : List (List UInt8)), Lib.join ((x :: xs) ++ [y]) sep = Lib.join (x :: xs) sep ++ sep ++ y := by
  intro x xs
  rw [List.cons_append, Lib.join_cons, Lib.join_cons]
  simp [Lib.joinTail]
theorem jn_ne {xs : List ByteArray} (h : ∀ x ∈ xs, 0 < x.size) (hx : xs ≠ []) : (jn xs).data.toList ≠ [] := by
  cases xs with
  | nil => exact absurd rfl hx
  | cons x xs =>
    rw [jn_data, List.map_cons, Lib.join_cons]
    have := h x List.mem_cons_self
    intro h0
    have h1 := (List.append_eq_nil_iff.1 h0).1
    have h2 := congrArg List.length h1
    simp only [Array.length_toList, List.length_nil] at h2
    simp only [ByteArray.size] at this
    omega
theorem rone_jn (i : Nat) {xs : List ByteArray} (h : ∀ x ∈ xs, 0 < x.size) : rone i (jn xs) = jn (xs ++ [opn i]) := by
  apply WideShapes.bytes_inj
  unfold rone
  rw [ByteArray.toList_eq, ByteArray.toList_eq]
  cases xs with
  | nil =>
    have h0 : (jn []).data.toList = [] := rfl
    rw [if_neg (by rw [h0]; decide)]
    simp [jn_data, Lib.join_one, Lib.join_nil, dap]
  | cons x xs =>
    rw [if_pos (by
      have := jn_ne h (by simp)
      cases hc : (jn (x :: xs)).data.toList with
      | nil => exact absurd hc this
      | cons a l => rfl)]
    rw [jn_data, List.map_append, List.map_cons, List.map_cons, List.map_nil, join_snoc, dap, dap, dap, jn_data, List.map_cons]
    simp [opn, dap]
theorem rrep_jn (i : Nat) {xs : List ByteArray} (h : ∀ x ∈ xs, 0 < x.size) : ∀ k, rrep i k (jn xs) = jn (xs ++ List.replicate k (opn i))
  | 0 => by simp [rrep]
  | k + 1 => by
    unfold rrep
    rw [rrep_jn i h k, rone_jn i (by
      intro x hx
      rcases List.mem_append.1 hx with hx | hx
      · exact h x hx
      · rw [(List.mem_replicate.1 hx).2]; exact opn_pos i), List.replicate_succ', List.append_assoc]
theorem rall_jn (r : List Int) : ∀ i, rall r i = jn (opsTo r i)
  | 0 => rfl
  | i + 1 => by
    unfold rall opsTo
    rw [rall_jn r i, rrep_jn i (ops_pos r i)]
theorem ops_len {r : List Int} (h5 : r.length = 5) (h : rowM r = true) : ∀ i, i ≤ 4 → (opsTo r i).length ≤ 32 * i
  | 0, _ => Nat.le_refl 0
  | i + 1, hi => by
    have h2 := ops_len h5 h i (by omega)
    have h3 := row_cnt h5 h i (by omega)
    simp only [opsTo, List.length_append, List.length_replicate]; omega

def wtx (r : List Int) (s : ByteArray) : ByteArray := ⟨#[60]⟩ ++ (if 0 ≤ r.getD 4 0 then rall r 4 ++ (⟨#[124]⟩ ++ s) else rall r 4) ++ ⟨#[62]⟩
theorem wtx_rtx (R r : List Int) : wtx r (⟨#[101]⟩ ++ dec (ixL R (r.getD 4 0))) = rtx R r := by
  apply WideShapes.bytes_inj
  unfold wtx rtx
  split
  · simp only [dap, List.append_assoc]; rfl
  · rfl

theorem write_ok {g : FuncId} {us : List Value} {rb ro : Nat} {cg : List Value} {r : List Int} (h5 : r.length = 5) (hr : rowM r = true) {Q : ByteArray → Heap → Heap → Prop} {H : Heap} (hT : Tens H) (hB : Blk H rb cg) (hc : (cg.drop ro).take 5 = Is r)
    (hf : ∀ H1, Ext H H1 → 0 ≤ r.getD 4 0 → Ret Tryd.prog g (I (r.getD 4 0) :: us) H1 (fun v H2 => ∃ s, v = .string s ∧ s.size ≤ 100 ∧ Q s H1 H2)) :
    Ret Tryd.prog 55 [ptr rb ro, .func (.func g) #[] us.toArray] H (fun v H' => ∃ s, v = .string (wtx r s) ∧ ∃ H1, Ext H H1 ∧ ((0 ≤ r.getD 4 0 ∧ Q s H1 H') ∨ (r.getD 4 0 < 0 ∧ H' = H1))) := by
  have zB := hB.lt
  have hat : ∀ {j : Nat}, j < 5 → cg[ro + j]? = some (I (r.getD j 0)) := fun hj => at_tk hc hj (at_Is (by omega))
  have hcnt := row_cnt h5 hr
  have hsz := rall_size h5 hr
  have hln := ops_len h5 hr
  have ht4 := rowM_t hr
  refine Ret.of_at (N := 47) Tryd.call55 Tryd.func55 rfl rfl rfl ?_
  have hE := Ext.refl H
  have z_hE := hE.lt
  have z_hT := hT.lt
  have z_hB := hB.lt
  refine At.region rfl rfl ?_
  refine Reg.pur rfl rfl rfl rfl (Pur.asg rfl) ?_
  refine Reg.nil ?_
  refine At.region rfl rfl ?_
  refine Reg.pur rfl rfl rfl rfl (Pur.asg rfl) ?_
  refine Reg.nil ?_
  refine At.region rfl rfl ?_
  refine Reg.pur rfl rfl rfl rfl (Pur.mv rfl) ?_
  refine Reg.pur rfl rfl rfl rfl (Pur.nilc rfl) ?_
  refine Reg.pur rfl rfl rfl rfl (Pur.fld _ fo24_0 rfl) ?_
  refine Reg.lod rfl rfl rfl rfl (Lod.ldn ag22 rfl hB (show _ = Is (r.take 4) by rw [Nat.add_zero]; have h9 := congrArg (List.take 4) hc; rw [List.take_take] at h9; rw [show min 4 5 = 4 from rfl] at h9; rw [h9]; simp [Is, List.map_take]) (by simp [h5])) ?_
  refine Reg.pur rfl rfl rfl rfl (Pur.mv rfl) ?_
  refine Reg.nil ?_
  refine At.loop (σ := Nat × Option Addr × Nat) (fun (i, A', cap') => [(13, I i), (5, .slice A' (opsTo r i).length cap'), (12, .agg (Is (r.take 4)).toArray), (0, ptr rb ro), (1, .func (.func g) #[] us.toArray)]) (fun (i, A', cap') H' => i ≤ 4 ∧ Ext H H' ∧ Tens H' ∧ Blk H' rb cg ∧ Gs H' H.size 9 1 A' cap' (opsTo r i).length ((opsTo r i).flatMap Ss)) (fun s => 4 - s.1) (0, none, 0) rfl ⟨rfl, rfl, rfl, rfl, rfl, trivial⟩ ⟨by omega, hE, hT, hB, OwnS.nilG⟩ ?_
  clear hE hT hB
  rintro ⟨i, A', cap'⟩ H1 ⟨hi, hE, hT, hB, hg⟩ ih
  dsimp only at hi hg ⊢
  have z_hE := hE.lt
  have z_hT := hT.lt
  have z_hB := hB.lt
  have z_hg := hg.lt
  refine At.region rfl rfl ?_
  refine Reg.pur rfl rfl rfl rfl (Pur.lss rfl rfl) ?_
  refine Reg.nil ?_
  refine At.cond rfl rfl (fun q14 => ?_) (fun q14 => ?_)
  · first | (simp only [decide_eq_true_eq, decide_eq_false_iff_not, Bool.not_eq_true', Bool.not_eq_false', ne_eq, Decidable.not_not, Bool.not_eq_true, Bool.not_eq_false] at q14) | (dsimp only at q14) | skip
    have hlt : i < (r.take 4).length := by simp [h5]; omega
    have hat4 := take4_at h5 (i := i) (by omega)
    have hai : (Is (r.take 4))[(i : Int).toNat]? = some (I (r.getD i 0)) := by
      have : (Is (r.take 4))[i]? = some (I (r.take 4)[i]) := by simp only [Is, List.getElem?_map, List.getElem?_eq_getElem hlt, Option.map_some]
      rw [hat4] at this
      exact this
    have hi4 : i < 4 := by omega
    have hci := hcnt i hi4
    have hli := hln i (by omega)
    refine At.region rfl rfl ?_
    refine Reg.pur rfl rfl rfl rfl (Pur.mv rfl) ?_
    refine Reg.pur rfl rfl rfl rfl (Pur.ixA (n := 4) (by kernel_rfl) rfl rfl (by omega) (by omega) hai) ?_
    refine Reg.pur rfl rfl rfl rfl (Pur.asg rfl) ?_
    refine Reg.pur rfl rfl rfl rfl (Pur.asg rfl) ?_
    refine Reg.nil ?_
    refine At.region rfl rfl ?_
    refine Reg.pur rfl rfl rfl rfl (Pur.mv rfl) ?_
    refine Reg.pur rfl rfl rfl rfl (Pur.mv rfl) ?_
    refine Reg.nil ?_
    refine At.loop (σ := Nat × Option Addr × Nat) (fun (k, A', cap') => [(18, I k), (17, I (r.getD i 0)), (6, I i), (13, I i), (5, .slice A' (opsTo r i ++ List.replicate k (opn i)).length cap'), (12, .agg (Is (r.take 4)).toArray), (0, ptr rb ro), (1, .func (.func g) #[] us.toArray)]) (fun (k, A', cap') H' => (k : Int) ≤ r.getD i 0 ∧ Ext H H' ∧ Tens H' ∧ Blk H' rb cg ∧ Gs H' H.size 9 1 A' cap' (opsTo r i ++ List.replicate k (opn i)).length ((opsTo r i ++ List.replicate k (opn i)).flatMap Ss)) (fun s => (r.getD i 0).toNat - s.1) (0, A', cap') rfl ⟨rfl, rfl, rfl, rfl, by simp [lk], rfl, rfl, rfl, trivial⟩ ⟨by omega, hE, hT, hB, by simpa using hg⟩ ?_
    clear hE hT hB hg
    rintro ⟨k, A2', cap2'⟩ H2 ⟨hk, hE, hT, hB, hg⟩ ih2
    dsimp only at hk hg ⊢
    have z_hE := hE.lt
    have z_hT := hT.lt
    have z_hB := hB.lt
    have z_hg := hg.lt
    refine At.region rfl rfl ?_
    refine Reg.pur rfl rfl rfl rfl (Pur.lss rfl rfl) ?_
    refine Reg.nil ?_
    refine At.cond rfl rfl (fun q19 => ?_) (fun q19 => ?_)
    · first | (simp only [decide_eq_true_eq, decide_eq_false_iff_not, Bool.not_eq_true', Bool.not_eq_false', ne_eq, Decidable.not_not, Bool.not_eq_true, Bool.not_eq_false] at q19) | (dsimp only at q19) | skip
      refine At.region rfl rfl ?_
      refine Reg.pur rfl rfl rfl rfl (Pur.mv rfl) ?_
      refine Reg.pur rfl rfl rfl rfl (Pur.mv rfl) ?_
      refine Reg.op rfl rfl rfl rfl (Does.call rfl (itoa_ok i (by omega) hT)) ?_
      rintro _ H7_2 ⟨rfl, hE7_2⟩
      have z7_2 := hE7_2.lt
      replace hE := hE.ext hE7_2
      replace hT := hT.ext hE7_2
      replace hB := hB.ext hE7_2
      replace hg := hg.ext hE7_2
      refine Reg.pur rfl rfl rfl rfl (Pur.addS rfl rfl (szs (sl1 _) (dec_size _) (by decide))) ?_
      refine Reg.op rfl rfl rfl rfl (Does.bsl1 sl1_123 rfl rfl rfl rfl rfl) ?_
      rintro _ H7_4 ⟨rfl, hn7_4⟩
      have z7_4 := hn7_4.size
      replace hE := hE.ext hn7_4.ext
      replace hT := hT.ext hn7_4.ext
      replace hB := hB.ext hn7_4.ext
      replace hg := hg.ext hn7_4.ext
      have o7_4 := hn7_4.own
      refine Reg.op rfl rfl rfl rfl (Does.appL apt123 rfl rfl (by decide) hg (wideS _) (sl_new (L := [opn i]) (wideS _) (by decide) hn7_4 (by simp)) (ones_Ss _) (by simp; omega) (by omega)) ?_
      rintro _ H7_5 ⟨A7_5, cap7_5, rfl, g7_5, hbut7_5, ha7_5⟩
      have z7_5 := hbut7_5.lt
      replace hE := hE.via hbut7_5 (by first | omega | (intro g; omega) | (intro g hg; omega) | (intro g hg h; omega))
      replace hT := hT.via hbut7_5 (by first | omega | (intro g; omega) | (intro g hg; omega) | (intro g hg h; omega))
      replace hB := hB.via hbut7_5 (by first | omega | (intro g; omega) | (intro g hg; omega) | (intro g hg h; omega))
      replace o7_4 := o7_4.via hbut7_5 (by first | omega | (intro g; omega) | (intro g hg; omega) | (intro g hg h; omega))
      replace hg := g7_5
      have zg7_5 := g7_5.lt
      refine Reg.pur rfl rfl rfl rfl (Pur.asg rfl) ?_
      refine Reg.nil ?_
      refine At.region rfl rfl ?_
      first | refine Reg.pur rfl rfl rfl rfl (Pur.add64 rfl rfl (by omega)) ?_ | refine Reg.pur rfl rfl rfl rfl (Pur.add64 rfl rfl (by assumption)) ?_ | refine Reg.pur rfl rfl rfl rfl (Pur.add rfl rfl) ?_
      refine Reg.pur rfl rfl rfl rfl (Pur.mv rfl) ?_
      refine Reg.nil ?_
      have hs : opsTo r i ++ List.replicate k (opn i) ++ [opn i] = opsTo r i ++ List.replicate (k + 1) (opn i) := by rw [List.replicate_succ', List.append_assoc]
      rw [hs] at hg
      exact At.via (ih2 (k + 1, A7_5, cap7_5) _ ⟨by (show ((k + 1 : Nat) : Int) ≤ _); omega, hE, hT, hB, hg⟩ (by (show _ - (k + 1) < _ - k); omega)) ⟨rfl, rfl, rfl, rfl, by (show some (Value.slice _ _ _) = _); rw [hs], rfl, rfl, rfl, trivial⟩
    first | (simp only [decide_eq_true_eq, decide_eq_false_iff_not, Bool.not_eq_true', Bool.not_eq_false', ne_eq, Decidable.not_not, Bool.not_eq_true, Bool.not_eq_false] at q19) | (dsimp only at q19) | skip
    refine At.region rfl rfl ?_
    first | refine Reg.pur rfl rfl rfl rfl (Pur.add64 rfl rfl (by omega)) ?_ | refine Reg.pur rfl rfl rfl rfl (Pur.add64 rfl rfl (by assumption)) ?_ | refine Reg.pur rfl rfl rfl rfl (Pur.add rfl rfl) ?_
    refine Reg.pur rfl rfl rfl rfl (Pur.mv rfl) ?_
    refine Reg.nil ?_
    have hkr : (k : Nat) = (r.getD i 0).toNat := by omega
    subst hkr
    exact At.via (ih (i + 1, A2', cap2') _ ⟨by (show i + 1 ≤ 4); omega, hE, hT, hB, hg⟩ (by (show 4 - (i + 1) < 4 - i); omega)) ⟨rfl, rfl, rfl, rfl, rfl, trivial⟩
  first | (simp only [decide_eq_true_eq, decide_eq_false_iff_not, Bool.not_eq_true', Bool.not_eq_false', ne_eq, Decidable.not_not, Bool.not_eq_true, Bool.not_eq_false] at q14) | (dsimp only at q14) | skip
  obtain rfl : i = 4 := by omega
  have hs4 := hsz 4 (by omega)
  have hl4 := hln 4 (by omega)
  rw [rall_jn] at hs4
  refine At.region rfl rfl ?_
  refine Reg.pur rfl rfl rfl rfl (Pur.mv rfl) ?_
  refine Reg.op rfl rfl rfl rfl (Does.call rfl (join_ok (own_sl (wideS _) (by decide) hg) (by omega) (by omega))) ?_
  rintro _ H10_1 ⟨rfl, hE10_1⟩
  have z10_1 := hE10_1.lt
  replace hE := hE.ext hE10_1
  replace hT := hT.ext hE10_1
  replace hB := hB.ext hE10_1
  replace hg := hg.ext hE10_1
  refine Reg.pur rfl rfl rfl rfl (Pur.addS rfl rfl (szs (n := 1280) (sl1 _) (by omega) (by decide))) ?_
  refine Reg.pur rfl rfl rfl rfl (Pur.asg rfl) ?_
  refine Reg.nil ?_
  refine At.region rfl rfl ?_
  refine Reg.pur rfl rfl rfl rfl (Pur.mv rfl) ?_
  refine Reg.pur rfl rfl rfl rfl (Pur.nilc rfl) ?_
  refine Reg.pur rfl rfl rfl rfl (Pur.fld _ fo24_1 rfl) ?_
  refine Reg.lod rfl rfl rfl rfl (Lod.ld sc3 rfl hB (hat (j := 4) (by omega))) ?_
  refine Reg.pur rfl rfl rfl rfl (Pur.neq rfl rfl) ?_
  refine Reg.nil ?_
  refine At.cond rfl rfl (fun q35 => ?_) (fun q35 => ?_)
  · first | (simp only [decide_eq_true_eq, decide_eq_false_iff_not, Bool.not_eq_true', Bool.not_eq_false', ne_eq, Decidable.not_not, Bool.not_eq_true, Bool.not_eq_false] at q35) | (dsimp only at q35) | skip
    refine At.region rfl rfl ?_
    refine Reg.pur rfl rfl rfl rfl (Pur.mv rfl) ?_
    refine Reg.pur rfl rfl rfl rfl (Pur.mv rfl) ?_
    refine Reg.pur rfl rfl rfl rfl (Pur.mv rfl) ?_
    refine Reg.pur rfl rfl rfl rfl (Pur.nilc rfl) ?_
    refine Reg.pur rfl rfl rfl rfl (Pur.fld _ fo24_1 rfl) ?_
    refine Reg.lod rfl rfl rfl rfl (Lod.ld sc3 rfl hB (hat (j := 4) (by omega))) ?_
    refine Reg.op rfl rfl rfl rfl (Does.callv rfl rfl (hf _ hE (by omega))) ?_
    rintro _ H12_6 ⟨s, rfl, hss, hQ12_6⟩
    refine Reg.pur rfl rfl rfl rfl (Pur.addS rfl rfl (szs (n := 100) (sl1 _) (by omega) (by decide))) ?_
    refine Reg.pur rfl rfl rfl rfl (Pur.addS rfl rfl (szs (m := 1281) (n := 101) (sza (m := 1) (n := 1280) (sl1 _) (by omega)) (sza (m := 1) (n := 100) (sl1 _) (by omega)) (by decide))) ?_
    refine Reg.pur rfl rfl rfl rfl (Pur.asg rfl) ?_
    refine Reg.nil ?_
    refine At.region rfl rfl ?_
    refine Reg.pur rfl rfl rfl rfl (Pur.mv rfl) ?_
    refine Reg.pur rfl rfl rfl rfl (Pur.addS rfl rfl (szs (m := 1382) (n := 1) (by first | exact sza (m := 1281) (n := 101) (sza (m := 1) (n := 1280) (sl1 _) (by omega)) (sza (m := 1) (n := 100) (sl1 _) (by omega)) | exact Nat.le_trans (sza (m := 1) (n := 1280) (sl1 _) (by omega)) (by decide)) (sl1 _) (by decide))) ?_
    refine Reg.pur rfl rfl rfl rfl (Pur.asg rfl) ?_
    refine Reg.nil ?_
    refine At.ret rfl Tryd.func55 rfl ?_
    refine ⟨s, ?_, _, hE, .inl ⟨by omega, hQ12_6⟩⟩
    unfold wtx
    rw [if_pos (by omega), rall_jn]
    exact congrArg Value.string (WideShapes.bytes_inj (by simp only [dap, List.append_assoc]))
  first | (simp only [decide_eq_true_eq, decide_eq_false_iff_not, Bool.not_eq_true', Bool.not_eq_false', ne_eq, Decidable.not_not, Bool.not_eq_true, Bool.not_eq_false] at q35) | (dsimp only at q35) | skip
  refine At.region rfl rfl ?_
  refine Reg.pur rfl rfl rfl rfl (Pur.mv rfl) ?_
  refine Reg.pur rfl rfl rfl rfl (Pur.addS rfl rfl (szs (m := 1382) (n := 1) (by first | exact sza (m := 1281) (n := 101) (sza (m := 1) (n := 1280) (sl1 _) (by omega)) (sza (m := 1) (n := 100) (sl1 _) (by omega)) | exact Nat.le_trans (sza (m := 1) (n := 1280) (sl1 _) (by omega)) (by decide)) (sl1 _) (by decide))) ?_
  refine Reg.pur rfl rfl rfl rfl (Pur.asg rfl) ?_
  refine Reg.nil ?_
  refine At.ret rfl Tryd.func55 rfl ?_
  refine ⟨⟨#[]⟩, ?_, _, hE, .inr ⟨by omega, rfl⟩⟩
  unfold wtx
  rw [if_neg (by omega), rall_jn]
end Go.Proofs.YtlfillhffpiffaaDoor

namespace Go.Proofs.YtlfillhffpiffaaDoor
set_option linter.unusedSimpArgs false
set_option linter.unusedVariables false
set_option maxRecDepth 8000
open Go Go.Fx Go.Proofs
namespace FactsDShC
theorem es53 : esz Tryd.prog 53 = some 9 := by kernel_rfl
theorem fo55_0 : foff Tryd.prog 55 0 = some 0 := by kernel_rfl
theorem fo65_0 : foff Tryd.prog 65 0 = some 0 := by kernel_rfl
theorem fo65_1 : foff Tryd.prog 65 1 = some 1 := by kernel_rfl
theorem fo65_2 : foff Tryd.prog 65 2 = some 2 := by kernel_rfl
theorem fo65_3 : foff Tryd.prog 65 3 = some 3 := by kernel_rfl
theorem fo65_4 : foff Tryd.prog 65 4 = some 4 := by kernel_rfl
theorem mixed : Tryd.prog.follows .mixedOrders = true := by kernel_rfl
theorem sc108 : sc Tryd.prog 108 = true := by kernel_rfl
theorem sc3 : sc Tryd.prog 3 = true := by kernel_rfl
theorem sc53 : sc Tryd.prog 53 = true := by kernel_rfl
end FactsDShC
open FactsDShC

abbrev gT : Nat := 0
theorem rtx_neg {R r : List Int} (s : ByteArray) (h : r.getD 4 0 < 0) : wtx r s = rtx R r ∧ rnm R r = R := by
  unfold wtx rtx rnm
  rw [if_neg (by omega), if_neg (by omega), if_neg (by omega)]
  exact ⟨rfl, rfl⟩
theorem rtx_pos {R r : List Int} (h : 0 ≤ r.getD 4 0) : rnm R r = addL R (r.getD 4 0) := if_pos h

theorem textTail_ok {xb nb B c1 c2 : Nat} {A1 A2 : Option Addr} {T R : List Int} (v : Int) {H : Heap} (hX : Blk H xb [ptr nb 0]) (hT : Tens H) (hoT : Off nb A1 A2 (gT : Nat)) (hN : Nm H nb B A1 c1 T A2 c2 R) (hm : R.length ≤ 100000) :
    Ret Tryd.prog 85 [I v, ptr xb 0] H (fun w H' => w = .string (⟨#[101]⟩ ++ dec (ixL R v)) ∧ ∃ A2' c2', Nm H' nb B A1 c1 T A2' c2' (addL R v) ∧ Mod nb A1 A2 A1 A2' H H') := by
  have hix := ixL_le R v
  refine Ret.of_at (N := 9) Tryd.call85 Tryd.func85 rfl rfl rfl ?_
  have hE := Ext.refl H

  refine At.region rfl rfl ?_
  refine Reg.pur rfl rfl rfl rfl (Pur.asg rfl) ?_
  refine Reg.nil ?_
  refine At.region rfl rfl ?_
  refine Reg.lod rfl rfl rfl rfl (Lod.ld sc108 rfl hX rfl) ?_
  refine Reg.pur rfl rfl rfl rfl (Pur.mv rfl) ?_
  refine Reg.op rfl rfl rfl rfl (Does.call rfl (nm_Row v hN (by omega))) ?_
  rintro _ H1_2 ⟨rfl, A2a, c2a, hN1_2, hM1_2⟩
  refine Reg.op rfl rfl rfl rfl (Does.call rfl (itoa_ok (ixL R v) (by omega) (hT.via hM1_2.1 hoT.not))) ?_
  rintro _ H1_3 ⟨rfl, hE1_3⟩
  have z1_3 := hE1_3.lt
  refine Reg.pur rfl rfl rfl rfl (Pur.addS rfl rfl (szs (sl1 _) (dec_size _) (by decide))) ?_
  refine Reg.pur rfl rfl rfl rfl (Pur.asg rfl) ?_
  refine Reg.nil ?_
  refine At.ret rfl Tryd.func85 rfl ?_
  exact ⟨rfl, A2a, c2a, hN1_2.ext hE1_3, hM1_2.ext hE1_3⟩
theorem rowW_ok {xb rb ro nb B c1 c2 : Nat} {cg : List Value} {r : List Int} {A1 A2 : Option Addr} {T R : List Int} (h5 : r.length = 5) (hr : rowM r = true) {H : Heap} (hX : Blk H xb [ptr nb 0]) (hT : Tens H) (hoT : Off nb A1 A2 (gT : Nat)) (hB : Blk H rb cg) (hc : (cg.drop ro).take 5 = Is r) (hN : Nm H nb B A1 c1 T A2 c2 R) (hm : R.length ≤ 100000) :
    Ret Tryd.prog 55 [ptr rb ro, .func (.func 85) #[] #[ptr xb 0]] H (fun v H' => v = .string (rtx R r) ∧ ∃ A2' c2', Nm H' nb B A1 c1 T A2' c2' (rnm R r) ∧ Mod nb A1 A2 A1 A2' H H') := by
  refine (write_ok (us := [ptr xb 0]) (Q := fun s H1 H2 => s = ⟨#[101]⟩ ++ dec (ixL R (r.getD 4 0)) ∧ ∃ A2' c2', Nm H2 nb B A1 c1 T A2' c2' (addL R (r.getD 4 0)) ∧ Mod nb A1 A2 A1 A2' H1 H2) h5 hr hT hB hc (fun H1 hE h0 => (textTail_ok (r.getD 4 0) (hX.ext hE) (hT.ext hE) hoT (hN.ext hE) hm).mono ?_)).mono ?_
  · rintro v H2 ⟨rfl, h⟩
    exact ⟨_, rfl, by have := dec_size (ixL R (r.getD 4 0)); rw [ByteArray.size_append, sz1]; omega, rfl, h⟩
  · rintro v H' ⟨s, rfl, H1, hE, ⟨h0, rfl, A2', c2', hN', hM⟩ | ⟨h0, rfl⟩⟩
    · exact ⟨by rw [wtx_rtx], A2', c2', by rw [rtx_pos h0]; exact hN', ((Mod.refl nb A1 A2 H).ext hE).trans hM⟩
    · exact ⟨by rw [(rtx_neg (R := R) s h0).1], A2, c2, by rw [(rtx_neg (R := R) s h0).2]; exact hN.ext hE, (Mod.refl nb A1 A2 H).ext hE⟩

theorem textP_ok {L : List (List Int)} (hL : Nine L) {A : Option Addr} {cap nb B yb yo : Nat} {cy : List Value} (hm : L.length ≤ 256) (hcy : cy[yo]? = some (.slice A L.length cap)) : ∀ (f : Nat) (t : Tm) (pre post : List (List Int)), t.sz ≤ f → t.ok → L = pre ++ t.enc pre.length ++ post →
    ∀ {H : Heap} {A1 A2 : Option Addr} {c1 c2 : Nat} {T R : List Int}, Blk H yb cy → Tens H → SlT H Is 9 (.slice A L.length cap) L → Nm H nb B A1 c1 T A2 c2 R → T.length + R.length + t.sz ≤ 90000 → Off nb A1 A2 (ob A) → Off nb A1 A2 yb → Off nb A1 A2 (gT : Nat) → ∀ z : Int, z = (pre.length : Int) + t.sz - 1 →
    Ret Tryd.prog 62 [ptr nb 0, ptr yb yo, I z] H (fun v H' => v = .string (tx (T, R) t).1 ∧ ∃ A1' c1' A2' c2', Nm H' nb B A1' c1' (tx (T, R) t).2.1 A2' c2' (tx (T, R) t).2.2 ∧ Mod nb A1 A2 A1' A2' H H') := by
  intro f
  induction f with
  | zero => intro t _ _ h; have := t.sz_pos; omega
  | succ f ihf =>
  intro t pre post hf hok hLe H A1 A2 c1 c2 T R hY hT hS hN hlen hoA hoY hoT z hz
  have hlL : L.length = pre.length + t.sz + post.length := by rw [hLe, List.length_append, List.length_append, Tm.enc_len]
  have hpos := t.sz_pos
  obtain ⟨b, o, c, rfl, hB, hd, hx9, hat⟩ := el_cells hL hS (z := z) (by omega) (by omega)
  obtain ⟨n0, n1, n2, n3⟩ := nd_at t pre post (el L z) (by rw [← hLe, hz])
  generalize el L z = x at hd hx9 hat n0 n1 n2 n3
  have hob : ob (some ⟨b, o, none⟩) = b := ob_some b o
  have zB := Int.ofNat_lt.2 hB.lt
  have zY := Int.ofNat_lt.2 hY.lt
  have zT := Int.ofNat_lt.2 hT.lt
  have zN := hN.own.lt
  rw [hob] at hoA
  refine Ret.of_at (N := 61) Tryd.call62 Tryd.func62 rfl rfl rfl ?_
  have hE := Ext.refl H

  refine At.region rfl rfl ?_
  refine Reg.op rfl rfl rfl rfl (Does.box rfl rfl) ?_
  rintro _ H0_0 ⟨rfl, hn0_0⟩
  have z0_0 := hn0_0.size
  have o0_0 := hn0_0.own
  refine Reg.pur rfl rfl rfl rfl (Pur.asg rfl) ?_
  refine Reg.nil ?_

  have hX : Blk H0_0 H.size [ptr nb 0] := o0_0.blk
  have hE0 : Ext H H0_0 := hn0_0.ext
  have hN0 := hN.ext hE0
  have hS0 := hS.ext hE0
  have hY0 := hY.ext hE0
  have hT0 := hT.ext hE0
  have hB0 := hB.ext hE0
  have hoX : Off nb A1 A2 H.size := ⟨by omega, by have := hN.g1.lt; omega, by have := hN.g2.lt; omega⟩
  have zX := Int.ofNat_lt.2 hX.lt
  have hM0 : Mod nb A1 A2 A1 A2 H H0_0 := (Mod.refl nb A1 A2 H).ext hE0
  have zB0 := Int.ofNat_lt.2 hB0.lt
  have zY0 := Int.ofNat_lt.2 hY0.lt
  have zT0 := Int.ofNat_lt.2 hT0.lt
  refine At.region rfl rfl ?_
  refine Reg.pur rfl rfl rfl rfl (Pur.mv rfl) ?_
  refine Reg.pur rfl rfl rfl rfl (Pur.nilc rfl) ?_
  refine Reg.pur rfl rfl rfl rfl (Pur.fld _ fo55_0 rfl) ?_
  refine Reg.lod rfl rfl rfl rfl (Lod.ld sc53 rfl hY0 hcy) ?_
  refine Reg.pur rfl rfl rfl rfl (Pur.mv rfl) ?_
  refine Reg.pur rfl rfl rfl rfl (Pur.idx _ es53 rfl rfl (by omega) (by omega)) ?_
  refine Reg.pur rfl rfl rfl rfl (Pur.asg rfl) ?_
  refine Reg.nil ?_
  refine At.region rfl rfl ?_
  refine Reg.pur rfl rfl rfl rfl (Pur.mv rfl) ?_
  refine Reg.pur rfl rfl rfl rfl (Pur.nilc rfl) ?_
  refine Reg.pur rfl rfl rfl rfl (Pur.fld _ fo65_0 rfl) ?_
  refine Reg.lod rfl rfl rfl rfl (Lod.ld sc3 rfl hB0 (hat 0 (by omega))) ?_
  refine Reg.nil ?_
  refine At.region rfl rfl ?_
  refine Reg.pur rfl rfl rfl rfl (Pur.eql rfl rfl) ?_
  refine Reg.pur rfl rfl rfl rfl (Pur.asg rfl) ?_
  refine Reg.nil ?_
  refine At.cond rfl rfl (fun q20 => ?_) (fun q20 => ?_)
  · first | (simp only [decide_eq_true_eq, decide_eq_false_iff_not, Bool.not_eq_true', Bool.not_eq_false', ne_eq, Decidable.not_not, Bool.not_eq_true, Bool.not_eq_false] at q20) | (dsimp only at q20) | skip
    refine At.region rfl rfl ?_
    refine Reg.pur rfl rfl rfl rfl (Pur.asg rfl) ?_
    refine Reg.nil ?_
    refine At.ret rfl Tryd.func62 rfl ?_
    obtain rfl := n0 q20
    exact ⟨rfl, A1, c1, A2, c2, hN0, hM0⟩
  first | (simp only [decide_eq_true_eq, decide_eq_false_iff_not, Bool.not_eq_true', Bool.not_eq_false', ne_eq, Decidable.not_not, Bool.not_eq_true, Bool.not_eq_false] at q20) | (dsimp only at q20) | skip
  refine At.region rfl rfl ?_
  refine Reg.pur rfl rfl rfl rfl (Pur.eql rfl rfl) ?_
  refine Reg.pur rfl rfl rfl rfl (Pur.asg rfl) ?_
  refine Reg.nil ?_
  refine At.cond rfl rfl (fun q22 => ?_) (fun q22 => ?_)
  · first | (simp only [decide_eq_true_eq, decide_eq_false_iff_not, Bool.not_eq_true', Bool.not_eq_false', ne_eq, Decidable.not_not, Bool.not_eq_true, Bool.not_eq_false] at q22) | (dsimp only at q22) | skip
    refine At.region rfl rfl ?_
    refine Reg.pur rfl rfl rfl rfl (Pur.asg rfl) ?_
    refine Reg.nil ?_
    refine At.ret rfl Tryd.func62 rfl ?_
    obtain rfl := n1 q22
    exact ⟨rfl, A1, c1, A2, c2, hN0, hM0⟩
  first | (simp only [decide_eq_true_eq, decide_eq_false_iff_not, Bool.not_eq_true', Bool.not_eq_false', ne_eq, Decidable.not_not, Bool.not_eq_true, Bool.not_eq_false] at q22) | (dsimp only at q22) | skip
  refine At.region rfl rfl ?_
  refine Reg.pur rfl rfl rfl rfl (Pur.eql rfl rfl) ?_
  refine Reg.pur rfl rfl rfl rfl (Pur.asg rfl) ?_
  refine Reg.nil ?_
  refine At.cond rfl rfl (fun q24 => ?_) (fun q24 => ?_)
  · first | (simp only [decide_eq_true_eq, decide_eq_false_iff_not, Bool.not_eq_true', Bool.not_eq_false', ne_eq, Decidable.not_not, Bool.not_eq_true, Bool.not_eq_false] at q24) | (dsimp only at q24) | skip
    refine At.drawE ((Bks.cons hX.blk (Bks.cons hB0.blk Bks.nil))) [5] mixed rfl rfl ?_
    refine RegD.take (i := 0) rfl rfl rfl rfl (by kernel_rfl) (Bks.cons hX.blk (Bks.cons hB0.blk Bks.nil)) (fun H hS => Lod.ld sc108 rfl hS.hd rfl) ?_
    refine RegD.tpur (i := 1) rfl rfl rfl rfl (by kernel_rfl) (Pur.mv rfl) ?_
    refine RegD.tpur (i := 2) rfl rfl rfl rfl (by kernel_rfl) (Pur.nilc rfl) ?_
    refine RegD.tpur (i := 3) rfl rfl rfl rfl (by kernel_rfl) (Pur.fld _ fo65_1 rfl) ?_
    refine RegD.take (i := 4) rfl rfl rfl rfl (by kernel_rfl) (Bks.cons hX.blk (Bks.cons hB0.blk Bks.nil)) (fun H hS => Lod.ld sc3 rfl hS.tl.hd (hat 1 (by omega))) ?_
    have hix := ixL_le T (x.getD 1 0)
    refine RegD.one (i := 5) (by kernel_rfl) rfl rfl rfl rfl (Does.call rfl (nm_Type _ hN0 (by omega))) ?_
    rintro _ H8_5 ⟨rfl, A1a, c1a, hN8_5, hM8_5⟩
    replace hX := hX.via hM8_5.1 hoX.not
    replace hB0 := hB0.via hM8_5.1 hoA.not
    refine ⟨fun h => (by cases h), ?_⟩
    refine RegD.one (i := 6) (by kernel_rfl) rfl rfl rfl rfl (Does.call rfl (itoa_ok (ixL T (x.getD 1 0)) (by omega) (hT0.via hM8_5.1 hoT.not))) ?_
    rintro _ H8_6 ⟨rfl, hD8_6⟩
    replace hX := hX.ext hD8_6
    replace hB0 := hB0.ext hD8_6
    refine ⟨fun _ _ => (Bks.cons hX.blk (Bks.cons hB0.blk Bks.nil)), ?_⟩
    refine RegD.tpur (i := 7) rfl rfl rfl rfl (by kernel_rfl) (Pur.addS rfl rfl (szs (sl1 _) (dec_size _) (by decide))) ?_
    refine RegD.tpur (i := 8) rfl rfl rfl rfl (by kernel_rfl) (Pur.asg rfl) ?_
    refine RegD.done (by kernel_rfl) ?_
    refine At.ret rfl Tryd.func62 rfl ?_
    have ht := n2 q24
    rw [ht]
    exact ⟨rfl, A1a, c1a, A2, c2, hN8_5.ext hD8_6, (hM0.trans hM8_5).ext hD8_6⟩
  first | (simp only [decide_eq_true_eq, decide_eq_false_iff_not, Bool.not_eq_true', Bool.not_eq_false', ne_eq, Decidable.not_not, Bool.not_eq_true, Bool.not_eq_false] at q24) | (dsimp only at q24) | skip
  obtain ⟨ta, r, tb, rfl, rfl⟩ := n3 q20 q22 q24
  obtain ⟨hoa, hr5, hrow, hob2⟩ := hok
  have hpa := ta.sz_pos
  have hpb := tb.sz_pos
  have e0 : (Tm.fn ta r tb).sz = ta.sz + tb.sz + 1 := rfl
  have sA : (tx (T, R) ta).1.size ≤ 358400 := Nat.le_trans (tx_size ta _ hoa) (by omega)
  have lA := tx_len ta (T, R)
  have lR := rnm_len (tx (T, R) ta).2.2 r
  have sR := rtx_size (R := (tx (T, R) ta).2.2) hr5 hrow
  have sB : (tx ((tx (T, R) ta).2.1, rnm (tx (T, R) ta).2.2 r) tb).1.size ≤ 358400 := Nat.le_trans (tx_size tb _ hob2) (by omega)
  dsimp only at lA
  have hrp := nod_row hd hr5
  refine At.drawE ((Bks.cons hX.blk (Bks.cons hB0.blk Bks.nil))) [6] mixed rfl rfl ?_
  refine RegD.take (i := 0) rfl rfl rfl rfl (by kernel_rfl) (Bks.cons hX.blk (Bks.cons hB0.blk Bks.nil)) (fun H hS => Lod.ld sc108 rfl hS.hd rfl) ?_
  refine RegD.tpur (i := 1) rfl rfl rfl rfl (by kernel_rfl) (Pur.mv rfl) ?_
  refine RegD.tpur (i := 2) rfl rfl rfl rfl (by kernel_rfl) (Pur.mv rfl) ?_
  refine RegD.tpur (i := 3) rfl rfl rfl rfl (by kernel_rfl) (Pur.nilc rfl) ?_
  refine RegD.tpur (i := 4) rfl rfl rfl rfl (by kernel_rfl) (Pur.fld _ fo65_2 rfl) ?_
  refine RegD.take (i := 5) rfl rfl rfl rfl (by kernel_rfl) (Bks.cons hX.blk (Bks.cons hB0.blk Bks.nil)) (fun H hS => Lod.ld sc3 rfl hS.tl.hd (show _ = some (I ((pre.length : Int) + ta.sz - 1)) from hat 2 (by omega))) ?_
  refine RegD.one (i := 6) (by kernel_rfl) rfl rfl rfl rfl (Does.call rfl (ihf ta pre _ (by omega) hoa (hLe.trans (spl_a ta r tb pre post)) hY0 hT0 hS0 hN0 (by omega) (by rw [hob]; exact hoA) hoY hoT _ rfl)) ?_
  rintro _ H9_6 ⟨rfl, A1a, c1a, A2a, c2a, hN9_6, hM9_6⟩
  have hX1 := hX.via hM9_6.1 hoX.not
  have hY1 := hY0.via hM9_6.1 hoY.not
  have hT1 := hT0.via hM9_6.1 hoT.not
  have hB1 := hB0.via hM9_6.1 hoA.not
  have hS1 := hS0.via hM9_6.1 (fun _ g hg => by rw [hob] at hg; obtain rfl : g = b := (by omega); exact hoA.not)
  have hoX1 := hoX.mod zX hM9_6
  have hoA1 := hoA.mod zB0 hM9_6
  have hoY1 := hoY.mod zY0 hM9_6
  have hoT1 := hoT.mod zT0 hM9_6
  have zX1 := Int.ofNat_lt.2 hX1.lt
  have zB1 := Int.ofNat_lt.2 hB1.lt
  have zY1 := Int.ofNat_lt.2 hY1.lt
  have zT1 := Int.ofNat_lt.2 hT1.lt
  refine ⟨fun h => (by cases h), ?_⟩
  refine RegD.tpur (i := 7) rfl rfl rfl rfl (by kernel_rfl) (Pur.asg rfl) ?_
  refine RegD.done (by kernel_rfl) ?_
  refine At.region rfl rfl ?_
  refine Reg.pur rfl rfl rfl rfl (Pur.mv rfl) ?_
  refine Reg.pur rfl rfl rfl rfl (Pur.nilc rfl) ?_
  refine Reg.pur rfl rfl rfl rfl (Pur.fld _ fo65_4 rfl) ?_
  refine Reg.pur rfl rfl rfl rfl (Pur.mkf rfl rfl) ?_
  refine Reg.op rfl rfl rfl rfl (Does.call rfl (rowW_ok hr5 hrow hX1 hT1 hoT1 hB1 hrp hN9_6 (by omega))) ?_
  rintro _ H10_4 ⟨rfl, A2b, c2b, hN10_4, hM10_4⟩
  have hX2 := hX1.via hM10_4.1 hoX1.not
  have hY2 := hY1.via hM10_4.1 hoY1.not
  have hT2 := hT1.via hM10_4.1 hoT1.not
  have hB2 := hB1.via hM10_4.1 hoA1.not
  have hS2 := hS1.via hM10_4.1 (fun _ g hg => by rw [hob] at hg; obtain rfl : g = b := (by omega); exact hoA1.not)
  have hoA2 := hoA1.mod zB1 hM10_4
  have hoY2 := hoY1.mod zY1 hM10_4
  have hoT2 := hoT1.mod zT1 hM10_4
  refine Reg.pur rfl rfl rfl rfl (Pur.asg rfl) ?_
  refine Reg.nil ?_
  refine At.drawE ((Bks.cons hX2.blk (Bks.cons hB2.blk Bks.nil))) [12] mixed rfl rfl ?_
  refine RegD.tpur (i := 0) rfl rfl rfl rfl (by kernel_rfl) (Pur.mv rfl) ?_
  refine RegD.tpur (i := 1) rfl rfl rfl rfl (by kernel_rfl) (Pur.addS rfl rfl (szs (sl1 _) sA (by decide))) ?_
  refine RegD.tpur (i := 2) rfl rfl rfl rfl (by kernel_rfl) (Pur.addS rfl rfl (szs (sza (sl1 _) sA) (sl2 _ _) (by decide))) ?_
  refine RegD.tpur (i := 3) rfl rfl rfl rfl (by kernel_rfl) (Pur.mv rfl) ?_
  refine RegD.tpur (i := 4) rfl rfl rfl rfl (by kernel_rfl) (Pur.addS rfl rfl (szs (sza (sza (sl1 _) sA) (sl2 _ _)) sR (by decide))) ?_
  refine RegD.tpur (i := 5) rfl rfl rfl rfl (by kernel_rfl) (Pur.addS rfl rfl (szs (sza (sza (sza (sl1 _) sA) (sl2 _ _)) sR) (sl1 _) (by decide))) ?_
  refine RegD.take (i := 6) rfl rfl rfl rfl (by kernel_rfl) (Bks.cons hX2.blk (Bks.cons hB2.blk Bks.nil)) (fun H hS => Lod.ld sc108 rfl hS.hd rfl) ?_
  refine RegD.tpur (i := 7) rfl rfl rfl rfl (by kernel_rfl) (Pur.mv rfl) ?_
  refine RegD.tpur (i := 8) rfl rfl rfl rfl (by kernel_rfl) (Pur.mv rfl) ?_
  refine RegD.tpur (i := 9) rfl rfl rfl rfl (by kernel_rfl) (Pur.nilc rfl) ?_
  refine RegD.tpur (i := 10) rfl rfl rfl rfl (by kernel_rfl) (Pur.fld _ fo65_3 rfl) ?_
  refine RegD.take (i := 11) rfl rfl rfl rfl (by kernel_rfl) (Bks.cons hX2.blk (Bks.cons hB2.blk Bks.nil)) (fun H hS => Lod.ld sc3 rfl hS.tl.hd (show _ = some (I ((pre.length : Int) + ta.sz + tb.sz - 1)) from hat 3 (by omega))) ?_
  refine RegD.one (i := 12) (by kernel_rfl) rfl rfl rfl rfl (Does.call rfl (ihf tb (pre ++ ta.enc pre.length) _ (by omega) hob2 (hLe.trans (spl_b ta r tb pre post)) hY2 hT2 hS2 hN10_4 (by first | omega | (dsimp only; omega)) (by rw [hob]; exact hoA2) hoY2 hoT2 _ (by rw [spl_l]; omega))) ?_
  rintro _ H11_12 ⟨rfl, A1d, c1d, A2d, c2d, hN11_12, hM11_12⟩
  refine ⟨fun h => (by cases h), ?_⟩
  refine RegD.tpur (i := 13) rfl rfl rfl rfl (by kernel_rfl) (Pur.addS rfl rfl (szs (sza (sza (sza (sza (sl1 _) sA) (sl2 _ _)) sR) (sl1 _)) sB (by decide))) ?_
  refine RegD.tpur (i := 14) rfl rfl rfl rfl (by kernel_rfl) (Pur.addS rfl rfl (szs (sza (sza (sza (sza (sza (sl1 _) sA) (sl2 _ _)) sR) (sl1 _)) sB) (sl1 _) (by decide))) ?_
  refine RegD.tpur (i := 15) rfl rfl rfl rfl (by kernel_rfl) (Pur.asg rfl) ?_
  refine RegD.done (by kernel_rfl) ?_
  refine At.ret rfl Tryd.func62 rfl ?_
  exact ⟨rfl, A1d, c1d, A2d, c2d, hN11_12, ((hM0.trans hM9_6).trans hM10_4).trans hM11_12⟩
end Go.Proofs.YtlfillhffpiffaaDoor

namespace Go.Proofs.YtlfillhffpiffaaDoor
set_option linter.unusedSimpArgs false
set_option linter.unusedVariables false
set_option maxRecDepth 8000
set_option maxHeartbeats 1000000
open Go Go.Fx Go.Proofs
namespace FactsDShD
theorem ag55 : ag Tryd.prog 55 = some 1 := by kernel_rfl
theorem fo55_0 : foff Tryd.prog 55 0 = some 0 := by kernel_rfl
theorem isl53 : isSl Tryd.prog 53 = true := by kernel_rfl
theorem pl109 : places Tryd.prog 109 = some [(0, 1), (1, 1)] := by kernel_rfl
theorem pl91 : places Tryd.prog 91 = some [(0, 1), (1, 1)] := by kernel_rfl
theorem sc53 : sc Tryd.prog 53 = true := by kernel_rfl
theorem zc109 : zc Tryd.prog 109 = some [.slice none 0 0, .slice none 0 0] := by kernel_rfl
theorem zc91 : zc Tryd.prog 91 = some [.slice none 0 0, .slice none 0 0] := by kernel_rfl
end FactsDShD
open FactsDShD

open Classical in
noncomputable def dcd (L : List (List Int)) : Tm := if h : ∃ t : Tm, t.ok ∧ t.sz ≤ 256 ∧ L = t.enc 0 then h.choose else .bas false
theorem dcd_enc {t : Tm} (h : t.ok) (hz : t.sz ≤ 256) : dcd (t.enc 0) = t := by
  unfold dcd
  have hx : ∃ u : Tm, u.ok ∧ u.sz ≤ 256 ∧ t.enc 0 = u.enc 0 := ⟨t, h, hz, rfl⟩
  rw [dif_pos hx]
  have h3 := hx.choose_spec
  exact enc_inj h3.1 h h3.2.1 h3.2.2.symm
noncomputable def txV (L : List (List Int)) : ByteArray × Int := if typM L then ((tx ([], []) (dcd L)).1, 0) else (⟨#[]⟩, 700)
theorem txV_enc {t : Tm} (h : t.ok) (hz : t.sz ≤ 256) : txV (t.enc 0) = ((tx ([], []) t).1, 0) := by
  unfold txV; rw [enc_typ h hz, dcd_enc h hz]; rfl
theorem txV_no {L : List (List Int)} (h : typM L = false) : txV L = (⟨#[]⟩, 700) := by unfold txV; rw [h]; rfl
theorem typText_ok {A : Option Addr} {cap : Nat} {L : List (List Int)} (hL : Nine L) {H : Heap} (hT : Tens H) (hS : SlT H Is 9 (.slice A L.length cap) L) (hl : L.length ≤ 9223372036854775807) :
    Ret Tryd.prog 39 [Ty A L.length cap] H (fun v H' => v = .tuple #[.string (txV L).1, I (txV L).2] ∧ Ext H H') := by
  have zT : gT < H.size := hT.lt
  refine Ret.of_at (N := 14) Tryd.call39 Tryd.func39 rfl rfl rfl ?_
  have hE := Ext.refl H
  refine At.region rfl rfl ?_
  refine Reg.op rfl rfl rfl rfl (Does.box rfl rfl) ?_
  rintro _ H0_0 ⟨rfl, hn0_0⟩
  have z0_0 := hn0_0.size
  replace hE := hE.ext hn0_0.ext
  have o0_0 := hn0_0.own
  refine Reg.pur rfl rfl rfl rfl (Pur.asg rfl) ?_
  refine Reg.pur rfl rfl rfl rfl (Pur.asg rfl) ?_
  refine Reg.nil ?_
  refine At.region rfl rfl ?_
  refine Reg.lod rfl rfl rfl rfl (Lod.ldn ag55 rfl o0_0.blk (whole rfl) rfl) ?_
  refine Reg.op rfl rfl rfl rfl (Does.call rfl (typMay_ok L hL (hS.ext hE) hl)) ?_
  rintro _ H1_1 ⟨rfl, hE1_1⟩
  have z1_1 := hE1_1.lt
  replace hE := hE.ext hE1_1
  replace o0_0 := o0_0.ext hE1_1
  refine Reg.pur rfl rfl rfl rfl (Pur.not rfl) ?_
  refine Reg.nil ?_
  refine At.cond rfl rfl (fun q6 => ?_) (fun q6 => ?_)
  · first | (simp only [decide_eq_true_eq, decide_eq_false_iff_not, Bool.not_eq_true', Bool.not_eq_false', ne_eq, Decidable.not_not, Bool.not_eq_true, Bool.not_eq_false] at q6) | (dsimp only at q6) | skip
    refine At.region rfl rfl ?_
    refine Reg.pur rfl rfl rfl rfl (Pur.asg rfl) ?_
    refine Reg.pur rfl rfl rfl rfl (Pur.asg rfl) ?_
    refine Reg.nil ?_
    refine At.ret rfl Tryd.func39 rfl ?_
    rw [txV_no q6]; exact ⟨rfl, hE⟩
  first | (simp only [decide_eq_true_eq, decide_eq_false_iff_not, Bool.not_eq_true', Bool.not_eq_false', ne_eq, Decidable.not_not, Bool.not_eq_true, Bool.not_eq_false] at q6) | (dsimp only at q6) | skip
  obtain ⟨t, hok, rfl, hsz⟩ := typ_dec hL q6
  have hl' : (t.enc 0).length = t.sz := Tm.enc_len t 0
  have hpos := t.sz_pos
  refine At.region rfl rfl ?_
  refine Reg.pur rfl rfl rfl rfl (Pur.bld (cs := [_, _]) pl109 zc109 rfl rfl ⟨rfl, rfl, rfl⟩) ?_
  refine Reg.op rfl rfl rfl rfl (Does.box rfl rfl) ?_
  rintro _ H3_1 ⟨rfl, hn3_1⟩
  have z3_1 := hn3_1.size
  replace hE := hE.ext hn3_1.ext
  replace o0_0 := o0_0.ext hn3_1.ext
  have o3_1 := hn3_1.own
  refine Reg.pur rfl rfl rfl rfl (Pur.fld _ fo55_0 rfl) ?_
  refine Reg.lod rfl rfl rfl rfl (Lod.ld sc53 rfl o0_0.blk rfl) ?_
  refine Reg.pur rfl rfl rfl rfl (Pur.lenS isl53 rfl) ?_
  refine Reg.pur rfl rfl rfl rfl (Pur.sub64 rfl rfl (by omega)) ?_
  refine Reg.op rfl rfl rfl rfl (Does.call rfl (textP_ok hL (by omega) (at0 _) t.sz t [] [] (Nat.le_refl _) hok (by simp) o0_0.blk (hT.ext hE) (hS.ext hE) (nm_new (B := H.size) o3_1 (by omega)) (by simp; omega) (off_none (by have := hS.lt; omega) (by have := hS.lt; omega)) (off_none (by omega) (by omega)) (off_none (by omega) (by omega)) _ (by rw [hl']; simp))) ?_
  rintro _ H3_6 ⟨rfl, A1, c1, A2, c2, hN3_6, hM3_6⟩
  refine Reg.pur rfl rfl rfl rfl (Pur.asg rfl) ?_
  refine Reg.pur rfl rfl rfl rfl (Pur.asg rfl) ?_
  refine Reg.nil ?_
  refine At.ret rfl Tryd.func39 rfl ?_
  rw [txV_enc hok hsz]; exact ⟨rfl, mod_ext hM3_6 hE (by omega)⟩
theorem typTextR_ok {A : Option Addr} {cap : Nat} {L : List (List Int)} (hL : Nine L) {H : Heap} (hS : SlT H Is 9 (.slice A L.length cap) L) (hl : L.length ≤ 9223372036854775807) :
    Ret Tryd.prog 40 [Ty A L.length cap] H (fun v H' => v = .tuple #[.string (txV L).1, I (txV L).2] ∧ Ext H H') := by
  refine Ret.of_at (N := 18) Tryd.call40 Tryd.func40 rfl rfl rfl ?_
  have hE := Ext.refl H
  refine At.region rfl rfl ?_
  refine Reg.op rfl rfl rfl rfl (Does.box rfl rfl) ?_
  rintro _ H0_0 ⟨rfl, hn0_0⟩
  have z0_0 := hn0_0.size
  replace hE := hE.ext hn0_0.ext
  have o0_0 := hn0_0.own
  refine Reg.pur rfl rfl rfl rfl (Pur.asg rfl) ?_
  refine Reg.pur rfl rfl rfl rfl (Pur.asg rfl) ?_
  refine Reg.nil ?_
  refine At.region rfl rfl ?_
  refine Reg.lod rfl rfl rfl rfl (Lod.ldn ag55 rfl o0_0.blk (whole rfl) rfl) ?_
  refine Reg.op rfl rfl rfl rfl (Does.call rfl (typMayR_ok L hL (hS.ext hE) hl)) ?_
  rintro _ H1_1 ⟨rfl, hE1_1⟩
  have z1_1 := hE1_1.lt
  replace hE := hE.ext hE1_1
  replace o0_0 := o0_0.ext hE1_1
  refine Reg.pur rfl rfl rfl rfl (Pur.not rfl) ?_
  refine Reg.nil ?_
  refine At.cond rfl rfl (fun q7 => ?_) (fun q7 => ?_)
  · first | (simp only [decide_eq_true_eq, decide_eq_false_iff_not, Bool.not_eq_true', Bool.not_eq_false', ne_eq, Decidable.not_not, Bool.not_eq_true, Bool.not_eq_false] at q7) | (dsimp only at q7) | skip
    refine At.region rfl rfl ?_
    refine Reg.pur rfl rfl rfl rfl (Pur.asg rfl) ?_
    refine Reg.pur rfl rfl rfl rfl (Pur.asg rfl) ?_
    refine Reg.nil ?_
    refine At.ret rfl Tryd.func40 rfl ?_
    rw [txV_no q7]; exact ⟨rfl, hE⟩
  first | (simp only [decide_eq_true_eq, decide_eq_false_iff_not, Bool.not_eq_true', Bool.not_eq_false', ne_eq, Decidable.not_not, Bool.not_eq_true, Bool.not_eq_false] at q7) | (dsimp only at q7) | skip
  obtain ⟨t, hok, rfl, hsz⟩ := typ_dec hL q7
  have hl' : (t.enc 0).length = t.sz := Tm.enc_len t 0
  have hpos := t.sz_pos
  refine At.region rfl rfl ?_
  refine Reg.pur rfl rfl rfl rfl (Pur.bld (cs := [_, _]) pl91 zc91 rfl rfl ⟨rfl, rfl, rfl⟩) ?_
  refine Reg.op rfl rfl rfl rfl (Does.box rfl rfl) ?_
  rintro _ H3_1 ⟨rfl, hn3_1⟩
  have z3_1 := hn3_1.size
  replace hE := hE.ext hn3_1.ext
  replace o0_0 := o0_0.ext hn3_1.ext
  have o3_1 := hn3_1.own
  refine Reg.pur rfl rfl rfl rfl (Pur.asg rfl) ?_
  refine Reg.nil ?_
  refine At.region rfl rfl ?_
  refine Reg.pur rfl rfl rfl rfl (Pur.mv rfl) ?_
  refine Reg.pur rfl rfl rfl rfl (Pur.fld _ fo55_0 rfl) ?_
  refine Reg.lod rfl rfl rfl rfl (Lod.ld sc53 rfl o0_0.blk rfl) ?_
  refine Reg.pur rfl rfl rfl rfl (Pur.fld _ fo55_0 rfl) ?_
  refine Reg.lod rfl rfl rfl rfl (Lod.ld sc53 rfl o0_0.blk rfl) ?_
  refine Reg.pur rfl rfl rfl rfl (Pur.lenS isl53 rfl) ?_
  refine Reg.pur rfl rfl rfl rfl (Pur.sub64 rfl rfl (by omega)) ?_
  refine Reg.op rfl rfl rfl rfl (Does.call rfl (text_ok hL (by omega) t.sz t [] [] (Nat.le_refl _) hok (by simp) (hS.ext hE) (nm_new (B := H.size) o3_1 (by omega)) (by simp; omega) (off_none (by have := hS.lt; omega) (by have := hS.lt; omega)) _ (by rw [hl']; simp))) ?_
  rintro _ H4_7 ⟨rfl, A1, c1, A2, c2, hN4_7, hM4_7⟩
  refine Reg.pur rfl rfl rfl rfl (Pur.asg rfl) ?_
  refine Reg.pur rfl rfl rfl rfl (Pur.asg rfl) ?_
  refine Reg.nil ?_
  refine At.ret rfl Tryd.func40 rfl ?_
  rw [txV_enc hok hsz]; exact ⟨rfl, mod_ext hM4_7 hE (by omega)⟩
end Go.Proofs.YtlfillhffpiffaaDoor

namespace Go.Proofs
open Go.Shelf
def Tryd.growT_ren : Go.Shelf.Ren := ⟨fun | 4 => 105 | n => n, fun | 22 => 53 | 25 => 65 | 3 => 3 | 4 => 4 | 9 => 9 | 20 => 20 | 0 => 0 | n => n, fun | n => n⟩
theorem Tryd.growT : Go.Proofs.Lays8.n4 Tryd.prog Tryd.growT_ren := {
  mixed := by kernel_rfl
  f4 := ⟨Tryd.f105.name, by decide, Tryd.func105.trans (congrArg some (by kernel_rfl))⟩
  t0 := Tryd.underlying0
  a0 := Tryd.isAgg0
  z0 := Tryd.sizeOf0
  v0 := Tryd.zeroValue0
  t3 := Tryd.underlying3
  a3 := Tryd.isAgg3
  z3 := Tryd.sizeOf3
  v3 := Tryd.zeroValue3
  t4 := Tryd.underlying4
  a4 := Tryd.isAgg4
  z4 := Tryd.sizeOf4
  v4 := Tryd.zeroValue4
  t9 := Tryd.underlying9
  a9 := Tryd.isAgg9
  z9 := Tryd.sizeOf9
  v9 := Tryd.zeroValue9
  t20 := Tryd.underlying20
  a20 := Tryd.isAgg20
  z20 := Tryd.sizeOf20
  v20 := Tryd.zeroValue20
  t22 := Tryd.underlying53
  a22 := Tryd.isAgg53
  z22 := Tryd.sizeOf53
  v22 := Tryd.zeroValue53 }
end Go.Proofs

namespace Go.Proofs.YtlfillhffpiffaaDoor
set_option linter.unusedSimpArgs false
set_option linter.unusedVariables false
set_option maxRecDepth 8000
set_option maxHeartbeats 1000000
open Go Go.Fx Go.Proofs
namespace FactsDFnA
theorem apt53 : appT Tryd.prog 53 = some (65, 9, 72) := by kernel_rfl
theorem es158 : esz Tryd.prog 158 = some 1 := by kernel_rfl
theorem isl158 : isSl Tryd.prog 158 = true := by kernel_rfl
theorem isl53 : isSl Tryd.prog 53 = true := by kernel_rfl
theorem sc53 : sc Tryd.prog 53 = true := by kernel_rfl
end FactsDFnA
open FactsDFnA

theorem app_info {P : Program} {t el : TypeId} {s by' : Nat} (h : appT P t = some (el, s, by')) : ∃ i z, P.info? el = some i ∧ i.zero = some z ∧ i.size = s ∧ i.bytes = by' ∧ z.cells.size = s ∧ 0 < s := by
  unfold appT at h
  split at h
  case h_2 => cases h
  split at h
  case h_2 => cases h
  rename_i i hi
  split at h
  case h_2 => cases h
  rename_i z hz
  split at h
  case isFalse => cases h
  rename_i hc
  cases h
  simp only [Bool.and_eq_true, beq_iff_eq] at hc
  exact ⟨i, z, hi, hz, rfl, rfl, hc.1, by simpa [Nat.blt_eq] using hc.2⟩
theorem appN : appT Tryd.prog 53 = some (65, 9, 72) := by kernel_rfl
theorem grow_ok (n : Nat) (h1 : 1 ≤ n) (h2 : n ≤ 100000) {H : Heap} :
    Ret Tryd.prog 105 [.slice none 0 0, I n] H (fun v H' => ∃ A' cap', v = .slice A' 0 cap' ∧ Gs H' H.size 65 9 A' cap' 0 [] ∧ Ext H H') := by
  refine ⟨Tryd.call105, fun w0 k => ?_⟩
  obtain ⟨i0, z, hi, hz, hs, hb, hzs, hp⟩ := app_info appN
  have hc := Any8.slices_Grow_grow Tryd.growT i0 z hi hz (by omega) none 0 0 n [] (mk w0 H k) (Nat.le_refl _) (by omega) (by rw [hb]; omega) (by omega) (by simp) (fun _ => rfl) (fun a ha => by cases ha)
  refine Calls.mono hc fun e w' hx => ?_
  obtain ⟨he, hw⟩ := hx
  have hge := grownCap_ge (mk w0 H k) (0 + n) 0 65
  have hle := grownCap_le_maxLen (mk w0 H k) (0 + n) 0 65 (by rw [show maxLen = 9223372036854775807 from rfl]; omega)
  refine ⟨_, w'.heap, w'.drawn, he, by subst hw; rfl, some ⟨H.size, 0, none⟩, _, rfl, ⟨rfl, .inr ⟨H.size, _, _, rfl, Nat.le_refl _, by subst hw; exact Array.getElem?_push_size, Nat.zero_le _, hle, ?_, rfl⟩⟩, ?_⟩
  · have e1 : (grownCap (mk w0 H k) (0 + n) 0 65) = n + (grownCap (mk w0 H k) (0 + n) 0 65 - (0 + n)) := by omega
    simp only [Array.size_append, Go.size_zeroCells, hzs, List.size_toArray, List.length_nil]
    show 0 + (0 + n - 0) * 9 + (grownCap (mk w0 H k) (0 + n) 0 65 - (0 + n)) * 9 = grownCap (mk w0 H k) (0 + n) 0 65 * 9
    omega
  · subst hw
    refine ⟨by show H.size ≤ (H.push _).size; simp, fun b hb => ?_⟩
    show (H.push _)[b]? = _
    rw [Array.getElem?_push, if_neg (by omega)]

structure Sg where
  A : Option Addr
  cap : Nat
  L : List (List Int)
abbrev Sg.sl (s : Sg) : Value := .slice s.A s.L.length s.cap
def cat (G : List Sg) : List (List Int) := G.flatMap (·.L)
theorem cat_snoc {G : List Sg} {i : Nat} (h : i < G.length) : cat (G.take (i + 1)) = cat (G.take i) ++ G[i].L := by
  unfold cat; rw [List.take_succ_eq_append_getElem h, List.flatMap_append]; simp
theorem cat_len {G : List Sg} (h : ∀ s ∈ G, s.L.length ≤ 1000) : ∀ i, i ≤ G.length → (cat (G.take i)).length ≤ 1000 * i
  | 0, _ => Nat.zero_le _
  | i + 1, hi => by
    have h1 := cat_len h i (by omega)
    have h2 := h _ (List.getElem_mem (show i < G.length by omega))
    rw [cat_snoc (by omega), List.length_append]; omega
theorem concat_ok {b : Nat} {G : List Sg} (hl : G.length ≤ 10) (hG : ∀ s ∈ G, Nine s.L ∧ s.L.length ≤ 1000) (h0 : 1 ≤ (cat G).length) {H : Heap} (hS : ∀ s ∈ G, SlT H Is 9 s.sl s.L) (hB : Blk H b (G.map Sg.sl)) :
    Ret Tryd.prog 91 [.slice (some ⟨b, 0, none⟩) G.length G.length] H (fun v H' => ∃ A' cap', v = .slice A' (cat G).length cap' ∧ Gs H' H.size 65 9 A' cap' (cat G).length ((cat G).flatMap Is) ∧ Ext H H') := by
  have hcl := cat_len (fun s hs => (hG s hs).2)
  have hat : ∀ i (h : i < G.length), (G.map Sg.sl)[0 + (i : Int).toNat * 1]? = some G[i].sl := fun i h => by
    rw [show 0 + (i : Int).toNat * 1 = i from by omega]; simp [List.getElem?_map, List.getElem?_eq_getElem h]
  refine Ret.of_at (N := 36) Tryd.call91 Tryd.func91 rfl rfl rfl ?_
  have hE := Ext.refl H
  have z_hE := hE.lt
  have z_hB := hB.lt
  refine At.region rfl rfl ?_
  refine Reg.pur rfl rfl rfl rfl (Pur.asg rfl) ?_
  refine Reg.nil ?_
  refine At.region rfl rfl ?_
  refine Reg.pur rfl rfl rfl rfl (Pur.asg rfl) ?_
  refine Reg.nil ?_
  refine At.region rfl rfl ?_
  refine Reg.pur rfl rfl rfl rfl (Pur.mv rfl) ?_
  refine Reg.pur rfl rfl rfl rfl (Pur.lenS isl158 rfl) ?_
  refine Reg.pur rfl rfl rfl rfl (Pur.mv rfl) ?_
  refine Reg.nil ?_
  refine At.loop (σ := Nat) (fun i => [(11, I i), (10, I G.length), (9, .slice (some ⟨b, 0, none⟩) G.length G.length), (3, I (cat (G.take i)).length), (0, .slice (some ⟨b, 0, none⟩) G.length G.length)]) (fun i H' => i ≤ G.length ∧ Blk H' b (G.map Sg.sl) ∧ Ext H H') (fun i => G.length - i) 0 rfl ⟨rfl, rfl, rfl, rfl, rfl, trivial⟩ ⟨by omega, hB, hE⟩ ?_
  clear hB hE
  rintro i H1 ⟨hi, hB, hE⟩ ih
  have z_hE := hE.lt
  have z_hB := hB.lt
  refine At.region rfl rfl ?_
  refine Reg.pur rfl rfl rfl rfl (Pur.lss rfl rfl) ?_
  refine Reg.nil ?_
  refine At.cond rfl rfl (fun q12 => ?_) (fun q12 => ?_)
  · first | (simp only [decide_eq_true_eq, decide_eq_false_iff_not, Bool.not_eq_true', Bool.not_eq_false', ne_eq, Decidable.not_not, Bool.not_eq_true, Bool.not_eq_false] at q12) | (dsimp only at q12) | skip
    have hlt : i < G.length := by omega
    have hci := hcl i (by omega)
    have hgi := hG _ (List.getElem_mem hlt)
    have hcs := congrArg List.length (cat_snoc hlt)
    rw [List.length_append] at hcs
    refine At.region rfl rfl ?_
    refine Reg.pur rfl rfl rfl rfl (Pur.idx _ es158 rfl rfl (by omega) (by omega)) ?_
    refine Reg.lod rfl rfl rfl rfl (Lod.ld sc53 rfl hB (hat i hlt)) ?_
    refine Reg.pur rfl rfl rfl rfl (Pur.asg rfl) ?_
    refine Reg.nil ?_
    refine At.region rfl rfl ?_
    refine Reg.pur rfl rfl rfl rfl (Pur.mv rfl) ?_
    refine Reg.pur rfl rfl rfl rfl (Pur.mv rfl) ?_
    refine Reg.pur rfl rfl rfl rfl (Pur.lenS isl53 rfl) ?_
    refine Reg.pur rfl rfl rfl rfl (Pur.add64 rfl rfl (by omega)) ?_
    refine Reg.pur rfl rfl rfl rfl (Pur.asg rfl) ?_
    refine Reg.nil ?_
    refine At.region rfl rfl ?_
    refine Reg.pur rfl rfl rfl rfl (Pur.mv rfl) ?_
    refine Reg.pur rfl rfl rfl rfl (Pur.lss rfl rfl) ?_
    refine Reg.nil ?_
    refine At.condF rfl rfl (decide_eq_false (by omega)) ?_
    refine At.region rfl rfl ?_
    first | refine Reg.pur rfl rfl rfl rfl (Pur.add64 rfl rfl (by omega)) ?_ | refine Reg.pur rfl rfl rfl rfl (Pur.add64 rfl rfl (by assumption)) ?_ | refine Reg.pur rfl rfl rfl rfl (Pur.add rfl rfl) ?_
    refine Reg.pur rfl rfl rfl rfl (Pur.mv rfl) ?_
    refine Reg.nil ?_
    exact At.meets rfl (ih (i + 1) _ ⟨by omega, hB, hE⟩ (by omega)) ⟨rfl, rfl, rfl, by (show some (I _) = some (I _)); rw [hcs]; rfl, rfl, trivial⟩
  first | (simp only [decide_eq_true_eq, decide_eq_false_iff_not, Bool.not_eq_true', Bool.not_eq_false', ne_eq, Decidable.not_not, Bool.not_eq_true, Bool.not_eq_false] at q12) | (dsimp only at q12) | skip
  obtain rfl : i = G.length := by omega
  have hct : cat (G.take G.length) = cat G := by rw [List.take_length]
  have hcf := hcl G.length (Nat.le_refl _)
  rw [hct] at hcf ⊢
  refine At.region rfl rfl ?_
  refine Reg.pur rfl rfl rfl rfl (Pur.mv rfl) ?_
  refine Reg.op rfl rfl rfl rfl (Does.call rfl (grow_ok (cat G).length h0 (by omega))) ?_
  rintro _ H9_1 ⟨A0, cap0, rfl, hg, hE9_1⟩
  have z9_1 := hE9_1.lt
  replace hE := hE.ext hE9_1
  replace hB := hB.ext hE9_1
  refine Reg.pur rfl rfl rfl rfl (Pur.asg rfl) ?_
  refine Reg.nil ?_
  refine At.region rfl rfl ?_
  refine Reg.pur rfl rfl rfl rfl (Pur.mv rfl) ?_
  refine Reg.pur rfl rfl rfl rfl (Pur.lenS isl158 rfl) ?_
  refine Reg.pur rfl rfl rfl rfl (Pur.mv rfl) ?_
  refine Reg.nil ?_
  refine At.loop (σ := Nat × Option Addr × Nat) (fun (i, A', cap') => [(27, I i), (26, I G.length), (25, .slice (some ⟨b, 0, none⟩) G.length G.length), (6, .slice A' (cat (G.take i)).length cap')]) (fun (i, A', cap') H' => i ≤ G.length ∧ Blk H' b (G.map Sg.sl) ∧ Ext H H' ∧ Gs H' H.size 65 9 A' cap' (cat (G.take i)).length ((cat (G.take i)).flatMap Is)) (fun s => G.length - s.1) (0, A0, cap0) rfl ⟨rfl, rfl, rfl, rfl, trivial⟩ ⟨by (show 0 ≤ _); omega, hB, hE, hg.mono (by omega)⟩ ?_
  clear hB hE hg
  rintro ⟨i, A', cap'⟩ H2 ⟨hi, hB, hE, hg⟩ ih2
  dsimp only at hi hg ⊢
  have z_hE := hE.lt
  have z_hB := hB.lt
  have z_hg := hg.lt
  refine At.region rfl rfl ?_
  refine Reg.pur rfl rfl rfl rfl (Pur.lss rfl rfl) ?_
  refine Reg.nil ?_
  refine At.cond rfl rfl (fun q28 => ?_) (fun q28 => ?_)
  · first | (simp only [decide_eq_true_eq, decide_eq_false_iff_not, Bool.not_eq_true', Bool.not_eq_false', ne_eq, Decidable.not_not, Bool.not_eq_true, Bool.not_eq_false] at q28) | (dsimp only at q28) | skip
    have hlt : i < G.length := by omega
    have hci := hcl i (by omega)
    have hgi := hG _ (List.getElem_mem hlt)
    have hsi := hS _ (List.getElem_mem hlt)
    have hcs := cat_snoc hlt
    refine At.region rfl rfl ?_
    refine Reg.pur rfl rfl rfl rfl (Pur.idx _ es158 rfl rfl (by omega) (by omega)) ?_
    refine Reg.lod rfl rfl rfl rfl (Lod.ld sc53 rfl hB (hat i hlt)) ?_
    refine Reg.pur rfl rfl rfl rfl (Pur.asg rfl) ?_
    refine Reg.nil ?_
    refine At.region rfl rfl ?_
    refine Reg.pur rfl rfl rfl rfl (Pur.mv rfl) ?_
    refine Reg.pur rfl rfl rfl rfl (Pur.mv rfl) ?_
    refine Reg.op rfl rfl rfl rfl (Does.appL apt53 rfl rfl (by decide) hg (wide9 hgi.1) (hsi.ext hE) (ones_flat _) (by omega) (by omega)) ?_
    rintro _ H13_2 ⟨A13_2, cap13_2, rfl, g13_2, hbut13_2, ha13_2⟩
    have z13_2 := hbut13_2.lt
    replace hE := hE.via hbut13_2 (by first | omega | (intro g; omega) | (intro g hg; omega) | (intro g hg h; omega))
    replace hB := hB.via hbut13_2 (by first | omega | (intro g; omega) | (intro g hg; omega) | (intro g hg h; omega))
    replace hg := g13_2
    have zg13_2 := g13_2.lt
    refine Reg.pur rfl rfl rfl rfl (Pur.asg rfl) ?_
    refine Reg.nil ?_
    refine At.region rfl rfl ?_
    first | refine Reg.pur rfl rfl rfl rfl (Pur.add64 rfl rfl (by omega)) ?_ | refine Reg.pur rfl rfl rfl rfl (Pur.add64 rfl rfl (by assumption)) ?_ | refine Reg.pur rfl rfl rfl rfl (Pur.add rfl rfl) ?_
    refine Reg.pur rfl rfl rfl rfl (Pur.mv rfl) ?_
    refine Reg.nil ?_
    rw [← hcs] at hg
    exact At.via (ih2 (i + 1, A13_2, cap13_2) _ ⟨by (show i + 1 ≤ _); omega, hB, hE, hg⟩ (by (show _ - (i + 1) < _ - i); omega)) ⟨rfl, rfl, rfl, by (show some (Value.slice _ _ _) = _); rw [hcs], trivial⟩
  first | (simp only [decide_eq_true_eq, decide_eq_false_iff_not, Bool.not_eq_true', Bool.not_eq_false', ne_eq, Decidable.not_not, Bool.not_eq_true, Bool.not_eq_false] at q28) | (dsimp only at q28) | skip
  refine At.region rfl rfl ?_
  refine Reg.pur rfl rfl rfl rfl (Pur.mv rfl) ?_
  refine Reg.pur rfl rfl rfl rfl (Pur.asg rfl) ?_
  refine Reg.nil ?_
  refine At.ret rfl Tryd.func91 rfl ?_
  obtain rfl : i = G.length := by omega
  rw [List.take_length] at hg ⊢
  exact ⟨A', cap', rfl, hg, hE⟩
end Go.Proofs.YtlfillhffpiffaaDoor

namespace Go.Proofs.YtlfillhffpiffaaDoor
set_option linter.unusedSimpArgs false
set_option linter.unusedVariables false
set_option maxRecDepth 8000
set_option maxHeartbeats 1000000
open Go Go.Fx Go.Proofs
namespace FactsDFnB
theorem ag24 : ag Tryd.prog 24 = some 5 := by kernel_rfl
theorem ag55 : ag Tryd.prog 55 = some 1 := by kernel_rfl
theorem ag65 : ag Tryd.prog 65 = some 9 := by kernel_rfl
theorem fo55_0 : foff Tryd.prog 55 0 = some 0 := by kernel_rfl
theorem isl53 : isSl Tryd.prog 53 = true := by kernel_rfl
theorem mixed : Tryd.prog.follows .mixedOrders = true := by kernel_rfl
theorem pl55 : places Tryd.prog 55 = some [(0, 1)] := by kernel_rfl
theorem pl65 : places Tryd.prog 65 = some [(0, 1), (1, 1), (2, 1), (3, 1), (4, 5)] := by kernel_rfl
theorem sc53 : sc Tryd.prog 53 = true := by kernel_rfl
theorem sl1_158 : Go.Fx.sl1 Tryd.prog 158 = true := by kernel_rfl
theorem slA53 : slA Tryd.prog 53 = some (65, 9) := by kernel_rfl
theorem zc55 : zc Tryd.prog 55 = some [.slice none 0 0] := by kernel_rfl
theorem zc65 : zc Tryd.prog 65 = some [.int .i64 0, .int .i64 0, .int .i64 0, .int .i64 0, .int .i64 0, .int .i64 0, .int .i64 0, .int .i64 0, .int .i64 0] := by kernel_rfl
end FactsDFnB
open FactsDFnB

theorem arr2_cat (La Lb : List (List Int)) (r : List Int) (A1 A2 A3 : Option Addr) (c1 c2 c3 : Nat) : cat [⟨A1, c1, La⟩, ⟨A2, c2, Lb.map (movS La.length)⟩, ⟨A3, c3, [arrN La.length Lb.length r]⟩] = arr2 La r Lb := by
  simp [cat, arr2]
theorem arr2_nine {La Lb : List (List Int)} {r : List Int} (ha : Nine La) (hb : Nine Lb) (hr : r.length = 5) : Nine (arr2 La r Lb) :=
  nine_app (nine_app ha (nine_mov hb)) (nine1 (by simp [arrN, hr]))
theorem g3 {α : Type} {P : α → Prop} {a b c : α} (ha : P a) (hb : P b) (hc : P c) : ∀ s ∈ [a, b, c], P s := by
  intro s hs
  simp only [List.mem_cons, List.not_mem_nil, or_false] at hs
  rcases hs with rfl | rfl | rfl
  · exact ha
  · exact hb
  · exact hc
theorem arrowP_ok {A B : Option Addr} {ca cb ya yo yb yp : Nat} {va vb : List Value} {La Lb : List (List Int)} {r : List Int} (ha : Nine La) (hb : Nine Lb) (hr : r.length = 5) {H : Heap} (hS : SlT H Is 9 (.slice A La.length ca) La) (hT : SlT H Is 9 (.slice B Lb.length cb) Lb) (hla : La.length ≤ 1000) (hlb : Lb.length ≤ 1000)
    (hA : Blk H ya va) (hva : va[yo]? = some (.slice A La.length ca)) (hB : Blk H yb vb) (hvb : vb[yp]? = some (.slice B Lb.length cb)) :
    Ret Tryd.prog 66 [ptr ya yo, .agg (Is r).toArray, ptr yb yp] H (fun v H' => (∃ A' cap', v = Ty A' (arr2 La r Lb).length cap' ∧ Gs H' H.size 65 9 A' cap' (arr2 La r Lb).length ((arr2 La r Lb).flatMap Is)) ∧ Ext H H') := by
  obtain ⟨ra, rb, rc, rd, re, rfl⟩ := row_five hr
  refine Ret.of_at (N := 41) Tryd.call66 Tryd.func66 rfl rfl rfl ?_
  have hE := Ext.refl H
  have z_hE := hE.lt
  have z_hA := hA.lt
  have z_hB := hB.lt
  refine At.region rfl rfl ?_
  refine Reg.op rfl rfl rfl rfl (Does.box rfl rfl) ?_
  rintro _ H0_0 ⟨rfl, hn0_0⟩
  have z0_0 := hn0_0.size
  replace hE := hE.ext hn0_0.ext
  replace hA := hA.ext hn0_0.ext
  replace hB := hB.ext hn0_0.ext
  have o0_0 := hn0_0.own
  refine Reg.op rfl rfl rfl rfl (Does.alloc zc55) ?_
  rintro _ H0_1 ⟨rfl, hn0_1⟩
  have z0_1 := hn0_1.size
  replace hE := hE.ext hn0_1.ext
  replace hA := hA.ext hn0_1.ext
  replace hB := hB.ext hn0_1.ext
  replace o0_0 := o0_0.ext hn0_1.ext
  have o0_1 := hn0_1.own
  refine Reg.nil ?_
  refine At.region rfl rfl ?_
  refine Reg.pur rfl rfl rfl rfl (Pur.mv rfl) ?_
  refine Reg.pur rfl rfl rfl rfl (Pur.nilc rfl) ?_
  refine Reg.pur rfl rfl rfl rfl (Pur.fld _ fo55_0 rfl) ?_
  refine Reg.lod rfl rfl rfl rfl (Lod.ld sc53 rfl hA hva) ?_
  refine Reg.pur rfl rfl rfl rfl (Pur.lenS isl53 rfl) ?_
  refine Reg.pur rfl rfl rfl rfl (Pur.asg rfl) ?_
  refine Reg.nil ?_
  refine At.drawE ((Bks.cons hB.blk (Bks.cons o0_0.blk Bks.nil))) [13] mixed rfl rfl ?_
  refine RegD.tpur (i := 0) rfl rfl rfl rfl (by kernel_rfl) (Pur.mv rfl) ?_
  refine RegD.tpur (i := 1) rfl rfl rfl rfl (by kernel_rfl) (Pur.sub64 rfl rfl (by omega)) ?_
  refine RegD.tpur (i := 2) rfl rfl rfl rfl (by kernel_rfl) (Pur.mv rfl) ?_
  refine RegD.tpur (i := 3) rfl rfl rfl rfl (by kernel_rfl) (Pur.mv rfl) ?_
  refine RegD.tpur (i := 4) rfl rfl rfl rfl (by kernel_rfl) (Pur.nilc rfl) ?_
  refine RegD.tpur (i := 5) rfl rfl rfl rfl (by kernel_rfl) (Pur.fld _ fo55_0 rfl) ?_
  refine RegD.take (i := 6) rfl rfl rfl rfl (by kernel_rfl) (Bks.cons hB.blk (Bks.cons o0_0.blk Bks.nil)) (fun H hS => Lod.ld sc53 rfl hS.hd hvb) ?_
  refine RegD.tpur (i := 7) rfl rfl rfl rfl (by kernel_rfl) (Pur.lenS isl53 rfl) ?_
  refine RegD.tpur (i := 8) rfl rfl rfl rfl (by kernel_rfl) (Pur.add64 rfl rfl (by omega)) ?_
  refine RegD.tpur (i := 9) rfl rfl rfl rfl (by kernel_rfl) (Pur.sub64 rfl rfl (by omega)) ?_
  refine RegD.take (i := 10) rfl rfl rfl rfl (by kernel_rfl) (Bks.cons hB.blk (Bks.cons o0_0.blk Bks.nil)) (fun H hS => Lod.ldn ag24 rfl hS.tl.hd (whole rfl) rfl) ?_
  refine RegD.tpur (i := 11) rfl rfl rfl rfl (by kernel_rfl) (Pur.bld (cs := [_, _, _, _, _, _, _, _, _]) pl65 zc65 rfl rfl ⟨rfl, rfl, rfl, rfl, rfl, rfl, rfl, rfl, rfl, rfl⟩) ?_
  refine RegD.one (i := 12) (by kernel_rfl) rfl rfl rfl rfl (Does.alloc zc65) ?_
  rintro _ H2_12 ⟨rfl, hn2_12⟩
  have z2_12 := hn2_12.size
  replace hE := hE.ext hn2_12.ext
  replace hA := hA.ext hn2_12.ext
  replace hB := hB.ext hn2_12.ext
  replace o0_0 := o0_0.ext hn2_12.ext
  replace o0_1 := o0_1.ext hn2_12.ext
  have hx := hn2_12.own
  refine ⟨fun _ _ => (Bks.cons hB.blk (Bks.cons o0_0.blk Bks.nil)), ?_⟩
  refine RegD.one0 (i := 13) (by kernel_rfl) rfl rfl rfl (Does.stn ag65 rfl rfl (by first | rfl | exact ones_Is _) (by first | rfl | (simp [*]; done)) hx (by first | decide | (simp; done) | (simp; omega) | omega)) ?_
  rintro _ H2_13 hu2_13
  have z2_13 := hu2_13.size
  replace hE := hE.upw hu2_13 (by omega)
  replace hA := hA.upw hu2_13 (by omega)
  replace hB := hB.upw hu2_13 (by omega)
  replace o0_0 := o0_0.upw hu2_13 (by omega)
  replace o0_1 := o0_1.upw hu2_13 (by omega)
  replace hx := hu2_13.own
  first | rw [over (by first | rfl | (simp; done))] at hx | skip
  refine ⟨fun h => (by cases h), ?_⟩
  refine RegD.done (by kernel_rfl) ?_
  refine At.drawE ((Bks.cons hA.blk (Bks.cons hB.blk (Bks.cons hx.blk Bks.nil)))) [15] mixed rfl rfl ?_
  refine RegD.tpur (i := 0) rfl rfl rfl rfl (by kernel_rfl) (Pur.mv rfl) ?_
  refine RegD.tpur (i := 1) rfl rfl rfl rfl (by kernel_rfl) (Pur.nilc rfl) ?_
  refine RegD.tpur (i := 2) rfl rfl rfl rfl (by kernel_rfl) (Pur.fld _ fo55_0 rfl) ?_
  refine RegD.take (i := 3) rfl rfl rfl rfl (by kernel_rfl) (Bks.cons hA.blk (Bks.cons hB.blk (Bks.cons hx.blk Bks.nil))) (fun H hS => Lod.ld sc53 rfl hS.hd hva) ?_
  refine RegD.tpur (i := 4) rfl rfl rfl rfl (by kernel_rfl) (Pur.mv rfl) ?_
  refine RegD.tpur (i := 5) rfl rfl rfl rfl (by kernel_rfl) (Pur.nilc rfl) ?_
  refine RegD.tpur (i := 6) rfl rfl rfl rfl (by kernel_rfl) (Pur.fld _ fo55_0 rfl) ?_
  refine RegD.take (i := 7) rfl rfl rfl rfl (by kernel_rfl) (Bks.cons hA.blk (Bks.cons hB.blk (Bks.cons hx.blk Bks.nil))) (fun H hS => Lod.ld sc53 rfl hS.tl.hd hvb) ?_
  refine RegD.tpur (i := 8) rfl rfl rfl rfl (by kernel_rfl) (Pur.mv rfl) ?_
  refine RegD.take (i := 10) rfl rfl rfl rfl (by kernel_rfl) (Bks.cons hA.blk (Bks.cons hB.blk (Bks.cons hx.blk Bks.nil))) (fun H hS => Lod.ldn ag65 rfl hS.tl.tl.hd (whole rfl) rfl) ?_
  refine RegD.fork2 (i := 9) (j := 11) (by kernel_rfl) ?_ ?_
  · refine RegOp.one (i := 9) rfl rfl rfl rfl (Does.call rfl (moved_ok hb (hT.ext hE) (by omega) _)) ?_
    rintro v3_9 H3_9 ⟨⟨A9, cap9, rfl, _⟩, hM9, hE3_9⟩
    have z3_9 := hE3_9.lt
    replace hE := hE.ext hE3_9
    replace hA := hA.ext hE3_9
    replace hB := hB.ext hE3_9
    replace o0_0 := o0_0.ext hE3_9
    replace o0_1 := o0_1.ext hE3_9
    replace hx := hx.ext hE3_9
    have z_hM9 := hM9.lt
    refine ⟨fun _ _ => (Bks.cons hA.blk (Bks.cons hB.blk (Bks.cons hx.blk Bks.nil))), ?_⟩
    refine RegD.one (i := 11) (by kernel_rfl) rfl rfl rfl rfl (Does.bslA ([Is (arrN La.length Lb.length [ra, rb, rc, rd, re])]) slA53 rfl rfl rfl rfl rfl rfl) ?_
    rintro _ H3_11 ⟨rfl, hp3_11⟩
    have hn3_11 := New.of_eq hp3_11
    have z3_11 := hn3_11.size
    replace hE := hE.ext hn3_11.ext
    replace hA := hA.ext hn3_11.ext
    replace hB := hB.ext hn3_11.ext
    replace o0_0 := o0_0.ext hn3_11.ext
    replace o0_1 := o0_1.ext hn3_11.ext
    replace hx := hx.ext hn3_11.ext
    replace hM9 := hM9.ext hn3_11.ext
    have o3_11 := hn3_11.own
    refine ⟨fun _ _ => (Bks.cons hA.blk (Bks.cons hB.blk (Bks.cons hx.blk Bks.nil))), ?_⟩
    refine RegD.one (i := 12) (by kernel_rfl) rfl rfl rfl rfl (Does.bsl1 sl1_158 rfl rfl rfl rfl rfl) ?_
    rintro _ H3_12 ⟨rfl, hn3_12⟩
    have z3_12 := hn3_12.size
    replace hE := hE.ext hn3_12.ext
    replace hA := hA.ext hn3_12.ext
    replace hB := hB.ext hn3_12.ext
    replace o0_0 := o0_0.ext hn3_12.ext
    replace o0_1 := o0_1.ext hn3_12.ext
    replace hx := hx.ext hn3_12.ext
    replace hM9 := hM9.ext hn3_12.ext
    replace o3_11 := o3_11.ext hn3_12.ext
    have o3_12 := hn3_12.own
    refine ⟨fun _ _ => (Bks.cons hA.blk (Bks.cons hB.blk (Bks.cons hx.blk Bks.nil))), ?_⟩
    have hM9' : SlT H3_12 Is 9 (.slice A9 (Lb.map (movS La.length)).length cap9) (Lb.map (movS La.length)) := by simpa using hM9
    have hS3 := sl_own (L := [arrN La.length Lb.length [ra, rb, rc, rd, re]]) (wide9 (nine1 rfl)) (by decide) o3_11 (Nat.le_of_ble_eq_true rfl)
    refine RegD.one (i := 13) (by kernel_rfl) rfl rfl rfl rfl (Does.call rfl (concat_ok (G := [⟨A, ca, La⟩, ⟨A9, cap9, Lb.map (movS La.length)⟩, ⟨_, 1, [arrN La.length Lb.length [ra, rb, rc, rd, re]]⟩]) (by (show 3 ≤ 10); decide) (g3 ⟨ha, hla⟩ ⟨nine_mov hb, by simpa using hlb⟩ ⟨nine1 rfl, (Nat.le_of_ble_eq_true rfl)⟩) (by rw [arr2_cat]; simp [arr2]; omega) (g3 (hS.ext hE) hM9' hS3) (o3_12.blk.of (by simp [Sg.sl])))) ?_
    rintro _ H3_13 ⟨A13, cap13, rfl, hg3_13, hE3_13⟩
    have z3_13 := hE3_13.lt
    replace hE := hE.ext hE3_13
    replace hA := hA.ext hE3_13
    replace hB := hB.ext hE3_13
    replace o0_0 := o0_0.ext hE3_13
    replace o0_1 := o0_1.ext hE3_13
    replace hx := hx.ext hE3_13
    replace hM9 := hM9.ext hE3_13
    replace o3_11 := o3_11.ext hE3_13
    replace o3_12 := o3_12.ext hE3_13
    rw [arr2_cat] at hg3_13 ⊢

    have z_hg3_13 := hg3_13.lt
    refine ⟨fun _ _ => (Bks.cons hA.blk (Bks.cons hB.blk (Bks.cons hx.blk Bks.nil))), ?_⟩
    refine RegD.tpur (i := 14) rfl rfl rfl rfl (by kernel_rfl) (Pur.bld (cs := [_]) pl55 zc55 rfl rfl ⟨rfl, rfl⟩) ?_
    refine RegD.one0 (i := 15) (by kernel_rfl) rfl rfl rfl (Does.stn ag55 rfl rfl (by first | rfl | exact ones_Is _) (by first | rfl | (simp [*]; done)) o0_1 (by first | decide | (simp; done) | (simp; omega) | omega)) ?_
    rintro _ H3_15 hu3_15
    have z3_15 := hu3_15.size
    replace hE := hE.upw hu3_15 (by omega)
    replace hA := hA.upw hu3_15 (by omega)
    replace hB := hB.upw hu3_15 (by omega)
    replace o0_0 := o0_0.upw hu3_15 (by omega)
    replace hx := hx.upw hu3_15 (by omega)
    replace o3_11 := o3_11.upw hu3_15 (by omega)
    replace o3_12 := o3_12.upw hu3_15 (by omega)
    replace hg3_13 := hg3_13.upw hu3_15 (by omega)
    replace o0_1 := hu3_15.own
    first | rw [over (by first | rfl | (simp; done))] at o0_1 | skip
    refine ⟨fun h => (by cases h), ?_⟩
    refine RegD.done (by kernel_rfl) ?_
    refine At.retC rfl Tryd.func66 ⟨_, _, _, _, rfl, rfl, ⟨_, o0_1.blk, .inr ⟨_, _, ag55, (whole rfl), rfl, rfl⟩⟩, rfl⟩ ?_
    exact ⟨⟨A13, cap13, rfl, hg3_13.mono (by omega)⟩, hE⟩
  refine RegOp.one (i := 11) rfl rfl rfl rfl (Does.bslA ([Is (arrN La.length Lb.length [ra, rb, rc, rd, re])]) slA53 rfl rfl rfl rfl rfl rfl) ?_
  rintro _ H3_11 ⟨rfl, hp3_11⟩
  have hn3_11 := New.of_eq hp3_11
  have z3_11 := hn3_11.size
  replace hE := hE.ext hn3_11.ext
  replace hA := hA.ext hn3_11.ext
  replace hB := hB.ext hn3_11.ext
  replace o0_0 := o0_0.ext hn3_11.ext
  replace o0_1 := o0_1.ext hn3_11.ext
  replace hx := hx.ext hn3_11.ext
  have o3_11 := hn3_11.own
  refine ⟨fun _ _ => (Bks.cons hA.blk (Bks.cons hB.blk (Bks.cons hx.blk Bks.nil))), ?_⟩
  refine RegD.one (i := 9) (by kernel_rfl) rfl rfl rfl rfl (Does.call rfl (moved_ok hb (hT.ext hE) (by omega) _)) ?_
  rintro v3_9 H3_9 ⟨⟨A9, cap9, rfl, _⟩, hM9, hE3_9⟩
  have z3_9 := hE3_9.lt
  replace hE := hE.ext hE3_9
  replace hA := hA.ext hE3_9
  replace hB := hB.ext hE3_9
  replace o0_0 := o0_0.ext hE3_9
  replace o0_1 := o0_1.ext hE3_9
  replace hx := hx.ext hE3_9
  replace o3_11 := o3_11.ext hE3_9
  have z_hM9 := hM9.lt
  refine ⟨fun _ _ => (Bks.cons hA.blk (Bks.cons hB.blk (Bks.cons hx.blk Bks.nil))), ?_⟩
  refine RegD.one (i := 12) (by kernel_rfl) rfl rfl rfl rfl (Does.bsl1 sl1_158 rfl rfl rfl rfl rfl) ?_
  rintro _ H3_12 ⟨rfl, hn3_12⟩
  have z3_12 := hn3_12.size
  replace hE := hE.ext hn3_12.ext
  replace hA := hA.ext hn3_12.ext
  replace hB := hB.ext hn3_12.ext
  replace o0_0 := o0_0.ext hn3_12.ext
  replace o0_1 := o0_1.ext hn3_12.ext
  replace hx := hx.ext hn3_12.ext
  replace o3_11 := o3_11.ext hn3_12.ext
  replace hM9 := hM9.ext hn3_12.ext
  have o3_12 := hn3_12.own
  refine ⟨fun _ _ => (Bks.cons hA.blk (Bks.cons hB.blk (Bks.cons hx.blk Bks.nil))), ?_⟩
  have hM9' : SlT H3_12 Is 9 (.slice A9 (Lb.map (movS La.length)).length cap9) (Lb.map (movS La.length)) := by simpa using hM9
  have hS3 := sl_own (L := [arrN La.length Lb.length [ra, rb, rc, rd, re]]) (wide9 (nine1 rfl)) (by decide) o3_11 (Nat.le_of_ble_eq_true rfl)
  refine RegD.one (i := 13) (by kernel_rfl) rfl rfl rfl rfl (Does.call rfl (concat_ok (G := [⟨A, ca, La⟩, ⟨A9, cap9, Lb.map (movS La.length)⟩, ⟨_, 1, [arrN La.length Lb.length [ra, rb, rc, rd, re]]⟩]) (by (show 3 ≤ 10); decide) (g3 ⟨ha, hla⟩ ⟨nine_mov hb, by simpa using hlb⟩ ⟨nine1 rfl, (Nat.le_of_ble_eq_true rfl)⟩) (by rw [arr2_cat]; simp [arr2]; omega) (g3 (hS.ext hE) hM9' hS3) (o3_12.blk.of (by simp [Sg.sl])))) ?_
  rintro _ H3_13 ⟨A13, cap13, rfl, hg3_13, hE3_13⟩
  have z3_13 := hE3_13.lt
  replace hE := hE.ext hE3_13
  replace hA := hA.ext hE3_13
  replace hB := hB.ext hE3_13
  replace o0_0 := o0_0.ext hE3_13
  replace o0_1 := o0_1.ext hE3_13
  replace hx := hx.ext hE3_13
  replace o3_11 := o3_11.ext hE3_13
  replace hM9 := hM9.ext hE3_13
  replace o3_12 := o3_12.ext hE3_13
  rw [arr2_cat] at hg3_13 ⊢

  have z_hg3_13 := hg3_13.lt
  refine ⟨fun _ _ => (Bks.cons hA.blk (Bks.cons hB.blk (Bks.cons hx.blk Bks.nil))), ?_⟩
  refine RegD.tpur (i := 14) rfl rfl rfl rfl (by kernel_rfl) (Pur.bld (cs := [_]) pl55 zc55 rfl rfl ⟨rfl, rfl⟩) ?_
  refine RegD.one0 (i := 15) (by kernel_rfl) rfl rfl rfl (Does.stn ag55 rfl rfl (by first | rfl | exact ones_Is _) (by first | rfl | (simp [*]; done)) o0_1 (by first | decide | (simp; done) | (simp; omega) | omega)) ?_
  rintro _ H3_15 hu3_15
  have z3_15 := hu3_15.size
  replace hE := hE.upw hu3_15 (by omega)
  replace hA := hA.upw hu3_15 (by omega)
  replace hB := hB.upw hu3_15 (by omega)
  replace o0_0 := o0_0.upw hu3_15 (by omega)
  replace hx := hx.upw hu3_15 (by omega)
  replace o3_11 := o3_11.upw hu3_15 (by omega)
  replace o3_12 := o3_12.upw hu3_15 (by omega)
  replace hg3_13 := hg3_13.upw hu3_15 (by omega)
  replace o0_1 := hu3_15.own
  first | rw [over (by first | rfl | (simp; done))] at o0_1 | skip
  refine ⟨fun h => (by cases h), ?_⟩
  refine RegD.done (by kernel_rfl) ?_
  refine At.retC rfl Tryd.func66 ⟨_, _, _, _, rfl, rfl, ⟨_, o0_1.blk, .inr ⟨_, _, ag55, (whole rfl), rfl, rfl⟩⟩, rfl⟩ ?_
  exact ⟨⟨A13, cap13, rfl, hg3_13.mono (by omega)⟩, hE⟩

open Classical in
noncomputable def funL (La : List (List Int)) (r : List Int) (Lb : List (List Int)) : List (List Int) × Int := if typM La = true ∧ rowM r = true ∧ typM Lb = true ∧ La.length + Lb.length < 256 then (arr2 La r Lb, 0) else ([], 700)
theorem funL_no {La Lb : List (List Int)} {r : List Int} (h : ¬ (typM La = true ∧ rowM r = true ∧ typM Lb = true ∧ La.length + Lb.length < 256)) : funL La r Lb = ([], 700) := if_neg h
theorem funL_yes {La Lb : List (List Int)} {r : List Int} (h : typM La = true ∧ rowM r = true ∧ typM Lb = true ∧ La.length + Lb.length < 256) : funL La r Lb = (arr2 La r Lb, 0) := if_pos h
def FunP (La : List (List Int)) (r : List Int) (Lb : List (List Int)) (H : Heap) (v : Value) (H' : Heap) : Prop :=
  ∃ A' cap', v = .tuple #[Ty A' (funL La r Lb).1.length cap', I (funL La r Lb).2] ∧ Gs H' H.size 65 9 A' cap' (funL La r Lb).1.length ((funL La r Lb).1.flatMap Is) ∧ Ext H H'
theorem funP_ok {A B : Option Addr} {ca cb : Nat} {La Lb : List (List Int)} {r : List Int} (ha : Nine La) (hb : Nine Lb) (hr : r.length = 5) {H : Heap} (hS : SlT H Is 9 (.slice A La.length ca) La) (hT : SlT H Is 9 (.slice B Lb.length cb) Lb) (hla : La.length ≤ 9223372036854775807) (hlb : Lb.length ≤ 9223372036854775807) :
    Ret Tryd.prog 43 [Ty A La.length ca, .agg (Is r).toArray, Ty B Lb.length cb] H (FunP La r Lb H) := by
  have hr' : (Is r).length = 5 := by simp [hr]
  have hla2 : typM La = true → La.length ≤ 256 := fun h => (typM_bgn h).1.2
  have hlb2 : typM Lb = true → Lb.length ≤ 256 := fun h => (typM_bgn h).1.2
  refine Ret.of_at (N := 34) Tryd.call43 Tryd.func43 rfl rfl rfl ?_
  have hE := Ext.refl H
  refine At.region rfl rfl ?_
  refine Reg.op rfl rfl rfl rfl (Does.box rfl rfl) ?_
  rintro _ H0_0 ⟨rfl, hn0_0⟩
  have z0_0 := hn0_0.size
  replace hE := hE.ext hn0_0.ext
  have o0_0 := hn0_0.own
  refine Reg.op rfl rfl rfl rfl (Does.box rfl rfl) ?_
  rintro _ H0_1 ⟨rfl, hn0_1⟩
  have z0_1 := hn0_1.size
  replace hE := hE.ext hn0_1.ext
  replace o0_0 := o0_0.ext hn0_1.ext
  have o0_1 := hn0_1.own
  refine Reg.op rfl rfl rfl rfl (Does.box rfl rfl) ?_
  rintro _ H0_2 ⟨rfl, hn0_2⟩
  have z0_2 := hn0_2.size
  replace hE := hE.ext hn0_2.ext
  replace o0_0 := o0_0.ext hn0_2.ext
  replace o0_1 := o0_1.ext hn0_2.ext
  have o0_2 := hn0_2.own
  refine Reg.op rfl rfl rfl rfl (Does.alloc zc55) ?_
  rintro _ H0_3 ⟨rfl, hn0_3⟩
  have z0_3 := hn0_3.size
  replace hE := hE.ext hn0_3.ext
  replace o0_0 := o0_0.ext hn0_3.ext
  replace o0_1 := o0_1.ext hn0_3.ext
  replace o0_2 := o0_2.ext hn0_3.ext
  have o0_3 := hn0_3.own
  refine Reg.pur rfl rfl rfl rfl (Pur.asg rfl) ?_
  refine Reg.nil ?_
  refine At.region rfl rfl ?_
  refine Reg.lod rfl rfl rfl rfl (Lod.ldn ag55 rfl o0_0.blk (whole rfl) rfl) ?_
  refine Reg.op rfl rfl rfl rfl (Does.call rfl (typMay_ok La ha (hS.ext hE) hla)) ?_
  rintro _ H1_1 ⟨rfl, hE1_1⟩
  have z1_1 := hE1_1.lt
  replace hE := hE.ext hE1_1
  replace o0_0 := o0_0.ext hE1_1
  replace o0_1 := o0_1.ext hE1_1
  replace o0_2 := o0_2.ext hE1_1
  replace o0_3 := o0_3.ext hE1_1
  refine Reg.pur rfl rfl rfl rfl (Pur.not rfl) ?_
  refine Reg.pur rfl rfl rfl rfl (Pur.mv rfl) ?_
  refine Reg.case 11 rfl (fun q11 => ?_) (fun q11 => ?_)
  · first | (simp only [decide_eq_true_eq, decide_eq_false_iff_not, Bool.not_eq_true', Bool.not_eq_false', ne_eq, Decidable.not_not, Bool.not_eq_true, Bool.not_eq_false] at q11) | (dsimp only at q11) | skip
    refine Reg.skip rfl rfl rfl rfl rfl rfl rfl ?_
    refine Reg.skip rfl rfl rfl rfl rfl rfl rfl ?_
    refine Reg.skip rfl rfl rfl rfl rfl rfl rfl ?_
    refine Reg.pur rfl rfl rfl rfl (Pur.pickT rfl rfl) ?_
    refine Reg.pur rfl rfl rfl rfl (Pur.mv rfl) ?_
    refine Reg.skip rfl rfl rfl rfl rfl rfl rfl ?_
    refine Reg.skip rfl rfl rfl rfl rfl rfl rfl ?_
    refine Reg.skip rfl rfl rfl rfl rfl rfl rfl ?_
    refine Reg.pur rfl rfl rfl rfl (Pur.pickT rfl rfl) ?_
    refine Reg.pur rfl rfl rfl rfl (Pur.mv rfl) ?_
    refine Reg.skip rfl rfl rfl rfl rfl rfl rfl ?_
    refine Reg.skip rfl rfl rfl rfl rfl rfl rfl ?_
    refine Reg.skip rfl rfl rfl rfl rfl rfl rfl ?_
    refine Reg.skip rfl rfl rfl rfl rfl rfl rfl ?_
    refine Reg.skip rfl rfl rfl rfl rfl rfl rfl ?_
    refine Reg.skip rfl rfl rfl rfl rfl rfl rfl ?_
    refine Reg.skip rfl rfl rfl rfl rfl rfl rfl ?_
    refine Reg.skip rfl rfl rfl rfl rfl rfl rfl ?_
    refine Reg.pur rfl rfl rfl rfl (Pur.pickT rfl rfl) ?_
    refine Reg.nil ?_
    refine At.condT rfl rfl rfl ?_
    refine At.region rfl rfl ?_
    refine Reg.pur rfl rfl rfl rfl (Pur.bld (cs := [_]) pl55 zc55 rfl rfl ⟨rfl, rfl⟩) ?_
    refine Reg.op0 rfl rfl rfl (Does.stn ag55 rfl rfl (by first | rfl | exact ones_Is _) (by first | rfl | (simp [*]; done)) o0_3 (by first | decide | (simp; done) | (simp; omega) | omega)) ?_
    rintro _ H2_1 hu2_1
    have z2_1 := hu2_1.size
    replace hE := hE.upw hu2_1 (by omega)
    replace o0_0 := o0_0.upw hu2_1 (by omega)
    replace o0_1 := o0_1.upw hu2_1 (by omega)
    replace o0_2 := o0_2.upw hu2_1 (by omega)
    replace o0_3 := hu2_1.own
    first | rw [over (by first | rfl | (simp; done))] at o0_3 | skip
    refine Reg.pur rfl rfl rfl rfl (Pur.asg rfl) ?_
    refine Reg.nil ?_
    refine At.retC rfl Tryd.func43 ⟨_, _, _, _, rfl, rfl, ⟨_, o0_3.blk, .inr ⟨_, _, ag55, (whole rfl), rfl, rfl⟩⟩, ⟨_, _, rfl, rfl, rfl⟩⟩ ?_
    exact ⟨none, 0, by rw [funL_no (by rintro ⟨h1, h2, h3, h4⟩; first | (simp_all; done) | (simp_all; omega) | omega)]; rfl, by rw [funL_no (by rintro ⟨h1, h2, h3, h4⟩; first | (simp_all; done) | (simp_all; omega) | omega)]; exact OwnS.nilG, hE⟩
  first | (simp only [decide_eq_true_eq, decide_eq_false_iff_not, Bool.not_eq_true', Bool.not_eq_false', ne_eq, Decidable.not_not, Bool.not_eq_true, Bool.not_eq_false] at q11) | (dsimp only at q11) | skip
  refine Reg.glod rfl rfl rfl rfl rfl rfl (Lod.ldn ag24 rfl o0_1.blk (whole hr') hr') ?_
  refine Reg.gop rfl rfl rfl rfl rfl rfl (Does.call rfl (rowMay_ok r hr _)) ?_
  rintro _ H1_5 ⟨rfl, hE1_5⟩
  have z1_5 := hE1_5.lt
  replace hE := hE.ext hE1_5
  replace o0_0 := o0_0.ext hE1_5
  replace o0_1 := o0_1.ext hE1_5
  replace o0_2 := o0_2.ext hE1_5
  replace o0_3 := o0_3.ext hE1_5
  refine Reg.gpur rfl rfl rfl rfl rfl rfl (Pur.not rfl) ?_
  refine Reg.pur rfl rfl rfl rfl (Pur.pickF rfl rfl) ?_
  refine Reg.pur rfl rfl rfl rfl (Pur.mv rfl) ?_
  refine Reg.case 16 rfl (fun q16 => ?_) (fun q16 => ?_)
  · first | (simp only [decide_eq_true_eq, decide_eq_false_iff_not, Bool.not_eq_true', Bool.not_eq_false', ne_eq, Decidable.not_not, Bool.not_eq_true, Bool.not_eq_false] at q16) | (dsimp only at q16) | skip
    refine Reg.skip rfl rfl rfl rfl rfl rfl rfl ?_
    refine Reg.skip rfl rfl rfl rfl rfl rfl rfl ?_
    refine Reg.skip rfl rfl rfl rfl rfl rfl rfl ?_
    refine Reg.pur rfl rfl rfl rfl (Pur.pickT rfl rfl) ?_
    refine Reg.pur rfl rfl rfl rfl (Pur.mv rfl) ?_
    refine Reg.skip rfl rfl rfl rfl rfl rfl rfl ?_
    refine Reg.skip rfl rfl rfl rfl rfl rfl rfl ?_
    refine Reg.skip rfl rfl rfl rfl rfl rfl rfl ?_
    refine Reg.skip rfl rfl rfl rfl rfl rfl rfl ?_
    refine Reg.skip rfl rfl rfl rfl rfl rfl rfl ?_
    refine Reg.skip rfl rfl rfl rfl rfl rfl rfl ?_
    refine Reg.skip rfl rfl rfl rfl rfl rfl rfl ?_
    refine Reg.skip rfl rfl rfl rfl rfl rfl rfl ?_
    refine Reg.pur rfl rfl rfl rfl (Pur.pickT rfl rfl) ?_
    refine Reg.nil ?_
    refine At.condT rfl rfl rfl ?_
    refine At.region rfl rfl ?_
    refine Reg.pur rfl rfl rfl rfl (Pur.bld (cs := [_]) pl55 zc55 rfl rfl ⟨rfl, rfl⟩) ?_
    refine Reg.op0 rfl rfl rfl (Does.stn ag55 rfl rfl (by first | rfl | exact ones_Is _) (by first | rfl | (simp [*]; done)) o0_3 (by first | decide | (simp; done) | (simp; omega) | omega)) ?_
    rintro _ H2_1 hu2_1
    have z2_1 := hu2_1.size
    replace hE := hE.upw hu2_1 (by omega)
    replace o0_0 := o0_0.upw hu2_1 (by omega)
    replace o0_1 := o0_1.upw hu2_1 (by omega)
    replace o0_2 := o0_2.upw hu2_1 (by omega)
    replace o0_3 := hu2_1.own
    first | rw [over (by first | rfl | (simp; done))] at o0_3 | skip
    refine Reg.pur rfl rfl rfl rfl (Pur.asg rfl) ?_
    refine Reg.nil ?_
    refine At.retC rfl Tryd.func43 ⟨_, _, _, _, rfl, rfl, ⟨_, o0_3.blk, .inr ⟨_, _, ag55, (whole rfl), rfl, rfl⟩⟩, ⟨_, _, rfl, rfl, rfl⟩⟩ ?_
    exact ⟨none, 0, by rw [funL_no (by rintro ⟨h1, h2, h3, h4⟩; first | (simp_all; done) | (simp_all; omega) | omega)]; rfl, by rw [funL_no (by rintro ⟨h1, h2, h3, h4⟩; first | (simp_all; done) | (simp_all; omega) | omega)]; exact OwnS.nilG, hE⟩
  first | (simp only [decide_eq_true_eq, decide_eq_false_iff_not, Bool.not_eq_true', Bool.not_eq_false', ne_eq, Decidable.not_not, Bool.not_eq_true, Bool.not_eq_false] at q16) | (dsimp only at q16) | skip
  refine Reg.glod rfl rfl rfl rfl rfl rfl (Lod.ldn ag55 rfl o0_2.blk (whole rfl) rfl) ?_
  refine Reg.gop rfl rfl rfl rfl rfl rfl (Does.call rfl (typMay_ok Lb hb (hT.ext hE) hlb)) ?_
  rintro _ H1_10 ⟨rfl, hE1_10⟩
  have z1_10 := hE1_10.lt
  replace hE := hE.ext hE1_10
  replace o0_0 := o0_0.ext hE1_10
  replace o0_1 := o0_1.ext hE1_10
  replace o0_2 := o0_2.ext hE1_10
  replace o0_3 := o0_3.ext hE1_10
  refine Reg.gpur rfl rfl rfl rfl rfl rfl (Pur.not rfl) ?_
  refine Reg.pur rfl rfl rfl rfl (Pur.pickF rfl rfl) ?_
  refine Reg.pur rfl rfl rfl rfl (Pur.mv rfl) ?_
  refine Reg.case 21 rfl (fun q21 => ?_) (fun q21 => ?_)
  · first | (simp only [decide_eq_true_eq, decide_eq_false_iff_not, Bool.not_eq_true', Bool.not_eq_false', ne_eq, Decidable.not_not, Bool.not_eq_true, Bool.not_eq_false] at q21) | (dsimp only at q21) | skip
    refine Reg.skip rfl rfl rfl rfl rfl rfl rfl ?_
    refine Reg.skip rfl rfl rfl rfl rfl rfl rfl ?_
    refine Reg.skip rfl rfl rfl rfl rfl rfl rfl ?_
    refine Reg.skip rfl rfl rfl rfl rfl rfl rfl ?_
    refine Reg.skip rfl rfl rfl rfl rfl rfl rfl ?_
    refine Reg.skip rfl rfl rfl rfl rfl rfl rfl ?_
    refine Reg.skip rfl rfl rfl rfl rfl rfl rfl ?_
    refine Reg.skip rfl rfl rfl rfl rfl rfl rfl ?_
    refine Reg.pur rfl rfl rfl rfl (Pur.pickT rfl rfl) ?_
    refine Reg.nil ?_
    refine At.condT rfl rfl rfl ?_
    refine At.region rfl rfl ?_
    refine Reg.pur rfl rfl rfl rfl (Pur.bld (cs := [_]) pl55 zc55 rfl rfl ⟨rfl, rfl⟩) ?_
    refine Reg.op0 rfl rfl rfl (Does.stn ag55 rfl rfl (by first | rfl | exact ones_Is _) (by first | rfl | (simp [*]; done)) o0_3 (by first | decide | (simp; done) | (simp; omega) | omega)) ?_
    rintro _ H2_1 hu2_1
    have z2_1 := hu2_1.size
    replace hE := hE.upw hu2_1 (by omega)
    replace o0_0 := o0_0.upw hu2_1 (by omega)
    replace o0_1 := o0_1.upw hu2_1 (by omega)
    replace o0_2 := o0_2.upw hu2_1 (by omega)
    replace o0_3 := hu2_1.own
    first | rw [over (by first | rfl | (simp; done))] at o0_3 | skip
    refine Reg.pur rfl rfl rfl rfl (Pur.asg rfl) ?_
    refine Reg.nil ?_
    refine At.retC rfl Tryd.func43 ⟨_, _, _, _, rfl, rfl, ⟨_, o0_3.blk, .inr ⟨_, _, ag55, (whole rfl), rfl, rfl⟩⟩, ⟨_, _, rfl, rfl, rfl⟩⟩ ?_
    exact ⟨none, 0, by rw [funL_no (by rintro ⟨h1, h2, h3, h4⟩; first | (simp_all; done) | (simp_all; omega) | omega)]; rfl, by rw [funL_no (by rintro ⟨h1, h2, h3, h4⟩; first | (simp_all; done) | (simp_all; omega) | omega)]; exact OwnS.nilG, hE⟩
  first | (simp only [decide_eq_true_eq, decide_eq_false_iff_not, Bool.not_eq_true', Bool.not_eq_false', ne_eq, Decidable.not_not, Bool.not_eq_true, Bool.not_eq_false] at q21) | (dsimp only at q21) | skip
  refine Reg.gpur rfl rfl rfl rfl rfl rfl (Pur.fld _ fo55_0 rfl) ?_
  refine Reg.glod rfl rfl rfl rfl rfl rfl (Lod.ld sc53 rfl o0_0.blk rfl) ?_
  refine Reg.gpur rfl rfl rfl rfl rfl rfl (Pur.lenS isl53 rfl) ?_
  refine Reg.gpur rfl rfl rfl rfl rfl rfl (Pur.fld _ fo55_0 rfl) ?_
  refine Reg.glod rfl rfl rfl rfl rfl rfl (Lod.ld sc53 rfl o0_2.blk rfl) ?_
  refine Reg.gpur rfl rfl rfl rfl rfl rfl (Pur.lenS isl53 rfl) ?_
  refine Reg.gpur rfl rfl rfl rfl rfl rfl (Pur.add64 rfl rfl (by have := hla2 (by assumption); have := hlb2 (by assumption); omega)) ?_
  refine Reg.gpur rfl rfl rfl rfl rfl rfl (Pur.geq rfl rfl) ?_
  refine Reg.pur rfl rfl rfl rfl (Pur.pickF rfl rfl) ?_
  refine Reg.nil ?_
  refine At.cond rfl rfl (fun q30 => ?_) (fun q30 => ?_)
  · first | (simp only [decide_eq_true_eq, decide_eq_false_iff_not, Bool.not_eq_true', Bool.not_eq_false', ne_eq, Decidable.not_not, Bool.not_eq_true, Bool.not_eq_false] at q30) | (dsimp only at q30) | skip
    refine At.region rfl rfl ?_
    refine Reg.pur rfl rfl rfl rfl (Pur.bld (cs := [_]) pl55 zc55 rfl rfl ⟨rfl, rfl⟩) ?_
    refine Reg.op0 rfl rfl rfl (Does.stn ag55 rfl rfl (by first | rfl | exact ones_Is _) (by first | rfl | (simp [*]; done)) o0_3 (by first | decide | (simp; done) | (simp; omega) | omega)) ?_
    rintro _ H2_1 hu2_1
    have z2_1 := hu2_1.size
    replace hE := hE.upw hu2_1 (by omega)
    replace o0_0 := o0_0.upw hu2_1 (by omega)
    replace o0_1 := o0_1.upw hu2_1 (by omega)
    replace o0_2 := o0_2.upw hu2_1 (by omega)
    replace o0_3 := hu2_1.own
    first | rw [over (by first | rfl | (simp; done))] at o0_3 | skip
    refine Reg.pur rfl rfl rfl rfl (Pur.asg rfl) ?_
    refine Reg.nil ?_
    refine At.retC rfl Tryd.func43 ⟨_, _, _, _, rfl, rfl, ⟨_, o0_3.blk, .inr ⟨_, _, ag55, (whole rfl), rfl, rfl⟩⟩, ⟨_, _, rfl, rfl, rfl⟩⟩ ?_
    exact ⟨none, 0, by rw [funL_no (by rintro ⟨h1, h2, h3, h4⟩; first | (simp_all; done) | (simp_all; omega) | omega)]; rfl, by rw [funL_no (by rintro ⟨h1, h2, h3, h4⟩; first | (simp_all; done) | (simp_all; omega) | omega)]; exact OwnS.nilG, hE⟩
  first | (simp only [decide_eq_true_eq, decide_eq_false_iff_not, Bool.not_eq_true', Bool.not_eq_false', ne_eq, Decidable.not_not, Bool.not_eq_true, Bool.not_eq_false] at q30) | (dsimp only at q30) | skip
  refine At.region rfl rfl ?_
  refine Reg.lod rfl rfl rfl rfl (Lod.ldn ag24 rfl o0_1.blk (whole hr') hr') ?_
  refine Reg.op rfl rfl rfl rfl (Does.call rfl (arrowP_ok ha hb hr (hS.ext hE) (hT.ext hE) (by have := hla2 (by assumption); omega) (by have := hlb2 (by assumption); omega) o0_0.blk (at0 _) o0_2.blk (at0 _))) ?_
  rintro v3_1 H3_1 ⟨⟨A3, cap3, rfl, hg3_1⟩, hE3_1⟩
  have z3_1 := hE3_1.lt
  replace hE := hE.ext hE3_1
  replace o0_0 := o0_0.ext hE3_1
  replace o0_1 := o0_1.ext hE3_1
  replace o0_2 := o0_2.ext hE3_1
  replace o0_3 := o0_3.ext hE3_1
  have z_hg3_1 := hg3_1.lt
  refine Reg.op0 rfl rfl rfl (Does.stn ag55 rfl rfl (by first | rfl | exact ones_Is _) (by first | rfl | (simp [*]; done)) o0_3 (by first | decide | (simp; done) | (simp; omega) | omega)) ?_
  rintro _ H3_2 hu3_2
  have z3_2 := hu3_2.size
  replace hE := hE.upw hu3_2 (by omega)
  replace o0_0 := o0_0.upw hu3_2 (by omega)
  replace o0_1 := o0_1.upw hu3_2 (by omega)
  replace o0_2 := o0_2.upw hu3_2 (by omega)
  replace hg3_1 := hg3_1.upw hu3_2 (by omega)
  replace o0_3 := hu3_2.own
  first | rw [over (by first | rfl | (simp; done))] at o0_3 | skip
  refine Reg.pur rfl rfl rfl rfl (Pur.asg rfl) ?_
  refine Reg.nil ?_
  refine At.retC rfl Tryd.func43 ⟨_, _, _, _, rfl, rfl, ⟨_, o0_3.blk, .inr ⟨_, _, ag55, (whole rfl), rfl, rfl⟩⟩, ⟨_, _, rfl, rfl, rfl⟩⟩ ?_
  exact ⟨A3, cap3, by rw [funL_yes ⟨by simp_all, by simp_all, by simp_all, by omega⟩]; rfl, by rw [funL_yes ⟨by simp_all, by simp_all, by simp_all, by omega⟩]; exact hg3_1.mono (by omega), hE⟩
theorem funR_ok {A B : Option Addr} {ca cb : Nat} {La Lb : List (List Int)} {r : List Int} (ha : Nine La) (hb : Nine Lb) (hr : r.length = 5) {H : Heap} (hS : SlT H Is 9 (.slice A La.length ca) La) (hT : SlT H Is 9 (.slice B Lb.length cb) Lb) (hla : La.length ≤ 9223372036854775807) (hlb : Lb.length ≤ 9223372036854775807) :
    Ret Tryd.prog 44 [Ty A La.length ca, .agg (Is r).toArray, Ty B Lb.length cb] H (FunP La r Lb H) := by
  have hr' : (Is r).length = 5 := by simp [hr]
  have hla2 : typM La = true → La.length ≤ 256 := fun h => (typM_bgn h).1.2
  have hlb2 : typM Lb = true → Lb.length ≤ 256 := fun h => (typM_bgn h).1.2
  refine Ret.of_at (N := 37) Tryd.call44 Tryd.func44 rfl rfl rfl ?_
  have hE := Ext.refl H
  refine At.region rfl rfl ?_
  refine Reg.op rfl rfl rfl rfl (Does.box rfl rfl) ?_
  rintro _ H0_0 ⟨rfl, hn0_0⟩
  have z0_0 := hn0_0.size
  replace hE := hE.ext hn0_0.ext
  have o0_0 := hn0_0.own
  refine Reg.op rfl rfl rfl rfl (Does.box rfl rfl) ?_
  rintro _ H0_1 ⟨rfl, hn0_1⟩
  have z0_1 := hn0_1.size
  replace hE := hE.ext hn0_1.ext
  replace o0_0 := o0_0.ext hn0_1.ext
  have o0_1 := hn0_1.own
  refine Reg.op rfl rfl rfl rfl (Does.box rfl rfl) ?_
  rintro _ H0_2 ⟨rfl, hn0_2⟩
  have z0_2 := hn0_2.size
  replace hE := hE.ext hn0_2.ext
  replace o0_0 := o0_0.ext hn0_2.ext
  replace o0_1 := o0_1.ext hn0_2.ext
  have o0_2 := hn0_2.own
  refine Reg.op rfl rfl rfl rfl (Does.alloc zc55) ?_
  rintro _ H0_3 ⟨rfl, hn0_3⟩
  have z0_3 := hn0_3.size
  replace hE := hE.ext hn0_3.ext
  replace o0_0 := o0_0.ext hn0_3.ext
  replace o0_1 := o0_1.ext hn0_3.ext
  replace o0_2 := o0_2.ext hn0_3.ext
  have o0_3 := hn0_3.own
  refine Reg.pur rfl rfl rfl rfl (Pur.asg rfl) ?_
  refine Reg.nil ?_
  refine At.region rfl rfl ?_
  refine Reg.lod rfl rfl rfl rfl (Lod.ldn ag55 rfl o0_0.blk (whole rfl) rfl) ?_
  refine Reg.op rfl rfl rfl rfl (Does.call rfl (typMayR_ok La ha (hS.ext hE) hla)) ?_
  rintro _ H1_1 ⟨rfl, hE1_1⟩
  have z1_1 := hE1_1.lt
  replace hE := hE.ext hE1_1
  replace o0_0 := o0_0.ext hE1_1
  replace o0_1 := o0_1.ext hE1_1
  replace o0_2 := o0_2.ext hE1_1
  replace o0_3 := o0_3.ext hE1_1
  refine Reg.pur rfl rfl rfl rfl (Pur.not rfl) ?_
  refine Reg.pur rfl rfl rfl rfl (Pur.mv rfl) ?_
  refine Reg.case 11 rfl (fun q11 => ?_) (fun q11 => ?_)
  · first | (simp only [decide_eq_true_eq, decide_eq_false_iff_not, Bool.not_eq_true', Bool.not_eq_false', ne_eq, Decidable.not_not, Bool.not_eq_true, Bool.not_eq_false] at q11) | (dsimp only at q11) | skip
    refine Reg.skip rfl rfl rfl rfl rfl rfl rfl ?_
    refine Reg.skip rfl rfl rfl rfl rfl rfl rfl ?_
    refine Reg.skip rfl rfl rfl rfl rfl rfl rfl ?_
    refine Reg.pur rfl rfl rfl rfl (Pur.pickT rfl rfl) ?_
    refine Reg.pur rfl rfl rfl rfl (Pur.mv rfl) ?_
    refine Reg.skip rfl rfl rfl rfl rfl rfl rfl ?_
    refine Reg.skip rfl rfl rfl rfl rfl rfl rfl ?_
    refine Reg.skip rfl rfl rfl rfl rfl rfl rfl ?_
    refine Reg.pur rfl rfl rfl rfl (Pur.pickT rfl rfl) ?_
    refine Reg.pur rfl rfl rfl rfl (Pur.mv rfl) ?_
    refine Reg.skip rfl rfl rfl rfl rfl rfl rfl ?_
    refine Reg.skip rfl rfl rfl rfl rfl rfl rfl ?_
    refine Reg.skip rfl rfl rfl rfl rfl rfl rfl ?_
    refine Reg.skip rfl rfl rfl rfl rfl rfl rfl ?_
    refine Reg.skip rfl rfl rfl rfl rfl rfl rfl ?_
    refine Reg.skip rfl rfl rfl rfl rfl rfl rfl ?_
    refine Reg.skip rfl rfl rfl rfl rfl rfl rfl ?_
    refine Reg.skip rfl rfl rfl rfl rfl rfl rfl ?_
    refine Reg.skip rfl rfl rfl rfl rfl rfl rfl ?_
    refine Reg.pur rfl rfl rfl rfl (Pur.pickT rfl rfl) ?_
    refine Reg.nil ?_
    refine At.condT rfl rfl rfl ?_
    refine At.region rfl rfl ?_
    refine Reg.pur rfl rfl rfl rfl (Pur.bld (cs := [_]) pl55 zc55 rfl rfl ⟨rfl, rfl⟩) ?_
    refine Reg.op0 rfl rfl rfl (Does.stn ag55 rfl rfl (by first | rfl | exact ones_Is _) (by first | rfl | (simp [*]; done)) o0_3 (by first | decide | (simp; done) | (simp; omega) | omega)) ?_
    rintro _ H2_1 hu2_1
    have z2_1 := hu2_1.size
    replace hE := hE.upw hu2_1 (by omega)
    replace o0_0 := o0_0.upw hu2_1 (by omega)
    replace o0_1 := o0_1.upw hu2_1 (by omega)
    replace o0_2 := o0_2.upw hu2_1 (by omega)
    replace o0_3 := hu2_1.own
    first | rw [over (by first | rfl | (simp; done))] at o0_3 | skip
    refine Reg.pur rfl rfl rfl rfl (Pur.asg rfl) ?_
    refine Reg.nil ?_
    refine At.retC rfl Tryd.func44 ⟨_, _, _, _, rfl, rfl, ⟨_, o0_3.blk, .inr ⟨_, _, ag55, (whole rfl), rfl, rfl⟩⟩, ⟨_, _, rfl, rfl, rfl⟩⟩ ?_
    exact ⟨none, 0, by rw [funL_no (by rintro ⟨h1, h2, h3, h4⟩; first | (simp_all; done) | (simp_all; omega) | omega)]; rfl, by rw [funL_no (by rintro ⟨h1, h2, h3, h4⟩; first | (simp_all; done) | (simp_all; omega) | omega)]; exact OwnS.nilG, hE⟩
  first | (simp only [decide_eq_true_eq, decide_eq_false_iff_not, Bool.not_eq_true', Bool.not_eq_false', ne_eq, Decidable.not_not, Bool.not_eq_true, Bool.not_eq_false] at q11) | (dsimp only at q11) | skip
  refine Reg.glod rfl rfl rfl rfl rfl rfl (Lod.ldn ag24 rfl o0_1.blk (whole hr') hr') ?_
  refine Reg.gop rfl rfl rfl rfl rfl rfl (Does.call rfl (rowMayR_ok r hr _)) ?_
  rintro _ H1_5 ⟨rfl, hE1_5⟩
  have z1_5 := hE1_5.lt
  replace hE := hE.ext hE1_5
  replace o0_0 := o0_0.ext hE1_5
  replace o0_1 := o0_1.ext hE1_5
  replace o0_2 := o0_2.ext hE1_5
  replace o0_3 := o0_3.ext hE1_5
  refine Reg.gpur rfl rfl rfl rfl rfl rfl (Pur.not rfl) ?_
  refine Reg.pur rfl rfl rfl rfl (Pur.pickF rfl rfl) ?_
  refine Reg.pur rfl rfl rfl rfl (Pur.mv rfl) ?_
  refine Reg.case 16 rfl (fun q16 => ?_) (fun q16 => ?_)
  · first | (simp only [decide_eq_true_eq, decide_eq_false_iff_not, Bool.not_eq_true', Bool.not_eq_false', ne_eq, Decidable.not_not, Bool.not_eq_true, Bool.not_eq_false] at q16) | (dsimp only at q16) | skip
    refine Reg.skip rfl rfl rfl rfl rfl rfl rfl ?_
    refine Reg.skip rfl rfl rfl rfl rfl rfl rfl ?_
    refine Reg.skip rfl rfl rfl rfl rfl rfl rfl ?_
    refine Reg.pur rfl rfl rfl rfl (Pur.pickT rfl rfl) ?_
    refine Reg.pur rfl rfl rfl rfl (Pur.mv rfl) ?_
    refine Reg.skip rfl rfl rfl rfl rfl rfl rfl ?_
    refine Reg.skip rfl rfl rfl rfl rfl rfl rfl ?_
    refine Reg.skip rfl rfl rfl rfl rfl rfl rfl ?_
    refine Reg.skip rfl rfl rfl rfl rfl rfl rfl ?_
    refine Reg.skip rfl rfl rfl rfl rfl rfl rfl ?_
    refine Reg.skip rfl rfl rfl rfl rfl rfl rfl ?_
    refine Reg.skip rfl rfl rfl rfl rfl rfl rfl ?_
    refine Reg.skip rfl rfl rfl rfl rfl rfl rfl ?_
    refine Reg.skip rfl rfl rfl rfl rfl rfl rfl ?_
    refine Reg.pur rfl rfl rfl rfl (Pur.pickT rfl rfl) ?_
    refine Reg.nil ?_
    refine At.condT rfl rfl rfl ?_
    refine At.region rfl rfl ?_
    refine Reg.pur rfl rfl rfl rfl (Pur.bld (cs := [_]) pl55 zc55 rfl rfl ⟨rfl, rfl⟩) ?_
    refine Reg.op0 rfl rfl rfl (Does.stn ag55 rfl rfl (by first | rfl | exact ones_Is _) (by first | rfl | (simp [*]; done)) o0_3 (by first | decide | (simp; done) | (simp; omega) | omega)) ?_
    rintro _ H2_1 hu2_1
    have z2_1 := hu2_1.size
    replace hE := hE.upw hu2_1 (by omega)
    replace o0_0 := o0_0.upw hu2_1 (by omega)
    replace o0_1 := o0_1.upw hu2_1 (by omega)
    replace o0_2 := o0_2.upw hu2_1 (by omega)
    replace o0_3 := hu2_1.own
    first | rw [over (by first | rfl | (simp; done))] at o0_3 | skip
    refine Reg.pur rfl rfl rfl rfl (Pur.asg rfl) ?_
    refine Reg.nil ?_
    refine At.retC rfl Tryd.func44 ⟨_, _, _, _, rfl, rfl, ⟨_, o0_3.blk, .inr ⟨_, _, ag55, (whole rfl), rfl, rfl⟩⟩, ⟨_, _, rfl, rfl, rfl⟩⟩ ?_
    exact ⟨none, 0, by rw [funL_no (by rintro ⟨h1, h2, h3, h4⟩; first | (simp_all; done) | (simp_all; omega) | omega)]; rfl, by rw [funL_no (by rintro ⟨h1, h2, h3, h4⟩; first | (simp_all; done) | (simp_all; omega) | omega)]; exact OwnS.nilG, hE⟩
  first | (simp only [decide_eq_true_eq, decide_eq_false_iff_not, Bool.not_eq_true', Bool.not_eq_false', ne_eq, Decidable.not_not, Bool.not_eq_true, Bool.not_eq_false] at q16) | (dsimp only at q16) | skip
  refine Reg.glod rfl rfl rfl rfl rfl rfl (Lod.ldn ag55 rfl o0_2.blk (whole rfl) rfl) ?_
  refine Reg.gop rfl rfl rfl rfl rfl rfl (Does.call rfl (typMayR_ok Lb hb (hT.ext hE) hlb)) ?_
  rintro _ H1_10 ⟨rfl, hE1_10⟩
  have z1_10 := hE1_10.lt
  replace hE := hE.ext hE1_10
  replace o0_0 := o0_0.ext hE1_10
  replace o0_1 := o0_1.ext hE1_10
  replace o0_2 := o0_2.ext hE1_10
  replace o0_3 := o0_3.ext hE1_10
  refine Reg.gpur rfl rfl rfl rfl rfl rfl (Pur.not rfl) ?_
  refine Reg.pur rfl rfl rfl rfl (Pur.pickF rfl rfl) ?_
  refine Reg.pur rfl rfl rfl rfl (Pur.mv rfl) ?_
  refine Reg.case 21 rfl (fun q21 => ?_) (fun q21 => ?_)
  · first | (simp only [decide_eq_true_eq, decide_eq_false_iff_not, Bool.not_eq_true', Bool.not_eq_false', ne_eq, Decidable.not_not, Bool.not_eq_true, Bool.not_eq_false] at q21) | (dsimp only at q21) | skip
    refine Reg.skip rfl rfl rfl rfl rfl rfl rfl ?_
    refine Reg.skip rfl rfl rfl rfl rfl rfl rfl ?_
    refine Reg.skip rfl rfl rfl rfl rfl rfl rfl ?_
    refine Reg.skip rfl rfl rfl rfl rfl rfl rfl ?_
    refine Reg.skip rfl rfl rfl rfl rfl rfl rfl ?_
    refine Reg.skip rfl rfl rfl rfl rfl rfl rfl ?_
    refine Reg.skip rfl rfl rfl rfl rfl rfl rfl ?_
    refine Reg.skip rfl rfl rfl rfl rfl rfl rfl ?_
    refine Reg.skip rfl rfl rfl rfl rfl rfl rfl ?_
    refine Reg.pur rfl rfl rfl rfl (Pur.pickT rfl rfl) ?_
    refine Reg.nil ?_
    refine At.condT rfl rfl rfl ?_
    refine At.region rfl rfl ?_
    refine Reg.pur rfl rfl rfl rfl (Pur.bld (cs := [_]) pl55 zc55 rfl rfl ⟨rfl, rfl⟩) ?_
    refine Reg.op0 rfl rfl rfl (Does.stn ag55 rfl rfl (by first | rfl | exact ones_Is _) (by first | rfl | (simp [*]; done)) o0_3 (by first | decide | (simp; done) | (simp; omega) | omega)) ?_
    rintro _ H2_1 hu2_1
    have z2_1 := hu2_1.size
    replace hE := hE.upw hu2_1 (by omega)
    replace o0_0 := o0_0.upw hu2_1 (by omega)
    replace o0_1 := o0_1.upw hu2_1 (by omega)
    replace o0_2 := o0_2.upw hu2_1 (by omega)
    replace o0_3 := hu2_1.own
    first | rw [over (by first | rfl | (simp; done))] at o0_3 | skip
    refine Reg.pur rfl rfl rfl rfl (Pur.asg rfl) ?_
    refine Reg.nil ?_
    refine At.retC rfl Tryd.func44 ⟨_, _, _, _, rfl, rfl, ⟨_, o0_3.blk, .inr ⟨_, _, ag55, (whole rfl), rfl, rfl⟩⟩, ⟨_, _, rfl, rfl, rfl⟩⟩ ?_
    exact ⟨none, 0, by rw [funL_no (by rintro ⟨h1, h2, h3, h4⟩; first | (simp_all; done) | (simp_all; omega) | omega)]; rfl, by rw [funL_no (by rintro ⟨h1, h2, h3, h4⟩; first | (simp_all; done) | (simp_all; omega) | omega)]; exact OwnS.nilG, hE⟩
  first | (simp only [decide_eq_true_eq, decide_eq_false_iff_not, Bool.not_eq_true', Bool.not_eq_false', ne_eq, Decidable.not_not, Bool.not_eq_true, Bool.not_eq_false] at q21) | (dsimp only at q21) | skip
  refine Reg.gpur rfl rfl rfl rfl rfl rfl (Pur.fld _ fo55_0 rfl) ?_
  refine Reg.glod rfl rfl rfl rfl rfl rfl (Lod.ld sc53 rfl o0_0.blk rfl) ?_
  refine Reg.gpur rfl rfl rfl rfl rfl rfl (Pur.lenS isl53 rfl) ?_
  refine Reg.gpur rfl rfl rfl rfl rfl rfl (Pur.fld _ fo55_0 rfl) ?_
  refine Reg.glod rfl rfl rfl rfl rfl rfl (Lod.ld sc53 rfl o0_2.blk rfl) ?_
  refine Reg.gpur rfl rfl rfl rfl rfl rfl (Pur.lenS isl53 rfl) ?_
  refine Reg.gpur rfl rfl rfl rfl rfl rfl (Pur.add64 rfl rfl (by have := hla2 (by assumption); have := hlb2 (by assumption); omega)) ?_
  refine Reg.gpur rfl rfl rfl rfl rfl rfl (Pur.add64 rfl rfl (by have := hla2 (by assumption); have := hlb2 (by assumption); omega)) ?_
  refine Reg.gpur rfl rfl rfl rfl rfl rfl (Pur.gtr rfl rfl) ?_
  refine Reg.pur rfl rfl rfl rfl (Pur.pickF rfl rfl) ?_
  refine Reg.nil ?_
  refine At.cond rfl rfl (fun q31 => ?_) (fun q31 => ?_)
  · first | (simp only [decide_eq_true_eq, decide_eq_false_iff_not, Bool.not_eq_true', Bool.not_eq_false', ne_eq, Decidable.not_not, Bool.not_eq_true, Bool.not_eq_false] at q31) | (dsimp only at q31) | skip
    refine At.region rfl rfl ?_
    refine Reg.pur rfl rfl rfl rfl (Pur.bld (cs := [_]) pl55 zc55 rfl rfl ⟨rfl, rfl⟩) ?_
    refine Reg.op0 rfl rfl rfl (Does.stn ag55 rfl rfl (by first | rfl | exact ones_Is _) (by first | rfl | (simp [*]; done)) o0_3 (by first | decide | (simp; done) | (simp; omega) | omega)) ?_
    rintro _ H2_1 hu2_1
    have z2_1 := hu2_1.size
    replace hE := hE.upw hu2_1 (by omega)
    replace o0_0 := o0_0.upw hu2_1 (by omega)
    replace o0_1 := o0_1.upw hu2_1 (by omega)
    replace o0_2 := o0_2.upw hu2_1 (by omega)
    replace o0_3 := hu2_1.own
    first | rw [over (by first | rfl | (simp; done))] at o0_3 | skip
    refine Reg.pur rfl rfl rfl rfl (Pur.asg rfl) ?_
    refine Reg.nil ?_
    refine At.retC rfl Tryd.func44 ⟨_, _, _, _, rfl, rfl, ⟨_, o0_3.blk, .inr ⟨_, _, ag55, (whole rfl), rfl, rfl⟩⟩, ⟨_, _, rfl, rfl, rfl⟩⟩ ?_
    exact ⟨none, 0, by rw [funL_no (by rintro ⟨h1, h2, h3, h4⟩; first | (simp_all; done) | (simp_all; omega) | omega)]; rfl, by rw [funL_no (by rintro ⟨h1, h2, h3, h4⟩; first | (simp_all; done) | (simp_all; omega) | omega)]; exact OwnS.nilG, hE⟩
  first | (simp only [decide_eq_true_eq, decide_eq_false_iff_not, Bool.not_eq_true', Bool.not_eq_false', ne_eq, Decidable.not_not, Bool.not_eq_true, Bool.not_eq_false] at q31) | (dsimp only at q31) | skip
  refine At.region rfl rfl ?_
  refine Reg.lod rfl rfl rfl rfl (Lod.ldn ag55 rfl o0_0.blk (whole rfl) rfl) ?_
  refine Reg.lod rfl rfl rfl rfl (Lod.ldn ag24 rfl o0_1.blk (whole hr') hr') ?_
  refine Reg.lod rfl rfl rfl rfl (Lod.ldn ag55 rfl o0_2.blk (whole rfl) rfl) ?_
  refine Reg.op rfl rfl rfl rfl (Does.call rfl (arrow_ok ha hb hr (hS.ext hE) (hT.ext hE) (by have := hla2 (by assumption); omega) (by have := hlb2 (by assumption); omega))) ?_
  rintro v3_3 H3_3 ⟨⟨A3, cap3, rfl, hg3_3⟩, hE3_3⟩
  have z3_3 := hE3_3.lt
  replace hE := hE.ext hE3_3
  replace o0_0 := o0_0.ext hE3_3
  replace o0_1 := o0_1.ext hE3_3
  replace o0_2 := o0_2.ext hE3_3
  replace o0_3 := o0_3.ext hE3_3
  have z_hg3_3 := hg3_3.lt
  refine Reg.op0 rfl rfl rfl (Does.stn ag55 rfl rfl (by first | rfl | exact ones_Is _) (by first | rfl | (simp [*]; done)) o0_3 (by first | decide | (simp; done) | (simp; omega) | omega)) ?_
  rintro _ H3_4 hu3_4
  have z3_4 := hu3_4.size
  replace hE := hE.upw hu3_4 (by omega)
  replace o0_0 := o0_0.upw hu3_4 (by omega)
  replace o0_1 := o0_1.upw hu3_4 (by omega)
  replace o0_2 := o0_2.upw hu3_4 (by omega)
  replace hg3_3 := hg3_3.upw hu3_4 (by omega)
  replace o0_3 := hu3_4.own
  first | rw [over (by first | rfl | (simp; done))] at o0_3 | skip
  refine Reg.pur rfl rfl rfl rfl (Pur.asg rfl) ?_
  refine Reg.nil ?_
  refine At.retC rfl Tryd.func44 ⟨_, _, _, _, rfl, rfl, ⟨_, o0_3.blk, .inr ⟨_, _, ag55, (whole rfl), rfl, rfl⟩⟩, ⟨_, _, rfl, rfl, rfl⟩⟩ ?_
  exact ⟨A3, cap3, by rw [funL_yes ⟨by simp_all, by simp_all, by simp_all, by omega⟩]; rfl, by rw [funL_yes ⟨by simp_all, by simp_all, by simp_all, by omega⟩]; exact hg3_3.mono (by omega), hE⟩
theorem varsR_ok {A : Option Addr} {cap : Nat} {L : List (List Int)} (hL : Nine L) {H : Heap} (hS : SlT H Is 9 (.slice A L.length cap) L) (hm : L.length ≤ 9223372036854775807) :
    Ret Tryd.prog 42 [Ty A L.length cap] H (fun v H' => Ext H H' ∧ ∃ A1 c1 A2 c2, v = .tuple #[.slice A1 (varsT L).1.length c1, .slice A2 (varsT L).2.length c2, I (if typM L then 0 else 700)] ∧
      Gs H' H.size 3 1 A1 c1 (varsT L).1.length ((varsT L).1.flatMap e1) ∧ Gs H' H.size 3 1 A2 c2 (varsT L).2.length ((varsT L).2.flatMap e1)) := by
  refine Ret.of_at (N := 17) Tryd.call42 Tryd.func42 rfl rfl rfl ?_
  have hE := Ext.refl H
  refine At.region rfl rfl ?_
  refine Reg.op rfl rfl rfl rfl (Does.box rfl rfl) ?_
  rintro _ H0_0 ⟨rfl, hn0_0⟩
  have z0_0 := hn0_0.size
  replace hE := hE.ext hn0_0.ext
  have o0_0 := hn0_0.own
  refine Reg.pur rfl rfl rfl rfl (Pur.asg rfl) ?_
  refine Reg.pur rfl rfl rfl rfl (Pur.asg rfl) ?_
  refine Reg.pur rfl rfl rfl rfl (Pur.asg rfl) ?_
  refine Reg.nil ?_
  refine At.region rfl rfl ?_
  refine Reg.lod rfl rfl rfl rfl (Lod.ldn ag55 rfl o0_0.blk (whole rfl) rfl) ?_
  refine Reg.op rfl rfl rfl rfl (Does.call rfl (typMayR_ok L hL (hS.ext hE) hm)) ?_
  rintro _ H1_1 ⟨rfl, hE1_1⟩
  have z1_1 := hE1_1.lt
  replace hE := hE.ext hE1_1
  replace o0_0 := o0_0.ext hE1_1
  refine Reg.pur rfl rfl rfl rfl (Pur.not rfl) ?_
  refine Reg.nil ?_
  refine At.cond rfl rfl (fun q9 => ?_) (fun q9 => ?_)
  · first | (simp only [decide_eq_true_eq, decide_eq_false_iff_not, Bool.not_eq_true', Bool.not_eq_false', ne_eq, Decidable.not_not, Bool.not_eq_true, Bool.not_eq_false] at q9) | (dsimp only at q9) | skip
    refine At.region rfl rfl ?_
    refine Reg.pur rfl rfl rfl rfl (Pur.asg rfl) ?_
    refine Reg.pur rfl rfl rfl rfl (Pur.asg rfl) ?_
    refine Reg.pur rfl rfl rfl rfl (Pur.asg rfl) ?_
    refine Reg.nil ?_
    refine At.ret rfl Tryd.func42 rfl ?_
    have hv : varsT L = ([], []) := by unfold varsT; rw [q9]; rfl
    rw [hv, q9]
    exact ⟨hE, none, 0, none, 0, rfl, OwnS.nilG, OwnS.nilG⟩
  first | (simp only [decide_eq_true_eq, decide_eq_false_iff_not, Bool.not_eq_true', Bool.not_eq_false', ne_eq, Decidable.not_not, Bool.not_eq_true, Bool.not_eq_false] at q9) | (dsimp only at q9) | skip
  refine At.region rfl rfl ?_
  refine Reg.lod rfl rfl rfl rfl (Lod.ldn ag55 rfl o0_0.blk (whole rfl) rfl) ?_
  refine Reg.op rfl rfl rfl rfl (Does.call rfl (varsOf_ok hL q9 (hS.ext hE))) ?_
  rintro v3_1 H3_1 ⟨hE3_1, A1, c1, A2, c2, rfl, hga, hgb⟩
  have z3_1 := hE3_1.lt
  replace hE := hE.ext hE3_1
  replace o0_0 := o0_0.ext hE3_1
  have z_hga := hga.lt
  have z_hgb := hgb.lt
  refine Reg.pur rfl rfl rfl rfl (Pur.mv rfl) ?_
  refine Reg.pur rfl rfl rfl rfl (Pur.ext rfl rfl) ?_
  refine Reg.pur rfl rfl rfl rfl (Pur.ext rfl rfl) ?_
  refine Reg.pur rfl rfl rfl rfl (Pur.asg rfl) ?_
  refine Reg.pur rfl rfl rfl rfl (Pur.asg rfl) ?_
  refine Reg.nil ?_
  refine At.region rfl rfl ?_
  refine Reg.pur rfl rfl rfl rfl (Pur.mv rfl) ?_
  refine Reg.pur rfl rfl rfl rfl (Pur.mv rfl) ?_
  refine Reg.pur rfl rfl rfl rfl (Pur.asg rfl) ?_
  refine Reg.pur rfl rfl rfl rfl (Pur.asg rfl) ?_
  refine Reg.pur rfl rfl rfl rfl (Pur.asg rfl) ?_
  refine Reg.nil ?_
  refine At.ret rfl Tryd.func42 rfl ?_
  rw [q9]
  exact ⟨hE, A1, c1, A2, c2, rfl, hga.mono (by omega), hgb.mono (by omega)⟩
end Go.Proofs.YtlfillhffpiffaaDoor

namespace Go.Proofs.YtlfillhffpiffaaDoor
set_option linter.unusedSimpArgs false
set_option linter.unusedVariables false
set_option maxRecDepth 8000
set_option maxHeartbeats 1000000
open Go Go.Fx Go.Proofs
namespace FactsDTyA
theorem ag24 : ag Tryd.prog 24 = some 5 := by kernel_rfl
theorem ag55 : ag Tryd.prog 55 = some 1 := by kernel_rfl
theorem arr22 : arr Tryd.prog 22 = some (4, 1) := by kernel_rfl
theorem fo24_0 : foff Tryd.prog 24 0 = some 0 := by kernel_rfl
theorem fo55_0 : foff Tryd.prog 55 0 = some 0 := by kernel_rfl
theorem isl53 : isSl Tryd.prog 53 = true := by kernel_rfl
theorem pl24 : places Tryd.prog 24 = some [(0, 4), (4, 1)] := by kernel_rfl
theorem pl55 : places Tryd.prog 55 = some [(0, 1)] := by kernel_rfl
theorem pl65 : places Tryd.prog 65 = some [(0, 1), (1, 1), (2, 1), (3, 1), (4, 5)] := by kernel_rfl
theorem sc3 : sc Tryd.prog 3 = true := by kernel_rfl
theorem sc53 : sc Tryd.prog 53 = true := by kernel_rfl
theorem sl1_50 : Go.Fx.sl1 Tryd.prog 50 = true := by kernel_rfl
theorem slA53 : slA Tryd.prog 53 = some (65, 9) := by kernel_rfl
theorem zc24 : zc Tryd.prog 24 = some [.int .i64 0, .int .i64 0, .int .i64 0, .int .i64 0, .int .i64 0] := by kernel_rfl
theorem zc55 : zc Tryd.prog 55 = some [.slice none 0 0] := by kernel_rfl
theorem zc65 : zc Tryd.prog 65 = some [.int .i64 0, .int .i64 0, .int .i64 0, .int .i64 0, .int .i64 0, .int .i64 0, .int .i64 0, .int .i64 0, .int .i64 0] := by kernel_rfl
end FactsDTyA
open FactsDTyA

abbrev tyT : Tm := .fn (.var 7) [0, 2, 0, 0, 3] (.var 7)
theorem tyOk : tyT.ok := ⟨⟨by decide, by decide⟩, rfl, rfl, ⟨by decide, by decide⟩⟩
theorem ty1 : funL [vNode 7] [0, 2, 0, 0, 3] [vNode 7] = (tyT.enc 0, 0) := by rw [funL_yes ⟨by decide, by decide, by decide, by decide⟩]; rfl
theorem ty2 : txV (tyT.enc 0) = (⟨#[40, 116, 48, 32, 45, 60, 111, 49, 44, 111, 49, 124, 101, 48, 62, 32, 116, 48, 41]⟩, 0) := by
  rw [txV_enc tyOk (by decide)]
  refine Prod.ext (WideShapes.bytes_inj ?_) rfl
  kernel_rfl
theorem ty3 : varsT (tyT.enc 0) = ([7], [3]) := by kernel_rfl
theorem ty4 : typM (tyT.enc 0) = true := enc_typ tyOk (by decide)
theorem awake7_ok {H : Heap} (hT : Tens H) : Ret Tryd.prog 50 [] H (fun v H' => v = .bool true ∧ Ext H H') := by
  have h9 := tyT.enc_nine 0 tyOk
  refine Ret.of_at (N := 88) Tryd.call50 Tryd.func50 rfl rfl rfl ?_
  have hE := Ext.refl H
  refine At.region rfl rfl ?_
  refine Reg.pur rfl rfl rfl rfl (Pur.asg rfl) ?_
  refine Reg.nil ?_
  refine At.region rfl rfl ?_
  refine Reg.pur rfl rfl rfl rfl (Pur.bld (cs := [_, _, _, _, _, _, _, _, _]) pl65 zc65 rfl rfl ⟨rfl, rfl, rfl, rfl, rfl, rfl, rfl, rfl, rfl, rfl⟩) ?_
  refine Reg.op rfl rfl rfl rfl (Does.bslA ([Is (vNode 7)]) slA53 rfl rfl rfl rfl rfl rfl) ?_
  rintro _ H1_1 ⟨rfl, hp1_1⟩
  have hn1_1 := New.of_eq hp1_1
  have z1_1 := hn1_1.size
  replace hE := hE.ext hn1_1.ext
  have o1_1 := hn1_1.own
  have hSv : SlT H1_1 Is 9 _ [vNode 7] := sl_own (L := [vNode 7]) (wide9 (nine_lit rfl)) (by decide) o1_1 (by decide)
  have z_hSv := hSv.lt
  refine Reg.pur rfl rfl rfl rfl (Pur.bld (cs := [_]) pl55 zc55 rfl rfl ⟨rfl, rfl⟩) ?_
  refine Reg.op rfl rfl rfl rfl (Does.alloc zc55) ?_
  rintro _ H1_3 ⟨rfl, hn1_3⟩
  have z1_3 := hn1_3.size
  replace hE := hE.ext hn1_3.ext
  replace o1_1 := o1_1.ext hn1_3.ext
  replace hSv := hSv.ext hn1_3.ext
  have o1_3 := hn1_3.own
  refine Reg.op0 rfl rfl rfl (Does.stn ag55 rfl rfl (by first | rfl | exact ones_Is _) (by first | rfl | (simp [*]; done)) o1_3 (by first | decide | (simp; done) | (simp; omega) | omega)) ?_
  rintro _ H1_4 hu1_4
  have z1_4 := hu1_4.size
  replace hE := hE.upw hu1_4 (by omega)
  replace o1_1 := o1_1.upw hu1_4 (by omega)
  replace hSv := hSv.upw hu1_4 (by omega)
  replace o1_3 := hu1_4.own
  first | rw [over (by first | rfl | (simp; done))] at o1_3 | skip
  refine Reg.nil ?_
  refine At.region rfl rfl ?_
  refine Reg.pur rfl rfl rfl rfl (Pur.bld (cs := [_, _, _, _, _]) pl24 zc24 rfl rfl ⟨rfl, rfl, rfl, rfl, rfl, rfl⟩) ?_
  refine Reg.op rfl rfl rfl rfl (Does.alloc zc24) ?_
  rintro _ H2_1 ⟨rfl, hn2_1⟩
  have z2_1 := hn2_1.size
  replace hE := hE.ext hn2_1.ext
  replace o1_1 := o1_1.ext hn2_1.ext
  replace hSv := hSv.ext hn2_1.ext
  replace o1_3 := o1_3.ext hn2_1.ext
  have o2_1 := hn2_1.own
  refine Reg.op0 rfl rfl rfl (Does.stn ag24 rfl rfl (by first | rfl | exact ones_Is _) (by first | rfl | (simp [*]; done)) o2_1 (by first | decide | (simp; done) | (simp; omega) | omega)) ?_
  rintro _ H2_2 hu2_2
  have z2_2 := hu2_2.size
  replace hE := hE.upw hu2_2 (by omega)
  replace o1_1 := o1_1.upw hu2_2 (by omega)
  replace hSv := hSv.upw hu2_2 (by omega)
  replace o1_3 := o1_3.upw hu2_2 (by omega)
  replace o2_1 := hu2_2.own
  first | rw [over (by first | rfl | (simp; done))] at o2_1 | skip
  refine Reg.nil ?_
  refine At.region rfl rfl ?_
  refine Reg.pur rfl rfl rfl rfl (Pur.fld _ fo24_0 rfl) ?_
  refine Reg.pur rfl rfl rfl rfl (Pur.idxP arr22 rfl rfl (by omega) (by omega)) ?_
  refine Reg.op0 rfl rfl rfl (Does.st sc3 rfl rfl rfl o2_1 (by first | decide | (simp; done) | (simp; omega) | omega)) ?_
  rintro _ H3_2 hu3_2
  have z3_2 := hu3_2.size
  replace hE := hE.upw hu3_2 (by omega)
  replace o1_1 := o1_1.upw hu3_2 (by omega)
  replace hSv := hSv.upw hu3_2 (by omega)
  replace o1_3 := o1_3.upw hu3_2 (by omega)
  replace o2_1 := hu3_2.own
  refine Reg.nil ?_
  refine At.region rfl rfl ?_
  refine Reg.lod rfl rfl rfl rfl (Lod.ldn ag55 rfl o1_3.blk (whole rfl) rfl) ?_
  refine Reg.lod rfl rfl rfl rfl (Lod.ldn ag24 rfl o2_1.blk (whole rfl) rfl) ?_
  refine Reg.lod rfl rfl rfl rfl (Lod.ldn ag55 rfl o1_3.blk (whole rfl) rfl) ?_
  refine Reg.op rfl rfl rfl rfl (Does.call rfl (funP_ok (La := [vNode 7]) (r := [0, 2, 0, 0, 3]) (Lb := [vNode 7]) (nine_lit rfl) (nine_lit rfl) rfl hSv hSv (by decide) (by decide))) ?_
  rintro v4_3 H4_3 ⟨A4, cap4, rfl, hg4_3, hE4_3⟩
  have z4_3 := hE4_3.lt
  replace hE := hE.ext hE4_3
  replace o1_1 := o1_1.ext hE4_3
  replace hSv := hSv.ext hE4_3
  replace o1_3 := o1_3.ext hE4_3
  replace o2_1 := o2_1.ext hE4_3
  rw [ty1] at hg4_3 ⊢
  have hSt := own_sl (wide9 h9) (by decide) hg4_3
  have z_hg4_3 := hg4_3.lt
  refine Reg.pur rfl rfl rfl rfl (Pur.mv rfl) ?_
  refine Reg.pur rfl rfl rfl rfl (Pur.ext rfl rfl) ?_
  refine Reg.pur rfl rfl rfl rfl (Pur.ext rfl rfl) ?_
  refine Reg.op rfl rfl rfl rfl (Does.alloc zc55) ?_
  rintro _ H4_7 ⟨rfl, hn4_7⟩
  have z4_7 := hn4_7.size
  replace hE := hE.ext hn4_7.ext
  replace o1_1 := o1_1.ext hn4_7.ext
  replace hSv := hSv.ext hn4_7.ext
  replace o1_3 := o1_3.ext hn4_7.ext
  replace o2_1 := o2_1.ext hn4_7.ext
  replace hg4_3 := hg4_3.ext hn4_7.ext
  have o4_7 := hn4_7.own
  refine Reg.op0 rfl rfl rfl (Does.stn ag55 rfl rfl (by first | rfl | exact ones_Is _) (by first | rfl | (simp [*]; done)) o4_7 (by first | decide | (simp; done) | (simp; omega) | omega)) ?_
  rintro _ H4_8 hu4_8
  have z4_8 := hu4_8.size
  replace hE := hE.upw hu4_8 (by omega)
  replace o1_1 := o1_1.upw hu4_8 (by omega)
  replace hSv := hSv.upw hu4_8 (by omega)
  replace o1_3 := o1_3.upw hu4_8 (by omega)
  replace o2_1 := o2_1.upw hu4_8 (by omega)
  replace hg4_3 := hg4_3.upw hu4_8 (by omega)
  replace o4_7 := hu4_8.own
  first | rw [over (by first | rfl | (simp; done))] at o4_7 | skip
  refine Reg.pur rfl rfl rfl rfl (Pur.asg rfl) ?_
  refine Reg.nil ?_
  refine At.region rfl rfl ?_
  refine Reg.lod rfl rfl rfl rfl (Lod.ldn ag55 rfl o4_7.blk (whole rfl) rfl) ?_
  refine Reg.op rfl rfl rfl rfl (Does.call rfl (typText_ok h9 (hT.ext hE) (own_sl (wide9 h9) (by decide) hg4_3) (by decide))) ?_
  rintro _ H5_1 ⟨rfl, hE5_1⟩
  have z5_1 := hE5_1.lt
  replace hE := hE.ext hE5_1
  replace o1_1 := o1_1.ext hE5_1
  replace hSv := hSv.ext hE5_1
  replace o1_3 := o1_3.ext hE5_1
  replace o2_1 := o2_1.ext hE5_1
  replace hg4_3 := hg4_3.ext hE5_1
  replace o4_7 := o4_7.ext hE5_1
  rw [ty2]
  refine Reg.pur rfl rfl rfl rfl (Pur.mv rfl) ?_
  refine Reg.pur rfl rfl rfl rfl (Pur.ext rfl rfl) ?_
  refine Reg.pur rfl rfl rfl rfl (Pur.ext rfl rfl) ?_
  refine Reg.pur rfl rfl rfl rfl (Pur.asg rfl) ?_
  refine Reg.pur rfl rfl rfl rfl (Pur.asg rfl) ?_
  refine Reg.nil ?_
  refine At.region rfl rfl ?_
  refine Reg.lod rfl rfl rfl rfl (Lod.ldn ag55 rfl o4_7.blk (whole rfl) rfl) ?_
  refine Reg.op rfl rfl rfl rfl (Does.call rfl (typVars_ok h9 (own_sl (wide9 h9) (by decide) hg4_3) (by decide))) ?_
  rintro v6_1 H6_1 ⟨hE6_1, Aa, ca, Ab, cb, rfl, hga, hgb⟩
  have z6_1 := hE6_1.lt
  replace hE := hE.ext hE6_1
  replace o1_1 := o1_1.ext hE6_1
  replace hSv := hSv.ext hE6_1
  replace o1_3 := o1_3.ext hE6_1
  replace o2_1 := o2_1.ext hE6_1
  replace hg4_3 := hg4_3.ext hE6_1
  replace o4_7 := o4_7.ext hE6_1
  rw [ty3] at hga hgb ⊢
  rw [ty4]
  have z_hga := hga.lt
  have z_hgb := hgb.lt
  refine Reg.pur rfl rfl rfl rfl (Pur.mv rfl) ?_
  refine Reg.pur rfl rfl rfl rfl (Pur.ext rfl rfl) ?_
  refine Reg.pur rfl rfl rfl rfl (Pur.ext rfl rfl) ?_
  refine Reg.pur rfl rfl rfl rfl (Pur.ext rfl rfl) ?_
  refine Reg.pur rfl rfl rfl rfl (Pur.asg rfl) ?_
  refine Reg.pur rfl rfl rfl rfl (Pur.asg rfl) ?_
  refine Reg.pur rfl rfl rfl rfl (Pur.asg rfl) ?_
  refine Reg.nil ?_
  refine At.region rfl rfl ?_
  refine Reg.pur rfl rfl rfl rfl (Pur.bld (cs := [_]) pl55 zc55 rfl rfl ⟨rfl, rfl⟩) ?_
  refine Reg.op rfl rfl rfl rfl (Does.call rfl (typText_ok (A := none) (cap := 0) (L := []) (nine_lit rfl) (hT.ext hE) (sl_nil _) (by decide))) ?_
  rintro _ H7_1 ⟨rfl, hE7_1⟩
  have z7_1 := hE7_1.lt
  replace hE := hE.ext hE7_1
  replace o1_1 := o1_1.ext hE7_1
  replace hSv := hSv.ext hE7_1
  replace o1_3 := o1_3.ext hE7_1
  replace o2_1 := o2_1.ext hE7_1
  replace hg4_3 := hg4_3.ext hE7_1
  replace o4_7 := o4_7.ext hE7_1
  replace hga := hga.ext hE7_1
  replace hgb := hgb.ext hE7_1
  rw [txV_no (L := []) (by decide)]
  refine Reg.pur rfl rfl rfl rfl (Pur.mv rfl) ?_
  refine Reg.pur rfl rfl rfl rfl (Pur.ext rfl rfl) ?_
  refine Reg.pur rfl rfl rfl rfl (Pur.ext rfl rfl) ?_
  refine Reg.pur rfl rfl rfl rfl (Pur.asg rfl) ?_
  refine Reg.pur rfl rfl rfl rfl (Pur.asg rfl) ?_
  refine Reg.nil ?_
  refine At.region rfl rfl ?_
  refine Reg.pur rfl rfl rfl rfl (Pur.fld _ fo55_0 rfl) ?_
  refine Reg.lod rfl rfl rfl rfl (Lod.ld sc53 rfl o4_7.blk rfl) ?_
  refine Reg.pur rfl rfl rfl rfl (Pur.lenS isl53 rfl) ?_
  refine Reg.pur rfl rfl rfl rfl (Pur.eql rfl rfl) ?_
  refine Reg.pur rfl rfl rfl rfl (Pur.mv rfl) ?_
  refine Reg.known (b' := true) 45 rfl (by first | rfl | decide | simp) ?_
  refine Reg.gpur rfl rfl rfl rfl rfl rfl (Pur.mv rfl) ?_
  refine Reg.gop rfl rfl rfl rfl rfl rfl (Does.call rfl (numE_ok _ _)) ?_
  rintro _ H7_1 ⟨rfl, rfl⟩
  refine Reg.gpur rfl rfl rfl rfl rfl rfl (Pur.eql rfl rfl) ?_
  refine Reg.pur rfl rfl rfl rfl (Pur.pickT rfl rfl) ?_
  refine Reg.pur rfl rfl rfl rfl (Pur.mv rfl) ?_
  refine Reg.known (b' := true) 50 rfl (by first | rfl | decide | simp) ?_
  refine Reg.gpur rfl rfl rfl rfl rfl rfl (Pur.mv rfl) ?_
  refine Reg.gpur rfl rfl rfl rfl rfl rfl (Pur.eqS rfl rfl) ?_
  refine Reg.pur rfl rfl rfl rfl (Pur.pickT rfl rfl) ?_
  refine Reg.pur rfl rfl rfl rfl (Pur.mv rfl) ?_
  refine Reg.known (b' := true) 54 rfl (by first | rfl | decide | simp) ?_
  refine Reg.gpur rfl rfl rfl rfl rfl rfl (Pur.mv rfl) ?_
  refine Reg.gop rfl rfl rfl rfl rfl rfl (Does.call rfl (numE_ok _ _)) ?_
  rintro _ H7_1 ⟨rfl, rfl⟩
  refine Reg.gpur rfl rfl rfl rfl rfl rfl (Pur.eql rfl rfl) ?_
  refine Reg.pur rfl rfl rfl rfl (Pur.pickT rfl rfl) ?_
  refine Reg.pur rfl rfl rfl rfl (Pur.mv rfl) ?_
  refine Reg.known (b' := true) 59 rfl (by first | rfl | decide | simp) ?_
  refine Reg.gpur rfl rfl rfl rfl rfl rfl (Pur.mv rfl) ?_
  refine Reg.gop rfl rfl rfl rfl rfl rfl (Does.bsl1 sl1_50 rfl rfl rfl rfl rfl) ?_
  rintro _ H8_20 ⟨rfl, hn8_20⟩
  have z8_20 := hn8_20.size
  replace hE := hE.ext hn8_20.ext
  replace o1_1 := o1_1.ext hn8_20.ext
  replace hSv := hSv.ext hn8_20.ext
  replace o1_3 := o1_3.ext hn8_20.ext
  replace o2_1 := o2_1.ext hn8_20.ext
  replace hg4_3 := hg4_3.ext hn8_20.ext
  replace o4_7 := o4_7.ext hn8_20.ext
  replace hga := hga.ext hn8_20.ext
  replace hgb := hgb.ext hn8_20.ext
  have o8_20 := hn8_20.own
  refine Reg.gop rfl rfl rfl rfl rfl rfl (Does.call rfl (sameI_ok [7] [7] (own_sl (wide1 _) (by decide) hga) (sl_own (L := [7]) (wide1 _) (by decide) o8_20 (by decide)) (by decide))) ?_
  rintro _ H8_20 ⟨rfl, rfl⟩
  refine Reg.pur rfl rfl rfl rfl (Pur.pickT rfl rfl) ?_
  refine Reg.pur rfl rfl rfl rfl (Pur.mv rfl) ?_
  refine Reg.known (b' := true) 64 rfl (by first | rfl | decide | simp) ?_
  refine Reg.gpur rfl rfl rfl rfl rfl rfl (Pur.mv rfl) ?_
  refine Reg.gop rfl rfl rfl rfl rfl rfl (Does.bsl1 sl1_50 rfl rfl rfl rfl rfl) ?_
  rintro _ H8_25 ⟨rfl, hn8_25⟩
  have z8_25 := hn8_25.size
  replace hE := hE.ext hn8_25.ext
  replace o1_1 := o1_1.ext hn8_25.ext
  replace hSv := hSv.ext hn8_25.ext
  replace o1_3 := o1_3.ext hn8_25.ext
  replace o2_1 := o2_1.ext hn8_25.ext
  replace hg4_3 := hg4_3.ext hn8_25.ext
  replace o4_7 := o4_7.ext hn8_25.ext
  replace hga := hga.ext hn8_25.ext
  replace hgb := hgb.ext hn8_25.ext
  replace o8_20 := o8_20.ext hn8_25.ext
  have o8_25 := hn8_25.own
  refine Reg.gop rfl rfl rfl rfl rfl rfl (Does.call rfl (sameI_ok [3] [3] (own_sl (wide1 _) (by decide) hgb) (sl_own (L := [3]) (wide1 _) (by decide) o8_25 (by decide)) (by decide))) ?_
  rintro _ H8_25 ⟨rfl, rfl⟩
  refine Reg.pur rfl rfl rfl rfl (Pur.pickT rfl rfl) ?_
  refine Reg.pur rfl rfl rfl rfl (Pur.mv rfl) ?_
  refine Reg.known (b' := true) 69 rfl (by first | rfl | decide | simp) ?_
  refine Reg.gpur rfl rfl rfl rfl rfl rfl (Pur.mv rfl) ?_
  refine Reg.gop rfl rfl rfl rfl rfl rfl (Does.call rfl (numE_ok _ _)) ?_
  rintro _ H8_25 ⟨rfl, rfl⟩
  refine Reg.gpur rfl rfl rfl rfl rfl rfl (Pur.eql rfl rfl) ?_
  refine Reg.pur rfl rfl rfl rfl (Pur.pickT rfl rfl) ?_
  refine Reg.pur rfl rfl rfl rfl (Pur.mv rfl) ?_
  refine Reg.known (b' := true) 74 rfl (by first | rfl | decide | simp) ?_
  refine Reg.gpur rfl rfl rfl rfl rfl rfl (Pur.mv rfl) ?_
  refine Reg.gop rfl rfl rfl rfl rfl rfl (Does.call rfl (numE_ok _ _)) ?_
  rintro _ H8_25 ⟨rfl, rfl⟩
  refine Reg.gpur rfl rfl rfl rfl rfl rfl (Pur.eql rfl rfl) ?_
  refine Reg.pur rfl rfl rfl rfl (Pur.pickT rfl rfl) ?_
  refine Reg.pur rfl rfl rfl rfl (Pur.mv rfl) ?_
  refine Reg.known (b' := true) 79 rfl (by first | rfl | decide | simp) ?_
  refine Reg.glod rfl rfl rfl rfl rfl rfl (Lod.ldn ag55 rfl o4_7.blk (whole rfl) rfl) ?_
  refine Reg.gop rfl rfl rfl rfl rfl rfl (Does.call rfl (typMay_ok _ h9 (own_sl (wide9 h9) (by decide) hg4_3) (by decide))) ?_
  rintro _ H8_40 ⟨rfl, hE8_40⟩
  have z8_40 := hE8_40.lt
  replace hE := hE.ext hE8_40
  replace o1_1 := o1_1.ext hE8_40
  replace hSv := hSv.ext hE8_40
  replace o1_3 := o1_3.ext hE8_40
  replace o2_1 := o2_1.ext hE8_40
  replace hg4_3 := hg4_3.ext hE8_40
  replace o4_7 := o4_7.ext hE8_40
  replace hga := hga.ext hE8_40
  replace hgb := hgb.ext hE8_40
  replace o8_20 := o8_20.ext hE8_40
  replace o8_25 := o8_25.ext hE8_40
  refine Reg.pur rfl rfl rfl rfl (Pur.pickT rfl rfl) ?_
  refine Reg.pur rfl rfl rfl rfl (Pur.mv rfl) ?_
  refine Reg.known (b' := true) 83 rfl (by first | rfl | decide | simp) ?_
  refine Reg.gpur rfl rfl rfl rfl rfl rfl (Pur.bld (cs := [_]) pl55 zc55 rfl rfl ⟨rfl, rfl⟩) ?_
  refine Reg.gop rfl rfl rfl rfl rfl rfl (Does.call rfl (typMay_ok (A := none) (cap := 0) [] (nine_lit rfl) (sl_nil _) (by decide))) ?_
  rintro _ H8_44 ⟨rfl, hE8_44⟩
  have z8_44 := hE8_44.lt
  replace hE := hE.ext hE8_44
  replace o1_1 := o1_1.ext hE8_44
  replace hSv := hSv.ext hE8_44
  replace o1_3 := o1_3.ext hE8_44
  replace o2_1 := o2_1.ext hE8_44
  replace hg4_3 := hg4_3.ext hE8_44
  replace o4_7 := o4_7.ext hE8_44
  replace hga := hga.ext hE8_44
  replace hgb := hgb.ext hE8_44
  replace o8_20 := o8_20.ext hE8_44
  replace o8_25 := o8_25.ext hE8_44
  refine Reg.gpur rfl rfl rfl rfl rfl rfl (Pur.not rfl) ?_
  refine Reg.pur rfl rfl rfl rfl (Pur.pickT rfl rfl) ?_
  refine Reg.pur rfl rfl rfl rfl (Pur.asg rfl) ?_
  refine Reg.nil ?_
  refine At.ret rfl Tryd.func50 rfl ?_
  exact ⟨rfl, hE⟩
end Go.Proofs.YtlfillhffpiffaaDoor

namespace Go.Proofs.YtlfillhffpiffaaDoor
set_option linter.unusedSimpArgs false
set_option linter.unusedVariables false
set_option maxRecDepth 8000
set_option maxHeartbeats 1000000
open Go Go.Fx Go.Proofs
namespace FactsDTyB
theorem ag24 : ag Tryd.prog 24 = some 5 := by kernel_rfl
theorem ag55 : ag Tryd.prog 55 = some 1 := by kernel_rfl
theorem fo109_0 : foff Tryd.prog 109 0 = some 0 := by kernel_rfl
theorem fo109_1 : foff Tryd.prog 109 1 = some 1 := by kernel_rfl
theorem mixed : Tryd.prog.follows .mixedOrders = true := by kernel_rfl
theorem pl109 : places Tryd.prog 109 = some [(0, 1), (1, 1)] := by kernel_rfl
theorem sc50 : sc Tryd.prog 50 = true := by kernel_rfl
theorem zc109 : zc Tryd.prog 109 = some [.slice none 0 0, .slice none 0 0] := by kernel_rfl
theorem zc55 : zc Tryd.prog 55 = some [.slice none 0 0] := by kernel_rfl
end FactsDTyB
open FactsDTyB

theorem funL_nine {La Lb : List (List Int)} {r : List Int} (ha : Nine La) (hb : Nine Lb) (hr : r.length = 5) : Nine (funL La r Lb).1 := by
  unfold funL; split
  · exact arr2_nine ha hb hr
  · exact nine_lit rfl
theorem funL_len (La Lb : List (List Int)) (r : List Int) : (funL La r Lb).1.length ≤ 256 := by
  unfold funL; split
  · rename_i h; simp [arr2]; omega
  · simp
theorem varsT_max (L : List (List Int)) : (varsT L).1.length ≤ 256 ∧ (varsT L).2.length ≤ 256 := by
  unfold varsT
  cases h : typM L with
  | true =>
    have h1 := varsS_len h ([], [])
    have h2 := (typM_bgn h).1.2
    simp only [List.length_nil] at h1
    rw [if_pos rfl]
    omega
  | false => exact ⟨Nat.zero_le _, Nat.zero_le _⟩

theorem typVarsD_ok {A : Option Addr} {cap : Nat} {L : List (List Int)} (hL : Nine L) {H : Heap} (hS : SlT H Is 9 (.slice A L.length cap) L) (hm : L.length ≤ 9223372036854775807) :
    Ret Tryd.prog 41 [Ty A L.length cap] H (fun v H' => Ext H H' ∧ ∃ A1 c1 A2 c2, v = .tuple #[.slice A1 (varsT L).1.length c1, .slice A2 (varsT L).2.length c2, I (if typM L then 0 else 700)] ∧
      Gs H' H.size 3 1 A1 c1 (varsT L).1.length ((varsT L).1.flatMap e1) ∧ Gs H' H.size 3 1 A2 c2 (varsT L).2.length ((varsT L).2.flatMap e1) ∧ (ob A1 = -1 ∨ ob A1 ≠ ob A2)) := by
  refine Ret.of_at (N := 21) Tryd.call41 Tryd.func41 rfl rfl rfl ?_
  have hE := Ext.refl H
  refine At.region rfl rfl ?_
  refine Reg.op rfl rfl rfl rfl (Does.box rfl rfl) ?_
  rintro _ H0_0 ⟨rfl, hn0_0⟩
  have z0_0 := hn0_0.size
  replace hE := hE.ext hn0_0.ext
  have o0_0 := hn0_0.own
  refine Reg.pur rfl rfl rfl rfl (Pur.asg rfl) ?_
  refine Reg.pur rfl rfl rfl rfl (Pur.asg rfl) ?_
  refine Reg.pur rfl rfl rfl rfl (Pur.asg rfl) ?_
  refine Reg.nil ?_
  refine At.region rfl rfl ?_
  refine Reg.lod rfl rfl rfl rfl (Lod.ldn ag55 rfl o0_0.blk (by first | exact whole rfl | rfl | (simp only [List.drop_succ_cons, List.drop_zero, List.take_succ_cons, List.take_zero]; rfl)) (by first | rfl | (simp [*]; done))) ?_
  refine Reg.op rfl rfl rfl rfl (Does.call rfl (typMay_ok L hL (hS.ext hE) hm)) ?_
  rintro _ H1_1 ⟨rfl, hE1_1⟩
  have z1_1 := hE1_1.lt
  replace hE := hE.ext hE1_1
  replace o0_0 := o0_0.ext hE1_1
  refine Reg.pur rfl rfl rfl rfl (Pur.not rfl) ?_
  refine Reg.nil ?_
  refine At.cond rfl rfl (fun q8 => ?_) (fun q8 => ?_)
  · first | (simp only [decide_eq_true_eq, decide_eq_false_iff_not, Bool.not_eq_true', Bool.not_eq_false', ne_eq, Decidable.not_not, Bool.not_eq_true, Bool.not_eq_false] at q8) | (dsimp only at q8) | skip
    refine At.region rfl rfl ?_
    refine Reg.pur rfl rfl rfl rfl (Pur.asg rfl) ?_
    refine Reg.pur rfl rfl rfl rfl (Pur.asg rfl) ?_
    refine Reg.pur rfl rfl rfl rfl (Pur.asg rfl) ?_
    refine Reg.nil ?_
    refine At.ret rfl Tryd.func41 rfl ?_
    have hv : varsT L = ([], []) := by unfold varsT; rw [q8]; rfl
    rw [hv, q8]; exact ⟨hE, none, 0, none, 0, rfl, OwnS.nilG, OwnS.nilG, .inl ob_none⟩
  first | (simp only [decide_eq_true_eq, decide_eq_false_iff_not, Bool.not_eq_true', Bool.not_eq_false', ne_eq, Decidable.not_not, Bool.not_eq_true, Bool.not_eq_false] at q8) | (dsimp only at q8) | skip
  obtain ⟨⟨hl1, hl2⟩, _⟩ := typM_bgn q8
  refine At.region rfl rfl ?_
  refine Reg.pur rfl rfl rfl rfl (Pur.bld (cs := [_, _]) pl109 zc109 rfl rfl ⟨rfl, rfl, rfl⟩) ?_
  refine Reg.op rfl rfl rfl rfl (Does.box rfl rfl) ?_
  rintro _ H3_1 ⟨rfl, hn3_1⟩
  have z3_1 := hn3_1.size
  replace hE := hE.ext hn3_1.ext
  replace o0_0 := o0_0.ext hn3_1.ext
  have o3_1 := hn3_1.own
  refine Reg.pur rfl rfl rfl rfl (Pur.asg rfl) ?_
  refine Reg.nil ?_
  refine At.region rfl rfl ?_
  refine Reg.pur rfl rfl rfl rfl (Pur.mv rfl) ?_
  refine Reg.op rfl rfl rfl rfl (Does.call rfl (namesVars_ok hL q8 rfl (hS.ext hE) o0_0.blk (nm_new (B := H.size) o3_1 (by omega)) (by simp) (off_none (by omega) (by omega)) (off_none (by have := hS.lt; omega) (by have := hS.lt; omega)))) ?_
  rintro _ H4_1 ⟨A1, c1, A2, c2, hN4_1, hM4_1⟩
  have hE4 := mod_ext hM4_1 hE (by omega)
  refine Reg.nil ?_
  refine At.drawE ((Bks.cons hN4_1.own.blk Bks.nil)) [] mixed rfl rfl ?_
  refine RegD.tpur (i := 0) rfl rfl rfl rfl (by kernel_rfl) (Pur.mv rfl) ?_
  refine RegD.tpur (i := 1) rfl rfl rfl rfl (by kernel_rfl) (Pur.nilc rfl) ?_
  refine RegD.tpur (i := 2) rfl rfl rfl rfl (by kernel_rfl) (Pur.fld _ fo109_0 rfl) ?_
  refine RegD.take (i := 3) rfl rfl rfl rfl (by kernel_rfl) (Bks.cons hN4_1.own.blk Bks.nil) (fun H hS => Lod.ld sc50 rfl hS.hd rfl) ?_
  refine RegD.tpur (i := 4) rfl rfl rfl rfl (by kernel_rfl) (Pur.mv rfl) ?_
  refine RegD.tpur (i := 5) rfl rfl rfl rfl (by kernel_rfl) (Pur.nilc rfl) ?_
  refine RegD.tpur (i := 6) rfl rfl rfl rfl (by kernel_rfl) (Pur.fld _ fo109_1 rfl) ?_
  refine RegD.take (i := 7) rfl rfl rfl rfl (by kernel_rfl) (Bks.cons hN4_1.own.blk Bks.nil) (fun H hS => Lod.ld sc50 rfl hS.hd rfl) ?_
  refine RegD.tpur (i := 8) rfl rfl rfl rfl (by kernel_rfl) (Pur.asg rfl) ?_
  refine RegD.tpur (i := 9) rfl rfl rfl rfl (by kernel_rfl) (Pur.asg rfl) ?_
  refine RegD.tpur (i := 10) rfl rfl rfl rfl (by kernel_rfl) (Pur.asg rfl) ?_
  refine RegD.done (by kernel_rfl) ?_
  refine At.ret rfl Tryd.func41 rfl ?_
  have hv : varsT L = varsS L ([], []) := by unfold varsT; rw [q8]; rfl
  rw [hv, q8]; exact ⟨hE4, A1, c1, A2, c2, rfl, hN4_1.g1, hN4_1.g2, hN4_1.d1⟩

theorem types_law {A B : Option Addr} {ca cb : Nat} {L K : List (List Int)} {r : List Int} (hL : Nine L) (hK : Nine K) (hr : r.length = 5) {H : Heap} (hT : Tens H) (hS : SlT H Is 9 (.slice A L.length ca) L) (hU : SlT H Is 9 (.slice B K.length cb) K) (hm : L.length * 72 ≤ 140737488351232) (hk : K.length * 72 ≤ 140737488351232) :
    Ret Tryd.prog 13 [Ty A L.length ca, Ty B K.length cb, .agg (Is r).toArray] H (fun v H' => v = .bool true ∧ Ext H H') := by
  have hr' : (Is r).length = 5 := by simp [hr]
  have hN := funL_nine hL hK hr
  have hNl := funL_len L K r
  have hV := varsT_max L
  refine Ret.of_at (N := 118) Tryd.call13 Tryd.func13 rfl rfl rfl ?_
  have hE := Ext.refl H
  refine At.region rfl rfl ?_
  refine Reg.op rfl rfl rfl rfl (Does.box rfl rfl) ?_
  rintro _ H0_0 ⟨rfl, hn0_0⟩
  have z0_0 := hn0_0.size
  replace hE := hE.ext hn0_0.ext
  have o0_0 := hn0_0.own
  refine Reg.op rfl rfl rfl rfl (Does.box rfl rfl) ?_
  rintro _ H0_1 ⟨rfl, hn0_1⟩
  have z0_1 := hn0_1.size
  replace hE := hE.ext hn0_1.ext
  replace o0_0 := o0_0.ext hn0_1.ext
  have o0_1 := hn0_1.own
  refine Reg.op rfl rfl rfl rfl (Does.box rfl rfl) ?_
  rintro _ H0_2 ⟨rfl, hn0_2⟩
  have z0_2 := hn0_2.size
  replace hE := hE.ext hn0_2.ext
  replace o0_0 := o0_0.ext hn0_2.ext
  replace o0_1 := o0_1.ext hn0_2.ext
  have o0_2 := hn0_2.own
  refine Reg.pur rfl rfl rfl rfl (Pur.asg rfl) ?_
  refine Reg.nil ?_
  refine At.region rfl rfl ?_
  refine Reg.lod rfl rfl rfl rfl (Lod.ldn ag55 rfl o0_0.blk (whole rfl) rfl) ?_
  refine Reg.op rfl rfl rfl rfl (Does.call rfl (copyType_ok hL (hS.ext hE) hm)) ?_
  rintro v1_1 H1_1 ⟨Ax, cx, rfl, hox, hE1_1⟩
  have z1_1 := hE1_1.lt
  replace hE := hE.ext hE1_1
  replace o0_0 := o0_0.ext hE1_1
  replace o0_1 := o0_1.ext hE1_1
  replace o0_2 := o0_2.ext hE1_1
  have z_hox := hox.lt
  refine Reg.op rfl rfl rfl rfl (Does.alloc zc55) ?_
  rintro _ H1_2 ⟨rfl, hn1_2⟩
  have z1_2 := hn1_2.size
  replace hE := hE.ext hn1_2.ext
  replace o0_0 := o0_0.ext hn1_2.ext
  replace o0_1 := o0_1.ext hn1_2.ext
  replace o0_2 := o0_2.ext hn1_2.ext
  replace hox := hox.ext hn1_2.ext
  have o1_2 := hn1_2.own
  refine Reg.op0 rfl rfl rfl (Does.stn ag55 rfl rfl (by first | rfl | exact ones_Is _) (by first | rfl | (simp [*]; done)) o1_2 (by first | decide | (simp; done) | (simp; omega) | omega)) ?_
  rintro _ H1_3 hu1_3
  have z1_3 := hu1_3.size
  replace hE := hE.upw hu1_3 (by omega)
  replace o0_0 := o0_0.upw hu1_3 (by omega)
  replace o0_1 := o0_1.upw hu1_3 (by omega)
  replace o0_2 := o0_2.upw hu1_3 (by omega)
  replace hox := hox.upw hu1_3 (by omega)
  replace o1_2 := hu1_3.own
  first | rw [over (by first | rfl | (simp; done))] at o1_2 | skip
  refine Reg.nil ?_
  refine At.region rfl rfl ?_
  refine Reg.lod rfl rfl rfl rfl (Lod.ldn ag55 rfl o1_2.blk (whole rfl) rfl) ?_
  refine Reg.op rfl rfl rfl rfl (Does.call rfl (typText_ok hL (hT.ext hE) (own_sl (wide9 hL) (by decide) hox) (by omega))) ?_
  rintro _ H2_1 ⟨rfl, hE2_1⟩
  have z2_1 := hE2_1.lt
  replace hE := hE.ext hE2_1
  replace o0_0 := o0_0.ext hE2_1
  replace o0_1 := o0_1.ext hE2_1
  replace o0_2 := o0_2.ext hE2_1
  replace hox := hox.ext hE2_1
  replace o1_2 := o1_2.ext hE2_1
  refine Reg.pur rfl rfl rfl rfl (Pur.mv rfl) ?_
  refine Reg.pur rfl rfl rfl rfl (Pur.ext rfl rfl) ?_
  refine Reg.pur rfl rfl rfl rfl (Pur.ext rfl rfl) ?_
  refine Reg.pur rfl rfl rfl rfl (Pur.asg rfl) ?_
  refine Reg.pur rfl rfl rfl rfl (Pur.asg rfl) ?_
  refine Reg.nil ?_
  refine At.region rfl rfl ?_
  refine Reg.lod rfl rfl rfl rfl (Lod.ldn ag55 rfl o0_0.blk (whole rfl) rfl) ?_
  refine Reg.op rfl rfl rfl rfl (Does.call rfl (typTextR_ok hL (hS.ext hE) (by omega))) ?_
  rintro _ H3_1 ⟨rfl, hE3_1⟩
  have z3_1 := hE3_1.lt
  replace hE := hE.ext hE3_1
  replace o0_0 := o0_0.ext hE3_1
  replace o0_1 := o0_1.ext hE3_1
  replace o0_2 := o0_2.ext hE3_1
  replace hox := hox.ext hE3_1
  replace o1_2 := o1_2.ext hE3_1
  refine Reg.pur rfl rfl rfl rfl (Pur.mv rfl) ?_
  refine Reg.pur rfl rfl rfl rfl (Pur.ext rfl rfl) ?_
  refine Reg.pur rfl rfl rfl rfl (Pur.ext rfl rfl) ?_
  refine Reg.pur rfl rfl rfl rfl (Pur.asg rfl) ?_
  refine Reg.pur rfl rfl rfl rfl (Pur.asg rfl) ?_
  refine Reg.nil ?_
  refine At.region rfl rfl ?_
  refine Reg.lod rfl rfl rfl rfl (Lod.ldn ag55 rfl o1_2.blk (whole rfl) rfl) ?_
  refine Reg.op rfl rfl rfl rfl (Does.call rfl (typVarsD_ok hL (own_sl (wide9 hL) (by decide) hox) (by omega))) ?_
  rintro v4_1 H4_1 ⟨hE4_1, Aa, c1, Ab, c2, rfl, hga, hgb, hdab⟩
  have z4_1 := hE4_1.lt
  replace hE := hE.ext hE4_1
  replace o0_0 := o0_0.ext hE4_1
  replace o0_1 := o0_1.ext hE4_1
  replace o0_2 := o0_2.ext hE4_1
  replace hox := hox.ext hE4_1
  replace o1_2 := o1_2.ext hE4_1
  have z_hga := hga.lt
  have z_hgb := hgb.lt
  refine Reg.pur rfl rfl rfl rfl (Pur.mv rfl) ?_
  refine Reg.pur rfl rfl rfl rfl (Pur.ext rfl rfl) ?_
  refine Reg.pur rfl rfl rfl rfl (Pur.ext rfl rfl) ?_
  refine Reg.pur rfl rfl rfl rfl (Pur.ext rfl rfl) ?_
  refine Reg.pur rfl rfl rfl rfl (Pur.asg rfl) ?_
  refine Reg.pur rfl rfl rfl rfl (Pur.asg rfl) ?_
  refine Reg.pur rfl rfl rfl rfl (Pur.asg rfl) ?_
  refine Reg.nil ?_
  refine At.region rfl rfl ?_
  refine Reg.lod rfl rfl rfl rfl (Lod.ldn ag55 rfl o0_0.blk (whole rfl) rfl) ?_
  refine Reg.op rfl rfl rfl rfl (Does.call rfl (varsR_ok hL (hS.ext hE) (by omega))) ?_
  rintro v5_1 H5_1 ⟨hE5_1, Ac, c3, Ad, c4, rfl, hgc, hgd⟩
  have z5_1 := hE5_1.lt
  replace hE := hE.ext hE5_1
  replace o0_0 := o0_0.ext hE5_1
  replace o0_1 := o0_1.ext hE5_1
  replace o0_2 := o0_2.ext hE5_1
  replace hox := hox.ext hE5_1
  replace o1_2 := o1_2.ext hE5_1
  replace hga := hga.ext hE5_1
  replace hgb := hgb.ext hE5_1
  have z_hgc := hgc.lt
  have z_hgd := hgd.lt
  refine Reg.pur rfl rfl rfl rfl (Pur.mv rfl) ?_
  refine Reg.pur rfl rfl rfl rfl (Pur.ext rfl rfl) ?_
  refine Reg.pur rfl rfl rfl rfl (Pur.ext rfl rfl) ?_
  refine Reg.pur rfl rfl rfl rfl (Pur.ext rfl rfl) ?_
  refine Reg.pur rfl rfl rfl rfl (Pur.asg rfl) ?_
  refine Reg.pur rfl rfl rfl rfl (Pur.asg rfl) ?_
  refine Reg.pur rfl rfl rfl rfl (Pur.asg rfl) ?_
  refine Reg.nil ?_
  refine At.region rfl rfl ?_
  refine Reg.lod rfl rfl rfl rfl (Lod.ldn ag55 rfl o1_2.blk (whole rfl) rfl) ?_
  refine Reg.lod rfl rfl rfl rfl (Lod.ldn ag24 rfl o0_2.blk (whole hr') hr') ?_
  refine Reg.lod rfl rfl rfl rfl (Lod.ldn ag55 rfl o0_1.blk (whole rfl) rfl) ?_
  refine Reg.op rfl rfl rfl rfl (Does.call rfl (funP_ok hL hK hr (own_sl (wide9 hL) (by decide) hox) (hU.ext hE) (by omega) (by omega))) ?_
  rintro v6_3 H6_3 ⟨A6, cap6, rfl, hg6, hE6_3⟩
  have z6_3 := hE6_3.lt
  replace hE := hE.ext hE6_3
  replace o0_0 := o0_0.ext hE6_3
  replace o0_1 := o0_1.ext hE6_3
  replace o0_2 := o0_2.ext hE6_3
  replace hox := hox.ext hE6_3
  replace o1_2 := o1_2.ext hE6_3
  replace hga := hga.ext hE6_3
  replace hgb := hgb.ext hE6_3
  replace hgc := hgc.ext hE6_3
  replace hgd := hgd.ext hE6_3
  have z_hg6 := hg6.lt
  refine Reg.pur rfl rfl rfl rfl (Pur.mv rfl) ?_
  refine Reg.pur rfl rfl rfl rfl (Pur.ext rfl rfl) ?_
  refine Reg.pur rfl rfl rfl rfl (Pur.ext rfl rfl) ?_
  refine Reg.op rfl rfl rfl rfl (Does.alloc zc55) ?_
  rintro _ H6_7 ⟨rfl, hn6_7⟩
  have z6_7 := hn6_7.size
  replace hE := hE.ext hn6_7.ext
  replace o0_0 := o0_0.ext hn6_7.ext
  replace o0_1 := o0_1.ext hn6_7.ext
  replace o0_2 := o0_2.ext hn6_7.ext
  replace hox := hox.ext hn6_7.ext
  replace o1_2 := o1_2.ext hn6_7.ext
  replace hga := hga.ext hn6_7.ext
  replace hgb := hgb.ext hn6_7.ext
  replace hgc := hgc.ext hn6_7.ext
  replace hgd := hgd.ext hn6_7.ext
  replace hg6 := hg6.ext hn6_7.ext
  have o6_7 := hn6_7.own
  refine Reg.op0 rfl rfl rfl (Does.stn ag55 rfl rfl (by first | rfl | exact ones_Is _) (by first | rfl | (simp [*]; done)) o6_7 (by first | decide | (simp; done) | (simp; omega) | omega)) ?_
  rintro _ H6_8 hu6_8
  have z6_8 := hu6_8.size
  replace hE := hE.upw hu6_8 (by omega)
  replace o0_0 := o0_0.upw hu6_8 (by omega)
  replace o0_1 := o0_1.upw hu6_8 (by omega)
  replace o0_2 := o0_2.upw hu6_8 (by omega)
  replace hox := hox.upw hu6_8 (by omega)
  replace o1_2 := o1_2.upw hu6_8 (by omega)
  replace hga := hga.upw hu6_8 (by omega)
  replace hgb := hgb.upw hu6_8 (by omega)
  replace hgc := hgc.upw hu6_8 (by omega)
  replace hgd := hgd.upw hu6_8 (by omega)
  replace hg6 := hg6.upw hu6_8 (by omega)
  replace o6_7 := hu6_8.own
  first | rw [over (by first | rfl | (simp; done))] at o6_7 | skip
  refine Reg.pur rfl rfl rfl rfl (Pur.asg rfl) ?_
  refine Reg.nil ?_
  refine At.region rfl rfl ?_
  refine Reg.lod rfl rfl rfl rfl (Lod.ldn ag55 rfl o0_0.blk (whole rfl) rfl) ?_
  refine Reg.lod rfl rfl rfl rfl (Lod.ldn ag24 rfl o0_2.blk (whole hr') hr') ?_
  refine Reg.lod rfl rfl rfl rfl (Lod.ldn ag55 rfl o0_1.blk (whole rfl) rfl) ?_
  refine Reg.op rfl rfl rfl rfl (Does.call rfl (funR_ok hL hK hr (hS.ext hE) (hU.ext hE) (by omega) (by omega))) ?_
  rintro v7_3 H7_3 ⟨A7, cap7, rfl, hg7, hE7_3⟩
  have z7_3 := hE7_3.lt
  replace hE := hE.ext hE7_3
  replace o0_0 := o0_0.ext hE7_3
  replace o0_1 := o0_1.ext hE7_3
  replace o0_2 := o0_2.ext hE7_3
  replace hox := hox.ext hE7_3
  replace o1_2 := o1_2.ext hE7_3
  replace hga := hga.ext hE7_3
  replace hgb := hgb.ext hE7_3
  replace hgc := hgc.ext hE7_3
  replace hgd := hgd.ext hE7_3
  replace hg6 := hg6.ext hE7_3
  replace o6_7 := o6_7.ext hE7_3
  have z_hg7 := hg7.lt
  refine Reg.pur rfl rfl rfl rfl (Pur.mv rfl) ?_
  refine Reg.pur rfl rfl rfl rfl (Pur.ext rfl rfl) ?_
  refine Reg.pur rfl rfl rfl rfl (Pur.ext rfl rfl) ?_
  refine Reg.op rfl rfl rfl rfl (Does.alloc zc55) ?_
  rintro _ H7_7 ⟨rfl, hn7_7⟩
  have z7_7 := hn7_7.size
  replace hE := hE.ext hn7_7.ext
  replace o0_0 := o0_0.ext hn7_7.ext
  replace o0_1 := o0_1.ext hn7_7.ext
  replace o0_2 := o0_2.ext hn7_7.ext
  replace hox := hox.ext hn7_7.ext
  replace o1_2 := o1_2.ext hn7_7.ext
  replace hga := hga.ext hn7_7.ext
  replace hgb := hgb.ext hn7_7.ext
  replace hgc := hgc.ext hn7_7.ext
  replace hgd := hgd.ext hn7_7.ext
  replace hg6 := hg6.ext hn7_7.ext
  replace o6_7 := o6_7.ext hn7_7.ext
  replace hg7 := hg7.ext hn7_7.ext
  have o7_7 := hn7_7.own
  refine Reg.op0 rfl rfl rfl (Does.stn ag55 rfl rfl (by first | rfl | exact ones_Is _) (by first | rfl | (simp [*]; done)) o7_7 (by first | decide | (simp; done) | (simp; omega) | omega)) ?_
  rintro _ H7_8 hu7_8
  have z7_8 := hu7_8.size
  replace hE := hE.upw hu7_8 (by omega)
  replace o0_0 := o0_0.upw hu7_8 (by omega)
  replace o0_1 := o0_1.upw hu7_8 (by omega)
  replace o0_2 := o0_2.upw hu7_8 (by omega)
  replace hox := hox.upw hu7_8 (by omega)
  replace o1_2 := o1_2.upw hu7_8 (by omega)
  replace hga := hga.upw hu7_8 (by omega)
  replace hgb := hgb.upw hu7_8 (by omega)
  replace hgc := hgc.upw hu7_8 (by omega)
  replace hgd := hgd.upw hu7_8 (by omega)
  replace hg6 := hg6.upw hu7_8 (by omega)
  replace o6_7 := o6_7.upw hu7_8 (by omega)
  replace hg7 := hg7.upw hu7_8 (by omega)
  replace o7_7 := hu7_8.own
  first | rw [over (by first | rfl | (simp; done))] at o7_7 | skip
  refine Reg.pur rfl rfl rfl rfl (Pur.asg rfl) ?_
  refine Reg.nil ?_
  refine At.drawE ((Bks.cons o6_7.blk (Bks.cons o7_7.blk (Bks.cons o1_2.blk (Bks.cons o0_0.blk Bks.nil))))) [] mixed rfl rfl ?_
  refine RegD.tpur (i := 0) rfl rfl rfl rfl (by kernel_rfl) (Pur.mv rfl) ?_
  refine RegD.tpur (i := 1) rfl rfl rfl rfl (by kernel_rfl) (Pur.mv rfl) ?_
  refine RegD.tpur (i := 2) rfl rfl rfl rfl (by kernel_rfl) (Pur.neS rfl rfl) ?_
  refine RegD.tpur (i := 3) rfl rfl rfl rfl (by kernel_rfl) (Pur.mv rfl) ?_
  refine RegD.known (b' := false) 63 rfl (by first | rfl | simp) ?_
  refine RegD.gtpur (i := 4) rfl rfl rfl rfl rfl rfl (by kernel_rfl) (Pur.mv rfl) ?_
  refine RegD.gtpur (i := 6) rfl rfl rfl rfl rfl rfl (by kernel_rfl) (Pur.mv rfl) ?_
  refine RegD.gone (i := 5) (by kernel_rfl) rfl rfl rfl rfl rfl rfl (Does.call rfl (numE_ok _ _)) ?_
  rintro _ H7_8 ⟨rfl, rfl⟩
  refine ⟨fun _ _ => (Bks.cons o6_7.blk (Bks.cons o7_7.blk (Bks.cons o1_2.blk (Bks.cons o0_0.blk Bks.nil)))), ?_⟩
  refine RegD.gtpur (i := 7) rfl rfl rfl rfl rfl rfl (by kernel_rfl) (Pur.neq rfl rfl) ?_
  refine RegD.tpur (i := 8) rfl rfl rfl rfl (by kernel_rfl) (Pur.pickF rfl rfl) ?_
  refine RegD.tpur (i := 9) rfl rfl rfl rfl (by kernel_rfl) (Pur.mv rfl) ?_
  refine RegD.known (b' := false) 69 rfl (by first | rfl | simp) ?_
  refine RegD.gtpur (i := 10) rfl rfl rfl rfl rfl rfl (by kernel_rfl) (Pur.mv rfl) ?_
  refine RegD.gtpur (i := 11) rfl rfl rfl rfl rfl rfl (by kernel_rfl) (Pur.mv rfl) ?_
  refine RegD.gone (i := 12) (by kernel_rfl) rfl rfl rfl rfl rfl rfl (Does.call rfl (sameI_ok _ _ (own_sl (wide1 _) (by decide) hga) (own_sl (wide1 _) (by decide) hgc) (by omega))) ?_
  rintro _ H7_8 ⟨rfl, rfl⟩
  refine ⟨fun _ _ => (Bks.cons o6_7.blk (Bks.cons o7_7.blk (Bks.cons o1_2.blk (Bks.cons o0_0.blk Bks.nil)))), ?_⟩
  refine RegD.gtpur (i := 13) rfl rfl rfl rfl rfl rfl (by kernel_rfl) (Pur.not rfl) ?_
  refine RegD.tpur (i := 14) rfl rfl rfl rfl (by kernel_rfl) (Pur.pickF rfl rfl) ?_
  refine RegD.tpur (i := 15) rfl rfl rfl rfl (by kernel_rfl) (Pur.mv rfl) ?_
  refine RegD.known (b' := false) 75 rfl (by first | rfl | simp) ?_
  refine RegD.gtpur (i := 16) rfl rfl rfl rfl rfl rfl (by kernel_rfl) (Pur.mv rfl) ?_
  refine RegD.gtpur (i := 17) rfl rfl rfl rfl rfl rfl (by kernel_rfl) (Pur.mv rfl) ?_
  refine RegD.gone (i := 18) (by kernel_rfl) rfl rfl rfl rfl rfl rfl (Does.call rfl (sameI_ok _ _ (own_sl (wide1 _) (by decide) hgb) (own_sl (wide1 _) (by decide) hgd) (by omega))) ?_
  rintro _ H7_8 ⟨rfl, rfl⟩
  refine ⟨fun _ _ => (Bks.cons o6_7.blk (Bks.cons o7_7.blk (Bks.cons o1_2.blk (Bks.cons o0_0.blk Bks.nil)))), ?_⟩
  refine RegD.gtpur (i := 19) rfl rfl rfl rfl rfl rfl (by kernel_rfl) (Pur.not rfl) ?_
  refine RegD.tpur (i := 20) rfl rfl rfl rfl (by kernel_rfl) (Pur.pickF rfl rfl) ?_
  refine RegD.tpur (i := 21) rfl rfl rfl rfl (by kernel_rfl) (Pur.mv rfl) ?_
  refine RegD.known (b' := false) 81 rfl (by first | rfl | simp) ?_
  refine RegD.gtpur (i := 22) rfl rfl rfl rfl rfl rfl (by kernel_rfl) (Pur.mv rfl) ?_
  refine RegD.gtpur (i := 24) rfl rfl rfl rfl rfl rfl (by kernel_rfl) (Pur.mv rfl) ?_
  refine RegD.gone (i := 23) (by kernel_rfl) rfl rfl rfl rfl rfl rfl (Does.call rfl (numE_ok _ _)) ?_
  rintro _ H7_8 ⟨rfl, rfl⟩
  refine ⟨fun _ _ => (Bks.cons o6_7.blk (Bks.cons o7_7.blk (Bks.cons o1_2.blk (Bks.cons o0_0.blk Bks.nil)))), ?_⟩
  refine RegD.gtpur (i := 25) rfl rfl rfl rfl rfl rfl (by kernel_rfl) (Pur.neq rfl rfl) ?_
  refine RegD.tpur (i := 26) rfl rfl rfl rfl (by kernel_rfl) (Pur.pickF rfl rfl) ?_
  refine RegD.tpur (i := 27) rfl rfl rfl rfl (by kernel_rfl) (Pur.mv rfl) ?_
  refine RegD.known (b' := false) 87 rfl (by first | rfl | simp) ?_
  refine RegD.gtake (i := 28) rfl rfl rfl rfl rfl rfl (by kernel_rfl) (Bks.cons o6_7.blk (Bks.cons o7_7.blk (Bks.cons o1_2.blk (Bks.cons o0_0.blk Bks.nil)))) (fun H hS => Lod.ldn ag55 rfl hS.hd (whole rfl) rfl) ?_
  refine RegD.gtake (i := 29) rfl rfl rfl rfl rfl rfl (by kernel_rfl) (Bks.cons o6_7.blk (Bks.cons o7_7.blk (Bks.cons o1_2.blk (Bks.cons o0_0.blk Bks.nil)))) (fun H hS => Lod.ldn ag55 rfl hS.tl.hd (whole rfl) rfl) ?_
  refine RegD.gone (i := 30) (by kernel_rfl) rfl rfl rfl rfl rfl rfl (Does.call rfl (sameType_ok hN hN (own_sl (wide9 hN) (by decide) hg6) (own_sl (wide9 hN) (by decide) hg7) (by omega))) ?_
  rintro _ H8_30 ⟨rfl, hE8_30⟩
  have z8_30 := hE8_30.lt
  replace hE := hE.ext hE8_30
  replace o0_0 := o0_0.ext hE8_30
  replace o0_1 := o0_1.ext hE8_30
  replace o0_2 := o0_2.ext hE8_30
  replace hox := hox.ext hE8_30
  replace o1_2 := o1_2.ext hE8_30
  replace hga := hga.ext hE8_30
  replace hgb := hgb.ext hE8_30
  replace hgc := hgc.ext hE8_30
  replace hgd := hgd.ext hE8_30
  replace hg6 := hg6.ext hE8_30
  replace o6_7 := o6_7.ext hE8_30
  replace hg7 := hg7.ext hE8_30
  replace o7_7 := o7_7.ext hE8_30
  refine ⟨fun _ _ => (Bks.cons o6_7.blk (Bks.cons o7_7.blk (Bks.cons o1_2.blk (Bks.cons o0_0.blk Bks.nil)))), ?_⟩
  refine RegD.gtpur (i := 31) rfl rfl rfl rfl rfl rfl (by kernel_rfl) (Pur.not rfl) ?_
  refine RegD.tpur (i := 32) rfl rfl rfl rfl (by kernel_rfl) (Pur.pickF rfl rfl) ?_
  refine RegD.tpur (i := 33) rfl rfl rfl rfl (by kernel_rfl) (Pur.mv rfl) ?_
  refine RegD.known (b' := false) 93 rfl (by first | rfl | simp) ?_
  refine RegD.gtpur (i := 34) rfl rfl rfl rfl rfl rfl (by kernel_rfl) (Pur.mv rfl) ?_
  refine RegD.gtpur (i := 36) rfl rfl rfl rfl rfl rfl (by kernel_rfl) (Pur.mv rfl) ?_
  refine RegD.gone (i := 35) (by kernel_rfl) rfl rfl rfl rfl rfl rfl (Does.call rfl (numE_ok _ _)) ?_
  rintro _ H8_30 ⟨rfl, rfl⟩
  refine ⟨fun _ _ => (Bks.cons o6_7.blk (Bks.cons o7_7.blk (Bks.cons o1_2.blk (Bks.cons o0_0.blk Bks.nil)))), ?_⟩
  refine RegD.gtpur (i := 37) rfl rfl rfl rfl rfl rfl (by kernel_rfl) (Pur.neq rfl rfl) ?_
  refine RegD.tpur (i := 38) rfl rfl rfl rfl (by kernel_rfl) (Pur.pickF rfl rfl) ?_
  refine RegD.tpur (i := 39) rfl rfl rfl rfl (by kernel_rfl) (Pur.mv rfl) ?_
  refine RegD.known (b' := false) 99 rfl (by first | rfl | simp) ?_
  refine RegD.gtake (i := 40) rfl rfl rfl rfl rfl rfl (by kernel_rfl) (Bks.cons o6_7.blk (Bks.cons o7_7.blk (Bks.cons o1_2.blk (Bks.cons o0_0.blk Bks.nil)))) (fun H hS => Lod.ldn ag55 rfl hS.tl.tl.hd (whole rfl) rfl) ?_
  refine RegD.gtake (i := 42) rfl rfl rfl rfl rfl rfl (by kernel_rfl) (Bks.cons o6_7.blk (Bks.cons o7_7.blk (Bks.cons o1_2.blk (Bks.cons o0_0.blk Bks.nil)))) (fun H hS => Lod.ldn ag55 rfl hS.tl.tl.tl.hd (whole rfl) rfl) ?_
  refine RegD.gone (i := 41) (by kernel_rfl) rfl rfl rfl rfl rfl rfl (Does.call rfl (typMay_ok L hL (own_sl (wide9 hL) (by decide) hox) (by omega))) ?_
  rintro _ H8_41 ⟨rfl, hE8_41⟩
  have z8_41 := hE8_41.lt
  replace hE := hE.ext hE8_41
  replace o0_0 := o0_0.ext hE8_41
  replace o0_1 := o0_1.ext hE8_41
  replace o0_2 := o0_2.ext hE8_41
  replace hox := hox.ext hE8_41
  replace o1_2 := o1_2.ext hE8_41
  replace hga := hga.ext hE8_41
  replace hgb := hgb.ext hE8_41
  replace hgc := hgc.ext hE8_41
  replace hgd := hgd.ext hE8_41
  replace hg6 := hg6.ext hE8_41
  replace o6_7 := o6_7.ext hE8_41
  replace hg7 := hg7.ext hE8_41
  replace o7_7 := o7_7.ext hE8_41
  refine ⟨fun _ _ => (Bks.cons o6_7.blk (Bks.cons o7_7.blk (Bks.cons o1_2.blk (Bks.cons o0_0.blk Bks.nil)))), ?_⟩
  refine RegD.gone (i := 43) (by kernel_rfl) rfl rfl rfl rfl rfl rfl (Does.call rfl (typMayR_ok L hL (hS.ext hE) (by omega))) ?_
  rintro _ H8_43 ⟨rfl, hE8_43⟩
  have z8_43 := hE8_43.lt
  replace hE := hE.ext hE8_43
  replace o0_0 := o0_0.ext hE8_43
  replace o0_1 := o0_1.ext hE8_43
  replace o0_2 := o0_2.ext hE8_43
  replace hox := hox.ext hE8_43
  replace o1_2 := o1_2.ext hE8_43
  replace hga := hga.ext hE8_43
  replace hgb := hgb.ext hE8_43
  replace hgc := hgc.ext hE8_43
  replace hgd := hgd.ext hE8_43
  replace hg6 := hg6.ext hE8_43
  replace o6_7 := o6_7.ext hE8_43
  replace hg7 := hg7.ext hE8_43
  replace o7_7 := o7_7.ext hE8_43
  refine ⟨fun _ _ => (Bks.cons o6_7.blk (Bks.cons o7_7.blk (Bks.cons o1_2.blk (Bks.cons o0_0.blk Bks.nil)))), ?_⟩
  refine RegD.gtpur (i := 44) rfl rfl rfl rfl rfl rfl (by kernel_rfl) (Pur.neB Tryd.underlying4 rfl rfl) ?_
  refine RegD.tpur (i := 45) rfl rfl rfl rfl (by kernel_rfl) (Pur.pickF rfl rfl) ?_
  refine RegD.done (by kernel_rfl) ?_
  refine At.condF rfl rfl (by first | rfl | simp) ?_

  refine At.region rfl rfl ?_
  refine Reg.lod rfl rfl rfl rfl (Lod.ldn ag55 rfl o6_7.blk (whole rfl) rfl) ?_

  refine Reg.op rfl rfl rfl rfl (Does.call rfl (spoilO_ok hN (by omega) hg6)) ?_
  rintro _ H10_1 hbut10_1
  have z10_1 := hbut10_1.lt
  replace hE := hE.via hbut10_1 (by first | omega | (intro g; omega) | (intro g hg; omega) | (intro g hg h; omega))
  replace o0_0 := o0_0.via hbut10_1 (by first | omega | (intro g; omega) | (intro g hg; omega) | (intro g hg h; omega))
  replace o0_1 := o0_1.via hbut10_1 (by first | omega | (intro g; omega) | (intro g hg; omega) | (intro g hg h; omega))
  replace o0_2 := o0_2.via hbut10_1 (by first | omega | (intro g; omega) | (intro g hg; omega) | (intro g hg h; omega))
  replace hox := hox.via hbut10_1 (by first | omega | (intro g; omega) | (intro g hg; omega) | (intro g hg h; omega))
  replace o1_2 := o1_2.via hbut10_1 (by first | omega | (intro g; omega) | (intro g hg; omega) | (intro g hg h; omega))
  replace hga := hga.via hbut10_1 (by first | omega | (intro g; omega) | (intro g hg; omega) | (intro g hg h; omega))
  replace hgb := hgb.via hbut10_1 (by first | omega | (intro g; omega) | (intro g hg; omega) | (intro g hg h; omega))
  replace o6_7 := o6_7.via hbut10_1 (by first | omega | (intro g; omega) | (intro g hg; omega) | (intro g hg h; omega))
  refine Reg.nil ?_
  refine At.region rfl rfl ?_
  refine Reg.pur rfl rfl rfl rfl (Pur.mv rfl) ?_

  refine Reg.op rfl rfl rfl rfl (Does.call rfl (spoilI_ok _ hga.gw (by omega))) ?_
  rintro _ H11_1 hbut11_1
  have z11_1 := hbut11_1.lt
  replace hE := hE.via hbut11_1 (by first | omega | (intro g; omega) | (intro g hg; omega) | (intro g hg h; omega))
  replace o0_0 := o0_0.via hbut11_1 (by first | omega | (intro g; omega) | (intro g hg; omega) | (intro g hg h; omega))
  replace o0_1 := o0_1.via hbut11_1 (by first | omega | (intro g; omega) | (intro g hg; omega) | (intro g hg h; omega))
  replace o0_2 := o0_2.via hbut11_1 (by first | omega | (intro g; omega) | (intro g hg; omega) | (intro g hg h; omega))
  replace hox := hox.via hbut11_1 (by first | omega | (intro g; omega) | (intro g hg; omega) | (intro g hg h; omega))
  replace o1_2 := o1_2.via hbut11_1 (by first | omega | (intro g; omega) | (intro g hg; omega) | (intro g hg h; omega))
  replace hgb := hgb.via hbut11_1 (by first | omega | (intro g; omega) | (intro g hg; omega) | (intro g hg h; omega))
  replace o6_7 := o6_7.via hbut11_1 (by first | omega | (intro g; omega) | (intro g hg; omega) | (intro g hg h; omega))
  refine Reg.nil ?_
  refine At.region rfl rfl ?_
  refine Reg.pur rfl rfl rfl rfl (Pur.mv rfl) ?_

  refine Reg.op rfl rfl rfl rfl (Does.call rfl (spoilI_ok _ hgb.gw (by omega))) ?_
  rintro _ H12_1 hbut12_1
  have z12_1 := hbut12_1.lt
  replace hE := hE.via hbut12_1 (by first | omega | (intro g; omega) | (intro g hg; omega) | (intro g hg h; omega))
  replace o0_0 := o0_0.via hbut12_1 (by first | omega | (intro g; omega) | (intro g hg; omega) | (intro g hg h; omega))
  replace o0_1 := o0_1.via hbut12_1 (by first | omega | (intro g; omega) | (intro g hg; omega) | (intro g hg h; omega))
  replace o0_2 := o0_2.via hbut12_1 (by first | omega | (intro g; omega) | (intro g hg; omega) | (intro g hg h; omega))
  replace hox := hox.via hbut12_1 (by first | omega | (intro g; omega) | (intro g hg; omega) | (intro g hg h; omega))
  replace o1_2 := o1_2.via hbut12_1 (by first | omega | (intro g; omega) | (intro g hg; omega) | (intro g hg h; omega))
  replace o6_7 := o6_7.via hbut12_1 (by first | omega | (intro g; omega) | (intro g hg; omega) | (intro g hg h; omega))
  refine Reg.nil ?_
  refine At.region rfl rfl ?_
  refine Reg.lod rfl rfl rfl rfl (Lod.ldn ag55 rfl o1_2.blk (whole rfl) rfl) ?_
  refine Reg.lod rfl rfl rfl rfl (Lod.ldn ag55 rfl o0_0.blk (whole rfl) rfl) ?_
  refine Reg.op rfl rfl rfl rfl (Does.call rfl (sameType_ok hL hL (own_sl (wide9 hL) (by decide) hox) (hS.ext hE) (by omega))) ?_
  rintro _ H13_2 ⟨rfl, hE13_2⟩
  have z13_2 := hE13_2.lt
  replace hE := hE.ext hE13_2
  replace o0_0 := o0_0.ext hE13_2
  replace o0_1 := o0_1.ext hE13_2
  replace o0_2 := o0_2.ext hE13_2
  replace hox := hox.ext hE13_2
  replace o1_2 := o1_2.ext hE13_2
  replace o6_7 := o6_7.ext hE13_2
  refine Reg.pur rfl rfl rfl rfl (Pur.mv rfl) ?_
  refine Reg.known (b' := true) 115 rfl (by first | rfl | simp) ?_
  refine Reg.gop rfl rfl rfl rfl rfl rfl (Does.call rfl (awake7_ok (hT.ext hE))) ?_
  rintro _ H13_4 ⟨rfl, hE13_4⟩
  have z13_4 := hE13_4.lt
  replace hE := hE.ext hE13_4
  replace o0_0 := o0_0.ext hE13_4
  replace o0_1 := o0_1.ext hE13_4
  replace o0_2 := o0_2.ext hE13_4
  replace hox := hox.ext hE13_4
  replace o1_2 := o1_2.ext hE13_4
  replace o6_7 := o6_7.ext hE13_4
  refine Reg.pur rfl rfl rfl rfl (Pur.pickT rfl rfl) ?_
  refine Reg.pur rfl rfl rfl rfl (Pur.asg rfl) ?_
  refine Reg.nil ?_
  refine At.ret rfl Tryd.func13 rfl ?_
  exact ⟨rfl, hE⟩
end Go.Proofs.YtlfillhffpiffaaDoor

namespace Go.Proofs.YtlfillhffpiffaaDoor
set_option linter.unusedSimpArgs false
set_option linter.unusedVariables false
set_option maxRecDepth 100000
open Go Go.Fx Go.Proofs

theorem own : ownKnob Tryd.prog.godebug = none := by kernel_rfl
theorem laidOut : laidOutB Tryd.prog = true := by kernel_rfl
def litsOf : DataW Unit → Array Value
  | .agg l => (l.map fun | .lit (.int k n) => Value.int k n | _ => undef).toArray
  | _ => #[]
def put (a : Array Value) : Obj → Obj
  | .cells _ t fr => .cells a t fr
  | o => o
noncomputable def laidWorld (os : Os) : World :=
  let w0 := World.holding Tryd.prog os ⟨#[], #[], []⟩
  { w0 with heap := ((w0.heap.modify 0 (put (litsOf Rows.laid_internal_strconv_uint64pow10))).modify 2 (put (litsOf Rows.laid_math_bits_deBruijn32tab))).modify 3 (put (litsOf Rows.laid_math_bits_deBruijn64tab)) }
theorem laid_met (os : Os) (args : Array Value) : laidMet Tryd.prog Rows.rowsRow.laid ((laidWorld os).forCall (fun _ _ => 0) ⟨#[], args, []⟩).memory :=
  laidMet_of_run' 8 (by kernel_rfl) (by kernel_rfl)
theorem tab_eq : (Rows.laid_internal_strconv_uint64pow10 : DataW Unit) = Lib.tabData .u64 Lib.pow10Tab := by kernel_rfl
theorem tens_of {W : World} (h : laidMet Tryd.prog Rows.rowsRow.laid W) : Tens W.heap := by
  obtain ⟨g, t, cs, fuel, p, hg, hty, hvar, hd⟩ := Lib.laidMet.reads h (.tail _ (.tail _ (.head _)))
  obtain rfl := Option.some.inj ((show Tryd.prog.globalNamed _ = some 0 by kernel_rfl).symm.trans hg)
  obtain rfl := Option.some.inj ((show (Tryd.prog.globals[0]?).map (·.type) = some 172 by kernel_rfl).symm.trans hty)
  rw [tab_eq] at hd
  have hcs := Lib.cells_of_tab Tryd.underlying172 Tryd.underlying93 (by kernel_rfl) (by kernel_rfl) hd
  unfold World.var? at hvar
  rw [hg] at hvar
  simp only [Option.bind_some] at hvar
  cases hx : W.heap[0]? with
  | none => rw [hx] at hvar; cases hvar
  | some ob =>
    rw [hx] at hvar
    cases ob with
    | cells c T fr =>
      simp only [Option.some.injEq] at hvar
      subst hvar
      exact ⟨T, fr, by rw [hx, tens, ← hcs]⟩
    | _ => cases hvar
end Go.Proofs.YtlfillhffpiffaaDoor

namespace Go.Proofs.YtlfillhffpiffaaDoor
set_option linter.unusedSimpArgs false
set_option linter.unusedVariables false
set_option maxRecDepth 8000
set_option maxHeartbeats 1000000
open Go Go.Fx Go.Proofs
namespace FactsDTyC
theorem ag24 : ag Tryd.prog 24 = some 5 := by kernel_rfl
theorem ag55 : ag Tryd.prog 55 = some 1 := by kernel_rfl
theorem es50 : esz Tryd.prog 50 = some 1 := by kernel_rfl
theorem fo55_0 : foff Tryd.prog 55 0 = some 0 := by kernel_rfl
theorem isl50 : isSl Tryd.prog 50 = true := by kernel_rfl
theorem isl53 : isSl Tryd.prog 53 = true := by kernel_rfl
theorem sc53 : sc Tryd.prog 53 = true := by kernel_rfl
theorem zc55 : zc Tryd.prog 55 = some [.slice none 0 0] := by kernel_rfl
end FactsDTyC
open FactsDTyC

theorem ord_tx : ∀ (f : Nat) (t : Tm) (pre post : List (List Int)) (N : Nms), t.sz ≤ f → t.ok → nms N (ord (pre ++ t.enc pre.length ++ post) f ((pre.length : Int) + t.sz - 1)) = (tx N t).2 := by
  intro f
  induction f with
  | zero => intro t _ _ _ h; have := t.sz_pos; omega
  | succ f ih =>
  intro t pre post N hf hok
  rw [ord_succ]
  cases t with
  | bas b =>
    have hx : el (pre ++ (Tm.bas b).enc pre.length ++ post) ((pre.length : Int) + (Tm.bas b).sz - 1) = bNode b := by
      rw [show (pre.length : Int) + (Tm.bas b).sz - 1 = pre.length by simp only [Tm.sz]; omega]
      simp only [Tm.enc, List.append_assoc, List.singleton_append]
      exact el_mid ..
    rw [hx]
    cases b <;> rfl
  | var v =>
    have hx : el (pre ++ (Tm.var v).enc pre.length ++ post) ((pre.length : Int) + (Tm.var v).sz - 1) = vNode v := by
      rw [show (pre.length : Int) + (Tm.var v).sz - 1 = pre.length by simp only [Tm.sz]; omega]
      simp only [Tm.enc, List.append_assoc, List.singleton_append]
      exact el_mid ..
    rw [hx]
    rfl
  | fn a r b =>
    obtain ⟨hoa, hr5, hrow, hob⟩ := hok
    have e0 : (Tm.fn a r b).sz = a.sz + b.sz + 1 := rfl
    have hpa := a.sz_pos
    have hpb := b.sz_pos
    have hp2 : ((pre ++ a.enc pre.length ++ b.enc ((pre.length : Int) + a.sz)).length : Int) = (pre.length : Int) + a.sz + b.sz := by rw [List.length_append, List.length_append, Tm.enc_len, Tm.enc_len]; omega
    have hL1 : pre ++ (Tm.fn a r b).enc pre.length ++ post = (pre ++ a.enc pre.length ++ b.enc ((pre.length : Int) + a.sz)) ++ fNode ((pre.length : Int) + a.sz - 1) ((pre.length : Int) + a.sz + b.sz - 1) r :: post := by
      simp only [Tm.enc, List.append_assoc, List.singleton_append]
    have hx : el (pre ++ (Tm.fn a r b).enc pre.length ++ post) ((pre.length : Int) + (Tm.fn a r b).sz - 1) = fNode ((pre.length : Int) + a.sz - 1) ((pre.length : Int) + a.sz + b.sz - 1) r := by
      rw [hL1, show (pre.length : Int) + (Tm.fn a r b).sz - 1 = ((pre ++ a.enc pre.length ++ b.enc ((pre.length : Int) + a.sz)).length : Int) by rw [hp2]; simp only [Tm.sz]; omega]
      exact el_mid ..
    rw [hx, if_neg (fun h => h rfl), nms_app, nms_cons]
    have g2 : (fNode ((pre.length : Int) + a.sz - 1) ((pre.length : Int) + a.sz + b.sz - 1) r).getD 2 0 = (pre.length : Int) + a.sz - 1 := rfl
    have g3 : (fNode ((pre.length : Int) + a.sz - 1) ((pre.length : Int) + a.sz + b.sz - 1) r).getD 3 0 = (pre.length : Int) + a.sz + b.sz - 1 := rfl
    rw [g2, g3]
    have i1 := ih a pre (b.enc ((pre.length : Int) + a.sz) ++ fNode ((pre.length : Int) + a.sz - 1) ((pre.length : Int) + a.sz + b.sz - 1) r :: post) N (by omega) hoa
    rw [← spl_a] at i1
    rw [i1]
    have hsee : ∀ M : Nms, see M (fNode ((pre.length : Int) + a.sz - 1) ((pre.length : Int) + a.sz + b.sz - 1) r) = (M.1, rnm M.2 r) := by
      intro M
      have ht := rowM_t hrow
      obtain ⟨c0, c1, c2, c3, t, rfl⟩ := row_five hr5
      unfold see rnm
      rw [if_neg (show ¬ (fNode ((pre.length : Int) + a.sz - 1) ((pre.length : Int) + a.sz + b.sz - 1) [c0, c1, c2, c3, t]).getD 0 0 = 2 by (show ¬ (3 : Int) = 2); decide)]
      have g8 : (fNode ((pre.length : Int) + a.sz - 1) ((pre.length : Int) + a.sz + b.sz - 1) [c0, c1, c2, c3, t]).getD 8 0 = t := rfl
      have g4 : ([c0, c1, c2, c3, t] : List Int).getD 4 0 = t := rfl
      rw [g8]
      rw [g4] at ht ⊢
      by_cases h0 : 0 ≤ t
      · rw [if_pos ⟨rfl, by omega⟩, if_pos h0]
      · rw [if_neg (fun h => h.2 (by omega)), if_neg h0]
    rw [hsee]
    have i2 := ih b (pre ++ a.enc pre.length) (fNode ((pre.length : Int) + a.sz - 1) ((pre.length : Int) + a.sz + b.sz - 1) r :: post) ((tx N a).2.1, rnm (tx N a).2.2 r) (by omega) hob
    rw [← spl_b] at i2
    have hlen : (((pre ++ a.enc pre.length).length : Nat) : Int) + b.sz - 1 = (pre.length : Int) + a.sz + b.sz - 1 := by rw [spl_l]; omega
    rw [hlen] at i2
    rw [i2]
    rfl
theorem varsT_enc {t : Tm} (hok : t.ok) (hz : t.sz ≤ 256) : varsT (t.enc 0) = (tx ([], []) t).2 := by
  unfold varsT varsS
  rw [if_pos (enc_typ hok hz), Tm.enc_len]
  have := ord_tx t.sz t [] [] ([], []) (Nat.le_refl _) hok
  simpa using this
theorem mem_inL : ∀ {l : List Int} {v : Int}, inL l v = true ↔ v ∈ l
  | [], v => by simp [inL, ixL]
  | x :: l, v => by
    have ih := mem_inL (l := l) (v := v)
    simp only [inL, decide_eq_true_eq] at ih ⊢
    simp only [ixL, List.mem_cons, List.length_cons]
    split
    · rename_i h; simp [h]
    · rename_i h
      rw [← ih]
      constructor
      · intro h'; right; omega
      · rintro (h' | h')
        · exact (h h'.symm).elim
        · omega
theorem enc_arr {a b : Tm} {r : List Int} (ha : a.sz ≤ 1000) (hb : b.sz ≤ 1000) : arr2 (a.enc 0) r (b.enc 0) = (Tm.fn a r b).enc 0 := by
  unfold arr2 arrN
  rw [Tm.enc_len, Tm.enc_len, Tm.enc_mov b 0 a.sz (by omega) (by omega) (by omega) (by omega) (by omega) (by omega)]
  simp only [Tm.enc]
  rw [show (0 : Int) + a.sz - 1 = (a.sz : Int) - 1 by omega, show (0 : Int) + a.sz + b.sz - 1 = (a.sz : Int) + b.sz - 1 by omega]
theorem take_sl {l : List Int} {H : Heap} {A : Option Addr} {cap i : Nat} (hS : SlT H e1 1 (.slice A l.length cap) l) (hi : i ≤ l.length) : SlT H e1 1 (.slice A (l.take i).length cap) (l.take i) := by
  obtain ⟨A', cap', e, h1, h2, h3, h4⟩ := hS
  cases e
  refine ⟨A, cap, rfl, by rw [List.length_take]; omega, h2, h3, ?_⟩
  rcases h4 with h4 | ⟨b, o, c, rfl, hb, h5⟩
  · exact .inl (by rw [List.length_take]; omega)
  · refine .inr ⟨b, o, c, rfl, hb, fun j hj => ?_⟩
    rw [List.length_take] at hj
    rw [List.getElem_take]
    exact h5 j (by omega)
theorem addL_pre (T : List Int) (v : Int) : ∃ x, addL T v = T ++ x := by
  unfold addL; split
  · exact ⟨[], by simp⟩
  · exact ⟨[v], rfl⟩
theorem rnm_pre (R r : List Int) : ∃ x, rnm R r = R ++ x := by
  unfold rnm; split
  · exact addL_pre _ _
  · exact ⟨[], by simp⟩
theorem tx_pre : ∀ (t : Tm) (N : Nms), ∃ x y, (tx N t).2 = (N.1 ++ x, N.2 ++ y)
  | .bas b, N => ⟨[], [], by simp [tx]⟩
  | .var v, N => by
    obtain ⟨x, h⟩ := addL_pre N.1 v
    exact ⟨x, [], by simp [tx, h]⟩
  | .fn a r b, N => by
    obtain ⟨x1, y1, e1⟩ := tx_pre a N
    obtain ⟨z, e2⟩ := rnm_pre (tx N a).2.2 r
    obtain ⟨x3, y3, e3⟩ := tx_pre b ((tx N a).2.1, rnm (tx N a).2.2 r)
    refine ⟨x1 ++ x3, y1 ++ z ++ y3, ?_⟩
    show (tx ((tx N a).2.1, rnm (tx N a).2.2 r) b).2 = _
    rw [e3, e2, e1]
    simp
theorem mem_addL {T : List Int} {v w : Int} : w ∈ addL T v ↔ w ∈ T ∨ w = v := by
  unfold addL
  split
  · rename_i h
    have := mem_inL.1 h
    constructor
    · exact .inl
    · rintro (h | rfl)
      · exact h
      · exact this
  · simp
theorem addL_grow {M T : List Int} (h : ∀ w ∈ M, w ∈ T) (v : Int) : (addL T v).length + M.length ≤ (addL M v).length + T.length ∧ ∀ w ∈ addL M v, w ∈ addL T v := by
  constructor
  · unfold addL
    by_cases h1 : inL M v = true
    · have h2 : inL T v = true := mem_inL.2 (h v (mem_inL.1 h1))
      rw [if_pos h1, if_pos h2]; omega
    · rw [if_neg h1]
      split <;> simp <;> omega
  · intro w hw
    rw [mem_addL] at hw ⊢
    exact hw.imp (h w) id
theorem rnm_grow {M T : List Int} (h : ∀ w ∈ M, w ∈ T) (r : List Int) : (rnm T r).length + M.length ≤ (rnm M r).length + T.length ∧ ∀ w ∈ rnm M r, w ∈ rnm T r := by
  unfold rnm
  by_cases h0 : 0 ≤ r.getD 4 0
  · rw [if_pos h0, if_pos h0]; exact addL_grow h _
  · rw [if_neg h0, if_neg h0]; exact ⟨by omega, h⟩
theorem tx_grow : ∀ (t : Tm) (M N : Nms), (∀ w ∈ M.1, w ∈ N.1) → (∀ w ∈ M.2, w ∈ N.2) →
    ((tx N t).2.1.length + M.1.length ≤ (tx M t).2.1.length + N.1.length ∧ (tx N t).2.2.length + M.2.length ≤ (tx M t).2.2.length + N.2.length) ∧ (∀ w ∈ (tx M t).2.1, w ∈ (tx N t).2.1) ∧ ∀ w ∈ (tx M t).2.2, w ∈ (tx N t).2.2
  | .bas b, M, N, h1, h2 => ⟨⟨by simp only [tx]; omega, by simp only [tx]; omega⟩, h1, h2⟩
  | .var v, M, N, h1, h2 => by
    have g := addL_grow h1 v
    exact ⟨⟨g.1, by simp only [tx]; omega⟩, g.2, h2⟩
  | .fn a r b, M, N, h1, h2 => by
    obtain ⟨⟨a1, a2⟩, a3, a4⟩ := tx_grow a M N h1 h2
    obtain ⟨r1, r2⟩ := rnm_grow a4 r
    obtain ⟨⟨b1, b2⟩, b3, b4⟩ := tx_grow b ((tx M a).2.1, rnm (tx M a).2.2 r) ((tx N a).2.1, rnm (tx N a).2.2 r) a3 r2
    dsimp only at b1 b2
    exact ⟨⟨by simp only [tx]; omega, by simp only [tx]; omega⟩, b3, b4⟩
theorem grows {L K : List (List Int)} {r : List Int} (hL : Nine L) (hK : Nine K) (hr : r.length = 5) (h : (funL L r K).2 = 0) :
    typM L = true ∧ typM K = true ∧ typM (funL L r K).1 = true ∧ (funL L r K).1.length = L.length + K.length + 1 ∧ L.length ≤ 256 ∧ K.length ≤ 256 ∧
    (∃ x, (varsT (funL L r K).1).1 = (varsT L).1 ++ x ∧ x.length ≤ (varsT K).1.length) ∧ ∃ y, (varsT (funL L r K).1).2 = (varsT L).2 ++ y ∧ y.length ≤ (varsT K).2.length + 1 := by
  by_cases hc : typM L = true ∧ rowM r = true ∧ typM K = true ∧ L.length + K.length < 256
  · rw [funL_yes hc]
    obtain ⟨h1, h2, h3, h4⟩ := hc
    obtain ⟨t, ht, rfl, hz⟩ := typ_dec hL h1
    obtain ⟨u, hu, rfl, kz⟩ := typ_dec hK h3
    rw [Tm.enc_len, Tm.enc_len] at h4
    have hok : (Tm.fn t r u).ok := ⟨ht, hr, h2, hu⟩
    have hzz : (Tm.fn t r u).sz ≤ 256 := by simp only [Tm.sz]; omega
    dsimp only
    rw [enc_arr (by omega) (by omega), varsT_enc hok hzz, varsT_enc ht hz, varsT_enc hu kz, Tm.enc_len, Tm.enc_len, Tm.enc_len]
    refine ⟨h1, h3, enc_typ hok hzz, rfl, hz, kz, ?_, ?_⟩
    · obtain ⟨x, y, e⟩ := tx_pre u ((tx ([], []) t).2.1, rnm (tx ([], []) t).2.2 r)
      have g := (tx_grow u ([], []) ((tx ([], []) t).2.1, rnm (tx ([], []) t).2.2 r) (fun w hw => by cases hw) (fun w hw => by cases hw)).1.1
      have e' : (tx ([], []) (Tm.fn t r u)).2.1 = (tx ([], []) t).2.1 ++ x := by
        show (tx ((tx ([], []) t).2.1, rnm (tx ([], []) t).2.2 r) u).2.1 = _
        rw [e]
      refine ⟨x, e', ?_⟩
      rw [e] at g
      simp only [List.length_append, List.length_nil] at g
      omega
    · obtain ⟨x, y, e⟩ := tx_pre u ((tx ([], []) t).2.1, rnm (tx ([], []) t).2.2 r)
      obtain ⟨z, ez⟩ := rnm_pre (tx ([], []) t).2.2 r
      have hz1 := rnm_len (tx ([], []) t).2.2 r
      have g := (tx_grow u ([], []) ((tx ([], []) t).2.1, rnm (tx ([], []) t).2.2 r) (fun w hw => by cases hw) (fun w hw => by cases hw)).1.2
      have e' : (tx ([], []) (Tm.fn t r u)).2.2 = (tx ([], []) t).2.2 ++ (z ++ y) := by
        show (tx ((tx ([], []) t).2.1, rnm (tx ([], []) t).2.2 r) u).2.2 = _
        rw [e, ez]; simp
      refine ⟨z ++ y, e', ?_⟩
      rw [e, ez] at g
      rw [ez] at hz1
      simp only [List.length_append, List.length_nil] at g hz1 ⊢
      omega
  · rw [funL_no hc] at h; cases h

theorem typGrows_law {A B : Option Addr} {ca cb : Nat} {L K : List (List Int)} {r : List Int} (hL : Nine L) (hK : Nine K) (hr : r.length = 5) {H : Heap} (hT : Tens H) (hS : SlT H Is 9 (.slice A L.length ca) L) (hU : SlT H Is 9 (.slice B K.length cb) K) (hm : L.length ≤ 9223372036854775807) (hk : K.length ≤ 9223372036854775807) :
    Ret Tryd.prog 16 [Ty A L.length ca, Ty B K.length cb, .agg (Is r).toArray] H (fun v H' => v = .bool true ∧ Ext H H') := by
  have hr' : (Is r).length = 5 := by simp [hr]
  have hN := funL_nine hL hK hr
  have hNl := funL_len L K r
  have hV := varsT_max L
  have hW := varsT_max K
  have hX := varsT_max (funL L r K).1
  refine Ret.of_at (N := 132) Tryd.call16 Tryd.func16 rfl rfl rfl ?_
  have hE := Ext.refl H
  refine At.region rfl rfl ?_
  refine Reg.op rfl rfl rfl rfl (Does.box rfl rfl) ?_
  rintro _ H0_0 ⟨rfl, hn0_0⟩
  have z0_0 := hn0_0.size
  replace hE := hE.ext hn0_0.ext
  have o0_0 := hn0_0.own
  refine Reg.op rfl rfl rfl rfl (Does.box rfl rfl) ?_
  rintro _ H0_1 ⟨rfl, hn0_1⟩
  have z0_1 := hn0_1.size
  replace hE := hE.ext hn0_1.ext
  replace o0_0 := o0_0.ext hn0_1.ext
  have o0_1 := hn0_1.own
  refine Reg.op rfl rfl rfl rfl (Does.box rfl rfl) ?_
  rintro _ H0_2 ⟨rfl, hn0_2⟩
  have z0_2 := hn0_2.size
  replace hE := hE.ext hn0_2.ext
  replace o0_0 := o0_0.ext hn0_2.ext
  replace o0_1 := o0_1.ext hn0_2.ext
  have o0_2 := hn0_2.own
  refine Reg.pur rfl rfl rfl rfl (Pur.asg rfl) ?_
  refine Reg.nil ?_
  refine At.region rfl rfl ?_
  refine Reg.op rfl rfl rfl rfl (Does.call rfl (awake7_ok (hT.ext hE))) ?_
  rintro _ H1_0 ⟨rfl, hE1_0⟩
  have z1_0 := hE1_0.lt
  replace hE := hE.ext hE1_0
  replace o0_0 := o0_0.ext hE1_0
  replace o0_1 := o0_1.ext hE1_0
  replace o0_2 := o0_2.ext hE1_0
  refine Reg.pur rfl rfl rfl rfl (Pur.not rfl) ?_
  refine Reg.nil ?_
  refine At.condF rfl rfl (rfl) ?_
  refine At.region rfl rfl ?_
  refine Reg.lod rfl rfl rfl rfl (Lod.ldn ag55 rfl o0_0.blk (whole rfl) rfl) ?_
  refine Reg.lod rfl rfl rfl rfl (Lod.ldn ag24 rfl o0_2.blk (whole hr') hr') ?_
  refine Reg.lod rfl rfl rfl rfl (Lod.ldn ag55 rfl o0_1.blk (whole rfl) rfl) ?_
  refine Reg.op rfl rfl rfl rfl (Does.call rfl (funP_ok hL hK hr (hS.ext hE) (hU.ext hE) (by omega) (by omega))) ?_
  rintro v3_3 H3_3 ⟨A3, cap3, rfl, hg3, hE3_3⟩
  have z3_3 := hE3_3.lt
  replace hE := hE.ext hE3_3
  replace o0_0 := o0_0.ext hE3_3
  replace o0_1 := o0_1.ext hE3_3
  replace o0_2 := o0_2.ext hE3_3
  have z_hg3 := hg3.lt
  refine Reg.pur rfl rfl rfl rfl (Pur.mv rfl) ?_
  refine Reg.pur rfl rfl rfl rfl (Pur.ext rfl rfl) ?_
  refine Reg.pur rfl rfl rfl rfl (Pur.ext rfl rfl) ?_
  refine Reg.op rfl rfl rfl rfl (Does.alloc zc55) ?_
  rintro _ H3_7 ⟨rfl, hn3_7⟩
  have z3_7 := hn3_7.size
  replace hE := hE.ext hn3_7.ext
  replace o0_0 := o0_0.ext hn3_7.ext
  replace o0_1 := o0_1.ext hn3_7.ext
  replace o0_2 := o0_2.ext hn3_7.ext
  replace hg3 := hg3.ext hn3_7.ext
  have o3_7 := hn3_7.own
  refine Reg.op0 rfl rfl rfl (Does.stn ag55 rfl rfl (by first | rfl | exact ones_Is _) (by first | rfl | (simp [*]; done)) o3_7 (by first | decide | (simp; done) | (simp; omega) | omega)) ?_
  rintro _ H3_8 hu3_8
  have z3_8 := hu3_8.size
  replace hE := hE.upw hu3_8 (by omega)
  replace o0_0 := o0_0.upw hu3_8 (by omega)
  replace o0_1 := o0_1.upw hu3_8 (by omega)
  replace o0_2 := o0_2.upw hu3_8 (by omega)
  replace hg3 := hg3.upw hu3_8 (by omega)
  replace o3_7 := hu3_8.own
  first | rw [over (by first | rfl | (simp; done))] at o3_7 | skip
  refine Reg.pur rfl rfl rfl rfl (Pur.asg rfl) ?_
  refine Reg.nil ?_
  refine At.region rfl rfl ?_
  refine Reg.pur rfl rfl rfl rfl (Pur.mv rfl) ?_
  refine Reg.op rfl rfl rfl rfl (Does.call rfl (numE_ok _ _)) ?_
  rintro _ H3_8 ⟨rfl, rfl⟩
  refine Reg.pur rfl rfl rfl rfl (Pur.neq rfl rfl) ?_
  refine Reg.nil ?_
  refine At.cond rfl rfl (fun q29 => ?_) (fun q29 => ?_)
  · first | (simp only [decide_eq_true_eq, decide_eq_false_iff_not, Bool.not_eq_true', Bool.not_eq_false', ne_eq, Decidable.not_not, Bool.not_eq_true, Bool.not_eq_false] at q29) | (dsimp only at q29) | skip
    refine At.region rfl rfl ?_
    refine Reg.pur rfl rfl rfl rfl (Pur.fld _ fo55_0 rfl) ?_
    refine Reg.lod rfl rfl rfl rfl (Lod.ld sc53 rfl o3_7.blk rfl) ?_
    refine Reg.pur rfl rfl rfl rfl (Pur.lenS isl53 rfl) ?_
    refine Reg.pur rfl rfl rfl rfl (Pur.eql rfl rfl) ?_
    refine Reg.pur rfl rfl rfl rfl (Pur.asg rfl) ?_
    refine Reg.nil ?_
    refine At.ret rfl Tryd.func16 rfl ?_
    refine ⟨?_, hE⟩
    have hno : (funL L r K).1 = [] := by unfold funL at q29 ⊢; split at q29; exact absurd rfl q29; rw [if_neg (by assumption)]
    rw [hno]; rfl
  first | (simp only [decide_eq_true_eq, decide_eq_false_iff_not, Bool.not_eq_true', Bool.not_eq_false', ne_eq, Decidable.not_not, Bool.not_eq_true, Bool.not_eq_false] at q29) | (dsimp only at q29) | skip
  obtain ⟨g1, g2, g3, g4, g5, g6, ⟨x, ex, lx⟩, y, ey, ly⟩ := grows hL hK hr q29
  refine At.region rfl rfl ?_
  refine Reg.lod rfl rfl rfl rfl (Lod.ldn ag55 rfl o0_0.blk (whole rfl) rfl) ?_
  refine Reg.op rfl rfl rfl rfl (Does.call rfl (typVars_ok hL (hS.ext hE) (by omega))) ?_
  rintro v6_1 H6_1 ⟨hE6_1, Aa, c1, Ab, c2, rfl, hga, hgb⟩
  have z6_1 := hE6_1.lt
  replace hE := hE.ext hE6_1
  replace o0_0 := o0_0.ext hE6_1
  replace o0_1 := o0_1.ext hE6_1
  replace o0_2 := o0_2.ext hE6_1
  replace hg3 := hg3.ext hE6_1
  replace o3_7 := o3_7.ext hE6_1
  have z_hga := hga.lt
  have z_hgb := hgb.lt
  refine Reg.pur rfl rfl rfl rfl (Pur.mv rfl) ?_
  refine Reg.pur rfl rfl rfl rfl (Pur.ext rfl rfl) ?_
  refine Reg.pur rfl rfl rfl rfl (Pur.ext rfl rfl) ?_
  refine Reg.pur rfl rfl rfl rfl (Pur.ext rfl rfl) ?_
  refine Reg.pur rfl rfl rfl rfl (Pur.asg rfl) ?_
  refine Reg.pur rfl rfl rfl rfl (Pur.asg rfl) ?_
  refine Reg.pur rfl rfl rfl rfl (Pur.asg rfl) ?_
  refine Reg.nil ?_
  refine At.region rfl rfl ?_
  refine Reg.lod rfl rfl rfl rfl (Lod.ldn ag55 rfl o0_1.blk (whole rfl) rfl) ?_
  refine Reg.op rfl rfl rfl rfl (Does.call rfl (typVars_ok hK (hU.ext hE) (by omega))) ?_
  rintro v7_1 H7_1 ⟨hE7_1, Ac, c3, Ad, c4, rfl, hgc, hgd⟩
  have z7_1 := hE7_1.lt
  replace hE := hE.ext hE7_1
  replace o0_0 := o0_0.ext hE7_1
  replace o0_1 := o0_1.ext hE7_1
  replace o0_2 := o0_2.ext hE7_1
  replace hg3 := hg3.ext hE7_1
  replace o3_7 := o3_7.ext hE7_1
  replace hga := hga.ext hE7_1
  replace hgb := hgb.ext hE7_1
  refine Reg.pur rfl rfl rfl rfl (Pur.mv rfl) ?_
  refine Reg.pur rfl rfl rfl rfl (Pur.ext rfl rfl) ?_
  refine Reg.pur rfl rfl rfl rfl (Pur.ext rfl rfl) ?_
  refine Reg.pur rfl rfl rfl rfl (Pur.ext rfl rfl) ?_
  refine Reg.pur rfl rfl rfl rfl (Pur.asg rfl) ?_
  refine Reg.pur rfl rfl rfl rfl (Pur.asg rfl) ?_
  refine Reg.pur rfl rfl rfl rfl (Pur.asg rfl) ?_
  refine Reg.nil ?_
  refine At.region rfl rfl ?_
  refine Reg.lod rfl rfl rfl rfl (Lod.ldn ag55 rfl o3_7.blk (whole rfl) rfl) ?_
  refine Reg.op rfl rfl rfl rfl (Does.call rfl (typVars_ok hN (own_sl (wide9 hN) (by decide) hg3) (by omega))) ?_
  rintro v8_1 H8_1 ⟨hE8_1, Ae, c5, Af, c6, rfl, hge, hgf⟩
  have z8_1 := hE8_1.lt
  replace hE := hE.ext hE8_1
  replace o0_0 := o0_0.ext hE8_1
  replace o0_1 := o0_1.ext hE8_1
  replace o0_2 := o0_2.ext hE8_1
  replace hg3 := hg3.ext hE8_1
  replace o3_7 := o3_7.ext hE8_1
  replace hga := hga.ext hE8_1
  replace hgb := hgb.ext hE8_1
  have z_hge := hge.lt
  have z_hgf := hgf.lt
  refine Reg.pur rfl rfl rfl rfl (Pur.mv rfl) ?_
  refine Reg.pur rfl rfl rfl rfl (Pur.ext rfl rfl) ?_
  refine Reg.pur rfl rfl rfl rfl (Pur.ext rfl rfl) ?_
  refine Reg.pur rfl rfl rfl rfl (Pur.ext rfl rfl) ?_
  refine Reg.pur rfl rfl rfl rfl (Pur.asg rfl) ?_
  refine Reg.pur rfl rfl rfl rfl (Pur.asg rfl) ?_
  refine Reg.pur rfl rfl rfl rfl (Pur.asg rfl) ?_
  refine Reg.nil ?_
  rw [g1, g2, g3]
  have hce : (varsT (funL L r K).1).1.length ≤ c5 := by obtain ⟨_, _, e', hle, _⟩ := own_sl (wide1 (varsT (funL L r K).1).1) (by decide) hge; cases e'; exact hle
  have hcf : (varsT (funL L r K).1).2.length ≤ c6 := by obtain ⟨_, _, e', hle, _⟩ := own_sl (wide1 (varsT (funL L r K).1).2) (by decide) hgf; cases e'; exact hle
  have lx1 := congrArg List.length ex
  have ly1 := congrArg List.length ey
  rw [List.length_append] at lx1 ly1
  refine At.region rfl rfl ?_
  refine Reg.pur rfl rfl rfl rfl (Pur.mv rfl) ?_
  refine Reg.op rfl rfl rfl rfl (Does.call rfl (numE_ok _ _)) ?_
  rintro _ H8_1 ⟨rfl, rfl⟩
  refine Reg.pur rfl rfl rfl rfl (Pur.neq rfl rfl) ?_
  refine Reg.pur rfl rfl rfl rfl (Pur.mv rfl) ?_
  refine Reg.known (b' := false) 55 rfl (by rfl) ?_
  refine Reg.gpur rfl rfl rfl rfl rfl rfl (Pur.mv rfl) ?_
  refine Reg.gop rfl rfl rfl rfl rfl rfl (Does.call rfl (numE_ok _ _)) ?_
  rintro _ H8_1 ⟨rfl, rfl⟩
  refine Reg.gpur rfl rfl rfl rfl rfl rfl (Pur.neq rfl rfl) ?_
  refine Reg.pur rfl rfl rfl rfl (Pur.pickF rfl rfl) ?_
  refine Reg.pur rfl rfl rfl rfl (Pur.mv rfl) ?_
  refine Reg.known (b' := false) 60 rfl (by rfl) ?_
  refine Reg.gpur rfl rfl rfl rfl rfl rfl (Pur.mv rfl) ?_
  refine Reg.gop rfl rfl rfl rfl rfl rfl (Does.call rfl (numE_ok _ _)) ?_
  rintro _ H8_1 ⟨rfl, rfl⟩
  refine Reg.gpur rfl rfl rfl rfl rfl rfl (Pur.neq rfl rfl) ?_
  refine Reg.pur rfl rfl rfl rfl (Pur.pickF rfl rfl) ?_
  refine Reg.pur rfl rfl rfl rfl (Pur.mv rfl) ?_
  refine Reg.known (b' := false) 65 rfl (by rfl) ?_
  refine Reg.gpur rfl rfl rfl rfl rfl rfl (Pur.fld _ fo55_0 rfl) ?_
  refine Reg.glod rfl rfl rfl rfl rfl rfl (Lod.ld sc53 rfl o3_7.blk rfl) ?_
  refine Reg.gpur rfl rfl rfl rfl rfl rfl (Pur.lenS isl53 rfl) ?_
  refine Reg.gpur rfl rfl rfl rfl rfl rfl (Pur.fld _ fo55_0 rfl) ?_
  refine Reg.glod rfl rfl rfl rfl rfl rfl (Lod.ld sc53 rfl o0_0.blk rfl) ?_
  refine Reg.gpur rfl rfl rfl rfl rfl rfl (Pur.lenS isl53 rfl) ?_
  refine Reg.gpur rfl rfl rfl rfl rfl rfl (Pur.fld _ fo55_0 rfl) ?_
  refine Reg.glod rfl rfl rfl rfl rfl rfl (Lod.ld sc53 rfl o0_1.blk rfl) ?_
  refine Reg.gpur rfl rfl rfl rfl rfl rfl (Pur.lenS isl53 rfl) ?_
  refine Reg.gpur rfl rfl rfl rfl rfl rfl (Pur.add64 rfl rfl (by omega)) ?_
  refine Reg.gpur rfl rfl rfl rfl rfl rfl (Pur.add64 rfl rfl (by omega)) ?_
  refine Reg.gpur rfl rfl rfl rfl rfl rfl (Pur.neq rfl rfl) ?_
  refine Reg.pur rfl rfl rfl rfl (Pur.pickF rfl rfl) ?_
  refine Reg.pur rfl rfl rfl rfl (Pur.mv rfl) ?_
  refine Reg.known (b' := false) 79 rfl (by first | (simp only [decide_eq_false_iff_not, ne_eq, Decidable.not_not, bne_iff_ne]; omega) | (rw [g4]; simp)) ?_
  refine Reg.gpur rfl rfl rfl rfl rfl rfl (Pur.mv rfl) ?_
  refine Reg.gpur rfl rfl rfl rfl rfl rfl (Pur.lenS isl50 rfl) ?_
  refine Reg.gpur rfl rfl rfl rfl rfl rfl (Pur.mv rfl) ?_
  refine Reg.gpur rfl rfl rfl rfl rfl rfl (Pur.lenS isl50 rfl) ?_
  refine Reg.gpur rfl rfl rfl rfl rfl rfl (Pur.lss rfl rfl) ?_
  refine Reg.pur rfl rfl rfl rfl (Pur.pickF rfl rfl) ?_
  refine Reg.pur rfl rfl rfl rfl (Pur.mv rfl) ?_
  refine Reg.known (b' := false) 86 rfl (decide_eq_false (by omega)) ?_
  refine Reg.gpur rfl rfl rfl rfl rfl rfl (Pur.mv rfl) ?_
  refine Reg.gpur rfl rfl rfl rfl rfl rfl (Pur.lenS isl50 rfl) ?_
  refine Reg.gpur rfl rfl rfl rfl rfl rfl (Pur.mv rfl) ?_
  refine Reg.gpur rfl rfl rfl rfl rfl rfl (Pur.lenS isl50 rfl) ?_
  refine Reg.gpur rfl rfl rfl rfl rfl rfl (Pur.lss rfl rfl) ?_
  refine Reg.pur rfl rfl rfl rfl (Pur.pickF rfl rfl) ?_
  refine Reg.nil ?_
  refine At.condF rfl rfl (decide_eq_false (by omega)) ?_
  have hsx : SlT H8_1 e1 1 (.slice Ae (varsT L).1.length c5) (varsT L).1 := by have h0 := take_sl (i := (varsT L).1.length) (own_sl (wide1 _) (by decide) hge) (by omega); rwa [ex, List.take_left] at h0
  have hsy : SlT H8_1 e1 1 (.slice Af (varsT L).2.length c6) (varsT L).2 := by have h0 := take_sl (i := (varsT L).2.length) (own_sl (wide1 _) (by decide) hgf) (by omega); rwa [ey, List.take_left] at h0
  refine At.region rfl rfl ?_
  refine Reg.pur rfl rfl rfl rfl (Pur.mv rfl) ?_
  refine Reg.pur rfl rfl rfl rfl (Pur.mv rfl) ?_
  refine Reg.pur rfl rfl rfl rfl (Pur.lenS isl50 rfl) ?_
  refine Reg.pur rfl rfl rfl rfl (Pur.cutH es50 rfl rfl (by omega) (by omega)) ?_
  refine Reg.pur rfl rfl rfl rfl (Pur.mv rfl) ?_
  refine Reg.op rfl rfl rfl rfl (Does.call rfl (sameI_ok _ _ hsx (own_sl (wide1 _) (by decide) hga) (by omega))) ?_
  rintro _ H8_1 ⟨rfl, rfl⟩
  refine Reg.pur rfl rfl rfl rfl (Pur.mv rfl) ?_
  refine Reg.known (b' := true) 99 rfl (by first | rfl | simp) ?_
  refine Reg.gpur rfl rfl rfl rfl rfl rfl (Pur.mv rfl) ?_
  refine Reg.gpur rfl rfl rfl rfl rfl rfl (Pur.mv rfl) ?_
  refine Reg.gpur rfl rfl rfl rfl rfl rfl (Pur.lenS isl50 rfl) ?_
  refine Reg.gpur rfl rfl rfl rfl rfl rfl (Pur.cutH es50 rfl rfl (by omega) (by omega)) ?_
  refine Reg.gpur rfl rfl rfl rfl rfl rfl (Pur.mv rfl) ?_
  refine Reg.gop rfl rfl rfl rfl rfl rfl (Does.call rfl (sameI_ok _ _ hsy (own_sl (wide1 _) (by decide) hgb) (by omega))) ?_
  rintro _ H8_1 ⟨rfl, rfl⟩
  refine Reg.pur rfl rfl rfl rfl (Pur.pickT rfl rfl) ?_
  refine Reg.pur rfl rfl rfl rfl (Pur.mv rfl) ?_
  refine Reg.known (b' := true) 107 rfl (by first | rfl | simp) ?_
  refine Reg.gpur rfl rfl rfl rfl rfl rfl (Pur.mv rfl) ?_
  refine Reg.gpur rfl rfl rfl rfl rfl rfl (Pur.lenS isl50 rfl) ?_
  refine Reg.gpur rfl rfl rfl rfl rfl rfl (Pur.mv rfl) ?_
  refine Reg.gpur rfl rfl rfl rfl rfl rfl (Pur.lenS isl50 rfl) ?_
  refine Reg.gpur rfl rfl rfl rfl rfl rfl (Pur.mv rfl) ?_
  refine Reg.gpur rfl rfl rfl rfl rfl rfl (Pur.lenS isl50 rfl) ?_
  refine Reg.gpur rfl rfl rfl rfl rfl rfl (Pur.add64 rfl rfl (by omega)) ?_
  refine Reg.gpur rfl rfl rfl rfl rfl rfl (Pur.leq rfl rfl) ?_
  refine Reg.pur rfl rfl rfl rfl (Pur.pickT rfl rfl) ?_
  refine Reg.pur rfl rfl rfl rfl (Pur.mv rfl) ?_
  refine Reg.known (b' := true) 117 rfl (decide_eq_true (by omega)) ?_
  refine Reg.gpur rfl rfl rfl rfl rfl rfl (Pur.mv rfl) ?_
  refine Reg.gpur rfl rfl rfl rfl rfl rfl (Pur.lenS isl50 rfl) ?_
  refine Reg.gpur rfl rfl rfl rfl rfl rfl (Pur.mv rfl) ?_
  refine Reg.gpur rfl rfl rfl rfl rfl rfl (Pur.lenS isl50 rfl) ?_
  refine Reg.gpur rfl rfl rfl rfl rfl rfl (Pur.mv rfl) ?_
  refine Reg.gpur rfl rfl rfl rfl rfl rfl (Pur.lenS isl50 rfl) ?_
  refine Reg.gpur rfl rfl rfl rfl rfl rfl (Pur.add64 rfl rfl (by omega)) ?_
  refine Reg.gpur rfl rfl rfl rfl rfl rfl (Pur.add64 rfl rfl (by omega)) ?_
  refine Reg.gpur rfl rfl rfl rfl rfl rfl (Pur.leq rfl rfl) ?_
  refine Reg.pur rfl rfl rfl rfl (Pur.pickT rfl rfl) ?_
  refine Reg.pur rfl rfl rfl rfl (Pur.mv rfl) ?_
  refine Reg.known (b' := true) 128 rfl (decide_eq_true (by omega)) ?_
  refine Reg.glod rfl rfl rfl rfl rfl rfl (Lod.ldn ag55 rfl o3_7.blk (whole rfl) rfl) ?_
  refine Reg.gop rfl rfl rfl rfl rfl rfl (Does.call rfl (typMay_ok _ hN (own_sl (wide9 hN) (by decide) hg3) (by omega))) ?_
  rintro _ H11_37 ⟨rfl, hE11_37⟩
  have z11_37 := hE11_37.lt
  replace hE := hE.ext hE11_37
  replace o0_0 := o0_0.ext hE11_37
  replace o0_1 := o0_1.ext hE11_37
  replace o0_2 := o0_2.ext hE11_37
  replace hg3 := hg3.ext hE11_37
  replace o3_7 := o3_7.ext hE11_37
  replace hga := hga.ext hE11_37
  replace hgb := hgb.ext hE11_37
  replace hge := hge.ext hE11_37
  replace hgf := hgf.ext hE11_37
  refine Reg.pur rfl rfl rfl rfl (Pur.pickT rfl rfl) ?_
  refine Reg.pur rfl rfl rfl rfl (Pur.asg rfl) ?_
  refine Reg.nil ?_
  refine At.ret rfl Tryd.func16 rfl ?_
  exact ⟨by rw [g3], hE⟩
end Go.Proofs.YtlfillhffpiffaaDoor

