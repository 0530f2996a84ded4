/-
  Chapter 21: Run.
-/
import Derived.Test.YtjhkmebmbopfoaaMacK
namespace Go.Proofs.Ytjhkmebmbopfoaa
set_option linter.unusedSimpArgs false
set_option linter.unusedVariables false
set_option maxRecDepth 8000
set_option maxHeartbeats 2000000
open Go Go.Fx Go.Proofs
namespace FactsMacL
theorem ag25 : ag Try.prog 25 = some 2 := by kernel_rfl
theorem fo51_1 : foff Try.prog 51 1 = some 1 := by kernel_rfl
theorem fo51_4 : foff Try.prog 51 4 = some 4 := by kernel_rfl
theorem fo51_5 : foff Try.prog 51 5 = some 5 := by kernel_rfl
theorem isPt48 : isPt Try.prog 48 = true := by kernel_rfl
theorem isPt49 : isPt Try.prog 49 = true := by kernel_rfl
theorem isl22 : isSl Try.prog 22 = true := by kernel_rfl
theorem isl46 : isSl Try.prog 46 = true := by kernel_rfl
theorem pl25 : places Try.prog 25 = some [(0, 1), (1, 1)] := by kernel_rfl
theorem pl51 : places Try.prog 51 = some [(0, 1), (1, 1), (2, 1), (3, 1), (4, 1), (5, 1)] := by kernel_rfl
theorem sc46 : sc Try.prog 46 = true := by kernel_rfl
theorem sc48 : sc Try.prog 48 = true := by kernel_rfl
theorem sc49 : sc Try.prog 49 = true := by kernel_rfl
theorem zc25 : zc Try.prog 25 = some [.int .i64 0, .int .i64 0] := by kernel_rfl
theorem zc51 : zc Try.prog 51 = some [.slice none 0 0, .slice none 0 0, .int .i64 0, .pointer none, .pointer none, .pointer none] := by kernel_rfl
end FactsMacL
open FactsMacL

theorem Lo.toExt {B : Nat} {X Y : Heap} (h : Lo B X Y) (hb : X.size ≤ B) : Ext X Y := h.but.ext fun b hb' hh => by omega
/-- the machine, wherever it is -/
def AtO (L : List (List Int)) (N : Value) (m B : Nat) (H : Heap) (ou : Ou) : Prop :=
  ∃ G fr A cap nd pe pv pd, Ms L N m B G H.size H fr A cap nd pe pv pd ∧ Shape G H fr nd pe pv pd ou
def Ou.res (L : List (List Int)) (f k : Nat) : Ou → (Int × Int) × Nat
  | .go s => runM L f k s
  | .fin a b => ((a, b), k)
theorem shape_end {G : Gh} {H : Heap} {fr : List Fr} {nd : Int} {pe pv pd : Value} {ou : Ou} (h : Shape G H fr nd pe pv pd ou) :
    ∃ Pd, pd = .pointer Pd ∧ (Pd.isNone = false → ∃ a n b, ou = .fin a n ∧ fr.length ≤ 4096 ∧ Pd = some ⟨b, 0, none⟩ ∧ Blk H b [I a, I n]) ∧
      (Pd.isNone = true → ∃ Pv, pv = .pointer Pv ∧ (Pv.isNone = true → ∃ node en, ou = .go (.ev fr node en) ∧ nd = node ∧ repE G en pe) ∧ (Pv.isNone = false → ∃ v, ou = .go (.gv fr v) ∧ repP G v (.pointer Pv))) := by
  match ou, h with
  | .go (.ev fr' node env), h => obtain ⟨rfl, h2, h3, rfl, rfl⟩ := h; exact ⟨none, rfl, (fun h => by cases h), fun _ => ⟨none, rfl, fun _ => ⟨_, _, rfl, h2, h3⟩, fun h => by cases h⟩⟩
  | .go (.gv fr' v), h =>
    obtain ⟨rfl, h2, rfl⟩ := h
    obtain ⟨b, d, rfl, h3⟩ := h2
    exact ⟨none, rfl, (fun h => by cases h), fun _ => ⟨_, rfl, (fun h => by cases h), fun _ => ⟨_, rfl, b, d, rfl, h3⟩⟩⟩
  | .fin k n, h => obtain ⟨h1, b, rfl, h2⟩ := h; exact ⟨_, rfl, fun _ => ⟨_, _, b, rfl, h1, rfl, h2⟩, fun h => by cases h⟩
theorem go_fr {G : Gh} {H : Heap} {fr : List Fr} {nd : Int} {pe pv pd : Value} {s : St} (h : Shape G H fr nd pe pv pd (.go s)) : s.frs = fr := by
  match s, h with
  | .ev fr' node env, h => exact h.1.symm
  | .gv fr' v, h => exact h.1.symm
theorem res_stop {L : List (List Int)} {G : Gh} {H : Heap} {fr : List Fr} {nd : Int} {pe pv pd : Value} {ou : Ou} {f k : Nat} (h : Shape G H fr nd pe pv pd ou) (hl : 4096 < fr.length) : ou.res L f k = ((4, 0), k) := by
  match ou, h with
  | .go s, h => exact runM_stop (by rw [go_fr h]; exact hl)
  | .fin a n, ⟨h1, _⟩ => omega
theorem sta_of {L : List (List Int)} {N : Value} {m B : Nat} {G : Gh} {H : Heap} {fr : List Fr} {A : Option Addr} {cap : Nat} {nd : Int} {pe pv pd : Value} {s : St} (hM : Ms L N m B G H.size H fr A cap nd pe pv pd) (h : Shape G H fr nd pe pv pd (.go s)) : Sta L N m B H s := by
  match s, h with
  | .ev fr' node env, h => obtain ⟨rfl, rfl, h3, rfl, rfl⟩ := h; exact ⟨_, _, _, _, _, hM, h3, rfl⟩
  | .gv fr' v, h => obtain ⟨rfl, h2, rfl⟩ := h; exact ⟨_, _, _, _, _, _, hM, h2⟩
/-- what is returned -/
abbrev runV (o : (Int × Int) × Nat) (e : Int) : Value := .tuple #[.agg (Is [o.1.1, o.1.2]).toArray, I o.2, I e]
theorem runS_no {L : List (List Int)} {fuel : Int} (h : ¬ (mayS L = true ∧ 0 ≤ fuel ∧ fuel ≤ 1048576)) : runS L fuel = ((0, 0), 0, 2100) := if_neg h
theorem runS_yes {L : List (List Int)} {fuel : Int} (h : mayS L = true ∧ 0 ≤ fuel ∧ fuel ≤ 1048576) : runS L fuel = ((runM L fuel.toNat 0 (.ev [] ((L.length : Int) - 1) .nil)).1, (((runM L fuel.toNat 0 (.ev [] ((L.length : Int) - 1) .nil)).2 : Nat) : Int), 0) := if_pos h
theorem runP_ok {A : Option Addr} {cap : Nat} (L : List (List Int)) (hL : ∀ x ∈ L, x.length = 9) {H : Heap} (hS : SlT H Is 9 (.slice A L.length cap) L) (hm : L.length ≤ 9223372036854775807) (fuel : Int) (hfu : -9223372036854775808 ≤ fuel ∧ fuel ≤ 9223372036854775807) :
    Ret Try.prog 8 [.slice A L.length cap, I fuel] H (fun v H' => v = .tuple #[.agg (Is [(runS L fuel).1.1, (runS L fuel).1.2]).toArray, I (runS L fuel).2.1, I (runS L fuel).2.2] ∧ Ext H H') := by
  refine Ret.of_at (N := 79) Try.call8 Try.func8 rfl rfl rfl ?_
  have hE := Ext.refl H
  have zS := hS.lt
  have z_hE := hE.lt
  have z_hS := hS.lt
  refine At.region rfl rfl ?_
  refine Reg.op rfl rfl rfl rfl (Does.alloc zc25) ?_
  rintro _ H0_0 ⟨rfl, hn0_0⟩
  have z0_0 := hn0_0.size
  replace hE := hE.ext hn0_0.ext
  replace hS := hS.ext hn0_0.ext
  have o0_0 := hn0_0.own
  refine Reg.pur rfl rfl rfl rfl (Pur.asg rfl) ?_
  refine Reg.pur rfl rfl rfl rfl (Pur.asg rfl) ?_
  refine Reg.nil ?_
  refine At.region rfl rfl ?_
  refine Reg.pur rfl rfl rfl rfl (Pur.mv rfl) ?_
  refine Reg.op rfl rfl rfl rfl (Does.call rfl (mayP_ok L hL hS hm)) ?_
  rintro _ H1_1 ⟨rfl, hE1_1⟩
  have z1_1 := hE1_1.lt
  replace hE := hE.ext hE1_1
  replace hS := hS.ext hE1_1
  replace o0_0 := o0_0.ext hE1_1
  refine Reg.pur rfl rfl rfl rfl (Pur.not rfl) ?_
  refine Reg.pur rfl rfl rfl rfl (Pur.mv rfl) ?_
  refine Reg.case 12 rfl (fun q12 => ?_) (fun q12 => ?_)
  · first | (simp only [decide_eq_true_eq, decide_eq_false_iff_not, Bool.not_eq_true', Bool.not_eq_false', ne_eq, Decidable.not_not, Bool.not_eq_true, Bool.not_eq_false] at q12) | (dsimp only at q12) | skip
    refine Reg.skip rfl rfl rfl rfl rfl rfl rfl ?_
    refine Reg.skip rfl rfl rfl rfl rfl rfl rfl ?_
    refine Reg.pur rfl rfl rfl rfl (Pur.pickT rfl rfl) ?_
    refine Reg.pur rfl rfl rfl rfl (Pur.mv rfl) ?_
    refine Reg.skip rfl rfl rfl rfl rfl rfl rfl ?_
    refine Reg.skip rfl rfl rfl rfl rfl rfl rfl ?_
    refine Reg.pur rfl rfl rfl rfl (Pur.pickT rfl rfl) ?_
    refine Reg.nil ?_
    refine At.condT rfl rfl rfl ?_
    have hno : ¬ (mayS L = true ∧ 0 ≤ fuel ∧ fuel ≤ 1048576) := by first | (simp_all; done) | (simp_all; omega)
    refine At.region rfl rfl ?_
    refine Reg.pur rfl rfl rfl rfl (Pur.bld (cs := [_, _]) pl25 zc25 rfl rfl ⟨rfl, rfl, rfl⟩) ?_
    refine Reg.op0 rfl rfl rfl (Does.stn ag25 rfl rfl (by first | rfl | exact ones_Is _) (by first | rfl | (simp [*]; done)) o0_0 (by first | decide | (simp; done) | (simp; omega) | omega)) ?_
    rintro _ H2_1 hu2_1
    have z2_1 := hu2_1.size
    replace hE := hE.upw hu2_1 (by omega)
    replace hS := hS.upw hu2_1 (by omega)
    replace o0_0 := hu2_1.own
    first | rw [over (by first | rfl | (simp; done))] at o0_0 | skip
    refine Reg.pur rfl rfl rfl rfl (Pur.asg rfl) ?_
    refine Reg.pur rfl rfl rfl rfl (Pur.asg rfl) ?_
    refine Reg.nil ?_
    refine At.retC rfl Try.func8 ⟨_, _, _, _, rfl, rfl, ⟨_, o0_0.blk, .inr ⟨_, _, ag25, (by first | exact whole rfl | exact whole (by simp [*])), (by first | rfl | simp [*]), rfl⟩⟩, ⟨_, _, rfl, rfl, ⟨_, _, rfl, rfl, rfl⟩⟩⟩ ?_
    rw [runS_no hno]
    exact ⟨rfl, hE⟩
  first | (simp only [decide_eq_true_eq, decide_eq_false_iff_not, Bool.not_eq_true', Bool.not_eq_false', ne_eq, Decidable.not_not, Bool.not_eq_true, Bool.not_eq_false] at q12) | (dsimp only at q12) | skip
  refine Reg.gpur rfl rfl rfl rfl rfl rfl (Pur.mv rfl) ?_
  refine Reg.gpur rfl rfl rfl rfl rfl rfl (Pur.lss rfl rfl) ?_
  refine Reg.pur rfl rfl rfl rfl (Pur.pickF rfl rfl) ?_
  refine Reg.pur rfl rfl rfl rfl (Pur.mv rfl) ?_
  refine Reg.case 16 rfl (fun q16 => ?_) (fun q16 => ?_)
  · first | (simp only [decide_eq_true_eq, decide_eq_false_iff_not, Bool.not_eq_true', Bool.not_eq_false', ne_eq, Decidable.not_not, Bool.not_eq_true, Bool.not_eq_false] at q16) | (dsimp only at q16) | skip
    refine Reg.skip rfl rfl rfl rfl rfl rfl rfl ?_
    refine Reg.skip rfl rfl rfl rfl rfl rfl rfl ?_
    refine Reg.pur rfl rfl rfl rfl (Pur.pickT rfl rfl) ?_
    refine Reg.nil ?_
    refine At.condT rfl rfl rfl ?_
    have hno : ¬ (mayS L = true ∧ 0 ≤ fuel ∧ fuel ≤ 1048576) := by first | (simp_all; done) | (simp_all; omega)
    refine At.region rfl rfl ?_
    refine Reg.pur rfl rfl rfl rfl (Pur.bld (cs := [_, _]) pl25 zc25 rfl rfl ⟨rfl, rfl, rfl⟩) ?_
    refine Reg.op0 rfl rfl rfl (Does.stn ag25 rfl rfl (by first | rfl | exact ones_Is _) (by first | rfl | (simp [*]; done)) o0_0 (by first | decide | (simp; done) | (simp; omega) | omega)) ?_
    rintro _ H2_1 hu2_1
    have z2_1 := hu2_1.size
    replace hE := hE.upw hu2_1 (by omega)
    replace hS := hS.upw hu2_1 (by omega)
    replace o0_0 := hu2_1.own
    first | rw [over (by first | rfl | (simp; done))] at o0_0 | skip
    refine Reg.pur rfl rfl rfl rfl (Pur.asg rfl) ?_
    refine Reg.pur rfl rfl rfl rfl (Pur.asg rfl) ?_
    refine Reg.nil ?_
    refine At.retC rfl Try.func8 ⟨_, _, _, _, rfl, rfl, ⟨_, o0_0.blk, .inr ⟨_, _, ag25, (by first | exact whole rfl | exact whole (by simp [*])), (by first | rfl | simp [*]), rfl⟩⟩, ⟨_, _, rfl, rfl, ⟨_, _, rfl, rfl, rfl⟩⟩⟩ ?_
    rw [runS_no hno]
    exact ⟨rfl, hE⟩
  first | (simp only [decide_eq_true_eq, decide_eq_false_iff_not, Bool.not_eq_true', Bool.not_eq_false', ne_eq, Decidable.not_not, Bool.not_eq_true, Bool.not_eq_false] at q16) | (dsimp only at q16) | skip
  refine Reg.gpur rfl rfl rfl rfl rfl rfl (Pur.mv rfl) ?_
  refine Reg.gpur rfl rfl rfl rfl rfl rfl (Pur.gtr rfl rfl) ?_
  refine Reg.pur rfl rfl rfl rfl (Pur.pickF rfl rfl) ?_
  refine Reg.nil ?_
  refine At.cond rfl rfl (fun q19 => ?_) (fun q19 => ?_)
  · first | (simp only [decide_eq_true_eq, decide_eq_false_iff_not, Bool.not_eq_true', Bool.not_eq_false', ne_eq, Decidable.not_not, Bool.not_eq_true, Bool.not_eq_false] at q19) | (dsimp only at q19) | skip
    have hno : ¬ (mayS L = true ∧ 0 ≤ fuel ∧ fuel ≤ 1048576) := by first | (simp_all; done) | (simp_all; omega)
    refine At.region rfl rfl ?_
    refine Reg.pur rfl rfl rfl rfl (Pur.bld (cs := [_, _]) pl25 zc25 rfl rfl ⟨rfl, rfl, rfl⟩) ?_
    refine Reg.op0 rfl rfl rfl (Does.stn ag25 rfl rfl (by first | rfl | exact ones_Is _) (by first | rfl | (simp [*]; done)) o0_0 (by first | decide | (simp; done) | (simp; omega) | omega)) ?_
    rintro _ H2_1 hu2_1
    have z2_1 := hu2_1.size
    replace hE := hE.upw hu2_1 (by omega)
    replace hS := hS.upw hu2_1 (by omega)
    replace o0_0 := hu2_1.own
    first | rw [over (by first | rfl | (simp; done))] at o0_0 | skip
    refine Reg.pur rfl rfl rfl rfl (Pur.asg rfl) ?_
    refine Reg.pur rfl rfl rfl rfl (Pur.asg rfl) ?_
    refine Reg.nil ?_
    refine At.retC rfl Try.func8 ⟨_, _, _, _, rfl, rfl, ⟨_, o0_0.blk, .inr ⟨_, _, ag25, (by first | exact whole rfl | exact whole (by simp [*])), (by first | rfl | simp [*]), rfl⟩⟩, ⟨_, _, rfl, rfl, ⟨_, _, rfl, rfl, rfl⟩⟩⟩ ?_
    rw [runS_no hno]
    exact ⟨rfl, hE⟩
  first | (simp only [decide_eq_true_eq, decide_eq_false_iff_not, Bool.not_eq_true', Bool.not_eq_false', ne_eq, Decidable.not_not, Bool.not_eq_true, Bool.not_eq_false] at q19) | (dsimp only at q19) | skip
  have hyes : mayS L = true ∧ 0 ≤ fuel ∧ fuel ≤ 1048576 := by simp_all
  rw [runS_yes hyes]
  have hT := tm_of hyes.1
  obtain ⟨F, rfl⟩ : ∃ F : Nat, fuel = F := ⟨fuel.toNat, by omega⟩
  simp only [Int.toNat_natCast]
  refine At.region rfl rfl ?_
  refine Reg.pur rfl rfl rfl rfl (Pur.mv rfl) ?_
  refine Reg.pur rfl rfl rfl rfl (Pur.mv rfl) ?_
  refine Reg.pur rfl rfl rfl rfl (Pur.lenS isl22 rfl) ?_
  first | refine Reg.pur rfl rfl rfl rfl (Pur.sub64 rfl rfl (by omega)) ?_ | refine Reg.pur rfl rfl rfl rfl (Pur.sub64 rfl rfl (by assumption)) ?_ | refine Reg.pur rfl rfl rfl rfl (Pur.sub rfl rfl) ?_
  refine Reg.pur rfl rfl rfl rfl (Pur.bld (cs := [_, _, _, _, _, _]) pl51 zc51 rfl rfl ⟨rfl, rfl, rfl, rfl, rfl, rfl, rfl⟩) ?_
  refine Reg.op rfl rfl rfl rfl (Does.box rfl rfl) ?_
  rintro _ H3_5 ⟨rfl, hn3_5⟩
  have z3_5 := hn3_5.size
  replace hE := hE.ext hn3_5.ext
  replace hS := hS.ext hn3_5.ext
  replace o0_0 := o0_0.ext hn3_5.ext
  have o3_5 := hn3_5.own
  refine Reg.pur rfl rfl rfl rfl (Pur.asg rfl) ?_
  refine Reg.nil ?_
  have hM0 : Ms L (.slice A L.length cap) H1_1.size H1_1.size (fun _ => none) H3_5.size H3_5 [] none 0 ((L.length : Int) - 1) nilp nilp nilp := ⟨o3_5, ⟨[], OwnS.nilG, rfl⟩, ⟨(fun b c h => by cases h), (fun b c h => by cases h), (fun b c h => by cases h), (fun b c h => by cases h), Nat.le_refl _⟩, by omega, by (rw [ob_none]; omega), by (rw [ob_none]; omega), Nat.le_refl _, hL, A, cap, rfl, hS, by omega⟩
  refine At.region rfl rfl ?_
  refine Reg.pur rfl rfl rfl rfl (Pur.asg rfl) ?_
  refine Reg.nil ?_
  refine At.loop (σ := Nat × Ou) (fun x => [(8, I x.1), (7, ptr H1_1.size 0), (1, I F), (4, ptr H.size 0)]) (fun x H' => x.1 ≤ F ∧ AtO L (.slice A L.length cap) H1_1.size H1_1.size H' x.2 ∧ x.2.ok L ∧ x.2.res L (F - x.1) x.1 = runM L F 0 (.ev [] ((L.length : Int) - 1) .nil) ∧ Own H' H.size [I 0, I 0] ∧ Ext H H') (fun x => 2 * (F - x.1) + (match x.2 with | .go _ => 1 | .fin _ _ => 0)) (0, .go (.ev [] ((L.length : Int) - 1) .nil)) rfl ⟨rfl, rfl, rfl, rfl, trivial⟩ ⟨Nat.zero_le _, ⟨_, [], none, 0, _, nilp, nilp, nilp, hM0, rfl, rfl, by simp only [repE], rfl, rfl⟩, ⟨(fun f hf => by cases hf), ⟨by have := hT.n1; omega, by omega⟩, by simp only [T.isE]⟩, rfl, o0_0, hE⟩ ?_
  clear hM0 o0_0 o3_5 hE hS
  rintro ⟨k, ou⟩ H2 ⟨hk, ⟨G, fr, Af, capf, nd, pe, pv, pd, hM, hSh⟩, hok, hres, o0_0, hE⟩ ih
  dsimp only at hk hok hres ih hSh ⊢
  obtain ⟨Pd, rfl, hPd1, hPd2⟩ := shape_end hSh
  have zM := hM.lt
  have z_hE := hE.lt
  have z_hM := hM.lt
  have z_o0_0 := o0_0.lt
  refine At.region rfl rfl ?_
  refine Reg.pur rfl rfl rfl rfl (Pur.mv rfl) ?_
  refine Reg.pur rfl rfl rfl rfl (Pur.nilc rfl) ?_
  refine Reg.pur rfl rfl rfl rfl (Pur.fld _ fo51_1 rfl) ?_
  refine Reg.lod rfl rfl rfl rfl (Lod.ld sc46 rfl hM.own.blk rfl) ?_
  refine Reg.pur rfl rfl rfl rfl (Pur.lenS isl46 rfl) ?_
  refine Reg.pur rfl rfl rfl rfl (Pur.gtr rfl rfl) ?_
  refine Reg.pur rfl rfl rfl rfl (Pur.asg rfl) ?_
  refine Reg.nil ?_
  refine At.cond rfl rfl (fun q29 => ?_) (fun q29 => ?_)
  · first | (simp only [decide_eq_true_eq, decide_eq_false_iff_not, Bool.not_eq_true', Bool.not_eq_false', ne_eq, Decidable.not_not, Bool.not_eq_true, Bool.not_eq_false] at q29) | (dsimp only at q29) | skip
    refine At.region rfl rfl ?_
    refine Reg.pur rfl rfl rfl rfl (Pur.bld (cs := [_, _]) pl25 zc25 rfl rfl ⟨rfl, rfl, rfl⟩) ?_
    refine Reg.pur rfl rfl rfl rfl (Pur.mv rfl) ?_

    refine Reg.op0 rfl rfl rfl (Does.stn ag25 rfl rfl (by first | rfl | exact ones_Is _) (by first | rfl | (simp [*]; done)) o0_0 (by first | decide | (simp; done) | (simp; omega) | omega)) ?_
    rintro _ H7_2 hu7_2
    have z7_2 := hu7_2.size
    replace hE := hE.upw hu7_2 (by omega)
    replace o0_0 := hu7_2.own
    first | rw [over (by first | rfl | (simp; done))] at o0_0 | skip
    refine Reg.pur rfl rfl rfl rfl (Pur.asg rfl) ?_
    refine Reg.pur rfl rfl rfl rfl (Pur.asg rfl) ?_
    refine Reg.nil ?_
    refine At.retC rfl Try.func8 ⟨_, _, _, _, rfl, rfl, ⟨_, o0_0.blk, .inr ⟨_, _, ag25, (by first | exact whole rfl | exact whole (by simp [*])), (by first | rfl | simp [*]), rfl⟩⟩, ⟨_, _, rfl, rfl, ⟨_, _, rfl, rfl, rfl⟩⟩⟩ ?_
    rw [← hres, res_stop hSh (by omega)]
    exact ⟨rfl, hE⟩
  first | (simp only [decide_eq_true_eq, decide_eq_false_iff_not, Bool.not_eq_true', Bool.not_eq_false', ne_eq, Decidable.not_not, Bool.not_eq_true, Bool.not_eq_false] at q29) | (dsimp only at q29) | skip
  refine At.region rfl rfl ?_
  refine Reg.pur rfl rfl rfl rfl (Pur.mv rfl) ?_
  refine Reg.pur rfl rfl rfl rfl (Pur.nilc rfl) ?_
  refine Reg.pur rfl rfl rfl rfl (Pur.fld _ fo51_5 rfl) ?_
  refine Reg.lod rfl rfl rfl rfl (Lod.ld sc49 rfl hM.own.blk rfl) ?_
  refine Reg.pur rfl rfl rfl rfl (Pur.nePN isPt49 rfl rfl) ?_
  refine Reg.pur rfl rfl rfl rfl (Pur.asg rfl) ?_
  refine Reg.nil ?_
  refine At.cond rfl rfl (fun q38 => ?_) (fun q38 => ?_)
  · first | (simp only [decide_eq_true_eq, decide_eq_false_iff_not, Bool.not_eq_true', Bool.not_eq_false', ne_eq, Decidable.not_not, Bool.not_eq_true, Bool.not_eq_false] at q38) | (dsimp only at q38) | skip
    obtain ⟨a1, n1, b1, rfl, hl1, rfl, hb1⟩ := hPd1 (by simpa using q38)
    refine At.region rfl rfl ?_
    refine Reg.pur rfl rfl rfl rfl (Pur.mv rfl) ?_
    refine Reg.pur rfl rfl rfl rfl (Pur.nilc rfl) ?_
    refine Reg.pur rfl rfl rfl rfl (Pur.fld _ fo51_5 rfl) ?_
    refine Reg.lod rfl rfl rfl rfl (Lod.ld sc49 rfl hM.own.blk rfl) ?_
    refine Reg.pur rfl rfl rfl rfl (Pur.nilc rfl) ?_
    refine Reg.lod rfl rfl rfl rfl (Lod.ldn ag25 rfl hb1 rfl rfl) ?_
    refine Reg.pur rfl rfl rfl rfl (Pur.mv rfl) ?_

    refine Reg.op0 rfl rfl rfl (Does.stn ag25 rfl rfl (by first | rfl | exact ones_Is _) (by first | rfl | (simp [*]; done)) o0_0 (by first | decide | (simp; done) | (simp; omega) | omega)) ?_
    rintro _ H9_7 hu9_7
    have z9_7 := hu9_7.size
    replace hE := hE.upw hu9_7 (by omega)
    replace o0_0 := hu9_7.own
    first | rw [over (by first | rfl | (simp; done))] at o0_0 | skip
    refine Reg.pur rfl rfl rfl rfl (Pur.asg rfl) ?_
    refine Reg.pur rfl rfl rfl rfl (Pur.asg rfl) ?_
    refine Reg.nil ?_
    refine At.retC rfl Try.func8 ⟨_, _, _, _, rfl, rfl, ⟨_, o0_0.blk, .inr ⟨_, _, ag25, (by first | exact whole rfl | exact whole (by simp [*])), (by first | rfl | simp [*]), rfl⟩⟩, ⟨_, _, rfl, rfl, ⟨_, _, rfl, rfl, rfl⟩⟩⟩ ?_
    rw [← hres]
    exact ⟨rfl, hE⟩
  first | (simp only [decide_eq_true_eq, decide_eq_false_iff_not, Bool.not_eq_true', Bool.not_eq_false', ne_eq, Decidable.not_not, Bool.not_eq_true, Bool.not_eq_false] at q38) | (dsimp only at q38) | skip
  obtain ⟨Pv, rfl, hPv1, hPv2⟩ := hPd2 (by simpa using q38)
  refine At.region rfl rfl ?_
  refine Reg.pur rfl rfl rfl rfl (Pur.mv rfl) ?_
  refine Reg.pur rfl rfl rfl rfl (Pur.nilc rfl) ?_
  refine Reg.pur rfl rfl rfl rfl (Pur.fld _ fo51_4 rfl) ?_
  refine Reg.lod rfl rfl rfl rfl (Lod.ld sc48 rfl hM.own.blk rfl) ?_
  refine Reg.pur rfl rfl rfl rfl (Pur.nePN isPt48 rfl rfl) ?_
  refine Reg.pur rfl rfl rfl rfl (Pur.mv rfl) ?_
  refine Reg.case 57 rfl (fun q57 => ?_) (fun q57 => ?_)
  · first | (simp only [decide_eq_true_eq, decide_eq_false_iff_not, Bool.not_eq_true', Bool.not_eq_false', ne_eq, Decidable.not_not, Bool.not_eq_true, Bool.not_eq_false] at q57) | (dsimp only at q57) | skip
    refine Reg.gpur rfl rfl rfl rfl rfl rfl (Pur.mv rfl) ?_
    refine Reg.gpur rfl rfl rfl rfl rfl rfl (Pur.nilc rfl) ?_
    refine Reg.gpur rfl rfl rfl rfl rfl rfl (Pur.fld _ fo51_1 rfl) ?_
    refine Reg.glod rfl rfl rfl rfl rfl rfl (Lod.ld sc46 rfl hM.own.blk rfl) ?_
    refine Reg.gpur rfl rfl rfl rfl rfl rfl (Pur.lenS isl46 rfl) ?_
    refine Reg.gpur rfl rfl rfl rfl rfl rfl (Pur.eql rfl rfl) ?_
    refine Reg.pur rfl rfl rfl rfl (Pur.pickT rfl rfl) ?_
    refine Reg.pur rfl rfl rfl rfl (Pur.asg rfl) ?_
    refine Reg.nil ?_
    refine At.cond rfl rfl (fun q51 => ?_) (fun q51 => ?_)
    · first | (simp only [decide_eq_true_eq, decide_eq_false_iff_not, Bool.not_eq_true', Bool.not_eq_false', ne_eq, Decidable.not_not, Bool.not_eq_true, Bool.not_eq_false] at q51) | (dsimp only at q51) | skip
      have hPn : Pv.isNone = false := by simp_all
      obtain ⟨v, rfl, hv⟩ := hPv2 hPn
      have hfr : fr = [] := by simp_all
      refine At.region rfl rfl ?_
      refine Reg.pur rfl rfl rfl rfl (Pur.mv rfl) ?_
      refine Reg.pur rfl rfl rfl rfl (Pur.nilc rfl) ?_
      refine Reg.pur rfl rfl rfl rfl (Pur.fld _ fo51_4 rfl) ?_
      refine Reg.lod rfl rfl rfl rfl (Lod.ld sc48 rfl hM.own.blk rfl) ?_
      refine Reg.op rfl rfl rfl rfl (Does.call rfl (toldP_ok hM.fz.st hv)) ?_
      rintro _ H11_4 ⟨rfl, hE11_4⟩
      have z11_4 := hE11_4.lt
      replace hE := hE.ext hE11_4
      replace hM := hM.ext hE11_4
      replace o0_0 := o0_0.ext hE11_4
      refine Reg.pur rfl rfl rfl rfl (Pur.mv rfl) ?_

      refine Reg.op0 rfl rfl rfl (Does.stn ag25 rfl rfl (by first | rfl | exact ones_Is _) (by first | rfl | (simp [*]; done)) o0_0 (by first | decide | (simp; done) | (simp; omega) | omega)) ?_
      rintro _ H11_6 hu11_6
      have z11_6 := hu11_6.size
      replace hE := hE.upw hu11_6 (by omega)
      replace o0_0 := hu11_6.own
      first | rw [over (by first | rfl | (simp; done))] at o0_0 | skip
      refine Reg.pur rfl rfl rfl rfl (Pur.asg rfl) ?_
      refine Reg.pur rfl rfl rfl rfl (Pur.asg rfl) ?_
      refine Reg.nil ?_
      refine At.retC rfl Try.func8 ⟨_, _, _, _, rfl, rfl, ⟨_, o0_0.blk, .inr ⟨_, _, ag25, (by first | exact whole rfl | exact whole (by simp [*])), (by first | rfl | simp [*]), rfl⟩⟩, ⟨_, _, rfl, rfl, ⟨_, _, rfl, rfl, rfl⟩⟩⟩ ?_
      subst hfr
      rw [← hres]
      rw [show Ou.res L (F - k) k (.go (.gv [] v)) = _ from runM_over]
      exact ⟨rfl, hE⟩
    first | (simp only [decide_eq_true_eq, decide_eq_false_iff_not, Bool.not_eq_true', Bool.not_eq_false', ne_eq, Decidable.not_not, Bool.not_eq_true, Bool.not_eq_false] at q51) | (dsimp only at q51) | skip
    have hgo : ∃ s, ou = .go s ∧ s.goes = true := by
      by_cases hPn : Pv.isNone = true
      · obtain ⟨node, en, rfl, _⟩ := hPv1 hPn; exact ⟨_, rfl, rfl⟩
      · obtain ⟨v, rfl, _⟩ := hPv2 (by cases hx : Pv.isNone; rfl; exact (hPn hx).elim)
        refine ⟨_, rfl, ?_⟩
        cases fr with
        | nil => exfalso; simp_all
        | cons f r => rfl
    obtain ⟨s, rfl, hg⟩ := hgo
    refine At.region rfl rfl ?_
    refine Reg.pur rfl rfl rfl rfl (Pur.mv rfl) ?_
    refine Reg.pur rfl rfl rfl rfl (Pur.mv rfl) ?_
    refine Reg.pur rfl rfl rfl rfl (Pur.eql rfl rfl) ?_
    refine Reg.pur rfl rfl rfl rfl (Pur.asg rfl) ?_
    refine Reg.nil ?_
    refine At.cond rfl rfl (fun q71 => ?_) (fun q71 => ?_)
    · first | (simp only [decide_eq_true_eq, decide_eq_false_iff_not, Bool.not_eq_true', Bool.not_eq_false', ne_eq, Decidable.not_not, Bool.not_eq_true, Bool.not_eq_false] at q71) | (dsimp only at q71) | skip
      refine At.region rfl rfl ?_
      refine Reg.pur rfl rfl rfl rfl (Pur.bld (cs := [_, _]) pl25 zc25 rfl rfl ⟨rfl, rfl, rfl⟩) ?_
      refine Reg.pur rfl rfl rfl rfl (Pur.mv rfl) ?_

      refine Reg.op0 rfl rfl rfl (Does.stn ag25 rfl rfl (by first | rfl | exact ones_Is _) (by first | rfl | (simp [*]; done)) o0_0 (by first | decide | (simp; done) | (simp; omega) | omega)) ?_
      rintro _ H13_2 hu13_2
      have z13_2 := hu13_2.size
      replace hE := hE.upw hu13_2 (by omega)
      replace o0_0 := hu13_2.own
      first | rw [over (by first | rfl | (simp; done))] at o0_0 | skip
      refine Reg.pur rfl rfl rfl rfl (Pur.asg rfl) ?_
      refine Reg.pur rfl rfl rfl rfl (Pur.asg rfl) ?_
      refine Reg.nil ?_
      refine At.retC rfl Try.func8 ⟨_, _, _, _, rfl, rfl, ⟨_, o0_0.blk, .inr ⟨_, _, ag25, (by first | exact whole rfl | exact whole (by simp [*])), (by first | rfl | simp [*]), rfl⟩⟩, ⟨_, _, rfl, rfl, ⟨_, _, rfl, rfl, rfl⟩⟩⟩ ?_
      rw [← hres, show F - k = 0 by omega, show Ou.res L 0 k (.go s) = _ from runM_zero (by rw [go_fr hSh]; omega) hg]
      exact ⟨rfl, hE⟩
    first | (simp only [decide_eq_true_eq, decide_eq_false_iff_not, Bool.not_eq_true', Bool.not_eq_false', ne_eq, Decidable.not_not, Bool.not_eq_true, Bool.not_eq_false] at q71) | (dsimp only at q71) | skip
    refine At.region rfl rfl ?_
    refine Reg.pur rfl rfl rfl rfl (Pur.mv rfl) ?_

    refine Reg.op rfl rfl rfl rfl (Does.call rfl (stepP_ok hT (sta_of hM hSh) hok hg (by rw [go_fr hSh]; omega))) ?_
    rintro _ H14_1 ⟨⟨hbut14_1⟩, aa, H00, hbb, hAt⟩
    have z14_1 := hbut14_1.lt
    replace hE := hE.via hbut14_1 (by first | omega | (intro g; omega) | (intro g hg; omega) | (intro g hg h; omega))
    replace o0_0 := o0_0.via hbut14_1 (by first | omega | (intro g; omega) | (intro g hg; omega) | (intro g hg h; omega))
    refine Reg.nil ?_
    refine At.region rfl rfl ?_
    refine Reg.pur rfl rfl rfl rfl (Pur.mv rfl) ?_
    refine Reg.pur rfl rfl rfl rfl (Pur.add64 rfl rfl (by omega)) ?_
    refine Reg.pur rfl rfl rfl rfl (Pur.asg rfl) ?_
    refine Reg.nil ?_
    have hokn := stepM_ok hT hok
    have hrn : (stepM L s).res L (F - (k + 1)) (k + 1) = runM L F 0 (.ev [] ((L.length : Int) - 1) .nil) := by
      rw [← hres, show F - k = F - (k + 1) + 1 by omega, show Ou.res L (F - (k + 1) + 1) k (.go s) = _ from runM_succ (by rw [go_fr hSh]; omega) hg]
      cases stepM L s <;> rfl
    exact At.meets rfl (ih (k + 1, stepM L s) _ ⟨by (show k + 1 ≤ F); omega, hAt, hokn, hrn, o0_0, hE⟩ (by (show 2 * (F - (k + 1)) + _ < 2 * (F - k) + 1); cases stepM L s <;> (dsimp only; omega))) ⟨rfl, rfl, rfl, rfl, trivial⟩
  first | (simp only [decide_eq_true_eq, decide_eq_false_iff_not, Bool.not_eq_true', Bool.not_eq_false', ne_eq, Decidable.not_not, Bool.not_eq_true, Bool.not_eq_false] at q57) | (dsimp only at q57) | skip
  refine Reg.skip rfl rfl rfl rfl rfl rfl rfl ?_
  refine Reg.skip rfl rfl rfl rfl rfl rfl rfl ?_
  refine Reg.skip rfl rfl rfl rfl rfl rfl rfl ?_
  refine Reg.skip rfl rfl rfl rfl rfl rfl rfl ?_
  refine Reg.skip rfl rfl rfl rfl rfl rfl rfl ?_
  refine Reg.skip rfl rfl rfl rfl rfl rfl rfl ?_
  refine Reg.pur rfl rfl rfl rfl (Pur.pickF rfl rfl) ?_
  refine Reg.pur rfl rfl rfl rfl (Pur.asg rfl) ?_
  refine Reg.nil ?_
  refine At.condF rfl rfl rfl ?_
  have hgo : ∃ s, ou = .go s ∧ s.goes = true := by
    by_cases hPn : Pv.isNone = true
    · obtain ⟨node, en, rfl, _⟩ := hPv1 hPn; exact ⟨_, rfl, rfl⟩
    · obtain ⟨v, rfl, _⟩ := hPv2 (by cases hx : Pv.isNone; rfl; exact (hPn hx).elim)
      refine ⟨_, rfl, ?_⟩
      cases fr with
      | nil => exfalso; simp_all
      | cons f r => rfl
  obtain ⟨s, rfl, hg⟩ := hgo
  refine At.region rfl rfl ?_
  refine Reg.pur rfl rfl rfl rfl (Pur.mv rfl) ?_
  refine Reg.pur rfl rfl rfl rfl (Pur.mv rfl) ?_
  refine Reg.pur rfl rfl rfl rfl (Pur.eql rfl rfl) ?_
  refine Reg.pur rfl rfl rfl rfl (Pur.asg rfl) ?_
  refine Reg.nil ?_
  refine At.cond rfl rfl (fun q71 => ?_) (fun q71 => ?_)
  · first | (simp only [decide_eq_true_eq, decide_eq_false_iff_not, Bool.not_eq_true', Bool.not_eq_false', ne_eq, Decidable.not_not, Bool.not_eq_true, Bool.not_eq_false] at q71) | (dsimp only at q71) | skip
    refine At.region rfl rfl ?_
    refine Reg.pur rfl rfl rfl rfl (Pur.bld (cs := [_, _]) pl25 zc25 rfl rfl ⟨rfl, rfl, rfl⟩) ?_
    refine Reg.pur rfl rfl rfl rfl (Pur.mv rfl) ?_

    refine Reg.op0 rfl rfl rfl (Does.stn ag25 rfl rfl (by first | rfl | exact ones_Is _) (by first | rfl | (simp [*]; done)) o0_0 (by first | decide | (simp; done) | (simp; omega) | omega)) ?_
    rintro _ H13_2 hu13_2
    have z13_2 := hu13_2.size
    replace hE := hE.upw hu13_2 (by omega)
    replace o0_0 := hu13_2.own
    first | rw [over (by first | rfl | (simp; done))] at o0_0 | skip
    refine Reg.pur rfl rfl rfl rfl (Pur.asg rfl) ?_
    refine Reg.pur rfl rfl rfl rfl (Pur.asg rfl) ?_
    refine Reg.nil ?_
    refine At.retC rfl Try.func8 ⟨_, _, _, _, rfl, rfl, ⟨_, o0_0.blk, .inr ⟨_, _, ag25, (by first | exact whole rfl | exact whole (by simp [*])), (by first | rfl | simp [*]), rfl⟩⟩, ⟨_, _, rfl, rfl, ⟨_, _, rfl, rfl, rfl⟩⟩⟩ ?_
    rw [← hres, show F - k = 0 by omega, show Ou.res L 0 k (.go s) = _ from runM_zero (by rw [go_fr hSh]; omega) hg]
    exact ⟨rfl, hE⟩
  first | (simp only [decide_eq_true_eq, decide_eq_false_iff_not, Bool.not_eq_true', Bool.not_eq_false', ne_eq, Decidable.not_not, Bool.not_eq_true, Bool.not_eq_false] at q71) | (dsimp only at q71) | skip
  refine At.region rfl rfl ?_
  refine Reg.pur rfl rfl rfl rfl (Pur.mv rfl) ?_

  refine Reg.op rfl rfl rfl rfl (Does.call rfl (stepP_ok hT (sta_of hM hSh) hok hg (by rw [go_fr hSh]; omega))) ?_
  rintro _ H14_1 ⟨⟨hbut14_1⟩, aa, H00, hbb, hAt⟩
  have z14_1 := hbut14_1.lt
  replace hE := hE.via hbut14_1 (by first | omega | (intro g; omega) | (intro g hg; omega) | (intro g hg h; omega))
  replace o0_0 := o0_0.via hbut14_1 (by first | omega | (intro g; omega) | (intro g hg; omega) | (intro g hg h; omega))
  refine Reg.nil ?_
  refine At.region rfl rfl ?_
  refine Reg.pur rfl rfl rfl rfl (Pur.mv rfl) ?_
  refine Reg.pur rfl rfl rfl rfl (Pur.add64 rfl rfl (by omega)) ?_
  refine Reg.pur rfl rfl rfl rfl (Pur.asg rfl) ?_
  refine Reg.nil ?_
  have hokn := stepM_ok hT hok
  have hrn : (stepM L s).res L (F - (k + 1)) (k + 1) = runM L F 0 (.ev [] ((L.length : Int) - 1) .nil) := by
    rw [← hres, show F - k = F - (k + 1) + 1 by omega, show Ou.res L (F - (k + 1) + 1) k (.go s) = _ from runM_succ (by rw [go_fr hSh]; omega) hg]
    cases stepM L s <;> rfl
  exact At.meets rfl (ih (k + 1, stepM L s) _ ⟨by (show k + 1 ≤ F); omega, hAt, hokn, hrn, o0_0, hE⟩ (by (show 2 * (F - (k + 1)) + _ < 2 * (F - k) + 1); cases stepM L s <;> (dsimp only; omega))) ⟨rfl, rfl, rfl, rfl, trivial⟩
end Go.Proofs.Ytjhkmebmbopfoaa
