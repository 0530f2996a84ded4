/-
  Chapter 21: the reference's run.
-/
import Derived.Test.YtjhkmebmbopfoaaMacP
namespace Go.Proofs.Ytjhkmebmbopfoaa
set_option linter.unusedSimpArgs false
set_option linter.unusedVariables false
set_option maxRecDepth 8000
set_option maxHeartbeats 2000000
open Go Go.Fx Go.Proofs
namespace FactsMacQ
theorem ag25 : ag Try.prog 25 = some 2 := by kernel_rfl
theorem ag58 : ag Try.prog 58 = some 7 := by kernel_rfl
theorem fo60_1 : foff Try.prog 60 1 = some 1 := by kernel_rfl
theorem fo60_2 : foff Try.prog 60 2 = some 2 := by kernel_rfl
theorem fo60_5 : foff Try.prog 60 5 = some 5 := by kernel_rfl
theorem fo60_6 : foff Try.prog 60 6 = some 12 := by kernel_rfl
theorem fo60_7 : foff Try.prog 60 7 = some 13 := by kernel_rfl
theorem isl22 : isSl Try.prog 22 = true := by kernel_rfl
theorem isl54 : isSl Try.prog 54 = true := by kernel_rfl
theorem pl25 : places Try.prog 25 = some [(0, 1), (1, 1)] := by kernel_rfl
theorem pl60 : places Try.prog 60 = some [(0, 1), (1, 1), (2, 1), (3, 1), (4, 1), (5, 7), (12, 1), (13, 2)] := by kernel_rfl
theorem sc4 : sc Try.prog 4 = true := by kernel_rfl
theorem sc54 : sc Try.prog 54 = true := by kernel_rfl
theorem zc25 : zc Try.prog 25 = some [.int .i64 0, .int .i64 0] := by kernel_rfl
theorem zc60 : zc Try.prog 60 = some [.slice none 0 0, .slice none 0 0, .bool false, .int .i64 0, .pointer none, .int .i64 0, .int .i64 0, .int .i64 0, .pointer none, .slice none 0 0, .pointer none, .pointer none, .bool false, .int .i64 0, .int .i64 0] := by kernel_rfl
end FactsMacQ
open FactsMacQ

def AtR (L : List (List Int)) (N : Value) (m B : Nat) (H : Heap) (s : St) : Prop :=
  ∃ G fr A cap ev nd pe vc dn o1 o2, Qs L N m B G H.size H fr A cap ev nd pe vc dn o1 o2 ∧ ShapeR G fr ev nd pe vc dn o1 o2 (.go s)
theorem shapeR_go {G : Gh} {fr : List Fr} {ev dn : Bool} {nd o1 o2 : Int} {pe : Value} {vc : List Value} {s : St} (h : ShapeR G fr ev nd pe vc dn o1 o2 (.go s)) :
    s.frs = fr ∧ dn = false ∧ (ev = true → ∃ node en, s = .ev fr node en ∧ nd = node ∧ rqE G en pe) ∧ (ev = false → ∃ v, s = .gv fr v ∧ rqV G v vc) := by
  match s, h with
  | .ev fr' node env, h => obtain ⟨rfl, rfl, h2, h3, rfl⟩ := h; exact ⟨rfl, rfl, fun _ => ⟨_, _, rfl, h2, h3⟩, fun h => by cases h⟩
  | .gv fr' v, h => obtain ⟨rfl, rfl, h3, rfl⟩ := h; exact ⟨rfl, rfl, (fun h => by cases h), fun _ => ⟨_, rfl, h3⟩⟩
theorem staR_of {L : List (List Int)} {N : Value} {m B : Nat} {G : Gh} {H : Heap} {fr : List Fr} {A : Option Addr} {cap : Nat} {ev dn : Bool} {nd o1 o2 : Int} {pe : Value} {vc : List Value} {s : St} (hM : Qs L N m B G H.size H fr A cap ev nd pe vc dn o1 o2) (h : ShapeR G fr ev nd pe vc dn o1 o2 (.go s)) : StaR L N m B H s := by
  match s, h with
  | .ev fr' node env, h => obtain ⟨rfl, rfl, rfl, h3, rfl⟩ := h; exact ⟨_, _, _, _, _, _, _, hM, h3⟩
  | .gv fr' v, h => obtain ⟨rfl, rfl, h3, rfl⟩ := h; exact ⟨_, _, _, _, _, _, _, _, hM, h3⟩
theorem runR_ok {A : Option Addr} {cap : Nat} (L : List (List Int)) (hL : ∀ x ∈ L, x.length = 9) {H : Heap} (hS : SlT H Is 9 (.slice A L.length cap) L) (hm : L.length ≤ 9223372036854775807) (fuel : Int) (hfu : -9223372036854775808 ≤ fuel ∧ fuel ≤ 9223372036854775807) :
    Ret Try.prog 9 [.slice A L.length cap, I fuel] H (fun v H' => v = .tuple #[.agg (Is [(runS L fuel).1.1, (runS L fuel).1.2]).toArray, I (runS L fuel).2.1, I (runS L fuel).2.2] ∧ Ext H H') := by
  refine Ret.of_at (N := 95) Try.call9 Try.func9 rfl rfl rfl ?_
  have hE := Ext.refl H
  have zS := hS.lt
  have z_hE := hE.lt
  have z_hS := hS.lt
  refine At.region rfl rfl ?_
  refine Reg.op rfl rfl rfl rfl (Does.alloc zc25) ?_
  rintro _ H0_0 ⟨rfl, hn0_0⟩
  have z0_0 := hn0_0.size
  replace hE := hE.ext hn0_0.ext
  replace hS := hS.ext hn0_0.ext
  have o0_0 := hn0_0.own
  refine Reg.pur rfl rfl rfl rfl (Pur.asg rfl) ?_
  refine Reg.pur rfl rfl rfl rfl (Pur.asg rfl) ?_
  refine Reg.nil ?_
  refine At.region rfl rfl ?_
  refine Reg.pur rfl rfl rfl rfl (Pur.mv rfl) ?_
  refine Reg.op rfl rfl rfl rfl (Does.call rfl (targetMay_ok L hL hS hm)) ?_
  rintro _ H1_1 ⟨rfl, hE1_1⟩
  have z1_1 := hE1_1.lt
  replace hE := hE.ext hE1_1
  replace hS := hS.ext hE1_1
  replace o0_0 := o0_0.ext hE1_1
  refine Reg.pur rfl rfl rfl rfl (Pur.not rfl) ?_
  refine Reg.pur rfl rfl rfl rfl (Pur.mv rfl) ?_
  refine Reg.case 12 rfl (fun q12 => ?_) (fun q12 => ?_)
  · first | (simp only [decide_eq_true_eq, decide_eq_false_iff_not, Bool.not_eq_true', Bool.not_eq_false', ne_eq, Decidable.not_not, Bool.not_eq_true, Bool.not_eq_false] at q12) | (dsimp only at q12) | skip
    refine Reg.skip rfl rfl rfl rfl rfl rfl rfl ?_
    refine Reg.skip rfl rfl rfl rfl rfl rfl rfl ?_
    refine Reg.pur rfl rfl rfl rfl (Pur.pickT rfl rfl) ?_
    refine Reg.pur rfl rfl rfl rfl (Pur.mv rfl) ?_
    refine Reg.skip rfl rfl rfl rfl rfl rfl rfl ?_
    refine Reg.skip rfl rfl rfl rfl rfl rfl rfl ?_
    refine Reg.pur rfl rfl rfl rfl (Pur.pickT rfl rfl) ?_
    refine Reg.nil ?_
    refine At.condT rfl rfl rfl ?_
    have hno : ¬ (mayS L = true ∧ 0 ≤ fuel ∧ fuel ≤ 1048576) := by first | (simp_all; done) | (simp_all; omega)
    refine At.region rfl rfl ?_
    refine Reg.pur rfl rfl rfl rfl (Pur.bld (cs := [_, _]) pl25 zc25 rfl rfl ⟨rfl, rfl, rfl⟩) ?_
    refine Reg.op0 rfl rfl rfl (Does.stn ag25 rfl rfl rfl rfl o0_0 (by simp)) ?_
    rintro _ H2_1 hu2_1
    have z2_1 := hu2_1.size
    replace hE := hE.upw hu2_1 (by omega)
    replace hS := hS.upw hu2_1 (by omega)
    replace o0_0 := hu2_1.own
    first | rw [over (by first | rfl | (simp; done))] at o0_0 | skip
    refine Reg.pur rfl rfl rfl rfl (Pur.asg rfl) ?_
    refine Reg.pur rfl rfl rfl rfl (Pur.asg rfl) ?_
    refine Reg.nil ?_
    refine At.retC rfl Try.func9 ⟨_, _, _, _, rfl, rfl, ⟨_, o0_0.blk, .inr ⟨_, _, ag25, (by first | exact whole rfl | exact whole (by simp [*])), (by first | rfl | simp [*]), rfl⟩⟩, ⟨_, _, rfl, rfl, ⟨_, _, rfl, rfl, rfl⟩⟩⟩ ?_
    rw [runS_no hno]
    exact ⟨rfl, hE⟩
  first | (simp only [decide_eq_true_eq, decide_eq_false_iff_not, Bool.not_eq_true', Bool.not_eq_false', ne_eq, Decidable.not_not, Bool.not_eq_true, Bool.not_eq_false] at q12) | (dsimp only at q12) | skip
  refine Reg.gpur rfl rfl rfl rfl rfl rfl (Pur.mv rfl) ?_
  refine Reg.gpur rfl rfl rfl rfl rfl rfl (Pur.lss rfl rfl) ?_
  refine Reg.pur rfl rfl rfl rfl (Pur.pickF rfl rfl) ?_
  refine Reg.pur rfl rfl rfl rfl (Pur.mv rfl) ?_
  refine Reg.case 16 rfl (fun q16 => ?_) (fun q16 => ?_)
  · first | (simp only [decide_eq_true_eq, decide_eq_false_iff_not, Bool.not_eq_true', Bool.not_eq_false', ne_eq, Decidable.not_not, Bool.not_eq_true, Bool.not_eq_false] at q16) | (dsimp only at q16) | skip
    refine Reg.skip rfl rfl rfl rfl rfl rfl rfl ?_
    refine Reg.skip rfl rfl rfl rfl rfl rfl rfl ?_
    refine Reg.pur rfl rfl rfl rfl (Pur.pickT rfl rfl) ?_
    refine Reg.nil ?_
    refine At.condT rfl rfl rfl ?_
    have hno : ¬ (mayS L = true ∧ 0 ≤ fuel ∧ fuel ≤ 1048576) := by first | (simp_all; done) | (simp_all; omega)
    refine At.region rfl rfl ?_
    refine Reg.pur rfl rfl rfl rfl (Pur.bld (cs := [_, _]) pl25 zc25 rfl rfl ⟨rfl, rfl, rfl⟩) ?_
    refine Reg.op0 rfl rfl rfl (Does.stn ag25 rfl rfl rfl rfl o0_0 (by simp)) ?_
    rintro _ H2_1 hu2_1
    have z2_1 := hu2_1.size
    replace hE := hE.upw hu2_1 (by omega)
    replace hS := hS.upw hu2_1 (by omega)
    replace o0_0 := hu2_1.own
    first | rw [over (by first | rfl | (simp; done))] at o0_0 | skip
    refine Reg.pur rfl rfl rfl rfl (Pur.asg rfl) ?_
    refine Reg.pur rfl rfl rfl rfl (Pur.asg rfl) ?_
    refine Reg.nil ?_
    refine At.retC rfl Try.func9 ⟨_, _, _, _, rfl, rfl, ⟨_, o0_0.blk, .inr ⟨_, _, ag25, (by first | exact whole rfl | exact whole (by simp [*])), (by first | rfl | simp [*]), rfl⟩⟩, ⟨_, _, rfl, rfl, ⟨_, _, rfl, rfl, rfl⟩⟩⟩ ?_
    rw [runS_no hno]
    exact ⟨rfl, hE⟩
  first | (simp only [decide_eq_true_eq, decide_eq_false_iff_not, Bool.not_eq_true', Bool.not_eq_false', ne_eq, Decidable.not_not, Bool.not_eq_true, Bool.not_eq_false] at q16) | (dsimp only at q16) | skip
  refine Reg.gpur rfl rfl rfl rfl rfl rfl (Pur.mv rfl) ?_
  refine Reg.gpur rfl rfl rfl rfl rfl rfl (Pur.gtr rfl rfl) ?_
  refine Reg.pur rfl rfl rfl rfl (Pur.pickF rfl rfl) ?_
  refine Reg.nil ?_
  refine At.cond rfl rfl (fun q19 => ?_) (fun q19 => ?_)
  · first | (simp only [decide_eq_true_eq, decide_eq_false_iff_not, Bool.not_eq_true', Bool.not_eq_false', ne_eq, Decidable.not_not, Bool.not_eq_true, Bool.not_eq_false] at q19) | (dsimp only at q19) | skip
    have hno : ¬ (mayS L = true ∧ 0 ≤ fuel ∧ fuel ≤ 1048576) := by first | (simp_all; done) | (simp_all; omega)
    refine At.region rfl rfl ?_
    refine Reg.pur rfl rfl rfl rfl (Pur.bld (cs := [_, _]) pl25 zc25 rfl rfl ⟨rfl, rfl, rfl⟩) ?_
    refine Reg.op0 rfl rfl rfl (Does.stn ag25 rfl rfl rfl rfl o0_0 (by simp)) ?_
    rintro _ H2_1 hu2_1
    have z2_1 := hu2_1.size
    replace hE := hE.upw hu2_1 (by omega)
    replace hS := hS.upw hu2_1 (by omega)
    replace o0_0 := hu2_1.own
    first | rw [over (by first | rfl | (simp; done))] at o0_0 | skip
    refine Reg.pur rfl rfl rfl rfl (Pur.asg rfl) ?_
    refine Reg.pur rfl rfl rfl rfl (Pur.asg rfl) ?_
    refine Reg.nil ?_
    refine At.retC rfl Try.func9 ⟨_, _, _, _, rfl, rfl, ⟨_, o0_0.blk, .inr ⟨_, _, ag25, (by first | exact whole rfl | exact whole (by simp [*])), (by first | rfl | simp [*]), rfl⟩⟩, ⟨_, _, rfl, rfl, ⟨_, _, rfl, rfl, rfl⟩⟩⟩ ?_
    rw [runS_no hno]
    exact ⟨rfl, hE⟩
  first | (simp only [decide_eq_true_eq, decide_eq_false_iff_not, Bool.not_eq_true', Bool.not_eq_false', ne_eq, Decidable.not_not, Bool.not_eq_true, Bool.not_eq_false] at q19) | (dsimp only at q19) | skip
  have hyes : mayS L = true ∧ 0 ≤ fuel ∧ fuel ≤ 1048576 := by simp_all
  rw [runS_yes hyes]
  have hT := tm_of hyes.1
  obtain ⟨F, rfl⟩ : ∃ F : Nat, fuel = F := ⟨fuel.toNat, by omega⟩
  simp only [Int.toNat_natCast]
  refine At.region rfl rfl ?_
  refine Reg.pur rfl rfl rfl rfl (Pur.mv rfl) ?_
  refine Reg.pur rfl rfl rfl rfl (Pur.bld (cs := [_, _, _, _, _, _, _, _, _, _, _, _, _, _, _]) pl60 zc60 rfl rfl ⟨rfl, rfl, rfl, rfl, rfl, rfl, rfl, rfl, rfl, rfl, rfl, rfl, rfl, rfl, rfl, rfl⟩) ?_
  refine Reg.op rfl rfl rfl rfl (Does.box rfl rfl) ?_
  rintro _ H3_2 ⟨rfl, hn3_2⟩
  have z3_2 := hn3_2.size
  replace hE := hE.ext hn3_2.ext
  replace hS := hS.ext hn3_2.ext
  replace o0_0 := o0_0.ext hn3_2.ext
  have o3_2 := hn3_2.own
  refine Reg.pur rfl rfl rfl rfl (Pur.asg rfl) ?_
  refine Reg.nil ?_
  have hM0 : Qs L (.slice A L.length cap) H1_1.size H1_1.size (fun _ => none) H3_2.size H3_2 [] none 0 false 0 nilp zv7 false 0 0 := ⟨o3_2, rfl, ⟨[], OwnS.nilG, rfl⟩, ⟨(fun b c h => by cases h), (fun b c h => by cases h), (fun b c h => by cases h), (fun b c h => by cases h), Nat.le_refl _⟩, by omega, by (rw [ob_none]; omega), by (rw [ob_none]; omega), Nat.le_refl _, hL, A, cap, rfl, hS, by omega⟩
  refine At.region rfl rfl ?_
  refine Reg.pur rfl rfl rfl rfl (Pur.mv rfl) ?_
  refine Reg.pur rfl rfl rfl rfl (Pur.mv rfl) ?_
  refine Reg.pur rfl rfl rfl rfl (Pur.lenS isl22 rfl) ?_
  first | refine Reg.pur rfl rfl rfl rfl (Pur.sub64 rfl rfl (by omega)) ?_ | refine Reg.pur rfl rfl rfl rfl (Pur.sub64 rfl rfl (by assumption)) ?_ | refine Reg.pur rfl rfl rfl rfl (Pur.sub rfl rfl) ?_

  refine Reg.op rfl rfl rfl rfl (Does.call rfl (goesR_ok hM0 _ _ rfl)) ?_
  rintro _ H4_4 ⟨hM1, hbut4_4⟩
  have z4_4 := hbut4_4.lt
  replace hE := hE.via hbut4_4 (by first | omega | (intro g; omega) | (intro g hg; omega) | (intro g hg h; omega))
  replace o0_0 := o0_0.via hbut4_4 (by first | omega | (intro g; omega) | (intro g hg; omega) | (intro g hg h; omega))
  refine Reg.nil ?_
  refine At.region rfl rfl ?_
  refine Reg.pur rfl rfl rfl rfl (Pur.asg rfl) ?_
  refine Reg.nil ?_
  refine At.loop (σ := Nat × St) (fun x => [(8, I x.1), (7, ptr H1_1.size 0), (1, I F), (4, ptr H.size 0)]) (fun x H' => x.1 ≤ F ∧ AtR L (.slice A L.length cap) H1_1.size H1_1.size H' x.2 ∧ x.2.ok L ∧ x.2.frs.length ≤ 4096 ∧ runM L (F - x.1) x.1 x.2 = runM L F 0 (.ev [] ((L.length : Int) - 1) .nil) ∧ Own H' H.size [I 0, I 0] ∧ Ext H H') (fun x => F - x.1) (0, .ev [] ((L.length : Int) - 1) .nil) rfl ⟨rfl, rfl, rfl, rfl, trivial⟩ ⟨Nat.zero_le _, ⟨_, [], none, 0, _, _, _, _, _, _, _, hM1.re hM1.fz.hs (Nat.le_refl _), rfl, rfl, rfl, by simp only [rqE], rfl⟩, ⟨(fun f hf => by cases hf), ⟨by have := hT.n1; omega, by omega⟩, by simp only [T.isE]⟩, by simp [St.frs], rfl, o0_0, hE⟩ ?_
  clear hM0 o0_0 hE hS hM1
  rintro ⟨k, st⟩ H2 ⟨hk, ⟨G, fr, Af, capf, ev, nd, pe, vc, dn, o1, o2, hM, hSh⟩, hok, hfl, hres, o0_0, hE⟩ ih
  dsimp only at hk hok hfl hres ih hSh ⊢
  obtain ⟨hfr, hdn, hs1, hs2⟩ := shapeR_go hSh
  have zM := hM.lt
  have z_hE := hE.lt
  have z_hM := hM.lt
  have z_o0_0 := o0_0.lt
  refine At.region rfl rfl ?_
  refine Reg.pur rfl rfl rfl rfl (Pur.mv rfl) ?_
  refine Reg.pur rfl rfl rfl rfl (Pur.mv rfl) ?_
  refine Reg.pur rfl rfl rfl rfl (Pur.lss rfl rfl) ?_
  refine Reg.nil ?_
  refine At.cond rfl rfl (fun q31 => ?_) (fun q31 => ?_)
  · first | (simp only [decide_eq_true_eq, decide_eq_false_iff_not, Bool.not_eq_true', Bool.not_eq_false', ne_eq, Decidable.not_not, Bool.not_eq_true, Bool.not_eq_false] at q31) | (dsimp only at q31) | skip
    refine At.region rfl rfl ?_
    refine Reg.pur rfl rfl rfl rfl (Pur.mv rfl) ?_
    refine Reg.pur rfl rfl rfl rfl (Pur.nilc rfl) ?_
    refine Reg.pur rfl rfl rfl rfl (Pur.fld _ fo60_2 rfl) ?_
    refine Reg.lod rfl rfl rfl rfl (Lod.ld sc4 rfl hM.own.blk rfl) ?_
    refine Reg.pur rfl rfl rfl rfl (Pur.not rfl) ?_
    refine Reg.pur rfl rfl rfl rfl (Pur.mv rfl) ?_
    refine Reg.case 39 rfl (fun q39 => ?_) (fun q39 => ?_)
    · first | (simp only [decide_eq_true_eq, decide_eq_false_iff_not, Bool.not_eq_true', Bool.not_eq_false', ne_eq, Decidable.not_not, Bool.not_eq_true, Bool.not_eq_false] at q39) | (dsimp only at q39) | skip
      refine Reg.gpur rfl rfl rfl rfl rfl rfl (Pur.mv rfl) ?_
      refine Reg.gpur rfl rfl rfl rfl rfl rfl (Pur.nilc rfl) ?_
      refine Reg.gpur rfl rfl rfl rfl rfl rfl (Pur.fld _ fo60_1 rfl) ?_
      refine Reg.glod rfl rfl rfl rfl rfl rfl (Lod.ld sc54 rfl hM.own.blk rfl) ?_
      refine Reg.gpur rfl rfl rfl rfl rfl rfl (Pur.lenS isl54 rfl) ?_
      refine Reg.gpur rfl rfl rfl rfl rfl rfl (Pur.eql rfl rfl) ?_
      refine Reg.pur rfl rfl rfl rfl (Pur.pickT rfl rfl) ?_
      refine Reg.nil ?_
      refine At.cond rfl rfl (fun q46 => ?_) (fun q46 => ?_)
      · first | (simp only [decide_eq_true_eq, decide_eq_false_iff_not, Bool.not_eq_true', Bool.not_eq_false', ne_eq, Decidable.not_not, Bool.not_eq_true, Bool.not_eq_false] at q46) | (dsimp only at q46) | skip
        have hev : ev = false := by simp_all
        obtain ⟨v, rfl, hv⟩ := hs2 hev
        have hfr0 : fr = [] := by simp_all
        have h7 := hM.v7
        refine At.region rfl rfl ?_
        refine Reg.pur rfl rfl rfl rfl (Pur.mv rfl) ?_
        refine Reg.pur rfl rfl rfl rfl (Pur.nilc rfl) ?_
        refine Reg.pur rfl rfl rfl rfl (Pur.fld _ fo60_5 rfl) ?_
        refine Reg.lod rfl rfl rfl rfl (Lod.ldn ag58 rfl hM.own.blk (show _ = vc by (simp only [List.drop_succ_cons, List.drop_zero]; rw [← h7, List.take_left])) h7) ?_
        refine Reg.op rfl rfl rfl rfl (Does.call rfl (toldR_ok hv hM.fz.st)) ?_
        rintro _ H9_4 ⟨rfl, hE9_4⟩
        have z9_4 := hE9_4.lt
        replace hE := hE.ext hE9_4
        replace hM := hM.ext hE9_4
        replace o0_0 := o0_0.ext hE9_4
        refine Reg.pur rfl rfl rfl rfl (Pur.mv rfl) ?_

        refine Reg.op0 rfl rfl rfl (Does.stn ag25 rfl rfl (by first | rfl | exact ones_Is _) (by first | rfl | (simp [*]; done)) o0_0 (by first | decide | (simp; done) | (simp; omega) | omega)) ?_
        rintro _ H9_6 hu9_6
        have z9_6 := hu9_6.size
        replace hE := hE.upw hu9_6 (by omega)
        replace o0_0 := hu9_6.own
        first | rw [over (by first | rfl | (simp; done))] at o0_0 | skip
        refine Reg.pur rfl rfl rfl rfl (Pur.asg rfl) ?_
        refine Reg.pur rfl rfl rfl rfl (Pur.asg rfl) ?_
        refine Reg.nil ?_
        refine At.retC rfl Try.func9 ⟨_, _, _, _, rfl, rfl, ⟨_, o0_0.blk, .inr ⟨_, _, ag25, (by first | exact whole rfl | exact whole (by simp [*])), (by first | rfl | simp [*]), rfl⟩⟩, ⟨_, _, rfl, rfl, ⟨_, _, rfl, rfl, rfl⟩⟩⟩ ?_
        subst hfr0
        rw [← hres, runM_over]
        exact ⟨rfl, hE⟩
      first | (simp only [decide_eq_true_eq, decide_eq_false_iff_not, Bool.not_eq_true', Bool.not_eq_false', ne_eq, Decidable.not_not, Bool.not_eq_true, Bool.not_eq_false] at q46) | (dsimp only at q46) | skip
      have hg : st.goes = true := by
        cases hev : ev with
        | true => obtain ⟨node, en, rfl, _⟩ := hs1 hev; rfl
        | false =>
          obtain ⟨v, rfl, _⟩ := hs2 hev
          cases fr with
          | nil => exfalso; simp_all
          | cons f r => rfl
      refine At.region rfl rfl ?_
      refine Reg.pur rfl rfl rfl rfl (Pur.mv rfl) ?_

      refine Reg.op rfl rfl rfl rfl (Does.call rfl (stepR_ok hT (staR_of hM hSh) hok hg hfl)) ?_
      rintro _ H10_1 ⟨⟨hbut10_1⟩, aa, H00, hbb, hAt⟩
      have z10_1 := hbut10_1.lt
      replace hE := hE.via hbut10_1 (by first | omega | (intro g; omega) | (intro g hg; omega) | (intro g hg h; omega))
      replace o0_0 := o0_0.via hbut10_1 (by first | omega | (intro g; omega) | (intro g hg; omega) | (intro g hg h; omega))
      refine Reg.nil ?_
      have hsc := runM_succ (L := L) (f := F - (k + 1)) (k := k) hfl hg
      rw [show F - (k + 1) + 1 = F - k by omega, hres] at hsc
      have hokn := stepM_ok hT hok
      generalize stepM L st = ou at *
      obtain ⟨G', fr', A', cap', ev', nd', pe', vc', dn', p1, p2, hM', hSh'⟩ := hAt
      have zM' := hM'.lt
      obtain ⟨w0, w1, w2, w3, w4, w5, w6, rfl⟩ := sevn hM'.v7
      have z_hM' := hM'.lt
      refine At.region rfl rfl ?_
      refine Reg.pur rfl rfl rfl rfl (Pur.mv rfl) ?_
      refine Reg.pur rfl rfl rfl rfl (Pur.nilc rfl) ?_
      refine Reg.pur rfl rfl rfl rfl (Pur.fld _ fo60_1 rfl) ?_
      refine Reg.lod rfl rfl rfl rfl (Lod.ld sc54 rfl hM'.own.blk rfl) ?_
      refine Reg.pur rfl rfl rfl rfl (Pur.lenS isl54 rfl) ?_
      refine Reg.pur rfl rfl rfl rfl (Pur.gtr rfl rfl) ?_
      refine Reg.nil ?_
      refine At.cond rfl rfl (fun q60 => ?_) (fun q60 => ?_)
      · first | (simp only [decide_eq_true_eq, decide_eq_false_iff_not, Bool.not_eq_true', Bool.not_eq_false', ne_eq, Decidable.not_not, Bool.not_eq_true, Bool.not_eq_false] at q60) | (dsimp only at q60) | skip
        refine At.region rfl rfl ?_
        refine Reg.pur rfl rfl rfl rfl (Pur.bld (cs := [_, _]) pl25 zc25 rfl rfl ⟨rfl, rfl, rfl⟩) ?_
        refine Reg.pur rfl rfl rfl rfl (Pur.mv rfl) ?_
        refine Reg.pur rfl rfl rfl rfl (Pur.add64 rfl rfl (by omega)) ?_

        refine Reg.op0 rfl rfl rfl (Does.stn ag25 rfl rfl rfl rfl o0_0 (by simp)) ?_
        rintro _ H12_3 hu12_3
        have z12_3 := hu12_3.size
        replace hE := hE.upw hu12_3 (by omega)
        replace o0_0 := hu12_3.own
        first | rw [over (by first | rfl | (simp; done))] at o0_0 | skip
        refine Reg.pur rfl rfl rfl rfl (Pur.asg rfl) ?_
        refine Reg.pur rfl rfl rfl rfl (Pur.asg rfl) ?_
        refine Reg.nil ?_
        refine At.retC rfl Try.func9 ⟨_, _, _, _, rfl, rfl, ⟨_, o0_0.blk, .inr ⟨_, _, ag25, (by first | exact whole rfl | exact whole (by simp [*])), (by first | rfl | simp [*]), rfl⟩⟩, ⟨_, _, rfl, rfl, ⟨_, _, rfl, rfl, rfl⟩⟩⟩ ?_
        have hrr : runM L F 0 (.ev [] ((L.length : Int) - 1) .nil) = ((4, 0), k + 1) := by
          cases ou with
          | fin a b => exfalso; have := hSh'.2.2.2; omega
          | go s' => rw [hsc]; exact runM_stop (by rw [(shapeR_go hSh').1]; omega)
        rw [hrr]
        exact ⟨rfl, hE⟩
      first | (simp only [decide_eq_true_eq, decide_eq_false_iff_not, Bool.not_eq_true', Bool.not_eq_false', ne_eq, Decidable.not_not, Bool.not_eq_true, Bool.not_eq_false] at q60) | (dsimp only at q60) | skip
      refine At.region rfl rfl ?_
      refine Reg.pur rfl rfl rfl rfl (Pur.mv rfl) ?_
      refine Reg.pur rfl rfl rfl rfl (Pur.nilc rfl) ?_
      refine Reg.pur rfl rfl rfl rfl (Pur.fld _ fo60_6 rfl) ?_
      refine Reg.lod rfl rfl rfl rfl (Lod.ld sc4 rfl hM'.own.blk rfl) ?_
      refine Reg.nil ?_
      refine At.cond rfl rfl (fun q67 => ?_) (fun q67 => ?_)
      · first | (simp only [decide_eq_true_eq, decide_eq_false_iff_not, Bool.not_eq_true', Bool.not_eq_false', ne_eq, Decidable.not_not, Bool.not_eq_true, Bool.not_eq_false] at q67) | (dsimp only at q67) | skip
        refine At.region rfl rfl ?_
        refine Reg.pur rfl rfl rfl rfl (Pur.mv rfl) ?_
        refine Reg.pur rfl rfl rfl rfl (Pur.nilc rfl) ?_
        refine Reg.pur rfl rfl rfl rfl (Pur.fld _ fo60_7 rfl) ?_
        refine Reg.lod rfl rfl rfl rfl (Lod.ldn ag25 rfl hM'.own.blk rfl rfl) ?_
        refine Reg.pur rfl rfl rfl rfl (Pur.mv rfl) ?_
        refine Reg.pur rfl rfl rfl rfl (Pur.add64 rfl rfl (by omega)) ?_

        refine Reg.op0 rfl rfl rfl (Does.stn ag25 rfl rfl rfl rfl o0_0 (by simp)) ?_
        rintro _ H14_6 hu14_6
        have z14_6 := hu14_6.size
        replace hE := hE.upw hu14_6 (by omega)
        replace o0_0 := hu14_6.own
        first | rw [over (by first | rfl | (simp; done))] at o0_0 | skip
        refine Reg.pur rfl rfl rfl rfl (Pur.asg rfl) ?_
        refine Reg.pur rfl rfl rfl rfl (Pur.asg rfl) ?_
        refine Reg.nil ?_
        refine At.retC rfl Try.func9 ⟨_, _, _, _, rfl, rfl, ⟨_, o0_0.blk, .inr ⟨_, _, ag25, (by first | exact whole rfl | exact whole (by simp [*])), (by first | rfl | simp [*]), rfl⟩⟩, ⟨_, _, rfl, rfl, ⟨_, _, rfl, rfl, rfl⟩⟩⟩ ?_
        cases ou with
        | go s' => have := (shapeR_go hSh').2.1; simp_all
        | fin a b =>
          obtain ⟨_, rfl, rfl, _⟩ := hSh'
          rw [hsc]
          exact ⟨rfl, hE⟩
      first | (simp only [decide_eq_true_eq, decide_eq_false_iff_not, Bool.not_eq_true', Bool.not_eq_false', ne_eq, Decidable.not_not, Bool.not_eq_true, Bool.not_eq_false] at q67) | (dsimp only at q67) | skip
      refine At.region rfl rfl ?_
      refine Reg.pur rfl rfl rfl rfl (Pur.mv rfl) ?_
      refine Reg.pur rfl rfl rfl rfl (Pur.add64 rfl rfl (by omega)) ?_
      refine Reg.pur rfl rfl rfl rfl (Pur.asg rfl) ?_
      refine Reg.nil ?_
      cases ou with
      | fin a b => have := hSh'.1; simp_all
      | go s' => exact At.meets rfl (ih (k + 1, s') _ ⟨by (show k + 1 ≤ F); omega, ⟨_, _, _, _, _, _, _, _, _, _, _, hM', hSh'⟩, hokn, by (show s'.frs.length ≤ 4096); rw [(shapeR_go hSh').1]; omega, by (show runM L (F - (k + 1)) (k + 1) s' = _); exact hsc.symm, o0_0, hE⟩ (by (show F - (k + 1) < F - k); omega)) ⟨rfl, rfl, rfl, rfl, trivial⟩
    first | (simp only [decide_eq_true_eq, decide_eq_false_iff_not, Bool.not_eq_true', Bool.not_eq_false', ne_eq, Decidable.not_not, Bool.not_eq_true, Bool.not_eq_false] at q39) | (dsimp only at q39) | skip
    refine Reg.skip rfl rfl rfl rfl rfl rfl rfl ?_
    refine Reg.skip rfl rfl rfl rfl rfl rfl rfl ?_
    refine Reg.skip rfl rfl rfl rfl rfl rfl rfl ?_
    refine Reg.skip rfl rfl rfl rfl rfl rfl rfl ?_
    refine Reg.skip rfl rfl rfl rfl rfl rfl rfl ?_
    refine Reg.skip rfl rfl rfl rfl rfl rfl rfl ?_
    refine Reg.pur rfl rfl rfl rfl (Pur.pickF rfl rfl) ?_
    refine Reg.nil ?_
    refine At.condF rfl rfl rfl ?_
    have hg : st.goes = true := by
      cases hev : ev with
      | true => obtain ⟨node, en, rfl, _⟩ := hs1 hev; rfl
      | false =>
        obtain ⟨v, rfl, _⟩ := hs2 hev
        cases fr with
        | nil => exfalso; simp_all
        | cons f r => rfl
    refine At.region rfl rfl ?_
    refine Reg.pur rfl rfl rfl rfl (Pur.mv rfl) ?_

    refine Reg.op rfl rfl rfl rfl (Does.call rfl (stepR_ok hT (staR_of hM hSh) hok hg hfl)) ?_
    rintro _ H10_1 ⟨⟨hbut10_1⟩, aa, H00, hbb, hAt⟩
    have z10_1 := hbut10_1.lt
    replace hE := hE.via hbut10_1 (by first | omega | (intro g; omega) | (intro g hg; omega) | (intro g hg h; omega))
    replace o0_0 := o0_0.via hbut10_1 (by first | omega | (intro g; omega) | (intro g hg; omega) | (intro g hg h; omega))
    refine Reg.nil ?_
    have hsc := runM_succ (L := L) (f := F - (k + 1)) (k := k) hfl hg
    rw [show F - (k + 1) + 1 = F - k by omega, hres] at hsc
    have hokn := stepM_ok hT hok
    generalize stepM L st = ou at *
    obtain ⟨G', fr', A', cap', ev', nd', pe', vc', dn', p1, p2, hM', hSh'⟩ := hAt
    have zM' := hM'.lt
    obtain ⟨w0, w1, w2, w3, w4, w5, w6, rfl⟩ := sevn hM'.v7
    have z_hM' := hM'.lt
    refine At.region rfl rfl ?_
    refine Reg.pur rfl rfl rfl rfl (Pur.mv rfl) ?_
    refine Reg.pur rfl rfl rfl rfl (Pur.nilc rfl) ?_
    refine Reg.pur rfl rfl rfl rfl (Pur.fld _ fo60_1 rfl) ?_
    refine Reg.lod rfl rfl rfl rfl (Lod.ld sc54 rfl hM'.own.blk rfl) ?_
    refine Reg.pur rfl rfl rfl rfl (Pur.lenS isl54 rfl) ?_
    refine Reg.pur rfl rfl rfl rfl (Pur.gtr rfl rfl) ?_
    refine Reg.nil ?_
    refine At.cond rfl rfl (fun q60 => ?_) (fun q60 => ?_)
    · first | (simp only [decide_eq_true_eq, decide_eq_false_iff_not, Bool.not_eq_true', Bool.not_eq_false', ne_eq, Decidable.not_not, Bool.not_eq_true, Bool.not_eq_false] at q60) | (dsimp only at q60) | skip
      refine At.region rfl rfl ?_
      refine Reg.pur rfl rfl rfl rfl (Pur.bld (cs := [_, _]) pl25 zc25 rfl rfl ⟨rfl, rfl, rfl⟩) ?_
      refine Reg.pur rfl rfl rfl rfl (Pur.mv rfl) ?_
      refine Reg.pur rfl rfl rfl rfl (Pur.add64 rfl rfl (by omega)) ?_

      refine Reg.op0 rfl rfl rfl (Does.stn ag25 rfl rfl rfl rfl o0_0 (by simp)) ?_
      rintro _ H12_3 hu12_3
      have z12_3 := hu12_3.size
      replace hE := hE.upw hu12_3 (by omega)
      replace o0_0 := hu12_3.own
      first | rw [over (by first | rfl | (simp; done))] at o0_0 | skip
      refine Reg.pur rfl rfl rfl rfl (Pur.asg rfl) ?_
      refine Reg.pur rfl rfl rfl rfl (Pur.asg rfl) ?_
      refine Reg.nil ?_
      refine At.retC rfl Try.func9 ⟨_, _, _, _, rfl, rfl, ⟨_, o0_0.blk, .inr ⟨_, _, ag25, (by first | exact whole rfl | exact whole (by simp [*])), (by first | rfl | simp [*]), rfl⟩⟩, ⟨_, _, rfl, rfl, ⟨_, _, rfl, rfl, rfl⟩⟩⟩ ?_
      have hrr : runM L F 0 (.ev [] ((L.length : Int) - 1) .nil) = ((4, 0), k + 1) := by
        cases ou with
        | fin a b => exfalso; have := hSh'.2.2.2; omega
        | go s' => rw [hsc]; exact runM_stop (by rw [(shapeR_go hSh').1]; omega)
      rw [hrr]
      exact ⟨rfl, hE⟩
    first | (simp only [decide_eq_true_eq, decide_eq_false_iff_not, Bool.not_eq_true', Bool.not_eq_false', ne_eq, Decidable.not_not, Bool.not_eq_true, Bool.not_eq_false] at q60) | (dsimp only at q60) | skip
    refine At.region rfl rfl ?_
    refine Reg.pur rfl rfl rfl rfl (Pur.mv rfl) ?_
    refine Reg.pur rfl rfl rfl rfl (Pur.nilc rfl) ?_
    refine Reg.pur rfl rfl rfl rfl (Pur.fld _ fo60_6 rfl) ?_
    refine Reg.lod rfl rfl rfl rfl (Lod.ld sc4 rfl hM'.own.blk rfl) ?_
    refine Reg.nil ?_
    refine At.cond rfl rfl (fun q67 => ?_) (fun q67 => ?_)
    · first | (simp only [decide_eq_true_eq, decide_eq_false_iff_not, Bool.not_eq_true', Bool.not_eq_false', ne_eq, Decidable.not_not, Bool.not_eq_true, Bool.not_eq_false] at q67) | (dsimp only at q67) | skip
      refine At.region rfl rfl ?_
      refine Reg.pur rfl rfl rfl rfl (Pur.mv rfl) ?_
      refine Reg.pur rfl rfl rfl rfl (Pur.nilc rfl) ?_
      refine Reg.pur rfl rfl rfl rfl (Pur.fld _ fo60_7 rfl) ?_
      refine Reg.lod rfl rfl rfl rfl (Lod.ldn ag25 rfl hM'.own.blk rfl rfl) ?_
      refine Reg.pur rfl rfl rfl rfl (Pur.mv rfl) ?_
      refine Reg.pur rfl rfl rfl rfl (Pur.add64 rfl rfl (by omega)) ?_

      refine Reg.op0 rfl rfl rfl (Does.stn ag25 rfl rfl rfl rfl o0_0 (by simp)) ?_
      rintro _ H14_6 hu14_6
      have z14_6 := hu14_6.size
      replace hE := hE.upw hu14_6 (by omega)
      replace o0_0 := hu14_6.own
      first | rw [over (by first | rfl | (simp; done))] at o0_0 | skip
      refine Reg.pur rfl rfl rfl rfl (Pur.asg rfl) ?_
      refine Reg.pur rfl rfl rfl rfl (Pur.asg rfl) ?_
      refine Reg.nil ?_
      refine At.retC rfl Try.func9 ⟨_, _, _, _, rfl, rfl, ⟨_, o0_0.blk, .inr ⟨_, _, ag25, (by first | exact whole rfl | exact whole (by simp [*])), (by first | rfl | simp [*]), rfl⟩⟩, ⟨_, _, rfl, rfl, ⟨_, _, rfl, rfl, rfl⟩⟩⟩ ?_
      cases ou with
      | go s' => have := (shapeR_go hSh').2.1; simp_all
      | fin a b =>
        obtain ⟨_, rfl, rfl, _⟩ := hSh'
        rw [hsc]
        exact ⟨rfl, hE⟩
    first | (simp only [decide_eq_true_eq, decide_eq_false_iff_not, Bool.not_eq_true', Bool.not_eq_false', ne_eq, Decidable.not_not, Bool.not_eq_true, Bool.not_eq_false] at q67) | (dsimp only at q67) | skip
    refine At.region rfl rfl ?_
    refine Reg.pur rfl rfl rfl rfl (Pur.mv rfl) ?_
    refine Reg.pur rfl rfl rfl rfl (Pur.add64 rfl rfl (by omega)) ?_
    refine Reg.pur rfl rfl rfl rfl (Pur.asg rfl) ?_
    refine Reg.nil ?_
    cases ou with
    | fin a b => have := hSh'.1; simp_all
    | go s' => exact At.meets rfl (ih (k + 1, s') _ ⟨by (show k + 1 ≤ F); omega, ⟨_, _, _, _, _, _, _, _, _, _, _, hM', hSh'⟩, hokn, by (show s'.frs.length ≤ 4096); rw [(shapeR_go hSh').1]; omega, by (show runM L (F - (k + 1)) (k + 1) s' = _); exact hsc.symm, o0_0, hE⟩ (by (show F - (k + 1) < F - k); omega)) ⟨rfl, rfl, rfl, rfl, trivial⟩
  first | (simp only [decide_eq_true_eq, decide_eq_false_iff_not, Bool.not_eq_true', Bool.not_eq_false', ne_eq, Decidable.not_not, Bool.not_eq_true, Bool.not_eq_false] at q31) | (dsimp only at q31) | skip
  obtain rfl : k = F := by omega
  rw [Nat.sub_self] at hres
  refine At.region rfl rfl ?_
  refine Reg.pur rfl rfl rfl rfl (Pur.mv rfl) ?_
  refine Reg.pur rfl rfl rfl rfl (Pur.nilc rfl) ?_
  refine Reg.pur rfl rfl rfl rfl (Pur.fld _ fo60_2 rfl) ?_
  refine Reg.lod rfl rfl rfl rfl (Lod.ld sc4 rfl hM.own.blk rfl) ?_
  refine Reg.pur rfl rfl rfl rfl (Pur.not rfl) ?_
  refine Reg.pur rfl rfl rfl rfl (Pur.mv rfl) ?_
  refine Reg.case 79 rfl (fun q79 => ?_) (fun q79 => ?_)
  · first | (simp only [decide_eq_true_eq, decide_eq_false_iff_not, Bool.not_eq_true', Bool.not_eq_false', ne_eq, Decidable.not_not, Bool.not_eq_true, Bool.not_eq_false] at q79) | (dsimp only at q79) | skip
    refine Reg.gpur rfl rfl rfl rfl rfl rfl (Pur.mv rfl) ?_
    refine Reg.gpur rfl rfl rfl rfl rfl rfl (Pur.nilc rfl) ?_
    refine Reg.gpur rfl rfl rfl rfl rfl rfl (Pur.fld _ fo60_1 rfl) ?_
    refine Reg.glod rfl rfl rfl rfl rfl rfl (Lod.ld sc54 rfl hM.own.blk rfl) ?_
    refine Reg.gpur rfl rfl rfl rfl rfl rfl (Pur.lenS isl54 rfl) ?_
    refine Reg.gpur rfl rfl rfl rfl rfl rfl (Pur.eql rfl rfl) ?_
    refine Reg.pur rfl rfl rfl rfl (Pur.pickT rfl rfl) ?_
    refine Reg.nil ?_
    refine At.cond rfl rfl (fun q86 => ?_) (fun q86 => ?_)
    · first | (simp only [decide_eq_true_eq, decide_eq_false_iff_not, Bool.not_eq_true', Bool.not_eq_false', ne_eq, Decidable.not_not, Bool.not_eq_true, Bool.not_eq_false] at q86) | (dsimp only at q86) | skip
      have hev : ev = false := by simp_all
      obtain ⟨v, rfl, hv⟩ := hs2 hev
      have hfr0 : fr = [] := by simp_all
      have h7 := hM.v7
      refine At.region rfl rfl ?_
      refine Reg.pur rfl rfl rfl rfl (Pur.mv rfl) ?_
      refine Reg.pur rfl rfl rfl rfl (Pur.nilc rfl) ?_
      refine Reg.pur rfl rfl rfl rfl (Pur.fld _ fo60_5 rfl) ?_
      refine Reg.lod rfl rfl rfl rfl (Lod.ldn ag58 rfl hM.own.blk (show _ = vc by (simp only [List.drop_succ_cons, List.drop_zero]; rw [← h7, List.take_left])) h7) ?_
      refine Reg.op rfl rfl rfl rfl (Does.call rfl (toldR_ok hv hM.fz.st)) ?_
      rintro _ H16_4 ⟨rfl, hE16_4⟩
      have z16_4 := hE16_4.lt
      replace hE := hE.ext hE16_4
      replace hM := hM.ext hE16_4
      replace o0_0 := o0_0.ext hE16_4
      refine Reg.pur rfl rfl rfl rfl (Pur.mv rfl) ?_

      refine Reg.op0 rfl rfl rfl (Does.stn ag25 rfl rfl rfl rfl o0_0 (by simp)) ?_
      rintro _ H16_6 hu16_6
      have z16_6 := hu16_6.size
      replace hE := hE.upw hu16_6 (by omega)
      replace o0_0 := hu16_6.own
      first | rw [over (by first | rfl | (simp; done))] at o0_0 | skip
      refine Reg.pur rfl rfl rfl rfl (Pur.asg rfl) ?_
      refine Reg.pur rfl rfl rfl rfl (Pur.asg rfl) ?_
      refine Reg.nil ?_
      refine At.retC rfl Try.func9 ⟨_, _, _, _, rfl, rfl, ⟨_, o0_0.blk, .inr ⟨_, _, ag25, (by first | exact whole rfl | exact whole (by simp [*])), (by first | rfl | simp [*]), rfl⟩⟩, ⟨_, _, rfl, rfl, ⟨_, _, rfl, rfl, rfl⟩⟩⟩ ?_
      subst hfr0
      rw [← hres, runM_over]
      exact ⟨rfl, hE⟩
    first | (simp only [decide_eq_true_eq, decide_eq_false_iff_not, Bool.not_eq_true', Bool.not_eq_false', ne_eq, Decidable.not_not, Bool.not_eq_true, Bool.not_eq_false] at q86) | (dsimp only at q86) | skip
    have hg : st.goes = true := by
      cases hev : ev with
      | true => obtain ⟨node, en, rfl, _⟩ := hs1 hev; rfl
      | false =>
        obtain ⟨v, rfl, _⟩ := hs2 hev
        cases fr with
        | nil => exfalso; simp_all
        | cons f r => rfl
    refine At.region rfl rfl ?_
    refine Reg.pur rfl rfl rfl rfl (Pur.bld (cs := [_, _]) pl25 zc25 rfl rfl ⟨rfl, rfl, rfl⟩) ?_
    refine Reg.pur rfl rfl rfl rfl (Pur.mv rfl) ?_

    refine Reg.op0 rfl rfl rfl (Does.stn ag25 rfl rfl rfl rfl o0_0 (by simp)) ?_
    rintro _ H17_2 hu17_2
    have z17_2 := hu17_2.size
    replace hE := hE.upw hu17_2 (by omega)
    replace o0_0 := hu17_2.own
    first | rw [over (by first | rfl | (simp; done))] at o0_0 | skip
    refine Reg.pur rfl rfl rfl rfl (Pur.asg rfl) ?_
    refine Reg.pur rfl rfl rfl rfl (Pur.asg rfl) ?_
    refine Reg.nil ?_
    refine At.retC rfl Try.func9 ⟨_, _, _, _, rfl, rfl, ⟨_, o0_0.blk, .inr ⟨_, _, ag25, (by first | exact whole rfl | exact whole (by simp [*])), (by first | rfl | simp [*]), rfl⟩⟩, ⟨_, _, rfl, rfl, ⟨_, _, rfl, rfl, rfl⟩⟩⟩ ?_
    rw [← hres, runM_zero hfl hg]
    exact ⟨rfl, hE⟩
  first | (simp only [decide_eq_true_eq, decide_eq_false_iff_not, Bool.not_eq_true', Bool.not_eq_false', ne_eq, Decidable.not_not, Bool.not_eq_true, Bool.not_eq_false] at q79) | (dsimp only at q79) | skip
  refine Reg.skip rfl rfl rfl rfl rfl rfl rfl ?_
  refine Reg.skip rfl rfl rfl rfl rfl rfl rfl ?_
  refine Reg.skip rfl rfl rfl rfl rfl rfl rfl ?_
  refine Reg.skip rfl rfl rfl rfl rfl rfl rfl ?_
  refine Reg.skip rfl rfl rfl rfl rfl rfl rfl ?_
  refine Reg.skip rfl rfl rfl rfl rfl rfl rfl ?_
  refine Reg.pur rfl rfl rfl rfl (Pur.pickF rfl rfl) ?_
  refine Reg.nil ?_
  refine At.condF rfl rfl rfl ?_
  have hg : st.goes = true := by
    cases hev : ev with
    | true => obtain ⟨node, en, rfl, _⟩ := hs1 hev; rfl
    | false =>
      obtain ⟨v, rfl, _⟩ := hs2 hev
      cases fr with
      | nil => exfalso; simp_all
      | cons f r => rfl
  refine At.region rfl rfl ?_
  refine Reg.pur rfl rfl rfl rfl (Pur.bld (cs := [_, _]) pl25 zc25 rfl rfl ⟨rfl, rfl, rfl⟩) ?_
  refine Reg.pur rfl rfl rfl rfl (Pur.mv rfl) ?_

  refine Reg.op0 rfl rfl rfl (Does.stn ag25 rfl rfl rfl rfl o0_0 (by simp)) ?_
  rintro _ H17_2 hu17_2
  have z17_2 := hu17_2.size
  replace hE := hE.upw hu17_2 (by omega)
  replace o0_0 := hu17_2.own
  first | rw [over (by first | rfl | (simp; done))] at o0_0 | skip
  refine Reg.pur rfl rfl rfl rfl (Pur.asg rfl) ?_
  refine Reg.pur rfl rfl rfl rfl (Pur.asg rfl) ?_
  refine Reg.nil ?_
  refine At.retC rfl Try.func9 ⟨_, _, _, _, rfl, rfl, ⟨_, o0_0.blk, .inr ⟨_, _, ag25, (by first | exact whole rfl | exact whole (by simp [*])), (by first | rfl | simp [*]), rfl⟩⟩, ⟨_, _, rfl, rfl, ⟨_, _, rfl, rfl, rfl⟩⟩⟩ ?_
  rw [← hres, runM_zero hfl hg]
  exact ⟨rfl, hE⟩
end Go.Proofs.Ytjhkmebmbopfoaa
