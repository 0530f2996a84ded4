/-
  The reference's Instance; chapter 10: two types that are one are found to be so.
-/
import Derived.Test.YtlfillhffpiffaaSUniMB
import Derived.Test.YtlfillhffpiffaaSUniAE
namespace Go.Proofs.Ytlfillhffpiffaa
set_option linter.unusedSimpArgs false
set_option linter.unusedVariables false
set_option maxRecDepth 8000
set_option maxHeartbeats 1000000
open Go Go.Fx Go.Proofs
namespace FactsUniMC
theorem ag25 : ag Try.prog 25 = some 1 := by kernel_rfl
theorem fo137_1 : foff Try.prog 137 1 = some 1 := by kernel_rfl
theorem fo25_0 : foff Try.prog 25 0 = some 0 := by kernel_rfl
theorem isl23 : isSl Try.prog 23 = true := by kernel_rfl
theorem pl137 : places Try.prog 137 = some [(0, 1), (1, 1)] := by kernel_rfl
theorem sc23 : sc Try.prog 23 = true := by kernel_rfl
theorem sc4 : sc Try.prog 4 = true := by kernel_rfl
theorem zc137 : zc Try.prog 137 = some [.slice none 0 0, .bool false] := by kernel_rfl
theorem zc25 : zc Try.prog 25 = some [.slice none 0 0] := by kernel_rfl
end FactsUniMC
open FactsUniMC

theorem mts_nil {H : Heap} {lo sb : Nat} (h : lo ≤ sb) : Mts H lo sb none 0 [] [] :=
  ⟨OwnS.nil _ _ _ _, (fun b hb => by cases hb), (fun b hb => by cases hb), rfl, by show (-1 : Int) ≠ sb; omega, h, fun v u hm => by cases hm⟩
def InsP (L K : List (List Int)) (H : Heap) (v : Value) (H' : Heap) : Prop :=
  (∃ b c, v = .tuple #[.bool b, I c] ∧ ∀ g s : Tm, L = g.enc 0 → K = s.enc 0 → g.ok → s.ok → g.sz ≤ 256 → s.sz ≤ 256 → c = 0 ∧ b = (inst [] g s).isSome) ∧ Ext H H'
theorem instanceR_ok {A1 A2 : Option Addr} {c1 c2 : Nat} {L K : List (List Int)} (hL : Nine L) (hK : Nine K) {H : Heap} (hS1 : SlT H Is 9 (.slice A1 L.length c1) L) (hS2 : SlT H Is 9 (.slice A2 K.length c2) K) (hl : L.length ≤ 9223372036854775807) (hk : K.length ≤ 9223372036854775807) :
    Ret Try.prog 50 [Ty A1 L.length c1, Ty A2 K.length c2] H (InsP L K H) := by
  refine Ret.of_at (N := 33) Try.call50 Try.func50 rfl rfl rfl ?_
  have hE := Ext.refl H
  refine At.region rfl rfl ?_
  refine Reg.op rfl rfl rfl rfl (Does.box rfl rfl) ?_
  rintro _ H0_0 ⟨rfl, hn0_0⟩
  have z0_0 := hn0_0.size
  replace hE := hE.ext hn0_0.ext
  have o0_0 := hn0_0.own
  refine Reg.op rfl rfl rfl rfl (Does.box rfl rfl) ?_
  rintro _ H0_1 ⟨rfl, hn0_1⟩
  have z0_1 := hn0_1.size
  replace hE := hE.ext hn0_1.ext
  replace o0_0 := o0_0.ext hn0_1.ext
  have o0_1 := hn0_1.own
  refine Reg.pur rfl rfl rfl rfl (Pur.asg rfl) ?_
  refine Reg.pur rfl rfl rfl rfl (Pur.asg rfl) ?_
  refine Reg.nil ?_
  refine At.region rfl rfl ?_
  refine Reg.lod rfl rfl rfl rfl (Lod.ldn ag25 rfl o0_0.blk (whole rfl) rfl) ?_
  refine Reg.op rfl rfl rfl rfl (Does.call rfl (typMayR_ok L hL (hS1.ext hE) hl)) ?_
  rintro _ H1_1 ⟨rfl, hE1_1⟩
  have z1_1 := hE1_1.lt
  replace hE := hE.ext hE1_1
  replace o0_0 := o0_0.ext hE1_1
  replace o0_1 := o0_1.ext hE1_1
  refine Reg.pur rfl rfl rfl rfl (Pur.not rfl) ?_
  refine Reg.pur rfl rfl rfl rfl (Pur.mv rfl) ?_
  refine Reg.case 10 rfl (fun q10 => ?_) (fun q10 => ?_)
  · first | (simp only [decide_eq_true_eq, decide_eq_false_iff_not, Bool.not_eq_true', Bool.not_eq_false', ne_eq, Decidable.not_not, Bool.not_eq_true, Bool.not_eq_false] at q10) | (dsimp only at q10) | skip
    refine Reg.skip rfl rfl rfl rfl rfl rfl rfl ?_
    refine Reg.skip rfl rfl rfl rfl rfl rfl rfl ?_
    refine Reg.skip rfl rfl rfl rfl rfl rfl rfl ?_
    refine Reg.pur rfl rfl rfl rfl (Pur.pickT rfl rfl) ?_
    refine Reg.nil ?_
    refine At.condT rfl rfl rfl ?_
    refine At.region rfl rfl ?_
    refine Reg.pur rfl rfl rfl rfl (Pur.asg rfl) ?_
    refine Reg.pur rfl rfl rfl rfl (Pur.asg rfl) ?_
    refine Reg.nil ?_
    refine At.ret rfl Try.func50 rfl ?_
    refine ⟨⟨_, _, rfl, fun g s e1 e2 h1 h2 h3 h4 => ?_⟩, hE⟩
    rw [e1, enc_typ h1 h3] at q10; cases q10
  first | (simp only [decide_eq_true_eq, decide_eq_false_iff_not, Bool.not_eq_true', Bool.not_eq_false', ne_eq, Decidable.not_not, Bool.not_eq_true, Bool.not_eq_false] at q10) | (dsimp only at q10) | skip
  refine Reg.glod rfl rfl rfl rfl rfl rfl (Lod.ldn ag25 rfl o0_1.blk (whole rfl) rfl) ?_
  refine Reg.gop rfl rfl rfl rfl rfl rfl (Does.call rfl (typMayR_ok K hK (hS2.ext hE) hk)) ?_
  rintro _ H1_5 ⟨rfl, hE1_5⟩
  have z1_5 := hE1_5.lt
  replace hE := hE.ext hE1_5
  replace o0_0 := o0_0.ext hE1_5
  replace o0_1 := o0_1.ext hE1_5
  refine Reg.gpur rfl rfl rfl rfl rfl rfl (Pur.not rfl) ?_
  refine Reg.pur rfl rfl rfl rfl (Pur.pickF rfl rfl) ?_
  refine Reg.nil ?_
  refine At.cond rfl rfl (fun q14 => ?_) (fun q14 => ?_)
  · first | (simp only [decide_eq_true_eq, decide_eq_false_iff_not, Bool.not_eq_true', Bool.not_eq_false', ne_eq, Decidable.not_not, Bool.not_eq_true, Bool.not_eq_false] at q14) | (dsimp only at q14) | skip
    refine At.region rfl rfl ?_
    refine Reg.pur rfl rfl rfl rfl (Pur.asg rfl) ?_
    refine Reg.pur rfl rfl rfl rfl (Pur.asg rfl) ?_
    refine Reg.nil ?_
    refine At.ret rfl Try.func50 rfl ?_
    refine ⟨⟨_, _, rfl, fun g s e1 e2 h1 h2 h3 h4 => ?_⟩, hE⟩
    rw [e2, enc_typ h2 h4] at q14; cases q14
  first | (simp only [decide_eq_true_eq, decide_eq_false_iff_not, Bool.not_eq_true', Bool.not_eq_false', ne_eq, Decidable.not_not, Bool.not_eq_true, Bool.not_eq_false] at q14) | (dsimp only at q14) | skip
  obtain ⟨g, hg, rfl, hgz⟩ := typ_dec hL q10
  obtain ⟨s, hs, rfl, hsz⟩ := typ_dec hK q14
  have hgn := g.enc_len 0
  have hsn := s.enc_len 0
  have hg1 := g.sz_pos
  have hs1 := s.sz_pos
  have hl1 := hS1.lt
  have hl2 := hS2.lt
  refine At.region rfl rfl ?_
  refine Reg.pur rfl rfl rfl rfl (Pur.bld (cs := [_, _]) pl137 zc137 rfl rfl ⟨rfl, rfl, rfl⟩) ?_
  refine Reg.op rfl rfl rfl rfl (Does.box rfl rfl) ?_
  rintro _ H3_1 ⟨rfl, hn3_1⟩
  have z3_1 := hn3_1.size
  replace hE := hE.ext hn3_1.ext
  replace o0_0 := o0_0.ext hn3_1.ext
  replace o0_1 := o0_1.ext hn3_1.ext
  have o3_1 := hn3_1.own
  refine Reg.pur rfl rfl rfl rfl (Pur.asg rfl) ?_
  refine Reg.nil ?_
  have hcall := mwalk_ok g.sz (gt := g) (st := s) (lo := H.size) (pre := []) (post := []) (pre' := []) (post' := []) (Nat.le_refl _) (mts_nil (by omega)) o3_1 (by simp; omega) hg hs (L := g.enc 0) (K := s.enc 0) (by simp) (by simp) hL hK (by omega) (by omega) (hS1.ext hE) (hS2.ext hE) (by omega) (by omega)
  rw [show ((([] : List (List Int)).length : Int) + g.sz - 1) = ((g.enc 0).length : Int) - 1 by simp [hgn], show ((([] : List (List Int)).length : Int) + s.sz - 1) = ((s.enc 0).length : Int) - 1 by simp [hsn]] at hcall
  refine At.region rfl rfl ?_
  refine Reg.pur rfl rfl rfl rfl (Pur.mv rfl) ?_
  refine Reg.lod rfl rfl rfl rfl (Lod.ldn ag25 rfl o0_0.blk (whole rfl) rfl) ?_
  refine Reg.pur rfl rfl rfl rfl (Pur.fld _ fo25_0 rfl) ?_
  refine Reg.lod rfl rfl rfl rfl (Lod.ld sc23 rfl o0_0.blk rfl) ?_
  refine Reg.pur rfl rfl rfl rfl (Pur.lenS isl23 rfl) ?_
  first | refine Reg.pur rfl rfl rfl rfl (Pur.sub64 rfl rfl (by omega)) ?_ | refine Reg.pur rfl rfl rfl rfl (Pur.sub64 rfl rfl (by assumption)) ?_ | refine Reg.pur rfl rfl rfl rfl (Pur.sub rfl rfl) ?_
  refine Reg.lod rfl rfl rfl rfl (Lod.ldn ag25 rfl o0_1.blk (whole rfl) rfl) ?_
  refine Reg.pur rfl rfl rfl rfl (Pur.fld _ fo25_0 rfl) ?_
  refine Reg.lod rfl rfl rfl rfl (Lod.ld sc23 rfl o0_1.blk rfl) ?_
  refine Reg.pur rfl rfl rfl rfl (Pur.lenS isl23 rfl) ?_
  first | refine Reg.pur rfl rfl rfl rfl (Pur.sub64 rfl rfl (by omega)) ?_ | refine Reg.pur rfl rfl rfl rfl (Pur.sub64 rfl rfl (by assumption)) ?_ | refine Reg.pur rfl rfl rfl rfl (Pur.sub rfl rfl) ?_
  refine Reg.op rfl rfl rfl rfl (Does.call rfl (hcall)) ?_
  rintro w4_11 H4_11 hP
  obtain ⟨A5, cp5, Bs5, M5, ok5, hMt5, ho5, hM5, hl5, hk5, hMM5⟩ := hP

  refine Reg.nil ?_
  refine At.region rfl rfl ?_
  refine Reg.pur rfl rfl rfl rfl (Pur.mv rfl) ?_
  refine Reg.pur rfl rfl rfl rfl (Pur.nilc rfl) ?_
  refine Reg.pur rfl rfl rfl rfl (Pur.fld _ fo137_1 rfl) ?_
  refine Reg.lod rfl rfl rfl rfl (Lod.ld sc4 rfl ho5.blk rfl) ?_
  refine Reg.pur rfl rfl rfl rfl (Pur.asg rfl) ?_
  refine Reg.pur rfl rfl rfl rfl (Pur.asg rfl) ?_
  refine Reg.nil ?_
  refine At.ret rfl Try.func50 rfl ?_
  refine ⟨⟨_, _, rfl, fun g' s' e1 e2 h1 h2 h3 h4 => ?_⟩, hE.via hM5.1 (fun g hg h => by rw [ob_none] at h; omega)⟩
  obtain rfl := enc_inj hg h1 hgz e1
  obtain rfl := enc_inj hs h2 hsz e2
  exact ⟨rfl, by rw [hk5]; rfl⟩
/-- binds that may be are trees -/
theorem binds_tree : ∀ {Bs : List Bd}, (∀ b ∈ Bs, Nine b.nodes ∧ b.row.length = 5) → Bs.all bindM = true → ∃ Ts : List Bt, Bs.map pl = Ts.map Bt.pl ∧ ∀ b ∈ Ts, b.ok
  | [], _, _ => ⟨[], rfl, fun b hb => by cases hb⟩
  | b :: Bs, h, hb => by
    rw [List.all_cons, Bool.and_eq_true] at hb
    obtain ⟨Ts, h1, h2⟩ := binds_tree (fun x hx => h x (List.mem_cons_of_mem _ hx)) hb.2
    obtain ⟨h9, h5⟩ := h b List.mem_cons_self
    have hm := hb.1
    unfold bindM at hm
    rw [Bool.and_eq_true] at hm
    cases hr : b.isRow with
    | true =>
      rw [hr] at hm
      simp only [if_true, Bool.and_eq_true, decide_eq_true_eq] at hm
      refine ⟨.r b.var b.row :: Ts, ?_, fun x hx => ?_⟩
      · rw [List.map_cons, List.map_cons, h1]
        congr 1
        unfold pl Bt.pl
        rw [hr, List.eq_nil_of_length_eq_zero hm.2.1]
      · rcases List.mem_cons.1 hx with rfl | hx
        · exact ⟨h5, hm.2.2⟩
        · exact h2 x hx
    | false =>
      rw [hr] at hm
      simp only [Bool.false_eq_true, if_false, Bool.and_eq_true, decide_eq_true_eq] at hm
      obtain ⟨t, ht, hn, hz⟩ := typ_dec h9 hm.2.2
      refine ⟨.t b.var t :: Ts, ?_, fun x hx => ?_⟩
      · rw [List.map_cons, List.map_cons, h1]
        congr 1
        unfold pl Bt.pl
        rw [hr, hm.2.1, hn]
      · rcases List.mem_cons.1 hx with rfl | hx
        · exact ⟨ht, hz⟩
        · exact h2 x hx
theorem subT_some {Bs : List Bd} {L X : List (List Int)} (h : subT Bs L = some X) : bindsM Bs = true ∧ typM L = true := by
  unfold subT at h
  split at h
  · assumption
  · cases h
theorem finds_plain {T U W : List (List Int)} {Bs Cs : List Bd} {r : Except Int (List Bt)} (hB : ∀ b ∈ Bs, Nine b.nodes ∧ b.row.length = 5) (hC : ∀ b ∈ Cs, Nine b.nodes ∧ b.row.length = 5) (hT : Nine T) (h1 : subT Bs T = some U) (h2 : subT Cs U = some W) (h3 : subT Cs T = some W) (hr : Unf T U 60 r) (hc : codU r ≠ 1003) (hc0 : codU r ≠ 1000) :
    codU r = 0 ∧ ∀ Ps X, Ps.map pl = (bndU r).map Bt.pl → subT Ps T = some X → ∃ g s : Tm, X = g.enc 0 ∧ W = s.enc 0 ∧ g.ok ∧ s.ok ∧ g.sz ≤ 256 ∧ s.sz ≤ 256 ∧ (inst [] g s).isSome = true := by
  obtain ⟨hb1, hT1⟩ := subT_some h1
  obtain ⟨hc1, hU1⟩ := subT_some h2
  unfold bindsM at hb1 hc1
  rw [Bool.and_eq_true] at hb1 hc1
  obtain ⟨Ts, k1, k2⟩ := binds_tree hB hb1.2
  obtain ⟨Us, k3, k4⟩ := binds_tree hC hc1.2
  obtain ⟨t, ht, rfl, htz⟩ := typ_dec hT hT1
  obtain ⟨u, hu, rfl⟩ := subT_tys k1 k2 h1
  have huo := sub_ok k2 ht (tys_sub hu).1
  have huz := (tys_sub hu).2
  obtain ⟨w, hw, rfl⟩ := subT_tys k3 k4 h2
  obtain ⟨w', hw', e⟩ := subT_tys k3 k4 h3
  have hwo := sub_ok k4 huo (tys_sub hw).1
  have hwo' := sub_ok k4 ht (tys_sub hw').1
  obtain rfl := enc_inj hwo hwo' (tys_sub hw).2 e
  have e1 := sub_asg k4 huo (tys_sub hw).1
  have e2 := sub_asg k4 ht (tys_sub hw').1
  generalize hL : t.enc 0 = L at hr
  generalize hM : u.enc 0 = M at hr
  cases hr with
  | no _ => exact (hc0 rfl).elim
  | @yes t' u' n x h0 h1' ht' htz' hL' hu' huz' hM' hlt hlu hx =>
    obtain rfl := enc_inj ht ht' htz (hL.trans hL')
    obtain rfl := enc_inj huo hu' huz (hM.trans hM')
    rcases uniU_finds h0 (by decide) ht huo hlt hlu (asg_ok k4) (e2.trans e1.symm) hx with rfl | ⟨s, θ, rfl, p1, p2, p3⟩
    · exact (hc rfl).elim
    · refine ⟨rfl, fun Ps X hP hX => ?_⟩
      subst hL
      obtain ⟨g, hg, rfl⟩ := subT_tys hP p3.inv.ok hX
      have hgo := sub_ok p3.inv.ok ht (tys_sub hg).1
      obtain ⟨M', hM', _⟩ := inst_of p1 hgo hwo (has_nil θ) ((p2 g hg).trans e2)
      exact ⟨g, w, rfl, rfl, hgo, hwo, (tys_sub hg).2, (tys_sub hw).2, by rw [hM']; rfl⟩
theorem unifyFinds_law {A B C : Option Addr} {ca cb cc : Nat} {T : List (List Int)} {Bs Cs : List Bd} (hT : Nine T) {H : Heap} (hS : SlT H Is 9 (.slice A T.length ca) T) (hl : T.length * 72 ≤ 140737488351232) (hB : Bds H (.slice B Bs.length cb) Bs) (hC : Bds H (.slice C Cs.length cc) Cs) :
    Ret Try.prog 16 [Ty A T.length ca, .slice B Bs.length cb, .slice C Cs.length cc] H (fun v H' => v = .bool true ∧ Ext H H') := by
  refine Ret.of_at (N := 104) Try.call16 Try.func16 rfl rfl rfl ?_
  have hE := Ext.refl H
  refine At.region rfl rfl ?_
  refine Reg.op rfl rfl rfl rfl (Does.box rfl rfl) ?_
  rintro _ H0_0 ⟨rfl, hn0_0⟩
  have z0_0 := hn0_0.size
  replace hE := hE.ext hn0_0.ext
  have o0_0 := hn0_0.own
  refine Reg.pur rfl rfl rfl rfl (Pur.asg rfl) ?_
  refine Reg.nil ?_
  refine At.region rfl rfl ?_
  refine Reg.op rfl rfl rfl rfl (Does.call rfl (awake10_ok _)) ?_
  rintro _ H1_0 ⟨rfl, hE1_0⟩
  have z1_0 := hE1_0.lt
  replace hE := hE.ext hE1_0
  replace o0_0 := o0_0.ext hE1_0
  refine Reg.pur rfl rfl rfl rfl (Pur.not rfl) ?_
  refine Reg.nil ?_
  refine At.condF rfl rfl rfl ?_
  refine At.region rfl rfl ?_
  refine Reg.pur rfl rfl rfl rfl (Pur.mv rfl) ?_
  refine Reg.lod rfl rfl rfl rfl (Lod.ldn ag25 rfl o0_0.blk (whole rfl) rfl) ?_
  refine Reg.op rfl rfl rfl rfl (Does.call rfl (typeR_ok (hB.ext hE) (hS.ext hE) hT hl)) ?_
  rintro v3_2 H3_2 ⟨hE3_2, hT3_2⟩
  have z3_2 := hE3_2.lt
  replace hE := hE.ext hE3_2
  replace o0_0 := o0_0.ext hE3_2
  generalize hX : subT Bs T = U0 at hT3_2
  obtain ⟨A7, k7, rfl, hg7, hN7, hl7⟩ := hT3_2
  have hgl7 := hg7.lt
  have hs7 := own_sl (wide9 hN7) (by decide) hg7
  have z_hs7 := hs7.lt
  refine Reg.pur rfl rfl rfl rfl (Pur.mv rfl) ?_
  refine Reg.pur rfl rfl rfl rfl (Pur.ext rfl rfl) ?_
  refine Reg.pur rfl rfl rfl rfl (Pur.ext rfl rfl) ?_
  refine Reg.op rfl rfl rfl rfl (Does.alloc zc25) ?_
  rintro _ H3_6 ⟨rfl, hn3_6⟩
  have z3_6 := hn3_6.size
  replace hE := hE.ext hn3_6.ext
  replace o0_0 := o0_0.ext hn3_6.ext
  replace hs7 := hs7.ext hn3_6.ext
  have o3_6 := hn3_6.own
  refine Reg.op0 rfl rfl rfl (Does.stn ag25 rfl rfl (by first | rfl | exact ones_Is _) (by first | rfl | (simp [*]; done)) o3_6 (by first | decide | (simp; done) | (simp; omega) | omega)) ?_
  rintro _ H3_7 hu3_7
  have z3_7 := hu3_7.size
  replace hE := hE.upw hu3_7 (by omega)
  replace o0_0 := o0_0.upw hu3_7 (by omega)
  replace hs7 := hs7.upw hu3_7 (by omega)
  replace o3_6 := hu3_7.own
  first | rw [over (by first | rfl | (simp; done))] at o3_6 | skip
  refine Reg.pur rfl rfl rfl rfl (Pur.asg rfl) ?_
  refine Reg.nil ?_
  refine At.region rfl rfl ?_
  refine Reg.pur rfl rfl rfl rfl (Pur.mv rfl) ?_
  refine Reg.pur rfl rfl rfl rfl (Pur.neq rfl rfl) ?_
  refine Reg.nil ?_
  refine At.cond rfl rfl (fun q28 => ?_) (fun q28 => ?_)
  · first | (simp only [decide_eq_true_eq, decide_eq_false_iff_not, Bool.not_eq_true', Bool.not_eq_false', ne_eq, Decidable.not_not, Bool.not_eq_true, Bool.not_eq_false] at q28) | (dsimp only at q28) | skip
    refine At.region rfl rfl ?_
    refine Reg.pur rfl rfl rfl rfl (Pur.asg rfl) ?_
    refine Reg.nil ?_
    refine At.ret rfl Try.func16 rfl ?_
    exact ⟨rfl, hE⟩
  first | (simp only [decide_eq_true_eq, decide_eq_false_iff_not, Bool.not_eq_true', Bool.not_eq_false', ne_eq, Decidable.not_not, Bool.not_eq_true, Bool.not_eq_false] at q28) | (dsimp only at q28) | skip
  obtain ⟨U, rfl⟩ : ∃ U, U0 = some U := by { cases U0 with | none => cases q28 | some X1 => exact ⟨X1, rfl⟩ }
  change Nine U at hN7
  change U.length ≤ 256 at hl7
  change SlT _ Is 9 (.slice A7 U.length k7) U at hs7
  refine At.region rfl rfl ?_
  refine Reg.pur rfl rfl rfl rfl (Pur.mv rfl) ?_
  refine Reg.lod rfl rfl rfl rfl (Lod.ldn ag25 rfl o3_6.blk (whole rfl) rfl) ?_
  refine Reg.op rfl rfl rfl rfl (Does.call rfl (typeR_ok (L := U) (hC.ext hE) hs7 hN7 (by omega))) ?_
  rintro v6_2 H6_2 ⟨hE6_2, hT6_2⟩
  have z6_2 := hE6_2.lt
  replace hE := hE.ext hE6_2
  replace o0_0 := o0_0.ext hE6_2
  replace hs7 := hs7.ext hE6_2
  replace o3_6 := o3_6.ext hE6_2
  generalize hY : subT Cs U = W0 at hT6_2
  obtain ⟨A9, k9, rfl, hg9, hN9, hl9⟩ := hT6_2
  have hgl9 := hg9.lt
  have hs9 := own_sl (wide9 hN9) (by decide) hg9
  have z_hs9 := hs9.lt
  refine Reg.pur rfl rfl rfl rfl (Pur.mv rfl) ?_
  refine Reg.pur rfl rfl rfl rfl (Pur.ext rfl rfl) ?_
  refine Reg.pur rfl rfl rfl rfl (Pur.ext rfl rfl) ?_
  refine Reg.op rfl rfl rfl rfl (Does.alloc zc25) ?_
  rintro _ H6_6 ⟨rfl, hn6_6⟩
  have z6_6 := hn6_6.size
  replace hE := hE.ext hn6_6.ext
  replace o0_0 := o0_0.ext hn6_6.ext
  replace hs7 := hs7.ext hn6_6.ext
  replace o3_6 := o3_6.ext hn6_6.ext
  replace hs9 := hs9.ext hn6_6.ext
  have o6_6 := hn6_6.own
  refine Reg.op0 rfl rfl rfl (Does.stn ag25 rfl rfl (by first | rfl | exact ones_Is _) (by first | rfl | (simp [*]; done)) o6_6 (by first | decide | (simp; done) | (simp; omega) | omega)) ?_
  rintro _ H6_7 hu6_7
  have z6_7 := hu6_7.size
  replace hE := hE.upw hu6_7 (by omega)
  replace o0_0 := o0_0.upw hu6_7 (by omega)
  replace hs7 := hs7.upw hu6_7 (by omega)
  replace o3_6 := o3_6.upw hu6_7 (by omega)
  replace hs9 := hs9.upw hu6_7 (by omega)
  replace o6_6 := hu6_7.own
  first | rw [over (by first | rfl | (simp; done))] at o6_6 | skip
  refine Reg.pur rfl rfl rfl rfl (Pur.asg rfl) ?_
  refine Reg.nil ?_
  refine At.region rfl rfl ?_
  refine Reg.pur rfl rfl rfl rfl (Pur.mv rfl) ?_
  refine Reg.lod rfl rfl rfl rfl (Lod.ldn ag25 rfl o0_0.blk (whole rfl) rfl) ?_
  refine Reg.op rfl rfl rfl rfl (Does.call rfl (typeR_ok (hC.ext hE) (hS.ext hE) hT hl)) ?_
  rintro v7_2 H7_2 ⟨hE7_2, hT7_2⟩
  have z7_2 := hE7_2.lt
  replace hE := hE.ext hE7_2
  replace o0_0 := o0_0.ext hE7_2
  replace hs7 := hs7.ext hE7_2
  replace o3_6 := o3_6.ext hE7_2
  replace hs9 := hs9.ext hE7_2
  replace o6_6 := o6_6.ext hE7_2
  generalize hZ : subT Cs T = Z0 at hT7_2
  obtain ⟨A11, k11, rfl, hg11, hN11, hl11⟩ := hT7_2
  have hgl11 := hg11.lt
  have hs11 := own_sl (wide9 hN11) (by decide) hg11
  have z_hs11 := hs11.lt
  refine Reg.pur rfl rfl rfl rfl (Pur.mv rfl) ?_
  refine Reg.pur rfl rfl rfl rfl (Pur.ext rfl rfl) ?_
  refine Reg.pur rfl rfl rfl rfl (Pur.ext rfl rfl) ?_
  refine Reg.op rfl rfl rfl rfl (Does.alloc zc25) ?_
  rintro _ H7_6 ⟨rfl, hn7_6⟩
  have z7_6 := hn7_6.size
  replace hE := hE.ext hn7_6.ext
  replace o0_0 := o0_0.ext hn7_6.ext
  replace hs7 := hs7.ext hn7_6.ext
  replace o3_6 := o3_6.ext hn7_6.ext
  replace hs9 := hs9.ext hn7_6.ext
  replace o6_6 := o6_6.ext hn7_6.ext
  replace hs11 := hs11.ext hn7_6.ext
  have o7_6 := hn7_6.own
  refine Reg.op0 rfl rfl rfl (Does.stn ag25 rfl rfl (by first | rfl | exact ones_Is _) (by first | rfl | (simp [*]; done)) o7_6 (by first | decide | (simp; done) | (simp; omega) | omega)) ?_
  rintro _ H7_7 hu7_7
  have z7_7 := hu7_7.size
  replace hE := hE.upw hu7_7 (by omega)
  replace o0_0 := o0_0.upw hu7_7 (by omega)
  replace hs7 := hs7.upw hu7_7 (by omega)
  replace o3_6 := o3_6.upw hu7_7 (by omega)
  replace hs9 := hs9.upw hu7_7 (by omega)
  replace o6_6 := o6_6.upw hu7_7 (by omega)
  replace hs11 := hs11.upw hu7_7 (by omega)
  replace o7_6 := hu7_7.own
  first | rw [over (by first | rfl | (simp; done))] at o7_6 | skip
  refine Reg.pur rfl rfl rfl rfl (Pur.asg rfl) ?_
  refine Reg.nil ?_
  refine At.region rfl rfl ?_
  refine Reg.pur rfl rfl rfl rfl (Pur.mv rfl) ?_
  refine Reg.pur rfl rfl rfl rfl (Pur.neq rfl rfl) ?_
  refine Reg.pur rfl rfl rfl rfl (Pur.mv rfl) ?_
  refine Reg.case 43 rfl (fun q43 => ?_) (fun q43 => ?_)
  · first | (simp only [decide_eq_true_eq, decide_eq_false_iff_not, Bool.not_eq_true', Bool.not_eq_false', ne_eq, Decidable.not_not, Bool.not_eq_true, Bool.not_eq_false] at q43) | (dsimp only at q43) | skip
    refine Reg.skip rfl rfl rfl rfl rfl rfl rfl ?_
    refine Reg.skip rfl rfl rfl rfl rfl rfl rfl ?_
    refine Reg.pur rfl rfl rfl rfl (Pur.pickT rfl rfl) ?_
    refine Reg.pur rfl rfl rfl rfl (Pur.mv rfl) ?_
    refine Reg.skip rfl rfl rfl rfl rfl rfl rfl ?_
    refine Reg.skip rfl rfl rfl rfl rfl rfl rfl ?_
    refine Reg.skip rfl rfl rfl rfl rfl rfl rfl ?_
    refine Reg.skip rfl rfl rfl rfl rfl rfl rfl ?_
    refine Reg.pur rfl rfl rfl rfl (Pur.pickT rfl rfl) ?_
    refine Reg.pur rfl rfl rfl rfl (Pur.mv rfl) ?_
    refine Reg.skip rfl rfl rfl rfl rfl rfl rfl ?_
    refine Reg.skip rfl rfl rfl rfl rfl rfl rfl ?_
    refine Reg.skip rfl rfl rfl rfl rfl rfl rfl ?_
    refine Reg.skip rfl rfl rfl rfl rfl rfl rfl ?_
    refine Reg.skip rfl rfl rfl rfl rfl rfl rfl ?_
    refine Reg.skip rfl rfl rfl rfl rfl rfl rfl ?_
    refine Reg.skip rfl rfl rfl rfl rfl rfl rfl ?_
    refine Reg.skip rfl rfl rfl rfl rfl rfl rfl ?_
    refine Reg.pur rfl rfl rfl rfl (Pur.pickT rfl rfl) ?_
    refine Reg.nil ?_
    refine At.condT rfl rfl rfl ?_
    refine At.region rfl rfl ?_
    refine Reg.pur rfl rfl rfl rfl (Pur.asg rfl) ?_
    refine Reg.nil ?_
    refine At.ret rfl Try.func16 rfl ?_
    exact ⟨rfl, hE⟩
  first | (simp only [decide_eq_true_eq, decide_eq_false_iff_not, Bool.not_eq_true', Bool.not_eq_false', ne_eq, Decidable.not_not, Bool.not_eq_true, Bool.not_eq_false] at q43) | (dsimp only at q43) | skip
  refine Reg.gpur rfl rfl rfl rfl rfl rfl (Pur.mv rfl) ?_
  refine Reg.gpur rfl rfl rfl rfl rfl rfl (Pur.neq rfl rfl) ?_
  refine Reg.pur rfl rfl rfl rfl (Pur.pickF rfl rfl) ?_
  refine Reg.pur rfl rfl rfl rfl (Pur.mv rfl) ?_
  refine Reg.case 47 rfl (fun q47 => ?_) (fun q47 => ?_)
  · first | (simp only [decide_eq_true_eq, decide_eq_false_iff_not, Bool.not_eq_true', Bool.not_eq_false', ne_eq, Decidable.not_not, Bool.not_eq_true, Bool.not_eq_false] at q47) | (dsimp only at q47) | skip
    refine Reg.skip rfl rfl rfl rfl rfl rfl rfl ?_
    refine Reg.skip rfl rfl rfl rfl rfl rfl rfl ?_
    refine Reg.skip rfl rfl rfl rfl rfl rfl rfl ?_
    refine Reg.skip rfl rfl rfl rfl rfl rfl rfl ?_
    refine Reg.pur rfl rfl rfl rfl (Pur.pickT rfl rfl) ?_
    refine Reg.pur rfl rfl rfl rfl (Pur.mv rfl) ?_
    refine Reg.skip rfl rfl rfl rfl rfl rfl rfl ?_
    refine Reg.skip rfl rfl rfl rfl rfl rfl rfl ?_
    refine Reg.skip rfl rfl rfl rfl rfl rfl rfl ?_
    refine Reg.skip rfl rfl rfl rfl rfl rfl rfl ?_
    refine Reg.skip rfl rfl rfl rfl rfl rfl rfl ?_
    refine Reg.skip rfl rfl rfl rfl rfl rfl rfl ?_
    refine Reg.skip rfl rfl rfl rfl rfl rfl rfl ?_
    refine Reg.skip rfl rfl rfl rfl rfl rfl rfl ?_
    refine Reg.pur rfl rfl rfl rfl (Pur.pickT rfl rfl) ?_
    refine Reg.nil ?_
    refine At.condT rfl rfl rfl ?_
    refine At.region rfl rfl ?_
    refine Reg.pur rfl rfl rfl rfl (Pur.asg rfl) ?_
    refine Reg.nil ?_
    refine At.ret rfl Try.func16 rfl ?_
    exact ⟨rfl, hE⟩
  first | (simp only [decide_eq_true_eq, decide_eq_false_iff_not, Bool.not_eq_true', Bool.not_eq_false', ne_eq, Decidable.not_not, Bool.not_eq_true, Bool.not_eq_false] at q47) | (dsimp only at q47) | skip
  refine Reg.glod rfl rfl rfl rfl rfl rfl (Lod.ldn ag25 rfl o6_6.blk (whole rfl) rfl) ?_
  refine Reg.glod rfl rfl rfl rfl rfl rfl (Lod.ldn ag25 rfl o7_6.blk (whole rfl) rfl) ?_
  refine Reg.gop rfl rfl rfl rfl rfl rfl (Does.call rfl (sameType_ok hN9 hN11 hs9 hs11 (by omega))) ?_
  rintro _ H8_9 ⟨rfl, hE8_9⟩
  have z8_9 := hE8_9.lt
  replace hE := hE.ext hE8_9
  replace o0_0 := o0_0.ext hE8_9
  replace hs7 := hs7.ext hE8_9
  replace o3_6 := o3_6.ext hE8_9
  replace hs9 := hs9.ext hE8_9
  replace o6_6 := o6_6.ext hE8_9
  replace hs11 := hs11.ext hE8_9
  replace o7_6 := o7_6.ext hE8_9
  refine Reg.gpur rfl rfl rfl rfl rfl rfl (Pur.not rfl) ?_
  refine Reg.pur rfl rfl rfl rfl (Pur.pickF rfl rfl) ?_
  refine Reg.pur rfl rfl rfl rfl (Pur.mv rfl) ?_
  refine Reg.case 53 rfl (fun q53 => ?_) (fun q53 => ?_)
  · first | (simp only [decide_eq_true_eq, decide_eq_false_iff_not, Bool.not_eq_true', Bool.not_eq_false', ne_eq, Decidable.not_not, Bool.not_eq_true, Bool.not_eq_false] at q53) | (dsimp only at q53) | skip
    refine Reg.skip rfl rfl rfl rfl rfl rfl rfl ?_
    refine Reg.skip rfl rfl rfl rfl rfl rfl rfl ?_
    refine Reg.skip rfl rfl rfl rfl rfl rfl rfl ?_
    refine Reg.skip rfl rfl rfl rfl rfl rfl rfl ?_
    refine Reg.skip rfl rfl rfl rfl rfl rfl rfl ?_
    refine Reg.skip rfl rfl rfl rfl rfl rfl rfl ?_
    refine Reg.skip rfl rfl rfl rfl rfl rfl rfl ?_
    refine Reg.skip rfl rfl rfl rfl rfl rfl rfl ?_
    refine Reg.pur rfl rfl rfl rfl (Pur.pickT rfl rfl) ?_
    refine Reg.nil ?_
    refine At.condT rfl rfl rfl ?_
    refine At.region rfl rfl ?_
    refine Reg.pur rfl rfl rfl rfl (Pur.asg rfl) ?_
    refine Reg.nil ?_
    refine At.ret rfl Try.func16 rfl ?_
    exact ⟨rfl, hE⟩
  first | (simp only [decide_eq_true_eq, decide_eq_false_iff_not, Bool.not_eq_true', Bool.not_eq_false', ne_eq, Decidable.not_not, Bool.not_eq_true, Bool.not_eq_false] at q53) | (dsimp only at q53) | skip
  refine Reg.gpur rfl rfl rfl rfl rfl rfl (Pur.fld _ fo25_0 rfl) ?_
  refine Reg.glod rfl rfl rfl rfl rfl rfl (Lod.ld sc23 rfl o0_0.blk rfl) ?_
  refine Reg.gpur rfl rfl rfl rfl rfl rfl (Pur.lenS isl23 rfl) ?_
  refine Reg.gpur rfl rfl rfl rfl rfl rfl (Pur.fld _ fo25_0 rfl) ?_
  refine Reg.glod rfl rfl rfl rfl rfl rfl (Lod.ld sc23 rfl o3_6.blk rfl) ?_
  refine Reg.gpur rfl rfl rfl rfl rfl rfl (Pur.lenS isl23 rfl) ?_
  first | refine Reg.gpur rfl rfl rfl rfl rfl rfl (Pur.add64 rfl rfl (by omega)) ?_ | refine Reg.gpur rfl rfl rfl rfl rfl rfl (Pur.add64 rfl rfl (by assumption)) ?_ | refine Reg.gpur rfl rfl rfl rfl rfl rfl (Pur.add rfl rfl) ?_
  refine Reg.gpur rfl rfl rfl rfl rfl rfl (Pur.gtr rfl rfl) ?_
  refine Reg.pur rfl rfl rfl rfl (Pur.pickF rfl rfl) ?_
  refine Reg.nil ?_
  refine At.cond rfl rfl (fun q62 => ?_) (fun q62 => ?_)
  · first | (simp only [decide_eq_true_eq, decide_eq_false_iff_not, Bool.not_eq_true', Bool.not_eq_false', ne_eq, Decidable.not_not, Bool.not_eq_true, Bool.not_eq_false] at q62) | (dsimp only at q62) | skip
    refine At.region rfl rfl ?_
    refine Reg.pur rfl rfl rfl rfl (Pur.asg rfl) ?_
    refine Reg.nil ?_
    refine At.ret rfl Try.func16 rfl ?_
    exact ⟨rfl, hE⟩
  first | (simp only [decide_eq_true_eq, decide_eq_false_iff_not, Bool.not_eq_true', Bool.not_eq_false', ne_eq, Decidable.not_not, Bool.not_eq_true, Bool.not_eq_false] at q62) | (dsimp only at q62) | skip
  obtain ⟨W, rfl⟩ : ∃ W, W0 = some W := by { cases W0 with | none => cases q43 | some X1 => exact ⟨X1, rfl⟩ }
  obtain ⟨Z, rfl⟩ : ∃ Z, Z0 = some Z := by { cases Z0 with | none => cases q47 | some X1 => exact ⟨X1, rfl⟩ }
  obtain rfl : W = Z := by simpa using q53
  obtain ⟨r, hr⟩ := unf_ex 60 hT hN7
  refine At.region rfl rfl ?_
  refine Reg.lod rfl rfl rfl rfl (Lod.ldn ag25 rfl o0_0.blk (whole rfl) rfl) ?_
  refine Reg.lod rfl rfl rfl rfl (Lod.ldn ag25 rfl o3_6.blk (whole rfl) rfl) ?_
  refine Reg.op rfl rfl rfl rfl (Does.call rfl (unify_ok (M := U) hT hN7 (hS.ext hE) hs7 (by omega) (by omega) hr)) ?_
  rintro v10_2 H10_2 ⟨hU, hE10_2⟩
  have z10_2 := hE10_2.lt
  replace hE := hE.ext hE10_2
  replace o0_0 := o0_0.ext hE10_2
  replace hs7 := hs7.ext hE10_2
  replace o3_6 := o3_6.ext hE10_2
  replace hs9 := hs9.ext hE10_2
  replace o6_6 := o6_6.ext hE10_2
  replace hs11 := hs11.ext hE10_2
  replace o7_6 := o7_6.ext hE10_2
  obtain ⟨A2, k2, Ps, sb2, rfl, hSl⟩ := hU.un
  have hE10 := Ext.refl H10_2
  have z_hE10 := hE10.lt
  refine Reg.pur rfl rfl rfl rfl (Pur.mv rfl) ?_
  refine Reg.pur rfl rfl rfl rfl (Pur.ext rfl rfl) ?_
  refine Reg.pur rfl rfl rfl rfl (Pur.ext rfl rfl) ?_
  refine Reg.pur rfl rfl rfl rfl (Pur.asg rfl) ?_
  refine Reg.pur rfl rfl rfl rfl (Pur.asg rfl) ?_
  refine Reg.nil ?_
  refine At.region rfl rfl ?_
  refine Reg.pur rfl rfl rfl rfl (Pur.mv rfl) ?_
  refine Reg.op rfl rfl rfl rfl (Does.call rfl (numE_ok _ _)) ?_
  rintro _ H10_2 ⟨rfl, rfl⟩
  refine Reg.pur rfl rfl rfl rfl (Pur.eql rfl rfl) ?_
  refine Reg.pur rfl rfl rfl rfl (Pur.mv rfl) ?_
  refine Reg.case 72 rfl (fun q72 => ?_) (fun q72 => ?_)
  · first | (simp only [decide_eq_true_eq, decide_eq_false_iff_not, Bool.not_eq_true', Bool.not_eq_false', ne_eq, Decidable.not_not, Bool.not_eq_true, Bool.not_eq_false] at q72) | (dsimp only at q72) | skip
    refine Reg.skip rfl rfl rfl rfl rfl rfl rfl ?_
    refine Reg.skip rfl rfl rfl rfl rfl rfl rfl ?_
    refine Reg.skip rfl rfl rfl rfl rfl rfl rfl ?_
    refine Reg.pur rfl rfl rfl rfl (Pur.pickT rfl rfl) ?_
    refine Reg.nil ?_
    refine At.condT rfl rfl rfl ?_
    refine At.region rfl rfl ?_
    refine Reg.pur rfl rfl rfl rfl (Pur.asg rfl) ?_
    refine Reg.nil ?_
    refine At.ret rfl Try.func16 rfl ?_
    exact ⟨rfl, hE⟩
  first | (simp only [decide_eq_true_eq, decide_eq_false_iff_not, Bool.not_eq_true', Bool.not_eq_false', ne_eq, Decidable.not_not, Bool.not_eq_true, Bool.not_eq_false] at q72) | (dsimp only at q72) | skip
  refine Reg.gpur rfl rfl rfl rfl rfl rfl (Pur.mv rfl) ?_
  refine Reg.gop rfl rfl rfl rfl rfl rfl (Does.call rfl (numE_ok _ _)) ?_
  rintro _ H10_2 ⟨rfl, rfl⟩
  refine Reg.gpur rfl rfl rfl rfl rfl rfl (Pur.eql rfl rfl) ?_
  refine Reg.pur rfl rfl rfl rfl (Pur.pickF rfl rfl) ?_
  refine Reg.nil ?_
  refine At.cond rfl rfl (fun q76 => ?_) (fun q76 => ?_)
  · first | (simp only [decide_eq_true_eq, decide_eq_false_iff_not, Bool.not_eq_true', Bool.not_eq_false', ne_eq, Decidable.not_not, Bool.not_eq_true, Bool.not_eq_false] at q76) | (dsimp only at q76) | skip
    refine At.region rfl rfl ?_
    refine Reg.pur rfl rfl rfl rfl (Pur.asg rfl) ?_
    refine Reg.nil ?_
    refine At.ret rfl Try.func16 rfl ?_
    exact ⟨rfl, hE⟩
  first | (simp only [decide_eq_true_eq, decide_eq_false_iff_not, Bool.not_eq_true', Bool.not_eq_false', ne_eq, Decidable.not_not, Bool.not_eq_true, Bool.not_eq_false] at q76) | (dsimp only at q76) | skip
  obtain ⟨hz0, hfp⟩ := finds_plain (fun b hb => ⟨(hB.ok b hb).nine, (hB.ok b hb).row⟩) (fun b hb => ⟨(hC.ok b hb).nine, (hC.ok b hb).row⟩) hT hX hY hZ hr q72 q76
  refine At.region rfl rfl ?_
  refine Reg.pur rfl rfl rfl rfl (Pur.mv rfl) ?_
  refine Reg.lod rfl rfl rfl rfl (Lod.ldn ag25 rfl o0_0.blk (whole rfl) rfl) ?_
  refine Reg.op rfl rfl rfl rfl (Does.call rfl (type_ok (hSl.ext hE10).bds (hS.ext hE) hT hl)) ?_
  rintro v13_2 H13_2 ⟨hE13_2, hT13_2⟩
  have z13_2 := hE13_2.lt
  replace hE := hE.ext hE13_2
  replace o0_0 := o0_0.ext hE13_2
  replace hs7 := hs7.ext hE13_2
  replace o3_6 := o3_6.ext hE13_2
  replace hs9 := hs9.ext hE13_2
  replace o6_6 := o6_6.ext hE13_2
  replace hs11 := hs11.ext hE13_2
  replace o7_6 := o7_6.ext hE13_2
  replace hE10 := hE10.ext hE13_2
  generalize hQ : subT Ps T = X0 at hT13_2
  obtain ⟨A15, k15, rfl, hg15, hN15, hl15⟩ := hT13_2
  have hgl15 := hg15.lt
  have hs15 := own_sl (wide9 hN15) (by decide) hg15
  have z_hs15 := hs15.lt
  refine Reg.pur rfl rfl rfl rfl (Pur.mv rfl) ?_
  refine Reg.pur rfl rfl rfl rfl (Pur.ext rfl rfl) ?_
  refine Reg.pur rfl rfl rfl rfl (Pur.ext rfl rfl) ?_
  refine Reg.op rfl rfl rfl rfl (Does.alloc zc25) ?_
  rintro _ H13_6 ⟨rfl, hn13_6⟩
  have z13_6 := hn13_6.size
  replace hE := hE.ext hn13_6.ext
  replace o0_0 := o0_0.ext hn13_6.ext
  replace hs7 := hs7.ext hn13_6.ext
  replace o3_6 := o3_6.ext hn13_6.ext
  replace hs9 := hs9.ext hn13_6.ext
  replace o6_6 := o6_6.ext hn13_6.ext
  replace hs11 := hs11.ext hn13_6.ext
  replace o7_6 := o7_6.ext hn13_6.ext
  replace hE10 := hE10.ext hn13_6.ext
  replace hs15 := hs15.ext hn13_6.ext
  have o13_6 := hn13_6.own
  refine Reg.op0 rfl rfl rfl (Does.stn ag25 rfl rfl (by first | rfl | exact ones_Is _) (by first | rfl | (simp [*]; done)) o13_6 (by first | decide | (simp; done) | (simp; omega) | omega)) ?_
  rintro _ H13_7 hu13_7
  have z13_7 := hu13_7.size
  replace hE := hE.upw hu13_7 (by omega)
  replace o0_0 := o0_0.upw hu13_7 (by omega)
  replace hs7 := hs7.upw hu13_7 (by omega)
  replace o3_6 := o3_6.upw hu13_7 (by omega)
  replace hs9 := hs9.upw hu13_7 (by omega)
  replace o6_6 := o6_6.upw hu13_7 (by omega)
  replace hs11 := hs11.upw hu13_7 (by omega)
  replace o7_6 := o7_6.upw hu13_7 (by omega)
  replace hE10 := hE10.upw hu13_7 (by omega)
  replace hs15 := hs15.upw hu13_7 (by omega)
  replace o13_6 := hu13_7.own
  first | rw [over (by first | rfl | (simp; done))] at o13_6 | skip
  refine Reg.pur rfl rfl rfl rfl (Pur.asg rfl) ?_
  refine Reg.nil ?_
  refine At.region rfl rfl ?_
  refine Reg.lod rfl rfl rfl rfl (Lod.ldn ag25 rfl o13_6.blk (whole rfl) rfl) ?_
  refine Reg.lod rfl rfl rfl rfl (Lod.ldn ag25 rfl o6_6.blk (whole rfl) rfl) ?_
  refine Reg.op rfl rfl rfl rfl (Does.call rfl (instanceR_ok hN15 hN9 hs15 hs9 (by omega) (by omega))) ?_
  rintro v14_2 H14_2 ⟨hI, hE14_2⟩
  have z14_2 := hE14_2.lt
  replace hE := hE.ext hE14_2
  replace o0_0 := o0_0.ext hE14_2
  replace hs7 := hs7.ext hE14_2
  replace o3_6 := o3_6.ext hE14_2
  replace hs9 := hs9.ext hE14_2
  replace o6_6 := o6_6.ext hE14_2
  replace hs11 := hs11.ext hE14_2
  replace o7_6 := o7_6.ext hE14_2
  replace hE10 := hE10.ext hE14_2
  replace hs15 := hs15.ext hE14_2
  replace o13_6 := o13_6.ext hE14_2
  obtain ⟨b14, c14, rfl, hIn⟩ := hI
  refine Reg.pur rfl rfl rfl rfl (Pur.mv rfl) ?_
  refine Reg.pur rfl rfl rfl rfl (Pur.ext rfl rfl) ?_
  refine Reg.pur rfl rfl rfl rfl (Pur.ext rfl rfl) ?_
  refine Reg.pur rfl rfl rfl rfl (Pur.asg rfl) ?_
  refine Reg.pur rfl rfl rfl rfl (Pur.asg rfl) ?_
  refine Reg.nil ?_
  refine At.region rfl rfl ?_
  refine Reg.pur rfl rfl rfl rfl (Pur.mv rfl) ?_
  refine Reg.op rfl rfl rfl rfl (Does.call rfl (numE_ok _ _)) ?_
  rintro _ H14_2 ⟨rfl, rfl⟩
  refine Reg.pur rfl rfl rfl rfl (Pur.eql rfl rfl) ?_
  refine Reg.pur rfl rfl rfl rfl (Pur.mv rfl) ?_
  refine Reg.known (b' := true) 92 rfl (decide_eq_true hz0) ?_
  refine Reg.gpur rfl rfl rfl rfl rfl rfl (Pur.mv rfl) ?_
  refine Reg.gop rfl rfl rfl rfl rfl rfl (Does.call rfl (numE_ok _ _)) ?_
  rintro _ H14_2 ⟨rfl, rfl⟩
  refine Reg.gpur rfl rfl rfl rfl rfl rfl (Pur.neq rfl rfl) ?_
  refine Reg.gpur rfl rfl rfl rfl rfl rfl (Pur.mv rfl) ?_
  refine Reg.case 96 rfl (fun q96 => ?_) (fun q96 => ?_)
  · first | (simp only [decide_eq_true_eq, decide_eq_false_iff_not, Bool.not_eq_true', Bool.not_eq_false', ne_eq, Decidable.not_not, Bool.not_eq_true, Bool.not_eq_false] at q96) | (dsimp only at q96) | skip
    refine Reg.skip rfl rfl rfl rfl rfl rfl rfl ?_
    refine Reg.skip rfl rfl rfl rfl rfl rfl rfl ?_
    refine Reg.skip rfl rfl rfl rfl rfl rfl rfl ?_
    refine Reg.skipU rfl rfl rfl rfl rfl rfl ?_
    refine Reg.skip rfl rfl rfl rfl rfl rfl rfl ?_
    refine Reg.gpur rfl rfl rfl rfl rfl rfl (Pur.pickT rfl rfl) ?_
    refine Reg.pur rfl rfl rfl rfl (Pur.pickT rfl rfl) ?_
    refine Reg.pur rfl rfl rfl rfl (Pur.asg rfl) ?_
    refine Reg.nil ?_
    refine At.ret rfl Try.func16 rfl ?_
    exact ⟨rfl, hE⟩
  first | (simp only [decide_eq_true_eq, decide_eq_false_iff_not, Bool.not_eq_true', Bool.not_eq_false', ne_eq, Decidable.not_not, Bool.not_eq_true, Bool.not_eq_false] at q96) | (dsimp only at q96) | skip
  refine Reg.gpur rfl rfl rfl rfl rfl rfl (Pur.mv rfl) ?_
  refine Reg.gpur rfl rfl rfl rfl rfl rfl (Pur.eql rfl rfl) ?_
  refine Reg.gpur rfl rfl rfl rfl rfl rfl (Pur.mv rfl) ?_
  refine Reg.case 99 rfl (fun q99 => ?_) (fun q99 => ?_)
  · first | (simp only [decide_eq_true_eq, decide_eq_false_iff_not, Bool.not_eq_true', Bool.not_eq_false', ne_eq, Decidable.not_not, Bool.not_eq_true, Bool.not_eq_false] at q99) | (dsimp only at q99) | skip
    refine Reg.gpur rfl rfl rfl rfl rfl rfl (Pur.mv rfl) ?_
    refine Reg.gpur rfl rfl rfl rfl rfl rfl (Pur.pickT rfl rfl) ?_
    refine Reg.gpur rfl rfl rfl rfl rfl rfl (Pur.pickF rfl rfl) ?_
    refine Reg.pur rfl rfl rfl rfl (Pur.pickT rfl rfl) ?_
    refine Reg.pur rfl rfl rfl rfl (Pur.asg rfl) ?_
    refine Reg.nil ?_
    refine At.ret rfl Try.func16 rfl ?_
    obtain ⟨X1, rfl⟩ : ∃ X1, X0 = some X1 := by { cases X0 with | none => cases q96 | some X1 => exact ⟨X1, rfl⟩ }
    obtain ⟨g, s, e1, e2, p1, p2, p3, p4, p5⟩ := hfp Ps X1 hSl.pl hQ
    obtain ⟨_, hb⟩ := hIn g s e1 e2 p1 p2 p3 p4
    exact ⟨congrArg Value.bool (hb.trans p5), hE⟩
  first | (simp only [decide_eq_true_eq, decide_eq_false_iff_not, Bool.not_eq_true', Bool.not_eq_false', ne_eq, Decidable.not_not, Bool.not_eq_true, Bool.not_eq_false] at q99) | (dsimp only at q99) | skip
  refine Reg.skip rfl rfl rfl rfl rfl rfl rfl ?_
  refine Reg.gpur rfl rfl rfl rfl rfl rfl (Pur.pickF rfl rfl) ?_
  refine Reg.gpur rfl rfl rfl rfl rfl rfl (Pur.pickF rfl rfl) ?_
  refine Reg.pur rfl rfl rfl rfl (Pur.pickT rfl rfl) ?_
  refine Reg.pur rfl rfl rfl rfl (Pur.asg rfl) ?_
  refine Reg.nil ?_
  refine At.ret rfl Try.func16 rfl ?_
  obtain ⟨X1, rfl⟩ : ∃ X1, X0 = some X1 := by { cases X0 with | none => cases q96 | some X1 => exact ⟨X1, rfl⟩ }
  obtain ⟨g, s, e1, e2, p1, p2, p3, p4, p5⟩ := hfp Ps X1 hSl.pl hQ
  exact absurd (hIn g s e1 e2 p1 p2 p3 p4).1 q99
end Go.Proofs.Ytlfillhffpiffaa
