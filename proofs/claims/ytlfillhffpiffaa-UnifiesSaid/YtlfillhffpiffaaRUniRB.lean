/-
  The reference's solver: bind, rows.
-/
import Derived.Test.YtlfillhffpiffaaRUniRA
namespace Go.Proofs.Ytlfillhffpiffaa
set_option linter.unusedSimpArgs false
set_option linter.unusedVariables false
set_option maxRecDepth 8000
set_option maxHeartbeats 1000000
open Go Go.Fx Go.Proofs
namespace FactsUniRB
theorem ag25 : ag Try.prog 25 = some 1 := by kernel_rfl
theorem ag28 : ag Try.prog 28 = some 5 := by kernel_rfl
theorem ag49 : ag Try.prog 49 = some 8 := by kernel_rfl
theorem es22 : esz Try.prog 22 = some 8 := by kernel_rfl
theorem es23 : esz Try.prog 23 = some 9 := by kernel_rfl
theorem fo127_0 : foff Try.prog 127 0 = some 0 := by kernel_rfl
theorem fo127_1 : foff Try.prog 127 1 = some 1 := by kernel_rfl
theorem fo127_2 : foff Try.prog 127 2 = some 2 := by kernel_rfl
theorem fo25_0 : foff Try.prog 25 0 = some 0 := by kernel_rfl
theorem fo47_0 : foff Try.prog 47 0 = some 0 := by kernel_rfl
theorem fo47_1 : foff Try.prog 47 1 = some 1 := by kernel_rfl
theorem isl22 : isSl Try.prog 22 = true := by kernel_rfl
theorem isl23 : isSl Try.prog 23 = true := by kernel_rfl
theorem mixed : Try.prog.follows .mixedOrders = true := by kernel_rfl
theorem pl49 : places Try.prog 49 = some [(0, 1), (1, 1), (2, 1), (3, 5)] := by kernel_rfl
theorem sc22 : sc Try.prog 22 = true := by kernel_rfl
theorem sc23 : sc Try.prog 23 = true := by kernel_rfl
theorem sc3 : sc Try.prog 3 = true := by kernel_rfl
theorem zc28 : zc Try.prog 28 = some [.int .i64 0, .int .i64 0, .int .i64 0, .int .i64 0, .int .i64 0] := by kernel_rfl
theorem zc49 : zc Try.prog 49 = some [.int .i64 0, .bool false, .slice none 0 0, .int .i64 0, .int .i64 0, .int .i64 0, .int .i64 0, .int .i64 0] := by kernel_rfl
end FactsUniRB
open FactsUniRB

theorem RfP.pre {H H1 H2 : Heap} {lo sb : Nat} {A A' : Option Addr} {r : Except Int Us} (hM : Md sb A A' H H1) (h1 : lo ≤ sb) (h2 : ob A = -1 ∨ (lo : Int) ≤ ob A) (h : RfP H1 lo sb A' r H2) : RfP H lo sb A r H2 := by
  cases r with
  | ok u => obtain ⟨A2, c2, B2, k1, k2, k3⟩ := h; exact ⟨A2, c2, B2, k1, k2, hM.trans k3⟩
  | error c => exact ⟨h.1, h.2.1, (hM.low h1 h2).trans h.2.2⟩
theorem bind_addR {s : Us} {v : Int} {t : Tm} (ho : ¬ occ v t = true) : bindU s v t = addR (.t v t) s := by
  unfold bindU addR; rw [if_neg ho]; cases addB (.t v t) s.1 <;> rfl
theorem bindR_ok {H : Heap} {lo sb cap : Nat} {A : Option Addr} {Bs : List Bd} {s : Us} (h : Slv H lo sb A cap Bs s.1) (hs : Own H sb [.slice A Bs.length cap, I s.2, I 0]) (hl : Bs.length < 100000) {v : Int} {t : Tm} (ht : t.ok) (hz : t.sz ≤ 256) {A1 : Option Addr} {c1 : Nat}
    (hG : Gs H lo 47 9 A1 c1 (t.enc 0).length ((t.enc 0).flatMap Is)) (hoff : ob A1 ≠ ob A ∧ ob A1 ≠ sb) (hdis : ∀ x ∈ Bs, x.nodes.length = 0 ∨ ob A1 ≠ ob x.A) :
    Ret Try.prog 109 [ptr sb 0, I v, Ty A1 (t.enc 0).length c1] H (fun _ => RfP H lo sb A (bindU s v t)) := by
  have h9 := t.enc_nine 0 ht
  have hln := t.enc_len 0
  have hS := own_sl (wide9 h9) (by decide) hG
  have hav := any_var v t 0
  have hgl := h.lt
  refine Ret.of_at (N := 38) Try.call109 Try.func109 rfl rfl rfl ?_
  have hE := Ext.refl H
  have z_hE := hE.lt
  have z_hs := hs.lt
  refine At.region rfl rfl ?_
  refine Reg.op rfl rfl rfl rfl (Does.box rfl rfl) ?_
  rintro _ H0_0 ⟨rfl, hn0_0⟩
  have z0_0 := hn0_0.size
  replace hE := hE.ext hn0_0.ext
  replace hs := hs.ext hn0_0.ext
  have o0_0 := hn0_0.own
  refine Reg.nil ?_
  refine At.region rfl rfl ?_
  refine Reg.pur rfl rfl rfl rfl (Pur.asg rfl) ?_
  refine Reg.nil ?_
  have hsb0 := z_hs
  refine At.loop (σ := Nat) (fun i => [(6, I i), (5, ptr H.size 0), (1, I v), (0, ptr sb 0)]) (fun i H' => i ≤ (t.enc 0).length ∧ Own H' H.size [.slice A1 (t.enc 0).length c1] ∧ Own H' sb [.slice A Bs.length cap, I s.2, I 0] ∧ ((t.enc 0).take i).any (pVar v) = false ∧ Ext H H') (fun i => (t.enc 0).length - i) 0 rfl ⟨rfl, rfl, rfl, rfl, trivial⟩ ⟨by omega, o0_0, hs, rfl, hE⟩ ?_
  clear o0_0 hE hs
  rintro i H3 ⟨hi, o0_0, hs, hgo, hE⟩ ih
  have z_hE := hE.lt
  have z_o0_0 := o0_0.lt
  have z_hs := hs.lt
  refine At.region rfl rfl ?_
  refine Reg.pur rfl rfl rfl rfl (Pur.mv rfl) ?_
  refine Reg.pur rfl rfl rfl rfl (Pur.fld _ fo25_0 rfl) ?_
  refine Reg.lod rfl rfl rfl rfl (Lod.ld sc23 rfl o0_0.blk rfl) ?_
  refine Reg.pur rfl rfl rfl rfl (Pur.lenS isl23 rfl) ?_
  refine Reg.pur rfl rfl rfl rfl (Pur.lss rfl rfl) ?_
  refine Reg.nil ?_
  refine At.cond rfl rfl (fun q11 => ?_) (fun q11 => ?_)
  · first | (simp only [decide_eq_true_eq, decide_eq_false_iff_not, Bool.not_eq_true', Bool.not_eq_false', ne_eq, Decidable.not_not, Bool.not_eq_true, Bool.not_eq_false] at q11) | (dsimp only at q11) | skip
    have hlt : i < (t.enc 0).length := by omega
    obtain ⟨b, o, c, rfl, hB, hd, hx9, hat⟩ := el_cells h9 (hS.ext hE) (z := (i : Int)) (by omega) (by omega)
    rw [el_lt hlt] at hd hx9 hat
    have hany := any_take1 (p := pVar v) hlt
    rw [hgo] at hany
    refine At.region rfl rfl ?_
    refine Reg.pur rfl rfl rfl rfl (Pur.fld _ fo25_0 rfl) ?_
    refine Reg.lod rfl rfl rfl rfl (Lod.ld sc23 rfl o0_0.blk rfl) ?_
    refine Reg.pur rfl rfl rfl rfl (Pur.mv rfl) ?_
    refine Reg.pur rfl rfl rfl rfl (Pur.idx _ es23 rfl rfl (by omega) (by omega)) ?_
    refine Reg.pur rfl rfl rfl rfl (Pur.fld _ fo47_0 rfl) ?_
    refine Reg.lod rfl rfl rfl rfl (Lod.ld sc3 rfl hB (hat 0 (by decide))) ?_
    refine Reg.pur rfl rfl rfl rfl (Pur.eql rfl rfl) ?_
    refine Reg.pur rfl rfl rfl rfl (Pur.mv rfl) ?_
    refine Reg.case 21 rfl (fun q21 => ?_) (fun q21 => ?_)
    · first | (simp only [decide_eq_true_eq, decide_eq_false_iff_not, Bool.not_eq_true', Bool.not_eq_false', ne_eq, Decidable.not_not, Bool.not_eq_true, Bool.not_eq_false] at q21) | (dsimp only at q21) | skip
      refine Reg.gpur rfl rfl rfl rfl rfl rfl (Pur.fld _ fo25_0 rfl) ?_
      refine Reg.glod rfl rfl rfl rfl rfl rfl (Lod.ld sc23 rfl o0_0.blk rfl) ?_
      refine Reg.gpur rfl rfl rfl rfl rfl rfl (Pur.mv rfl) ?_
      refine Reg.gpur rfl rfl rfl rfl rfl rfl (Pur.idx _ es23 rfl rfl (by omega) (by omega)) ?_
      refine Reg.gpur rfl rfl rfl rfl rfl rfl (Pur.fld _ fo47_1 rfl) ?_
      refine Reg.glod rfl rfl rfl rfl rfl rfl (Lod.ld sc3 rfl hB (hat 1 (by decide))) ?_
      refine Reg.gpur rfl rfl rfl rfl rfl rfl (Pur.mv rfl) ?_
      refine Reg.gpur rfl rfl rfl rfl rfl rfl (Pur.eql rfl rfl) ?_
      refine Reg.pur rfl rfl rfl rfl (Pur.pickT rfl rfl) ?_
      refine Reg.nil ?_
      refine At.cond rfl rfl (fun q30 => ?_) (fun q30 => ?_)
      · first | (simp only [decide_eq_true_eq, decide_eq_false_iff_not, Bool.not_eq_true', Bool.not_eq_false', ne_eq, Decidable.not_not, Bool.not_eq_true, Bool.not_eq_false] at q30) | (dsimp only at q30) | skip
        refine At.region rfl rfl ?_
        refine Reg.pur rfl rfl rfl rfl (Pur.mv rfl) ?_
        have hE5 := hE

        refine Reg.op rfl rfl rfl rfl (Does.call rfl (failR_ok hs)) ?_
        rintro _ H5_1 hu5_1
        have z5_1 := hu5_1.size
        replace o0_0 := o0_0.upw hu5_1 (by omega)
        refine Reg.nil ?_
        refine At.ret rfl Try.func109 rfl ?_
        have hp : pVar v (t.enc 0)[i] = true := by unfold pVar; rw [decide_eq_true q21, decide_eq_true q30]; rfl
        have ho : occ v t = true := by rw [← hav]; exact List.any_eq_true.2 ⟨_, List.getElem_mem hlt, hp⟩
        have hb : bindU s v t = .error 1002 := by unfold bindU; rw [if_pos ho]
        rw [hb]
        exact ⟨⟨_, _, hu5_1.own⟩, by decide, hE5.but.trans (hu5_1.but.mono (fun b hb e => by rw [e]; exact h.lo))⟩
      first | (simp only [decide_eq_true_eq, decide_eq_false_iff_not, Bool.not_eq_true', Bool.not_eq_false', ne_eq, Decidable.not_not, Bool.not_eq_true, Bool.not_eq_false] at q30) | (dsimp only at q30) | skip
      refine At.region rfl rfl ?_
      refine Reg.pur rfl rfl rfl rfl (Pur.mv rfl) ?_
      first | refine Reg.pur rfl rfl rfl rfl (Pur.add64 rfl rfl (by omega)) ?_ | refine Reg.pur rfl rfl rfl rfl (Pur.add64 rfl rfl (by assumption)) ?_ | refine Reg.pur rfl rfl rfl rfl (Pur.add rfl rfl) ?_
      refine Reg.pur rfl rfl rfl rfl (Pur.asg rfl) ?_
      refine Reg.nil ?_
      have hp : pVar v (t.enc 0)[i] = false := by unfold pVar; first | (rw [decide_eq_false q21]; rfl) | (rw [decide_eq_false q30]; exact Bool.and_false _)
      exact At.via (ih (i + 1) _ ⟨by omega, o0_0, hs, by rw [hany, hp]; rfl, hE⟩ (by omega)) ⟨rfl, rfl, rfl, rfl, trivial⟩
    first | (simp only [decide_eq_true_eq, decide_eq_false_iff_not, Bool.not_eq_true', Bool.not_eq_false', ne_eq, Decidable.not_not, Bool.not_eq_true, Bool.not_eq_false] at q21) | (dsimp only at q21) | skip
    refine Reg.skip rfl rfl rfl rfl rfl rfl rfl ?_
    refine Reg.skip rfl rfl rfl rfl rfl rfl rfl ?_
    refine Reg.skip rfl rfl rfl rfl rfl rfl rfl ?_
    refine Reg.skip rfl rfl rfl rfl rfl rfl rfl ?_
    refine Reg.skip rfl rfl rfl rfl rfl rfl rfl ?_
    refine Reg.skip rfl rfl rfl rfl rfl rfl rfl ?_
    refine Reg.skip rfl rfl rfl rfl rfl rfl rfl ?_
    refine Reg.skip rfl rfl rfl rfl rfl rfl rfl ?_
    refine Reg.pur rfl rfl rfl rfl (Pur.pickF rfl rfl) ?_
    refine Reg.nil ?_
    refine At.condF rfl rfl rfl ?_
    refine At.region rfl rfl ?_
    refine Reg.pur rfl rfl rfl rfl (Pur.mv rfl) ?_
    first | refine Reg.pur rfl rfl rfl rfl (Pur.add64 rfl rfl (by omega)) ?_ | refine Reg.pur rfl rfl rfl rfl (Pur.add64 rfl rfl (by assumption)) ?_ | refine Reg.pur rfl rfl rfl rfl (Pur.add rfl rfl) ?_
    refine Reg.pur rfl rfl rfl rfl (Pur.asg rfl) ?_
    refine Reg.nil ?_
    have hp : pVar v (t.enc 0)[i] = false := by unfold pVar; first | (rw [decide_eq_false q21]; rfl) | (rw [decide_eq_false q30]; exact Bool.and_false _)
    exact At.via (ih (i + 1) _ ⟨by omega, o0_0, hs, by rw [hany, hp]; rfl, hE⟩ (by omega)) ⟨rfl, rfl, rfl, rfl, trivial⟩
  first | (simp only [decide_eq_true_eq, decide_eq_false_iff_not, Bool.not_eq_true', Bool.not_eq_false', ne_eq, Decidable.not_not, Bool.not_eq_true, Bool.not_eq_false] at q11) | (dsimp only at q11) | skip
  rw [List.take_of_length_le (by omega), hav] at hgo
  have ho : ¬ occ v t = true := by rw [hgo]; decide
  refine At.region rfl rfl ?_
  refine Reg.pur rfl rfl rfl rfl (Pur.mv rfl) ?_
  refine Reg.pur rfl rfl rfl rfl (Pur.mv rfl) ?_
  refine Reg.lod rfl rfl rfl rfl (Lod.ldn ag25 rfl o0_0.blk (whole rfl) rfl) ?_
  refine Reg.pur rfl rfl rfl rfl (Pur.bld (cs := [_, _, _, _, _, _, _, _]) pl49 zc49 rfl rfl ⟨rfl, rfl, rfl, rfl, rfl, rfl, rfl, rfl, rfl⟩) ?_
  refine Reg.op rfl rfl rfl rfl (Does.call rfl (more_ok (h.ext hE) hs (bd := ⟨v, false, A1, c1, t.enc 0, noRow⟩) (b := .t v t) ⟨rfl, ⟨ht, hz⟩, ⟨hS.ext hE, h9, rfl, by dsimp only; omega⟩, (hG.ext hE).gw, .inr hoff, fun x hx ↦ (hdis x hx).elim (fun e ↦ .inr (.inl e)) (fun e ↦ .inr (.inr e))⟩ hl)) ?_
  rintro w6_4 H6_4 hP
  refine Reg.nil ?_
  refine At.fall rfl Try.func109 rfl ?_
  rw [bind_addR ho]
  exact RfP.pre (Md.of_ext hE) h.lo hgl.2.1 hP
theorem rwP_len {o : Option (List Int)} (h : ∀ u, o = some u → u.length = 5) : (rwP o).1.length = 5 := by cases o with | none => rfl | some u => exact h u rfl
theorem rwP_some {o : Option (List Int)} (h : (rwP o).2 = true) : ∃ u, o = some u := some_of ((rwP_snd o).symm.trans h)
theorem rwP_none {o : Option (List Int)} (h : (rwP o).2 = false) : o = none := none_of ((rwP_snd o).symm.trans h)
theorem rowsR_ok {H : Heap} {lo sb cap : Nat} {A : Option Addr} {Bs : List Bd} {us : Us} (h : Slv H lo sb A cap Bs us.1) (ho : Own H sb [.slice A Bs.length cap, I us.2, I 0]) (hl : Bs.length < 90000) {a b : List Int} (ha5 : a.length = 5) (ha : rowM a = true) (hb5 : b.length = 5) (hb : rowM b = true) (hf : 0 ≤ us.2 ∧ us.2 ≤ 4096) :
    Ret Try.prog 111 [ptr sb 0, .agg (Is a).toArray, .agg (Is b).toArray] H (fun _ => RfP H lo sb A (rowsU us a b)) := by
  have hra0 : ∀ u, rwS us.1 a = some u → u.length = 5 ∧ rowM u = true := fun u hu => rw_ok h.tok ha5 ha hu
  have hrb0 : ∀ u, rwS us.1 b = some u → u.length = 5 ∧ rowM u = true := fun u hu => rw_ok h.tok hb5 hb hu
  have hgl := h.lt
  have hqa := rowS_rw h.pl a
  have hqb := rowS_rw h.pl b
  have hla5 := rwP_len (fun u hu => (hra0 u hu).1)
  have hlb5 := rwP_len (fun u hu => (hrb0 u hu).1)
  refine Ret.of_at (N := 94) Try.call111 Try.func111 rfl rfl rfl ?_
  have hE := Ext.refl H
  have z_hE := hE.lt
  have z_ho := ho.lt
  refine At.region rfl rfl ?_
  refine Reg.op rfl rfl rfl rfl (Does.box rfl rfl) ?_
  rintro _ H0_0 ⟨rfl, hn0_0⟩
  have z0_0 := hn0_0.size
  replace hE := hE.ext hn0_0.ext
  replace ho := ho.ext hn0_0.ext
  have o0_0 := hn0_0.own
  refine Reg.op rfl rfl rfl rfl (Does.box rfl rfl) ?_
  rintro _ H0_1 ⟨rfl, hn0_1⟩
  have z0_1 := hn0_1.size
  replace hE := hE.ext hn0_1.ext
  replace ho := ho.ext hn0_1.ext
  replace o0_0 := o0_0.ext hn0_1.ext
  have o0_1 := hn0_1.own
  refine Reg.nil ?_
  refine At.drawJ (σ := Nat) (fun b6 => [(6, ptr b6 0), (7, .bool (rwP (rwS us.1 a)).2), (0, ptr sb 0), (4, ptr H.size 0), (5, ptr H0_0.size 0)]) (fun b6 H' => Own H' b6 (Is (rwP (rwS us.1 a)).1) ∧ Own H' sb [.slice A Bs.length cap, I us.2, I 0] ∧ Own H' H0_0.size (Is b) ∧ Ext H H' ∧ H.size ≤ b6) ((Bks.cons ho.blk (Bks.cons o0_0.blk Bks.nil))) [5, 10] mixed rfl rfl ?_ (fun s H_r1 hs => ?_)
  · refine RegD.tpur (i := 0) rfl rfl rfl rfl (by kernel_rfl) (Pur.mv rfl) ?_
    refine RegD.tpur (i := 1) rfl rfl rfl rfl (by kernel_rfl) (Pur.nilc rfl) ?_
    refine RegD.tpur (i := 2) rfl rfl rfl rfl (by kernel_rfl) (Pur.fld _ fo127_0 rfl) ?_
    refine RegD.take (i := 3) rfl rfl rfl rfl (by kernel_rfl) (Bks.cons ho.blk (Bks.cons o0_0.blk Bks.nil)) (fun H hS => Lod.ld sc22 rfl hS.hd rfl) ?_
    refine RegD.take (i := 4) rfl rfl rfl rfl (by kernel_rfl) (Bks.cons ho.blk (Bks.cons o0_0.blk Bks.nil)) (fun H hS => Lod.ldn ag28 rfl hS.tl.hd (whole (by simp [ha5])) (by simp [ha5])) ?_
    refine RegD.fork2 (i := 5) (j := 9) (by kernel_rfl) ?_ ?_
    · refine RegOp.one (i := 5) rfl rfl rfl rfl (Does.call rfl (rowOf_ok (h.bds.ext hE) a ha5)) ?_
      rintro _ H1_5 ⟨rfl, _, hE1_5⟩
      have z1_5 := hE1_5.lt
      replace hE := hE.ext hE1_5
      replace ho := ho.ext hE1_5
      replace o0_0 := o0_0.ext hE1_5
      replace o0_1 := o0_1.ext hE1_5
      rw [hqa]
      refine ⟨fun h => (by cases h), ?_⟩
      refine RegD.tpur (i := 6) rfl rfl rfl rfl (by kernel_rfl) (Pur.mv rfl) ?_
      refine RegD.tpur (i := 7) rfl rfl rfl rfl (by kernel_rfl) (Pur.ext rfl rfl) ?_
      refine RegD.tpur (i := 8) rfl rfl rfl rfl (by kernel_rfl) (Pur.ext rfl rfl) ?_
      refine RegD.one (i := 9) (by kernel_rfl) rfl rfl rfl rfl (Does.alloc zc28) ?_
      rintro _ H1_9 ⟨rfl, hn1_9⟩
      have z1_9 := hn1_9.size
      replace hE := hE.ext hn1_9.ext
      replace ho := ho.ext hn1_9.ext
      replace o0_0 := o0_0.ext hn1_9.ext
      replace o0_1 := o0_1.ext hn1_9.ext
      have o1_9 := hn1_9.own
      refine ⟨fun _ _ => (Bks.cons ho.blk (Bks.cons o0_0.blk Bks.nil)), ?_⟩
      refine RegD.one0 (i := 10) (by kernel_rfl) rfl rfl rfl (Does.stn ag28 rfl rfl (ones_Is _) (by simp [hla5]) o1_9 (Nat.le_refl _)) ?_
      rintro _ H1_10 hu1_10
      have z1_10 := hu1_10.size
      replace hE := hE.upw hu1_10 (by omega)
      replace ho := ho.upw hu1_10 (by omega)
      replace o0_0 := o0_0.upw hu1_10 (by omega)
      replace o0_1 := o0_1.upw hu1_10 (by omega)
      replace o1_9 := hu1_10.own
      first | rw [over (by first | rfl | (simp; done))] at o1_9 | skip
      replace o1_9 := o1_9.of (c' := Is (rwP (rwS us.1 a)).1) (by simp)
      refine ⟨fun h => (by cases h), ?_⟩
      refine RegD.tpur (i := 11) rfl rfl rfl rfl (by kernel_rfl) (Pur.asg rfl) ?_
      refine RegD.done (by kernel_rfl) ?_
      exact ⟨_, ⟨o1_9, ho, o0_1, hE, by omega⟩, ⟨rfl, rfl, rfl, rfl, rfl, trivial⟩⟩
    refine RegOp.one (i := 9) rfl rfl rfl rfl (Does.alloc zc28) ?_
    rintro _ H1_9 ⟨rfl, hn1_9⟩
    have z1_9 := hn1_9.size
    replace hE := hE.ext hn1_9.ext
    replace ho := ho.ext hn1_9.ext
    replace o0_0 := o0_0.ext hn1_9.ext
    replace o0_1 := o0_1.ext hn1_9.ext
    have o1_9 := hn1_9.own
    refine ⟨fun _ _ => (Bks.cons ho.blk (Bks.cons o0_0.blk Bks.nil)), ?_⟩
    refine RegD.one (i := 5) (by kernel_rfl) rfl rfl rfl rfl (Does.call rfl (rowOf_ok (h.bds.ext hE) a ha5)) ?_
    rintro _ H1_5 ⟨rfl, _, hE1_5⟩
    have z1_5 := hE1_5.lt
    replace hE := hE.ext hE1_5
    replace ho := ho.ext hE1_5
    replace o0_0 := o0_0.ext hE1_5
    replace o0_1 := o0_1.ext hE1_5
    replace o1_9 := o1_9.ext hE1_5
    rw [hqa]
    refine ⟨fun h => (by cases h), ?_⟩
    refine RegD.tpur (i := 6) rfl rfl rfl rfl (by kernel_rfl) (Pur.mv rfl) ?_
    refine RegD.tpur (i := 7) rfl rfl rfl rfl (by kernel_rfl) (Pur.ext rfl rfl) ?_
    refine RegD.tpur (i := 8) rfl rfl rfl rfl (by kernel_rfl) (Pur.ext rfl rfl) ?_
    refine RegD.one0 (i := 10) (by kernel_rfl) rfl rfl rfl (Does.stn ag28 rfl rfl (ones_Is _) (by simp [hla5]) o1_9 (Nat.le_refl _)) ?_
    rintro _ H1_10 hu1_10
    have z1_10 := hu1_10.size
    replace hE := hE.upw hu1_10 (by omega)
    replace ho := ho.upw hu1_10 (by omega)
    replace o0_0 := o0_0.upw hu1_10 (by omega)
    replace o0_1 := o0_1.upw hu1_10 (by omega)
    replace o1_9 := hu1_10.own
    first | rw [over (by first | rfl | (simp; done))] at o1_9 | skip
    replace o1_9 := o1_9.of (c' := Is (rwP (rwS us.1 a)).1) (by simp)
    refine ⟨fun h => (by cases h), ?_⟩
    refine RegD.tpur (i := 11) rfl rfl rfl rfl (by kernel_rfl) (Pur.asg rfl) ?_
    refine RegD.done (by kernel_rfl) ?_
    exact ⟨_, ⟨o1_9, ho, o0_1, hE, by omega⟩, ⟨rfl, rfl, rfl, rfl, rfl, trivial⟩⟩
  clear o0_0 o0_1 hE
  have ho0 := ho.lt
  clear ho
  obtain ⟨o6, ho, o0_1, hE, hb6⟩ := hs
  have z_hE := hE.lt
  have z_ho := ho.lt
  have z_o6 := o6.lt
  have z_o0_1 := o0_1.lt
  refine At.drawJ (σ := Nat) (fun b8 => [(8, ptr b8 0), (9, .bool (rwP (rwS us.1 b)).2), (6, ptr s 0), (7, .bool (rwP (rwS us.1 a)).2), (0, ptr sb 0)]) (fun b8 H' => Own H' b8 (Is (rwP (rwS us.1 b)).1) ∧ Own H' s (Is (rwP (rwS us.1 a)).1) ∧ Own H' sb [.slice A Bs.length cap, I us.2, I 0] ∧ Ext H H' ∧ H.size ≤ b8) ((Bks.cons ho.blk (Bks.cons o0_1.blk Bks.nil))) [5, 10] mixed rfl rfl ?_ (fun s H_r2 hs => ?_)
  · refine RegD.tpur (i := 0) rfl rfl rfl rfl (by kernel_rfl) (Pur.mv rfl) ?_
    refine RegD.tpur (i := 1) rfl rfl rfl rfl (by kernel_rfl) (Pur.nilc rfl) ?_
    refine RegD.tpur (i := 2) rfl rfl rfl rfl (by kernel_rfl) (Pur.fld _ fo127_0 rfl) ?_
    refine RegD.take (i := 3) rfl rfl rfl rfl (by kernel_rfl) (Bks.cons ho.blk (Bks.cons o0_1.blk Bks.nil)) (fun H hS => Lod.ld sc22 rfl hS.hd rfl) ?_
    refine RegD.take (i := 4) rfl rfl rfl rfl (by kernel_rfl) (Bks.cons ho.blk (Bks.cons o0_1.blk Bks.nil)) (fun H hS => Lod.ldn ag28 rfl hS.tl.hd (whole (by simp [hb5])) (by simp [hb5])) ?_
    refine RegD.fork2 (i := 5) (j := 9) (by kernel_rfl) ?_ ?_
    · refine RegOp.one (i := 5) rfl rfl rfl rfl (Does.call rfl (rowOf_ok (h.bds.ext hE) b hb5)) ?_
      rintro _ H2_5 ⟨rfl, _, hE2_5⟩
      have z2_5 := hE2_5.lt
      replace hE := hE.ext hE2_5
      replace ho := ho.ext hE2_5
      replace o6 := o6.ext hE2_5
      replace o0_1 := o0_1.ext hE2_5
      rw [hqb]
      refine ⟨fun h => (by cases h), ?_⟩
      refine RegD.tpur (i := 6) rfl rfl rfl rfl (by kernel_rfl) (Pur.mv rfl) ?_
      refine RegD.tpur (i := 7) rfl rfl rfl rfl (by kernel_rfl) (Pur.ext rfl rfl) ?_
      refine RegD.tpur (i := 8) rfl rfl rfl rfl (by kernel_rfl) (Pur.ext rfl rfl) ?_
      refine RegD.one (i := 9) (by kernel_rfl) rfl rfl rfl rfl (Does.alloc zc28) ?_
      rintro _ H2_9 ⟨rfl, hn2_9⟩
      have z2_9 := hn2_9.size
      replace hE := hE.ext hn2_9.ext
      replace ho := ho.ext hn2_9.ext
      replace o6 := o6.ext hn2_9.ext
      replace o0_1 := o0_1.ext hn2_9.ext
      have o2_9 := hn2_9.own
      refine ⟨fun _ _ => (Bks.cons ho.blk (Bks.cons o0_1.blk Bks.nil)), ?_⟩
      refine RegD.one0 (i := 10) (by kernel_rfl) rfl rfl rfl (Does.stn ag28 rfl rfl (ones_Is _) (by simp [hlb5]) o2_9 (Nat.le_refl _)) ?_
      rintro _ H2_10 hu2_10
      have z2_10 := hu2_10.size
      replace hE := hE.upw hu2_10 (by omega)
      replace ho := ho.upw hu2_10 (by omega)
      replace o6 := o6.upw hu2_10 (by omega)
      replace o0_1 := o0_1.upw hu2_10 (by omega)
      replace o2_9 := hu2_10.own
      first | rw [over (by first | rfl | (simp; done))] at o2_9 | skip
      replace o2_9 := o2_9.of (c' := Is (rwP (rwS us.1 b)).1) (by simp)
      refine ⟨fun h => (by cases h), ?_⟩
      refine RegD.tpur (i := 11) rfl rfl rfl rfl (by kernel_rfl) (Pur.asg rfl) ?_
      refine RegD.done (by kernel_rfl) ?_
      exact ⟨_, ⟨o2_9, o6, ho, hE, by omega⟩, ⟨rfl, rfl, rfl, rfl, rfl, trivial⟩⟩
    refine RegOp.one (i := 9) rfl rfl rfl rfl (Does.alloc zc28) ?_
    rintro _ H2_9 ⟨rfl, hn2_9⟩
    have z2_9 := hn2_9.size
    replace hE := hE.ext hn2_9.ext
    replace ho := ho.ext hn2_9.ext
    replace o6 := o6.ext hn2_9.ext
    replace o0_1 := o0_1.ext hn2_9.ext
    have o2_9 := hn2_9.own
    refine ⟨fun _ _ => (Bks.cons ho.blk (Bks.cons o0_1.blk Bks.nil)), ?_⟩
    refine RegD.one (i := 5) (by kernel_rfl) rfl rfl rfl rfl (Does.call rfl (rowOf_ok (h.bds.ext hE) b hb5)) ?_
    rintro _ H2_5 ⟨rfl, _, hE2_5⟩
    have z2_5 := hE2_5.lt
    replace hE := hE.ext hE2_5
    replace ho := ho.ext hE2_5
    replace o6 := o6.ext hE2_5
    replace o0_1 := o0_1.ext hE2_5
    replace o2_9 := o2_9.ext hE2_5
    rw [hqb]
    refine ⟨fun h => (by cases h), ?_⟩
    refine RegD.tpur (i := 6) rfl rfl rfl rfl (by kernel_rfl) (Pur.mv rfl) ?_
    refine RegD.tpur (i := 7) rfl rfl rfl rfl (by kernel_rfl) (Pur.ext rfl rfl) ?_
    refine RegD.tpur (i := 8) rfl rfl rfl rfl (by kernel_rfl) (Pur.ext rfl rfl) ?_
    refine RegD.one0 (i := 10) (by kernel_rfl) rfl rfl rfl (Does.stn ag28 rfl rfl (ones_Is _) (by simp [hlb5]) o2_9 (Nat.le_refl _)) ?_
    rintro _ H2_10 hu2_10
    have z2_10 := hu2_10.size
    replace hE := hE.upw hu2_10 (by omega)
    replace ho := ho.upw hu2_10 (by omega)
    replace o6 := o6.upw hu2_10 (by omega)
    replace o0_1 := o0_1.upw hu2_10 (by omega)
    replace o2_9 := hu2_10.own
    first | rw [over (by first | rfl | (simp; done))] at o2_9 | skip
    replace o2_9 := o2_9.of (c' := Is (rwP (rwS us.1 b)).1) (by simp)
    refine ⟨fun h => (by cases h), ?_⟩
    refine RegD.tpur (i := 11) rfl rfl rfl rfl (by kernel_rfl) (Pur.asg rfl) ?_
    refine RegD.done (by kernel_rfl) ?_
    exact ⟨_, ⟨o2_9, o6, ho, hE, by omega⟩, ⟨rfl, rfl, rfl, rfl, rfl, trivial⟩⟩
  clear o6 o0_1 hE ho
  obtain ⟨o8, o6, ho, hE, hb8⟩ := hs
  have z_hE := hE.lt
  have z_ho := ho.lt
  have z_o6 := o6.lt
  have z_o8 := o8.lt
  refine At.region rfl rfl ?_
  refine Reg.pur rfl rfl rfl rfl (Pur.mv rfl) ?_
  refine Reg.pur rfl rfl rfl rfl (Pur.not rfl) ?_
  refine Reg.pur rfl rfl rfl rfl (Pur.mv rfl) ?_
  refine Reg.case 33 rfl (fun q33 => ?_) (fun q33 => ?_)
  · first | (simp only [decide_eq_true_eq, decide_eq_false_iff_not, Bool.not_eq_true', Bool.not_eq_false', ne_eq, Decidable.not_not, Bool.not_eq_true, Bool.not_eq_false] at q33) | (dsimp only at q33) | skip
    refine Reg.skip rfl rfl rfl rfl rfl rfl rfl ?_
    refine Reg.skip rfl rfl rfl rfl rfl rfl rfl ?_
    refine Reg.pur rfl rfl rfl rfl (Pur.pickT rfl rfl) ?_
    refine Reg.pur rfl rfl rfl rfl (Pur.mv rfl) ?_
    refine Reg.skip rfl rfl rfl rfl rfl rfl rfl ?_
    refine Reg.skip rfl rfl rfl rfl rfl rfl rfl ?_
    refine Reg.skip rfl rfl rfl rfl rfl rfl rfl ?_
    refine Reg.skip rfl rfl rfl rfl rfl rfl rfl ?_
    refine Reg.skip rfl rfl rfl rfl rfl rfl rfl ?_
    refine Reg.pur rfl rfl rfl rfl (Pur.pickT rfl rfl) ?_
    refine Reg.nil ?_
    refine At.condT rfl rfl rfl ?_
    refine At.region rfl rfl ?_
    refine Reg.pur rfl rfl rfl rfl (Pur.mv rfl) ?_
    have hE4 := hE

    refine Reg.op rfl rfl rfl rfl (Does.call rfl (failR_ok ho)) ?_
    rintro _ H4_1 hu4_1
    have z4_1 := hu4_1.size
    replace o6 := o6.upw hu4_1 (by omega)
    replace o8 := o8.upw hu4_1 (by omega)
    have ho := hu4_1.own
    refine Reg.nil ?_
    refine At.region rfl rfl ?_
    refine Reg.pur rfl rfl rfl rfl (Pur.mv rfl) ?_
    refine Reg.pur rfl rfl rfl rfl (Pur.nilc rfl) ?_
    refine Reg.pur rfl rfl rfl rfl (Pur.fld _ fo127_2 rfl) ?_
    refine Reg.lod rfl rfl rfl rfl (Lod.ld sc3 rfl ho.blk rfl) ?_
    refine Reg.pur rfl rfl rfl rfl (Pur.neq rfl rfl) ?_
    refine Reg.nil ?_
    refine At.cond rfl rfl (fun q50 => ?_) (fun q50 => ?_)
    · first | (simp only [decide_eq_true_eq, decide_eq_false_iff_not, Bool.not_eq_true', Bool.not_eq_false', ne_eq, Decidable.not_not, Bool.not_eq_true, Bool.not_eq_false] at q50) | (dsimp only at q50) | skip
      refine At.ret rfl Try.func111 rfl ?_
      have hn := rwP_none q33
      have hr : rowsU us a b = .error 1003 := by unfold rowsU; rw [hn]
      rw [hr]
      exact ⟨⟨_, _, ho⟩, by decide, hE4.but.trans (hu4_1.but.mono (fun b hb e => by rw [e]; exact h.lo))⟩
    first | (simp only [decide_eq_true_eq, decide_eq_false_iff_not, Bool.not_eq_true', Bool.not_eq_false', ne_eq, Decidable.not_not, Bool.not_eq_true, Bool.not_eq_false] at q50) | (dsimp only at q50) | skip
    exact absurd q50 (by decide)
  first | (simp only [decide_eq_true_eq, decide_eq_false_iff_not, Bool.not_eq_true', Bool.not_eq_false', ne_eq, Decidable.not_not, Bool.not_eq_true, Bool.not_eq_false] at q33) | (dsimp only at q33) | skip
  refine Reg.gpur rfl rfl rfl rfl rfl rfl (Pur.mv rfl) ?_
  refine Reg.gpur rfl rfl rfl rfl rfl rfl (Pur.not rfl) ?_
  refine Reg.pur rfl rfl rfl rfl (Pur.pickF rfl rfl) ?_
  refine Reg.pur rfl rfl rfl rfl (Pur.mv rfl) ?_
  refine Reg.case 37 rfl (fun q37 => ?_) (fun q37 => ?_)
  · first | (simp only [decide_eq_true_eq, decide_eq_false_iff_not, Bool.not_eq_true', Bool.not_eq_false', ne_eq, Decidable.not_not, Bool.not_eq_true, Bool.not_eq_false] at q37) | (dsimp only at q37) | skip
    refine Reg.skip rfl rfl rfl rfl rfl rfl rfl ?_
    refine Reg.skip rfl rfl rfl rfl rfl rfl rfl ?_
    refine Reg.skip rfl rfl rfl rfl rfl rfl rfl ?_
    refine Reg.skip rfl rfl rfl rfl rfl rfl rfl ?_
    refine Reg.skip rfl rfl rfl rfl rfl rfl rfl ?_
    refine Reg.pur rfl rfl rfl rfl (Pur.pickT rfl rfl) ?_
    refine Reg.nil ?_
    refine At.condT rfl rfl rfl ?_
    refine At.region rfl rfl ?_
    refine Reg.pur rfl rfl rfl rfl (Pur.mv rfl) ?_
    have hE4 := hE

    refine Reg.op rfl rfl rfl rfl (Does.call rfl (failR_ok ho)) ?_
    rintro _ H4_1 hu4_1
    have z4_1 := hu4_1.size
    replace o6 := o6.upw hu4_1 (by omega)
    replace o8 := o8.upw hu4_1 (by omega)
    have ho := hu4_1.own
    refine Reg.nil ?_
    refine At.region rfl rfl ?_
    refine Reg.pur rfl rfl rfl rfl (Pur.mv rfl) ?_
    refine Reg.pur rfl rfl rfl rfl (Pur.nilc rfl) ?_
    refine Reg.pur rfl rfl rfl rfl (Pur.fld _ fo127_2 rfl) ?_
    refine Reg.lod rfl rfl rfl rfl (Lod.ld sc3 rfl ho.blk rfl) ?_
    refine Reg.pur rfl rfl rfl rfl (Pur.neq rfl rfl) ?_
    refine Reg.nil ?_
    refine At.cond rfl rfl (fun q50 => ?_) (fun q50 => ?_)
    · first | (simp only [decide_eq_true_eq, decide_eq_false_iff_not, Bool.not_eq_true', Bool.not_eq_false', ne_eq, Decidable.not_not, Bool.not_eq_true, Bool.not_eq_false] at q50) | (dsimp only at q50) | skip
      refine At.ret rfl Try.func111 rfl ?_
      have hn := rwP_none q37
      obtain ⟨ra, hra⟩ := rwP_some q33
      have hr : rowsU us a b = .error 1003 := by unfold rowsU; rw [hra, hn]
      rw [hr]
      exact ⟨⟨_, _, ho⟩, by decide, hE4.but.trans (hu4_1.but.mono (fun b hb e => by rw [e]; exact h.lo))⟩
    first | (simp only [decide_eq_true_eq, decide_eq_false_iff_not, Bool.not_eq_true', Bool.not_eq_false', ne_eq, Decidable.not_not, Bool.not_eq_true, Bool.not_eq_false] at q50) | (dsimp only at q50) | skip
    exact absurd q50 (by decide)
  first | (simp only [decide_eq_true_eq, decide_eq_false_iff_not, Bool.not_eq_true', Bool.not_eq_false', ne_eq, Decidable.not_not, Bool.not_eq_true, Bool.not_eq_false] at q37) | (dsimp only at q37) | skip
  refine Reg.gpur rfl rfl rfl rfl rfl rfl (Pur.mv rfl) ?_
  refine Reg.gpur rfl rfl rfl rfl rfl rfl (Pur.nilc rfl) ?_
  refine Reg.gpur rfl rfl rfl rfl rfl rfl (Pur.fld _ fo127_1 rfl) ?_
  refine Reg.glod rfl rfl rfl rfl rfl rfl (Lod.ld sc3 rfl ho.blk rfl) ?_
  refine Reg.gpur rfl rfl rfl rfl rfl rfl (Pur.geq rfl rfl) ?_
  refine Reg.pur rfl rfl rfl rfl (Pur.pickF rfl rfl) ?_
  refine Reg.nil ?_
  refine At.cond rfl rfl (fun q43 => ?_) (fun q43 => ?_)
  · first | (simp only [decide_eq_true_eq, decide_eq_false_iff_not, Bool.not_eq_true', Bool.not_eq_false', ne_eq, Decidable.not_not, Bool.not_eq_true, Bool.not_eq_false] at q43) | (dsimp only at q43) | skip
    refine At.region rfl rfl ?_
    refine Reg.pur rfl rfl rfl rfl (Pur.mv rfl) ?_
    have hE4 := hE

    refine Reg.op rfl rfl rfl rfl (Does.call rfl (failR_ok ho)) ?_
    rintro _ H4_1 hu4_1
    have z4_1 := hu4_1.size
    replace o6 := o6.upw hu4_1 (by omega)
    replace o8 := o8.upw hu4_1 (by omega)
    have ho := hu4_1.own
    refine Reg.nil ?_
    refine At.region rfl rfl ?_
    refine Reg.pur rfl rfl rfl rfl (Pur.mv rfl) ?_
    refine Reg.pur rfl rfl rfl rfl (Pur.nilc rfl) ?_
    refine Reg.pur rfl rfl rfl rfl (Pur.fld _ fo127_2 rfl) ?_
    refine Reg.lod rfl rfl rfl rfl (Lod.ld sc3 rfl ho.blk rfl) ?_
    refine Reg.pur rfl rfl rfl rfl (Pur.neq rfl rfl) ?_
    refine Reg.nil ?_
    refine At.cond rfl rfl (fun q50 => ?_) (fun q50 => ?_)
    · first | (simp only [decide_eq_true_eq, decide_eq_false_iff_not, Bool.not_eq_true', Bool.not_eq_false', ne_eq, Decidable.not_not, Bool.not_eq_true, Bool.not_eq_false] at q50) | (dsimp only at q50) | skip
      refine At.ret rfl Try.func111 rfl ?_
      obtain ⟨ra, hra⟩ := rwP_some q33
      obtain ⟨rb, hrb⟩ := rwP_some q37
      have hr : rowsU us a b = .error 1003 := by unfold rowsU; rw [hra, hrb]; exact if_pos q43
      rw [hr]
      exact ⟨⟨_, _, ho⟩, by decide, hE4.but.trans (hu4_1.but.mono (fun b hb e => by rw [e]; exact h.lo))⟩
    first | (simp only [decide_eq_true_eq, decide_eq_false_iff_not, Bool.not_eq_true', Bool.not_eq_false', ne_eq, Decidable.not_not, Bool.not_eq_true, Bool.not_eq_false] at q50) | (dsimp only at q50) | skip
    exact absurd q50 (by decide)
  first | (simp only [decide_eq_true_eq, decide_eq_false_iff_not, Bool.not_eq_true', Bool.not_eq_false', ne_eq, Decidable.not_not, Bool.not_eq_true, Bool.not_eq_false] at q43) | (dsimp only at q43) | skip
  refine At.region rfl rfl ?_
  refine Reg.pur rfl rfl rfl rfl (Pur.mv rfl) ?_
  refine Reg.pur rfl rfl rfl rfl (Pur.nilc rfl) ?_
  refine Reg.pur rfl rfl rfl rfl (Pur.fld _ fo127_2 rfl) ?_
  refine Reg.lod rfl rfl rfl rfl (Lod.ld sc3 rfl ho.blk rfl) ?_
  refine Reg.pur rfl rfl rfl rfl (Pur.neq rfl rfl) ?_
  refine Reg.nil ?_
  refine At.cond rfl rfl (fun q50 => ?_) (fun q50 => ?_)
  · first | (simp only [decide_eq_true_eq, decide_eq_false_iff_not, Bool.not_eq_true', Bool.not_eq_false', ne_eq, Decidable.not_not, Bool.not_eq_true, Bool.not_eq_false] at q50) | (dsimp only at q50) | skip
    exact (q50 trivial).elim
  first | (simp only [decide_eq_true_eq, decide_eq_false_iff_not, Bool.not_eq_true', Bool.not_eq_false', ne_eq, Decidable.not_not, Bool.not_eq_true, Bool.not_eq_false] at q50) | (dsimp only at q50) | skip
  obtain ⟨ra, hra⟩ := rwP_some q33
  obtain ⟨rb, hrb⟩ := rwP_some q37
  obtain ⟨hra5, hram⟩ := hra0 _ hra
  obtain ⟨hrb5, hrbm⟩ := hrb0 _ hrb
  have e6 : (rwP (rwS us.1 a)).1 = ra := by rw [hra]; rfl
  have e8 : (rwP (rwS us.1 b)).1 = rb := by rw [hrb]; rfl
  rw [e6] at o6
  rw [e8] at o8
  refine At.drawE ((Bks.cons o6.blk (Bks.cons o8.blk (Bks.cons ho.blk Bks.nil)))) [6] mixed rfl rfl ?_
  refine RegD.take (i := 0) rfl rfl rfl rfl (by kernel_rfl) (Bks.cons o6.blk (Bks.cons o8.blk (Bks.cons ho.blk Bks.nil))) (fun H hS => Lod.ldn ag28 rfl hS.hd (whole (by simp [hra5])) (by simp [hra5])) ?_
  refine RegD.take (i := 1) rfl rfl rfl rfl (by kernel_rfl) (Bks.cons o6.blk (Bks.cons o8.blk (Bks.cons ho.blk Bks.nil))) (fun H hS => Lod.ldn ag28 rfl hS.tl.hd (whole (by simp [hrb5])) (by simp [hrb5])) ?_
  refine RegD.tpur (i := 2) rfl rfl rfl rfl (by kernel_rfl) (Pur.mv rfl) ?_
  refine RegD.tpur (i := 3) rfl rfl rfl rfl (by kernel_rfl) (Pur.nilc rfl) ?_
  refine RegD.tpur (i := 4) rfl rfl rfl rfl (by kernel_rfl) (Pur.fld _ fo127_1 rfl) ?_
  refine RegD.take (i := 5) rfl rfl rfl rfl (by kernel_rfl) (Bks.cons o6.blk (Bks.cons o8.blk (Bks.cons ho.blk Bks.nil))) (fun H hS => Lod.ld sc3 rfl hS.tl.tl.hd rfl) ?_
  refine RegD.one (i := 6) (by kernel_rfl) rfl rfl rfl rfl (Does.call rfl (unifyRows_ok _ _ us.2 hra5 hrb5 _)) ?_
  rintro v6_6 H6_6 ⟨A9, cap9, rfl, hB9, hfr9, hE6_6⟩
  have z6_6 := hE6_6.lt
  replace hE := hE.ext hE6_6
  replace ho := ho.ext hE6_6
  replace o6 := o6.ext hE6_6
  replace o8 := o8.ext hE6_6
  have hS9 := hB9.sl
  have z_hS9 := hS9.lt
  refine ⟨fun h => (by cases h), ?_⟩
  refine RegD.tpur (i := 7) rfl rfl rfl rfl (by kernel_rfl) (Pur.mv rfl) ?_
  refine RegD.tpur (i := 8) rfl rfl rfl rfl (by kernel_rfl) (Pur.ext rfl rfl) ?_
  refine RegD.tpur (i := 9) rfl rfl rfl rfl (by kernel_rfl) (Pur.ext rfl rfl) ?_
  refine RegD.tpur (i := 10) rfl rfl rfl rfl (by kernel_rfl) (Pur.asg rfl) ?_
  refine RegD.tpur (i := 11) rfl rfl rfl rfl (by kernel_rfl) (Pur.asg rfl) ?_
  refine RegD.done (by kernel_rfl) ?_
  refine At.region rfl rfl ?_
  refine Reg.pur rfl rfl rfl rfl (Pur.mv rfl) ?_
  refine Reg.pur rfl rfl rfl rfl (Pur.neq rfl rfl) ?_
  refine Reg.nil ?_
  refine At.cond rfl rfl (fun q62 => ?_) (fun q62 => ?_)
  · first | (simp only [decide_eq_true_eq, decide_eq_false_iff_not, Bool.not_eq_true', Bool.not_eq_false', ne_eq, Decidable.not_not, Bool.not_eq_true, Bool.not_eq_false] at q62) | (dsimp only at q62) | skip
    refine At.region rfl rfl ?_
    refine Reg.pur rfl rfl rfl rfl (Pur.mv rfl) ?_
    have hE8 := hE

    refine Reg.op rfl rfl rfl rfl (Does.call rfl (failR_ok ho)) ?_
    rintro _ H8_1 hu8_1
    have z8_1 := hu8_1.size
    refine Reg.nil ?_
    refine At.ret rfl Try.func111 rfl ?_
    have hr : rowsU us a b = .error 1001 := by unfold rowsU; rw [hra, hrb]; dsimp only; rw [if_neg (by omega)]; exact if_pos q62
    rw [hr]
    exact ⟨⟨_, _, hu8_1.own⟩, by decide, hE8.but.trans (hu8_1.but.mono (fun b hb e => by rw [e]; exact h.lo))⟩
  first | (simp only [decide_eq_true_eq, decide_eq_false_iff_not, Bool.not_eq_true', Bool.not_eq_false', ne_eq, Decidable.not_not, Bool.not_eq_true, Bool.not_eq_false] at q62) | (dsimp only at q62) | skip
  have hr : rowsU us a b = match addAll ((uniR ra rb us.2).1.map bt) us.1 with | some l => .ok (l, us.2 + ((uniR ra rb us.2).1.length / 2 : Nat)) | none => .error 1003 := by unfold rowsU; rw [hra, hrb]; dsimp only; rw [if_neg (by omega), if_neg (by rw [q62]; simp)]; generalize addAll _ _ = o; cases o <;> rfl
  obtain ⟨hl2, hmem⟩ := uniR_mem hra5 hrb5 (by omega) q62
  clear hra0 hrb0 hqa hqb hla5 hlb5 e6 e8 hra hrb
  have hlt9 := hS9.lt
  generalize huni : (uniR ra rb us.2).1 = L at *

  refine At.region rfl rfl ?_
  refine Reg.pur rfl rfl rfl rfl (Pur.mv rfl) ?_
  refine Reg.pur rfl rfl rfl rfl (Pur.lenS isl22 rfl) ?_
  refine Reg.pur rfl rfl rfl rfl (Pur.eql rfl rfl) ?_
  refine Reg.nil ?_
  refine At.cond rfl rfl (fun q67 => ?_) (fun q67 => ?_)
  · first | (simp only [decide_eq_true_eq, decide_eq_false_iff_not, Bool.not_eq_true', Bool.not_eq_false', ne_eq, Decidable.not_not, Bool.not_eq_true, Bool.not_eq_false] at q67) | (dsimp only at q67) | skip
    refine At.region rfl rfl ?_
    refine Reg.pur rfl rfl rfl rfl (Pur.mv rfl) ?_
    refine Reg.pur rfl rfl rfl rfl (Pur.nilc rfl) ?_
    refine Reg.pur rfl rfl rfl rfl (Pur.fld _ fo127_1 rfl) ?_
    refine Reg.lod rfl rfl rfl rfl (Lod.ld sc3 rfl ho.blk rfl) ?_
    first | refine Reg.pur rfl rfl rfl rfl (Pur.add64 rfl rfl (by omega)) ?_ | refine Reg.pur rfl rfl rfl rfl (Pur.add64 rfl rfl (by assumption)) ?_ | refine Reg.pur rfl rfl rfl rfl (Pur.add rfl rfl) ?_
    refine Reg.pur rfl rfl rfl rfl (Pur.nilc rfl) ?_
    refine Reg.pur rfl rfl rfl rfl (Pur.fld _ fo127_1 rfl) ?_
    have hE9 := hE

    refine Reg.op0 rfl rfl rfl (Does.st sc3 rfl rfl rfl ho (by first | decide | (simp; done) | (simp; omega) | omega)) ?_
    rintro _ H10_7 hu10_7
    have z10_7 := hu10_7.size
    replace hS9 := hS9.upw hu10_7 (by omega)
    replace ho := hu10_7.own
    refine Reg.nil ?_
    have hM0 : Md sb A A H H10_7 := (Md.of_ext hE9).trans ⟨hu10_7.but.mono (fun b hb e => .inl e), .inl rfl⟩
    have hSl0 : Slv H10_7 lo sb A cap Bs us.1 := (h.ext hE9).via hu10_7.but (fun g _ hg e => hg e)
    replace ho := ho.of (c' := [.slice A Bs.length cap, I (us.2 + (L.length / 2 : Nat)), I 0]) (by rw [show us.2 + ((L.length / 2 : Nat) : Int) = us.2 + 1 by omega]; rfl)
    refine At.region rfl rfl ?_
    refine Reg.pur rfl rfl rfl rfl (Pur.asg rfl) ?_
    refine Reg.nil ?_
    refine At.loop (σ := Nat × Int × Value × Value × Option Addr × Nat × List Bd × List Bt) (fun (i, c, x, y, A', cap', Bs', Ts') => [(12, I i), (10, .slice A9 L.length cap9), (0, ptr sb 0)]) (fun (i, c, x, y, A', cap', Bs', Ts') H' => i ≤ L.length ∧ Own H' sb [x, y, I c] ∧ But (fun g => lo ≤ g) H H' ∧ (c ≠ 0 → c = 1003 ∧ addAll (L.map bt) us.1 = none) ∧ (c = 0 → x = .slice A' Bs'.length cap' ∧ y = I (us.2 + (L.length / 2 : Nat)) ∧ Bs'.length = Bs.length + i ∧ Slv H' lo sb A' cap' Bs' Ts' ∧ addAll (L.map bt) us.1 = addAll ((L.drop i).map bt) Ts' ∧ SlT H' encB 8 (.slice A9 L.length cap9) L ∧ (L.length = 0 ∨ (ob A9 ≠ ob A' ∧ ob A9 ≠ sb ∧ ob A9 < H'.size)) ∧ Md sb A A' H H')) (fun (i, c, x, y, A', cap', Bs', Ts') => L.length - i) (0, 0, .slice A Bs.length cap, I (us.2 + (L.length / 2 : Nat)), A, cap, Bs, us.1) rfl ⟨rfl, rfl, rfl, trivial⟩ ⟨by omega, ho, hM0.low h.lo hgl.2.1, fun hc => absurd rfl hc, fun _ => ⟨rfl, rfl, rfl, hSl0, rfl, hS9, by omega, hM0⟩⟩ ?_
    have hlo := h.lo
    clear hM0 hSl0 ho hS9 hB9
    rintro ⟨i, c, x, y, A', cap', Bs', Ts'⟩ H3 ⟨hi, ho, hbut, hcn, hc0⟩ ih
    dsimp only at hi ho hcn hc0 ⊢
    have z_ho := ho.lt
    refine At.region rfl rfl ?_
    refine Reg.pur rfl rfl rfl rfl (Pur.mv rfl) ?_
    refine Reg.pur rfl rfl rfl rfl (Pur.mv rfl) ?_
    refine Reg.pur rfl rfl rfl rfl (Pur.lenS isl22 rfl) ?_
    refine Reg.pur rfl rfl rfl rfl (Pur.lss rfl rfl) ?_
    refine Reg.pur rfl rfl rfl rfl (Pur.mv rfl) ?_
    refine Reg.case 79 rfl (fun q79 => ?_) (fun q79 => ?_)
    · first | (simp only [decide_eq_true_eq, decide_eq_false_iff_not, Bool.not_eq_true', Bool.not_eq_false', ne_eq, Decidable.not_not, Bool.not_eq_true, Bool.not_eq_false] at q79) | (dsimp only at q79) | skip
      refine Reg.gpur rfl rfl rfl rfl rfl rfl (Pur.mv rfl) ?_
      refine Reg.gpur rfl rfl rfl rfl rfl rfl (Pur.nilc rfl) ?_
      refine Reg.gpur rfl rfl rfl rfl rfl rfl (Pur.fld _ fo127_2 rfl) ?_
      refine Reg.glod rfl rfl rfl rfl rfl rfl (Lod.ld sc3 rfl ho.blk rfl) ?_
      refine Reg.gpur rfl rfl rfl rfl rfl rfl (Pur.eql rfl rfl) ?_
      refine Reg.pur rfl rfl rfl rfl (Pur.pickT rfl rfl) ?_
      refine Reg.nil ?_
      refine At.cond rfl rfl (fun q85 => ?_) (fun q85 => ?_)
      · first | (simp only [decide_eq_true_eq, decide_eq_false_iff_not, Bool.not_eq_true', Bool.not_eq_false', ne_eq, Decidable.not_not, Bool.not_eq_true, Bool.not_eq_false] at q85) | (dsimp only at q85) | skip
        have hi' : i < L.length := by omega
        subst q85
        obtain ⟨rfl, rfl, hll, hSl, hadd, hS9, hA9, hM⟩ := hc0 rfl
        have hML := hM.1.1
        obtain ⟨v, r, hxe, hr5, hbok⟩ := hmem _ (List.getElem_mem hi')
        have hw9 : Wide encB 8 L := fun x hx => by obtain ⟨v, r, rfl, hr5, _⟩ := hmem x hx; simp [bR, hr5]
        obtain ⟨bq, oq, cq, rfl, hBq, hdq, h8⟩ := sl_at hw9 hS9 hi'
        rw [addAll_drop hi', hxe] at hadd
        rw [hxe] at hdq h8 hbok
        refine At.region rfl rfl ?_
        refine Reg.pur rfl rfl rfl rfl (Pur.mv rfl) ?_
        refine Reg.pur rfl rfl rfl rfl (Pur.mv rfl) ?_
        refine Reg.pur rfl rfl rfl rfl (Pur.mv rfl) ?_
        refine Reg.pur rfl rfl rfl rfl (Pur.idx _ es22 rfl rfl (by omega) (by omega)) ?_
        refine Reg.lod rfl rfl rfl rfl (Lod.ldn ag49 rfl hBq hdq h8) ?_
        refine Reg.op rfl rfl rfl rfl (Does.call rfl (more_ok (s := (Ts', us.2 + (L.length / 2 : Nat))) hSl ho (bes_row hr5 hbok) (by omega))) ?_
        rintro w14_5 H14_5 hP
        refine Reg.nil ?_
        refine At.region rfl rfl ?_
        refine Reg.pur rfl rfl rfl rfl (Pur.mv rfl) ?_
        first | refine Reg.pur rfl rfl rfl rfl (Pur.add64 rfl rfl (by omega)) ?_ | refine Reg.pur rfl rfl rfl rfl (Pur.add64 rfl rfl (by assumption)) ?_ | refine Reg.pur rfl rfl rfl rfl (Pur.add rfl rfl) ?_
        refine Reg.pur rfl rfl rfl rfl (Pur.asg rfl) ?_
        refine Reg.nil ?_
        cases hab : addB (bt (bR v r)) Ts' with
        | none =>
          have e0 : addR (bt (bR v r)) (Ts', us.2 + (L.length / 2 : Nat)) = .error 1003 := by unfold addR; dsimp only; rw [hab]
          rw [e0] at hP
          obtain ⟨⟨x, y, ho⟩, _, hb⟩ := hP
          exact At.via (ih (i + 1, 1003, x, y, A', cap', Bs', Ts') _ ⟨by omega, ho, hbut.trans hb, fun _ => ⟨rfl, by rw [hadd, hab]⟩, fun hz => absurd hz (by decide)⟩ (by simp only; omega)) ⟨rfl, rfl, rfl, trivial⟩
        | some Ts2 =>
          have e0 : addR (bt (bR v r)) (Ts', us.2 + (L.length / 2 : Nat)) = .ok (Ts2, us.2 + (L.length / 2 : Nat)) := by unfold addR; dsimp only; rw [hab]
          rw [e0] at hP
          rw [hab] at hadd
          obtain ⟨A2, cap2, Bs2, hSl2, ho2, hM2⟩ := hP
          have hlen : Bs2.length = Bs.length + (i + 1) := by { have := hSl2.lenT; have := addB_length hab; have := hSl.lenT; dsimp only at *; omega }
          have hzz := hM2.1.1
          have hob := hM2.2
          exact At.via (ih (i + 1, 0, _, _, A2, cap2, Bs2, Ts2) _ ⟨by omega, ho2, (hM.trans hM2).low hlo hgl.2.1, fun hz => absurd rfl hz, fun _ => ⟨rfl, rfl, hlen, hSl2, hadd, hS9.via hM2.1 (fun h0 g hg hh => by omega), by omega, hM.trans hM2⟩⟩ (by simp only; omega)) ⟨rfl, rfl, rfl, trivial⟩
      first | (simp only [decide_eq_true_eq, decide_eq_false_iff_not, Bool.not_eq_true', Bool.not_eq_false', ne_eq, Decidable.not_not, Bool.not_eq_true, Bool.not_eq_false] at q85) | (dsimp only at q85) | skip
      refine At.fall rfl Try.func111 rfl ?_
      obtain ⟨rfl, hadd⟩ := hcn q85
      rw [hr, hadd]
      exact ⟨⟨_, _, ho⟩, by decide, hbut⟩
    first | (simp only [decide_eq_true_eq, decide_eq_false_iff_not, Bool.not_eq_true', Bool.not_eq_false', ne_eq, Decidable.not_not, Bool.not_eq_true, Bool.not_eq_false] at q79) | (dsimp only at q79) | skip
    refine Reg.skip rfl rfl rfl rfl rfl rfl rfl ?_
    refine Reg.skip rfl rfl rfl rfl rfl rfl rfl ?_
    refine Reg.skip rfl rfl rfl rfl rfl rfl rfl ?_
    refine Reg.skip rfl rfl rfl rfl rfl rfl rfl ?_
    refine Reg.skip rfl rfl rfl rfl rfl rfl rfl ?_
    refine Reg.pur rfl rfl rfl rfl (Pur.pickF rfl rfl) ?_
    refine Reg.nil ?_
    refine At.condF rfl rfl rfl ?_
    refine At.fall rfl Try.func111 rfl ?_
    by_cases hcz : c = 0
    · obtain ⟨rfl, rfl, hll, hSl, hadd, hS9, hA9, hM⟩ := hc0 hcz
      have hend : addAll (L.map bt) us.1 = some Ts' := by rw [hadd, List.drop_eq_nil_of_le (by omega)]; rfl
      rw [hcz] at ho
      rw [hr, hend]
      exact ⟨A', cap', Bs', hSl, ho, hM⟩
    · obtain ⟨rfl, hadd⟩ := hcn hcz
      rw [hr, hadd]
      exact ⟨⟨_, _, ho⟩, by decide, hbut⟩
  first | (simp only [decide_eq_true_eq, decide_eq_false_iff_not, Bool.not_eq_true', Bool.not_eq_false', ne_eq, Decidable.not_not, Bool.not_eq_true, Bool.not_eq_false] at q67) | (dsimp only at q67) | skip
  have hM0 : Md sb A A H H6_6 := Md.of_ext hE
  have hSl0 : Slv H6_6 lo sb A cap Bs us.1 := h.ext hE
  replace ho := ho.of (c' := [.slice A Bs.length cap, I (us.2 + (L.length / 2 : Nat)), I 0]) (by rw [show us.2 + ((L.length / 2 : Nat) : Int) = us.2 by omega])

  refine At.region rfl rfl ?_
  refine Reg.pur rfl rfl rfl rfl (Pur.asg rfl) ?_
  refine Reg.nil ?_
  refine At.loop (σ := Nat × Int × Value × Value × Option Addr × Nat × List Bd × List Bt) (fun (i, c, x, y, A', cap', Bs', Ts') => [(12, I i), (10, .slice A9 L.length cap9), (0, ptr sb 0)]) (fun (i, c, x, y, A', cap', Bs', Ts') H' => i ≤ L.length ∧ Own H' sb [x, y, I c] ∧ But (fun g => lo ≤ g) H H' ∧ (c ≠ 0 → c = 1003 ∧ addAll (L.map bt) us.1 = none) ∧ (c = 0 → x = .slice A' Bs'.length cap' ∧ y = I (us.2 + (L.length / 2 : Nat)) ∧ Bs'.length = Bs.length + i ∧ Slv H' lo sb A' cap' Bs' Ts' ∧ addAll (L.map bt) us.1 = addAll ((L.drop i).map bt) Ts' ∧ SlT H' encB 8 (.slice A9 L.length cap9) L ∧ (L.length = 0 ∨ (ob A9 ≠ ob A' ∧ ob A9 ≠ sb ∧ ob A9 < H'.size)) ∧ Md sb A A' H H')) (fun (i, c, x, y, A', cap', Bs', Ts') => L.length - i) (0, 0, .slice A Bs.length cap, I (us.2 + (L.length / 2 : Nat)), A, cap, Bs, us.1) rfl ⟨rfl, rfl, rfl, trivial⟩ ⟨by omega, ho, hM0.low h.lo hgl.2.1, fun hc => absurd rfl hc, fun _ => ⟨rfl, rfl, rfl, hSl0, rfl, hS9, by omega, hM0⟩⟩ ?_
  have hlo := h.lo
  clear hM0 hSl0 ho hS9 hB9
  rintro ⟨i, c, x, y, A', cap', Bs', Ts'⟩ H3 ⟨hi, ho, hbut, hcn, hc0⟩ ih
  dsimp only at hi ho hcn hc0 ⊢
  have z_ho := ho.lt
  refine At.region rfl rfl ?_
  refine Reg.pur rfl rfl rfl rfl (Pur.mv rfl) ?_
  refine Reg.pur rfl rfl rfl rfl (Pur.mv rfl) ?_
  refine Reg.pur rfl rfl rfl rfl (Pur.lenS isl22 rfl) ?_
  refine Reg.pur rfl rfl rfl rfl (Pur.lss rfl rfl) ?_
  refine Reg.pur rfl rfl rfl rfl (Pur.mv rfl) ?_
  refine Reg.case 79 rfl (fun q79 => ?_) (fun q79 => ?_)
  · first | (simp only [decide_eq_true_eq, decide_eq_false_iff_not, Bool.not_eq_true', Bool.not_eq_false', ne_eq, Decidable.not_not, Bool.not_eq_true, Bool.not_eq_false] at q79) | (dsimp only at q79) | skip
    refine Reg.gpur rfl rfl rfl rfl rfl rfl (Pur.mv rfl) ?_
    refine Reg.gpur rfl rfl rfl rfl rfl rfl (Pur.nilc rfl) ?_
    refine Reg.gpur rfl rfl rfl rfl rfl rfl (Pur.fld _ fo127_2 rfl) ?_
    refine Reg.glod rfl rfl rfl rfl rfl rfl (Lod.ld sc3 rfl ho.blk rfl) ?_
    refine Reg.gpur rfl rfl rfl rfl rfl rfl (Pur.eql rfl rfl) ?_
    refine Reg.pur rfl rfl rfl rfl (Pur.pickT rfl rfl) ?_
    refine Reg.nil ?_
    refine At.cond rfl rfl (fun q85 => ?_) (fun q85 => ?_)
    · first | (simp only [decide_eq_true_eq, decide_eq_false_iff_not, Bool.not_eq_true', Bool.not_eq_false', ne_eq, Decidable.not_not, Bool.not_eq_true, Bool.not_eq_false] at q85) | (dsimp only at q85) | skip
      have hi' : i < L.length := by omega
      subst q85
      obtain ⟨rfl, rfl, hll, hSl, hadd, hS9, hA9, hM⟩ := hc0 rfl
      have hML := hM.1.1
      obtain ⟨v, r, hxe, hr5, hbok⟩ := hmem _ (List.getElem_mem hi')
      have hw9 : Wide encB 8 L := fun x hx => by obtain ⟨v, r, rfl, hr5, _⟩ := hmem x hx; simp [bR, hr5]
      obtain ⟨bq, oq, cq, rfl, hBq, hdq, h8⟩ := sl_at hw9 hS9 hi'
      rw [addAll_drop hi', hxe] at hadd
      rw [hxe] at hdq h8 hbok
      refine At.region rfl rfl ?_
      refine Reg.pur rfl rfl rfl rfl (Pur.mv rfl) ?_
      refine Reg.pur rfl rfl rfl rfl (Pur.mv rfl) ?_
      refine Reg.pur rfl rfl rfl rfl (Pur.mv rfl) ?_
      refine Reg.pur rfl rfl rfl rfl (Pur.idx _ es22 rfl rfl (by omega) (by omega)) ?_
      refine Reg.lod rfl rfl rfl rfl (Lod.ldn ag49 rfl hBq hdq h8) ?_
      refine Reg.op rfl rfl rfl rfl (Does.call rfl (more_ok (s := (Ts', us.2 + (L.length / 2 : Nat))) hSl ho (bes_row hr5 hbok) (by omega))) ?_
      rintro w14_5 H14_5 hP
      refine Reg.nil ?_
      refine At.region rfl rfl ?_
      refine Reg.pur rfl rfl rfl rfl (Pur.mv rfl) ?_
      first | refine Reg.pur rfl rfl rfl rfl (Pur.add64 rfl rfl (by omega)) ?_ | refine Reg.pur rfl rfl rfl rfl (Pur.add64 rfl rfl (by assumption)) ?_ | refine Reg.pur rfl rfl rfl rfl (Pur.add rfl rfl) ?_
      refine Reg.pur rfl rfl rfl rfl (Pur.asg rfl) ?_
      refine Reg.nil ?_
      cases hab : addB (bt (bR v r)) Ts' with
      | none =>
        have e0 : addR (bt (bR v r)) (Ts', us.2 + (L.length / 2 : Nat)) = .error 1003 := by unfold addR; dsimp only; rw [hab]
        rw [e0] at hP
        obtain ⟨⟨x, y, ho⟩, _, hb⟩ := hP
        exact At.via (ih (i + 1, 1003, x, y, A', cap', Bs', Ts') _ ⟨by omega, ho, hbut.trans hb, fun _ => ⟨rfl, by rw [hadd, hab]⟩, fun hz => absurd hz (by decide)⟩ (by simp only; omega)) ⟨rfl, rfl, rfl, trivial⟩
      | some Ts2 =>
        have e0 : addR (bt (bR v r)) (Ts', us.2 + (L.length / 2 : Nat)) = .ok (Ts2, us.2 + (L.length / 2 : Nat)) := by unfold addR; dsimp only; rw [hab]
        rw [e0] at hP
        rw [hab] at hadd
        obtain ⟨A2, cap2, Bs2, hSl2, ho2, hM2⟩ := hP
        have hlen : Bs2.length = Bs.length + (i + 1) := by { have := hSl2.lenT; have := addB_length hab; have := hSl.lenT; dsimp only at *; omega }
        have hzz := hM2.1.1
        have hob := hM2.2
        exact At.via (ih (i + 1, 0, _, _, A2, cap2, Bs2, Ts2) _ ⟨by omega, ho2, (hM.trans hM2).low hlo hgl.2.1, fun hz => absurd rfl hz, fun _ => ⟨rfl, rfl, hlen, hSl2, hadd, hS9.via hM2.1 (fun h0 g hg hh => by omega), by omega, hM.trans hM2⟩⟩ (by simp only; omega)) ⟨rfl, rfl, rfl, trivial⟩
    first | (simp only [decide_eq_true_eq, decide_eq_false_iff_not, Bool.not_eq_true', Bool.not_eq_false', ne_eq, Decidable.not_not, Bool.not_eq_true, Bool.not_eq_false] at q85) | (dsimp only at q85) | skip
    refine At.fall rfl Try.func111 rfl ?_
    obtain ⟨rfl, hadd⟩ := hcn q85
    rw [hr, hadd]
    exact ⟨⟨_, _, ho⟩, by decide, hbut⟩
  first | (simp only [decide_eq_true_eq, decide_eq_false_iff_not, Bool.not_eq_true', Bool.not_eq_false', ne_eq, Decidable.not_not, Bool.not_eq_true, Bool.not_eq_false] at q79) | (dsimp only at q79) | skip
  refine Reg.skip rfl rfl rfl rfl rfl rfl rfl ?_
  refine Reg.skip rfl rfl rfl rfl rfl rfl rfl ?_
  refine Reg.skip rfl rfl rfl rfl rfl rfl rfl ?_
  refine Reg.skip rfl rfl rfl rfl rfl rfl rfl ?_
  refine Reg.skip rfl rfl rfl rfl rfl rfl rfl ?_
  refine Reg.pur rfl rfl rfl rfl (Pur.pickF rfl rfl) ?_
  refine Reg.nil ?_
  refine At.condF rfl rfl rfl ?_
  refine At.fall rfl Try.func111 rfl ?_
  by_cases hcz : c = 0
  · obtain ⟨rfl, rfl, hll, hSl, hadd, hS9, hA9, hM⟩ := hc0 hcz
    have hend : addAll (L.map bt) us.1 = some Ts' := by rw [hadd, List.drop_eq_nil_of_le (by omega)]; rfl
    rw [hcz] at ho
    rw [hr, hend]
    exact ⟨A', cap', Bs', hSl, ho, hM⟩
  · obtain ⟨rfl, hadd⟩ := hcn hcz
    rw [hr, hadd]
    exact ⟨⟨_, _, ho⟩, by decide, hbut⟩
end Go.Proofs.Ytlfillhffpiffaa
