/-
  Chapter 21: a frame that is given its second child's value; a node that begins; a step.
-/
import Derived.Test.YtjhkmebmbopfoaaMacJ
import Derived.Test.YtjhkmebmbopfoaaMacE
namespace Go.Proofs.Ytjhkmebmbopfoaa
set_option linter.unusedSimpArgs false
set_option linter.unusedVariables false
set_option maxRecDepth 8000
set_option maxHeartbeats 2000000
open Go Go.Fx Go.Proofs
namespace FactsMacK
theorem ag25 : ag Try.prog 25 = some 2 := by kernel_rfl
theorem ag68 : ag Try.prog 68 = some 6 := by kernel_rfl
theorem ag71 : ag Try.prog 71 = some 9 := by kernel_rfl
theorem es22 : esz Try.prog 22 = some 9 := by kernel_rfl
theorem es46 : esz Try.prog 46 = some 9 := by kernel_rfl
theorem fo25_0 : foff Try.prog 25 0 = some 0 := by kernel_rfl
theorem fo25_1 : foff Try.prog 25 1 = some 1 := by kernel_rfl
theorem fo37_0 : foff Try.prog 37 0 = some 0 := by kernel_rfl
theorem fo37_1 : foff Try.prog 37 1 = some 1 := by kernel_rfl
theorem fo37_4 : foff Try.prog 37 4 = some 4 := by kernel_rfl
theorem fo51_0 : foff Try.prog 51 0 = some 0 := by kernel_rfl
theorem fo51_1 : foff Try.prog 51 1 = some 1 := by kernel_rfl
theorem fo51_2 : foff Try.prog 51 2 = some 2 := by kernel_rfl
theorem fo51_3 : foff Try.prog 51 3 = some 3 := by kernel_rfl
theorem fo51_4 : foff Try.prog 51 4 = some 4 := by kernel_rfl
theorem fo51_5 : foff Try.prog 51 5 = some 5 := by kernel_rfl
theorem fo68_0 : foff Try.prog 68 0 = some 0 := by kernel_rfl
theorem fo68_1 : foff Try.prog 68 1 = some 1 := by kernel_rfl
theorem fo68_4 : foff Try.prog 68 4 = some 4 := by kernel_rfl
theorem fo71_0 : foff Try.prog 71 0 = some 0 := by kernel_rfl
theorem fo71_1 : foff Try.prog 71 1 = some 1 := by kernel_rfl
theorem fo71_3 : foff Try.prog 71 3 = some 3 := by kernel_rfl
theorem isPt48 : isPt Try.prog 48 = true := by kernel_rfl
theorem isl46 : isSl Try.prog 46 = true := by kernel_rfl
theorem mixed : Try.prog.follows .mixedOrders = true := by kernel_rfl
theorem pl25 : places Try.prog 25 = some [(0, 1), (1, 1)] := by kernel_rfl
theorem pl68 : places Try.prog 68 = some [(0, 1), (1, 1), (2, 1), (3, 1), (4, 1), (5, 1)] := by kernel_rfl
theorem pl71 : places Try.prog 71 = some [(0, 1), (1, 1), (2, 1), (3, 6)] := by kernel_rfl
theorem sc22 : sc Try.prog 22 = true := by kernel_rfl
theorem sc3 : sc Try.prog 3 = true := by kernel_rfl
theorem sc46 : sc Try.prog 46 = true := by kernel_rfl
theorem sc47 : sc Try.prog 47 = true := by kernel_rfl
theorem sc48 : sc Try.prog 48 = true := by kernel_rfl
theorem sc49 : sc Try.prog 49 = true := by kernel_rfl
theorem sc66 : sc Try.prog 66 = true := by kernel_rfl
theorem sc69 : sc Try.prog 69 = true := by kernel_rfl
theorem zc25 : zc Try.prog 25 = some [.int .i64 0, .int .i64 0] := by kernel_rfl
theorem zc68 : zc Try.prog 68 = some [.int .i64 0, .int .i64 0, .int .i64 0, .pointer none, .pointer none, .pointer none] := by kernel_rfl
theorem zc71 : zc Try.prog 71 = some [.int .i64 0, .int .i64 0, .pointer none, .int .i64 0, .int .i64 0, .int .i64 0, .pointer none, .pointer none, .pointer none] := by kernel_rfl
end FactsMacK
open FactsMacK

variable {L : List (List Int)} {N : Value} {m B : Nat} {G : Gh} {s : Nat} {fr : List Fr} {A : Option Addr} {cap : Nat} {nd' : Int} {pe pv pd : Value}
def sndM (L : List (List Int)) (k : Int) (x : List Int) (fr : List Fr) (hd v : T) : Ou :=
  if k = 5 then callM L fr hd v
  else if k = 10 then .go (.gv fr (.op (x.getD 4 0) hd v))
  else match hd, v with
    | .num a, .num b => if (prm (x.getD 4 0) a b).1 = 3 then .fin 3 (prm (x.getD 4 0) a b).2
        else if (prm (x.getD 4 0) a b).1 = 1 then .go (.gv fr (.tru (prm (x.getD 4 0) a b).2)) else .go (.gv fr (.num (prm (x.getD 4 0) a b).2))
    | _, _ => .fin 5 0
theorem snd_eq (w node : Int) (en hd v : T) : secondM L fr ⟨w, node, en, hd⟩ v = sndM L ((el L node).getD 0 0) (el L node) fr hd v := rfl
theorem snd_no {k : Int} {x : List Int} {hd v : T} (h5 : k ≠ 5) (h10 : k ≠ 10) (h : kp hd ≠ 0 ∨ kp v ≠ 0) : sndM L k x fr hd v = .fin 5 0 := by
  unfold sndM
  rw [if_neg h5, if_neg h10]
  cases hd <;> try rfl
  cases v <;> try rfl
  simp only [kp] at h; omega
theorem snd_num {k : Int} {x : List Int} {a b : Int} (h5 : k ≠ 5) (h10 : k ≠ 10) : sndM L k x fr (.num a) (.num b) = (if (prm (x.getD 4 0) a b).1 = 3 then .fin 3 (prm (x.getD 4 0) a b).2
        else if (prm (x.getD 4 0) a b).1 = 1 then .go (.gv fr (.tru (prm (x.getD 4 0) a b).2)) else .go (.gv fr (.num (prm (x.getD 4 0) a b).2))) := by
  unfold sndM
  rw [if_neg h5, if_neg h10]
theorem secondP_ok {H : Heap} (hT : Tm L) (hM : Ms L N m B G s H fr A cap nd' pe pv nilp) {i w : Int} {en hd v : T} {p : Value} {fb : Nat} {hc' vc : List Value} (hn0 : 0 ≤ i) (hn1 : i < L.length)
    (hfb : Blk H fb (I w :: I i :: p :: hc')) (hfm : fb ≠ m ∧ (fb : Int) ≠ ob A) (hhd : repV G hd hc') (hdv : hd.isV L) (hv : repV G v vc) (hl : fr.length ≤ 4096) :
    Ret Try.prog 29 [ptr m 0, ptr fb 0, .agg vc.toArray] H (fun _ H' => After L N m B (ob A) H (secondM L fr ⟨w, i, en, hd⟩ v) H') := by
  obtain ⟨vn, vi, vp, vq, vr, rfl⟩ := repV_cells hv
  obtain ⟨hn, hi, hp, hq, hr, rfl⟩ := repV_cells hhd
  obtain ⟨bn, on', capn, cn, rfl, hB, hbB, hc⟩ := hM.node hn0 hn1
  have hk12 := (hT.kind hn0 hn1).2
  have hL := Chm.refl m (ob A) H
  have zM := hM.lt
  rw [snd_eq]
  generalize hkk : (el L i).getD 0 0 = k at *
  have hc0 := hc 0 (by decide)
  rw [hkk] at hc0
  refine Ret.of_at (N := 93) Try.call29 Try.func29 rfl rfl rfl ?_
  have hE := Ext.refl H
  have z_hL := hL.lt
  have z_hM := hM.lt
  have z_hB := hB.lt
  have z_hfb := hfb.lt
  refine At.region rfl rfl ?_
  refine Reg.op rfl rfl rfl rfl (Does.box rfl rfl) ?_
  rintro _ H0_0 ⟨rfl, hn0_0⟩
  have z0_0 := hn0_0.size
  first | replace hL := hL.ext hn0_0.ext | skip
  replace hM := hM.ext hn0_0.ext
  replace hB := hB.ext hn0_0.ext
  replace hfb := hfb.ext hn0_0.ext
  have o0_0 := hn0_0.own
  refine Reg.nil ?_
  refine At.drawE ((Bks.cons hM.own.blk (Bks.cons hfb.blk Bks.nil))) [] mixed rfl rfl ?_
  refine RegD.tpur (i := 0) rfl rfl rfl rfl (by kernel_rfl) (Pur.mv rfl) ?_
  refine RegD.tpur (i := 1) rfl rfl rfl rfl (by kernel_rfl) (Pur.nilc rfl) ?_
  refine RegD.tpur (i := 2) rfl rfl rfl rfl (by kernel_rfl) (Pur.fld _ fo51_0 rfl) ?_
  refine RegD.take (i := 3) rfl rfl rfl rfl (by kernel_rfl) (Bks.cons hM.own.blk (Bks.cons hfb.blk Bks.nil)) (fun H hS => Lod.ld sc22 rfl hS.hd rfl) ?_
  refine RegD.tpur (i := 4) rfl rfl rfl rfl (by kernel_rfl) (Pur.mv rfl) ?_
  refine RegD.tpur (i := 5) rfl rfl rfl rfl (by kernel_rfl) (Pur.nilc rfl) ?_
  refine RegD.tpur (i := 6) rfl rfl rfl rfl (by kernel_rfl) (Pur.fld _ fo71_1 rfl) ?_
  refine RegD.take (i := 7) rfl rfl rfl rfl (by kernel_rfl) (Bks.cons hM.own.blk (Bks.cons hfb.blk Bks.nil)) (fun H hS => Lod.ld sc3 rfl hS.tl.hd rfl) ?_
  refine RegD.tpur (i := 8) rfl rfl rfl rfl (by kernel_rfl) (Pur.idx _ es22 rfl rfl (by omega) (by omega)) ?_
  refine RegD.tpur (i := 9) rfl rfl rfl rfl (by kernel_rfl) (Pur.asg rfl) ?_
  refine RegD.done (by kernel_rfl) ?_
  refine At.region rfl rfl ?_
  refine Reg.pur rfl rfl rfl rfl (Pur.mv rfl) ?_
  refine Reg.pur rfl rfl rfl rfl (Pur.nilc rfl) ?_
  refine Reg.pur rfl rfl rfl rfl (Pur.fld _ fo37_0 rfl) ?_
  refine Reg.lod rfl rfl rfl rfl (Lod.ld sc3 rfl hB hc0) ?_
  refine Reg.pur rfl rfl rfl rfl (Pur.eql rfl rfl) ?_
  refine Reg.pur rfl rfl rfl rfl (Pur.asg rfl) ?_
  refine Reg.nil ?_
  refine At.cond rfl rfl (fun q18 => ?_) (fun q18 => ?_)
  · first | (simp only [decide_eq_true_eq, decide_eq_false_iff_not, Bool.not_eq_true', Bool.not_eq_false', ne_eq, Decidable.not_not, Bool.not_eq_true, Bool.not_eq_false] at q18) | (dsimp only at q18) | skip
    refine At.drawE ((Bks.cons hfb.blk (Bks.cons o0_0.blk Bks.nil))) [6] mixed rfl rfl ?_
    refine RegD.tpur (i := 0) rfl rfl rfl rfl (by kernel_rfl) (Pur.mv rfl) ?_
    refine RegD.tpur (i := 1) rfl rfl rfl rfl (by kernel_rfl) (Pur.mv rfl) ?_
    refine RegD.tpur (i := 2) rfl rfl rfl rfl (by kernel_rfl) (Pur.nilc rfl) ?_
    refine RegD.tpur (i := 3) rfl rfl rfl rfl (by kernel_rfl) (Pur.fld _ fo71_3 rfl) ?_
    refine RegD.take (i := 4) rfl rfl rfl rfl (by kernel_rfl) (Bks.cons hfb.blk (Bks.cons o0_0.blk Bks.nil)) (fun H hS => Lod.ldn ag68 rfl hS.hd rfl rfl) ?_
    refine RegD.take (i := 5) rfl rfl rfl rfl (by kernel_rfl) (Bks.cons hfb.blk (Bks.cons o0_0.blk Bks.nil)) (fun H hS => Lod.ldn ag68 rfl hS.tl.hd (whole rfl) rfl) ?_
    have hcl := callP_ok hT hM hhd hv hdv hl

    refine RegD.one (i := 6) (by kernel_rfl) rfl rfl rfl rfl (Does.call rfl (hcl)) ?_
    rintro _ H3_6 ⟨hbut3_6, hAf⟩
    have z3_6 := hbut3_6.lt
    first | replace hL := hL.via hbut3_6 (by first | omega | (intro g; omega) | (intro g hg; omega) | (intro g hg h; omega)) | skip
    replace hB := hB.via hbut3_6 (by first | omega | (intro g; omega) | (intro g hg; omega) | (intro g hg h; omega))
    replace hfb := hfb.via hbut3_6 (by first | omega | (intro g; omega) | (intro g hg; omega) | (intro g hg h; omega))
    replace o0_0 := o0_0.via hbut3_6 (by first | omega | (intro g; omega) | (intro g hg; omega) | (intro g hg h; omega))
    refine ⟨fun h => (by cases h), ?_⟩
    refine RegD.done (by kernel_rfl) ?_
    refine At.ret rfl Try.func29 rfl ?_
    rw [show sndM L k (el L i) fr hd v = _ from if_pos q18]
    exact ⟨hL.but, hAf⟩
  first | (simp only [decide_eq_true_eq, decide_eq_false_iff_not, Bool.not_eq_true', Bool.not_eq_false', ne_eq, Decidable.not_not, Bool.not_eq_true, Bool.not_eq_false] at q18) | (dsimp only at q18) | skip
  refine At.region rfl rfl ?_
  refine Reg.pur rfl rfl rfl rfl (Pur.mv rfl) ?_
  refine Reg.pur rfl rfl rfl rfl (Pur.nilc rfl) ?_
  refine Reg.pur rfl rfl rfl rfl (Pur.fld _ fo37_0 rfl) ?_
  refine Reg.lod rfl rfl rfl rfl (Lod.ld sc3 rfl hB hc0) ?_
  refine Reg.pur rfl rfl rfl rfl (Pur.eql rfl rfl) ?_
  refine Reg.pur rfl rfl rfl rfl (Pur.asg rfl) ?_
  refine Reg.nil ?_
  refine At.cond rfl rfl (fun q31 => ?_) (fun q31 => ?_)
  · first | (simp only [decide_eq_true_eq, decide_eq_false_iff_not, Bool.not_eq_true', Bool.not_eq_false', ne_eq, Decidable.not_not, Bool.not_eq_true, Bool.not_eq_false] at q31) | (dsimp only at q31) | skip
    refine At.region rfl rfl ?_
    refine Reg.pur rfl rfl rfl rfl (Pur.mv rfl) ?_
    refine Reg.pur rfl rfl rfl rfl (Pur.nilc rfl) ?_
    refine Reg.pur rfl rfl rfl rfl (Pur.fld _ fo71_3 rfl) ?_
    refine Reg.lod rfl rfl rfl rfl (Lod.ldn ag68 rfl hfb rfl rfl) ?_
    refine Reg.op rfl rfl rfl rfl (Does.alloc zc68) ?_
    rintro _ H5_4 ⟨rfl, hn5_4⟩
    have z5_4 := hn5_4.size
    first | replace hL := hL.ext hn5_4.ext | skip
    replace hM := hM.ext hn5_4.ext
    replace hB := hB.ext hn5_4.ext
    replace hfb := hfb.ext hn5_4.ext
    replace o0_0 := o0_0.ext hn5_4.ext
    have o5_4 := hn5_4.own
    refine Reg.op0 rfl rfl rfl (Does.stn ag68 rfl rfl (by first | rfl | exact ones_Is _) (by first | rfl | (simp [*]; done)) o5_4 (by first | decide | (simp; done) | (simp; omega) | omega)) ?_
    rintro _ H5_5 hu5_5
    have z5_5 := hu5_5.size
    first | replace hL := hL.upw hu5_5 (by omega) | skip
    replace hM := hM.upw hu5_5 (by omega)
    replace hB := hB.upw hu5_5 (by omega)
    replace hfb := hfb.upw hu5_5 (by omega)
    replace o0_0 := o0_0.upw hu5_5 (by omega)
    replace o5_4 := hu5_5.own
    first | rw [over (by first | rfl | (simp; done))] at o5_4 | skip
    refine Reg.nil ?_
    have hMa := hM.add o0_0.blk (by omega)
    have hle := gset_le (b := H.size) (c := [I (kp v), I vn, I vi, .pointer vp, .pointer vq, .pointer vr]) hM.fz (by omega)
    have hMb := hMa.add o5_4.blk (by omega)
    have hle2 := gset_le (b := H0_0.size) (c := [I (kp hd), I hn, I hi, .pointer hp, .pointer hq, .pointer hr]) hMa.fz (by omega)
    refine At.region rfl rfl ?_
    refine Reg.pur rfl rfl rfl rfl (Pur.mv rfl) ?_
    refine Reg.pur rfl rfl rfl rfl (Pur.mv rfl) ?_
    refine Reg.pur rfl rfl rfl rfl (Pur.nilc rfl) ?_
    refine Reg.pur rfl rfl rfl rfl (Pur.fld _ fo37_4 rfl) ?_
    refine Reg.lod rfl rfl rfl rfl (Lod.ld sc3 rfl hB (hc 4 (by decide))) ?_
    refine Reg.pur rfl rfl rfl rfl (Pur.bld (cs := [_, _, _, _, _, _]) pl68 zc68 rfl rfl ⟨rfl, rfl, rfl, rfl, rfl, rfl, rfl⟩) ?_

    refine Reg.op rfl rfl rfl rfl (Does.call rfl (gives_ok hMb (v := .op ((el L i).getD 4 0) hd v) (vc := [I 6, I ((el L i).getD 4 0), I 0, nilp, ptr H0_0.size 0, ptr H.size 0]) (by simp only [repV]; exact ⟨_, _, _, _, rfl, gset_at _ _ _, repV_mono (hle.trans hle2) _ _ hhd, hle2 _ _ (gset_at _ _ _), repV_mono (hle.trans hle2) _ _ hv⟩))) ?_
    rintro _ H6_6 ⟨G3, pv3, hle3, hp3, hM3, hbut6_6⟩
    have z6_6 := hbut6_6.lt
    first | replace hL := hL.via hbut6_6 (by first | omega | (intro g; omega) | (intro g hg; omega) | (intro g hg h; omega)) | skip
    replace hB := hB.via hbut6_6 (by first | omega | (intro g; omega) | (intro g hg; omega) | (intro g hg h; omega))
    replace hfb := hfb.via hbut6_6 (by first | omega | (intro g; omega) | (intro g hg; omega) | (intro g hg h; omega))
    replace o0_0 := o0_0.via hbut6_6 (by first | omega | (intro g; omega) | (intro g hg; omega) | (intro g hg h; omega))
    replace o5_4 := o5_4.via hbut6_6 (by first | omega | (intro g; omega) | (intro g hg; omega) | (intro g hg h; omega))
    refine Reg.nil ?_
    refine At.ret rfl Try.func29 rfl ?_
    rw [show sndM L k (el L i) fr hd v = _ from (if_neg q18).trans (if_pos q31)]
    exact After.gv hM3 hL hp3
  first | (simp only [decide_eq_true_eq, decide_eq_false_iff_not, Bool.not_eq_true', Bool.not_eq_false', ne_eq, Decidable.not_not, Bool.not_eq_true, Bool.not_eq_false] at q31) | (dsimp only at q31) | skip
  refine At.region rfl rfl ?_
  refine Reg.pur rfl rfl rfl rfl (Pur.mv rfl) ?_
  refine Reg.pur rfl rfl rfl rfl (Pur.nilc rfl) ?_
  refine Reg.pur rfl rfl rfl rfl (Pur.fld _ fo71_3 rfl) ?_
  refine Reg.pur rfl rfl rfl rfl (Pur.fld _ fo68_0 rfl) ?_
  refine Reg.lod rfl rfl rfl rfl (Lod.ld sc66 rfl hfb rfl) ?_
  refine Reg.pur rfl rfl rfl rfl (Pur.neq rfl rfl) ?_
  refine Reg.pur rfl rfl rfl rfl (Pur.mv rfl) ?_
  refine Reg.case 55 rfl (fun q55 => ?_) (fun q55 => ?_)
  · first | (simp only [decide_eq_true_eq, decide_eq_false_iff_not, Bool.not_eq_true', Bool.not_eq_false', ne_eq, Decidable.not_not, Bool.not_eq_true, Bool.not_eq_false] at q55) | (dsimp only at q55) | skip
    refine Reg.skip rfl rfl rfl rfl rfl rfl rfl ?_
    refine Reg.skip rfl rfl rfl rfl rfl rfl rfl ?_
    refine Reg.skip rfl rfl rfl rfl rfl rfl rfl ?_
    refine Reg.pur rfl rfl rfl rfl (Pur.pickT rfl rfl) ?_
    refine Reg.pur rfl rfl rfl rfl (Pur.asg rfl) ?_
    refine Reg.nil ?_
    refine At.condT rfl rfl rfl ?_
    refine At.region rfl rfl ?_
    refine Reg.pur rfl rfl rfl rfl (Pur.mv rfl) ?_

    refine Reg.op rfl rfl rfl rfl (Does.call rfl (stuck_ok hM)) ?_
    rintro _ H8_1 ⟨b2, hM1, hb1, hbut8_1⟩
    have z8_1 := hbut8_1.lt
    first | replace hL := hL.via hbut8_1 (by first | omega | (intro g; omega) | (intro g hg; omega) | (intro g hg h; omega)) | skip
    replace hB := hB.via hbut8_1 (by first | omega | (intro g; omega) | (intro g hg; omega) | (intro g hg h; omega))
    replace hfb := hfb.via hbut8_1 (by first | omega | (intro g; omega) | (intro g hg; omega) | (intro g hg h; omega))
    replace o0_0 := o0_0.via hbut8_1 (by first | omega | (intro g; omega) | (intro g hg; omega) | (intro g hg h; omega))
    refine Reg.nil ?_
    refine At.ret rfl Try.func29 rfl ?_
    rw [snd_no q18 q31 (by first | exact .inl q55 | exact .inl q54 | exact .inr q58 | exact .inr q48 | omega)]
    exact After.fin hM1 hL hl hb1
  first | (simp only [decide_eq_true_eq, decide_eq_false_iff_not, Bool.not_eq_true', Bool.not_eq_false', ne_eq, Decidable.not_not, Bool.not_eq_true, Bool.not_eq_false] at q55) | (dsimp only at q55) | skip
  refine Reg.gpur rfl rfl rfl rfl rfl rfl (Pur.fld _ fo68_0 rfl) ?_
  refine Reg.glod rfl rfl rfl rfl rfl rfl (Lod.ld sc66 rfl o0_0.blk rfl) ?_
  refine Reg.gpur rfl rfl rfl rfl rfl rfl (Pur.neq rfl rfl) ?_
  refine Reg.pur rfl rfl rfl rfl (Pur.pickF rfl rfl) ?_
  refine Reg.pur rfl rfl rfl rfl (Pur.asg rfl) ?_
  refine Reg.nil ?_
  refine At.cond rfl rfl (fun q48 => ?_) (fun q48 => ?_)
  · first | (simp only [decide_eq_true_eq, decide_eq_false_iff_not, Bool.not_eq_true', Bool.not_eq_false', ne_eq, Decidable.not_not, Bool.not_eq_true, Bool.not_eq_false] at q48) | (dsimp only at q48) | skip
    refine At.region rfl rfl ?_
    refine Reg.pur rfl rfl rfl rfl (Pur.mv rfl) ?_

    refine Reg.op rfl rfl rfl rfl (Does.call rfl (stuck_ok hM)) ?_
    rintro _ H8_1 ⟨b2, hM1, hb1, hbut8_1⟩
    have z8_1 := hbut8_1.lt
    first | replace hL := hL.via hbut8_1 (by first | omega | (intro g; omega) | (intro g hg; omega) | (intro g hg h; omega)) | skip
    replace hB := hB.via hbut8_1 (by first | omega | (intro g; omega) | (intro g hg; omega) | (intro g hg h; omega))
    replace hfb := hfb.via hbut8_1 (by first | omega | (intro g; omega) | (intro g hg; omega) | (intro g hg h; omega))
    replace o0_0 := o0_0.via hbut8_1 (by first | omega | (intro g; omega) | (intro g hg; omega) | (intro g hg h; omega))
    refine Reg.nil ?_
    refine At.ret rfl Try.func29 rfl ?_
    rw [snd_no q18 q31 (by first | exact .inl q55 | exact .inl q54 | exact .inr q58 | exact .inr q48 | omega)]
    exact After.fin hM1 hL hl hb1
  first | (simp only [decide_eq_true_eq, decide_eq_false_iff_not, Bool.not_eq_true', Bool.not_eq_false', ne_eq, Decidable.not_not, Bool.not_eq_true, Bool.not_eq_false] at q48) | (dsimp only at q48) | skip
  have hk0 : kp hd = 0 ∧ kp v = 0 := by simp_all
  obtain rfl := num_of hhd hk0.1
  obtain rfl := num_of hv hk0.2
  rw [snd_num q18 q31]
  refine At.drawE ((Bks.cons hB.blk (Bks.cons hfb.blk (Bks.cons o0_0.blk Bks.nil)))) [11, 13] mixed rfl rfl ?_
  refine RegD.tpur (i := 0) rfl rfl rfl rfl (by kernel_rfl) (Pur.mv rfl) ?_
  refine RegD.tpur (i := 1) rfl rfl rfl rfl (by kernel_rfl) (Pur.nilc rfl) ?_
  refine RegD.tpur (i := 2) rfl rfl rfl rfl (by kernel_rfl) (Pur.fld _ fo37_4 rfl) ?_
  refine RegD.take (i := 3) rfl rfl rfl rfl (by kernel_rfl) (Bks.cons hB.blk (Bks.cons hfb.blk (Bks.cons o0_0.blk Bks.nil))) (fun H hS => Lod.ld sc3 rfl hS.hd (hc 4 (by decide))) ?_
  refine RegD.tpur (i := 4) rfl rfl rfl rfl (by kernel_rfl) (Pur.mv rfl) ?_
  refine RegD.tpur (i := 5) rfl rfl rfl rfl (by kernel_rfl) (Pur.nilc rfl) ?_
  refine RegD.tpur (i := 6) rfl rfl rfl rfl (by kernel_rfl) (Pur.fld _ fo71_3 rfl) ?_
  refine RegD.tpur (i := 7) rfl rfl rfl rfl (by kernel_rfl) (Pur.fld _ fo68_1 rfl) ?_
  refine RegD.take (i := 8) rfl rfl rfl rfl (by kernel_rfl) (Bks.cons hB.blk (Bks.cons hfb.blk (Bks.cons o0_0.blk Bks.nil))) (fun H hS => Lod.ld sc3 rfl hS.tl.hd rfl) ?_
  refine RegD.tpur (i := 9) rfl rfl rfl rfl (by kernel_rfl) (Pur.fld _ fo68_1 rfl) ?_
  refine RegD.take (i := 10) rfl rfl rfl rfl (by kernel_rfl) (Bks.cons hB.blk (Bks.cons hfb.blk (Bks.cons o0_0.blk Bks.nil))) (fun H hS => Lod.ld sc3 rfl hS.tl.tl.hd rfl) ?_
  refine RegD.fork2 (i := 11) (j := 12) (by kernel_rfl) ?_ ?_
  · refine RegOp.one (i := 11) rfl rfl rfl rfl (Does.call rfl (prim_ok _ _ _ _)) ?_
    rintro _ H9_11 ⟨rfl, hE9_11⟩
    have z9_11 := hE9_11.lt
    first | replace hL := hL.ext hE9_11 | skip
    replace hM := hM.ext hE9_11
    replace hB := hB.ext hE9_11
    replace hfb := hfb.ext hE9_11
    replace o0_0 := o0_0.ext hE9_11
    refine ⟨fun h => (by cases h), ?_⟩
    refine RegD.one (i := 12) (by kernel_rfl) rfl rfl rfl rfl (Does.alloc zc25) ?_
    rintro _ H9_12 ⟨rfl, hn9_12⟩
    have z9_12 := hn9_12.size
    first | replace hL := hL.ext hn9_12.ext | skip
    replace hM := hM.ext hn9_12.ext
    replace hB := hB.ext hn9_12.ext
    replace hfb := hfb.ext hn9_12.ext
    replace o0_0 := o0_0.ext hn9_12.ext
    have o9_12 := hn9_12.own
    refine ⟨fun _ _ => (Bks.cons hB.blk (Bks.cons hfb.blk (Bks.cons o0_0.blk Bks.nil))), ?_⟩
    refine RegD.one0 (i := 13) (by kernel_rfl) rfl rfl rfl (Does.stn ag25 rfl rfl (by first | rfl | exact ones_Is _) (by first | rfl | (simp [*]; done)) o9_12 (by first | decide | (simp; done) | (simp; omega) | omega)) ?_
    rintro _ H9_13 hu9_13
    have z9_13 := hu9_13.size
    first | replace hL := hL.upw hu9_13 (by omega) | skip
    replace hM := hM.upw hu9_13 (by omega)
    replace hB := hB.upw hu9_13 (by omega)
    replace hfb := hfb.upw hu9_13 (by omega)
    replace o0_0 := o0_0.upw hu9_13 (by omega)
    replace o9_12 := hu9_13.own
    first | rw [over (by first | rfl | (simp; done))] at o9_12 | skip
    refine ⟨fun h => (by cases h), ?_⟩
    refine RegD.done (by kernel_rfl) ?_
    refine At.region rfl rfl ?_
    refine Reg.pur rfl rfl rfl rfl (Pur.fld _ fo25_0 rfl) ?_
    refine Reg.lod rfl rfl rfl rfl (Lod.ld sc3 rfl o9_12.blk rfl) ?_
    refine Reg.nil ?_
    refine At.region rfl rfl ?_
    refine Reg.pur rfl rfl rfl rfl (Pur.eql rfl rfl) ?_
    refine Reg.pur rfl rfl rfl rfl (Pur.asg rfl) ?_
    refine Reg.nil ?_
    refine At.cond rfl rfl (fun q81 => ?_) (fun q81 => ?_)
    · first | (simp only [decide_eq_true_eq, decide_eq_false_iff_not, Bool.not_eq_true', Bool.not_eq_false', ne_eq, Decidable.not_not, Bool.not_eq_true, Bool.not_eq_false] at q81) | (dsimp only at q81) | skip
      refine At.region rfl rfl ?_
      refine Reg.pur rfl rfl rfl rfl (Pur.mv rfl) ?_
      refine Reg.pur rfl rfl rfl rfl (Pur.nilc rfl) ?_
      refine Reg.pur rfl rfl rfl rfl (Pur.fld _ fo51_5 rfl) ?_
      have hMo := hM.own

      refine Reg.op0 rfl rfl rfl (Does.st sc49 rfl rfl rfl hMo (by first | decide | (simp; done) | (simp; omega) | omega)) ?_
      rintro _ H13_3 hu13_3
      have z13_3 := hu13_3.size
      first | replace hL := hL.upw hu13_3 (by omega) | skip
      replace hB := hB.upw hu13_3 (by omega)
      replace hfb := hfb.upw hu13_3 (by omega)
      replace o0_0 := o0_0.upw hu13_3 (by omega)
      replace o9_12 := o9_12.upw hu13_3 (by omega)
      replace hMo := hu13_3.own
      refine Reg.nil ?_
      refine At.fall rfl Try.func29 rfl ?_
      rw [if_pos q81]
      have hb3 := o9_12.blk
      simp only [Is, List.map_cons, List.map_nil, q81] at hb3
      exact After.fin (hM.set hu13_3) hL hl hb3
    first | (simp only [decide_eq_true_eq, decide_eq_false_iff_not, Bool.not_eq_true', Bool.not_eq_false', ne_eq, Decidable.not_not, Bool.not_eq_true, Bool.not_eq_false] at q81) | (dsimp only at q81) | skip
    refine At.region rfl rfl ?_
    refine Reg.pur rfl rfl rfl rfl (Pur.eql rfl rfl) ?_
    refine Reg.pur rfl rfl rfl rfl (Pur.asg rfl) ?_
    refine Reg.nil ?_
    refine At.cond rfl rfl (fun q86 => ?_) (fun q86 => ?_)
    · first | (simp only [decide_eq_true_eq, decide_eq_false_iff_not, Bool.not_eq_true', Bool.not_eq_false', ne_eq, Decidable.not_not, Bool.not_eq_true, Bool.not_eq_false] at q86) | (dsimp only at q86) | skip
      refine At.region rfl rfl ?_
      refine Reg.pur rfl rfl rfl rfl (Pur.mv rfl) ?_
      refine Reg.pur rfl rfl rfl rfl (Pur.fld _ fo25_1 rfl) ?_
      refine Reg.lod rfl rfl rfl rfl (Lod.ld sc3 rfl o9_12.blk rfl) ?_
      refine Reg.pur rfl rfl rfl rfl (Pur.bld (cs := [_, _, _, _, _, _]) pl68 zc68 rfl rfl ⟨rfl, rfl, rfl, rfl, rfl, rfl, rfl⟩) ?_

      refine Reg.op rfl rfl rfl rfl (Does.call rfl (gives_ok hM (v := .tru (prm ((el L i).getD 4 0) hn vn).2) (vc := [I 1, I (prm ((el L i).getD 4 0) hn vn).2, I 0, nilp, nilp, nilp]) (by simp only [repV]))) ?_
      rintro _ H15_4 ⟨G3, pv3, hle3, hp3, hM3, hbut15_4⟩
      have z15_4 := hbut15_4.lt
      first | replace hL := hL.via hbut15_4 (by first | omega | (intro g; omega) | (intro g hg; omega) | (intro g hg h; omega)) | skip
      replace hB := hB.via hbut15_4 (by first | omega | (intro g; omega) | (intro g hg; omega) | (intro g hg h; omega))
      replace hfb := hfb.via hbut15_4 (by first | omega | (intro g; omega) | (intro g hg; omega) | (intro g hg h; omega))
      replace o0_0 := o0_0.via hbut15_4 (by first | omega | (intro g; omega) | (intro g hg; omega) | (intro g hg h; omega))
      replace o9_12 := o9_12.via hbut15_4 (by first | omega | (intro g; omega) | (intro g hg; omega) | (intro g hg h; omega))
      refine Reg.nil ?_
      refine At.fall rfl Try.func29 rfl ?_
      rw [if_neg q81, if_pos q86]
      exact After.gv hM3 hL hp3
    first | (simp only [decide_eq_true_eq, decide_eq_false_iff_not, Bool.not_eq_true', Bool.not_eq_false', ne_eq, Decidable.not_not, Bool.not_eq_true, Bool.not_eq_false] at q86) | (dsimp only at q86) | skip
    refine At.region rfl rfl ?_
    refine Reg.pur rfl rfl rfl rfl (Pur.mv rfl) ?_
    refine Reg.pur rfl rfl rfl rfl (Pur.fld _ fo25_1 rfl) ?_
    refine Reg.lod rfl rfl rfl rfl (Lod.ld sc3 rfl o9_12.blk rfl) ?_
    refine Reg.pur rfl rfl rfl rfl (Pur.bld (cs := [_, _, _, _, _, _]) pl68 zc68 rfl rfl ⟨rfl, rfl, rfl, rfl, rfl, rfl, rfl⟩) ?_

    refine Reg.op rfl rfl rfl rfl (Does.call rfl (gives_ok hM (v := .num (prm ((el L i).getD 4 0) hn vn).2) (vc := [I 0, I (prm ((el L i).getD 4 0) hn vn).2, I 0, nilp, nilp, nilp]) (by simp only [repV]))) ?_
    rintro _ H11_4 ⟨G3, pv3, hle3, hp3, hM3, hbut11_4⟩
    have z11_4 := hbut11_4.lt
    first | replace hL := hL.via hbut11_4 (by first | omega | (intro g; omega) | (intro g hg; omega) | (intro g hg h; omega)) | skip
    replace hB := hB.via hbut11_4 (by first | omega | (intro g; omega) | (intro g hg; omega) | (intro g hg h; omega))
    replace hfb := hfb.via hbut11_4 (by first | omega | (intro g; omega) | (intro g hg; omega) | (intro g hg h; omega))
    replace o0_0 := o0_0.via hbut11_4 (by first | omega | (intro g; omega) | (intro g hg; omega) | (intro g hg h; omega))
    replace o9_12 := o9_12.via hbut11_4 (by first | omega | (intro g; omega) | (intro g hg; omega) | (intro g hg h; omega))
    refine Reg.nil ?_
    refine At.fall rfl Try.func29 rfl ?_
    rw [if_neg q81, if_neg q86]
    exact After.gv hM3 hL hp3
  refine RegOp.one (i := 12) rfl rfl rfl rfl (Does.alloc zc25) ?_
  rintro _ H9_12 ⟨rfl, hn9_12⟩
  have z9_12 := hn9_12.size
  first | replace hL := hL.ext hn9_12.ext | skip
  replace hM := hM.ext hn9_12.ext
  replace hB := hB.ext hn9_12.ext
  replace hfb := hfb.ext hn9_12.ext
  replace o0_0 := o0_0.ext hn9_12.ext
  have o9_12 := hn9_12.own
  refine ⟨fun _ _ => (Bks.cons hB.blk (Bks.cons hfb.blk (Bks.cons o0_0.blk Bks.nil))), ?_⟩
  refine RegD.one (i := 11) (by kernel_rfl) rfl rfl rfl rfl (Does.call rfl (prim_ok _ _ _ _)) ?_
  rintro _ H9_11 ⟨rfl, hE9_11⟩
  have z9_11 := hE9_11.lt
  first | replace hL := hL.ext hE9_11 | skip
  replace hM := hM.ext hE9_11
  replace hB := hB.ext hE9_11
  replace hfb := hfb.ext hE9_11
  replace o0_0 := o0_0.ext hE9_11
  replace o9_12 := o9_12.ext hE9_11
  refine ⟨fun h => (by cases h), ?_⟩
  refine RegD.one0 (i := 13) (by kernel_rfl) rfl rfl rfl (Does.stn ag25 rfl rfl (by first | rfl | exact ones_Is _) (by first | rfl | (simp [*]; done)) o9_12 (by first | decide | (simp; done) | (simp; omega) | omega)) ?_
  rintro _ H9_13 hu9_13
  have z9_13 := hu9_13.size
  first | replace hL := hL.upw hu9_13 (by omega) | skip
  replace hM := hM.upw hu9_13 (by omega)
  replace hB := hB.upw hu9_13 (by omega)
  replace hfb := hfb.upw hu9_13 (by omega)
  replace o0_0 := o0_0.upw hu9_13 (by omega)
  replace o9_12 := hu9_13.own
  first | rw [over (by first | rfl | (simp; done))] at o9_12 | skip
  refine ⟨fun h => (by cases h), ?_⟩
  refine RegD.done (by kernel_rfl) ?_
  refine At.region rfl rfl ?_
  refine Reg.pur rfl rfl rfl rfl (Pur.fld _ fo25_0 rfl) ?_
  refine Reg.lod rfl rfl rfl rfl (Lod.ld sc3 rfl o9_12.blk rfl) ?_
  refine Reg.nil ?_
  refine At.region rfl rfl ?_
  refine Reg.pur rfl rfl rfl rfl (Pur.eql rfl rfl) ?_
  refine Reg.pur rfl rfl rfl rfl (Pur.asg rfl) ?_
  refine Reg.nil ?_
  refine At.cond rfl rfl (fun q81 => ?_) (fun q81 => ?_)
  · first | (simp only [decide_eq_true_eq, decide_eq_false_iff_not, Bool.not_eq_true', Bool.not_eq_false', ne_eq, Decidable.not_not, Bool.not_eq_true, Bool.not_eq_false] at q81) | (dsimp only at q81) | skip
    refine At.region rfl rfl ?_
    refine Reg.pur rfl rfl rfl rfl (Pur.mv rfl) ?_
    refine Reg.pur rfl rfl rfl rfl (Pur.nilc rfl) ?_
    refine Reg.pur rfl rfl rfl rfl (Pur.fld _ fo51_5 rfl) ?_
    have hMo := hM.own

    refine Reg.op0 rfl rfl rfl (Does.st sc49 rfl rfl rfl hMo (by first | decide | (simp; done) | (simp; omega) | omega)) ?_
    rintro _ H13_3 hu13_3
    have z13_3 := hu13_3.size
    first | replace hL := hL.upw hu13_3 (by omega) | skip
    replace hB := hB.upw hu13_3 (by omega)
    replace hfb := hfb.upw hu13_3 (by omega)
    replace o0_0 := o0_0.upw hu13_3 (by omega)
    replace o9_12 := o9_12.upw hu13_3 (by omega)
    replace hMo := hu13_3.own
    refine Reg.nil ?_
    refine At.fall rfl Try.func29 rfl ?_
    rw [if_pos q81]
    have hb3 := o9_12.blk
    simp only [Is, List.map_cons, List.map_nil, q81] at hb3
    exact After.fin (hM.set hu13_3) hL hl hb3
  first | (simp only [decide_eq_true_eq, decide_eq_false_iff_not, Bool.not_eq_true', Bool.not_eq_false', ne_eq, Decidable.not_not, Bool.not_eq_true, Bool.not_eq_false] at q81) | (dsimp only at q81) | skip
  refine At.region rfl rfl ?_
  refine Reg.pur rfl rfl rfl rfl (Pur.eql rfl rfl) ?_
  refine Reg.pur rfl rfl rfl rfl (Pur.asg rfl) ?_
  refine Reg.nil ?_
  refine At.cond rfl rfl (fun q86 => ?_) (fun q86 => ?_)
  · first | (simp only [decide_eq_true_eq, decide_eq_false_iff_not, Bool.not_eq_true', Bool.not_eq_false', ne_eq, Decidable.not_not, Bool.not_eq_true, Bool.not_eq_false] at q86) | (dsimp only at q86) | skip
    refine At.region rfl rfl ?_
    refine Reg.pur rfl rfl rfl rfl (Pur.mv rfl) ?_
    refine Reg.pur rfl rfl rfl rfl (Pur.fld _ fo25_1 rfl) ?_
    refine Reg.lod rfl rfl rfl rfl (Lod.ld sc3 rfl o9_12.blk rfl) ?_
    refine Reg.pur rfl rfl rfl rfl (Pur.bld (cs := [_, _, _, _, _, _]) pl68 zc68 rfl rfl ⟨rfl, rfl, rfl, rfl, rfl, rfl, rfl⟩) ?_

    refine Reg.op rfl rfl rfl rfl (Does.call rfl (gives_ok hM (v := .tru (prm ((el L i).getD 4 0) hn vn).2) (vc := [I 1, I (prm ((el L i).getD 4 0) hn vn).2, I 0, nilp, nilp, nilp]) (by simp only [repV]))) ?_
    rintro _ H15_4 ⟨G3, pv3, hle3, hp3, hM3, hbut15_4⟩
    have z15_4 := hbut15_4.lt
    first | replace hL := hL.via hbut15_4 (by first | omega | (intro g; omega) | (intro g hg; omega) | (intro g hg h; omega)) | skip
    replace hB := hB.via hbut15_4 (by first | omega | (intro g; omega) | (intro g hg; omega) | (intro g hg h; omega))
    replace hfb := hfb.via hbut15_4 (by first | omega | (intro g; omega) | (intro g hg; omega) | (intro g hg h; omega))
    replace o0_0 := o0_0.via hbut15_4 (by first | omega | (intro g; omega) | (intro g hg; omega) | (intro g hg h; omega))
    replace o9_12 := o9_12.via hbut15_4 (by first | omega | (intro g; omega) | (intro g hg; omega) | (intro g hg h; omega))
    refine Reg.nil ?_
    refine At.fall rfl Try.func29 rfl ?_
    rw [if_neg q81, if_pos q86]
    exact After.gv hM3 hL hp3
  first | (simp only [decide_eq_true_eq, decide_eq_false_iff_not, Bool.not_eq_true', Bool.not_eq_false', ne_eq, Decidable.not_not, Bool.not_eq_true, Bool.not_eq_false] at q86) | (dsimp only at q86) | skip
  refine At.region rfl rfl ?_
  refine Reg.pur rfl rfl rfl rfl (Pur.mv rfl) ?_
  refine Reg.pur rfl rfl rfl rfl (Pur.fld _ fo25_1 rfl) ?_
  refine Reg.lod rfl rfl rfl rfl (Lod.ld sc3 rfl o9_12.blk rfl) ?_
  refine Reg.pur rfl rfl rfl rfl (Pur.bld (cs := [_, _, _, _, _, _]) pl68 zc68 rfl rfl ⟨rfl, rfl, rfl, rfl, rfl, rfl, rfl⟩) ?_

  refine Reg.op rfl rfl rfl rfl (Does.call rfl (gives_ok hM (v := .num (prm ((el L i).getD 4 0) hn vn).2) (vc := [I 0, I (prm ((el L i).getD 4 0) hn vn).2, I 0, nilp, nilp, nilp]) (by simp only [repV]))) ?_
  rintro _ H11_4 ⟨G3, pv3, hle3, hp3, hM3, hbut11_4⟩
  have z11_4 := hbut11_4.lt
  first | replace hL := hL.via hbut11_4 (by first | omega | (intro g; omega) | (intro g hg; omega) | (intro g hg h; omega)) | skip
  replace hB := hB.via hbut11_4 (by first | omega | (intro g; omega) | (intro g hg; omega) | (intro g hg h; omega))
  replace hfb := hfb.via hbut11_4 (by first | omega | (intro g; omega) | (intro g hg; omega) | (intro g hg h; omega))
  replace o0_0 := o0_0.via hbut11_4 (by first | omega | (intro g; omega) | (intro g hg; omega) | (intro g hg h; omega))
  replace o9_12 := o9_12.via hbut11_4 (by first | omega | (intro g; omega) | (intro g hg; omega) | (intro g hg h; omega))
  refine Reg.nil ?_
  refine At.fall rfl Try.func29 rfl ?_
  rw [if_neg q81, if_neg q86]
  exact After.gv hM3 hL hp3
/-- a node that begins -/
def begM (k : Int) (x : List Int) (fr : List Fr) (node : Int) (en : T) : Ou :=
  if k = 0 then match findN en (x.getD 4 0) with
    | .nil => .fin 5 0
    | v => .go (.gv fr v)
  else if k = 1 then .go (.gv fr (.num (x.getD 4 0)))
  else if k = 2 then .go (.gv fr (.tru (x.getD 4 0)))
  else if k = 3 ∨ k = 4 then .go (.gv fr (.fn node en))
  else .go (.ev (⟨0, node, en, .nil⟩ :: fr) (x.getD 1 0) en)
theorem beg_eq (node : Int) (en : T) : beginM L fr node en = begM ((el L node).getD 0 0) (el L node) fr node en := rfl
theorem beg_var {x : List Int} {node : Int} {en : T} (h : findN en (x.getD 4 0) ≠ .nil) : begM 0 x fr node en = .go (.gv fr (findN en (x.getD 4 0))) := by
  unfold begM
  rw [if_pos rfl]
  split
  · rename_i hh; exact (h hh).elim
  · rfl
theorem beg_nil {x : List Int} {node : Int} {en : T} (h : findN en (x.getD 4 0) = .nil) : begM 0 x fr node en = .fin 5 0 := by
  unfold begM
  rw [if_pos rfl, h]
theorem beginP_ok {H : Heap} (hT : Tm L) {i : Int} {en : T} {p pv : Value} (hM : Ms L N m B G s H fr A cap i p pv nilp) (hn0 : 0 ≤ i) (hn1 : i < L.length) (hen : repE G en p) (hl : fr.length ≤ 4096) :
    Ret Try.prog 27 [ptr m 0] H (fun _ H' => After L N m B (ob A) H (beginM L fr i en) H') := by
  obtain ⟨Ap, rfl⟩ := repE_one hen
  obtain ⟨bn, on', capn, cn, rfl, hB, hbB, hc⟩ := hM.node hn0 hn1
  have hk12 := (hT.kind hn0 hn1)
  have hL := Chm.refl m (ob A) H
  have zM := hM.lt
  rw [beg_eq]
  generalize hkk : (el L i).getD 0 0 = k at *
  have hc0 := hc 0 (by decide)
  rw [hkk] at hc0
  refine Ret.of_at (N := 83) Try.call27 Try.func27 rfl rfl rfl ?_
  have hE := Ext.refl H
  have z_hL := hL.lt
  have z_hM := hM.lt
  have z_hB := hB.lt
  refine At.drawE ((Bks.cons hM.own.blk Bks.nil)) [] mixed rfl rfl ?_
  refine RegD.tpur (i := 0) rfl rfl rfl rfl (by kernel_rfl) (Pur.mv rfl) ?_
  refine RegD.tpur (i := 1) rfl rfl rfl rfl (by kernel_rfl) (Pur.nilc rfl) ?_
  refine RegD.tpur (i := 2) rfl rfl rfl rfl (by kernel_rfl) (Pur.fld _ fo51_0 rfl) ?_
  refine RegD.take (i := 3) rfl rfl rfl rfl (by kernel_rfl) (Bks.cons hM.own.blk Bks.nil) (fun H hS => Lod.ld sc22 rfl hS.hd rfl) ?_
  refine RegD.tpur (i := 4) rfl rfl rfl rfl (by kernel_rfl) (Pur.mv rfl) ?_
  refine RegD.tpur (i := 5) rfl rfl rfl rfl (by kernel_rfl) (Pur.nilc rfl) ?_
  refine RegD.tpur (i := 6) rfl rfl rfl rfl (by kernel_rfl) (Pur.fld _ fo51_2 rfl) ?_
  refine RegD.take (i := 7) rfl rfl rfl rfl (by kernel_rfl) (Bks.cons hM.own.blk Bks.nil) (fun H hS => Lod.ld sc3 rfl hS.hd rfl) ?_
  refine RegD.tpur (i := 8) rfl rfl rfl rfl (by kernel_rfl) (Pur.idx _ es22 rfl rfl (by omega) (by omega)) ?_
  refine RegD.tpur (i := 9) rfl rfl rfl rfl (by kernel_rfl) (Pur.mv rfl) ?_
  refine RegD.tpur (i := 10) rfl rfl rfl rfl (by kernel_rfl) (Pur.nilc rfl) ?_
  refine RegD.tpur (i := 11) rfl rfl rfl rfl (by kernel_rfl) (Pur.fld _ fo51_3 rfl) ?_
  refine RegD.take (i := 12) rfl rfl rfl rfl (by kernel_rfl) (Bks.cons hM.own.blk Bks.nil) (fun H hS => Lod.ld sc47 rfl hS.hd rfl) ?_
  refine RegD.tpur (i := 13) rfl rfl rfl rfl (by kernel_rfl) (Pur.asg rfl) ?_
  refine RegD.tpur (i := 14) rfl rfl rfl rfl (by kernel_rfl) (Pur.asg rfl) ?_
  refine RegD.done (by kernel_rfl) ?_
  refine At.region rfl rfl ?_
  refine Reg.pur rfl rfl rfl rfl (Pur.mv rfl) ?_
  refine Reg.pur rfl rfl rfl rfl (Pur.nilc rfl) ?_
  refine Reg.pur rfl rfl rfl rfl (Pur.fld _ fo37_0 rfl) ?_
  refine Reg.lod rfl rfl rfl rfl (Lod.ld sc3 rfl hB hc0) ?_
  refine Reg.nil ?_
  refine At.region rfl rfl ?_
  refine Reg.pur rfl rfl rfl rfl (Pur.eql rfl rfl) ?_
  refine Reg.pur rfl rfl rfl rfl (Pur.asg rfl) ?_
  refine Reg.nil ?_
  refine At.cond rfl rfl (fun q37 => ?_) (fun q37 => ?_)
  · first | (simp only [decide_eq_true_eq, decide_eq_false_iff_not, Bool.not_eq_true', Bool.not_eq_false', ne_eq, Decidable.not_not, Bool.not_eq_true, Bool.not_eq_false] at q37) | (dsimp only at q37) | skip
    subst q37
    refine At.region rfl rfl ?_
    refine Reg.pur rfl rfl rfl rfl (Pur.mv rfl) ?_
    refine Reg.pur rfl rfl rfl rfl (Pur.mv rfl) ?_
    refine Reg.pur rfl rfl rfl rfl (Pur.nilc rfl) ?_
    refine Reg.pur rfl rfl rfl rfl (Pur.fld _ fo37_4 rfl) ?_
    refine Reg.lod rfl rfl rfl rfl (Lod.ld sc3 rfl hB (hc 4 (by decide))) ?_
    refine Reg.op rfl rfl rfl rfl (Does.call rfl (find_ok hM.fz.st _ en _ hen)) ?_
    rintro pf H ⟨hfd, rfl⟩
    refine Reg.pur rfl rfl rfl rfl (Pur.asg rfl) ?_
    refine Reg.nil ?_
    obtain ⟨Ar, rfl, hr1, hr2⟩ := fnd_ptr hfd
    refine At.region rfl rfl ?_
    refine Reg.pur rfl rfl rfl rfl (Pur.mv rfl) ?_
    refine Reg.pur rfl rfl rfl rfl (Pur.nePN isPt48 rfl rfl) ?_
    refine Reg.nil ?_
    refine At.cond rfl rfl (fun q46 => ?_) (fun q46 => ?_)
    · first | (simp only [decide_eq_true_eq, decide_eq_false_iff_not, Bool.not_eq_true', Bool.not_eq_false', ne_eq, Decidable.not_not, Bool.not_eq_true, Bool.not_eq_false] at q46) | (dsimp only at q46) | skip
      obtain ⟨hfn, hrp⟩ := hr2 (by simpa using q46)
      obtain ⟨b3, d3, he3, hG3, hh3⟩ := hrp
      cases he3
      obtain ⟨n1, i1, p1, q1, r1, hd3⟩ := repV_cells hh3
      rw [hd3] at hh3
      refine At.region rfl rfl ?_
      refine Reg.pur rfl rfl rfl rfl (Pur.mv rfl) ?_
      refine Reg.pur rfl rfl rfl rfl (Pur.mv rfl) ?_
      refine Reg.pur rfl rfl rfl rfl (Pur.nilc rfl) ?_
      refine Reg.lod rfl rfl rfl rfl (Lod.ldn ag68 rfl (hM.fz.st _ _ hG3) hd3 rfl) ?_

      refine Reg.op rfl rfl rfl rfl (Does.call rfl (gives_ok hM hh3)) ?_
      rintro _ H7_4 ⟨G3, pv3, hle3, hp3, hM3, hbut7_4⟩
      have z7_4 := hbut7_4.lt
      first | replace hL := hL.via hbut7_4 (by first | omega | (intro g; omega) | (intro g hg; omega) | (intro g hg h; omega)) | skip
      replace hB := hB.via hbut7_4 (by first | omega | (intro g; omega) | (intro g hg; omega) | (intro g hg h; omega))
      refine Reg.nil ?_
      refine At.fall rfl Try.func27 rfl ?_
      rw [beg_var hfn]
      exact After.gv hM3 hL hp3
    first | (simp only [decide_eq_true_eq, decide_eq_false_iff_not, Bool.not_eq_true', Bool.not_eq_false', ne_eq, Decidable.not_not, Bool.not_eq_true, Bool.not_eq_false] at q46) | (dsimp only at q46) | skip
    refine At.region rfl rfl ?_
    refine Reg.pur rfl rfl rfl rfl (Pur.mv rfl) ?_

    refine Reg.op rfl rfl rfl rfl (Does.call rfl (stuck_ok hM)) ?_
    rintro _ H8_1 ⟨b2, hM1, hb1, hbut8_1⟩
    have z8_1 := hbut8_1.lt
    first | replace hL := hL.via hbut8_1 (by first | omega | (intro g; omega) | (intro g hg; omega) | (intro g hg h; omega)) | skip
    replace hB := hB.via hbut8_1 (by first | omega | (intro g; omega) | (intro g hg; omega) | (intro g hg h; omega))
    refine Reg.nil ?_
    refine At.fall rfl Try.func27 rfl ?_
    rw [beg_nil (hr1 (by simpa using q46))]
    exact After.fin hM1 hL hl hb1
  first | (simp only [decide_eq_true_eq, decide_eq_false_iff_not, Bool.not_eq_true', Bool.not_eq_false', ne_eq, Decidable.not_not, Bool.not_eq_true, Bool.not_eq_false] at q37) | (dsimp only at q37) | skip
  refine At.region rfl rfl ?_
  refine Reg.pur rfl rfl rfl rfl (Pur.eql rfl rfl) ?_
  refine Reg.pur rfl rfl rfl rfl (Pur.asg rfl) ?_
  refine Reg.nil ?_
  refine At.cond rfl rfl (fun q54 => ?_) (fun q54 => ?_)
  · first | (simp only [decide_eq_true_eq, decide_eq_false_iff_not, Bool.not_eq_true', Bool.not_eq_false', ne_eq, Decidable.not_not, Bool.not_eq_true, Bool.not_eq_false] at q54) | (dsimp only at q54) | skip
    subst q54
    refine At.region rfl rfl ?_
    refine Reg.pur rfl rfl rfl rfl (Pur.mv rfl) ?_
    refine Reg.pur rfl rfl rfl rfl (Pur.mv rfl) ?_
    refine Reg.pur rfl rfl rfl rfl (Pur.nilc rfl) ?_
    refine Reg.pur rfl rfl rfl rfl (Pur.fld _ fo37_4 rfl) ?_
    refine Reg.lod rfl rfl rfl rfl (Lod.ld sc3 rfl hB (hc 4 (by decide))) ?_
    refine Reg.pur rfl rfl rfl rfl (Pur.bld (cs := [_, _, _, _, _, _]) pl68 zc68 rfl rfl ⟨rfl, rfl, rfl, rfl, rfl, rfl, rfl⟩) ?_

    refine Reg.op rfl rfl rfl rfl (Does.call rfl (gives_ok hM (v := .num ((el L i).getD 4 0)) (vc := [I 0, I ((el L i).getD 4 0), I 0, nilp, nilp, nilp]) (by simp only [repV]))) ?_
    rintro _ H10_6 ⟨G3, pv3, hle3, hp3, hM3, hbut10_6⟩
    have z10_6 := hbut10_6.lt
    first | replace hL := hL.via hbut10_6 (by first | omega | (intro g; omega) | (intro g hg; omega) | (intro g hg h; omega)) | skip
    replace hB := hB.via hbut10_6 (by first | omega | (intro g; omega) | (intro g hg; omega) | (intro g hg h; omega))
    refine Reg.nil ?_
    refine At.fall rfl Try.func27 rfl ?_
    exact After.gv hM3 hL hp3
  first | (simp only [decide_eq_true_eq, decide_eq_false_iff_not, Bool.not_eq_true', Bool.not_eq_false', ne_eq, Decidable.not_not, Bool.not_eq_true, Bool.not_eq_false] at q54) | (dsimp only at q54) | skip
  refine At.region rfl rfl ?_
  refine Reg.pur rfl rfl rfl rfl (Pur.eql rfl rfl) ?_
  refine Reg.pur rfl rfl rfl rfl (Pur.asg rfl) ?_
  refine Reg.nil ?_
  refine At.cond rfl rfl (fun q63 => ?_) (fun q63 => ?_)
  · first | (simp only [decide_eq_true_eq, decide_eq_false_iff_not, Bool.not_eq_true', Bool.not_eq_false', ne_eq, Decidable.not_not, Bool.not_eq_true, Bool.not_eq_false] at q63) | (dsimp only at q63) | skip
    subst q63
    refine At.region rfl rfl ?_
    refine Reg.pur rfl rfl rfl rfl (Pur.mv rfl) ?_
    refine Reg.pur rfl rfl rfl rfl (Pur.mv rfl) ?_
    refine Reg.pur rfl rfl rfl rfl (Pur.nilc rfl) ?_
    refine Reg.pur rfl rfl rfl rfl (Pur.fld _ fo37_4 rfl) ?_
    refine Reg.lod rfl rfl rfl rfl (Lod.ld sc3 rfl hB (hc 4 (by decide))) ?_
    refine Reg.pur rfl rfl rfl rfl (Pur.bld (cs := [_, _, _, _, _, _]) pl68 zc68 rfl rfl ⟨rfl, rfl, rfl, rfl, rfl, rfl, rfl⟩) ?_

    refine Reg.op rfl rfl rfl rfl (Does.call rfl (gives_ok hM (v := .tru ((el L i).getD 4 0)) (vc := [I 1, I ((el L i).getD 4 0), I 0, nilp, nilp, nilp]) (by simp only [repV]))) ?_
    rintro _ H12_6 ⟨G3, pv3, hle3, hp3, hM3, hbut12_6⟩
    have z12_6 := hbut12_6.lt
    first | replace hL := hL.via hbut12_6 (by first | omega | (intro g; omega) | (intro g hg; omega) | (intro g hg h; omega)) | skip
    replace hB := hB.via hbut12_6 (by first | omega | (intro g; omega) | (intro g hg; omega) | (intro g hg h; omega))
    refine Reg.nil ?_
    refine At.fall rfl Try.func27 rfl ?_
    exact After.gv hM3 hL hp3
  first | (simp only [decide_eq_true_eq, decide_eq_false_iff_not, Bool.not_eq_true', Bool.not_eq_false', ne_eq, Decidable.not_not, Bool.not_eq_true, Bool.not_eq_false] at q63) | (dsimp only at q63) | skip
  refine At.region rfl rfl ?_
  refine Reg.pur rfl rfl rfl rfl (Pur.eql rfl rfl) ?_
  refine Reg.pur rfl rfl rfl rfl (Pur.asg rfl) ?_
  refine Reg.nil ?_
  refine At.cond rfl rfl (fun q72 => ?_) (fun q72 => ?_)
  · first | (simp only [decide_eq_true_eq, decide_eq_false_iff_not, Bool.not_eq_true', Bool.not_eq_false', ne_eq, Decidable.not_not, Bool.not_eq_true, Bool.not_eq_false] at q72) | (dsimp only at q72) | skip
    refine At.condT rfl rfl (by first | exact q72 | exact decide_eq_true q72 | exact decide_eq_false q72 | simpa using q72) ?_
    refine At.region rfl rfl ?_
    refine Reg.pur rfl rfl rfl rfl (Pur.mv rfl) ?_
    refine Reg.pur rfl rfl rfl rfl (Pur.mv rfl) ?_
    refine Reg.pur rfl rfl rfl rfl (Pur.nilc rfl) ?_
    refine Reg.pur rfl rfl rfl rfl (Pur.fld _ fo51_2 rfl) ?_
    refine Reg.lod rfl rfl rfl rfl (Lod.ld sc3 rfl hM.own.blk rfl) ?_
    refine Reg.pur rfl rfl rfl rfl (Pur.mv rfl) ?_
    refine Reg.pur rfl rfl rfl rfl (Pur.bld (cs := [_, _, _, _, _, _]) pl68 zc68 rfl rfl ⟨rfl, rfl, rfl, rfl, rfl, rfl, rfl⟩) ?_

    refine Reg.op rfl rfl rfl rfl (Does.call rfl (gives_ok hM (v := .fn i en) (vc := [I 2, I 0, I i, .pointer Ap, nilp, nilp]) (by simp only [repV]; exact ⟨_, rfl, hen⟩))) ?_
    rintro _ H15_7 ⟨G3, pv3, hle3, hp3, hM3, hbut15_7⟩
    have z15_7 := hbut15_7.lt
    first | replace hL := hL.via hbut15_7 (by first | omega | (intro g; omega) | (intro g hg; omega) | (intro g hg h; omega)) | skip
    replace hB := hB.via hbut15_7 (by first | omega | (intro g; omega) | (intro g hg; omega) | (intro g hg h; omega))
    refine Reg.nil ?_
    refine At.fall rfl Try.func27 rfl ?_
    have h34 : k = 3 ∨ k = 4 := by omega
    rw [show begM k (el L i) fr i en = _ from ((if_neg q37).trans (if_neg q54)).trans ((if_neg q63).trans (if_pos h34))]
    exact After.gv hM3 hL hp3
  first | (simp only [decide_eq_true_eq, decide_eq_false_iff_not, Bool.not_eq_true', Bool.not_eq_false', ne_eq, Decidable.not_not, Bool.not_eq_true, Bool.not_eq_false] at q72) | (dsimp only at q72) | skip
  refine At.region rfl rfl ?_
  refine Reg.pur rfl rfl rfl rfl (Pur.eql rfl rfl) ?_
  refine Reg.pur rfl rfl rfl rfl (Pur.asg rfl) ?_
  refine Reg.nil ?_
  refine At.cond rfl rfl (fun q72 => ?_) (fun q72 => ?_)
  · first | (simp only [decide_eq_true_eq, decide_eq_false_iff_not, Bool.not_eq_true', Bool.not_eq_false', ne_eq, Decidable.not_not, Bool.not_eq_true, Bool.not_eq_false] at q72) | (dsimp only at q72) | skip
    refine At.region rfl rfl ?_
    refine Reg.pur rfl rfl rfl rfl (Pur.mv rfl) ?_
    refine Reg.pur rfl rfl rfl rfl (Pur.mv rfl) ?_
    refine Reg.pur rfl rfl rfl rfl (Pur.nilc rfl) ?_
    refine Reg.pur rfl rfl rfl rfl (Pur.fld _ fo51_2 rfl) ?_
    refine Reg.lod rfl rfl rfl rfl (Lod.ld sc3 rfl hM.own.blk rfl) ?_
    refine Reg.pur rfl rfl rfl rfl (Pur.mv rfl) ?_
    refine Reg.pur rfl rfl rfl rfl (Pur.bld (cs := [_, _, _, _, _, _]) pl68 zc68 rfl rfl ⟨rfl, rfl, rfl, rfl, rfl, rfl, rfl⟩) ?_

    refine Reg.op rfl rfl rfl rfl (Does.call rfl (gives_ok hM (v := .fn i en) (vc := [I 2, I 0, I i, .pointer Ap, nilp, nilp]) (by simp only [repV]; exact ⟨_, rfl, hen⟩))) ?_
    rintro _ H15_7 ⟨G3, pv3, hle3, hp3, hM3, hbut15_7⟩
    have z15_7 := hbut15_7.lt
    first | replace hL := hL.via hbut15_7 (by first | omega | (intro g; omega) | (intro g hg; omega) | (intro g hg h; omega)) | skip
    replace hB := hB.via hbut15_7 (by first | omega | (intro g; omega) | (intro g hg; omega) | (intro g hg h; omega))
    refine Reg.nil ?_
    refine At.fall rfl Try.func27 rfl ?_
    have h34 : k = 3 ∨ k = 4 := by omega
    rw [show begM k (el L i) fr i en = _ from ((if_neg q37).trans (if_neg q54)).trans ((if_neg q63).trans (if_pos h34))]
    exact After.gv hM3 hL hp3
  first | (simp only [decide_eq_true_eq, decide_eq_false_iff_not, Bool.not_eq_true', Bool.not_eq_false', ne_eq, Decidable.not_not, Bool.not_eq_true, Bool.not_eq_false] at q72) | (dsimp only at q72) | skip
  refine At.region rfl rfl ?_
  refine Reg.pur rfl rfl rfl rfl (Pur.mv rfl) ?_
  refine Reg.pur rfl rfl rfl rfl (Pur.mv rfl) ?_
  refine Reg.pur rfl rfl rfl rfl (Pur.nilc rfl) ?_
  refine Reg.pur rfl rfl rfl rfl (Pur.fld _ fo51_2 rfl) ?_
  refine Reg.lod rfl rfl rfl rfl (Lod.ld sc3 rfl hM.own.blk rfl) ?_
  refine Reg.pur rfl rfl rfl rfl (Pur.mv rfl) ?_
  refine Reg.pur rfl rfl rfl rfl (Pur.bld (cs := [_, _, _, _, _, _, _, _, _]) pl71 zc71 rfl rfl ⟨rfl, rfl, rfl, rfl, rfl, rfl, rfl, rfl, rfl, rfl⟩) ?_

  refine Reg.op rfl rfl rfl rfl (Does.call rfl (push_ok hM (repF_node hen) (by omega))) ?_
  rintro _ H2_7 ⟨A1, cap1, hM1, hbut2_7, hA1⟩
  have z2_7 := hbut2_7.lt
  first | replace hL := hL.via hbut2_7 (by first | omega | (intro g; omega) | (intro g hg; omega) | (intro g hg h; omega)) | skip
  replace hB := hB.via hbut2_7 (by first | omega | (intro g; omega) | (intro g hg; omega) | (intro g hg h; omega))
  refine Reg.nil ?_
  have zM1 := hM1.lt
  refine At.region rfl rfl ?_
  refine Reg.pur rfl rfl rfl rfl (Pur.mv rfl) ?_
  refine Reg.pur rfl rfl rfl rfl (Pur.mv rfl) ?_
  refine Reg.pur rfl rfl rfl rfl (Pur.nilc rfl) ?_
  refine Reg.pur rfl rfl rfl rfl (Pur.fld _ fo37_1 rfl) ?_
  refine Reg.lod rfl rfl rfl rfl (Lod.ld sc3 rfl hB (hc 1 (by decide))) ?_
  refine Reg.pur rfl rfl rfl rfl (Pur.mv rfl) ?_
  refine Reg.op rfl rfl rfl rfl (Does.call rfl (goes_ok hM1 _ _ rfl)) ?_
  rintro _ H3_6 ⟨hM2, hbut3_6⟩
  have z3_6 := hbut3_6.lt
  first | replace hL := hL.via hbut3_6 (by first | omega | (intro g; omega) | (intro g hg; omega) | (intro g hg h; omega)) | skip
  replace hB := hB.via hbut3_6 (by first | omega | (intro g; omega) | (intro g hg; omega) | (intro g hg h; omega))
  refine Reg.nil ?_
  refine At.fall rfl Try.func27 rfl ?_
  have h34 : ¬ (k = 3 ∨ k = 4) := by omega
  rw [show begM k (el L i) fr i en = _ from ((if_neg q37).trans (if_neg q54)).trans ((if_neg q63).trans (if_neg h34))]
  exact After.ev hM2 hL hen
/-- frames but the top one -/
theorem gs_pop {H : Heap} {B n cap : Nat} {el : TypeId} {A : Option Addr} {xs' c : List Value} {k : Nat} (h : Gs H B el k A cap (n + 1) (xs' ++ c)) (hx : xs'.length = n * k) (hc : c.length = k) : Gs H B el k A cap n xs' := by
  obtain ⟨h0, h1 | ⟨g, cap', cur, hv, hB, hb, hn, hm, hs, ht⟩⟩ := h
  · exact absurd h1.2 (Nat.succ_ne_zero n)
  · cases hv
    refine ⟨hx, .inr ⟨g, _, cur, rfl, hB, hb, by omega, hm, hs, ?_⟩⟩
    have := congrArg (List.take (n * k)) ht
    rw [List.take_take, ← hx, List.take_left] at this
    rw [← hx]
    rw [Nat.min_eq_left (by rw [Nat.add_mul]; omega)] at this
    exact this
theorem gs_top {H : Heap} {B n cap : Nat} {el : TypeId} {A : Option Addr} {xs' c : List Value} {k : Nat} (h : Gs H B el k A cap (n + 1) (xs' ++ c)) (hx : xs'.length = n * k) (hc : c.length = k) : ∃ g cs, A = some ⟨g, 0, none⟩ ∧ Own H g cs ∧ (cs.drop (n * k)).take k = c ∧ n + 1 ≤ cap := by
  obtain ⟨h0, h1 | ⟨g, cap', cur, hv, hB, hb, hn, hm, hs, ht⟩⟩ := h
  · exact absurd h1.2 (Nat.succ_ne_zero n)
  · cases hv
    refine ⟨g, cur.toList, rfl, ⟨el, by simpa using hb⟩, ?_, hn⟩
    have h2 : cur.toList = cur.toList.take ((n + 1) * k) ++ cur.toList.drop ((n + 1) * k) := (List.take_append_drop _ _).symm
    rw [ht] at h2
    rw [h2, List.append_assoc, ← hx, List.drop_left, ← hc, List.take_left]
/-- a state in the heap -/
def Sta (L : List (List Int)) (N : Value) (m B : Nat) (H : Heap) : St → Prop
  | .ev fr node en => ∃ G A cap p pv, Ms L N m B G H.size H fr A cap node p pv nilp ∧ repE G en p ∧ pv = nilp
  | .gv fr v => ∃ G A cap nd pe pv, Ms L N m B G H.size H fr A cap nd pe pv nilp ∧ repP G v pv
theorem Ms.pop {H H' : Heap} {f : Fr} (h : Ms L N m B G s H (f :: fr) A cap nd' pe pv pd) (u : Upd H H' m [N, .slice A fr.length cap, I nd', pe, pv, pd]) : Ms L N m B G s H' fr A cap nd' pe pv pd := by
  have z := h.lt
  obtain ⟨xs, hg, xs', c, rfl, hf, hr⟩ := h.arr
  obtain ⟨An, capn, rfl, hN, hl⟩ := h.ns
  have hx := repS_len hr
  have hc := repF_nine hf
  exact ⟨u.own, ⟨xs', (gs_pop hg hx hc).upw u (by omega), hr⟩, h.fz.upw u (.inl rfl), h.lm, h.la, h.ne, h.bm, h.len, An, capn, rfl, hN.upw u (by omega), hl⟩
theorem stepP_ok {H : Heap} (hT : Tm L) {st : St} (hS : Sta L N m B H st) (hok : st.ok L) (hgo : st.goes = true) (hl : st.frs.length ≤ 4096) :
    Ret Try.prog 17 [ptr m 0] H (fun _ H' => Lo B H H' ∧ ∃ a H0, After L N m B a H0 (stepM L st) H') := by
  match st, hS, hok, hgo, hl with
  | .ev fr node en, ⟨G, A, cap, p, pv, hM, hen, hpv⟩, ⟨hok1, hok2, hok3⟩, _, hl =>
    subst hpv
    have zM := hM.lt
    have hbg := beginP_ok hT hM hok2.1 hok2.2 hen hl
    refine Ret.of_at (N := 59) Try.call17 Try.func17 rfl rfl rfl ?_
    have hE := Ext.refl H
    refine At.region rfl rfl ?_
    refine Reg.pur rfl rfl rfl rfl (Pur.mv rfl) ?_
    refine Reg.pur rfl rfl rfl rfl (Pur.nilc rfl) ?_
    refine Reg.pur rfl rfl rfl rfl (Pur.fld _ fo51_4 rfl) ?_
    refine Reg.lod rfl rfl rfl rfl (Lod.ld sc48 rfl hM.own.blk rfl) ?_
    refine Reg.pur rfl rfl rfl rfl (Pur.eqPN isPt48 rfl rfl) ?_
    refine Reg.nil ?_
    refine At.condT rfl rfl (by first | rfl | simp) ?_
    refine At.region rfl rfl ?_
    refine Reg.pur rfl rfl rfl rfl (Pur.mv rfl) ?_

    refine Reg.op rfl rfl rfl rfl (Does.call rfl (hbg)) ?_
    rintro _ H1_1 ⟨hbut1_1, hAf⟩
    have z1_1 := hbut1_1.lt
    refine Reg.nil ?_
    refine At.ret rfl Try.func17 rfl ?_
    exact ⟨⟨hbut1_1.mono fun b _ hb => (by omega)⟩, _, _, hbut1_1, hAf⟩
  | .gv (⟨fw, fi, fe, fh⟩ :: fr) v, ⟨G, A, cap, nd', pe, pv, hM, hpv⟩, ⟨hok1, hok2⟩, _, hl =>
    have zM := hM.lt
    obtain ⟨b1, d1, rfl, hG1, hv⟩ := hpv
    obtain ⟨n1, i1, p1, q1, r1, hd1⟩ := repV_cells hv
    rw [hd1] at hv
    have hfok := hok1 _ List.mem_cons_self
    obtain ⟨xs, hg, xs', c, rfl, hf, hr⟩ := hM.arr
    have hx := repS_len hr
    have hc9 := repF_nine hf
    have hf9 := repF_ones hf
    obtain ⟨ga, cs, rfl, hoa, hct, hca⟩ := gs_top hg hx hc9
    obtain ⟨p, hc', rfl, h6, hone, hen, hhd⟩ := hf
    dsimp only at hen hhd
    obtain ⟨c0, c1, c2, c3, c4, c5, rfl⟩ := six h6
    have hB1 := hM.fz.st _ _ hG1
    have hne1 := hM.gne hG1
    simp only [St.frs, List.length_cons] at hl
    have zga : ga ≠ m ∧ ga < H.size := by rw [ob_some] at zM; omega
    rw [ob_some] at zM
    refine Ret.of_at (N := 59) Try.call17 Try.func17 rfl rfl rfl ?_
    have hE := Ext.refl H
    have hLo := Lo.refl B H
    have hob : ob (some ⟨ga, 0, none⟩ : Option Addr) = ga := ob_some _ _
    have z_hLo := hLo.lt
    have z_hM := hM.lt
    have z_hoa := hoa.lt
    have z_hB1 := hB1.lt
    refine At.region rfl rfl ?_
    refine Reg.pur rfl rfl rfl rfl (Pur.mv rfl) ?_
    refine Reg.pur rfl rfl rfl rfl (Pur.nilc rfl) ?_
    refine Reg.pur rfl rfl rfl rfl (Pur.fld _ fo51_4 rfl) ?_
    refine Reg.lod rfl rfl rfl rfl (Lod.ld sc48 rfl hM.own.blk rfl) ?_
    refine Reg.pur rfl rfl rfl rfl (Pur.eqPN isPt48 rfl rfl) ?_
    refine Reg.nil ?_
    refine At.condF rfl rfl (by first | rfl | simp) ?_
    refine At.region rfl rfl ?_
    refine Reg.pur rfl rfl rfl rfl (Pur.mv rfl) ?_
    refine Reg.pur rfl rfl rfl rfl (Pur.nilc rfl) ?_
    refine Reg.pur rfl rfl rfl rfl (Pur.fld _ fo51_1 rfl) ?_
    refine Reg.lod rfl rfl rfl rfl (Lod.ld sc46 rfl hM.own.blk rfl) ?_
    refine Reg.pur rfl rfl rfl rfl (Pur.lenS isl46 rfl) ?_
    refine Reg.pur rfl rfl rfl rfl (Pur.sub64 rfl rfl (by simp only [List.length_cons]; omega)) ?_
    refine Reg.pur rfl rfl rfl rfl (Pur.asg rfl) ?_
    refine Reg.nil ?_
    refine At.drawE ((Bks.cons hM.own.blk (Bks.cons hoa.blk (Bks.cons hB1.blk Bks.nil)))) [15, 16] mixed rfl rfl ?_
    refine RegD.tpur (i := 0) rfl rfl rfl rfl (by kernel_rfl) (Pur.mv rfl) ?_
    refine RegD.tpur (i := 1) rfl rfl rfl rfl (by kernel_rfl) (Pur.nilc rfl) ?_
    refine RegD.tpur (i := 2) rfl rfl rfl rfl (by kernel_rfl) (Pur.fld _ fo51_1 rfl) ?_
    refine RegD.take (i := 3) rfl rfl rfl rfl (by kernel_rfl) (Bks.cons hM.own.blk (Bks.cons hoa.blk (Bks.cons hB1.blk Bks.nil))) (fun H hS => Lod.ld sc46 rfl hS.hd rfl) ?_
    refine RegD.tpur (i := 4) rfl rfl rfl rfl (by kernel_rfl) (Pur.mv rfl) ?_
    refine RegD.tpur (i := 5) rfl rfl rfl rfl (by kernel_rfl) (Pur.idx _ es46 rfl rfl (by simp only [List.length_cons]; omega) (by simp only [List.length_cons]; omega)) ?_
    refine RegD.take (i := 6) rfl rfl rfl rfl (by kernel_rfl) (Bks.cons hM.own.blk (Bks.cons hoa.blk (Bks.cons hB1.blk Bks.nil))) (fun H hS => Lod.ldn ag71 rfl hS.tl.hd (Eq.trans (congrArg (fun z : Nat ↦ List.take 9 (List.drop z cs)) (show 0 + ((((⟨fw, fi, fe, fh⟩ :: fr : List Fr).length : Nat) : Int) - 1).toNat * 9 = fr.length * 9 by simp only [List.length_cons]; omega)) hct) rfl) ?_
    refine RegD.tpur (i := 7) rfl rfl rfl rfl (by kernel_rfl) (Pur.mv rfl) ?_
    refine RegD.tpur (i := 8) rfl rfl rfl rfl (by kernel_rfl) (Pur.nilc rfl) ?_
    refine RegD.tpur (i := 9) rfl rfl rfl rfl (by kernel_rfl) (Pur.fld _ fo51_4 rfl) ?_
    refine RegD.take (i := 10) rfl rfl rfl rfl (by kernel_rfl) (Bks.cons hM.own.blk (Bks.cons hoa.blk (Bks.cons hB1.blk Bks.nil))) (fun H hS => Lod.ld sc48 rfl hS.hd rfl) ?_
    refine RegD.tpur (i := 11) rfl rfl rfl rfl (by kernel_rfl) (Pur.nilc rfl) ?_
    refine RegD.take (i := 12) rfl rfl rfl rfl (by kernel_rfl) (Bks.cons hM.own.blk (Bks.cons hoa.blk (Bks.cons hB1.blk Bks.nil))) (fun H hS => Lod.ldn ag68 rfl hS.tl.tl.hd hd1 rfl) ?_
    refine RegD.fork2 (i := 13) (j := 14) (by kernel_rfl) ?_ ?_
    · refine RegOp.one (i := 13) rfl rfl rfl rfl (Does.alloc zc71) ?_
      rintro _ H3_13 ⟨rfl, hn3_13⟩
      have z3_13 := hn3_13.size
      first | replace hLo := hLo.ext hn3_13.ext | skip
      replace hM := hM.ext hn3_13.ext
      replace hoa := hoa.ext hn3_13.ext
      replace hB1 := hB1.ext hn3_13.ext
      have o3_13 := hn3_13.own
      refine ⟨fun _ _ => (Bks.cons hM.own.blk (Bks.cons hoa.blk (Bks.cons hB1.blk Bks.nil))), ?_⟩
      refine RegD.one (i := 14) (by kernel_rfl) rfl rfl rfl rfl (Does.alloc zc68) ?_
      rintro _ H3_14 ⟨rfl, hn3_14⟩
      have z3_14 := hn3_14.size
      first | replace hLo := hLo.ext hn3_14.ext | skip
      replace hM := hM.ext hn3_14.ext
      replace hoa := hoa.ext hn3_14.ext
      replace hB1 := hB1.ext hn3_14.ext
      replace o3_13 := o3_13.ext hn3_14.ext
      have o3_14 := hn3_14.own
      refine ⟨fun _ _ => (Bks.cons hM.own.blk (Bks.cons hoa.blk (Bks.cons hB1.blk Bks.nil))), ?_⟩
      refine RegD.one0 (i := 15) (by kernel_rfl) rfl rfl rfl (Does.stn ag71 rfl rfl hf9 rfl o3_13 (by decide)) ?_
      rintro _ H3_15 hu3_15
      have z3_15 := hu3_15.size
      first | replace hLo := hLo.upw hu3_15 (by omega) | skip
      replace hM := hM.upw hu3_15 (by omega)
      replace hoa := hoa.upw hu3_15 (by omega)
      replace hB1 := hB1.upw hu3_15 (by omega)
      replace o3_14 := o3_14.upw hu3_15 (by omega)
      replace o3_13 := hu3_15.own
      first | rw [over (by first | rfl | (simp; done))] at o3_13 | skip
      refine ⟨fun h => (by cases h), ?_⟩
      refine RegD.one0 (i := 16) (by kernel_rfl) rfl rfl rfl (Does.stn ag68 rfl rfl (by first | rfl | exact ones_Is _) (by first | rfl | (simp [*]; done)) o3_14 (by first | decide | (simp; done) | (simp; omega) | omega)) ?_
      rintro _ H3_16 hu3_16
      have z3_16 := hu3_16.size
      first | replace hLo := hLo.upw hu3_16 (by omega) | skip
      replace hM := hM.upw hu3_16 (by omega)
      replace hoa := hoa.upw hu3_16 (by omega)
      replace hB1 := hB1.upw hu3_16 (by omega)
      replace o3_13 := o3_13.upw hu3_16 (by omega)
      replace o3_14 := hu3_16.own
      first | rw [over (by first | rfl | (simp; done))] at o3_14 | skip
      refine ⟨fun h => (by cases h), ?_⟩
      refine RegD.done (by kernel_rfl) ?_
      refine At.region rfl rfl ?_
      refine Reg.pur rfl rfl rfl rfl (Pur.mv rfl) ?_
      refine Reg.pur rfl rfl rfl rfl (Pur.mv rfl) ?_
      refine Reg.pur rfl rfl rfl rfl (Pur.nilc rfl) ?_
      refine Reg.pur rfl rfl rfl rfl (Pur.fld _ fo51_1 rfl) ?_
      refine Reg.lod rfl rfl rfl rfl (Lod.ld sc46 rfl hM.own.blk rfl) ?_
      refine Reg.pur rfl rfl rfl rfl (Pur.mv rfl) ?_
      refine Reg.pur rfl rfl rfl rfl (Pur.cutH es46 rfl rfl (by simp only [List.length_cons]; omega) (by simp only [List.length_cons]; omega)) ?_
      refine Reg.pur rfl rfl rfl rfl (Pur.nilc rfl) ?_
      refine Reg.pur rfl rfl rfl rfl (Pur.fld _ fo51_1 rfl) ?_
      have hMo := hM.own

      refine Reg.op0 rfl rfl rfl (Does.st sc46 rfl rfl rfl hMo (by first | decide | (simp; done) | (simp; omega) | omega)) ?_
      rintro _ H4_9 hu4_9
      have z4_9 := hu4_9.size
      first | replace hLo := hLo.upw hu4_9 (by omega) | skip
      replace hoa := hoa.upw hu4_9 (by omega)
      replace hB1 := hB1.upw hu4_9 (by omega)
      replace o3_13 := o3_13.upw hu4_9 (by omega)
      replace o3_14 := o3_14.upw hu4_9 (by omega)
      replace hMo := hu4_9.own
      refine Reg.nil ?_
      rw [show ((((⟨fw, fi, fe, fh⟩ :: fr : List Fr).length : Nat) : Int) - 1).toNat = fr.length by simp only [List.length_cons]; omega] at hu4_9
      have hMp := hM.pop hu4_9
      have zMp := hMp.lt
      rw [ob_some] at zMp
      refine At.region rfl rfl ?_
      refine Reg.pur rfl rfl rfl rfl (Pur.fld _ fo71_0 rfl) ?_
      refine Reg.lod rfl rfl rfl rfl (Lod.ld sc69 rfl o3_13.blk rfl) ?_
      refine Reg.nil ?_
      refine At.region rfl rfl ?_
      refine Reg.pur rfl rfl rfl rfl (Pur.eql rfl rfl) ?_
      refine Reg.pur rfl rfl rfl rfl (Pur.asg rfl) ?_
      refine Reg.nil ?_
      refine At.cond rfl rfl (fun q42 => ?_) (fun q42 => ?_)
      · first | (simp only [decide_eq_true_eq, decide_eq_false_iff_not, Bool.not_eq_true', Bool.not_eq_false', ne_eq, Decidable.not_not, Bool.not_eq_true, Bool.not_eq_false] at q42) | (dsimp only at q42) | skip
        subst q42
        obtain ⟨_, hk1, hk2, hk3⟩ := hfok.resolve_right (by dsimp only; omega)
        refine At.region rfl rfl ?_
        refine Reg.pur rfl rfl rfl rfl (Pur.mv rfl) ?_
        refine Reg.lod rfl rfl rfl rfl (Lod.ldn ag68 rfl o3_14.blk (whole rfl) rfl) ?_
        have hcl := firstP_ok (hd := fh) hT hMp hk1.1 hk1.2 hk2 o3_13.blk ⟨by omega, by rw [ob_some]; omega⟩ hen hv (by omega)

        refine Reg.op rfl rfl rfl rfl (Does.call rfl (hcl)) ?_
        rintro _ H7_2 ⟨hbut7_2, hAf⟩
        have z7_2 := hbut7_2.lt
        first | replace hLo := hLo.via hbut7_2 (by first | omega | (intro g; omega) | (intro g hg; omega) | (intro g hg h; omega)) | skip
        refine Reg.nil ?_
        refine At.fall rfl Try.func17 rfl ?_
        exact ⟨hLo, _, _, hbut7_2, hAf⟩
      first | (simp only [decide_eq_true_eq, decide_eq_false_iff_not, Bool.not_eq_true', Bool.not_eq_false', ne_eq, Decidable.not_not, Bool.not_eq_true, Bool.not_eq_false] at q42) | (dsimp only at q42) | skip
      refine At.region rfl rfl ?_
      refine Reg.pur rfl rfl rfl rfl (Pur.eql rfl rfl) ?_
      refine Reg.pur rfl rfl rfl rfl (Pur.asg rfl) ?_
      refine Reg.nil ?_
      refine At.cond rfl rfl (fun q47 => ?_) (fun q47 => ?_)
      · first | (simp only [decide_eq_true_eq, decide_eq_false_iff_not, Bool.not_eq_true', Bool.not_eq_false', ne_eq, Decidable.not_not, Bool.not_eq_true, Bool.not_eq_false] at q47) | (dsimp only at q47) | skip
        subst q47
        obtain ⟨_, hk1, hk2, hk3, hk4⟩ := (hfok.resolve_left (by dsimp only; omega)).resolve_right (by dsimp only; omega)
        refine At.region rfl rfl ?_
        refine Reg.pur rfl rfl rfl rfl (Pur.mv rfl) ?_
        refine Reg.lod rfl rfl rfl rfl (Lod.ldn ag68 rfl o3_14.blk (whole rfl) rfl) ?_
        have hcl := secondP_ok (en := fe) hT hMp hk1.1 hk1.2 o3_13.blk ⟨by omega, by rw [ob_some]; omega⟩ (hhd (by omega)) hk4 hv (by omega)

        refine Reg.op rfl rfl rfl rfl (Does.call rfl (hcl)) ?_
        rintro _ H9_2 ⟨hbut9_2, hAf⟩
        have z9_2 := hbut9_2.lt
        first | replace hLo := hLo.via hbut9_2 (by first | omega | (intro g; omega) | (intro g hg; omega) | (intro g hg h; omega)) | skip
        refine Reg.nil ?_
        refine At.fall rfl Try.func17 rfl ?_
        exact ⟨hLo, _, _, hbut9_2, hAf⟩
      first | (simp only [decide_eq_true_eq, decide_eq_false_iff_not, Bool.not_eq_true', Bool.not_eq_false', ne_eq, Decidable.not_not, Bool.not_eq_true, Bool.not_eq_false] at q47) | (dsimp only at q47) | skip
      refine At.region rfl rfl ?_
      refine Reg.pur rfl rfl rfl rfl (Pur.eql rfl rfl) ?_
      refine Reg.pur rfl rfl rfl rfl (Pur.asg rfl) ?_
      refine Reg.nil ?_
      refine At.cond rfl rfl (fun q52 => ?_) (fun q52 => ?_)
      · first | (simp only [decide_eq_true_eq, decide_eq_false_iff_not, Bool.not_eq_true', Bool.not_eq_false', ne_eq, Decidable.not_not, Bool.not_eq_true, Bool.not_eq_false] at q52) | (dsimp only at q52) | skip
        subst q52
        obtain ⟨_, hk1, hk2, hk4⟩ := (hfok.resolve_left (by dsimp only; omega)).resolve_left (by dsimp only; omega)
        refine At.region rfl rfl ?_
        refine Reg.pur rfl rfl rfl rfl (Pur.mv rfl) ?_
        refine Reg.pur rfl rfl rfl rfl (Pur.fld _ fo71_3 rfl) ?_
        refine Reg.lod rfl rfl rfl rfl (Lod.ldn ag68 rfl o3_13.blk rfl rfl) ?_
        refine Reg.lod rfl rfl rfl rfl (Lod.ldn ag68 rfl o3_14.blk (whole rfl) rfl) ?_
        have hcl := callP_ok hT hMp (hhd (by omega)) hv hk4 (by omega)

        refine Reg.op rfl rfl rfl rfl (Does.call rfl (hcl)) ?_
        rintro _ H11_4 ⟨hbut11_4, hAf⟩
        have z11_4 := hbut11_4.lt
        first | replace hLo := hLo.via hbut11_4 (by first | omega | (intro g; omega) | (intro g hg; omega) | (intro g hg h; omega)) | skip
        refine Reg.nil ?_
        refine At.fall rfl Try.func17 rfl ?_
        exact ⟨hLo, _, _, hbut11_4, hAf⟩
      first | (simp only [decide_eq_true_eq, decide_eq_false_iff_not, Bool.not_eq_true', Bool.not_eq_false', ne_eq, Decidable.not_not, Bool.not_eq_true, Bool.not_eq_false] at q52) | (dsimp only at q52) | skip
      refine At.fall rfl Try.func17 rfl ?_
      exfalso
      rcases hfok with h | h | h
      · exact q42 h.1
      · exact q47 h.1
      · exact q52 h.1
    refine RegOp.one (i := 14) rfl rfl rfl rfl (Does.alloc zc68) ?_
    rintro _ H3_14 ⟨rfl, hn3_14⟩
    have z3_14 := hn3_14.size
    first | replace hLo := hLo.ext hn3_14.ext | skip
    replace hM := hM.ext hn3_14.ext
    replace hoa := hoa.ext hn3_14.ext
    replace hB1 := hB1.ext hn3_14.ext
    have o3_14 := hn3_14.own
    refine ⟨fun _ _ => (Bks.cons hM.own.blk (Bks.cons hoa.blk (Bks.cons hB1.blk Bks.nil))), ?_⟩
    refine RegD.one (i := 13) (by kernel_rfl) rfl rfl rfl rfl (Does.alloc zc71) ?_
    rintro _ H3_13 ⟨rfl, hn3_13⟩
    have z3_13 := hn3_13.size
    first | replace hLo := hLo.ext hn3_13.ext | skip
    replace hM := hM.ext hn3_13.ext
    replace hoa := hoa.ext hn3_13.ext
    replace hB1 := hB1.ext hn3_13.ext
    replace o3_14 := o3_14.ext hn3_13.ext
    have o3_13 := hn3_13.own
    refine ⟨fun _ _ => (Bks.cons hM.own.blk (Bks.cons hoa.blk (Bks.cons hB1.blk Bks.nil))), ?_⟩
    refine RegD.one0 (i := 15) (by kernel_rfl) rfl rfl rfl (Does.stn ag71 rfl rfl hf9 rfl o3_13 (by decide)) ?_
    rintro _ H3_15 hu3_15
    have z3_15 := hu3_15.size
    first | replace hLo := hLo.upw hu3_15 (by omega) | skip
    replace hM := hM.upw hu3_15 (by omega)
    replace hoa := hoa.upw hu3_15 (by omega)
    replace hB1 := hB1.upw hu3_15 (by omega)
    replace o3_14 := o3_14.upw hu3_15 (by omega)
    replace o3_13 := hu3_15.own
    first | rw [over (by first | rfl | (simp; done))] at o3_13 | skip
    refine ⟨fun h => (by cases h), ?_⟩
    refine RegD.one0 (i := 16) (by kernel_rfl) rfl rfl rfl (Does.stn ag68 rfl rfl (by first | rfl | exact ones_Is _) (by first | rfl | (simp [*]; done)) o3_14 (by first | decide | (simp; done) | (simp; omega) | omega)) ?_
    rintro _ H3_16 hu3_16
    have z3_16 := hu3_16.size
    first | replace hLo := hLo.upw hu3_16 (by omega) | skip
    replace hM := hM.upw hu3_16 (by omega)
    replace hoa := hoa.upw hu3_16 (by omega)
    replace hB1 := hB1.upw hu3_16 (by omega)
    replace o3_13 := o3_13.upw hu3_16 (by omega)
    replace o3_14 := hu3_16.own
    first | rw [over (by first | rfl | (simp; done))] at o3_14 | skip
    refine ⟨fun h => (by cases h), ?_⟩
    refine RegD.done (by kernel_rfl) ?_
    refine At.region rfl rfl ?_
    refine Reg.pur rfl rfl rfl rfl (Pur.mv rfl) ?_
    refine Reg.pur rfl rfl rfl rfl (Pur.mv rfl) ?_
    refine Reg.pur rfl rfl rfl rfl (Pur.nilc rfl) ?_
    refine Reg.pur rfl rfl rfl rfl (Pur.fld _ fo51_1 rfl) ?_
    refine Reg.lod rfl rfl rfl rfl (Lod.ld sc46 rfl hM.own.blk rfl) ?_
    refine Reg.pur rfl rfl rfl rfl (Pur.mv rfl) ?_
    refine Reg.pur rfl rfl rfl rfl (Pur.cutH es46 rfl rfl (by simp only [List.length_cons]; omega) (by simp only [List.length_cons]; omega)) ?_
    refine Reg.pur rfl rfl rfl rfl (Pur.nilc rfl) ?_
    refine Reg.pur rfl rfl rfl rfl (Pur.fld _ fo51_1 rfl) ?_
    have hMo := hM.own

    refine Reg.op0 rfl rfl rfl (Does.st sc46 rfl rfl rfl hMo (by first | decide | (simp; done) | (simp; omega) | omega)) ?_
    rintro _ H4_9 hu4_9
    have z4_9 := hu4_9.size
    first | replace hLo := hLo.upw hu4_9 (by omega) | skip
    replace hoa := hoa.upw hu4_9 (by omega)
    replace hB1 := hB1.upw hu4_9 (by omega)
    replace o3_14 := o3_14.upw hu4_9 (by omega)
    replace o3_13 := o3_13.upw hu4_9 (by omega)
    replace hMo := hu4_9.own
    refine Reg.nil ?_
    rw [show ((((⟨fw, fi, fe, fh⟩ :: fr : List Fr).length : Nat) : Int) - 1).toNat = fr.length by simp only [List.length_cons]; omega] at hu4_9
    have hMp := hM.pop hu4_9
    have zMp := hMp.lt
    rw [ob_some] at zMp
    refine At.region rfl rfl ?_
    refine Reg.pur rfl rfl rfl rfl (Pur.fld _ fo71_0 rfl) ?_
    refine Reg.lod rfl rfl rfl rfl (Lod.ld sc69 rfl o3_13.blk rfl) ?_
    refine Reg.nil ?_
    refine At.region rfl rfl ?_
    refine Reg.pur rfl rfl rfl rfl (Pur.eql rfl rfl) ?_
    refine Reg.pur rfl rfl rfl rfl (Pur.asg rfl) ?_
    refine Reg.nil ?_
    refine At.cond rfl rfl (fun q42 => ?_) (fun q42 => ?_)
    · first | (simp only [decide_eq_true_eq, decide_eq_false_iff_not, Bool.not_eq_true', Bool.not_eq_false', ne_eq, Decidable.not_not, Bool.not_eq_true, Bool.not_eq_false] at q42) | (dsimp only at q42) | skip
      subst q42
      obtain ⟨_, hk1, hk2, hk3⟩ := hfok.resolve_right (by dsimp only; omega)
      refine At.region rfl rfl ?_
      refine Reg.pur rfl rfl rfl rfl (Pur.mv rfl) ?_
      refine Reg.lod rfl rfl rfl rfl (Lod.ldn ag68 rfl o3_14.blk (whole rfl) rfl) ?_
      have hcl := firstP_ok (hd := fh) hT hMp hk1.1 hk1.2 hk2 o3_13.blk ⟨by omega, by rw [ob_some]; omega⟩ hen hv (by omega)

      refine Reg.op rfl rfl rfl rfl (Does.call rfl (hcl)) ?_
      rintro _ H7_2 ⟨hbut7_2, hAf⟩
      have z7_2 := hbut7_2.lt
      first | replace hLo := hLo.via hbut7_2 (by first | omega | (intro g; omega) | (intro g hg; omega) | (intro g hg h; omega)) | skip
      refine Reg.nil ?_
      refine At.fall rfl Try.func17 rfl ?_
      exact ⟨hLo, _, _, hbut7_2, hAf⟩
    first | (simp only [decide_eq_true_eq, decide_eq_false_iff_not, Bool.not_eq_true', Bool.not_eq_false', ne_eq, Decidable.not_not, Bool.not_eq_true, Bool.not_eq_false] at q42) | (dsimp only at q42) | skip
    refine At.region rfl rfl ?_
    refine Reg.pur rfl rfl rfl rfl (Pur.eql rfl rfl) ?_
    refine Reg.pur rfl rfl rfl rfl (Pur.asg rfl) ?_
    refine Reg.nil ?_
    refine At.cond rfl rfl (fun q47 => ?_) (fun q47 => ?_)
    · first | (simp only [decide_eq_true_eq, decide_eq_false_iff_not, Bool.not_eq_true', Bool.not_eq_false', ne_eq, Decidable.not_not, Bool.not_eq_true, Bool.not_eq_false] at q47) | (dsimp only at q47) | skip
      subst q47
      obtain ⟨_, hk1, hk2, hk3, hk4⟩ := (hfok.resolve_left (by dsimp only; omega)).resolve_right (by dsimp only; omega)
      refine At.region rfl rfl ?_
      refine Reg.pur rfl rfl rfl rfl (Pur.mv rfl) ?_
      refine Reg.lod rfl rfl rfl rfl (Lod.ldn ag68 rfl o3_14.blk (whole rfl) rfl) ?_
      have hcl := secondP_ok (en := fe) hT hMp hk1.1 hk1.2 o3_13.blk ⟨by omega, by rw [ob_some]; omega⟩ (hhd (by omega)) hk4 hv (by omega)

      refine Reg.op rfl rfl rfl rfl (Does.call rfl (hcl)) ?_
      rintro _ H9_2 ⟨hbut9_2, hAf⟩
      have z9_2 := hbut9_2.lt
      first | replace hLo := hLo.via hbut9_2 (by first | omega | (intro g; omega) | (intro g hg; omega) | (intro g hg h; omega)) | skip
      refine Reg.nil ?_
      refine At.fall rfl Try.func17 rfl ?_
      exact ⟨hLo, _, _, hbut9_2, hAf⟩
    first | (simp only [decide_eq_true_eq, decide_eq_false_iff_not, Bool.not_eq_true', Bool.not_eq_false', ne_eq, Decidable.not_not, Bool.not_eq_true, Bool.not_eq_false] at q47) | (dsimp only at q47) | skip
    refine At.region rfl rfl ?_
    refine Reg.pur rfl rfl rfl rfl (Pur.eql rfl rfl) ?_
    refine Reg.pur rfl rfl rfl rfl (Pur.asg rfl) ?_
    refine Reg.nil ?_
    refine At.cond rfl rfl (fun q52 => ?_) (fun q52 => ?_)
    · first | (simp only [decide_eq_true_eq, decide_eq_false_iff_not, Bool.not_eq_true', Bool.not_eq_false', ne_eq, Decidable.not_not, Bool.not_eq_true, Bool.not_eq_false] at q52) | (dsimp only at q52) | skip
      subst q52
      obtain ⟨_, hk1, hk2, hk4⟩ := (hfok.resolve_left (by dsimp only; omega)).resolve_left (by dsimp only; omega)
      refine At.region rfl rfl ?_
      refine Reg.pur rfl rfl rfl rfl (Pur.mv rfl) ?_
      refine Reg.pur rfl rfl rfl rfl (Pur.fld _ fo71_3 rfl) ?_
      refine Reg.lod rfl rfl rfl rfl (Lod.ldn ag68 rfl o3_13.blk rfl rfl) ?_
      refine Reg.lod rfl rfl rfl rfl (Lod.ldn ag68 rfl o3_14.blk (whole rfl) rfl) ?_
      have hcl := callP_ok hT hMp (hhd (by omega)) hv hk4 (by omega)

      refine Reg.op rfl rfl rfl rfl (Does.call rfl (hcl)) ?_
      rintro _ H11_4 ⟨hbut11_4, hAf⟩
      have z11_4 := hbut11_4.lt
      first | replace hLo := hLo.via hbut11_4 (by first | omega | (intro g; omega) | (intro g hg; omega) | (intro g hg h; omega)) | skip
      refine Reg.nil ?_
      refine At.fall rfl Try.func17 rfl ?_
      exact ⟨hLo, _, _, hbut11_4, hAf⟩
    first | (simp only [decide_eq_true_eq, decide_eq_false_iff_not, Bool.not_eq_true', Bool.not_eq_false', ne_eq, Decidable.not_not, Bool.not_eq_true, Bool.not_eq_false] at q52) | (dsimp only at q52) | skip
    refine At.fall rfl Try.func17 rfl ?_
    exfalso
    rcases hfok with h | h | h
    · exact q42 h.1
    · exact q47 h.1
    · exact q52 h.1
theorem told_r5 {one : T} (h : kp one = 5 ∨ kp one = 6) : toldM (.ret one) = (5, 0) := by
  cases one <;> simp only [kp] at h <;> first | rfl | omega
theorem told_r2 {one : T} (h0 : kp one ≠ 0) (h1 : kp one ≠ 1) (h5 : kp one ≠ 5) (h6 : kp one ≠ 6) : toldM (.ret one) = (2, 0) := by
  cases one <;> simp only [kp] at h0 h1 h5 h6 <;> first | rfl | omega
theorem toldP_ok {H : Heap} {G : Gh} (hst : ∀ b c, G b = some c → Blk H b c) {v : T} {p : Value} (hp : repP G v p) :
    Ret Try.prog 16 [p] H (fun r H' => r = .agg (Is [(toldM v).1, (toldM v).2]).toArray ∧ Ext H H') := by
  obtain ⟨b1, d1, rfl, hG1, hv⟩ := hp
  obtain ⟨n1, i1, p1, q1, r1, hd1⟩ := repV_cells hv
  rw [hd1] at hv
  have hB1 := hst _ _ hG1
  have hat : ∀ {j : Nat} {u : Value}, j < 6 → [I (kp v), I n1, I i1, .pointer p1, .pointer q1, .pointer r1][j]? = some u → d1[0 + j]? = some u := fun hj hu => at_tk (by rw [List.drop_zero]; exact hd1) hj hu
  refine Ret.of_at (N := 41) Try.call16 Try.func16 rfl rfl rfl ?_
  have hE := Ext.refl H
  have z_hE := hE.lt
  have z_hB1 := hB1.lt
  refine At.region rfl rfl ?_
  refine Reg.op rfl rfl rfl rfl (Does.alloc zc25) ?_
  rintro _ H0_0 ⟨rfl, hn0_0⟩
  have z0_0 := hn0_0.size
  replace hE := hE.ext hn0_0.ext
  replace hB1 := hB1.ext hn0_0.ext
  have o0_0 := hn0_0.own
  refine Reg.nil ?_
  refine At.region rfl rfl ?_
  refine Reg.pur rfl rfl rfl rfl (Pur.mv rfl) ?_
  refine Reg.pur rfl rfl rfl rfl (Pur.nilc rfl) ?_
  refine Reg.pur rfl rfl rfl rfl (Pur.fld _ fo68_0 rfl) ?_
  refine Reg.lod rfl rfl rfl rfl (Lod.ld sc66 rfl hB1 (hat (by decide) rfl)) ?_
  refine Reg.pur rfl rfl rfl rfl (Pur.neq rfl rfl) ?_
  refine Reg.nil ?_
  refine At.cond rfl rfl (fun q7 => ?_) (fun q7 => ?_)
  · first | (simp only [decide_eq_true_eq, decide_eq_false_iff_not, Bool.not_eq_true', Bool.not_eq_false', ne_eq, Decidable.not_not, Bool.not_eq_true, Bool.not_eq_false] at q7) | (dsimp only at q7) | skip
    refine At.region rfl rfl ?_
    refine Reg.pur rfl rfl rfl rfl (Pur.bld (cs := [_, _]) pl25 zc25 rfl rfl ⟨rfl, rfl, rfl⟩) ?_
    refine Reg.op0 rfl rfl rfl (Does.stn ag25 rfl rfl (by first | rfl | exact ones_Is _) (by first | rfl | (simp [*]; done)) o0_0 (by first | decide | (simp; done) | (simp; omega) | omega)) ?_
    rintro _ H2_1 hu2_1
    have z2_1 := hu2_1.size
    replace hE := hE.upw hu2_1 (by omega)
    replace hB1 := hB1.upw hu2_1 (by omega)
    replace o0_0 := hu2_1.own
    first | rw [over (by first | rfl | (simp; done))] at o0_0 | skip
    refine Reg.nil ?_
    refine At.retC rfl Try.func16 ⟨_, _, _, _, rfl, rfl, ⟨_, o0_0.blk, .inr ⟨_, _, ag25, (by first | exact whole rfl | exact whole (by simp [*])), (by first | rfl | simp [*]), rfl⟩⟩, rfl⟩ ?_
    have hno : toldM v = (5, 0) := by cases v <;> first | rfl | (exact (q7 rfl).elim)
    rw [hno]
    exact ⟨rfl, hE⟩
  first | (simp only [decide_eq_true_eq, decide_eq_false_iff_not, Bool.not_eq_true', Bool.not_eq_false', ne_eq, Decidable.not_not, Bool.not_eq_true, Bool.not_eq_false] at q7) | (dsimp only at q7) | skip
  obtain ⟨one, b2, d2, rfl, rfl, hG2, hone⟩ := ret_of hv q7
  obtain ⟨n2, i2, p2, q2, r2, hd2⟩ := repV_cells hone
  rw [hd2] at hone
  have zB2 := (hst _ _ hG2).lt
  have hB2 := (hst _ _ hG2).ext hE
  have hat2 : ∀ {j : Nat} {u : Value}, j < 6 → [I (kp one), I n2, I i2, .pointer p2, .pointer q2, .pointer r2][j]? = some u → d2[0 + j]? = some u := fun hj hu => at_tk (by rw [List.drop_zero]; exact hd2) hj hu
  have z_hB2 := hB2.lt
  refine At.region rfl rfl ?_
  refine Reg.pur rfl rfl rfl rfl (Pur.mv rfl) ?_
  refine Reg.pur rfl rfl rfl rfl (Pur.nilc rfl) ?_
  refine Reg.pur rfl rfl rfl rfl (Pur.fld _ fo68_4 rfl) ?_
  refine Reg.lod rfl rfl rfl rfl (Lod.ld sc48 rfl hB1 (hat (j := 4) (by decide) rfl)) ?_
  refine Reg.pur rfl rfl rfl rfl (Pur.nilc rfl) ?_
  refine Reg.pur rfl rfl rfl rfl (Pur.fld _ fo68_0 rfl) ?_
  refine Reg.lod rfl rfl rfl rfl (Lod.ld sc66 rfl hB2 (hat2 (j := 0) (by decide) rfl)) ?_
  refine Reg.nil ?_
  refine At.region rfl rfl ?_
  refine Reg.pur rfl rfl rfl rfl (Pur.eql rfl rfl) ?_
  refine Reg.pur rfl rfl rfl rfl (Pur.asg rfl) ?_
  refine Reg.nil ?_
  refine At.cond rfl rfl (fun q16 => ?_) (fun q16 => ?_)
  · first | (simp only [decide_eq_true_eq, decide_eq_false_iff_not, Bool.not_eq_true', Bool.not_eq_false', ne_eq, Decidable.not_not, Bool.not_eq_true, Bool.not_eq_false] at q16) | (dsimp only at q16) | skip
    refine At.region rfl rfl ?_
    refine Reg.pur rfl rfl rfl rfl (Pur.mv rfl) ?_
    refine Reg.pur rfl rfl rfl rfl (Pur.nilc rfl) ?_
    refine Reg.pur rfl rfl rfl rfl (Pur.fld _ fo68_4 rfl) ?_
    refine Reg.lod rfl rfl rfl rfl (Lod.ld sc48 rfl hB1 (hat (j := 4) (by decide) rfl)) ?_
    refine Reg.pur rfl rfl rfl rfl (Pur.nilc rfl) ?_
    refine Reg.pur rfl rfl rfl rfl (Pur.fld _ fo68_1 rfl) ?_
    refine Reg.lod rfl rfl rfl rfl (Lod.ld sc3 rfl hB2 (hat2 (j := 1) (by decide) rfl)) ?_
    refine Reg.pur rfl rfl rfl rfl (Pur.bld (cs := [_, _]) pl25 zc25 rfl rfl ⟨rfl, rfl, rfl⟩) ?_
    refine Reg.op0 rfl rfl rfl (Does.stn ag25 rfl rfl (by first | rfl | exact ones_Is _) (by first | rfl | (simp [*]; done)) o0_0 (by first | decide | (simp; done) | (simp; omega) | omega)) ?_
    rintro _ H5_8 hu5_8
    have z5_8 := hu5_8.size
    replace hE := hE.upw hu5_8 (by omega)
    replace hB1 := hB1.upw hu5_8 (by omega)
    replace hB2 := hB2.upw hu5_8 (by omega)
    replace o0_0 := hu5_8.own
    first | rw [over (by first | rfl | (simp; done))] at o0_0 | skip
    refine Reg.nil ?_
    refine At.retC rfl Try.func16 ⟨_, _, _, _, rfl, rfl, ⟨_, o0_0.blk, .inr ⟨_, _, ag25, (by first | exact whole rfl | exact whole (by simp [*])), (by first | rfl | simp [*]), rfl⟩⟩, rfl⟩ ?_
    obtain rfl := num_of hone q16
    exact ⟨rfl, hE⟩
  first | (simp only [decide_eq_true_eq, decide_eq_false_iff_not, Bool.not_eq_true', Bool.not_eq_false', ne_eq, Decidable.not_not, Bool.not_eq_true, Bool.not_eq_false] at q16) | (dsimp only at q16) | skip
  refine At.region rfl rfl ?_
  refine Reg.pur rfl rfl rfl rfl (Pur.eql rfl rfl) ?_
  refine Reg.pur rfl rfl rfl rfl (Pur.asg rfl) ?_
  refine Reg.nil ?_
  refine At.cond rfl rfl (fun q26 => ?_) (fun q26 => ?_)
  · first | (simp only [decide_eq_true_eq, decide_eq_false_iff_not, Bool.not_eq_true', Bool.not_eq_false', ne_eq, Decidable.not_not, Bool.not_eq_true, Bool.not_eq_false] at q26) | (dsimp only at q26) | skip
    refine At.region rfl rfl ?_
    refine Reg.pur rfl rfl rfl rfl (Pur.mv rfl) ?_
    refine Reg.pur rfl rfl rfl rfl (Pur.nilc rfl) ?_
    refine Reg.pur rfl rfl rfl rfl (Pur.fld _ fo68_4 rfl) ?_
    refine Reg.lod rfl rfl rfl rfl (Lod.ld sc48 rfl hB1 (hat (j := 4) (by decide) rfl)) ?_
    refine Reg.pur rfl rfl rfl rfl (Pur.nilc rfl) ?_
    refine Reg.pur rfl rfl rfl rfl (Pur.fld _ fo68_1 rfl) ?_
    refine Reg.lod rfl rfl rfl rfl (Lod.ld sc3 rfl hB2 (hat2 (j := 1) (by decide) rfl)) ?_
    refine Reg.pur rfl rfl rfl rfl (Pur.bld (cs := [_, _]) pl25 zc25 rfl rfl ⟨rfl, rfl, rfl⟩) ?_
    refine Reg.op0 rfl rfl rfl (Does.stn ag25 rfl rfl (by first | rfl | exact ones_Is _) (by first | rfl | (simp [*]; done)) o0_0 (by first | decide | (simp; done) | (simp; omega) | omega)) ?_
    rintro _ H7_8 hu7_8
    have z7_8 := hu7_8.size
    replace hE := hE.upw hu7_8 (by omega)
    replace hB1 := hB1.upw hu7_8 (by omega)
    replace hB2 := hB2.upw hu7_8 (by omega)
    replace o0_0 := hu7_8.own
    first | rw [over (by first | rfl | (simp; done))] at o0_0 | skip
    refine Reg.nil ?_
    refine At.retC rfl Try.func16 ⟨_, _, _, _, rfl, rfl, ⟨_, o0_0.blk, .inr ⟨_, _, ag25, (by first | exact whole rfl | exact whole (by simp [*])), (by first | rfl | simp [*]), rfl⟩⟩, rfl⟩ ?_
    obtain rfl := tru_of hone q26
    exact ⟨rfl, hE⟩
  first | (simp only [decide_eq_true_eq, decide_eq_false_iff_not, Bool.not_eq_true', Bool.not_eq_false', ne_eq, Decidable.not_not, Bool.not_eq_true, Bool.not_eq_false] at q26) | (dsimp only at q26) | skip
  refine At.region rfl rfl ?_
  refine Reg.pur rfl rfl rfl rfl (Pur.eql rfl rfl) ?_
  refine Reg.pur rfl rfl rfl rfl (Pur.asg rfl) ?_
  refine Reg.nil ?_
  refine At.cond rfl rfl (fun q36 => ?_) (fun q36 => ?_)
  · first | (simp only [decide_eq_true_eq, decide_eq_false_iff_not, Bool.not_eq_true', Bool.not_eq_false', ne_eq, Decidable.not_not, Bool.not_eq_true, Bool.not_eq_false] at q36) | (dsimp only at q36) | skip
    refine At.condT rfl rfl (by first | exact q36 | exact decide_eq_true q36 | exact decide_eq_false q36 | simpa using q36) ?_
    refine At.region rfl rfl ?_
    refine Reg.pur rfl rfl rfl rfl (Pur.bld (cs := [_, _]) pl25 zc25 rfl rfl ⟨rfl, rfl, rfl⟩) ?_
    refine Reg.op0 rfl rfl rfl (Does.stn ag25 rfl rfl (by first | rfl | exact ones_Is _) (by first | rfl | (simp [*]; done)) o0_0 (by first | decide | (simp; done) | (simp; omega) | omega)) ?_
    rintro _ H10_1 hu10_1
    have z10_1 := hu10_1.size
    replace hE := hE.upw hu10_1 (by omega)
    replace hB1 := hB1.upw hu10_1 (by omega)
    replace hB2 := hB2.upw hu10_1 (by omega)
    replace o0_0 := hu10_1.own
    first | rw [over (by first | rfl | (simp; done))] at o0_0 | skip
    refine Reg.nil ?_
    refine At.retC rfl Try.func16 ⟨_, _, _, _, rfl, rfl, ⟨_, o0_0.blk, .inr ⟨_, _, ag25, (by first | exact whole rfl | exact whole (by simp [*])), (by first | rfl | simp [*]), rfl⟩⟩, rfl⟩ ?_
    rw [told_r5 (by omega)]
    exact ⟨rfl, hE⟩
  first | (simp only [decide_eq_true_eq, decide_eq_false_iff_not, Bool.not_eq_true', Bool.not_eq_false', ne_eq, Decidable.not_not, Bool.not_eq_true, Bool.not_eq_false] at q36) | (dsimp only at q36) | skip
  refine At.region rfl rfl ?_
  refine Reg.pur rfl rfl rfl rfl (Pur.eql rfl rfl) ?_
  refine Reg.pur rfl rfl rfl rfl (Pur.asg rfl) ?_
  refine Reg.nil ?_
  refine At.cond rfl rfl (fun q36 => ?_) (fun q36 => ?_)
  · first | (simp only [decide_eq_true_eq, decide_eq_false_iff_not, Bool.not_eq_true', Bool.not_eq_false', ne_eq, Decidable.not_not, Bool.not_eq_true, Bool.not_eq_false] at q36) | (dsimp only at q36) | skip
    refine At.region rfl rfl ?_
    refine Reg.pur rfl rfl rfl rfl (Pur.bld (cs := [_, _]) pl25 zc25 rfl rfl ⟨rfl, rfl, rfl⟩) ?_
    refine Reg.op0 rfl rfl rfl (Does.stn ag25 rfl rfl (by first | rfl | exact ones_Is _) (by first | rfl | (simp [*]; done)) o0_0 (by first | decide | (simp; done) | (simp; omega) | omega)) ?_
    rintro _ H10_1 hu10_1
    have z10_1 := hu10_1.size
    replace hE := hE.upw hu10_1 (by omega)
    replace hB1 := hB1.upw hu10_1 (by omega)
    replace hB2 := hB2.upw hu10_1 (by omega)
    replace o0_0 := hu10_1.own
    first | rw [over (by first | rfl | (simp; done))] at o0_0 | skip
    refine Reg.nil ?_
    refine At.retC rfl Try.func16 ⟨_, _, _, _, rfl, rfl, ⟨_, o0_0.blk, .inr ⟨_, _, ag25, (by first | exact whole rfl | exact whole (by simp [*])), (by first | rfl | simp [*]), rfl⟩⟩, rfl⟩ ?_
    rw [told_r5 (by omega)]
    exact ⟨rfl, hE⟩
  first | (simp only [decide_eq_true_eq, decide_eq_false_iff_not, Bool.not_eq_true', Bool.not_eq_false', ne_eq, Decidable.not_not, Bool.not_eq_true, Bool.not_eq_false] at q36) | (dsimp only at q36) | skip
  refine At.region rfl rfl ?_
  refine Reg.pur rfl rfl rfl rfl (Pur.bld (cs := [_, _]) pl25 zc25 rfl rfl ⟨rfl, rfl, rfl⟩) ?_
  refine Reg.op0 rfl rfl rfl (Does.stn ag25 rfl rfl (by first | rfl | exact ones_Is _) (by first | rfl | (simp [*]; done)) o0_0 (by first | decide | (simp; done) | (simp; omega) | omega)) ?_
  rintro _ H11_1 hu11_1
  have z11_1 := hu11_1.size
  replace hE := hE.upw hu11_1 (by omega)
  replace hB1 := hB1.upw hu11_1 (by omega)
  replace hB2 := hB2.upw hu11_1 (by omega)
  replace o0_0 := hu11_1.own
  first | rw [over (by first | rfl | (simp; done))] at o0_0 | skip
  refine Reg.nil ?_
  refine At.retC rfl Try.func16 ⟨_, _, _, _, rfl, rfl, ⟨_, o0_0.blk, .inr ⟨_, _, ag25, (by first | exact whole rfl | exact whole (by simp [*])), (by first | rfl | simp [*]), rfl⟩⟩, rfl⟩ ?_
  rw [told_r2 (by omega) (by omega) (by omega) (by omega)]
  exact ⟨rfl, hE⟩
end Go.Proofs.Ytjhkmebmbopfoaa
