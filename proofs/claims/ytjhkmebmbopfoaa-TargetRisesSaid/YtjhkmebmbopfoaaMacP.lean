/-
  Chapter 21: the reference's machine: a node that begins, a step, a run.
-/
import Derived.Test.YtjhkmebmbopfoaaMacO
namespace Go.Proofs.Ytjhkmebmbopfoaa
set_option linter.unusedSimpArgs false
set_option linter.unusedVariables false
set_option maxRecDepth 8000
set_option maxHeartbeats 2000000
open Go Go.Fx Go.Proofs
namespace FactsMacP
theorem ag37 : ag Try.prog 37 = some 9 := by kernel_rfl
theorem ag58 : ag Try.prog 58 = some 7 := by kernel_rfl
theorem ag76 : ag Try.prog 76 = some 10 := by kernel_rfl
theorem es22 : esz Try.prog 22 = some 9 := by kernel_rfl
theorem es54 : esz Try.prog 54 = some 10 := by kernel_rfl
theorem fo37_0 : foff Try.prog 37 0 = some 0 := by kernel_rfl
theorem fo37_1 : foff Try.prog 37 1 = some 1 := by kernel_rfl
theorem fo37_4 : foff Try.prog 37 4 = some 4 := by kernel_rfl
theorem fo60_0 : foff Try.prog 60 0 = some 0 := by kernel_rfl
theorem fo60_1 : foff Try.prog 60 1 = some 1 := by kernel_rfl
theorem fo60_2 : foff Try.prog 60 2 = some 2 := by kernel_rfl
theorem fo60_3 : foff Try.prog 60 3 = some 3 := by kernel_rfl
theorem fo60_4 : foff Try.prog 60 4 = some 4 := by kernel_rfl
theorem isl54 : isSl Try.prog 54 = true := by kernel_rfl
theorem mixed : Try.prog.follows .mixedOrders = true := by kernel_rfl
theorem pl58 : places Try.prog 58 = some [(0, 1), (1, 1), (2, 1), (3, 1), (4, 1), (5, 1), (6, 1)] := by kernel_rfl
theorem sc22 : sc Try.prog 22 = true := by kernel_rfl
theorem sc3 : sc Try.prog 3 = true := by kernel_rfl
theorem sc4 : sc Try.prog 4 = true := by kernel_rfl
theorem sc54 : sc Try.prog 54 = true := by kernel_rfl
theorem sc55 : sc Try.prog 55 = true := by kernel_rfl
theorem zc37 : zc Try.prog 37 = some [.int .i64 0, .int .i64 0, .int .i64 0, .int .i64 0, .int .i64 0, .int .i64 0, .int .i64 0, .int .i64 0, .int .i64 0] := by kernel_rfl
theorem zc58 : zc Try.prog 58 = some [.int .i64 0, .int .i64 0, .int .i64 0, .pointer none, .slice none 0 0, .pointer none, .pointer none] := by kernel_rfl
theorem zc76 : zc Try.prog 76 = some [.int .i64 0, .int .i64 0, .pointer none, .int .i64 0, .int .i64 0, .int .i64 0, .pointer none, .slice none 0 0, .pointer none, .pointer none] := by kernel_rfl
end FactsMacP
open FactsMacP

variable {L : List (List Int)} {N : Value} {m B : Nat} {G : Gh} {s : Nat} {fr : List Fr} {A : Option Addr} {cap : Nat} {ev dn : Bool} {nd' o1 o2 : Int} {pe : Value} {vc : List Value}
theorem beginR_ok {H : Heap} (hT : Tm L) {i : Int} {en : T} {p : Value} (hM : Qs L N m B G s H fr A cap true i p vc false o1 o2) (hn0 : 0 ≤ i) (hn1 : i < L.length) (hen : rqE G en p) (hl : fr.length ≤ 4096) :
    Ret Try.prog 34 [ptr m 0] H (fun _ H' => AfterR L N m B (ob A) H (beginM L fr i en) H') := by
  obtain ⟨Ap, rfl⟩ := rqE_one hen
  obtain ⟨bn, on, capn, cn, rfl, hB, hbB, hcn, h9⟩ := hM.node hn0 hn1
  have hk12 := (hT.kind hn0 hn1)
  have hL := Chm.refl m (ob A) H
  have zM := hM.lt
  have hmo := hM.own
  have hat : ∀ j, j < 9 → (Is (el L i))[0 + j]? = some (I ((el L i).getD j 0)) := fun j hj => by rw [Nat.zero_add]; exact at_Is (by omega)
  have h9' : (Is (el L i)).length = 9 := by rw [List.length_map]; exact h9
  obtain ⟨v0, v1, v2, v3, v4, v5, v6, hvc⟩ := sevn hM.v7
  rw [beg_eq]
  generalize hkk : (el L i).getD 0 0 = k at *
  have hc0 := hat 0 (by decide)
  rw [hkk] at hc0
  refine Ret.of_at (N := 92) Try.call34 Try.func34 rfl rfl rfl ?_
  have hE := Ext.refl H
  have z_hL := hL.lt
  have z_hM := hM.lt
  have z_hmo := hmo.lt
  have z_hB := hB.lt
  refine At.drawE ((Bks.cons hmo.blk (Bks.cons hB.blk Bks.nil))) [] mixed rfl rfl ?_
  refine RegD.tpur (i := 0) rfl rfl rfl rfl (by kernel_rfl) (Pur.mv rfl) ?_
  refine RegD.tpur (i := 1) rfl rfl rfl rfl (by kernel_rfl) (Pur.nilc rfl) ?_
  refine RegD.tpur (i := 2) rfl rfl rfl rfl (by kernel_rfl) (Pur.fld _ fo60_0 rfl) ?_
  refine RegD.takeT (i := 3) rfl rfl rfl rfl (by kernel_rfl) (Bks.cons hmo.blk (Bks.cons hB.blk Bks.nil)) (fun H hS => Lod.ld sc22 rfl hS.hd rfl) ?_
  refine RegD.tpur (i := 4) rfl rfl rfl rfl (by kernel_rfl) (Pur.mv rfl) ?_
  refine RegD.tpur (i := 5) rfl rfl rfl rfl (by kernel_rfl) (Pur.nilc rfl) ?_
  refine RegD.tpur (i := 6) rfl rfl rfl rfl (by kernel_rfl) (Pur.fld _ fo60_3 rfl) ?_
  refine RegD.takeT (i := 7) rfl rfl rfl rfl (by kernel_rfl) (Bks.cons hmo.blk (Bks.cons hB.blk Bks.nil)) (fun H hS => Lod.ld sc3 rfl hS.hd rfl) ?_
  refine RegD.tpur (i := 8) rfl rfl rfl rfl (by kernel_rfl) (Pur.idx _ es22 rfl rfl (by omega) (by omega)) ?_
  refine RegD.takeT (i := 9) rfl rfl rfl rfl (by kernel_rfl) (Bks.cons hmo.blk (Bks.cons hB.blk Bks.nil)) (fun H hS => Lod.ldn ag37 rfl hS.tl.hd hcn h9') ?_
  refine RegD.tpur (i := 10) rfl rfl rfl rfl (by kernel_rfl) (Pur.mv rfl) ?_
  refine RegD.tpur (i := 11) rfl rfl rfl rfl (by kernel_rfl) (Pur.nilc rfl) ?_
  refine RegD.tpur (i := 12) rfl rfl rfl rfl (by kernel_rfl) (Pur.fld _ fo60_4 rfl) ?_
  refine RegD.takeT (i := 13) rfl rfl rfl rfl (by kernel_rfl) (Bks.cons hmo.blk (Bks.cons hB.blk Bks.nil)) (fun H hS => Lod.ld sc55 rfl hS.hd rfl) ?_
  refine RegD.one (i := 14) (by kernel_rfl) rfl rfl rfl rfl (Does.alloc zc37) ?_
  rintro _ H0_14 ⟨rfl, hn0_14⟩
  have z0_14 := hn0_14.size
  first | replace hL := hL.ext hn0_14.ext | skip
  replace hM := hM.ext hn0_14.ext
  replace hmo := hmo.ext hn0_14.ext
  replace hB := hB.ext hn0_14.ext
  have o0_14 := hn0_14.own
  refine ⟨fun _ _ => (Bks.cons hmo.blk (Bks.cons hB.blk Bks.nil)), ?_⟩
  refine RegD.one0 (i := 15) (by kernel_rfl) rfl rfl rfl (Does.stn ag37 rfl rfl (ones_Is _) h9' o0_14 (by simp)) ?_
  rintro _ H0_15 hu0_15
  have z0_15 := hu0_15.size
  first | replace hL := hL.upw hu0_15 (by omega) | skip
  replace hM := hM.upw hu0_15 (by omega)
  replace hmo := hmo.upw hu0_15 (by omega)
  replace hB := hB.upw hu0_15 (by omega)
  replace o0_14 := hu0_15.own
  first | rw [over (by first | rfl | (simp; done))] at o0_14 | skip
  refine ⟨fun _ _ => (Bks.cons hmo.blk (Bks.cons hB.blk Bks.nil)), ?_⟩
  refine RegD.tpur (i := 16) rfl rfl rfl rfl (by kernel_rfl) (Pur.asg rfl) ?_
  refine RegD.done (by kernel_rfl) ?_
  refine At.region rfl rfl ?_
  refine Reg.pur rfl rfl rfl rfl (Pur.asg rfl) ?_
  refine Reg.nil ?_
  refine At.region rfl rfl ?_
  refine Reg.pur rfl rfl rfl rfl (Pur.fld _ fo37_0 rfl) ?_
  refine Reg.lod rfl rfl rfl rfl (Lod.ld sc3 rfl o0_14.blk hc0) ?_
  refine Reg.nil ?_
  refine At.region rfl rfl ?_
  refine Reg.pur rfl rfl rfl rfl (Pur.eql rfl rfl) ?_
  refine Reg.pur rfl rfl rfl rfl (Pur.asg rfl) ?_
  refine Reg.nil ?_
  refine At.cond rfl rfl (fun q23 => ?_) (fun q23 => ?_)
  · first | (simp only [decide_eq_true_eq, decide_eq_false_iff_not, Bool.not_eq_true', Bool.not_eq_false', ne_eq, Decidable.not_not, Bool.not_eq_true, Bool.not_eq_false] at q23) | (dsimp only at q23) | skip
    subst q23
    refine At.region rfl rfl ?_
    refine Reg.pur rfl rfl rfl rfl (Pur.mv rfl) ?_
    refine Reg.pur rfl rfl rfl rfl (Pur.fld _ fo37_4 rfl) ?_
    refine Reg.lod rfl rfl rfl rfl (Lod.ld sc3 rfl o0_14.blk (hat 4 (by decide))) ?_
    refine Reg.op rfl rfl rfl rfl (Does.call rfl (findR_ok hM.fz.st _ en _ hen)) ?_
    rintro _ H4_3 ⟨fc, fb, rfl, hfd, hE4_3⟩
    have z4_3 := hE4_3.lt
    first | replace hL := hL.ext hE4_3 | skip
    replace hM := hM.ext hE4_3
    replace hmo := hmo.ext hE4_3
    replace hB := hB.ext hE4_3
    replace o0_14 := o0_14.ext hE4_3
    refine Reg.pur rfl rfl rfl rfl (Pur.mv rfl) ?_
    refine Reg.pur rfl rfl rfl rfl (Pur.ext rfl rfl) ?_
    refine Reg.pur rfl rfl rfl rfl (Pur.ext rfl rfl) ?_
    refine Reg.op rfl rfl rfl rfl (Does.alloc zc58) ?_
    rintro _ H4_7 ⟨rfl, hn4_7⟩
    have z4_7 := hn4_7.size
    first | replace hL := hL.ext hn4_7.ext | skip
    replace hM := hM.ext hn4_7.ext
    replace hmo := hmo.ext hn4_7.ext
    replace hB := hB.ext hn4_7.ext
    replace o0_14 := o0_14.ext hn4_7.ext
    have o4_7 := hn4_7.own
    refine Reg.op0 rfl rfl rfl (Does.stn ag58 rfl rfl ((fndR_seven hfd).2) ((fndR_seven hfd).1) o4_7 (by simp)) ?_
    rintro _ H4_8 hu4_8
    have z4_8 := hu4_8.size
    first | replace hL := hL.upw hu4_8 (by omega) | skip
    replace hM := hM.upw hu4_8 (by omega)
    replace hmo := hmo.upw hu4_8 (by omega)
    replace hB := hB.upw hu4_8 (by omega)
    replace o0_14 := o0_14.upw hu4_8 (by omega)
    replace o4_7 := hu4_8.own
    first | rw [over (by first | rfl | (simp; done))] at o4_7 | skip
    refine Reg.pur rfl rfl rfl rfl (Pur.asg rfl) ?_
    refine Reg.nil ?_
    refine At.region rfl rfl ?_
    refine Reg.pur rfl rfl rfl rfl (Pur.mv rfl) ?_
    refine Reg.pur rfl rfl rfl rfl (Pur.not rfl) ?_
    refine Reg.nil ?_
    refine At.cond rfl rfl (fun q33 => ?_) (fun q33 => ?_)
    · first | (simp only [decide_eq_true_eq, decide_eq_false_iff_not, Bool.not_eq_true', Bool.not_eq_false', ne_eq, Decidable.not_not, Bool.not_eq_true, Bool.not_eq_false] at q33) | (dsimp only at q33) | skip
      refine At.region rfl rfl ?_
      refine Reg.pur rfl rfl rfl rfl (Pur.mv rfl) ?_

      refine Reg.op rfl rfl rfl rfl (Does.call rfl (endR_ok hM 5 0)) ?_
      rintro _ H6_1 ⟨hM1, hbut6_1⟩
      have z6_1 := hbut6_1.lt
      first | replace hL := hL.via hbut6_1 (by first | omega | (intro g; omega) | (intro g hg; omega) | (intro g hg h; omega)) | skip
      replace hB := hB.via hbut6_1 (by first | omega | (intro g; omega) | (intro g hg; omega) | (intro g hg h; omega))
      replace o0_14 := o0_14.via hbut6_1 (by first | omega | (intro g; omega) | (intro g hg; omega) | (intro g hg h; omega))
      replace o4_7 := o4_7.via hbut6_1 (by first | omega | (intro g; omega) | (intro g hg; omega) | (intro g hg h; omega))
      refine Reg.nil ?_
      refine At.region rfl rfl ?_
      refine Reg.pur rfl rfl rfl rfl (Pur.mv rfl) ?_
      refine Reg.lod rfl rfl rfl rfl (Lod.ldn ag58 rfl o4_7.blk (whole (fndR_seven hfd).1) ((fndR_seven hfd).1)) ?_
      have hgv := givesR_ok hM1 (fndR_seven hfd).1 (fndR_seven hfd).2
      refine Reg.op rfl rfl rfl rfl (Does.call rfl (hgv)) ?_
      rintro _ H7_2 ⟨hM3, hbut7_2⟩
      have z7_2 := hbut7_2.lt
      first | replace hL := hL.via hbut7_2 (by first | omega | (intro g; omega) | (intro g hg; omega) | (intro g hg h; omega)) | skip
      replace hB := hB.via hbut7_2 (by first | omega | (intro g; omega) | (intro g hg; omega) | (intro g hg h; omega))
      replace o0_14 := o0_14.via hbut7_2 (by first | omega | (intro g; omega) | (intro g hg; omega) | (intro g hg h; omega))
      replace o4_7 := o4_7.via hbut7_2 (by first | omega | (intro g; omega) | (intro g hg; omega) | (intro g hg h; omega))
      refine Reg.nil ?_
      refine At.ret rfl Try.func34 rfl ?_
      have hfn : findN en ((el L i).getD 4 0) = .nil := by rcases hfd with ⟨h, _⟩ | ⟨_, h, _⟩; exact h; simp_all
      rw [beg_nil hfn]
      exact AfterR.fin hM3 hL hl
    first | (simp only [decide_eq_true_eq, decide_eq_false_iff_not, Bool.not_eq_true', Bool.not_eq_false', ne_eq, Decidable.not_not, Bool.not_eq_true, Bool.not_eq_false] at q33) | (dsimp only at q33) | skip
    refine At.region rfl rfl ?_
    refine Reg.pur rfl rfl rfl rfl (Pur.mv rfl) ?_
    refine Reg.lod rfl rfl rfl rfl (Lod.ldn ag58 rfl o4_7.blk (whole (fndR_seven hfd).1) ((fndR_seven hfd).1)) ?_
    have hgv := givesR_ok hM (fndR_seven hfd).1 (fndR_seven hfd).2

    refine Reg.op rfl rfl rfl rfl (Does.call rfl (hgv)) ?_
    rintro _ H7_2 ⟨hM3, hbut7_2⟩
    have z7_2 := hbut7_2.lt
    first | replace hL := hL.via hbut7_2 (by first | omega | (intro g; omega) | (intro g hg; omega) | (intro g hg h; omega)) | skip
    replace hB := hB.via hbut7_2 (by first | omega | (intro g; omega) | (intro g hg; omega) | (intro g hg h; omega))
    replace o0_14 := o0_14.via hbut7_2 (by first | omega | (intro g; omega) | (intro g hg; omega) | (intro g hg h; omega))
    replace o4_7 := o4_7.via hbut7_2 (by first | omega | (intro g; omega) | (intro g hg; omega) | (intro g hg h; omega))
    refine Reg.nil ?_
    refine At.ret rfl Try.func34 rfl ?_
    have hfo : findN en ((el L i).getD 4 0) ≠ .nil ∧ rqV G (findN en ((el L i).getD 4 0)) fc := by rcases hfd with ⟨_, h, _⟩ | ⟨h1, _, h⟩; simp_all; exact ⟨h1, h⟩
    rw [beg_var hfo.1]
    exact AfterR.gv hM3 hL hfo.2
  first | (simp only [decide_eq_true_eq, decide_eq_false_iff_not, Bool.not_eq_true', Bool.not_eq_false', ne_eq, Decidable.not_not, Bool.not_eq_true, Bool.not_eq_false] at q23) | (dsimp only at q23) | skip
  refine At.region rfl rfl ?_
  refine Reg.pur rfl rfl rfl rfl (Pur.eql rfl rfl) ?_
  refine Reg.pur rfl rfl rfl rfl (Pur.asg rfl) ?_
  refine Reg.nil ?_
  refine At.cond rfl rfl (fun q39 => ?_) (fun q39 => ?_)
  · first | (simp only [decide_eq_true_eq, decide_eq_false_iff_not, Bool.not_eq_true', Bool.not_eq_false', ne_eq, Decidable.not_not, Bool.not_eq_true, Bool.not_eq_false] at q39) | (dsimp only at q39) | skip
    subst q39
    refine At.region rfl rfl ?_
    refine Reg.pur rfl rfl rfl rfl (Pur.mv rfl) ?_
    refine Reg.pur rfl rfl rfl rfl (Pur.fld _ fo37_4 rfl) ?_
    refine Reg.lod rfl rfl rfl rfl (Lod.ld sc3 rfl o0_14.blk (hat 4 (by decide))) ?_
    refine Reg.pur rfl rfl rfl rfl (Pur.bld (cs := [_, _, _, _, _, _, _]) pl58 zc58 rfl rfl ⟨rfl, rfl, rfl, rfl, rfl, rfl, rfl, rfl⟩) ?_

    refine Reg.op rfl rfl rfl rfl (Does.call rfl (givesR_ok hM (vc' := [I 0, I ((el L i).getD 4 0), I 0, nilp, nils, nilp, nilp]) rfl rfl)) ?_
    rintro _ H9_4 ⟨hM3, hbut9_4⟩
    have z9_4 := hbut9_4.lt
    first | replace hL := hL.via hbut9_4 (by first | omega | (intro g; omega) | (intro g hg; omega) | (intro g hg h; omega)) | skip
    replace hB := hB.via hbut9_4 (by first | omega | (intro g; omega) | (intro g hg; omega) | (intro g hg h; omega))
    replace o0_14 := o0_14.via hbut9_4 (by first | omega | (intro g; omega) | (intro g hg; omega) | (intro g hg h; omega))
    refine Reg.nil ?_
    refine At.ret rfl Try.func34 rfl ?_
    exact AfterR.gv hM3 hL (by simp only [rqV])
  first | (simp only [decide_eq_true_eq, decide_eq_false_iff_not, Bool.not_eq_true', Bool.not_eq_false', ne_eq, Decidable.not_not, Bool.not_eq_true, Bool.not_eq_false] at q39) | (dsimp only at q39) | skip
  refine At.region rfl rfl ?_
  refine Reg.pur rfl rfl rfl rfl (Pur.eql rfl rfl) ?_
  refine Reg.pur rfl rfl rfl rfl (Pur.asg rfl) ?_
  refine Reg.nil ?_
  refine At.cond rfl rfl (fun q46 => ?_) (fun q46 => ?_)
  · first | (simp only [decide_eq_true_eq, decide_eq_false_iff_not, Bool.not_eq_true', Bool.not_eq_false', ne_eq, Decidable.not_not, Bool.not_eq_true, Bool.not_eq_false] at q46) | (dsimp only at q46) | skip
    subst q46
    refine At.region rfl rfl ?_
    refine Reg.pur rfl rfl rfl rfl (Pur.mv rfl) ?_
    refine Reg.pur rfl rfl rfl rfl (Pur.fld _ fo37_4 rfl) ?_
    refine Reg.lod rfl rfl rfl rfl (Lod.ld sc3 rfl o0_14.blk (hat 4 (by decide))) ?_
    refine Reg.pur rfl rfl rfl rfl (Pur.bld (cs := [_, _, _, _, _, _, _]) pl58 zc58 rfl rfl ⟨rfl, rfl, rfl, rfl, rfl, rfl, rfl, rfl⟩) ?_

    refine Reg.op rfl rfl rfl rfl (Does.call rfl (givesR_ok hM (vc' := [I 1, I ((el L i).getD 4 0), I 0, nilp, nils, nilp, nilp]) rfl rfl)) ?_
    rintro _ H11_4 ⟨hM3, hbut11_4⟩
    have z11_4 := hbut11_4.lt
    first | replace hL := hL.via hbut11_4 (by first | omega | (intro g; omega) | (intro g hg; omega) | (intro g hg h; omega)) | skip
    replace hB := hB.via hbut11_4 (by first | omega | (intro g; omega) | (intro g hg; omega) | (intro g hg h; omega))
    replace o0_14 := o0_14.via hbut11_4 (by first | omega | (intro g; omega) | (intro g hg; omega) | (intro g hg h; omega))
    refine Reg.nil ?_
    refine At.ret rfl Try.func34 rfl ?_
    exact AfterR.gv hM3 hL (by simp only [rqV])
  first | (simp only [decide_eq_true_eq, decide_eq_false_iff_not, Bool.not_eq_true', Bool.not_eq_false', ne_eq, Decidable.not_not, Bool.not_eq_true, Bool.not_eq_false] at q46) | (dsimp only at q46) | skip
  refine At.region rfl rfl ?_
  refine Reg.pur rfl rfl rfl rfl (Pur.eql rfl rfl) ?_
  refine Reg.pur rfl rfl rfl rfl (Pur.asg rfl) ?_
  refine Reg.nil ?_
  refine At.cond rfl rfl (fun q53 => ?_) (fun q53 => ?_)
  · first | (simp only [decide_eq_true_eq, decide_eq_false_iff_not, Bool.not_eq_true', Bool.not_eq_false', ne_eq, Decidable.not_not, Bool.not_eq_true, Bool.not_eq_false] at q53) | (dsimp only at q53) | skip
    refine At.condT rfl rfl (by first | exact q53 | exact decide_eq_true q53 | exact decide_eq_false q53 | simpa using q53) ?_
    refine At.region rfl rfl ?_
    refine Reg.pur rfl rfl rfl rfl (Pur.mv rfl) ?_
    refine Reg.pur rfl rfl rfl rfl (Pur.mv rfl) ?_
    refine Reg.pur rfl rfl rfl rfl (Pur.nilc rfl) ?_
    refine Reg.pur rfl rfl rfl rfl (Pur.fld _ fo60_3 rfl) ?_
    refine Reg.lod rfl rfl rfl rfl (Lod.ld sc3 rfl hmo.blk rfl) ?_
    refine Reg.pur rfl rfl rfl rfl (Pur.mv rfl) ?_
    refine Reg.pur rfl rfl rfl rfl (Pur.bld (cs := [_, _, _, _, _, _, _]) pl58 zc58 rfl rfl ⟨rfl, rfl, rfl, rfl, rfl, rfl, rfl, rfl⟩) ?_

    refine Reg.op rfl rfl rfl rfl (Does.call rfl (givesR_ok hM (vc' := [I 2, I 0, I i, .pointer Ap, nils, nilp, nilp]) rfl rfl)) ?_
    rintro _ H14_7 ⟨hM3, hbut14_7⟩
    have z14_7 := hbut14_7.lt
    first | replace hL := hL.via hbut14_7 (by first | omega | (intro g; omega) | (intro g hg; omega) | (intro g hg h; omega)) | skip
    replace hB := hB.via hbut14_7 (by first | omega | (intro g; omega) | (intro g hg; omega) | (intro g hg h; omega))
    replace o0_14 := o0_14.via hbut14_7 (by first | omega | (intro g; omega) | (intro g hg; omega) | (intro g hg h; omega))
    refine Reg.nil ?_
    refine At.ret rfl Try.func34 rfl ?_
    have h34 : k = 3 ∨ k = 4 := by omega
    rw [show begM k (el L i) fr i en = _ from ((if_neg q23).trans (if_neg q39)).trans ((if_neg q46).trans (if_pos h34))]
    exact AfterR.gv hM3 hL (by simp only [rqV]; exact ⟨_, rfl, hen⟩)
  first | (simp only [decide_eq_true_eq, decide_eq_false_iff_not, Bool.not_eq_true', Bool.not_eq_false', ne_eq, Decidable.not_not, Bool.not_eq_true, Bool.not_eq_false] at q53) | (dsimp only at q53) | skip
  refine At.region rfl rfl ?_
  refine Reg.pur rfl rfl rfl rfl (Pur.eql rfl rfl) ?_
  refine Reg.pur rfl rfl rfl rfl (Pur.asg rfl) ?_
  refine Reg.nil ?_
  refine At.cond rfl rfl (fun q53 => ?_) (fun q53 => ?_)
  · first | (simp only [decide_eq_true_eq, decide_eq_false_iff_not, Bool.not_eq_true', Bool.not_eq_false', ne_eq, Decidable.not_not, Bool.not_eq_true, Bool.not_eq_false] at q53) | (dsimp only at q53) | skip
    refine At.region rfl rfl ?_
    refine Reg.pur rfl rfl rfl rfl (Pur.mv rfl) ?_
    refine Reg.pur rfl rfl rfl rfl (Pur.mv rfl) ?_
    refine Reg.pur rfl rfl rfl rfl (Pur.nilc rfl) ?_
    refine Reg.pur rfl rfl rfl rfl (Pur.fld _ fo60_3 rfl) ?_
    refine Reg.lod rfl rfl rfl rfl (Lod.ld sc3 rfl hmo.blk rfl) ?_
    refine Reg.pur rfl rfl rfl rfl (Pur.mv rfl) ?_
    refine Reg.pur rfl rfl rfl rfl (Pur.bld (cs := [_, _, _, _, _, _, _]) pl58 zc58 rfl rfl ⟨rfl, rfl, rfl, rfl, rfl, rfl, rfl, rfl⟩) ?_

    refine Reg.op rfl rfl rfl rfl (Does.call rfl (givesR_ok hM (vc' := [I 2, I 0, I i, .pointer Ap, nils, nilp, nilp]) rfl rfl)) ?_
    rintro _ H14_7 ⟨hM3, hbut14_7⟩
    have z14_7 := hbut14_7.lt
    first | replace hL := hL.via hbut14_7 (by first | omega | (intro g; omega) | (intro g hg; omega) | (intro g hg h; omega)) | skip
    replace hB := hB.via hbut14_7 (by first | omega | (intro g; omega) | (intro g hg; omega) | (intro g hg h; omega))
    replace o0_14 := o0_14.via hbut14_7 (by first | omega | (intro g; omega) | (intro g hg; omega) | (intro g hg h; omega))
    refine Reg.nil ?_
    refine At.ret rfl Try.func34 rfl ?_
    have h34 : k = 3 ∨ k = 4 := by omega
    rw [show begM k (el L i) fr i en = _ from ((if_neg q23).trans (if_neg q39)).trans ((if_neg q46).trans (if_pos h34))]
    exact AfterR.gv hM3 hL (by simp only [rqV]; exact ⟨_, rfl, hen⟩)
  first | (simp only [decide_eq_true_eq, decide_eq_false_iff_not, Bool.not_eq_true', Bool.not_eq_false', ne_eq, Decidable.not_not, Bool.not_eq_true, Bool.not_eq_false] at q53) | (dsimp only at q53) | skip
  refine At.region rfl rfl ?_
  refine Reg.pur rfl rfl rfl rfl (Pur.eql rfl rfl) ?_
  refine Reg.pur rfl rfl rfl rfl (Pur.asg rfl) ?_
  refine Reg.nil ?_
  refine At.joinc (σ := Unit) (fun _ => [(4, I (fkn k)), (3, .pointer Ap), (2, ptr H.size 0), (0, ptr m 0)]) (fun _ H' => H' = H0_15) rfl (fun hJ => ?_) (fun _ H7 hH => ?_)
  · refine At.cond rfl rfl (fun q64 => ?_) (fun q64 => ?_)
    · first | (simp only [decide_eq_true_eq, decide_eq_false_iff_not, Bool.not_eq_true', Bool.not_eq_false', ne_eq, Decidable.not_not, Bool.not_eq_true, Bool.not_eq_false] at q64) | (dsimp only at q64) | skip
      refine At.region rfl rfl ?_
      refine Reg.pur rfl rfl rfl rfl (Pur.asg rfl) ?_
      refine Reg.nil ?_
      exact At.meets rfl (hJ () _ rfl) ⟨(by show some (I _) = some (I (fkn k)); unfold fkn; congr 2; repeat' split; all_goals omega), rfl, rfl, rfl, trivial⟩
    first | (simp only [decide_eq_true_eq, decide_eq_false_iff_not, Bool.not_eq_true', Bool.not_eq_false', ne_eq, Decidable.not_not, Bool.not_eq_true, Bool.not_eq_false] at q64) | (dsimp only at q64) | skip
    refine At.region rfl rfl ?_
    refine Reg.pur rfl rfl rfl rfl (Pur.eql rfl rfl) ?_
    refine Reg.pur rfl rfl rfl rfl (Pur.asg rfl) ?_
    refine Reg.nil ?_
    refine At.cond rfl rfl (fun q66 => ?_) (fun q66 => ?_)
    · first | (simp only [decide_eq_true_eq, decide_eq_false_iff_not, Bool.not_eq_true', Bool.not_eq_false', ne_eq, Decidable.not_not, Bool.not_eq_true, Bool.not_eq_false] at q66) | (dsimp only at q66) | skip
      refine At.region rfl rfl ?_
      refine Reg.pur rfl rfl rfl rfl (Pur.asg rfl) ?_
      refine Reg.nil ?_
      exact At.meets rfl (hJ () _ rfl) ⟨(by show some (I _) = some (I (fkn k)); unfold fkn; congr 2; repeat' split; all_goals omega), rfl, rfl, rfl, trivial⟩
    first | (simp only [decide_eq_true_eq, decide_eq_false_iff_not, Bool.not_eq_true', Bool.not_eq_false', ne_eq, Decidable.not_not, Bool.not_eq_true, Bool.not_eq_false] at q66) | (dsimp only at q66) | skip
    refine At.region rfl rfl ?_
    refine Reg.pur rfl rfl rfl rfl (Pur.eql rfl rfl) ?_
    refine Reg.pur rfl rfl rfl rfl (Pur.asg rfl) ?_
    refine Reg.nil ?_
    refine At.cond rfl rfl (fun q68 => ?_) (fun q68 => ?_)
    · first | (simp only [decide_eq_true_eq, decide_eq_false_iff_not, Bool.not_eq_true', Bool.not_eq_false', ne_eq, Decidable.not_not, Bool.not_eq_true, Bool.not_eq_false] at q68) | (dsimp only at q68) | skip
      refine At.region rfl rfl ?_
      refine Reg.pur rfl rfl rfl rfl (Pur.asg rfl) ?_
      refine Reg.nil ?_
      exact At.meets rfl (hJ () _ rfl) ⟨(by show some (I _) = some (I (fkn k)); unfold fkn; congr 2; repeat' split; all_goals omega), rfl, rfl, rfl, trivial⟩
    first | (simp only [decide_eq_true_eq, decide_eq_false_iff_not, Bool.not_eq_true', Bool.not_eq_false', ne_eq, Decidable.not_not, Bool.not_eq_true, Bool.not_eq_false] at q68) | (dsimp only at q68) | skip
    refine At.region rfl rfl ?_
    refine Reg.pur rfl rfl rfl rfl (Pur.eql rfl rfl) ?_
    refine Reg.pur rfl rfl rfl rfl (Pur.asg rfl) ?_
    refine Reg.nil ?_
    refine At.cond rfl rfl (fun q70 => ?_) (fun q70 => ?_)
    · first | (simp only [decide_eq_true_eq, decide_eq_false_iff_not, Bool.not_eq_true', Bool.not_eq_false', ne_eq, Decidable.not_not, Bool.not_eq_true, Bool.not_eq_false] at q70) | (dsimp only at q70) | skip
      refine At.region rfl rfl ?_
      refine Reg.pur rfl rfl rfl rfl (Pur.asg rfl) ?_
      refine Reg.nil ?_
      exact At.meets rfl (hJ () _ rfl) ⟨(by show some (I _) = some (I (fkn k)); unfold fkn; congr 2; repeat' split; all_goals omega), rfl, rfl, rfl, trivial⟩
    first | (simp only [decide_eq_true_eq, decide_eq_false_iff_not, Bool.not_eq_true', Bool.not_eq_false', ne_eq, Decidable.not_not, Bool.not_eq_true, Bool.not_eq_false] at q70) | (dsimp only at q70) | skip
    refine At.region rfl rfl ?_
    refine Reg.pur rfl rfl rfl rfl (Pur.eql rfl rfl) ?_
    refine Reg.pur rfl rfl rfl rfl (Pur.asg rfl) ?_
    refine Reg.nil ?_
    refine At.cond rfl rfl (fun q72 => ?_) (fun q72 => ?_)
    · first | (simp only [decide_eq_true_eq, decide_eq_false_iff_not, Bool.not_eq_true', Bool.not_eq_false', ne_eq, Decidable.not_not, Bool.not_eq_true, Bool.not_eq_false] at q72) | (dsimp only at q72) | skip
      refine At.region rfl rfl ?_
      refine Reg.pur rfl rfl rfl rfl (Pur.asg rfl) ?_
      refine Reg.nil ?_
      exact At.meets rfl (hJ () _ rfl) ⟨(by show some (I _) = some (I (fkn k)); unfold fkn; congr 2; repeat' split; all_goals omega), rfl, rfl, rfl, trivial⟩
    first | (simp only [decide_eq_true_eq, decide_eq_false_iff_not, Bool.not_eq_true', Bool.not_eq_false', ne_eq, Decidable.not_not, Bool.not_eq_true, Bool.not_eq_false] at q72) | (dsimp only at q72) | skip
    refine At.region rfl rfl ?_
    refine Reg.pur rfl rfl rfl rfl (Pur.eql rfl rfl) ?_
    refine Reg.pur rfl rfl rfl rfl (Pur.asg rfl) ?_
    refine Reg.nil ?_
    refine At.cond rfl rfl (fun q74 => ?_) (fun q74 => ?_)
    · first | (simp only [decide_eq_true_eq, decide_eq_false_iff_not, Bool.not_eq_true', Bool.not_eq_false', ne_eq, Decidable.not_not, Bool.not_eq_true, Bool.not_eq_false] at q74) | (dsimp only at q74) | skip
      refine At.region rfl rfl ?_
      refine Reg.pur rfl rfl rfl rfl (Pur.asg rfl) ?_
      refine Reg.nil ?_
      exact At.meets rfl (hJ () _ rfl) ⟨(by show some (I _) = some (I (fkn k)); unfold fkn; congr 2; repeat' split; all_goals omega), rfl, rfl, rfl, trivial⟩
    first | (simp only [decide_eq_true_eq, decide_eq_false_iff_not, Bool.not_eq_true', Bool.not_eq_false', ne_eq, Decidable.not_not, Bool.not_eq_true, Bool.not_eq_false] at q74) | (dsimp only at q74) | skip
    refine At.region rfl rfl ?_
    refine Reg.pur rfl rfl rfl rfl (Pur.eql rfl rfl) ?_
    refine Reg.pur rfl rfl rfl rfl (Pur.asg rfl) ?_
    refine Reg.nil ?_
    refine At.cond rfl rfl (fun q76 => ?_) (fun q76 => ?_)
    · first | (simp only [decide_eq_true_eq, decide_eq_false_iff_not, Bool.not_eq_true', Bool.not_eq_false', ne_eq, Decidable.not_not, Bool.not_eq_true, Bool.not_eq_false] at q76) | (dsimp only at q76) | skip
      refine At.region rfl rfl ?_
      refine Reg.pur rfl rfl rfl rfl (Pur.asg rfl) ?_
      refine Reg.nil ?_
      exact At.meets rfl (hJ () _ rfl) ⟨(by show some (I _) = some (I (fkn k)); unfold fkn; congr 2; repeat' split; all_goals omega), rfl, rfl, rfl, trivial⟩
    first | (simp only [decide_eq_true_eq, decide_eq_false_iff_not, Bool.not_eq_true', Bool.not_eq_false', ne_eq, Decidable.not_not, Bool.not_eq_true, Bool.not_eq_false] at q76) | (dsimp only at q76) | skip
    exact At.meets rfl (hJ () _ rfl) ⟨(by show some (I _) = some (I (fkn k)); unfold fkn; congr 2; repeat' split; all_goals omega), rfl, rfl, rfl, trivial⟩
  subst H7

  refine At.region rfl rfl ?_
  refine Reg.pur rfl rfl rfl rfl (Pur.mv rfl) ?_
  refine Reg.pur rfl rfl rfl rfl (Pur.mv rfl) ?_
  refine Reg.pur rfl rfl rfl rfl (Pur.mv rfl) ?_
  refine Reg.pur rfl rfl rfl rfl (Pur.nilc rfl) ?_
  refine Reg.pur rfl rfl rfl rfl (Pur.fld _ fo60_3 rfl) ?_
  refine Reg.lod rfl rfl rfl rfl (Lod.ld sc3 rfl hmo.blk rfl) ?_
  refine Reg.pur rfl rfl rfl rfl (Pur.mv rfl) ?_
  refine Reg.pur rfl rfl rfl rfl (Pur.bld (cs := [_, _, _, _, _, _, _]) pl58 zc58 rfl rfl ⟨rfl, rfl, rfl, rfl, rfl, rfl, rfl, rfl⟩) ?_

  refine Reg.op rfl rfl rfl rfl (Does.call rfl (pushR_ok hM (rqF_node (fk_zero.trans (by rw [hkk])) hen hn0 hn1) (by omega))) ?_
  rintro _ H29_8 ⟨A1, cap1, hM1, hbut29_8, hA1⟩
  have z29_8 := hbut29_8.lt
  first | replace hL := hL.via hbut29_8 (by first | omega | (intro g; omega) | (intro g hg; omega) | (intro g hg h; omega)) | skip
  replace hB := hB.via hbut29_8 (by first | omega | (intro g; omega) | (intro g hg; omega) | (intro g hg h; omega))
  replace o0_14 := o0_14.via hbut29_8 (by first | omega | (intro g; omega) | (intro g hg; omega) | (intro g hg h; omega))
  refine Reg.nil ?_
  have zM1 := hM1.lt
  refine At.region rfl rfl ?_
  refine Reg.pur rfl rfl rfl rfl (Pur.mv rfl) ?_
  refine Reg.pur rfl rfl rfl rfl (Pur.fld _ fo37_1 rfl) ?_
  refine Reg.lod rfl rfl rfl rfl (Lod.ld sc3 rfl o0_14.blk (hat 1 (by decide))) ?_
  refine Reg.pur rfl rfl rfl rfl (Pur.mv rfl) ?_
  refine Reg.op rfl rfl rfl rfl (Does.call rfl (goesR_ok hM1 _ _ rfl)) ?_
  rintro _ H30_4 ⟨hM2, hbut30_4⟩
  have z30_4 := hbut30_4.lt
  first | replace hL := hL.via hbut30_4 (by first | omega | (intro g; omega) | (intro g hg; omega) | (intro g hg h; omega)) | skip
  replace hB := hB.via hbut30_4 (by first | omega | (intro g; omega) | (intro g hg; omega) | (intro g hg h; omega))
  replace o0_14 := o0_14.via hbut30_4 (by first | omega | (intro g; omega) | (intro g hg; omega) | (intro g hg h; omega))
  refine Reg.nil ?_
  refine At.fall rfl Try.func34 rfl ?_
  have h34 : ¬ (k = 3 ∨ k = 4) := by omega
  rw [show begM k (el L i) fr i en = _ from ((if_neg q23).trans (if_neg q39)).trans ((if_neg q46).trans (if_neg h34))]
  exact AfterR.ev hM2 hL hen
def StaR (L : List (List Int)) (N : Value) (m B : Nat) (H : Heap) : St → Prop
  | .ev fr node en => ∃ G A cap p vc o1 o2, Qs L N m B G H.size H fr A cap true node p vc false o1 o2 ∧ rqE G en p
  | .gv fr v => ∃ G A cap nd pe vc o1 o2, Qs L N m B G H.size H fr A cap false nd pe vc false o1 o2 ∧ rqV G v vc
theorem Qs.pop {H H' : Heap} {f : Fr} (h : Qs L N m B G s H (f :: fr) A cap ev nd' pe vc dn o1 o2) (u : Upd H H' m (mc N fr.length A cap ev nd' pe vc dn o1 o2)) : Qs L N m B G s H' fr A cap ev nd' pe vc dn o1 o2 := by
  have z := h.lt
  obtain ⟨xs, hg, xs', c, rfl, hf, hr⟩ := h.arr
  obtain ⟨An, capn, rfl, hN, hl⟩ := h.ns
  have hx := rqS_len hr
  have hc := rqF_ten hf
  exact ⟨u.own, h.v7, ⟨xs', (gs_pop hg hx hc).upw u (by omega), hr⟩, h.fz.upw u (.inl rfl), h.lm, h.la, h.ne, h.bm, h.len, An, capn, rfl, hN.upw u (by omega), hl⟩
theorem stepR_ok {H : Heap} (hT : Tm L) {st : St} (hS : StaR L N m B H st) (hok : st.ok L) (hgo : st.goes = true) (hl : st.frs.length ≤ 4096) :
    Ret Try.prog 21 [ptr m 0] H (fun _ H' => Lo B H H' ∧ ∃ a H0, AfterR L N m B a H0 (stepM L st) H') := by
  match st, hS, hok, hgo, hl with
  | .ev fr node en, ⟨G, A, cap, p, vc, o1, o2, hM, hen⟩, ⟨hok1, hok2, hok3⟩, _, hl =>
    have zM := hM.lt
    have hbg := beginR_ok hT hM hok2.1 hok2.2 hen hl
    refine Ret.of_at (N := 35) Try.call21 Try.func21 rfl rfl rfl ?_
    have hE := Ext.refl H
    refine At.region rfl rfl ?_
    refine Reg.pur rfl rfl rfl rfl (Pur.mv rfl) ?_
    refine Reg.pur rfl rfl rfl rfl (Pur.nilc rfl) ?_
    refine Reg.pur rfl rfl rfl rfl (Pur.fld _ fo60_2 rfl) ?_
    refine Reg.lod rfl rfl rfl rfl (Lod.ld sc4 rfl hM.own.blk rfl) ?_
    refine Reg.nil ?_
    refine At.condT rfl rfl rfl ?_
    refine At.region rfl rfl ?_
    refine Reg.pur rfl rfl rfl rfl (Pur.mv rfl) ?_

    refine Reg.op rfl rfl rfl rfl (Does.call rfl (hbg)) ?_
    rintro _ H1_1 ⟨hbut1_1, hAf⟩
    have z1_1 := hbut1_1.lt
    refine Reg.nil ?_
    refine At.ret rfl Try.func21 rfl ?_
    exact ⟨⟨hbut1_1.mono fun b _ hb => (by omega)⟩, _, _, hbut1_1, hAf⟩
  | .gv (f :: fr) v, ⟨G, A, cap, nd', pe, vc, o1, o2, hM, hv⟩, ⟨hok1, hok2⟩, _, hl =>
    have zM := hM.lt
    have hfok := hok1 _ List.mem_cons_self
    obtain ⟨xs, hg, xs', c, rfl, hf, hr⟩ := hM.arr
    have hx := rqS_len hr
    have hc10 := rqF_ten hf
    have hf10 := rqF_ones hf
    obtain ⟨ga, cs, rfl, hoa, hct, hca⟩ := gs_top hg hx hc10
    obtain ⟨nd1, p, hc', rfl, h7, hone, hn0, hn1, hnn, hen, hhd⟩ := hf
    obtain ⟨c0, c1, c2, c3, c4, c5, c6, rfl⟩ := sevn h7
    obtain ⟨Ap, rfl⟩ := rqE_one hen
    simp only [St.frs, List.length_cons] at hl
    have zga : ga ≠ m ∧ ga < H.size := by rw [ob_some] at zM; omega
    rw [ob_some] at zM
    refine Ret.of_at (N := 35) Try.call21 Try.func21 rfl rfl rfl ?_
    have hE := Ext.refl H
    have hLo := Lo.refl B H
    have hob : ob (some ⟨ga, 0, none⟩ : Option Addr) = ga := ob_some _ _
    have z_hLo := hLo.lt
    have z_hM := hM.lt
    have z_hoa := hoa.lt
    refine At.region rfl rfl ?_
    refine Reg.pur rfl rfl rfl rfl (Pur.mv rfl) ?_
    refine Reg.pur rfl rfl rfl rfl (Pur.nilc rfl) ?_
    refine Reg.pur rfl rfl rfl rfl (Pur.fld _ fo60_2 rfl) ?_
    refine Reg.lod rfl rfl rfl rfl (Lod.ld sc4 rfl hM.own.blk rfl) ?_
    refine Reg.nil ?_
    refine At.condF rfl rfl rfl ?_
    refine At.region rfl rfl ?_
    refine Reg.pur rfl rfl rfl rfl (Pur.mv rfl) ?_
    refine Reg.pur rfl rfl rfl rfl (Pur.nilc rfl) ?_
    refine Reg.pur rfl rfl rfl rfl (Pur.fld _ fo60_1 rfl) ?_
    refine Reg.lod rfl rfl rfl rfl (Lod.ld sc54 rfl hM.own.blk rfl) ?_
    refine Reg.pur rfl rfl rfl rfl (Pur.lenS isl54 rfl) ?_
    refine Reg.pur rfl rfl rfl rfl (Pur.sub64 rfl rfl (by simp only [List.length_cons]; omega)) ?_
    refine Reg.pur rfl rfl rfl rfl (Pur.asg rfl) ?_
    refine Reg.nil ?_
    refine At.region rfl rfl ?_
    refine Reg.pur rfl rfl rfl rfl (Pur.mv rfl) ?_
    refine Reg.pur rfl rfl rfl rfl (Pur.nilc rfl) ?_
    refine Reg.pur rfl rfl rfl rfl (Pur.fld _ fo60_1 rfl) ?_
    refine Reg.lod rfl rfl rfl rfl (Lod.ld sc54 rfl hM.own.blk rfl) ?_
    refine Reg.pur rfl rfl rfl rfl (Pur.mv rfl) ?_
    refine Reg.pur rfl rfl rfl rfl (Pur.idx _ es54 rfl rfl (by simp only [List.length_cons]; omega) (by simp only [List.length_cons]; omega)) ?_
    refine Reg.lod rfl rfl rfl rfl (Lod.ldn ag76 rfl hoa.blk (Eq.trans (congrArg (fun z : Nat ↦ List.take 10 (List.drop z cs)) (show 0 + ((((f :: fr : List Fr).length : Nat) : Int) - 1).toNat * 10 = fr.length * 10 by simp only [List.length_cons]; omega)) hct) rfl) ?_
    refine Reg.op rfl rfl rfl rfl (Does.alloc zc76) ?_
    rintro _ H3_7 ⟨rfl, hn3_7⟩
    have z3_7 := hn3_7.size
    first | replace hLo := hLo.ext hn3_7.ext | skip
    replace hM := hM.ext hn3_7.ext
    replace hoa := hoa.ext hn3_7.ext
    have o3_7 := hn3_7.own
    refine Reg.op0 rfl rfl rfl (Does.stn ag76 rfl rfl hf10 rfl o3_7 (by decide)) ?_
    rintro _ H3_8 hu3_8
    have z3_8 := hu3_8.size
    first | replace hLo := hLo.upw hu3_8 (by omega) | skip
    replace hM := hM.upw hu3_8 (by omega)
    replace hoa := hoa.upw hu3_8 (by omega)
    replace o3_7 := hu3_8.own
    first | rw [over (by first | rfl | (simp; done))] at o3_7 | skip
    refine Reg.nil ?_
    refine At.region rfl rfl ?_
    refine Reg.pur rfl rfl rfl rfl (Pur.mv rfl) ?_
    refine Reg.pur rfl rfl rfl rfl (Pur.mv rfl) ?_
    refine Reg.pur rfl rfl rfl rfl (Pur.nilc rfl) ?_
    refine Reg.pur rfl rfl rfl rfl (Pur.fld _ fo60_1 rfl) ?_
    refine Reg.lod rfl rfl rfl rfl (Lod.ld sc54 rfl hM.own.blk rfl) ?_
    refine Reg.pur rfl rfl rfl rfl (Pur.mv rfl) ?_
    refine Reg.pur rfl rfl rfl rfl (Pur.cutH es54 rfl rfl (by simp only [List.length_cons]; omega) (by simp only [List.length_cons]; omega)) ?_
    refine Reg.pur rfl rfl rfl rfl (Pur.nilc rfl) ?_
    refine Reg.pur rfl rfl rfl rfl (Pur.fld _ fo60_1 rfl) ?_
    have hMo := hM.own

    refine Reg.op0 rfl rfl rfl (Does.st sc54 rfl rfl rfl hMo (by simp)) ?_
    rintro _ H4_9 hu4_9
    have z4_9 := hu4_9.size
    first | replace hLo := hLo.upw hu4_9 (by omega) | skip
    replace hoa := hoa.upw hu4_9 (by omega)
    replace o3_7 := o3_7.upw hu4_9 (by omega)
    replace hMo := hu4_9.own
    refine Reg.nil ?_
    rw [show ((((f :: fr : List Fr).length : Nat) : Int) - 1).toNat = fr.length by simp only [List.length_cons]; omega] at hu4_9
    have hMp := hM.pop hu4_9
    have zMp := hMp.lt
    rw [ob_some] at zMp
    refine At.region rfl rfl ?_
    refine Reg.pur rfl rfl rfl rfl (Pur.mv rfl) ?_
    refine Reg.lod rfl rfl rfl rfl (Lod.ldn ag76 rfl o3_7.blk (whole rfl) rfl) ?_
    have hcl := backR_ok hT hMp hfok ⟨hn0, hn1, hnn, hen, hhd, rfl, hone⟩ hv hok2 (by omega)

    refine Reg.op rfl rfl rfl rfl (Does.call rfl (hcl)) ?_
    rintro _ H5_2 ⟨hbut5_2, hAf⟩
    have z5_2 := hbut5_2.lt
    first | replace hLo := hLo.via hbut5_2 (by first | omega | (intro g; omega) | (intro g hg; omega) | (intro g hg h; omega)) | skip
    refine Reg.nil ?_
    refine At.fall rfl Try.func21 rfl ?_
    exact ⟨hLo, _, _, hbut5_2, hAf⟩
end Go.Proofs.Ytjhkmebmbopfoaa
